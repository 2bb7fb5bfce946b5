import PyProof.Rows.All
import Wide.All
import OpenK.AllK
import Wide.FinOn
import HandS.ForMost
import HandS.ForExc
import HandS.Codes
import HandS.Conv
import HandS.Deep
import HandS.DictComp
import HandS.FStr
import HandS.Flow
import HandS.NoneIn
import HandS.Rev
import HandS.StrMore
import HandS.TupAny
import HandS.WrittenGet
import HandS.Defaults
import HandS.Small
import HandS.CallRecv
import HandS.HeadEnd
import HandS.HeadHook4
import HandS.Head2
import PySem.Challenge.RW_restruct_k53_scopes
import HandS.ClsMeth
import KE.GoesEnum
import KE.GoesMore
import HandS.HeadWalk
import KE.DataMinMax
import HandS.IterVal
import HandS.OwnIter
import KE.KOwnIter
import HandS.WordsExc
import HandS.TryOnly
import HandS.Steps
set_option Elab.async false
section
set_option linter.all false
set_option maxRecDepth 100000
/-! The base: the text by places, data on the heap, what the top has written. -/
namespace K5
open PySem PySem.Spec PyProof.Rows L2
/-! ### the text by places -/
def top (i : Nat) : Stmt := PySem.Challenge.pw_restruct_k53_scopes.main.body.getD i (.Pass ⟨0, 0, 0, 0⟩)
abbrev mth (i j : Nat) : Stmt := inClass (top i) j
/-! ### data: what stands on the heap as tuples, texts, ints -/
inductive D where
  | non | int (i : Int) | str (x : Str) | tup (ds : List D)
mutual
def Rep (H : Hp) : D → V → Prop
  | .non, v => v = .non
  | .int i, v => v = .int i
  | .str x, v => v = .str x
  | .tup ds, v => ∃ a xs, v = .ref a ∧ H a = some (.tup xs) ∧ Reps H ds xs
def Reps (H : Hp) : List D → List V → Prop
  | [], xs => xs = []
  | d :: ds, xs => ∃ x r, xs = x :: r ∧ Rep H d x ∧ Reps H ds r
end
/-- the tuples stay -/
def TE_ (H H' : Hp) : Prop := ∀ a xs, H a = some (.tup xs) → H' a = some (.tup xs)
theorem TE_.of {H H' : Hp} (s : Same H H') : TE_ H H' := fun a xs h => s a _ h
mutual
theorem Rep.mono {H H' : Hp} (t : TE_ H H') : ∀ {d : D} {v : V}, Rep H d v → Rep H' d v
  | .non, _, h => h
  | .int _, _, h => h
  | .str _, _, h => h
  | .tup ds, v, h => by
    unfold Rep at h ⊢
    obtain ⟨a, xs, e, ha, hr⟩ := h
    exact ⟨a, xs, e, t a xs ha, Reps.mono t hr⟩
theorem Reps.mono {H H' : Hp} (t : TE_ H H') : ∀ {ds : List D} {xs : List V}, Reps H ds xs → Reps H' ds xs
  | [], _, h => h
  | d :: ds, xs, h => by
    unfold Reps at h ⊢
    obtain ⟨x, r, e, h1, h2⟩ := h
    exact ⟨x, r, e, Rep.mono t h1, Reps.mono t h2⟩
end
theorem Rep.s {H H' : Hp} (t : Same H H') {d : D} {v : V} (h : Rep H d v) : Rep H' d v := h.mono (.of t)
theorem Reps.s {H H' : Hp} (t : Same H H') {ds : List D} {v : List V} (h : Reps H ds v) : Reps H' ds v := h.mono (.of t)
section
variable {H H' H0 : Hp} {d : D} {ds es : List D} {v : V} {xs ys : List V} {x : Str} {i : Int} {p l : Addr} {o : HO}
theorem rep_str (h : Rep H (.str x) v) : v = .str x := h
theorem rep_int (h : Rep H (.int i) v) : v = .int i := h
theorem rep_non (h : Rep H .non v) : v = .non := h
theorem rep_tup (h : Rep H (.tup ds) v) : ∃ a xs, v = .ref a ∧ H a = some (.tup xs) ∧ Reps H ds xs := by unfold Rep at h; exact h
theorem tup_rep (h : H p = some (.tup xs)) (r : Reps H ds xs) : Rep H (.tup ds) (.ref p) := by unfold Rep; exact ⟨p, xs, rfl, h, r⟩
theorem str_rep : Rep H (.str x) (.str x) := rfl
theorem int_rep : Rep H (.int i) (.int i) := rfl
theorem non_rep : Rep H .non .non := rfl
theorem reps_nil : Reps H [] [] := rfl
theorem reps_cons (h : Rep H d v) (r : Reps H ds xs) : Reps H (d :: ds) (v :: xs) := by unfold Reps; exact ⟨v, xs, rfl, h, r⟩
theorem nil_reps (h : Reps H [] xs) : xs = [] := h
theorem cons_reps (h : Reps H (d :: ds) xs) : ∃ x r, xs = x :: r ∧ Rep H d x ∧ Reps H ds r := by unfold Reps at h; exact h
theorem Reps.len : ∀ {ds : List D} {xs : List V}, Reps H ds xs → xs.length = ds.length
  | [], _, h => by rw [nil_reps h]; rfl
  | d :: ds, _, h => by
    obtain ⟨x, r, rfl, _, h2⟩ := cons_reps h
    simp [h2.len]
theorem Reps.get : ∀ {ds : List D} {xs : List V} {i : Nat} {d : D}, Reps H ds xs → ds[i]? = some d → ∃ x, xs[i]? = some x ∧ Rep H d x
  | [], _, _, _, _, e => by simp at e
  | d :: ds, _, 0, _, h, e => by
    obtain ⟨x, r, rfl, h1, h2⟩ := cons_reps h
    simp at e; subst e
    exact ⟨x, rfl, h1⟩
  | d :: ds, _, i + 1, _, h, e => by
    obtain ⟨x, r, rfl, h1, h2⟩ := cons_reps h
    simpa using h2.get (i := i) (by simpa using e)
theorem Reps.got : ∀ {ds : List D} {xs : List V} {i : Nat} {x : V}, Reps H ds xs → xs[i]? = some x → ∃ d, ds[i]? = some d ∧ Rep H d x
  | [], _, _, _, h, e => by rw [nil_reps h] at e; simp at e
  | d :: ds, _, 0, _, h, e => by
    obtain ⟨x, r, rfl, h1, h2⟩ := cons_reps h
    simp at e; subst e
    exact ⟨d, rfl, h1⟩
  | d :: ds, _, i + 1, _, h, e => by
    obtain ⟨x, r, rfl, h1, h2⟩ := cons_reps h
    simpa using h2.got (i := i) (by simpa using e)
theorem Reps.append : ∀ {ds : List D} {xs : List V}, Reps H ds xs → Reps H es ys → Reps H (ds ++ es) (xs ++ ys)
  | [], _, h, h' => by rw [nil_reps h]; exact h'
  | d :: ds, _, h, h' => by
    obtain ⟨x, r, rfl, h1, h2⟩ := cons_reps h
    exact reps_cons h1 (h2.append h')
theorem Reps.drop : ∀ {ds : List D} {xs : List V} (n : Nat), Reps H ds xs → Reps H (ds.drop n) (xs.drop n)
  | _, _, 0, h => h
  | [], _, n + 1, h => by rw [nil_reps h]; exact reps_nil
  | d :: ds, _, n + 1, h => by
    obtain ⟨x, r, rfl, h1, h2⟩ := cons_reps h
    exact h2.drop n
theorem Reps.take : ∀ {ds : List D} {xs : List V} (n : Nat), Reps H ds xs → Reps H (ds.take n) (xs.take n)
  | _, _, 0, h => reps_nil
  | [], _, n + 1, h => by rw [nil_reps h]; exact reps_nil
  | d :: ds, _, n + 1, h => by
    obtain ⟨x, r, rfl, h1, h2⟩ := cons_reps h
    exact reps_cons h1 (h2.take n)
/-! ### heaps -/
theorem Same.newo (h : H p = none) (o : HO) : Same H (upd H p o) := fun b u q => by rw [upd_ne (ne_of_none q h)]; exact q
/-- an object that H0 does not have may change -/
theorem Same.mut (s : Same H0 H) (h : H0 l = none) (o : HO) : Same H0 (upd H l o) := fun b u q => by rw [upd_ne (ne_of_none q h)]; exact s b u q
theorem Same.get (s : Same H H') (h : H l = some o) : H' l = some o := s l o h
theorem up_new {u : HO} (h : H l = some u) (hp : H p = none) (o : HO) : upd H p o l = some u := by rw [upd_ne (ne_of_none h hp)]; exact h
theorem up_ne {u : Option HO} (h : H l = u) (hn : l ≠ p) (o : HO) : upd H p o l = u := by rw [upd_ne hn]; exact h
/-- all but what stands at p stays -/
def But (p : Addr) (H H' : Hp) : Prop := ∀ b o, b ≠ p → H b = some o → H' b = some o
theorem But.refl (p : Addr) (H : Hp) : But p H H := fun _ _ _ h => h
theorem But.trans {H1 : Hp} (a : But p H H1) (b : But p H1 H') : But p H H' := fun c o n h => b c o n (a c o n h)
theorem But.of (s : Same H H') : But p H H' := fun b o _ h => s b o h
theorem But.te (b : But p H H') (hp : ∀ xs, H p ≠ some (.tup xs)) : TE_ H H' := fun a xs h => b a _ (fun e => hp xs (by rw [← e]; exact h)) h
theorem But.same (b : But p H H') (hp : H p = none) : Same H H' := fun c o h => b c o (ne_of_none h hp) h
end
theorem sz {n : Nat} (h : n ≤ 100000) : n ≤ sizeLine := Nat.le_trans h (by decide)
theorem szl {n : Nat} (h : n < 100000) : n < sizeLine := Nat.lt_of_lt_of_le h (by decide)
/-! ### what the top has written -/
/-- the defs of the module: place, name -/
def gdefs0 : List (Nat × Str) := [(8, "finished_order"), (9, "order_of"), (10, "reached_without"), (11, "strict_dominators"), (12, "edges_of"), (13, "retreating_edges"), (14, "bad_edge"), (15, "is_reducible"), (23, "run_end"), (24, "number_of"), (25, "word_end"), (26, "signs_of")]
def gdefs1 : List (Nat × Str) := [(27, "is_name"), (28, "is_label"), (30, "is_blank"), (35, "joined"), (36, "read_primary"), (37, "read_product"), (38, "read_sum"), (39, "read_comparison"), (40, "read_expression"), (41, "text_at"), (42, "expression_text"), (45, "read_deed")]
def gdefs2 : List (Nat × Str) := [(46, "read_node"), (47, "parse_node"), (48, "parse_entry"), (49, "parse_jumps"), (50, "first_double"), (51, "check_targets"), (52, "normalized"), (53, "check_doubles"), (54, "deed_text"), (55, "node_text"), (56, "jumps_text"), (59, "labels_within")]
def gdefs3 : List (Nat × Str) := [(64, "inner_bodies"), (65, "around"), (66, "scopes_of"), (77, "has_jumps"), (78, "parse_source"), (81, "breaks_to"), (83, "structured"), (85, "_law_cell"), (86, "_law_draws"), (87, "_law_expression"), (88, "_law_expression_text"), (89, "_law_node")]
def gdefs4 : List (Nat × Str) := [(90, "_law_program"), (91, "_law_node_text"), (92, "_law_text"), (93, "_law_scopes"), (94, "law")]
def gdefs : List (Nat × Str) := gdefs0 ++ (gdefs1 ++ (gdefs2 ++ (gdefs3 ++ (gdefs4))))
/-- the methods: class's place, method's place, class, method, qualified name -/
def mdefs0 : List (Nat × Nat × Str × Str × Str) := [(29, 0, "Reader", "__init__", "Reader.__init__"), (29, 1, "Reader", "peek", "Reader.peek"), (29, 2, "Reader", "take", "Reader.take"), (29, 3, "Reader", "skip", "Reader.skip"), (29, 4, "Reader", "expect", "Reader.expect"), (29, 5, "Reader", "take_name", "Reader.take_name"), (29, 6, "Reader", "take_label", "Reader.take_label"), (29, 7, "Reader", "take_target", "Reader.take_target"), (29, 8, "Reader", "finish", "Reader.finish"), (79, 4, "Program", "__init__", "Program.__init__")]
def mdefs1 : List (Nat × Nat × Str × Str × Str) := [(79, 7, "Program", "__iter__", "Program.__iter__"), (79, 9, "Program", "node", "Program.node"), (79, 10, "Program", "graph", "Program.graph"), (82, 0, "Structure", "__init__", "Structure.__init__"), (82, 1, "Structure", "forward_count", "Structure.forward_count"), (82, 2, "Structure", "code", "Structure.code"), (82, 3, "Structure", "inner_code", "Structure.inner_code"), (82, 4, "Structure", "own_code", "Structure.own_code"), (82, 5, "Structure", "edge_code", "Structure.edge_code")]
def mdefs : List (Nat × Nat × Str × Str × Str) := mdefs0 ++ (mdefs1)
def clss : List Str := ["Reader", "Program", "Structure"]
def noats : List (Str × Str) := [("Reader", "signs"), ("Reader", "place"), ("Program", "entry"), ("Program", "nodes"), ("Program", "text"), ("Program", "by_label"), ("Program", "labels"), ("Structure", "program"), ("Structure", "retreating"), ("Structure", "headers"), ("Structure", "merging"), ("Structure", "merges")]
def frees : List Str := ["len", "range", "int", "str", "tuple", "list", "reversed", "enumerate", "max", "iter"]
def cints : List (Str × Int) := [("MOST_LETTERS", 8), ("MOST_NUMBER", 1000000), ("MOST_HEIGHT", 20), ("MOST_OPEN", 20), ("MOST_NODES", 20)]
def cstrs : List (Str × Str) := [("EXIT", "exit"), ("LETTERS", "abcdefghijklmnopqrstuvwxyz"), ("DIGITS", "0123456789"), ("SYMBOLS", "(){}:=+-*<")]
def kwords : List Str := ["entry", "goto", "else", "if", "print", "block", "loop", "break", "continue", "exit"]
def levels : List (Str × Int) := [("=", 0), ("<", 0), ("+", 1), ("-", 1), ("*", 2)]
open He in
structure Tx (w : World) (K : PySem.W.Frag) (mg : Str → Option Value) : Prop where
  gdef : ∀ q ∈ gdefs, mg q.2 = some (.ref (ga K q.2)) ∧ ∃ fd, FunD K q.2 q.2 (defArgs (top q.1)) (defBody (top q.1)) (defScope (top q.1)) [] [] (ga K q.2) fd
  mdef : ∀ q ∈ mdefs, Meth K (ga K q.2.2.1) q.2.2.2.1 (ma K (ga K q.2.2.1) q.2.2.2.1) ∧ ∃ fd, FunD K q.2.2.2.1 q.2.2.2.2 (defArgs (mth q.1 q.2.1)) (defBody (mth q.1 q.2.1)) (defScope (mth q.1 q.2.1)) [] [] (ma K (ga K q.2.2.1) q.2.2.2.1) fd
  cls : ∀ x ∈ clss, mg x = some (.ref (ga K x)) ∧ Cls K (ga K x) ∧ Mk K (ga K x) (ma K (ga K x) "__init__")
  noat : ∀ q ∈ noats, NoAttr K (ga K q.1) q.2
  free : ∀ x ∈ frees, mg x = none
  cint : ∀ q ∈ cints, ∃ t, mg q.1 = some (.int q.2 t)
  cstr : ∀ q ∈ cstrs, ∃ t, mg q.1 = some (.str q.2 t)
  kw : mg "KEYWORDS" = some (.ref (ga K "KEYWORDS")) ∧ ∀ H, SqT K H (ga K "KEYWORDS") (kwords.map V.str)
  lv : mg "LEVELS" = some (.ref (ga K "LEVELS")) ∧ ∀ q ∈ levels, KDct K w (ga K "LEVELS") q.1 (.int q.2)
section
variable {P : Program} {w : World} {K : PySem.W.Frag} {mg : Str → Option Value} {base : Heap}
/-- a def of the module keeps its promise -/
theorem cal {i : Nat} {x : Str} {N ps : List Str} {k : Nat} {sp : Sp} (T : Tx w K mg) (hm : (i, x) ∈ gdefs) (S : FnScope N ps (defScope (top i))) (len : ∀ vs H Q E, sp vs H Q E → vs.length = ps.length)
    (hb : ∀ (kV doc pm : Value) (an : Option Addr) (cdv ct : Value) (us : List Value), us.length = ps.length → bindArgs (PySem.W.fnOf x x (defArgs (top i)) (defBody (top i)) (defScope (top i)) .none kV doc pm an cdv ct) ⟨us, []⟩ = pure (ps.zip us))
    (hbody : ∀ (cdv : Value) (A : Around) (outer : List Env) (s : Shared) (H : Hp) (vs : List V) (Q : VK) (E : XK), Room k (A.deeper (envOfC x (defScope (top i)) s.heap.objs.size (He.ga K x) cdv)) → sp vs H Q E →
      ∃ t, PSs (cxOf CX0 P w K mg base N x (defScope (top i)) (He.ga K x) cdv A outer s H E).nox (defBody (top i)) t ∧ t { nx := fun _ H' => Q .non H', rt := Q } (start N vs) H) : C8.Cal P w K mg base (k + 1) x sp [] := by
  obtain ⟨g, fd, F⟩ := T.gdef _ hm
  refine ⟨He.ga K x, fd, ps, [], F.ok S len (fun cdv A outer s H vs Q E hr h => ?_), g, F.kp, F.bindsN hb, .nil⟩
  obtain ⟨t, h1, h2⟩ := hbody cdv A outer s H vs Q E hr h
  exact ⟨t, h1.nox, h2⟩
theorem met {i j : Nat} {C x q : Str} {N ps : List Str} {k : Nat} {sp : Sp} (T : Tx w K mg) (hm : (i, j, C, x, q) ∈ mdefs) (hc : C ∈ clss) (S : FnScope N ps (defScope (mth i j))) (len : ∀ vs H Q E, sp vs H Q E → vs.length = ps.length)
    (hb : ∀ (kV doc pm : Value) (an : Option Addr) (cdv ct : Value) (us : List Value), us.length = ps.length → bindArgs (PySem.W.fnOf x q (defArgs (mth i j)) (defBody (mth i j)) (defScope (mth i j)) .none kV doc pm an cdv ct) ⟨us, []⟩ = pure (ps.zip us))
    (hbody : ∀ (cdv : Value) (A : Around) (outer : List Env) (s : Shared) (H : Hp) (vs : List V) (Q : VK) (E : XK), Room k (A.deeper (envOfC q (defScope (mth i j)) s.heap.objs.size (He.ma K (He.ga K C) x) cdv)) → sp vs H Q E →
      ∃ t, PSs (cxOf CX0 P w K mg base N q (defScope (mth i j)) (He.ma K (He.ga K C) x) cdv A outer s H E).nox (defBody (mth i j)) t ∧ t { nx := fun _ H' => Q .non H', rt := Q } (start N vs) H) : C8.Met P w K mg base (k + 1) (He.ga K C) x sp [] := by
  obtain ⟨g, fd, F⟩ := T.mdef _ hm
  refine ⟨He.ma K (He.ga K C) x, fd, ps, [], (T.cls C hc).2.1, g, F.ok S len (fun cdv A outer s H vs Q E hr h => ?_), F.bindsN hb, .nil⟩
  obtain ⟨t, h1, h2⟩ := hbody cdv A outer s H vs Q E hr h
  exact ⟨t, h1.nox, h2⟩
theorem mak {i j : Nat} {C q : Str} {N ps : List Str} {k : Nat} {sp : Sp} (T : Tx w K mg) (hm : (i, j, C, ("__init__" : Str), q) ∈ mdefs) (hc : C ∈ clss) (S : FnScope N ps (defScope (mth i j))) (len : ∀ vs H Q E, sp vs H Q E → vs.length = ps.length)
    (hb : ∀ (kV doc pm : Value) (an : Option Addr) (cdv ct : Value) (us : List Value), us.length = ps.length → bindArgs (PySem.W.fnOf "__init__" q (defArgs (mth i j)) (defBody (mth i j)) (defScope (mth i j)) .none kV doc pm an cdv ct) ⟨us, []⟩ = pure (ps.zip us))
    (hbody : ∀ (cdv : Value) (A : Around) (outer : List Env) (s : Shared) (H : Hp) (vs : List V) (Q : VK) (E : XK), Room k (A.deeper (envOfC q (defScope (mth i j)) s.heap.objs.size (He.ma K (He.ga K C) "__init__") cdv)) → sp vs H Q E →
      ∃ t, PSs (cxOf CX0 P w K mg base N q (defScope (mth i j)) (He.ma K (He.ga K C) "__init__") cdv A outer s H E).nox (defBody (mth i j)) t ∧ t { nx := fun _ H' => Q .non H', rt := Q } (start N vs) H) : C8.Mak P w K mg base (k + 1) C (He.ga K C) sp [] := by
  obtain ⟨g, fd, F⟩ := T.mdef _ hm
  refine ⟨He.ma K (He.ga K C) "__init__", fd, ps, [], (T.cls C hc).2.2, F.ok S len (fun cdv A outer s H vs Q E hr h => ?_), (T.cls C hc).1, F.bindsN hb, .nil⟩
  obtain ⟨t, h1, h2⟩ := hbody cdv A outer s H vs Q E hr h
  exact ⟨t, h1.nox, h2⟩
end
end K5
end

section
set_option linter.all false
set_option maxRecDepth 100000
/-! The head: what is looked at. -/
namespace K5
open PySem PySem.Spec PyProof.Rows L2
def AS0 : List Addr := [3, 23, 24, 25, 90, 91, 99, 100, 106, 107, 113, 114, 118, 119, 123, 124, 128, 129, 135, 136, 142, 143, 144, 150, 151, 157, 158, 164, 165, 171, 172, 178, 179, 185, 186, 199, 200, 206, 207, 213]
def AS1 : List Addr := [214, 220, 221, 227, 228, 234, 235, 241, 242, 248, 249, 255, 256, 258, 259, 260, 261, 269, 270, 271, 277, 278, 284, 285, 291, 292, 298, 299, 305, 306, 312, 313, 319, 320, 326, 327, 333, 334, 340, 341]
def AS2 : List Addr := [347, 348, 354, 355, 361, 362, 368, 369, 373, 374, 378, 379, 383, 384, 390, 391, 397, 398, 402, 403, 479, 480, 503, 504, 510, 511, 515, 516, 590, 591, 597, 598, 609, 610, 630, 631, 644, 645, 649, 650]
def AS3 : List Addr := [656, 657, 659, 662, 663, 664, 665, 673, 674, 685, 686, 692, 693, 699, 700, 706, 707, 713, 714, 720, 721, 723, 724, 725, 726, 734, 735, 741, 742, 748, 749, 755, 756, 762, 763, 769, 770, 774, 775, 781]
def AS4 : List Addr := [782, 786, 787, 793, 794, 800, 801]
def AS : List Addr := cStatics :: AS0 ++ (AS1 ++ (AS2 ++ (AS3 ++ (AS4))))

def dG (q : Nat × Str) : He.DefD := ⟨(q.2, none), q.2, q.2, defArgs (top q.1), defBody (top q.1), defScope (top q.1), [], []⟩
def dM (q : Nat × Nat × Str × Str × Str) : He.DefD := ⟨(q.2.2.1, some q.2.2.2.1), q.2.2.2.1, q.2.2.2.2, defArgs (mth q.1 q.2.1), defBody (mth q.1 q.2.1), defScope (mth q.1 q.2.1), [], []⟩
def hfn : List He.DefD := gdefs.map dG ++ mdefs.map dM
def hfa : List He.Fa := gdefs.map (fun q => .glo q.2) ++ (mdefs.map (fun q => .meth q.2.2.1 q.2.2.2.1) ++ (clss.map .glo ++ (clss.map .cls ++ (clss.map .mkr ++ (noats.map (fun q => .noat q.1 q.2) ++ (frees.map .free ++ (cints.map (fun q => .int q.1 q.2) ++ (cstrs.map (fun q => .str q.1 q.2) ++
  [.glo "KEYWORDS", .glo "LEVELS", .glo "NotReducible", .exc "NotReducible", .exm "NotReducible" "NotReducible" true]))))))))
def hts : List He.Tab := [(fun K => He.ga K "LEVELS", levels.map (·.1))]
/-- the staticmethod: its record, its def -/
def pA (K : PySem.W.Frag) : Addr := He.ma K (He.ga K "Program") "parse"
def fA (K : PySem.W.Frag) : Addr := match PySem.W.recIn K (pA K) "staticmethod" with
  | some (.ref f :: _) => f
  | _ => 0
def fnA (K : PySem.W.Frag) (f : Addr) : He.FnW := match K.lookup f with
  | some ⟨_, _, .func fd, _⟩ => some (fd.name, fd.qualname, fd.params, fd.body, fd.scope, fd.globals, fd.closure, fd.builtins)
  | _ => none
def okA (K : PySem.W.Frag) (f : Addr) (q : Str) : Bool := PySem.W.keepIn K (.ref f) && (match K.lookup f with
  | some ⟨_, _, .func fd, _⟩ => PySem.W.codeIn K fd.code q && (He.dflB K fd.defaults [] && He.kwdB K fd.kwdefaults [])
  | _ => false)
def smB (K : PySem.W.Frag) (C p f : Addr) (m : Str) : Bool := PySem.W.readsIn K C (.type "type") && (He.eqO (PySem.W.specialIn K (.ref C) "__getattribute__") (some (some (.builtin "type.__getattribute__"))) && ((match PySem.W.findCls K (.ref C) (.type "type") m with
  | some (.get g a n c) => decide (g = .builtin "staticmethod.__get__") && (decide (a = .ref p) && (decide (n = .none) && decide (c = .ref C)))
  | _ => false) && (match PySem.W.recIn K p "staticmethod" with
  | some (.ref f' :: _) => decide (f' = f)
  | _ => false)))
def hex (K : PySem.W.Frag) : Bool := He.valsB K (He.ga K "LEVELS") (levels.map fun q => (q.1, .int q.2)) && (He.tupB K "KEYWORDS" (kwords.map .str) && (smB K (He.ga K "Program") (pA K) (fA K) "parse" && okA K (fA K) "Program.parse"))
abbrev AlK : Type := He.AlT × (Bool × He.FnW)
def obsK (K : PySem.W.Frag) : AlK := (He.obsT hfa hfn hts K, (hex K, fnA K (fA K)))
def valK (w : World) : AlK := (He.valT hfn hts w, (true, some ("parse", "Program.parse", defArgs (mth 79 11), .stmts (defBody (mth 79 11)), defScope (mth 79 11), mainGlobals, [], builtinsNs)))
def obsKG (g : Addr → Option Obj) : AlK := obsK (He.frG g AS)
def hkK : PySem.W.Hook where
  α := AlK
  obs := fun s => obsKG s.heap.get?
  val := fun w => valK w
  says := fun w h => ∃ K : PySem.W.Frag, K.In h ∧ obsK K = valK w
  of := fun _ _ e => ⟨_, He.frG_in, e⟩
  keeps := fun _ _ _ ⟨K, hK, c⟩ k => ⟨K, PySem.W.Frag.In.keeps hK k, c⟩
def obK (s : PySem.W.SharedT) : AlK := obsKG (HandSHeadRun.getT s)
theorem obK_eq (s : PySem.W.SharedT) : obK s = hkK.obs s.abs := by
  have e : HandSHeadRun.getT s = s.abs.heap.get? := funext (HandSHeadRun.getT_eq s)
  show obsKG (HandSHeadRun.getT s) = obsKG s.abs.heap.get?
  rw [e]
abbrev R : PySem.W.OpenRow := PySem.W.OpenLaw.row PySem.Challenge.rw_restruct_k53_scopes
def names0 : List PySem.Str := ["WorkError", "SyntaxFault", "SourceFault", "BadLine", "NotReducible", "EXIT", "finished_order", "order_of", "reached_without", "strict_dominators", "edges_of", "retreating_edges", "bad_edge", "is_reducible", "LETTERS", "DIGITS", "SYMBOLS", "KEYWORDS"]
def names1 : List PySem.Str := ["MOST_LETTERS", "MOST_NUMBER", "run_end", "number_of", "word_end", "signs_of", "is_name", "is_label", "Reader", "is_blank", "MOST_HEIGHT", "MOST_OPEN", "LEVELS", "joined", "read_primary", "read_product", "read_sum", "read_comparison"]
def names2 : List PySem.Str := ["read_expression", "text_at", "expression_text", "MOST_NODES", "read_deed", "read_node", "parse_node", "parse_entry", "parse_jumps", "first_double", "check_targets", "normalized", "check_doubles", "deed_text", "node_text", "jumps_text", "Flat", "labels_within"]
def names3 : List PySem.Str := ["nodes_of", "check_reached", "lowered", "inner_bodies", "around", "scopes_of", "MOST_DEPTH", "Open", "read_labelled", "read_worded", "read_line", "take_line", "begin_else", "parse_body", "has_jumps", "parse_source", "Program", "breaks_to"]
def names4 : List PySem.Str := ["Structure", "structured", "_law_cell", "_law_draws", "_law_expression", "_law_expression_text", "_law_node", "_law_program", "_law_node_text", "_law_text", "_law_scopes"]
def names : List PySem.Str := names0 ++ names1 ++ names2 ++ names3 ++ names4
end K5
end

section
set_option linter.all false
set_option maxRecDepth 100000
set_option maxHeartbeats 0
/-! The head: the top's run. -/
namespace K5
open PySem PySem.Spec PyProof.Rows L2
theorem run0 : ∀ w : World, HandSHeadRun.RunEq R (PySem.W.view R.prog [94]) hkK obK 5600 names (w.withFollow "special-get-raises" false) := by
  intro w os
  kernel_rfl
theorem run1 : ∀ w : World, HandSHeadRun.RunEq R (PySem.W.view R.prog [94]) hkK obK 5600 names (w.withFollow "special-get-raises" true) := by
  intro w os
  kernel_rfl
theorem headRun (w : World) : HandSHeadRun.RunEq R (PySem.W.view R.prog [94]) hkK obK 5600 names w :=
  PySem.W.byRow2 "special-get-raises" (P := fun w => HandSHeadRun.RunEq R (PySem.W.view R.prog [94]) hkK obK 5600 names w) run0 run1 w
end K5
end

section
set_option linter.all false
set_option maxRecDepth 100000
set_option maxHeartbeats 0
/-! The head: the law holds when the walk keeps its promise. -/
open PySem PySem.W PySem.Calls PyProof.Rows
theorem K5.holds_of (sp : PySem.W.Frag → L2.Sp) (hsp : ∀ (K : PySem.W.Frag) (H : L2.Hp) (a : Addr) (ns : List Int), L2.SqL K H a (ns.map L2.V.int) → sp K [.ref a] H (fun v _ => v = .bl true) fun _ _ _ => False)
    (facts : ∀ (K : PySem.W.Frag) (w : World) (h : Heap) (mg : PySem.Str → Option Value) (f : Addr), K.In h → h.Ns mainGlobals mg → mg ("law" : PySem.Str) = some (.ref f) → K5.obsK K = K5.valK w →
      ∃ fd : FuncData, (∀ (s : Shared) (v : Value), BindsTo s fd ⟨[v], []⟩ [("_law_script", v)]) ∧ ∀ base : Heap, K.In base → base.Ns mainGlobals mg → L2.FnOk (PySem.Challenge.rw_restruct_k53_scopes).prog w K mg base C8.CX0 203 f fd ["_law_script"] (sp K)) :
    PySem.Challenge.rw_restruct_k53_scopes.Holds := by
  w_on; o_law
  refine HandSHeadRun.head_any (r := OpenLaw.row PySem.Challenge.rw_restruct_k53_scopes) (q := view (OpenLaw.row PySem.Challenge.rw_restruct_k53_scopes).prog [94]) (H := K5.hkK) (ob := K5.obK) (M := 5600) (loose := K5.names) (d := HandSHeadRun.topDef (OpenLaw.row PySem.Challenge.rw_restruct_k53_scopes).prog 94) (kwd := []) K5.obK_eq
    (by kernel_rfl) (fun s => by kernel_rfl) K5.headRun (by kernel_rfl) (by kernel_rfl) (by kernel_rfl) (by rfl) (by first | assumption | decide +kernel) (by decide +kernel) ⟨rfl, rfl, rfl, rfl, rfl, by decide +kernel⟩ ?hw ?hc
  case hw => w_witness2
  case hc =>
    refine L2.walk_ofE (l := PySem.Challenge.rw_restruct_k53_scopes) (n := 63) (k := 203) (x := "_law_script") (CX := C8.CX0) rfl (by decide) (by kernel_rfl) ⟨rfl, by decide, by decide⟩ ?F (fun _ _ _ _ z => z)
    intro w mg fa h Y G hmg0
    obtain ⟨K, KX, c⟩ := Y
    have hmg : mg ("law" : PySem.Str) = some (.ref fa) := by
      have e : (HandSHeadRun.topDef (OpenLaw.row PySem.Challenge.rw_restruct_k53_scopes).prog 94).name = ("law" : PySem.Str) := by kernel_rfl
      rw [← e]
      exact hmg0
    obtain ⟨fd, hb, hF⟩ := facts K w h mg fa KX G hmg c
    exact ⟨K, fd, sp K, KX, hb, fun H a ns hl _ hS => hsp K H a ns hS, hF⟩
end

section
/-! Plain mathematics: search, dominators, the tree of the code. No program in sight. -/
set_option linter.all false
namespace MG
variable {α : Type} [DecidableEq α]

/-- what is asked of an order -/
structure IsOrder (en ex : α) (tg : α → List α) (o : List α) : Prop where
  nodup : o.Nodup
  noex : ex ∉ o
  empty : en = ex → o = []
  head : en ≠ ex → ∃ r, o = en :: r
  closed : ∀ l ∈ o, ∀ t ∈ tg l, t ≠ ex → t ∈ o
  pred : ∀ (xs ys : List α) (m : α), o = xs ++ m :: ys → xs ≠ [] → ∃ p ∈ xs, m ∈ tg p

/-- the state of the search: finished, the stack (top last) -/
abbrev Stk (α : Type) := List (α × List α)
def seq (fin : List α) (st : Stk α) : List α := fin ++ (st.map (·.1)).reverse
structure DInv (en ex : α) (tg : α → List α) (U : List α) (fin D : List α) (st : Stk α) : Prop where
  nodup : (seq fin st).Nodup
  noex : ex ∉ seq fin st
  disc : ∀ x, x ∈ D ↔ x ∈ seq fin st
  sub : ∀ x ∈ seq fin st, x ∈ U
  last : ∃ ys, seq fin st = ys ++ [en]
  pred : ∀ (xs ys : List α) (m : α), seq fin st = xs ++ m :: ys → ys ≠ [] → ∃ p ∈ ys, m ∈ tg p
  fdone : ∀ l ∈ fin, ∀ t ∈ tg l, t ≠ ex → t ∈ seq fin st
  left : ∀ p ∈ st, (∀ t ∈ p.2, t ∈ tg p.1) ∧ ∀ t ∈ tg p.1, t ≠ ex → t ∈ p.2 ∨ t ∈ seq fin st

def work (U fin : List α) (st : Stk α) : Nat := 4 * (U.length - (seq fin st).length) + (st.map (fun p => p.2.length)).sum + st.length

theorem DInv.start {en ex : α} {tg : α → List α} {U : List α} (hne : en ≠ ex) (hU : en ∈ U) : DInv en ex tg U [] [en] [(en, tg en)] where
  nodup := by simp [seq]
  noex := by simp [seq]; exact fun h => hne h.symm
  disc := by simp [seq]
  sub := by simp [seq]; exact hU
  last := ⟨[], by simp [seq]⟩
  pred := by
    intro xs ys m h hy
    simp [seq] at h
    cases xs with
    | nil => simp at h; exact absurd h.2 (fun z => hy z)
    | cons a xs => simp at h
  fdone := by simp
  left := by
    intro p hp
    simp at hp
    subst hp
    exact ⟨fun t h => h, fun t h _ => .inl h⟩

variable {en ex : α} {tg : α → List α} {U fin D : List α} {st : Stk α} {l t : α} {lf : List α}

theorem seq_finish : seq (fin ++ [l]) st = seq fin (st ++ [(l, lf)]) := by simp [seq]
theorem seq_skip {lf' : List α} : seq fin (st ++ [(l, lf)]) = seq fin (st ++ [(l, lf')]) := by simp [seq]
theorem seq_push {a : List α} : seq fin (st ++ [(l, lf), (t, a)]) = fin ++ t :: l :: (st.map (·.1)).reverse := by simp [seq]
theorem seq_top : seq fin (st ++ [(l, lf)]) = fin ++ l :: (st.map (·.1)).reverse := by simp [seq]

theorem DInv.le (h : DInv en ex tg U fin D st) : (seq fin st).length ≤ U.length := h.nodup.length_le_of_subset (fun x hx => h.sub x hx)

theorem DInv.finish (h : DInv en ex tg U fin D (st ++ [(l, [])])) : DInv en ex tg U (fin ++ [l]) D st where
  nodup := by rw [seq_finish (lf := [])]; exact h.nodup
  noex := by rw [seq_finish (lf := [])]; exact h.noex
  disc := by rw [seq_finish (lf := [])]; exact h.disc
  sub := by rw [seq_finish (lf := [])]; exact h.sub
  last := by rw [seq_finish (lf := [])]; exact h.last
  pred := by rw [seq_finish (lf := [])]; exact h.pred
  fdone := by
    rw [seq_finish (lf := [])]
    intro x hx t ht hne
    rcases List.mem_append.mp hx with hx | hx
    · exact h.fdone x hx t ht hne
    · have e : x = l := by simpa using hx
      subst e
      rcases (h.left (x, []) (by simp)).2 t ht hne with z | z
      · simp at z
      · exact z
  left := by
    rw [seq_finish (lf := [])]
    intro p hp
    exact h.left p (List.mem_append_left _ hp)
theorem work_finish : work U (fin ++ [l]) st < work U fin (st ++ [(l, [])]) := by
  unfold work
  rw [seq_finish (lf := [])]
  simp

theorem DInv.skip (h : DInv en ex tg U fin D (st ++ [(l, lf ++ [t])])) (ht : t = ex ∨ t ∈ D) : DInv en ex tg U fin D (st ++ [(l, lf)]) where
  nodup := by rw [seq_skip (lf' := lf ++ [t])]; exact h.nodup
  noex := by rw [seq_skip (lf' := lf ++ [t])]; exact h.noex
  disc := by rw [seq_skip (lf' := lf ++ [t])]; exact h.disc
  sub := by rw [seq_skip (lf' := lf ++ [t])]; exact h.sub
  last := by rw [seq_skip (lf' := lf ++ [t])]; exact h.last
  pred := by rw [seq_skip (lf' := lf ++ [t])]; exact h.pred
  fdone := by rw [seq_skip (lf' := lf ++ [t])]; exact h.fdone
  left := by
    rw [seq_skip (lf' := lf ++ [t])]
    intro p hp
    rcases List.mem_append.mp hp with hp | hp
    · exact h.left p (List.mem_append_left _ hp)
    · have e : p = (l, lf) := by simpa using hp
      subst e
      have q := h.left (l, lf ++ [t]) (by simp)
      refine ⟨fun u hu => q.1 u (by simp [hu]), fun u hu hne => ?_⟩
      rcases q.2 u hu hne with z | z
      · rcases List.mem_append.mp z with z | z
        · exact .inl z
        · have e : u = t := by simpa using z
          subst e
          rcases ht with ht | ht
          · exact absurd ht hne
          · exact .inr ((h.disc u).mp ht)
      · exact .inr z
theorem work_skip : work U fin (st ++ [(l, lf)]) < work U fin (st ++ [(l, lf ++ [t])]) := by
  unfold work
  rw [seq_skip (lf' := lf ++ [t])]
  simp

theorem DInv.push (h : DInv en ex tg U fin D (st ++ [(l, lf ++ [t])])) (hne : t ≠ ex) (hnd : t ∉ D) (hU : t ∈ U) : DInv en ex tg U fin (D ++ [t]) (st ++ [(l, lf), (t, tg t)]) := by
  have h0 : seq fin (st ++ [(l, lf ++ [t])]) = fin ++ l :: (st.map (·.1)).reverse := seq_top
  have hns : t ∉ fin ++ l :: (st.map (·.1)).reverse := fun z => hnd ((h.disc t).mpr (by rw [h0]; exact z))
  have mem : ∀ x, x ∈ fin ++ t :: l :: (st.map (·.1)).reverse ↔ x = t ∨ x ∈ fin ++ l :: (st.map (·.1)).reverse := by
    intro x
    simp only [List.mem_append, List.mem_cons]
    constructor
    · rintro (a | a | a | a)
      · exact .inr (.inl a)
      · exact .inl a
      · exact .inr (.inr (.inl a))
      · exact .inr (.inr (.inr a))
    · rintro (a | a | a | a)
      · exact .inr (.inl a)
      · exact .inl a
      · exact .inr (.inr (.inl a))
      · exact .inr (.inr (.inr a))
  have tgl : t ∈ tg l := (h.left (l, lf ++ [t]) (by simp)).1 t (by simp)
  have hn := h.nodup
  rw [h0] at hn
  refine ⟨?_, ?_, ?_, ?_, ?_, ?_, ?_, ?_⟩
  · rw [seq_push]
    have : (fin ++ t :: l :: (st.map (·.1)).reverse).Perm (t :: (fin ++ l :: (st.map (·.1)).reverse)) := List.perm_middle
    rw [this.nodup_iff, List.nodup_cons]
    exact ⟨hns, hn⟩
  · rw [seq_push, mem]
    rintro (z | z)
    · exact hne z.symm
    · exact h.noex (by rw [h0]; exact z)
  · intro x
    rw [seq_push, mem, List.mem_append, h.disc, h0]
    constructor
    · rintro (z | z)
      · exact .inr z
      · exact .inl (by simpa using z)
    · rintro (z | z)
      · exact .inr (by simp [z])
      · exact .inl z
  · intro x hx
    rw [seq_push, mem] at hx
    rcases hx with z | z
    · rw [z]; exact hU
    · exact h.sub x (by rw [h0]; exact z)
  · obtain ⟨ys, e⟩ := h.last
    rw [h0] at e
    rw [seq_push]
    rcases List.eq_nil_or_concat (st.map (·.1)).reverse with hs | ⟨zs, z, hs⟩
    · rw [hs] at e ⊢
      have : l = en := by
        have := congrArg List.getLast? e
        simpa using this
      exact ⟨fin ++ [t], by simp [this]⟩
    · rw [hs] at e ⊢
      have : z = en := by
        have := congrArg List.getLast? e
        simpa [List.concat_eq_append, List.getLast?_append, List.getLast?_cons] using this
      exact ⟨fin ++ t :: l :: zs, by simp [this]⟩
  · intro xs ys m e hy
    rw [seq_push] at e
    -- where m stands
    rcases List.append_eq_append_iff.mp e with ⟨as, e1, e2⟩ | ⟨bs, e1, e2⟩
    · -- xs = fin ++ as, t :: l :: r = as ++ m :: ys
      cases as with
      | nil =>
        simp at e2
        obtain ⟨rfl, rfl⟩ := e2
        exact ⟨l, by simp, tgl⟩
      | cons a as =>
        simp at e2
        obtain ⟨rfl, e2⟩ := e2
        refine h.pred (fin ++ as) ys m ?_ hy
        rw [h0, e2]; simp
    · -- fin = xs ++ bs, m :: ys = bs ++ t :: l :: r
      cases bs with
      | nil =>
        simp at e2
        obtain ⟨rfl, rfl⟩ := e2
        exact ⟨l, by simp, tgl⟩
      | cons b bs =>
        simp at e2
        obtain ⟨rfl, rfl⟩ := e2
        obtain ⟨p, hp, hm⟩ := h.pred xs (bs ++ l :: (st.map (·.1)).reverse) m (by rw [h0, e1]; simp) (by simp)
        refine ⟨p, ?_, hm⟩
        simp only [List.mem_append, List.mem_cons] at hp ⊢
        rcases hp with z | z | z
        · exact .inl z
        · exact .inr (.inr (.inl z))
        · exact .inr (.inr (.inr z))
  · intro x hx u hu hux
    rw [seq_push, mem]
    exact .inr (by rw [← h0]; exact h.fdone x hx u hu hux)
  · intro p hp
    simp only [List.mem_append, List.mem_cons, List.not_mem_nil, or_false] at hp
    rw [seq_push]
    rcases hp with hp | rfl | rfl
    · have q := h.left p (List.mem_append_left _ hp)
      refine ⟨q.1, fun u hu hux => ?_⟩
      rcases q.2 u hu hux with z | z
      · exact .inl z
      · exact .inr (by rw [mem]; exact .inr (by rw [← h0]; exact z))
    · have q := h.left (l, lf ++ [t]) (by simp)
      refine ⟨fun u hu => q.1 u (by simp [hu]), fun u hu hux => ?_⟩
      rcases q.2 u hu hux with z | z
      · rcases List.mem_append.mp z with z | z
        · exact .inl z
        · exact .inr (by rw [mem]; exact .inl (by simpa using z))
      · exact .inr (by rw [mem]; exact .inr (by rw [← h0]; exact z))
    · exact ⟨fun u hu => hu, fun u hu _ => .inl hu⟩
theorem work_push (h : DInv en ex tg U fin D (st ++ [(l, lf ++ [t])])) (hne : t ≠ ex) (hnd : t ∉ D) (hU : t ∈ U) (h2 : (tg t).length ≤ 2) : work U fin (st ++ [(l, lf), (t, tg t)]) < work U fin (st ++ [(l, lf ++ [t])]) := by
  have a := (h.push hne hnd hU).le
  unfold work
  rw [seq_push] at a ⊢
  rw [seq_top]
  simp at a ⊢
  omega

theorem DInv.order (h : DInv en ex tg U fin D []) (hne : en ≠ ex) : IsOrder en ex tg fin.reverse where
  nodup := by have := h.nodup; simp [seq] at this; exact ((List.reverse_perm _).nodup_iff).mpr this
  noex := by have := h.noex; simpa [seq] using this
  empty := fun e => absurd e hne
  head := fun _ => by
    obtain ⟨ys, e⟩ := h.last
    simp [seq] at e
    exact ⟨ys.reverse, by rw [e]; simp⟩
  closed := by
    intro x hx u hu hux
    have := h.fdone x (by simpa using hx) u hu hux
    simpa [seq] using this
  pred := by
    intro xs ys m e hx
    have e' : fin = ys.reverse ++ m :: xs.reverse := by
      have := congrArg List.reverse e
      simpa using this
    obtain ⟨p, hp, hm⟩ := h.pred ys.reverse xs.reverse m (by simp [seq, e']) (by simpa using hx)
    exact ⟨p, by simpa using hp, hm⟩
theorem order_none (e : en = ex) : IsOrder en ex tg ([] : List α) where
  nodup := List.nodup_nil
  noex := by simp
  empty := fun _ => rfl
  head := fun h => absurd e h
  closed := by simp
  pred := by intro xs ys m e; simp at e

/-! ### consequences -/
variable {o o' : List α}
def place (o : List α) (l : α) : Nat := o.idxOf l
theorem place_of {i : Nat} (hn : o.Nodup) (h : o[i]? = some l) : place o l = i := by
  obtain ⟨hi, rfl⟩ := List.getElem?_eq_some_iff.mp h
  exact hn.idxOf_getElem i hi
theorem place_split {xs ys : List α} {m : α} (hn : (xs ++ m :: ys).Nodup) : place (xs ++ m :: ys) m = xs.length := place_of hn (by simp)
theorem place_lt_of_mem {xs ys : List α} {m p : α} (hn : (xs ++ m :: ys).Nodup) (hp : p ∈ xs) : place (xs ++ m :: ys) p < place (xs ++ m :: ys) m := by
  rw [place_split hn]
  unfold place
  rw [List.idxOf_append, if_pos hp]
  exact List.idxOf_lt_length_iff.mpr hp
theorem place_inj (ha : l ∈ o) (h : place o l = place o t) (hb : t ∈ o) : l = t := by
  have h1 : place o l < o.length := List.idxOf_lt_length_iff.mpr ha
  have h2 : place o t < o.length := List.idxOf_lt_length_iff.mpr hb
  have e1 : o[place o l] = l := List.getElem_idxOf h1
  have e2 : o[place o t] = t := List.getElem_idxOf h2
  rw [← e1, ← e2]
  simp [h]
theorem IsOrder.before (h : IsOrder en ex tg o) {m : α} (hm : m ∈ o) (hne : m ≠ en) : ∃ p ∈ o, m ∈ tg p ∧ place o p < place o m := by
  obtain ⟨xs, ys, e⟩ := List.append_of_mem hm
  have hx : xs ≠ [] := by
    rintro rfl
    have hee : en ≠ ex := fun z => by rw [h.empty z] at hm; simp at hm
    obtain ⟨r, e'⟩ := h.head hee
    rw [e] at e'
    simp at e'
    exact hne e'.1
  obtain ⟨p, hp, hq⟩ := h.pred xs ys m e hx
  refine ⟨p, by rw [e]; simp [hp], hq, ?_⟩
  have hn := h.nodup
  rw [e] at hn ⊢
  exact place_lt_of_mem hn hp
theorem IsOrder.ne (h : IsOrder en ex tg o) {m : α} (hm : m ∈ o) : en ≠ ex := fun z => by rw [h.empty z] at hm; simp at hm
theorem IsOrder.entry (h : IsOrder en ex tg o) (hne : en ≠ ex) : en ∈ o := by
  obtain ⟨r, e⟩ := h.head hne
  rw [e]; simp
theorem IsOrder.place0 (h : IsOrder en ex tg o) (hne : en ≠ ex) : place o en = 0 := by
  obtain ⟨r, e⟩ := h.head hne
  rw [e]; simp [place]

/-- a set with the entry, closed away from d, has all that can be reached without d: what it lacks stands behind d -/
theorem IsOrder.dom (h : IsOrder en ex tg o) {d : α} {R : α → Prop} (hen : en ≠ d → R en) (hcl : ∀ l, R l → ∀ t ∈ tg l, t ≠ ex → t ≠ d → R t) :
    ∀ {m : α}, m ∈ o → m ≠ d → ¬ R m → place o d < place o m := by
  have key : ∀ (n : Nat) (m : α), place o m = n → m ∈ o → m ≠ d → ¬ R m → place o d < n := by
    intro n
    induction n using Nat.strongRecOn with
    | ind n ih =>
      intro m en_ hm hd hr
      by_cases hme : m = en
      · exact absurd (by rw [hme]; exact hen (by rw [← hme]; exact hd)) hr
      obtain ⟨p, hp, htg, hlt⟩ := h.before hm hme
      by_cases hpd : p = d
      · rw [← hpd]; omega
      · have hex : m ≠ ex := fun z => h.noex (by rw [← z]; exact hm)
        have : ¬ R p := fun z => hr (hcl p z m htg hex hd)
        have := ih (place o p) (by omega) p rfl hp hpd this
        omega
  intro m hm hd hr
  exact key _ m rfl hm hd hr

/-- all orders of one graph have the same labels; that of a part that holds an order, too -/
theorem IsOrder.mem_of (h : IsOrder en ex tg o) {tg' : α → List α} (h' : IsOrder en ex tg' o') (same : ∀ l ∈ o, tg' l = tg l) : ∀ {m : α}, m ∈ o → m ∈ o' := by
  have key : ∀ (n : Nat) (m : α), place o m = n → m ∈ o → m ∈ o' := by
    intro n
    induction n using Nat.strongRecOn with
    | ind n ih =>
      intro m en_ hm
      by_cases hme : m = en
      · rw [hme]; exact h'.entry (h.ne hm)
      obtain ⟨p, hp, htg, hlt⟩ := h.before hm hme
      have := ih (place o p) (by omega) p rfl hp
      exact h'.closed p this m (by rw [same p hp]; exact htg) (fun z => h.noex (by rw [← z]; exact hm))
  intro m hm
  exact key _ m rfl hm
end MG
end

section
/-! Plain mathematics: bodies, their labels, the way to a label, the tree of the code. -/
set_option linter.all false
namespace MT
/-- a statement of the form without jumps; ε: what the law does not look at -/
inductive Stm (α ε : Type) where
  | node (l : α) (d : ε)
  | cond (l : α) (e : ε) (a b : List (Stm α ε))
  | wrap (k : Bool) (n : α) (b : List (Stm α ε))
  | jump (k : Bool) (n : α)
  | exit
variable {α ε : Type}
mutual
/-- the labels of a statement, of a body, in the order of the text -/
def lab : Stm α ε → List α
  | .node l _ => [l]
  | .cond l _ a b => l :: (labs a ++ labs b)
  | .wrap _ _ b => labs b
  | .jump _ _ => []
  | .exit => []
def labs : List (Stm α ε) → List α
  | [] => []
  | s :: r => lab s ++ labs r
end
mutual
def dep : Stm α ε → Nat
  | .node _ _ => 0
  | .cond _ _ a b => max (deps a) (deps b) + 1
  | .wrap _ _ b => deps b + 1
  | .jump _ _ => 0
  | .exit => 0
def deps : List (Stm α ε) → Nat
  | [] => 0
  | s :: r => max (dep s) (deps r)
end
theorem labs_append (a b : List (Stm α ε)) : labs (a ++ b) = labs a ++ labs b := by
  induction a with
  | nil => simp [labs]
  | cons s r ih => simp [labs, ih]
theorem deps_append (a b : List (Stm α ε)) : deps (a ++ b) = max (deps a) (deps b) := by
  induction a with
  | nil => simp [deps]
  | cons s r ih => simp [deps, ih] <;> omega
theorem dep_le {s : Stm α ε} {b : List (Stm α ε)} (h : s ∈ b) : dep s ≤ deps b := by
  induction b with
  | nil => simp at h
  | cons t r ih =>
    simp only [deps]
    rcases List.mem_cons.mp h with e | e
    · rw [e]; omega
    · have := ih e; omega
theorem lab_sub {s : Stm α ε} {b : List (Stm α ε)} (h : s ∈ b) : ∀ x ∈ lab s, x ∈ labs b := by
  induction b with
  | nil => simp at h
  | cons t r ih =>
    intro x hx
    simp only [labs, List.mem_append]
    rcases List.mem_cons.mp h with e | e
    · rw [e] at hx; exact .inl hx
    · exact .inr (ih e x hx)
/-- the bodies within a statement -/
def inner : Stm α ε → List (List (Stm α ε))
  | .cond _ _ a b => [a, b]
  | .wrap _ _ b => [b]
  | _ => []
theorem inner_dep {s : Stm α ε} {b : List (Stm α ε)} (h : b ∈ inner s) : deps b < dep s := by
  cases s with
  | cond l e a c =>
    simp [inner] at h
    rcases h with e | e <;> subst e <;> simp only [dep] <;> omega
  | wrap k n c => simp [inner] at h; subst h; simp only [dep]; omega
  | node _ _ => simp [inner] at h
  | jump _ _ => simp [inner] at h
  | exit => simp [inner] at h
/-- the head of a statement that has bodies: kind (0 if, 1 block, 2 loop) and name -/
def hd : Stm α ε → Option (Nat × α)
  | .cond l _ _ _ => some (0, l)
  | .wrap k n _ => some (if k then 2 else 1, n)
  | _ => none

/-- what the law writes for a label: the way down to it; x stands in the body with the way w around it -/
inductive Way : List (Stm α ε) → α → List (Nat × α) → Prop where
  | node {b : List (Stm α ε)} {l : α} {d : ε} (h : Stm.node l d ∈ b) : Way b l []
  | here {b : List (Stm α ε)} {l : α} {e : ε} {p q : List (Stm α ε)} (h : Stm.cond l e p q ∈ b) : Way b l []
  | into {b c : List (Stm α ε)} {s : Stm α ε} {l : α} {k : Nat × α} {w : List (Nat × α)} (h : s ∈ b) (hk : hd s = some k) (hi : c ∈ inner s) (t : Way c l w) : Way b l (k :: w)
theorem Way.mem {b : List (Stm α ε)} {l : α} {w : List (Nat × α)} (h : Way b l w) : l ∈ labs b := by
  induction h with
  | node h => exact lab_sub h _ (by simp [lab])
  | here h => exact lab_sub h _ (by simp [lab])
  | into h hk hi t ih =>
    refine lab_sub h _ ?_
    rename_i b c s l k w
    cases s with
    | cond l' e a c' =>
      simp [inner] at hi
      rcases hi with e | e <;> subst e <;> simp [lab, ih]
    | wrap k' n c' => simp [inner] at hi; subst hi; simpa [lab] using ih
    | node _ _ => simp [inner] at hi
    | jump _ _ => simp [inner] at hi
    | exit => simp [inner] at hi

mutual
theorem nd_lab {s : Stm α ε} {b : List (Stm α ε)} (h : (lab s).Nodup) (hi : b ∈ inner s) : (labs b).Nodup := by
  cases s with
  | cond l e a c =>
    simp [inner] at hi
    simp only [lab, List.nodup_cons, List.nodup_append] at h
    rcases hi with e | e <;> subst e
    · exact h.2.1
    · exact h.2.2.1
  | wrap k n c => simp [inner] at hi; subst hi; simpa [lab] using h
  | node _ _ => simp [inner] at hi
  | jump _ _ => simp [inner] at hi
  | exit => simp [inner] at hi
end
theorem nd_mem {s : Stm α ε} {b : List (Stm α ε)} (h : (labs b).Nodup) (hs : s ∈ b) : (lab s).Nodup := by
  induction b with
  | nil => simp at hs
  | cons t r ih =>
    simp only [labs, List.nodup_append] at h
    rcases List.mem_cons.mp hs with e | e
    · rw [e]; exact h.1
    · exact ih h.2.1 e
/-- two statements of a body that share a label are at one place: with indices -/
theorem nd_ix {b : List (Stm α ε)} (h : (labs b).Nodup) {i j : Nat} {s t : Stm α ε} (hi : b[i]? = some s) (hj : b[j]? = some t) {x : α} (hs : x ∈ lab s) (ht : x ∈ lab t) : i = j := by
  induction b generalizing i j with
  | nil => simp at hi
  | cons u r ih =>
    simp only [labs, List.nodup_append] at h
    cases i with
    | zero =>
      simp at hi; subst hi
      cases j with
      | zero => rfl
      | succ j =>
        simp at hj
        exact absurd rfl (h.2.2 x hs x (lab_sub (List.mem_of_getElem? hj) x ht))
    | succ i =>
      simp at hi
      cases j with
      | zero =>
        simp at hj; subst hj
        exact absurd rfl (h.2.2 x ht x (lab_sub (List.mem_of_getElem? hi) x hs))
      | succ j =>
        simp at hj
        rw [ih h.2.1 hi hj]
theorem inner_lab {s : Stm α ε} {c : List (Stm α ε)} (h : c ∈ inner s) : ∀ x ∈ labs c, x ∈ lab s := by
  intro x hx
  cases s with
  | cond l e a d =>
    simp [inner] at h
    rcases h with e | e <;> subst e <;> simp [lab, hx]
  | wrap k n d => simp [inner] at h; subst h; simpa [lab] using hx
  | node _ _ => simp [inner] at h
  | jump _ _ => simp [inner] at h
  | exit => simp [inner] at h
/-- the bodies of one statement share no label -/
theorem inner_one {s : Stm α ε} (h : (lab s).Nodup) {i j : Nat} {c d : List (Stm α ε)} (hi : (inner s)[i]? = some c) (hj : (inner s)[j]? = some d) {x : α} (hc : x ∈ labs c) (hd : x ∈ labs d) : i = j := by
  cases s with
  | cond l e a b =>
    simp only [lab, List.nodup_cons, List.nodup_append] at h
    simp only [inner] at hi hj
    match i, j, hi, hj with
    | 0, 0, _, _ => rfl
    | 1, 1, _, _ => rfl
    | 0, 1, hi, hj => simp at hi hj; subst hi hj; exact absurd rfl (h.2.2.2 x hc x hd)
    | 1, 0, hi, hj => simp at hi hj; subst hi hj; exact absurd rfl (h.2.2.2 x hd x hc)
    | i + 2, _, hi, _ => simp at hi
    | _, j + 2, _, hj => simp at hj
  | wrap k n b =>
    simp only [inner] at hi hj
    match i, j, hi, hj with
    | 0, 0, _, _ => rfl
    | i + 1, _, hi, _ => simp at hi
    | _, j + 1, _, hj => simp at hj
  | node _ _ => simp [inner] at hi
  | jump _ _ => simp [inner] at hi
  | exit => simp [inner] at hi
/-- the label of a conditional does not stand in its bodies -/
theorem own_not {s : Stm α ε} (h : (lab s).Nodup) {l : α} {e : ε} {p q c : List (Stm α ε)} (es : s = .cond l e p q) (hc : c ∈ inner s) : l ∉ labs c := by
  subst es
  simp only [lab, List.nodup_cons, List.mem_append] at h
  simp [inner] at hc
  rcases hc with e | e <;> subst e
  · exact fun z => h.1 (.inl z)
  · exact fun z => h.1 (.inr z)
/-- THE LAW'S HEART: in a body with different labels there is one way to a label -/
theorem Way.one {b : List (Stm α ε)} {l : α} {w : List (Nat × α)} (h : Way b l w) : (labs b).Nodup → ∀ {w' : List (Nat × α)}, Way b l w' → w = w' := by
  induction h with
  | @node b l d h =>
    intro hn w' h'
    cases h' with
    | node _ => rfl
    | here _ => rfl
    | into h2 hk hi t =>
      rename_i c s k w
      obtain ⟨i, hi1⟩ := List.getElem?_of_mem h
      obtain ⟨j, hj1⟩ := List.getElem?_of_mem h2
      have := nd_ix hn hi1 hj1 (x := l) (by simp [lab]) (inner_lab hi _ t.mem)
      subst this
      rw [hi1] at hj1
      cases hj1
      simp [inner] at hi
  | @here b l e p q h =>
    intro hn w' h'
    cases h' with
    | node _ => rfl
    | here _ => rfl
    | into h2 hk hi t =>
      rename_i c s k w
      obtain ⟨i, hi1⟩ := List.getElem?_of_mem h
      obtain ⟨j, hj1⟩ := List.getElem?_of_mem h2
      have := nd_ix hn hi1 hj1 (x := l) (by simp [lab]) (inner_lab hi _ t.mem)
      subst this
      rw [hi1] at hj1
      cases hj1
      exact absurd t.mem (own_not (nd_mem hn h) rfl hi)
  | @into b c s l k w h hk hi t ih =>
    intro hn w' h'
    cases h' with
    | node h2 =>
      obtain ⟨i, hi1⟩ := List.getElem?_of_mem h
      obtain ⟨j, hj1⟩ := List.getElem?_of_mem h2
      have := nd_ix hn hi1 hj1 (x := l) (inner_lab hi _ t.mem) (by simp [lab])
      subst this
      rw [hi1] at hj1
      cases hj1
      simp [inner] at hi
    | here h2 =>
      obtain ⟨i, hi1⟩ := List.getElem?_of_mem h
      obtain ⟨j, hj1⟩ := List.getElem?_of_mem h2
      have := nd_ix hn hi1 hj1 (x := l) (inner_lab hi _ t.mem) (by simp [lab])
      subst this
      rw [hi1] at hj1
      cases hj1
      exact absurd t.mem (own_not (nd_mem hn h) rfl hi)
    | into h2 hk2 hi2 t2 =>
      rename_i c2 s2 k2 w2
      obtain ⟨i, hi1⟩ := List.getElem?_of_mem h
      obtain ⟨j, hj1⟩ := List.getElem?_of_mem h2
      have := nd_ix hn hi1 hj1 (x := l) (inner_lab hi _ t.mem) (inner_lab hi2 _ t2.mem)
      subst this
      rw [hi1] at hj1
      cases hj1
      rw [hk] at hk2
      cases hk2
      obtain ⟨i', hi1'⟩ := List.getElem?_of_mem hi
      obtain ⟨j', hj1'⟩ := List.getElem?_of_mem hi2
      have hns := nd_mem hn h
      have := inner_one hns hi1' hj1' t.mem t2.mem
      subst this
      rw [hi1'] at hj1'
      cases hj1'
      rw [ih (nd_lab hns hi) t2]
/-- every label has a way -/
theorem way_of : ∀ (n : Nat) (b : List (Stm α ε)), deps b ≤ n → ∀ l ∈ labs b, ∃ w, Way b l w := by
  intro n
  induction n with
  | zero =>
    intro b hb l hl
    obtain ⟨s, hs, hls⟩ : ∃ s ∈ b, l ∈ lab s := by
      clear hb
      induction b with
      | nil => simp [labs] at hl
      | cons t r ih =>
        simp only [labs, List.mem_append] at hl
        rcases hl with e | e
        · exact ⟨t, by simp, e⟩
        · obtain ⟨s, a, c⟩ := ih e
          exact ⟨s, by simp [a], c⟩
    have := dep_le hs
    cases s with
    | node l' d => simp [lab] at hls; subst hls; exact ⟨_, .node hs⟩
    | cond l' e p q => simp only [dep] at this; omega
    | wrap k n p => simp only [dep] at this; omega
    | jump _ _ => simp [lab] at hls
    | exit => simp [lab] at hls
  | succ n ih =>
    intro b hb l hl
    obtain ⟨s, hs, hls⟩ : ∃ s ∈ b, l ∈ lab s := by
      clear hb
      induction b with
      | nil => simp [labs] at hl
      | cons t r ih =>
        simp only [labs, List.mem_append] at hl
        rcases hl with e | e
        · exact ⟨t, by simp, e⟩
        · obtain ⟨s, a, c⟩ := ih e
          exact ⟨s, by simp [a], c⟩
    have hd := dep_le hs
    cases s with
    | node l' d => simp [lab] at hls; subst hls; exact ⟨_, .node hs⟩
    | cond l' e p q =>
      simp only [lab, List.mem_cons, List.mem_append] at hls
      rcases hls with e' | e' | e'
      · subst e'; exact ⟨_, .here hs⟩
      · simp only [dep] at hd
        obtain ⟨w, hw⟩ := ih p (by omega) l e'
        exact ⟨_, .into hs rfl (by simp [inner]) hw⟩
      · simp only [dep] at hd
        obtain ⟨w, hw⟩ := ih q (by omega) l e'
        exact ⟨_, .into hs rfl (by simp [inner]) hw⟩
    | wrap k n p =>
      simp only [lab] at hls
      simp only [dep] at hd
      obtain ⟨w, hw⟩ := ih p (by omega) l hls
      exact ⟨_, .into hs rfl (by simp [inner]) hw⟩
    | jump _ _ => simp [lab] at hls
    | exit => simp [lab] at hls

/-! ### a tree by children -/
section
variable [DecidableEq α]
/-- the labels below l, n turns deep -/
def below (ch : α → List α) : Nat → α → List α
  | 0, _ => []
  | n + 1, l => l :: (ch l).flatMap (below ch n)
structure Tree (o : List α) (en : α) (ch : α → List α) (rk : α → Nat) : Prop where
  up : ∀ l ∈ o, ∀ c ∈ ch l, c ∈ o ∧ rk l < rk c
  nd : ∀ l ∈ o, (ch l).Nodup
  one : ∀ l ∈ o, ∀ m ∈ o, ∀ c, c ∈ ch l → c ∈ ch m → l = m
  all : ∀ x ∈ o, x ≠ en → ∃ l ∈ o, x ∈ ch l ∧ rk l < rk x
  lt : ∀ x ∈ o, rk x < o.length
variable {o : List α} {en : α} {ch : α → List α} {rk : α → Nat}
theorem Tree.sub (h : Tree o en ch rk) : ∀ (n : Nat) (l : α), l ∈ o → ∀ x ∈ below ch n l, x ∈ o ∧ rk l ≤ rk x := by
  intro n
  induction n with
  | zero => intro l _ x hx; simp [below] at hx
  | succ n ih =>
    intro l hl x hx
    simp only [below, List.mem_cons, List.mem_flatMap] at hx
    rcases hx with e | ⟨c, hc, hx⟩
    · rw [e]; exact ⟨hl, Nat.le_refl _⟩
    · obtain ⟨h1, h2⟩ := h.up l hl c hc
      obtain ⟨h3, h4⟩ := ih c h1 x hx
      exact ⟨h3, by omega⟩
/-- what is below l and is not l has its father below l -/
theorem Tree.father (h : Tree o en ch rk) : ∀ (n : Nat) (l : α), l ∈ o → ∀ x ∈ below ch n l, x ≠ l → ∃ f ∈ below ch n l, f ∈ o ∧ x ∈ ch f := by
  intro n
  induction n with
  | zero => intro l _ x hx; simp [below] at hx
  | succ n ih =>
    intro l hl x hx hne
    simp only [below, List.mem_cons, List.mem_flatMap] at hx
    rcases hx with e | ⟨c, hc, hx⟩
    · exact absurd e hne
    · by_cases hxc : x = c
      · exact ⟨l, by simp [below], hl, by rw [hxc]; exact hc⟩
      · obtain ⟨f, hf, hfo, hfx⟩ := ih c (h.up l hl c hc).1 x hx hxc
        exact ⟨f, by simp only [below, List.mem_cons, List.mem_flatMap]; exact .inr ⟨c, hc, hf⟩, hfo, hfx⟩
theorem Tree.apart (h : Tree o en ch rk) {n : Nat} {l c d : α} (hl : l ∈ o) (hc : c ∈ ch l) (hd : d ∈ ch l) (hne : c ≠ d) : ∀ (k : Nat) (x : α), rk x = k → x ∈ below ch n c → x ∉ below ch n d := by
  intro k
  induction k using Nat.strongRecOn with
  | ind k ih =>
    intro x hk hx hx'
    obtain ⟨co, clt⟩ := h.up l hl c hc
    obtain ⟨do_, dlt⟩ := h.up l hl d hd
    by_cases e1 : x = c
    · subst e1
      obtain ⟨f, hf, hfo, hfx⟩ := h.father n d do_ x hx' hne
      have := h.one f hfo l hl x hfx hc
      subst this
      have := (h.sub n d do_ f hf).2
      omega
    · obtain ⟨f, hf, hfo, hfx⟩ := h.father n c co x hx e1
      by_cases e2 : x = d
      · subst e2
        have := h.one f hfo l hl x hfx hd
        subst this
        have := (h.sub n c co f hf).2
        omega
      · obtain ⟨g, hg, hgo, hgx⟩ := h.father n d do_ x hx' e2
        have := h.one f hfo g hgo x hfx hgx
        subst this
        have := (h.up f hfo x hfx).2
        exact ih (rk f) (by omega) f rfl hf hg
theorem nodup_flat {β : Type} {g : α → List β} : ∀ {cs : List α}, cs.Nodup → (∀ c ∈ cs, (g c).Nodup) → (∀ c ∈ cs, ∀ d ∈ cs, c ≠ d → ∀ x ∈ g c, x ∉ g d) → (cs.flatMap g).Nodup := by
  intro cs
  induction cs with
  | nil => intros; simp
  | cons c r ih =>
    intro hn hg ha
    rw [List.flatMap_cons, List.nodup_append]
    rw [List.nodup_cons] at hn
    refine ⟨hg c (by simp), ih hn.2 (fun d hd => hg d (by simp [hd])) (fun a b d e => ha a (by simp [b]) d (by simp [e])), ?_⟩
    intro x hx y hy
    obtain ⟨d, hd, hyd⟩ := List.mem_flatMap.mp hy
    rintro rfl
    exact ha c (by simp) d (by simp [hd]) (fun e => hn.1 (by rw [e]; exact hd)) x hx hyd
theorem Tree.nodup (h : Tree o en ch rk) : ∀ (n : Nat) (l : α), l ∈ o → (below ch n l).Nodup := by
  intro n
  induction n with
  | zero => intro l _; simp [below]
  | succ n ih =>
    intro l hl
    simp only [below, List.nodup_cons]
    refine ⟨?_, nodup_flat (h.nd l hl) (fun c hc => ih c (h.up l hl c hc).1) fun c hc d hd hne x hx => h.apart hl hc hd hne _ x rfl hx⟩
    intro hx
    obtain ⟨c, hc, hx⟩ := List.mem_flatMap.mp hx
    have := (h.sub n c (h.up l hl c hc).1 l hx).2
    have := (h.up l hl c hc).2
    omega
/-- with turns enough, below l closed under children -/
theorem Tree.down (h : Tree o en ch rk) : ∀ (n : Nat) (l : α), l ∈ o → o.length ≤ n + rk l → ∀ f ∈ below ch n l, ∀ c ∈ ch f, c ∈ below ch n l := by
  intro n
  induction n with
  | zero => intro l _ _ f hf; simp [below] at hf
  | succ n ih =>
    intro l hl hn f hf c hc
    simp only [below, List.mem_cons, List.mem_flatMap] at hf ⊢
    rcases hf with e | ⟨d, hd, hf⟩
    · subst e
      obtain ⟨co, clt⟩ := h.up f hl c hc
      refine .inr ⟨c, hc, ?_⟩
      have := h.lt c co
      cases n with
      | zero => omega
      | succ n => simp [below]
    · obtain ⟨do_, dlt⟩ := h.up l hl d hd
      exact .inr ⟨d, hd, ih d do_ (by omega) f hf c hc⟩
theorem Tree.everything (h : Tree o en ch rk) {n : Nat} (he : en ∈ o) (hn : o.length < n) : ∀ (k : Nat) (x : α), rk x = k → x ∈ o → x ∈ below ch n en := by
  intro k
  induction k using Nat.strongRecOn with
  | ind k ih =>
    intro x hk hx
    by_cases e : x = en
    · subst e
      cases n with
      | zero => omega
      | succ n => simp [below]
    · obtain ⟨l, hl, hc, hlt⟩ := h.all x hx e
      exact h.down n en he (by omega) l (ih (rk l) (by omega) l rfl hl) x hc
end
end MT
end

section
/-! Plain mathematics: from an order, the retreating edges and the merge nodes to the tree of the code. -/
set_option linter.all false
namespace MS
open MG MT
variable {α : Type} [DecidableEq α]
/-- forward edges to m: n: the labels of all nodes, R: retreating -/
def fc (ns : List α) (tg : α → List α) (R : α → α → Bool) (m : α) : Nat := (ns.map (fun s => if R s m then 0 else (tg s).count m)).sum
theorem le_sum_of_mem {f : α → Nat} {l : α} : ∀ {ns : List α}, l ∈ ns → f l ≤ (ns.map f).sum
  | [], h => by simp at h
  | x :: r, h => by
    simp only [List.map_cons, List.sum_cons]
    rcases List.mem_cons.mp h with e | e
    · rw [e]; omega
    · have := le_sum_of_mem (f := f) e; omega
theorem le_sum_two {f : α → Nat} {l m : α} (hne : l ≠ m) : ∀ {ns : List α}, l ∈ ns → m ∈ ns → f l + f m ≤ (ns.map f).sum
  | [], h, _ => by simp at h
  | x :: r, h, h' => by
    simp only [List.map_cons, List.sum_cons]
    rcases List.mem_cons.mp h with e | e
    · rcases List.mem_cons.mp h' with e' | e'
      · exact absurd (e.trans e'.symm) hne
      · have := le_sum_of_mem (f := f) e'; rw [e]; omega
    · rcases List.mem_cons.mp h' with e' | e'
      · have := le_sum_of_mem (f := f) e; rw [e']; omega
      · have := le_sum_two (f := f) hne e e'; omega

/-- all that the code is made from -/
structure Struc (en ex : α) (tg : α → List α) (ns o o' : List α) (R : α → α → Bool) (mg : α → Bool) (dm : α → α) : Prop where
  ho : IsOrder en ex tg o
  ho' : IsOrder en ex tg o'
  hne : en ≠ ex
  hns : ∀ x, x ∈ ns ↔ x ∈ o
  hR : ∀ s ∈ o, ∀ t ∈ tg s, t ≠ ex → (R s t = true ↔ place o' t ≤ place o' s)
  hmg : ∀ m, mg m = true ↔ m ∈ o ∧ 2 ≤ fc ns tg R m
  hdm : ∀ m, mg m = true → dm m ∈ o ∧ place o' (dm m) < place o' m
def edgesOf (ex : α) (tg : α → List α) (R : α → α → Bool) (mg : α → Bool) (l : α) : List α := (tg l).filter fun t => decide (t ≠ ex) && !R l t && !mg t
def mergesOf (o : List α) (mg : α → Bool) (dm : α → α) (l : α) : List α := o.filter fun m => mg m && decide (dm m = l)
def ch (ex : α) (tg : α → List α) (o : List α) (R : α → α → Bool) (mg : α → Bool) (dm : α → α) (l : α) : List α := edgesOf ex tg R mg l ++ mergesOf o mg dm l
section
variable {en ex : α} {tg : α → List α} {ns o o' : List α} {R : α → α → Bool} {mg : α → Bool} {dm : α → α}
theorem mem_edges {l t : α} : t ∈ edgesOf ex tg R mg l ↔ t ∈ tg l ∧ t ≠ ex ∧ R l t = false ∧ mg t = false := by
  simp [edgesOf, and_assoc]
theorem mem_merges {l t : α} : t ∈ mergesOf o mg dm l ↔ t ∈ o ∧ mg t = true ∧ dm t = l := by
  simp [mergesOf]
theorem Struc.mem (h : Struc en ex tg ns o o' R mg dm) (x : α) : x ∈ o ↔ x ∈ o' := ⟨fun a => h.ho.mem_of h.ho' (fun _ _ => rfl) a, fun a => h.ho'.mem_of h.ho (fun _ _ => rfl) a⟩
theorem Struc.len (h : Struc en ex tg ns o o' R mg dm) : o'.length = o.length := by
  have a := h.ho.nodup.length_le_of_subset (fun x hx => (h.mem x).mp hx)
  have b := h.ho'.nodup.length_le_of_subset (fun x hx => (h.mem x).mpr hx)
  omega
theorem Struc.tree (h : Struc en ex tg ns o o' R mg dm) : Tree o en (ch ex tg o R mg dm) (place o') where
  up := by
    intro l hl c hc
    rcases List.mem_append.mp hc with hc | hc
    · obtain ⟨h1, h2, h3, h4⟩ := mem_edges.mp hc
      refine ⟨h.ho.closed l hl c h1 h2, ?_⟩
      have := (h.hR l hl c h1 h2)
      rw [h3] at this
      have : ¬ place o' c ≤ place o' l := fun z => by simpa using this.mpr z
      omega
    · obtain ⟨h1, h2, h3⟩ := mem_merges.mp hc
      exact ⟨h1, by rw [← h3]; exact (h.hdm c h2).2⟩
  nd := by
    intro l hl
    rw [ch, List.nodup_append]
    refine ⟨?_, h.ho.nodup.sublist List.filter_sublist, ?_⟩
    · rw [List.nodup_iff_count]
      intro t
      by_cases ht : t ∈ edgesOf ex tg R mg l
      · obtain ⟨h1, h2, h3, h4⟩ := mem_edges.mp ht
        have hc : (edgesOf ex tg R mg l).count t ≤ (tg l).count t := List.Sublist.count_le t List.filter_sublist
        have h5 : (tg l).count t ≤ fc ns tg R t := by
          have := le_sum_of_mem (f := fun s => if R s t then 0 else (tg s).count t) ((h.hns l).mpr hl)
          simp only [h3] at this
          simpa [fc] using this
        have h6 : ¬ 2 ≤ fc ns tg R t := fun z => by
          have := (h.hmg t).mpr ⟨h.ho.closed l hl t h1 h2, z⟩
          rw [h4] at this
          cases this
        omega
      · rw [List.count_eq_zero.mpr ht]; omega
    · intro a ha b hb e
      subst e
      have h1 := (mem_edges.mp ha).2.2.2
      have h2 := (mem_merges.mp hb).2.1
      rw [h1] at h2
      cases h2
  one := by
    intro l hl m hm c hc hc'
    rcases List.mem_append.mp hc with hc | hc
    · obtain ⟨h1, h2, h3, h4⟩ := mem_edges.mp hc
      rcases List.mem_append.mp hc' with hc' | hc'
      · obtain ⟨k1, k2, k3, k4⟩ := mem_edges.mp hc'
        by_cases e : l = m
        · exact e
        have := le_sum_two (f := fun s => if R s c then 0 else (tg s).count c) e ((h.hns l).mpr hl) ((h.hns m).mpr hm)
        simp only [h3, k3] at this
        have a := List.count_pos_iff.mpr h1
        have b := List.count_pos_iff.mpr k1
        have h6 : ¬ 2 ≤ fc ns tg R c := fun z => by
          have := (h.hmg c).mpr ⟨h.ho.closed l hl c h1 h2, z⟩
          rw [h4] at this
          cases this
        have : (tg l).count c + (tg m).count c ≤ fc ns tg R c := by simpa [fc] using this
        omega
      · have := (mem_merges.mp hc').2.1
        rw [h4] at this
        cases this
    · obtain ⟨h1, h2, h3⟩ := mem_merges.mp hc
      rcases List.mem_append.mp hc' with hc' | hc'
      · have := (mem_edges.mp hc').2.2.2
        rw [h2] at this
        cases this
      · exact h3.symm.trans (mem_merges.mp hc').2.2
  all := by
    intro x hx hne
    cases hm : mg x with
    | true =>
      obtain ⟨h1, h2⟩ := h.hdm x hm
      exact ⟨dm x, h1, List.mem_append_right _ (mem_merges.mpr ⟨hx, hm, rfl⟩), h2⟩
    | false =>
      obtain ⟨p, hp, htg, hlt⟩ := h.ho'.before ((h.mem x).mp hx) hne
      have hpo := (h.mem p).mpr hp
      have hex : x ≠ ex := fun z => h.ho.noex (by rw [← z]; exact hx)
      refine ⟨p, hpo, List.mem_append_left _ (mem_edges.mpr ⟨htg, hex, ?_, hm⟩), hlt⟩
      have := h.hR p hpo x htg hex
      cases e : R p x with
      | false => rfl
      | true => have := this.mp e; omega
  lt := by
    intro x hx
    rw [← h.len]
    exact List.idxOf_lt_length_iff.mpr ((h.mem x).mp hx)
/-- the entry is no merge node -/
theorem Struc.entry_no (h : Struc en ex tg ns o o' R mg dm) : mg en = false := by
  cases e : mg en with
  | false => rfl
  | true =>
    have h1 := ((h.hmg en).mp e).2
    have : fc ns tg R en = 0 := by
      unfold fc
      have hz : ∀ s ∈ ns, (if R s en then 0 else (tg s).count en) = 0 := by
        intro s hs
        by_cases hm : en ∈ tg s
        · have := (h.hR s ((h.hns s).mp hs) en hm h.hne).mpr (by rw [h.ho'.place0 h.hne]; omega)
          rw [if_pos this]
        · rw [List.count_eq_zero.mpr hm]; simp
      clear h1 h
      induction ns with
      | nil => rfl
      | cons a r ih =>
        rw [List.map_cons, List.sum_cons, hz a (by simp), ih (fun s hs => hz s (by simp [hs]))]
    omega
end
end MS
end

section
set_option linter.all false
set_option maxRecDepth 100000
/-! Readings, one step each. -/
namespace K5
open PySem PySem.Spec PyProof.Rows L2
section
variable {D : Ends} {σ : L2.St} {H H0 : Hp} {Q : VK} {QB : Bool → Hp → Prop} {QA : List V → Hp → Prop} {te ta tb tx : TE} {t u : TS} {c c2 : TT} {tr : TA} {g : TG} {gs : TGs} {i j : Nat} {v x y : V} {r : R2} {K : PySem.W.Frag} {xs ys : List V} {p l a : Addr} {k : Int} {b : Bool} {A B : Prop} {z : Str}
/-! statements -/
theorem r_seq (h : t { D with nx := u D } σ H) : tSeq t u D σ H := h
theorem r_set (h : te σ H fun x H1 => D.nx (σ.set i (some x)) H1) : tAsg te (gName i) D σ H := h
theorem r_asg (h : te σ H fun x H1 => g x σ H1 D.nx) : tAsg te g D σ H := h
theorem r_ret (h : te σ H D.rt) : tRet te D σ H := h
theorem r_retN (h : D.rt .non H) : tRetN D σ H := h
theorem r_drop (h : te σ H fun _ H1 => D.nx σ H1) : tDrop te D σ H := h
theorem r_next (h : D.nx σ H) : tNext D σ H := h
theorem r_cont (h : D.ct σ H) : tCont D σ H := h
theorem r_brk (h : D.bk σ H) : tBreak D σ H := h
theorem r_if (h : c σ H fun b H1 => if b = true then t D σ H1 else u D σ H1) : tIfS c t u D σ H := h
theorem r_aug {ti : TIp} (e : σ[i]? = some (some x)) (h : te σ H fun y H1 => ti x y H1 fun z H2 => D.nx (σ.set i (some z)) H2) : tAug i te ti D σ H := ⟨x, e, h⟩
theorem r_ip {f : Int → Int → Int} {m n : Int} (h : Q (.int (f m n)) H) : ipI f (.int m) (.int n) H Q := ⟨m, n, rfl, rfl, h⟩
theorem r_for {wi : TI} (h : wi σ H fun J H1 => ∃ W : Nat → Nat → L2.St → Hp → Prop, (∃ m, W 0 m σ H1) ∧ ∀ i m σ H, W i m σ H →
  (J.stop i H ∧ D.nx σ H) ∨ (J.go i H ∧ ∃ N : L2.St → Hp → Prop, (∀ σ' H', N σ' H' → ∃ m', m' < m ∧ W (i + 1) m' σ' H') ∧ ∀ x H', J.yld i H x H' → g x σ H' fun σ2 H2 => t { D with nx := N, ct := N, bk := D.nx } σ2 H2)) : tFor wi g t D σ H := h
theorem r_iTup {R : It → Hp → Prop} (h : te σ H fun x H1 => ∃ a, x = .ref a ∧ (∃ xs, SqT K H1 a xs) ∧ R (Itt K a) H1) : iTup K te σ H R := h
theorem r_iList {R : It → Hp → Prop} (h : te σ H fun x H1 => ∃ a, x = .ref a ∧ (∃ xs, SqL K H1 a xs) ∧ R (Itl K a) H1) : iList K te σ H R := h
theorem r_iEnum {R : It → Hp → Prop} (h : tr σ H fun vs H1 => ∃ a xs, vs = [.ref a] ∧ SqL K H1 a xs ∧ R (Ite K a) H1) : iEnum K tr σ H R := h
theorem r_iRng1 {R : It → Hp → Prop} (h : tr σ H fun vs H1 => ∃ j : Int, vs = [.int j] ∧ -(2 ^ 62) ≤ j ∧ j < 2 ^ 62 ∧ R (Itr 0 j.toNat) H1) : iRng1 tr σ H R := h
theorem r_lc {wi : TI} {tt : TT} {vs : List Nat} (h : wi σ H fun J H1 => ∀ D, H1 D = none → ∃ W : Nat → Nat → Hp → Prop, (∃ m, W 0 m (upd H1 D (.lst []))) ∧ ∀ i m H, W i m H →
  (J.stop i H ∧ Q (.ref D) H) ∨ (J.go i H ∧ ∃ Nx : Hp → Prop, (∀ H', Nx H' → ∃ m', m' < m ∧ W (i + 1) m' H') ∧ ∀ x H', J.yld i H x H' → g x (wipe σ vs) H' fun σ2 H2 => wipe σ2 vs = wipe σ vs ∧ tt σ2 H2 fun b H3 =>
    if b = true then te σ2 H3 fun y H4 => ∃ acc, H4 D = some (.lst acc) ∧ acc.length < sizeLine ∧ Nx (upd H4 D (.lst (acc ++ [y]))) else Nx H3)) : tLc wi g tt te vs σ H Q := h
theorem r_dc {wi : TI} {tt : TT} {vs : List Nat} (h : wi σ H fun J H1 => ∀ D, H1 D = none → ∃ W : Nat → Nat → Hp → Prop, (∃ m, W 0 m (upd H1 D (.dK []))) ∧ ∀ i m H, W i m H →
  (J.stop i H ∧ Q (.ref D) H) ∨ (J.go i H ∧ ∃ Nx : Hp → Prop, (∀ H', Nx H' → ∃ m', m' < m ∧ W (i + 1) m' H') ∧ ∀ x H', J.yld i H x H' → g x (wipe σ vs) H' fun σ2 H2 => wipe σ2 vs = wipe σ vs ∧ tt σ2 H2 fun b H3 =>
    if b = true then ta σ2 H3 fun y H4 => tb σ2 H4 fun z H5 => ∃ kvs k, y = kV k ∧ H5 D = some (.dK kvs) ∧ kvs.length < sizeLine ∧ Nx (upd H5 D (.dK (putK kvs k z))) else Nx H3)) : tDc wi g tt ta tb vs σ H Q := h
/-! targets -/
theorem r_gname {Q2 : L2.St → Hp → Prop} (h : Q2 (σ.set i (some v)) H) : gName i v σ H Q2 := h
theorem r_gtup {Q2 : L2.St → Hp → Prop} {n : Nat} (hp : H p = some (.tup xs)) (hn : xs.length = n) (h : gs xs σ H Q2) : gTup K n gs (.ref p) σ H Q2 := ⟨p, xs, rfl, SqT.of hp, hn, h⟩
theorem r_gcons {Q2 : L2.St → Hp → Prop} (h : g v σ H fun σ' H' => gs xs σ' H' Q2) : gCons g gs (v :: xs) σ H Q2 := ⟨v, xs, rfl, h⟩
theorem r_gnil {Q2 : L2.St → Hp → Prop} (h : Q2 σ H) : gNil [] σ H Q2 := ⟨rfl, h⟩
/-! tests -/
theorem r_test (h : te σ H fun x H' => ∃ k, x = .bl k ∧ QB k H') : tTest te σ H QB := h
theorem r_tB (h : te σ H fun x H' => ∃ k, x = .bl k ∧ QB k H') : tB te σ H QB := h
theorem r_bl {B : Bool → Prop} (h : B b) : ∃ k, V.bl b = .bl k ∧ B k := ⟨b, rfl, h⟩
theorem r_and (h : c σ H fun b H1 => if b = true then c2 σ H1 QB else QB false H1) : tAnd c c2 σ H QB := h
theorem r_or (h : c σ H fun b H1 => if b = true then QB true H1 else c2 σ H1 QB) : tOr c c2 σ H QB := h
theorem r_not (h : c σ H fun b H1 => QB (!b) H1) : tNot c σ H QB := h
theorem r_ifT (hb : b = true) (h : A) : if b = true then A else B := by rw [if_pos hb]; exact h
theorem r_ifF (hb : b = false) (h : B) : if b = true then A else B := by rw [hb]; exact iteF h
theorem r_if2 (h1 : b = true → A) (h2 : b = false → B) : if b = true then A else B := by
  cases b with
  | true => exact iteT (h1 rfl)
  | false => exact iteF (h2 rfl)
/-! expressions -/
theorem r_var (e : σ[i]? = some (some v)) (h : Q v H) : tVar i σ H Q := ⟨v, e, h⟩
theorem r_c (h : Q v H) : tC v σ H Q := h
theorem r_op (h : ta σ H fun x H1 => tb σ H1 fun y H2 => r x y H2 Q) : tOp r ta tb σ H Q := h
theorem r_un {ru : V → Hp → VK → Prop} (h : ta σ H fun x H1 => ru x H1 Q) : tUn ru ta σ H Q := h
theorem r_ifx (h : c σ H fun b H1 => if b = true then ta σ H1 Q else tb σ H1 Q) : tIf c ta tb σ H Q := h
theorem r_andV (h : ta σ H fun x H1 => ∃ c, x = .bl c ∧ if c = true then tb σ H1 Q else Q (.bl false) H1) : tAndV ta tb σ H Q := h
theorem r_orV (h : ta σ H fun x H1 => ∃ c, x = .bl c ∧ if c = true then Q (.bl true) H1 else tb σ H1 Q) : tOrV ta tb σ H Q := h
theorem r_notV (h : ta σ H fun x H1 => ∃ c, x = .bl c ∧ Q (.bl (!c)) H1) : tNotV ta σ H Q := h
theorem r_nil (h : QA [] H) : tNil σ H QA := h
theorem r_cons (h : te σ H fun x H1 => tr σ H1 fun xs H2 => QA (x :: xs) H2) : tCons te tr σ H QA := h
theorem r_cb {rc : List V → Hp → VK → Prop} (h : tr σ H fun vs H1 => rc vs H1 Q) : tCB rc tr σ H Q := h
theorem r_bm {T : String} {rm : V → List V → Hp → VK → Prop} (h : ta σ H fun x H1 => tyV K T x H1 ∧ tr σ H1 fun xs H2 => rm x xs H2 Q) : tBM K T rm ta tr σ H Q := h
theorem r_bm0 {T : String} {rm : V → List V → Hp → VK → Prop} (h : ta σ H fun x H1 => tyV K T x H1 ∧ rm x [] H1 Q) : tBM0 K T rm ta σ H Q := h
theorem r_tyL {B : Prop} (hp : H p = some (.lst xs)) (h : B) : tyV K "list" (.ref p) H ∧ B := ⟨.inl ⟨rfl, _, SqL.of hp⟩, h⟩
theorem r_lst (h : tr σ H fun xs H1 => xs.length ≤ sizeLine ∧ ∀ p, H1 p = none → Q (.ref p) (upd H1 p (.lst xs))) : tLst tr σ H Q := h
theorem r_tup (h : tr σ H fun xs H1 => xs.length ≤ sizeLine ∧ ∀ p, H1 p = none → Q (.ref p) (upd H1 p (.tup xs))) : tTup tr σ H Q := h
theorem r_call {sp : Sp} {dvs : List V} {E : XK} (h : tr σ H fun vs H1 => sp (vs ++ dvs) H1 Q E) : tCall sp dvs E tr σ H Q := h
theorem r_fld {C dx : Addr} {fs : List (Str × V)} {f : Str} (h : ta σ H fun x H1 => ∃ a C dx fs v, x = .ref a ∧ H1 a = some (.ins C dx fs) ∧ Cls K C ∧ NoAttr K C f ∧ fs.lookup f = some v ∧ Q v H1) : tFld K ta f σ H Q := h
/-! operators -/
theorem r_eq (s : scal x y = true) (h : Q (.bl (decide (x = y))) H) : rEq x y H Q := ⟨s, h⟩
theorem r_ne (s : scal x y = true) (h : Q (.bl (!decide (x = y))) H) : rNe x y H Q := ⟨s, h⟩
theorem r_I0 {f : Int → Int → V} {m n : Int} (h : Q (f m n) H) : rI0 f (.int m) (.int n) H Q := ⟨m, n, rfl, rfl, h⟩
theorem r_I {C : Int → Int → Prop} {f : Int → Int → V} {m n : Int} (hc : C m n) (h : Q (f m n) H) : rI C f (.int m) (.int n) H Q := ⟨m, n, rfl, rfl, hc, h⟩
theorem r_ixT (hp : H p = some (.tup xs)) (hv : atI xs k = some v) (h : Q v H) : rIxT K (.ref p) (.int k) H Q := ⟨p, xs, k, v, rfl, rfl, SqT.of hp, hv, h⟩
theorem r_ixL (hp : H p = some (.lst xs)) (hv : atI xs k = some v) (h : Q v H) : rIxL K (.ref p) (.int k) H Q := ⟨p, xs, k, v, rfl, rfl, SqL.of hp, hv, h⟩
theorem r_ixT0 (hp : H p = some (.tup xs)) (hv : xs[0]? = some v) (h : Q v H) : rIxT K (.ref p) (.int 0) H Q := ⟨p, xs, 0, v, rfl, rfl, SqT.of hp, atI_nat (j := 0) hv, h⟩
theorem r_ixT1 (hp : H p = some (.tup xs)) (hv : xs[1]? = some v) (h : Q v H) : rIxT K (.ref p) (.int 1) H Q := ⟨p, xs, 1, v, rfl, rfl, SqT.of hp, atI_nat (j := 1) hv, h⟩
theorem r_ixT2 (hp : H p = some (.tup xs)) (hv : xs[2]? = some v) (h : Q v H) : rIxT K (.ref p) (.int 2) H Q := ⟨p, xs, 2, v, rfl, rfl, SqT.of hp, atI_nat (j := 2) hv, h⟩
theorem r_ixT3 (hp : H p = some (.tup xs)) (hv : xs[3]? = some v) (h : Q v H) : rIxT K (.ref p) (.int 3) H Q := ⟨p, xs, 3, v, rfl, rfl, SqT.of hp, atI_nat (j := 3) hv, h⟩
theorem r_ixT4 (hp : H p = some (.tup xs)) (hv : xs[4]? = some v) (h : Q v H) : rIxT K (.ref p) (.int 4) H Q := ⟨p, xs, 4, v, rfl, rfl, SqT.of hp, atI_nat (j := 4) hv, h⟩
theorem r_ixL0 (hp : H p = some (.lst xs)) (hv : xs[0]? = some v) (h : Q v H) : rIxL K (.ref p) (.int 0) H Q := ⟨p, xs, 0, v, rfl, rfl, SqL.of hp, atI_nat (j := 0) hv, h⟩
theorem r_ixL1 (hp : H p = some (.lst xs)) (hv : xs[1]? = some v) (h : Q v H) : rIxL K (.ref p) (.int 1) H Q := ⟨p, xs, 1, v, rfl, rfl, SqL.of hp, atI_nat (j := 1) hv, h⟩
theorem r_ixL2 (hp : H p = some (.lst xs)) (hv : xs[2]? = some v) (h : Q v H) : rIxL K (.ref p) (.int 2) H Q := ⟨p, xs, 2, v, rfl, rfl, SqL.of hp, atI_nat (j := 2) hv, h⟩
theorem r_ixL3 (hp : H p = some (.lst xs)) (hv : xs[3]? = some v) (h : Q v H) : rIxL K (.ref p) (.int 3) H Q := ⟨p, xs, 3, v, rfl, rfl, SqL.of hp, atI_nat (j := 3) hv, h⟩
theorem r_ixL4 (hp : H p = some (.lst xs)) (hv : xs[4]? = some v) (h : Q v H) : rIxL K (.ref p) (.int 4) H Q := ⟨p, xs, 4, v, rfl, rfl, SqL.of hp, atI_nat (j := 4) hv, h⟩
theorem r_inT {neg : Bool} (hp : H p = some (.tup xs)) (hf : flatV x = true) (ha : xs.all flatV = true) (h : Q (.bl (if neg then !inV x xs else inV x xs)) H) : rIn K neg x (.ref p) H Q := ⟨p, xs, rfl, .inr (SqT.of hp), hf, ha, h⟩
theorem r_inL {neg : Bool} (hp : H p = some (.lst xs)) (hf : flatV x = true) (ha : xs.all flatV = true) (h : Q (.bl (if neg then !inV x xs else inV x xs)) H) : rIn K neg x (.ref p) H Q := ⟨p, xs, rfl, .inl (SqL.of hp), hf, ha, h⟩
/-! lists -/
theorem r_append (hp : H p = some (.lst xs)) (hz : xs.length < 100000) (h : Q .non (upd H p (.lst (xs ++ [v])))) : rAppend (.ref p) [v] H Q := ⟨p, xs, v, rfl, rfl, hp, szl hz, h⟩
theorem r_extend (hp : H p = some (.lst xs)) (ha : H a = some (.lst ys)) (hz : xs.length + ys.length ≤ 100000) (h : Q .non (upd H p (.lst (xs ++ ys)))) : rExtend (.ref p) [.ref a] H Q := ⟨p, a, xs, ys, rfl, rfl, hp, ha, sz hz, h⟩
theorem r_cat (hp : H p = some (.lst xs)) (ha : H a = some (.lst ys)) (hz : xs.length + ys.length ≤ 100000) (h : ∀ q, H q = none → Q (.ref q) (upd H q (.lst (xs ++ ys)))) : rCat (.ref p) (.ref a) H Q := ⟨p, a, xs, ys, rfl, rfl, hp, ha, sz hz, h⟩
/-! slices, tuples, comprehensions -/
theorem r_sl {rs : V → Option Int → Option Int → Hp → VK → Prop} {tl th : TO} (h : te σ H fun x H1 => tl σ H1 fun l H2 => th σ H2 fun u H3 => rs x l u H3 Q) : tSl rs te tl th σ H Q := h
theorem r_part {QO : Option Int → Hp → Prop} (h : te σ H fun x H1 => ∃ i, x = .int i ∧ QO (some i) H1) : tPart te σ H QO := h
theorem r_nop {QO : Option Int → Hp → Prop} (h : QO none H) : tNoPart σ H QO := h
theorem r_int {B : Int → Prop} (h : B k) : ∃ i, V.int k = .int i ∧ B i := ⟨k, rfl, h⟩
theorem r_then {kk : V → Hp → VK → Prop} (h : te σ H fun x H1 => kk x H1 Q) : tThen te kk σ H Q := h
theorem r_yes (h : QB true H) : tYes σ H QB := h
theorem r_kTupL (hp : H p = some (.lst xs)) (h : ∀ q, H q = none → Q (.ref q) (upd H q (.tup xs))) : kTup K (.ref p) H Q := .inl ⟨p, xs, rfl, SqL.of hp, h⟩
theorem r_slFrom {n : Nat} (hp : H p = some (.tup xs)) (h0 : 0 < n) (hn : n ≤ xs.length) (h : ∀ q, H q = none → Q (.ref q) (upd H q (.tup (xs.drop n)))) : rSlT K (.ref p) (some (n : Int)) none H Q := by
  have e1 : HT.sIx xs.length 0 (some (n : Int)) = n := by rw [HT.sIx_nat]; omega
  have e2 : HT.sIx xs.length xs.length none = xs.length := rfl
  refine ⟨p, xs, rfl, SqT.of hp, by rw [e1]; omega, fun q hq => ?_⟩
  have e : cutV xs (some (n : Int)) none = xs.drop n := by
    unfold cutV
    rw [e1, e2, List.take_of_length_le (by simp)]
  rw [e]
  exact h q hq
theorem r_slTo {n : Nat} (hp : H p = some (.tup xs)) (hn : n < xs.length) (h : ∀ q, H q = none → Q (.ref q) (upd H q (.tup (xs.take n)))) : rSlT K (.ref p) none (some (n : Int)) H Q := by
  have e1 : HT.sIx xs.length xs.length (some (n : Int)) = n := by rw [HT.sIx_nat]; omega
  have e2 : HT.sIx xs.length 0 none = 0 := rfl
  refine ⟨p, xs, rfl, SqT.of hp, by rw [e1]; omega, fun q hq => ?_⟩
  have e : cutV xs none (some (n : Int)) = xs.take n := by
    unfold cutV
    rw [e1, e2]; simp
  rw [e]
  exact h q hq
theorem rep_new {ds : List K5.D} (np : H p = none) (r : Reps H ds xs) : Rep (upd H p (.tup xs)) (.tup ds) (.ref p) := tup_rep upd_same (r.s (Same.newo np _))
theorem r_catR {ds es : List K5.D} (hx : Rep H (.tup ds) x) (hy : Rep H (.tup es) y) (hz : ds.length + es.length ≤ 100000) (h : ∀ v H', Same H H' → Rep H' (.tup (ds ++ es)) v → Q v H') : rCatA K x y H Q := by
  obtain ⟨p, xs, rfl, hp, hr⟩ := rep_tup hx
  obtain ⟨q, ys, rfl, hq, hs⟩ := rep_tup hy
  refine ⟨p, q, xs, ys, rfl, rfl, SqT.of hp, SqT.of hq, sz (by rw [hr.len, hs.len]; exact hz), fun e => ?_, fun e e2 => ?_, fun e e2 r hr' => ?_⟩
  · subst e
    have : ds = [] := List.length_eq_zero_iff.mp (by rw [← hr.len]; rfl)
    subst this
    exact h _ _ (Same.refl _) hy
  · subst e2
    have : es = [] := List.length_eq_zero_iff.mp (by rw [← hs.len]; rfl)
    subst this
    rw [List.append_nil] at h
    exact h _ _ (Same.refl _) hx
  · exact h _ _ (Same.newo hr' _) (rep_new hr' (hr.append hs))
theorem inV_str (z : Str) (zs : List Str) : inV (.str z) (zs.map V.str) = decide (z ∈ zs) := by
  induction zs with
  | nil => rfl
  | cons a r ih =>
    have e : inV (.str z) ((a :: r).map V.str) = (eqV (.str a) (.str z) || inV (.str z) (r.map V.str)) := rfl
    rw [e, ih]
    have : eqV (.str a) (.str z) = (a == z) := rfl
    rw [this]
    by_cases h : a = z
    · subst h; simp
    · have h' : ¬ z = a := fun q => h q.symm
      simp [h, h']
theorem flat_strs (zs : List Str) : (zs.map V.str).all flatV = true := by
  induction zs with
  | nil => rfl
  | cons a r ih => rw [List.map_cons, List.all_cons, ih]; rfl
/-- z in a list of texts -/
theorem r_inLs {zs : List Str} (hp : H p = some (.lst (zs.map V.str))) (h : Q (.bl (decide (z ∈ zs))) H) : rIn K false (.str z) (.ref p) H Q := by
  refine r_inL hp rfl (flat_strs zs) ?_
  show Q (.bl (if false = true then _ else inV (.str z) (zs.map V.str))) H
  rw [inV_str]; exact h
theorem r_notInLs {zs : List Str} (hp : H p = some (.lst (zs.map V.str))) (h : Q (.bl (!decide (z ∈ zs))) H) : rIn K true (.str z) (.ref p) H Q := by
  refine r_inL hp rfl (flat_strs zs) ?_
  show Q (.bl (if true = true then !inV (.str z) (zs.map V.str) else _)) H
  rw [inV_str]; exact h
theorem r_inTs {zs : List Str} (hp : H p = some (.tup (zs.map V.str))) (h : Q (.bl (decide (z ∈ zs))) H) : rIn K false (.str z) (.ref p) H Q := by
  refine r_inT hp rfl (flat_strs zs) ?_
  show Q (.bl (if false = true then _ else inV (.str z) (zs.map V.str))) H
  rw [inV_str]; exact h
theorem r_notInTs {zs : List Str} (hp : H p = some (.tup (zs.map V.str))) (h : Q (.bl (!decide (z ∈ zs))) H) : rIn K true (.str z) (.ref p) H Q := by
  refine r_inT hp rfl (flat_strs zs) ?_
  show Q (.bl (if true = true then !inV (.str z) (zs.map V.str) else _)) H
  rw [inV_str]; exact h
theorem atI_m1 {xs : List V} (h : xs.getLast? = some v) : atI xs (-1) = some v := by
  rcases List.eq_nil_or_concat xs with rfl | ⟨r, z, rfl⟩
  · simp at h
  · have : z = v := by simpa using h
    subst this
    rw [List.concat_eq_append]
    exact atI_last _ _
end
/-! finding what stands -/
theorem Same.look {H H' : Hp} {l : Addr} {o : HO} (s : Same H H') (h : H l = some o) : H' l = some o := s l o h
/-- H0's own objects, where l is none of them -/
theorem Same.up {H0 H : Hp} {l a : Addr} {o u : HO} (s : Same H0 H) (hl : H0 l = none) (h : H0 a = some u) : upd H l o a = some u := Same.mut s hl o a u h
end K5
end

section
set_option linter.all false
set_option maxRecDepth 100000
set_option maxHeartbeats 2000000
/-! Rules that the layer lacks: xs.extend(a tuple), t.count(a text). -/
namespace K5
open PySem PySem.Spec PyProof.Rows L2
theorem extend_tupAny (l : Addr) (items : Array Value) (n : Nat) (b : Addr) (items2 : Array Value) (n2 : Nat) (dd : Option Addr) (sl : Array (Option Value)) (hs0 : ¬(!items.isEmpty && Builtin.List.listTooLong (items.size + items2.size)) = true) (hs1 : items.size ≤ sizeLine) (hs2 : items.size + items2.size ≤ sizeLine + 1 := by seq_fits) :
    Meets (Builtin.«list.extend» ⟨[.ref l, .ref b], []⟩) (fun _ R s => s.heap.get? l = some { cls := .type "list", dict := none, data := .seq items n, slots := #[] } ∧ s.heap.get? b = some { cls := .type "tuple", dict := dd, data := .seq items2 n2, slots := sl } ∧ R (.ok (.ret Value.none)) { s with heap := s.heap.update l (Obj.mapSeq fun x => x ++ items2), toks := s.toks }) :=
  .of_wp fun prog w A R s h => by
    obtain ⟨hp, g, d, tk, os⟩ := s; obtain ⟨hl, hb, h⟩ := h; have f1 := AutoSeq1.idx_int; have f2 := AutoSeq1.sub_tuple_tuple; have f3 := AutoSeq1.sub_list_list; have f4 := AutoSeq1.sub_tuple_list; have f5 := AutoSeq1.sub_list_tuple;
    have hz' : (items ++ items2).size ≤ sizeLine + 1 := by rw [Array.size_append]; exact hs2
    wp_walk using (wpAny_updateSeq hl rfl (hz := hs1) (_hz' := hz')), AutoSeq1.wpAny_loadPart' hl, AutoSeq1.wpAny_loadPart' hb; exact ⟨_, rfl, h⟩
section
variable {X : Cx} {pins : List (Addr × Obj)} {σ : L2.St} {H : Hp} {s : Shared}
def rExtendT (K : PySem.W.Frag) : V → List V → Hp → VK → Prop := fun x vs H Q => ∃ l b xs zs, x = .ref l ∧ vs = [.ref b] ∧ H l = some (.lst xs) ∧ SqT K H b zs ∧ xs.length + zs.length ≤ sizeLine ∧ Q .non (upd H l (.lst (xs ++ zs)))
theorem mt_extendT : MtR X "list.extend" (rExtendT X.K) := by
  intro pins s σ H x vs v us Q I rx rv h
  obtain ⟨l, b, xs, zs, rfl, rfl, hH, hB, hz, q⟩ := h
  cases rx
  obtain ⟨u, rfl, ru⟩ := rv.one
  cases ru
  obtain ⟨z, its, n, r, hl, e⟩ := I.lstM hH
  obtain ⟨its2, r2, ⟨ob, e2, hc2, n2, hd2⟩, hz2⟩ := I.tuple hB
  have hl2 := r2.length
  obtain ⟨c2, dd, dt, sl⟩ := ob
  dsimp only at hc2 hd2
  subst hc2 hd2
  have hsz : its.toArray.size + its2.toArray.size ≤ sizeLine := by rw [List.size_toArray, List.size_toArray]; omega
  have hlong : ¬ (!its.toArray.isEmpty && Builtin.List.listTooLong (its.toArray.size + its2.toArray.size)) = true := by
    rw [notLongL hsz, Bool.and_false]
    exact Bool.false_ne_true
  refine call_meets F.slot_list_extend ⟨_, e, rfl⟩ F.entry_list_extend (F.args_list_extend_2 _ _)
    (extend_tupAny l its.toArray n b its2.toArray n2 dd sl hlong (by rw [List.size_toArray]; omega) (by omega)) ⟨e, e2, ?_⟩
  refine ⟨.non, _, I.lset (its' := its ++ its2) hH e (by simp) (r.append r2) ?_, rfl, q⟩
  rw [List.length_append]
  exact hz
theorem r_extendT {K : PySem.W.Frag} {p a : Addr} {xs ys : List V} {Q : VK} (hp : H p = some (.lst xs)) (ha : H a = some (.tup ys)) (hz : xs.length + ys.length ≤ 100000) (h : Q .non (upd H p (.lst (xs ++ ys)))) : rExtendT K (.ref p) [.ref a] H Q := ⟨p, a, xs, ys, rfl, rfl, hp, SqT.of ha, sz hz, h⟩
/-- t.count(z), a tuple of texts -/
def rTcount (K : PySem.W.Frag) : V → List V → Hp → VK → Prop := fun x vs H Q => ∃ (p : Addr) (zs : List Str) (z : Str), x = .ref p ∧ vs = [.str z] ∧ SqT K H p (zs.map V.str) ∧ Q (.int ((zs.count z : Nat) : Int)) H
def eqs (z : Str) (v : Value) : Bool := match v with
  | .str n _ => n == z
  | _ => false
theorem eqs_vals {z : Str} : ∀ {zs : List Str} {us : List Value}, Vals (zs.map V.str) us → (∀ y ∈ us, ∃ a t, y = .str a t) ∧ us.countP (eqs z) = zs.count z
  | [], [], _ => ⟨(fun y hy => by simp at hy), rfl⟩
  | a :: zs, _, r => by
    cases r with
    | cons ra rr =>
      obtain ⟨t, rfl⟩ := ra
      obtain ⟨h1, h2⟩ := eqs_vals (z := z) rr
      refine ⟨fun y hy => ?_, ?_⟩
      · rcases List.mem_cons.mp hy with e | e
        · exact ⟨a, t, e⟩
        · exact h1 y e
      · rw [List.countP_cons, List.count_cons, h2] <;> rfl
theorem mt_tcount : MtR X "tuple.count" (rTcount X.K) := by
  intro pins s σ H x xs v us Q I rx rxs h
  obtain ⟨p, zs, z, rfl, rfl, hs, q⟩ := h
  cases rx
  obtain ⟨u, rfl, ru⟩ := rxs.one
  obtain ⟨t, rfl⟩ := ru
  obtain ⟨its, rv, ⟨⟨cls, dd, data, sl⟩, ho, hc, n, hd⟩, hlen⟩ := I.tuple hs
  simp only at hc hd
  subst hc hd
  obtain ⟨h1, h2⟩ := eqs_vals (z := z) rv
  refine call_meets PySem.F.slot_tuple_count ⟨_, ho, rfl⟩ PySem.F.entry_tuple_count (PySem.F.args_tuple_count_2 _ _)
    (SeqAt.tuple_countAt p its.toArray n dd sl (.str z t) (eqs z)) ⟨ho, fun y hy => ?_, ?_⟩
  · obtain ⟨a, t', rfl⟩ := h1 y (by simpa using hy)
    exact SeqAt.EqAt.str_str a t' z t
  · refine ⟨.int (zs.count z : Nat), H, I.tok _, ⟨s.toks, ?_⟩, q⟩
    show Value.int ((its.toArray.toList.countP (eqs z) : Nat) : Int) s.toks = Value.int ((zs.count z : Nat) : Int) s.toks
    rw [← h2]
theorem r_tcount {K : PySem.W.Frag} {p : Addr} {zs : List Str} {z : Str} {Q : VK} (hp : SqT K H p (zs.map V.str)) (h : Q (.int ((zs.count z : Nat) : Int)) H) : rTcount K (.ref p) [.str z] H Q := ⟨p, zs, z, rfl, rfl, hp, h⟩
/-! ### tuples whose very object is known (no dict of their own): methods may be called on them -/
def tTupF (t : TA) : TE := fun σ H Q => t σ H fun xs H1 => xs.length ≤ sizeLine ∧ ∀ (p : Addr) (o : Obj), H1 p = none → o.dict = none → Q (.ref p) (upd H1 p (.frz o (.tup xs)))
theorem pe_tupF {es : List Expr} {t : TA} {pos : Pos} {x1} (h : PA X es t) : PE X (.Tuple es x1 pos) (tTupF t) := by
  refine ⟨fun pins s σ H Q I hq => ?_⟩
  refine wpAny_Tuple_spliced (thn (h.run pos pins s σ H _ I hq) fun us s1 ⟨xs, H1, I1, r, z, q⟩ => ⟨by rw [← r.length]; exact z, ?_⟩)
  have hf : H1 s1.heap.objs.size = none := I1.hok.fresh (Nat.le_refl _)
  have hg := Heap.get?_push_size (o := ({ cls := .type "tuple", data := .seq us.toArray } : Obj)) s1.heap rfl
  refine ⟨.ref s1.heap.objs.size, upd H1 s1.heap.objs.size (.frz { cls := .type "tuple", data := .seq us.toArray } (.tup xs)), I1.laid (t' := s1.toks) (fun b u e => Heap.get?_push_of_some _ e) (Nat.le_refl _) ?_, rfl, q _ _ hf rfl⟩
  exact ⟨hg, z, us, r, ⟨_, hg, rfl, _, rfl⟩⟩
/-- x + y, both not empty: the new tuple's object is known -/
def rCatF (K : PySem.W.Frag) : R2 := fun x y H Q => ∃ a b xs ys, x = .ref a ∧ y = .ref b ∧ SqT K H a xs ∧ SqT K H b ys ∧ xs ≠ [] ∧ ys ≠ [] ∧ xs.length + ys.length ≤ sizeLine ∧
  ∀ (p : Addr) (o : Obj), H p = none → o.dict = none → Q (.ref p) (upd H p (.frz o (.tup (xs ++ ys))))
theorem op_catF : OpR X (binaryOp .Add) (rCatF X.K) := by
  intro pins s σ H x y v u Q I rx ry h
  obtain ⟨a, b, xs, ys, rfl, rfl, ha, hb, hx, hy, hz, q2⟩ := h
  cases rx
  cases ry
  obtain ⟨its, r1, p1, _⟩ := I.tuple ha
  obtain ⟨its2, r2, p2, _⟩ := I.tuple hb
  refine HT.cat_tup p1 p2 (fun z => hx (r1.nil_iff.mp z)) (fun z => absurd (r2.nil_iff.mp z) hy) (fun z => ?_) (by rw [← r1.length, ← r2.length]; exact hz)
  have hg := Heap.get?_push_size (o := ({ cls := .type "tuple", data := .seq (its ++ its2).toArray } : Obj)) s.heap rfl
  refine ⟨.ref s.heap.objs.size, _, I.laid (t' := s.toks) (o := .frz { cls := .type "tuple", data := .seq (its ++ its2).toArray } (.tup (xs ++ ys))) (fun b ob q => Heap.get?_push_of_some _ q) (Nat.le_refl _) ?_, rfl, q2 _ _ (I.hok.fresh (Nat.le_refl _)) rfl⟩
  exact ⟨hg, by rw [List.length_append]; exact hz, _, r1.append r2, ⟨_, hg, rfl, _, rfl⟩⟩
/-- a method of a tuple whose object is known -/
def tBMF (r : V → List V → Hp → VK → Prop) (to : TE) (t : TA) : TE := fun σ H Q => to σ H fun x H1 => (∃ p ob xs, x = .ref p ∧ H1 p = some (.frz ob (.tup xs)) ∧ ob.dict = none) ∧ t σ H1 fun xs H2 => r x xs H2 Q
theorem pe_bmF {o e : Expr} {es : List Expr} {to : TE} {t : TA} {name : Str} {apos cpos : Pos} {id : String} {r : V → List V → Hp → VK → Prop} (slot : Slot "tuple" name id) (hty : typeOf (.builtin id) = pure (.type "method_descriptor")) (hm : MtR X id r) (ho : PE X o to) (ha : PA X (e :: es) t)
    (hbase : attributeBase o name X.env (eval o X.env) = eval o X.env := by rfl)
    (hfew : ((backTo cpos (starEach (e :: es) X.env)).all (fun x => !x.1) && (backToKw cpos (keywordEach [] X.env)).all (fun x => x.1.isSome)
      && decide ((e :: es).length + ([] : List Keyword).length + (if ([] : List Keyword).isEmpty then 0 else 1) < 30)) = true := by rfl)
    (hline : (apos.endLine == cpos.line) = true := by rfl) (hs : starEach (e :: es) X.env = (false, eval e X.env) :: starEach es X.env := by rfl) (hplain : (backTo cpos (starEach es X.env)).any (·.1) = false := by rfl) :
    PE X (.Call (.Attribute o name apos) (e :: es) [] cpos) (tBMF r to t) := by
  refine ⟨fun pins s σ H Q I h => ?_⟩
  refine wpAny_Call_method_late hbase hfew hline rfl (thn (ho.run pins s σ H _ I h) fun v s1 ⟨x, H1, I1, r1, ty, q1⟩ => ?_)
  obtain ⟨p, ob, xs, rfl, hp, hd⟩ := ty
  obtain ⟨e1, z, its, rv, ho2⟩ := I1.hok p _ hp
  obtain ⟨o2, e2, hc2, _⟩ := ho2
  have h1 : s1.TypeIs v "tuple" := by
    obtain rfl : v = Value.ref p := r1
    exact ⟨o2, e2, hc2⟩
  have h2 : ∀ a, v = .ref a → ∃ ob, s1.heap.get? a = some ob ∧ ob.dict = none := by
    intro a ea
    obtain rfl : v = Value.ref p := r1
    cases ea
    exact ⟨ob, e1, hd⟩
  refine ⟨"tuple", id, PySem.F.plainAttrs_tuple, slot, hty, h1, h2, ?_⟩
  have hA := ha.run cpos pins s1 σ H1 _ I1 q1
  rw [hs] at hA ⊢
  refine Calls.callWith_builtin (by show (false || (backTo cpos (starEach es X.env)).any (·.1)) = false; rw [hplain] <;> rfl) (Calls.evalArgs_plain ?_)
  exact thn hA fun us s2 ⟨vs, H2, I2, r2, q2⟩ => hm pins s2 σ H2 _ vs v us Q I2 r1 r2 q2
end
/-- a tuple whose object is known -/
def TF (H : Hp) (t : Addr) (xs : List V) : Prop := ∃ o : Obj, H t = some (.frz o (.tup xs)) ∧ o.dict = none
theorem TF.s {H H' : Hp} {t : Addr} {xs : List V} (s : Same H H') (h : TF H t xs) : TF H' t xs := by
  obtain ⟨o, a, b⟩ := h
  exact ⟨o, s _ _ a, b⟩
theorem TF.sqt {K : PySem.W.Frag} {H : Hp} {t : Addr} {xs : List V} (h : TF H t xs) : SqT K H t xs := by
  obtain ⟨o, a, b⟩ := h
  exact .inl (.inr ⟨o, a⟩)
end K5
end

section
set_option linter.all false
set_option maxRecDepth 100000
/-! Bodies on the heap, labels_within. -/
namespace K5
open PySem PySem.Spec PyProof.Rows L2 MT
/- steps -/
local macro_rules | `(tactic| walk_at "sm") => `(tactic| first | assumption | exact Same.refl _ | (refine Same.mut ?_ (by assumption) _; walk_at "sm") | (refine Same.trans ?_ (Same.newo (by assumption) _); walk_at "sm") | (refine Same.trans ?_ (by assumption); walk_at "sm"))
local macro_rules | `(tactic| walk_at "hp") => `(tactic| first | assumption | exact upd_same | (refine up_new ?_ (by assumption) _; walk_at "hp") | (refine Same.up ?_ (by assumption) (by assumption); walk_at "sm") | (refine Same.look (by assumption) ?_; walk_at "hp"))
local macro_rules | `(tactic| walk_at "rep") => `(tactic| first | assumption | exact str_rep | exact int_rep | exact non_rep | (refine' Rep.s ?s ?h; (case h => assumption); (case s => walk_at "sm")))
local macro_rules | `(tactic| walk_at "if") => `(tactic| first | ((with_reducible refine' r_ifT ?e ?_); (case e => decide +kernel)) | ((with_reducible refine' r_ifF ?e ?_); (case e => decide +kernel)))
local macro_rules | `(tactic| walk_at "sz") => `(tactic| first | omega | decide | (simp only [List.length_map, List.length_append, List.length_cons, List.length_nil, List.length_take]; omega))
local macro_rules | `(tactic| walk_at "s") => `(tactic| first
  | with_reducible refine r_seq ?_ | with_reducible refine r_set ?_ | with_reducible refine r_asg ?_ | with_reducible refine r_ret ?_ | with_reducible refine r_drop ?_ | with_reducible refine r_next ?_ | with_reducible refine r_cont ?_ | with_reducible refine r_brk ?_
  | with_reducible refine r_if ?_ | with_reducible refine r_test ?_ | with_reducible refine r_tB ?_ | with_reducible refine r_bl ?_ | with_reducible refine r_and ?_ | with_reducible refine r_or ?_ | with_reducible refine r_not ?_
  | ((with_reducible refine' r_var ?e ?_); (case e => rfl)) | with_reducible refine r_c ?_ | with_reducible refine r_op ?_ | with_reducible refine r_un ?_ | with_reducible refine r_ifx ?_ | with_reducible refine r_andV ?_ | with_reducible refine r_orV ?_ | with_reducible refine r_notV ?_
  | with_reducible refine r_nil ?_ | with_reducible refine r_cons ?_ | with_reducible refine r_cb ?_ | with_reducible refine r_bm ?_ | with_reducible refine r_bm0 ?_ | with_reducible refine r_lst ?_ | with_reducible refine r_tup ?_ | with_reducible refine r_call ?_
  | with_reducible refine r_lc ?_ | with_reducible refine r_dc ?_ | with_reducible refine r_for ?_ | with_reducible refine r_iTup ?_ | with_reducible refine r_iList ?_ | with_reducible refine r_iEnum ?_ | with_reducible refine r_iRng1 ?_
  | with_reducible refine r_sl ?_ | with_reducible refine r_part ?_ | with_reducible refine r_nop ?_ | with_reducible refine r_int ?_ | with_reducible refine r_then ?_ | with_reducible refine r_yes ?_
  | with_reducible refine r_gname ?_ | with_reducible refine r_gcons ?_ | with_reducible refine r_gnil ?_
  | ((with_reducible refine' r_eq ?e ?_); (case e => rfl)) | ((with_reducible refine' r_ne ?e ?_); (case e => rfl)) | with_reducible refine r_I0 ?_
  | ((with_reducible refine' r_ixT0 ?e ?f ?_); (case e => walk_at "hp"); (case f => rfl)) | ((with_reducible refine' r_ixT1 ?e ?f ?_); (case e => walk_at "hp"); (case f => rfl)) | ((with_reducible refine' r_ixT2 ?e ?f ?_); (case e => walk_at "hp"); (case f => rfl)) | ((with_reducible refine' r_ixT3 ?e ?f ?_); (case e => walk_at "hp"); (case f => rfl)) | ((with_reducible refine' r_ixT4 ?e ?f ?_); (case e => walk_at "hp"); (case f => rfl)) | ((with_reducible refine' r_ixL0 ?e ?f ?_); (case e => walk_at "hp"); (case f => rfl)) | ((with_reducible refine' r_ixL1 ?e ?f ?_); (case e => walk_at "hp"); (case f => rfl)) | ((with_reducible refine' r_ixL2 ?e ?f ?_); (case e => walk_at "hp"); (case f => rfl)) | ((with_reducible refine' r_ixL3 ?e ?f ?_); (case e => walk_at "hp"); (case f => rfl)) | ((with_reducible refine' r_ixL4 ?e ?f ?_); (case e => walk_at "hp"); (case f => rfl))
  | ((with_reducible refine' r_ixT ?e ?f ?_); (case e => walk_at "hp"); (case f => rfl)) | ((with_reducible refine' r_ixL ?e ?f ?_); (case e => walk_at "hp"); (case f => rfl))
  | ((with_reducible refine' r_append ?e ?f ?_); (case e => walk_at "hp"); (case f => walk_at "sz")) | ((with_reducible refine' r_extend ?e ?e2 ?f ?_); (case e => walk_at "hp"); (case e2 => walk_at "hp"); (case f => walk_at "sz"))
  | ((with_reducible refine' r_tyL ?e ?_); (case e => walk_at "hp")) | walk_at "if")
local macro_rules | `(tactic| walk_at "go") => `(tactic| repeat walk_at "s")
/- steps end -/
abbrev Sm := Stm Str D
mutual
def sD : Sm → D
  | .node l d => .tup [.str "node", .str l, d]
  | .cond l e a b => .tup [.str "if", .str l, e, .tup (sDs a), .tup (sDs b)]
  | .wrap k n b => .tup [.str (if k then "loop" else "block"), .str n, .tup (sDs b)]
  | .jump k n => .tup [.str (if k then "continue" else "break"), .str n]
  | .exit => .tup [.str "exit"]
def sDs : List Sm → List D
  | [] => []
  | s :: r => sD s :: sDs r
end
theorem sDs_len : ∀ b : List Sm, (sDs b).length = b.length
  | [] => rfl
  | s :: r => by unfold sDs; simp [sDs_len r]
theorem sDs_get : ∀ {b : List Sm} {i : Nat} {d : D}, (sDs b)[i]? = some d → ∃ s, b[i]? = some s ∧ d = sD s
  | [], _, _, e => by unfold sDs at e; simp at e
  | s :: r, 0, _, e => by unfold sDs at e; simp at e; exact ⟨s, rfl, e.symm⟩
  | s :: r, i + 1, _, e => by unfold sDs at e; simp at e; simpa using sDs_get e
theorem sDs_app : ∀ a b : List Sm, sDs (a ++ b) = sDs a ++ sDs b
  | [], b => by simp [sDs]
  | s :: r, b => by simp [sDs, sDs_app r b]
/-- a body stands at v -/
abbrev Bd (H : Hp) (b : List Sm) (v : V) : Prop := Rep H (.tup (sDs b)) v
theorem labs_take {b : List Sm} {i : Nat} {s : Sm} (h : b[i]? = some s) : labs (b.take (i + 1)) = labs (b.take i) ++ lab s := by
  have e : b.take (i + 1) = b.take i ++ [s] := by
    obtain ⟨hi, rfl⟩ := List.getElem?_eq_some_iff.mp h
    rw [List.take_succ_eq_append_getElem hi]
  rw [e, labs_append]
  simp [labs]
theorem take_labs_le (b : List Sm) (i : Nat) : (labs (b.take i)).length ≤ (labs b).length := by
  have : labs b = labs (b.take i) ++ labs (b.drop i) := by rw [← labs_append, List.take_append_drop]
  rw [this, List.length_append]; omega
theorem lab_le {b : List Sm} {s : Sm} (h : s ∈ b) : (lab s).length ≤ (labs b).length := by
  induction b with
  | nil => simp at h
  | cons t r ih =>
    simp only [labs, List.length_append]
    rcases List.mem_cons.mp h with e | e
    · rw [e]; omega
    · have := ih e; omega
/-- labels_within(body): a new list of the labels -/
def spLabels (n : Nat) : Sp := fun vs H Q _ => ∃ (v : V) (b : List Sm), vs = [v] ∧ Bd H b v ∧ deps b < n ∧ (labs b).length ≤ 1000 ∧
  ∀ p H', Same H H' → H p = none → H' p = some (.lst ((labs b).map V.str)) → Q (.ref p) H'
section
variable {P : Program} {w : World} {K : PySem.W.Frag} {mg : Str → Option Value} {base : Heap}
theorem cal_no {i : Nat} {x : Str} {ps : List Str} {sp : Sp} (T : Tx w K mg) (hm : (i, x) ∈ gdefs) (hb : ∀ (kV doc pm : Value) (an : Option Addr) (cdv ct : Value) (us : List Value), us.length = ps.length → bindArgs (PySem.W.fnOf x x (defArgs (top i)) (defBody (top i)) (defScope (top i)) .none kV doc pm an cdv ct) ⟨us, []⟩ = pure (ps.zip us))
    (no : ∀ vs H Q E, ¬ sp vs H Q E) : C8.Cal P w K mg base 0 x sp [] := by
  obtain ⟨g, fd, F⟩ := T.gdef _ hm
  exact ⟨He.ga K x, fd, ps, [], ⟨fun vs H Q E h => absurd h (no vs H Q E), fun A outer s H args us vs Q E _ _ _ _ h => absurd h (no vs H Q E)⟩, g, F.kp, F.bindsN hb, .nil⟩
theorem scLabels : FnScope ["body", "found", "statement"] ["body"] (defScope (top 59)) := ⟨rfl, rfl, rfl, by decide +kernel, rfl, by decide +kernel, by decide +kernel⟩
theorem labels_step (T : Tx w K mg) (n : Nat) (c : C8.Cal P w K mg base n "labels_within" (spLabels n) []) : C8.Cal P w K mg base (n + 1) "labels_within" (spLabels (n + 1)) [] := by
  refine cal T (i := 59) (by decide +kernel) scLabels (fun vs H Q E h => ?_) (fun _ _ _ _ _ _ us hl => match us, hl with | [_], _ => rfl) (fun cdv A outer s H vs Q E hr h => ?_)
  · obtain ⟨v, b, rfl, _⟩ := h
    rfl
  obtain ⟨v, b, rfl, hb, hd, hlen, q⟩ := h
  obtain ⟨a, xs, rfl, ha, hx⟩ := rep_tup hb
  refine ⟨_, pss_cons (ps_set (i := 1) scLabels.nd rfl (.inl rfl) (pe_lst pa_nil))
    (pss_cons (ps_for PassesOwn.never rfl (pi_tup (pv 0)) (pg_name (i := 2) scLabels.nd rfl (.inl rfl))
      (pss_one (ps_if (pt_cmpR op_eq (pe_ix ix_tup (pv 2) pe_int (fun _ _ => rfl)) pe_str (nomark _))
        (pss_one (ps_expr (pe_bm PySem.F.plainAttrs_list PySem.F.slot_list_append PySem.F.type_list_append mt_append (pv 1) (pa_cons (pe_ix ix_tup (pv 2) pe_int (fun _ _ => rfl)) pa_nil))))
        (pss_one (ps_if (pt_cmpR op_eq (pe_ix ix_tup (pv 2) pe_int (fun _ _ => rfl)) pe_str (nomark _))
          (pss_cons (ps_expr (pe_bm PySem.F.plainAttrs_list PySem.F.slot_list_append PySem.F.type_list_append mt_append (pv 1) (pa_cons (pe_ix ix_tup (pv 2) pe_int (fun _ _ => rfl)) pa_nil)))
          (pss_cons (ps_expr (pe_bm PySem.F.plainAttrs_list PySem.F.slot_list_extend PySem.F.type_list_extend mt_extend (pv 1) (pa_cons (C8.pe_c c hr (Nat.le_refl _) rfl (pa_cons (pe_ix ix_tup (pv 2) pe_int (fun _ _ => rfl)) pa_nil)) pa_nil)))
          (pss_one (ps_expr (pe_bm PySem.F.plainAttrs_list PySem.F.slot_list_extend PySem.F.type_list_extend mt_extend (pv 1) (pa_cons (C8.pe_c c hr (Nat.le_refl _) rfl (pa_cons (pe_ix ix_tup (pv 2) pe_int (fun _ _ => rfl)) pa_nil)) pa_nil))))))
          (pss_one (ps_if (pt_cmpR op_in_seq (pe_ix ix_tup (pv 2) pe_int (fun _ _ => rfl)) (pe_tup (pa_cons pe_str (pa_cons pe_str pa_nil))) rfl)
            (pss_one (ps_expr (pe_bm PySem.F.plainAttrs_list PySem.F.slot_list_extend PySem.F.type_list_extend mt_extend (pv 1) (pa_cons (C8.pe_c c hr (Nat.le_refl _) rfl (pa_cons (pe_ix ix_tup (pv 2) pe_int (fun _ _ => rfl)) pa_nil)) pa_nil))))
            pss_nil)))))))
    (pss_one (ps_ret (pv 1)))), ?_⟩
  walk_at "go"
  refine ⟨Nat.zero_le _, fun l hl => ?_⟩
  have xl : xs.length = b.length := by rw [hx.len, sDs_len]
  walk_at "go"
  refine ⟨a, rfl, ⟨_, SqT.of (up_new ha hl _)⟩, for_tup (xs := xs) (fun i σ H' => ∃ z, σ = [some (.ref a), some (.ref l), z] ∧ Same H H' ∧ H' l = some (.lst ((labs (b.take i)).map V.str)))
    ⟨none, rfl, Same.newo hl _, upd_same⟩ (fun i σ H' _ ⟨_, _, s1, _⟩ => SqT.of (s1 _ _ ha)) ?_ ?_⟩
  · rintro i y σ H' hi ⟨z, rfl, s1, hl'⟩
    obtain ⟨d, hd1, hy⟩ := hx.got hi
    obtain ⟨st, hst, rfl⟩ := sDs_get hd1
    have hmem : st ∈ b := List.mem_of_getElem? hst
    have hdep := dep_le hmem
    have hle := take_labs_le b i
    have hls := lab_le hmem
    have hstep := labs_take hst
    cases st with
    | node lb de =>
      obtain ⟨t, ts, rfl, ht, hr1⟩ := rep_tup hy
      obtain ⟨x1, r1, rfl, h1, hr1⟩ := cons_reps hr1
      obtain ⟨x2, r2, rfl, h2, hr1⟩ := cons_reps hr1
      obtain rfl := rep_str h1
      obtain rfl := rep_str h2
      walk_at "go"
      exact ⟨_, rfl, Same.mut s1 hl _, by rw [upd_same, hstep]; simp [lab]⟩
    | cond lb e b1 b2 =>
      obtain ⟨t, ts, rfl, ht, hr1⟩ := rep_tup hy
      obtain ⟨x1, r1, rfl, h1, hr1⟩ := cons_reps hr1
      obtain ⟨x2, r2, rfl, h2, hr1⟩ := cons_reps hr1
      obtain ⟨x3, r3, rfl, h3, hr1⟩ := cons_reps hr1
      obtain ⟨x4, r4, rfl, h4, hr1⟩ := cons_reps hr1
      obtain ⟨x5, r5, rfl, h5, hr1⟩ := cons_reps hr1
      obtain rfl := rep_str h1
      obtain rfl := rep_str h2
      simp only [lab, List.length_cons, List.length_append] at hls
      simp only [dep] at hdep
      walk_at "go"
      refine ⟨_, b1, rfl, by walk_at "rep", by omega, by omega, fun p1 H1 s2 n1 e1 => ?_⟩
      walk_at "go"
      refine ⟨_, b2, rfl, by walk_at "rep", by omega, by omega, fun p2 H2 s3 n2 e2 => ?_⟩
      walk_at "go"
      exact ⟨_, rfl, by walk_at "sm", by rw [upd_same, hstep]; simp [lab]⟩
    | wrap k nm b1 =>
      obtain ⟨t, ts, rfl, ht, hr1⟩ := rep_tup hy
      obtain ⟨x1, r1, rfl, h1, hr1⟩ := cons_reps hr1
      obtain ⟨x2, r2, rfl, h2, hr1⟩ := cons_reps hr1
      obtain ⟨x3, r3, rfl, h3, hr1⟩ := cons_reps hr1
      obtain rfl := rep_str h1
      obtain rfl := rep_str h2
      simp only [lab] at hls
      simp only [dep] at hdep
      cases k
      all_goals
        walk_at "go"
        refine ⟨by decide, fun p0 n0 => ?_⟩
        refine r_inT (by walk_at "hp") rfl rfl ?_
        walk_at "go"
        refine ⟨_, b1, rfl, by walk_at "rep", by omega, by omega, fun p1 H1 s2 n1 e1 => ?_⟩
        walk_at "go"
        exact ⟨_, rfl, by walk_at "sm", by rw [upd_same, hstep]; simp [lab]⟩
    | jump k nm =>
      obtain ⟨t, ts, rfl, ht, hr1⟩ := rep_tup hy
      obtain ⟨x1, r1, rfl, h1, hr1⟩ := cons_reps hr1
      obtain rfl := rep_str h1
      cases k
      all_goals
        walk_at "go"
        refine ⟨by decide, fun p0 n0 => ?_⟩
        refine r_inT (by walk_at "hp") rfl rfl ?_
        walk_at "go"
        exact ⟨_, rfl, by walk_at "sm", by rw [hstep, up_new hl' n0]; simp [lab]⟩
    | exit =>
      obtain ⟨t, ts, rfl, ht, hr1⟩ := rep_tup hy
      obtain ⟨x1, r1, rfl, h1, hr1⟩ := cons_reps hr1
      obtain rfl := rep_str h1
      walk_at "go"
      refine ⟨by decide, fun p0 n0 => ?_⟩
      refine r_inT (by walk_at "hp") rfl rfl ?_
      walk_at "go"
      exact ⟨_, rfl, by walk_at "sm", by rw [hstep, up_new hl' n0]; simp [lab]⟩
  · rintro σ H' ⟨z, rfl, s1, hl'⟩
    walk_at "go"
    refine q l H' s1 hl ?_
    rw [hl', xl, List.take_length]
theorem labels_cal (T : Tx w K mg) : ∀ n : Nat, C8.Cal P w K mg base n "labels_within" (spLabels n) []
  | 0 => cal_no T (i := 59) (ps := ["body"]) (by decide +kernel) (fun _ _ _ _ _ _ us hl => match us, hl with | [_], _ => rfl) fun vs H Q E h => by
    obtain ⟨v, b, _, _, h, _⟩ := h
    omega
  | n + 1 => labels_step T n (labels_cal T n)
end
end K5
end

section
set_option linter.all false
set_option maxRecDepth 100000
/-! inner_bodies, around, scopes_of. -/
namespace K5
open PySem PySem.Spec PyProof.Rows L2 MT
/- steps -/
local macro_rules | `(tactic| walk_at "sm") => `(tactic| first | assumption | exact Same.refl _ | (refine Same.mut ?_ (by assumption) _; walk_at "sm") | (refine Same.trans ?_ (Same.newo (by assumption) _); walk_at "sm") | (refine Same.trans ?_ (by assumption); walk_at "sm"))
local macro_rules | `(tactic| walk_at "hp") => `(tactic| first | assumption | exact upd_same | (refine up_new ?_ (by assumption) _; walk_at "hp") | (refine Same.up ?_ (by assumption) (by assumption); walk_at "sm") | (refine Same.look (by assumption) ?_; walk_at "hp"))
local macro_rules | `(tactic| walk_at "rep") => `(tactic| first | assumption | exact str_rep | exact int_rep | exact non_rep | (refine' Rep.s ?s ?h; (case h => assumption); (case s => walk_at "sm")))
local macro_rules | `(tactic| walk_at "if") => `(tactic| first | ((with_reducible refine' r_ifT ?e ?_); (case e => decide +kernel)) | ((with_reducible refine' r_ifF ?e ?_); (case e => decide +kernel)))
local macro_rules | `(tactic| walk_at "sz") => `(tactic| first | omega | decide | (simp only [List.length_map, List.length_append, List.length_cons, List.length_nil, List.length_take]; omega))
local macro_rules | `(tactic| walk_at "s") => `(tactic| first
  | with_reducible refine r_seq ?_ | with_reducible refine r_set ?_ | with_reducible refine r_asg ?_ | with_reducible refine r_ret ?_ | with_reducible refine r_drop ?_ | with_reducible refine r_next ?_ | with_reducible refine r_cont ?_ | with_reducible refine r_brk ?_
  | with_reducible refine r_if ?_ | with_reducible refine r_test ?_ | with_reducible refine r_tB ?_ | with_reducible refine r_bl ?_ | with_reducible refine r_and ?_ | with_reducible refine r_or ?_ | with_reducible refine r_not ?_
  | ((with_reducible refine' r_var ?e ?_); (case e => rfl)) | with_reducible refine r_c ?_ | with_reducible refine r_op ?_ | with_reducible refine r_un ?_ | with_reducible refine r_ifx ?_ | with_reducible refine r_andV ?_ | with_reducible refine r_orV ?_ | with_reducible refine r_notV ?_
  | with_reducible refine r_nil ?_ | with_reducible refine r_cons ?_ | with_reducible refine r_cb ?_ | with_reducible refine r_bm ?_ | with_reducible refine r_bm0 ?_ | with_reducible refine r_lst ?_ | with_reducible refine r_tup ?_ | with_reducible refine r_call ?_
  | with_reducible refine r_lc ?_ | with_reducible refine r_dc ?_ | with_reducible refine r_for ?_ | with_reducible refine r_iTup ?_ | with_reducible refine r_iList ?_ | with_reducible refine r_iEnum ?_ | with_reducible refine r_iRng1 ?_
  | with_reducible refine r_sl ?_ | with_reducible refine r_part ?_ | with_reducible refine r_nop ?_ | with_reducible refine r_int ?_ | with_reducible refine r_then ?_ | with_reducible refine r_yes ?_
  | with_reducible refine r_gname ?_ | with_reducible refine r_gcons ?_ | with_reducible refine r_gnil ?_
  | ((with_reducible refine' r_eq ?e ?_); (case e => rfl)) | ((with_reducible refine' r_ne ?e ?_); (case e => rfl)) | with_reducible refine r_I0 ?_
  | ((with_reducible refine' r_ixT0 ?e ?f ?_); (case e => walk_at "hp"); (case f => rfl)) | ((with_reducible refine' r_ixT1 ?e ?f ?_); (case e => walk_at "hp"); (case f => rfl)) | ((with_reducible refine' r_ixT2 ?e ?f ?_); (case e => walk_at "hp"); (case f => rfl)) | ((with_reducible refine' r_ixT3 ?e ?f ?_); (case e => walk_at "hp"); (case f => rfl)) | ((with_reducible refine' r_ixT4 ?e ?f ?_); (case e => walk_at "hp"); (case f => rfl)) | ((with_reducible refine' r_ixL0 ?e ?f ?_); (case e => walk_at "hp"); (case f => rfl)) | ((with_reducible refine' r_ixL1 ?e ?f ?_); (case e => walk_at "hp"); (case f => rfl)) | ((with_reducible refine' r_ixL2 ?e ?f ?_); (case e => walk_at "hp"); (case f => rfl)) | ((with_reducible refine' r_ixL3 ?e ?f ?_); (case e => walk_at "hp"); (case f => rfl)) | ((with_reducible refine' r_ixL4 ?e ?f ?_); (case e => walk_at "hp"); (case f => rfl))
  | ((with_reducible refine' r_ixT ?e ?f ?_); (case e => walk_at "hp"); (case f => rfl)) | ((with_reducible refine' r_ixL ?e ?f ?_); (case e => walk_at "hp"); (case f => rfl))
  | ((with_reducible refine' r_append ?e ?f ?_); (case e => walk_at "hp"); (case f => walk_at "sz")) | ((with_reducible refine' r_extend ?e ?e2 ?f ?_); (case e => walk_at "hp"); (case e2 => walk_at "hp"); (case f => walk_at "sz"))
  | ((with_reducible refine' r_tyL ?e ?_); (case e => walk_at "hp")) | walk_at "if")
local macro_rules | `(tactic| walk_at "go") => `(tactic| repeat walk_at "s")
/- steps end -/
/-! ### what lies around a label -/
inductive Arr : List Sm → Str → List Sm → Prop where
  | none {b : List Sm} {l : Str} (h : ∀ s ∈ b, ∀ c ∈ inner s, l ∉ labs c) : Arr b l []
  | into {b c : List Sm} {s : Sm} {l : Str} {r : List Sm} (hs : s ∈ b) (hc : c ∈ inner s) (hl : l ∈ labs c) (t : Arr c l r) : Arr b l (s :: r)
def kName (k : Nat) : Str := if k = 0 then "if" else if k = 1 then "block" else "loop"
def hdD (k : Nat × Str) : D := .tup [.str (kName k.1), .str k.2]
theorem mem_labs {b : List Sm} {l : Str} (h : l ∈ labs b) : ∃ s ∈ b, l ∈ lab s := by
  induction b with
  | nil => simp [labs] at h
  | cons t r ih =>
    simp only [labs, List.mem_append] at h
    rcases h with e | e
    · exact ⟨t, by simp, e⟩
    · obtain ⟨s, a, c⟩ := ih e
      exact ⟨s, by simp [a], c⟩
theorem hd_of_inner {s : Sm} {c : List Sm} (h : c ∈ inner s) : ∃ k, hd s = some k := by
  cases s with
  | cond l e a b => exact ⟨_, rfl⟩
  | wrap k n b => exact ⟨_, rfl⟩
  | node _ _ => simp [inner] at h
  | jump _ _ => simp [inner] at h
  | exit => simp [inner] at h
/-- the statements around a label, as kinds and names: the way -/
theorem Arr.way {b : List Sm} {l : Str} {r : List Sm} (h : Arr b l r) : l ∈ labs b → ∃ w, Way b l w ∧ r.map hd = w.map some := by
  induction h with
  | @none b l h =>
    intro hl
    obtain ⟨s, hs, hls⟩ := mem_labs hl
    refine ⟨[], ?_, rfl⟩
    cases s with
    | node l' d => simp [lab] at hls; subst hls; exact .node hs
    | cond l' e p q =>
      simp only [lab, List.mem_cons, List.mem_append] at hls
      rcases hls with e' | e' | e'
      · subst e'; exact .here hs
      · exact absurd e' (h _ hs p (by simp [inner]))
      · exact absurd e' (h _ hs q (by simp [inner]))
    | wrap k n p => exact absurd (by simpa [lab] using hls) (h _ hs p (by simp [inner]))
    | jump _ _ => simp [lab] at hls
    | exit => simp [lab] at hls
  | @into b c s l r hs hc hl t ih =>
    intro _
    obtain ⟨w, hw, e⟩ := ih hl
    obtain ⟨k, hk⟩ := hd_of_inner hc
    exact ⟨k :: w, .into hs hk hc hw, by simp [hk, e]⟩
theorem Arr.nil {b : List Sm} {l : Str} {r : List Sm} (h : Arr b l r) (hl : l ∉ labs b) : r = [] := by
  cases h with
  | none _ => rfl
  | into hs hc hl' _ => exact absurd (lab_sub hs _ (inner_lab hc _ hl')) hl
theorem Arr.heads {b : List Sm} {l : Str} {r : List Sm} (h : Arr b l r) : ∀ s ∈ r, ∃ c, c ∈ inner s := by
  induction h with
  | none _ => intro s hs; simp at hs
  | @into b c s l r hs hc hl t ih =>
    intro s' hs'
    rcases List.mem_cons.mp hs' with e | e
    · subst e; exact ⟨c, hc⟩
    · exact ih s' e
theorem Arr.len {b : List Sm} {l : Str} {r : List Sm} (h : Arr b l r) : r.length ≤ deps b := by
  induction h with
  | none _ => simp
  | @into b c s l r hs hc hl t ih =>
    have := dep_le hs
    have := inner_dep hc
    simp only [List.length_cons]; omega
/-! ### promises -/
def bD (b : List Sm) : D := .tup (sDs b)
/-- inner_bodies(statement): the bodies within -/
def spInner : Sp := fun vs H Q _ => ∃ (v : V) (s : Sm), vs = [v] ∧ Rep H (sD s) v ∧ ∀ v' H', Same H H' → Rep H' (.tup ((inner s).map bD)) v' → Q v' H'
def spAround (n : Nat) : Sp := fun vs H Q _ => ∃ (v : V) (l : Str) (b : List Sm), vs = [v, .str l] ∧ Bd H b v ∧ deps b < n ∧ n ≤ 100 ∧ (labs b).length ≤ 1000 ∧
  ∀ v' H' r, Same H H' → Arr b l r → Rep H' (.tup (sDs r)) v' → Q v' H'
def spScopes : Sp := fun vs H Q _ => ∃ (v : V) (l : Str) (b : List Sm), vs = [v, .str l] ∧ Bd H b v ∧ deps b < 100 ∧ (labs b).length ≤ 1000 ∧
  ∀ v' H' r, Same H H' → Arr b l r → Rep H' (.tup (r.map fun s => hdD ((hd s).getD (0, "")))) v' → Q v' H'
section
variable {P : Program} {w : World} {K : PySem.W.Frag} {mg : Str → Option Value} {base : Heap}
theorem scInner : FnScope ["statement"] ["statement"] (defScope (top 64)) := ⟨rfl, rfl, rfl, by decide +kernel, rfl, by decide +kernel, by decide +kernel⟩
theorem inner_cal (T : Tx w K mg) : C8.Cal P w K mg base 1 "inner_bodies" spInner [] := by
  refine cal T (i := 64) (by decide +kernel) scInner (fun vs H Q E h => ?_) (fun _ _ _ _ _ _ us hl => match us, hl with | [_], _ => rfl) (fun cdv A outer s H vs Q E hr h => ?_)
  · obtain ⟨v, b, rfl, _⟩ := h
    rfl
  obtain ⟨v, st, rfl, hb, q⟩ := h
  refine ⟨_, pss_cons (ps_if (pt_cmpR op_eq (pe_ix ix_tup (pv 0) pe_int (fun _ _ => rfl)) pe_str (nomark _)) (pss_one (ps_ret (pe_slice sl_tup (pv 0) (po_some pe_int) po_none))) pss_nil)
    (pss_cons (ps_if (pt_cmpR op_in_seq (pe_ix ix_tup (pv 0) pe_int (fun _ _ => rfl)) (pe_tup (pa_cons pe_str (pa_cons pe_str pa_nil))) rfl) (pss_one (ps_ret (pe_slice sl_tup (pv 0) (po_some pe_int) po_none))) pss_nil)
    (pss_one (ps_ret (pe_tup pa_nil)))), ?_⟩
  cases st with
  | node lb de =>
    obtain ⟨t, ts, rfl, ht, hr1⟩ := rep_tup hb
    obtain ⟨x1, r1, rfl, h1, hr1⟩ := cons_reps hr1
    obtain rfl := rep_str h1
    walk_at "go"
    refine ⟨by decide, fun p0 n0 => ?_⟩
    refine r_inT (by walk_at "hp") rfl rfl ?_
    walk_at "go"
    refine ⟨by decide, fun p1 n1 => ?_⟩
    exact q _ _ (by walk_at "sm") (rep_new n1 reps_nil)
  | cond lb e b1 b2 =>
    obtain ⟨t, ts, rfl, ht, hr1⟩ := rep_tup hb
    have hl := hr1.len
    have hd3 := hr1.drop 3
    obtain ⟨x1, r1, rfl, h1, hr1⟩ := cons_reps hr1
    obtain rfl := rep_str h1
    walk_at "go"
    refine r_slFrom (n := 3) (by walk_at "hp") (by decide) (by rw [hl]; simp) fun p0 n0 => ?_
    exact q _ _ (by walk_at "sm") (rep_new n0 hd3)
  | wrap k nm b1 =>
    obtain ⟨t, ts, rfl, ht, hr1⟩ := rep_tup hb
    have hl := hr1.len
    have hd3 := hr1.drop 2
    obtain ⟨x1, r1, rfl, h1, hr1⟩ := cons_reps hr1
    obtain rfl := rep_str h1
    cases k
    all_goals
      walk_at "go"
      refine ⟨by decide, fun p0 n0 => ?_⟩
      refine r_inT (by walk_at "hp") rfl rfl ?_
      walk_at "go"
      refine r_slFrom (n := 2) (by walk_at "hp") (by decide) (by rw [hl]; simp) fun p1 n1 => ?_
      exact q _ _ (by walk_at "sm") (rep_new n1 (hd3.s (by walk_at "sm")))
  | jump k nm =>
    obtain ⟨t, ts, rfl, ht, hr1⟩ := rep_tup hb
    obtain ⟨x1, r1, rfl, h1, hr1⟩ := cons_reps hr1
    obtain rfl := rep_str h1
    cases k
    all_goals
      walk_at "go"
      refine ⟨by decide, fun p0 n0 => ?_⟩
      refine r_inT (by walk_at "hp") rfl rfl ?_
      walk_at "go"
      refine ⟨by decide, fun p1 n1 => ?_⟩
      exact q _ _ (by walk_at "sm") (rep_new n1 reps_nil)
  | exit =>
    obtain ⟨t, ts, rfl, ht, hr1⟩ := rep_tup hb
    obtain ⟨x1, r1, rfl, h1, hr1⟩ := cons_reps hr1
    obtain rfl := rep_str h1
    walk_at "go"
    refine ⟨by decide, fun p0 n0 => ?_⟩
    refine r_inT (by walk_at "hp") rfl rfl ?_
    walk_at "go"
    refine ⟨by decide, fun p1 n1 => ?_⟩
    exact q _ _ (by walk_at "sm") (rep_new n1 reps_nil)
theorem cal_mono {k j : Nat} {x : Str} {sp : Sp} {dvs : List V} (c : C8.Cal P w K mg base k x sp dvs) (h : k ≤ j) : C8.Cal P w K mg base j x sp dvs := by
  obtain ⟨f, fd, ps, ds, F, a, b, c, d⟩ := c.ex
  exact ⟨f, fd, ps, ds, F.mono h, a, b, c, d⟩
theorem bD_reps : ∀ {H : Hp} {bs : List (List Sm)} {xs : List V} {i : Nat} {x : V}, Reps H (bs.map bD) xs → xs[i]? = some x → ∃ c, bs[i]? = some c ∧ Bd H c x := by
  intro H bs xs i x h hi
  obtain ⟨d, hd, hr⟩ := h.got hi
  rw [List.getElem?_map] at hd
  cases e : bs[i]? with
  | none => rw [e] at hd; simp at hd
  | some c =>
    rw [e] at hd
    simp at hd
    subst hd
    exact ⟨c, rfl, hr⟩
theorem scAround : FnScope ["body", "label", "statement", "inner"] ["body", "label"] (defScope (top 65)) := ⟨rfl, rfl, rfl, by decide +kernel, rfl, by decide +kernel, by decide +kernel⟩
theorem around_step (T : Tx w K mg) (n : Nat) (c : C8.Cal P w K mg base (100 + n) "around" (spAround n) []) : C8.Cal P w K mg base (100 + n + 1) "around" (spAround (n + 1)) [] := by
  have cI : C8.Cal P w K mg base 1 "inner_bodies" spInner [] := inner_cal T
  have cL : C8.Cal P w K mg base 100 "labels_within" (spLabels 100) [] := labels_cal T 100
  refine cal T (i := 65) (by decide +kernel) scAround (fun vs H Q E h => ?_) (fun _ _ _ _ _ _ us hl => match us, hl with | [_, _], _ => rfl) (fun cdv A outer s H vs Q E hr h => ?_)
  · obtain ⟨v, l, b, rfl, _⟩ := h
    rfl
  obtain ⟨v, l, b, rfl, hb, hd, hn, hlen, q⟩ := h
  obtain ⟨a, xs, rfl, ha, hx⟩ := rep_tup hb
  refine ⟨_, pss_cons (ps_for PassesOwn.never rfl (pi_tup (pv 0)) (pg_name (i := 2) scAround.nd rfl (.inl rfl))
      (pss_one (ps_for PassesOwn.never rfl (pi_tup (C8.pe_c cI hr (by omega) rfl (pa_cons (pv 2) pa_nil))) (pg_name (i := 3) scAround.nd rfl (.inl rfl))
        (pss_one (ps_if (pt_cmpR op_in_seq (pv 1) (C8.pe_c cL hr (by omega) rfl (pa_cons (pv 3) pa_nil)) rfl)
          (pss_one (ps_ret (pe_op op_catA (pe_tup (pa_cons (pv 2) pa_nil)) (C8.pe_c c hr (by omega) rfl (pa_cons (pv 3) (pa_cons (pv 1) pa_nil)))))) pss_nil)))))
    (pss_one (ps_ret (pe_tup pa_nil))), ?_⟩
  have xl : xs.length = b.length := by rw [hx.len, sDs_len]
  walk_at "go"
  refine ⟨a, rfl, ⟨_, SqT.of ha⟩, for_tup (xs := xs) (fun i σ H' => (∃ z z2, σ = [some (.ref a), some (.str l), z, z2]) ∧ Same H H' ∧ ∀ j s, j < i → b[j]? = some s → ∀ c ∈ inner s, l ∉ labs c)
    ⟨⟨none, none, rfl⟩, Same.refl _, fun j s h => absurd h (by omega)⟩ (fun i σ H' _ ⟨_, s1, _⟩ => SqT.of (s1 _ _ ha)) ?_ ?_⟩
  · rintro i y σ H' hi ⟨⟨z, z2, rfl⟩, s1, hno⟩
    obtain ⟨d, hd1, hy⟩ := hx.got hi
    obtain ⟨st, hst, rfl⟩ := sDs_get hd1
    have hmem : st ∈ b := List.mem_of_getElem? hst
    walk_at "go"
    refine ⟨y, st, rfl, by walk_at "rep", fun v1 H1 s2 h2 => ?_⟩
    obtain ⟨a1, xs1, rfl, ha1, hx1⟩ := rep_tup h2
    refine ⟨a1, rfl, ⟨_, SqT.of ha1⟩, for_tup (xs := xs1) (fun i' σ H' => (∃ z2, σ = [some (.ref a), some (.str l), some y, z2]) ∧ Same H H' ∧ Same H1 H' ∧ ∀ j c, j < i' → (inner st)[j]? = some c → l ∉ labs c)
      ⟨⟨z2, rfl⟩, by walk_at "sm", Same.refl _, fun j s h => absurd h (by omega)⟩ (fun i σ H' _ ⟨_, _, s1, _⟩ => SqT.of (s1 _ _ ha1)) ?_ ?_⟩
    · rintro i' y' σ H'' hi' ⟨⟨z2, rfl⟩, s3, s4, hno'⟩
      obtain ⟨c', hc', hy'⟩ := bD_reps hx1 hi'
      have hcm : c' ∈ inner st := List.mem_of_getElem? hc'
      have hdd := inner_dep hcm
      have hdb := dep_le hmem
      have hll : (labs c').length ≤ (labs b).length := by
        have h1 := lab_le hmem
        have h2 : (labs c').length ≤ (lab st).length := by
          cases st with
          | cond l' e p q => simp [inner] at hcm; rcases hcm with e | e <;> subst e <;> simp [lab] <;> omega
          | wrap k n p => simp [inner] at hcm; subst hcm; simp [lab]
          | node _ _ => simp [inner] at hcm
          | jump _ _ => simp [inner] at hcm
          | exit => simp [inner] at hcm
        omega
      walk_at "go"
      refine ⟨y', c', rfl, by walk_at "rep", by omega, by omega, fun p5 H5 s5 n5 e5 => ?_⟩
      refine r_inLs e5 ?_
      walk_at "go"
      refine r_if2 (fun hc => ?_) (fun hc => ?_)
      · have hl : l ∈ labs c' := of_decide_eq_true hc
        walk_at "go"
        refine ⟨by show 1 ≤ sizeLine; decide, fun p6 n6 => ?_⟩
        walk_at "go"
        refine ⟨y', l, c', rfl, by walk_at "rep", by omega, by omega, by omega, fun v7 H7 r s7 ar h7 => ?_⟩
        have hal := ar.len
        have h6 : Rep (upd H5 p6 (.tup [y])) (.tup [sD st]) (.ref p6) := rep_new n6 (reps_cons (by walk_at "rep") reps_nil)
        refine r_catR (ds := [sD st]) (es := sDs r) (by walk_at "rep") h7 (by rw [sDs_len]; simp; omega) fun v8 H8 s8 h8 => ?_
        exact q v8 H8 (st :: r) (by walk_at "sm") (.into hmem hcm hl ar) h8
      · have hl : l ∉ labs c' := of_decide_eq_false hc
        walk_at "go"
        refine ⟨⟨_, rfl⟩, by walk_at "sm", by walk_at "sm", fun j c hj e => ?_⟩
        by_cases hji : j = i'
        · subst hji
          rw [hc'] at e
          cases e
          exact hl
        · exact hno' j c (by omega) e
    · rintro σ H'' ⟨⟨z2, rfl⟩, s3, s4, hno'⟩
      refine ⟨⟨_, _, rfl⟩, s3, fun j s hj e c hc => ?_⟩
      by_cases hji : j = i
      · subst hji
        rw [hst] at e
        cases e
        obtain ⟨k, hk⟩ := List.getElem?_of_mem hc
        have hkl : k < xs1.length := by
          have := (List.getElem?_eq_some_iff.mp hk).1
          rw [hx1.len, List.length_map]; exact this
        exact hno' k c hkl hk
      · exact hno j s (by omega) e c hc
  · rintro σ H' ⟨⟨z, z2, rfl⟩, s1, hno⟩
    walk_at "go"
    refine ⟨Nat.zero_le _, fun p1 n1 => ?_⟩
    refine q _ _ [] (by walk_at "sm") (.none fun s hs c hc => ?_) (rep_new n1 reps_nil)
    obtain ⟨j, hj⟩ := List.getElem?_of_mem hs
    exact hno j s (by rw [xl]; exact (List.getElem?_eq_some_iff.mp hj).1) hj c hc
theorem around_cal (T : Tx w K mg) : ∀ n : Nat, C8.Cal P w K mg base (100 + n) "around" (spAround n) []
  | 0 => cal_mono (cal_no T (i := 65) (ps := ["body", "label"]) (by decide +kernel) (fun _ _ _ _ _ _ us hl => match us, hl with | [_, _], _ => rfl) fun vs H Q E h => by
    obtain ⟨v, l, b, _, _, h, _⟩ := h
    omega) (Nat.zero_le _)
  | n + 1 => around_step T n (around_cal T n)
end
end K5
end

section
set_option linter.all false
set_option maxRecDepth 100000
/-! scopes_of, breaks_to. -/
namespace K5
open PySem PySem.Spec PyProof.Rows L2 MT
/- steps -/
local macro_rules | `(tactic| walk_at "sm") => `(tactic| first | assumption | exact Same.refl _ | (refine Same.mut ?_ (by assumption) _; walk_at "sm") | (refine Same.trans ?_ (Same.newo (by assumption) _); walk_at "sm") | (refine Same.trans ?_ (by assumption); walk_at "sm"))
local macro_rules | `(tactic| walk_at "hp") => `(tactic| first | assumption | exact upd_same | (refine up_new ?_ (by assumption) _; walk_at "hp") | (refine Same.up ?_ (by assumption) (by assumption); walk_at "sm") | (refine Same.look (by assumption) ?_; walk_at "hp"))
local macro_rules | `(tactic| walk_at "rep") => `(tactic| first | assumption | exact str_rep | exact int_rep | exact non_rep | (refine' Rep.s ?s ?h; (case h => assumption); (case s => walk_at "sm")))
local macro_rules | `(tactic| walk_at "if") => `(tactic| first | ((with_reducible refine' r_ifT ?e ?_); (case e => decide +kernel)) | ((with_reducible refine' r_ifF ?e ?_); (case e => decide +kernel)))
local macro_rules | `(tactic| walk_at "sz") => `(tactic| first | omega | decide | (simp only [List.length_map, List.length_append, List.length_cons, List.length_nil, List.length_take]; omega))
local macro_rules | `(tactic| walk_at "s") => `(tactic| first
  | with_reducible refine r_seq ?_ | with_reducible refine r_set ?_ | with_reducible refine r_asg ?_ | with_reducible refine r_ret ?_ | with_reducible refine r_drop ?_ | with_reducible refine r_next ?_ | with_reducible refine r_cont ?_ | with_reducible refine r_brk ?_
  | with_reducible refine r_if ?_ | with_reducible refine r_test ?_ | with_reducible refine r_tB ?_ | with_reducible refine r_bl ?_ | with_reducible refine r_and ?_ | with_reducible refine r_or ?_ | with_reducible refine r_not ?_
  | ((with_reducible refine' r_var ?e ?_); (case e => rfl)) | with_reducible refine r_c ?_ | with_reducible refine r_op ?_ | with_reducible refine r_un ?_ | with_reducible refine r_ifx ?_ | with_reducible refine r_andV ?_ | with_reducible refine r_orV ?_ | with_reducible refine r_notV ?_
  | with_reducible refine r_nil ?_ | with_reducible refine r_cons ?_ | with_reducible refine r_cb ?_ | with_reducible refine r_bm ?_ | with_reducible refine r_bm0 ?_ | with_reducible refine r_lst ?_ | with_reducible refine r_tup ?_ | with_reducible refine r_call ?_
  | with_reducible refine r_lc ?_ | with_reducible refine r_dc ?_ | with_reducible refine r_for ?_ | with_reducible refine r_iTup ?_ | with_reducible refine r_iList ?_ | with_reducible refine r_iEnum ?_ | with_reducible refine r_iRng1 ?_
  | with_reducible refine r_sl ?_ | with_reducible refine r_part ?_ | with_reducible refine r_nop ?_ | with_reducible refine r_int ?_ | with_reducible refine r_then ?_ | with_reducible refine r_yes ?_
  | with_reducible refine r_gname ?_ | with_reducible refine r_gcons ?_ | with_reducible refine r_gnil ?_
  | ((with_reducible refine' r_eq ?e ?_); (case e => rfl)) | ((with_reducible refine' r_ne ?e ?_); (case e => rfl)) | with_reducible refine r_I0 ?_
  | ((with_reducible refine' r_ixT0 ?e ?f ?_); (case e => walk_at "hp"); (case f => rfl)) | ((with_reducible refine' r_ixT1 ?e ?f ?_); (case e => walk_at "hp"); (case f => rfl)) | ((with_reducible refine' r_ixT2 ?e ?f ?_); (case e => walk_at "hp"); (case f => rfl)) | ((with_reducible refine' r_ixT3 ?e ?f ?_); (case e => walk_at "hp"); (case f => rfl)) | ((with_reducible refine' r_ixT4 ?e ?f ?_); (case e => walk_at "hp"); (case f => rfl)) | ((with_reducible refine' r_ixL0 ?e ?f ?_); (case e => walk_at "hp"); (case f => rfl)) | ((with_reducible refine' r_ixL1 ?e ?f ?_); (case e => walk_at "hp"); (case f => rfl)) | ((with_reducible refine' r_ixL2 ?e ?f ?_); (case e => walk_at "hp"); (case f => rfl)) | ((with_reducible refine' r_ixL3 ?e ?f ?_); (case e => walk_at "hp"); (case f => rfl)) | ((with_reducible refine' r_ixL4 ?e ?f ?_); (case e => walk_at "hp"); (case f => rfl))
  | ((with_reducible refine' r_ixT ?e ?f ?_); (case e => walk_at "hp"); (case f => rfl)) | ((with_reducible refine' r_ixL ?e ?f ?_); (case e => walk_at "hp"); (case f => rfl))
  | ((with_reducible refine' r_append ?e ?f ?_); (case e => walk_at "hp"); (case f => walk_at "sz")) | ((with_reducible refine' r_extend ?e ?e2 ?f ?_); (case e => walk_at "hp"); (case e2 => walk_at "hp"); (case f => walk_at "sz"))
  | ((with_reducible refine' r_tyL ?e ?_); (case e => walk_at "hp")) | walk_at "if")
local macro_rules | `(tactic| walk_at "go") => `(tactic| repeat walk_at "s")
/- steps end -/
section
variable {P : Program} {w : World} {K : PySem.W.Frag} {mg : Str → Option Value} {base : Heap}
theorem scScopes : FnScope ["body", "label", "statement"] ["body", "label"] (defScope (top 66)) := ⟨rfl, rfl, rfl, by decide +kernel, rfl, by decide +kernel, by decide +kernel⟩
theorem hd_take {H : Hp} {s : Sm} {v : V} {c : List Sm} (hc : c ∈ inner s) (h : Rep H (sD s) v) : ∃ a x y r, v = .ref a ∧ H a = some (.tup (x :: y :: r)) ∧ 2 < (x :: y :: r).length ∧ Reps H [.str (kName ((hd s).getD (0, "")).1), .str ((hd s).getD (0, "")).2] [x, y] := by
  cases s with
  | cond l' e p q =>
    obtain ⟨a, xs, rfl, ha, hr⟩ := rep_tup h
    have hl := hr.len
    obtain ⟨x1, r1, rfl, h1, hr⟩ := cons_reps hr
    obtain ⟨x2, r2, rfl, h2, hr⟩ := cons_reps hr
    exact ⟨a, x1, x2, r2, rfl, ha, by rw [hl]; simp, reps_cons h1 (reps_cons h2 reps_nil)⟩
  | wrap k n p =>
    obtain ⟨a, xs, rfl, ha, hr⟩ := rep_tup h
    have hl := hr.len
    obtain ⟨x1, r1, rfl, h1, hr⟩ := cons_reps hr
    obtain ⟨x2, r2, rfl, h2, hr⟩ := cons_reps hr
    refine ⟨a, x1, x2, r2, rfl, ha, by rw [hl]; simp, reps_cons ?_ (reps_cons h2 reps_nil)⟩
    cases k <;> exact h1
  | node _ _ => simp [inner] at hc
  | jump _ _ => simp [inner] at hc
  | exit => simp [inner] at hc
theorem scopes_cal (T : Tx w K mg) : C8.Cal P w K mg base 202 "scopes_of" spScopes [] := by
  have cA : C8.Cal P w K mg base 200 "around" (spAround 100) [] := around_cal T 100
  have mT := T.free "tuple" (by decide +kernel)
  refine cal T (i := 66) (by decide +kernel) scScopes (fun vs H Q E h => ?_) (fun _ _ _ _ _ _ us hl => match us, hl with | [_, _], _ => rfl) (fun cdv A outer s H vs Q E hr h => ?_)
  · obtain ⟨v, l, b, rfl, _⟩ := h
    rfl
  obtain ⟨v, l, b, rfl, hb, hd', hlen, q⟩ := h
  refine ⟨_, pss_one (ps_ret (pe_tupleOf rfl mT (pe_lc (own := [("statement", 2)]) (g := gName 2) (tt := tYes) (te := tSl (rSlT K) (tVar 2) tNoPart (tPart (tC (.int 2)))) rfl scScopes.nd (pi_tup (C8.pe_c cA hr (by omega) rfl (pa_cons (pv 0) (pa_cons (pv 1) pa_nil))))
    (blkOk_by (N := ["body", "label", "statement"]) (sc := defScope (top 66)) (by decide +kernel)) (fun _ _ _ _ _ => pg_name (i := 2) scScopes.nd rfl (.inl rfl)) (fun _ _ _ _ _ => pts_nil) (fun _ _ _ _ _ => pe_slice sl_tup (pv 2) po_none (po_some pe_int))))), ?_⟩
  walk_at "go"
  refine ⟨v, l, b, rfl, hb, by omega, by omega, hlen, fun v1 H1 r s1 ar h1 => ?_⟩
  obtain ⟨a, xs, rfl, ha, hx⟩ := rep_tup h1
  have hal := ar.len
  have xl : xs.length = r.length := by rw [hx.len, sDs_len]
  refine ⟨a, rfl, ⟨_, SqT.of ha⟩, fun D hD => lc_tup (xs := xs) (fun i H' => Same H1 H' ∧ ∃ ys, H' D = some (.lst ys) ∧ ys.length = i ∧ Reps H' ((r.take i).map fun s => hdD ((hd s).getD (0, ""))) ys)
    ⟨Same.newo hD _, [], upd_same, rfl, reps_nil⟩ (fun i H' _ ⟨s2, _⟩ => SqT.of (s2 _ _ ha)) ?_ ?_⟩
  · rintro i y H' hi ⟨s2, ys, e2, l2, r2⟩
    obtain ⟨d, hd1, hy⟩ := hx.got hi
    obtain ⟨st, hst, rfl⟩ := sDs_get hd1
    obtain ⟨c, hc⟩ := ar.heads st (List.mem_of_getElem? hst)
    obtain ⟨a5, x5, y5, r5, rfl, h5, l5, g5⟩ := hd_take hc hy
    have hir : i < r.length := (List.getElem?_eq_some_iff.mp hst).1
    walk_at "go"
    refine ⟨rfl, ?_⟩
    walk_at "go"
    refine r_slTo (n := 2) (by walk_at "hp") l5 fun p3 n3 => ?_
    have nD : D ≠ p3 := ne_of_none e2 n3
    refine ⟨ys, up_new e2 n3 _, szl (by omega), by walk_at "sm", ys ++ [.ref p3], upd_same, by simp [l2], ?_⟩
    have hs3 : Same H' (upd H' p3 (.tup [x5, y5])) := Same.newo n3 _
    have te : TE_ (upd H' p3 (.tup [x5, y5])) (upd (upd H' p3 (.tup [x5, y5])) D (.lst (ys ++ [.ref p3]))) := fun b zs hb => by
      rw [upd_ne (fun e => by rw [e, upd_ne nD, e2] at hb; cases hb)]
      exact hb
    have et : r.take (i + 1) = r.take i ++ [st] := by
      obtain ⟨hi', rfl⟩ := List.getElem?_eq_some_iff.mp hst
      rw [List.take_succ_eq_append_getElem hi']
    rw [et, List.map_append]
    refine Reps.mono te (Reps.append (r2.s hs3) (reps_cons (rep_new n3 (g5.s s2)) reps_nil))
  · rintro H' ⟨s2, ys, e2, l2, r2⟩
    refine r_kTupL e2 fun p3 n3 => ?_
    refine q _ _ r (by walk_at "sm") ar (rep_new n3 ?_)
    rw [xl, List.take_length] at r2
    exact r2
end
end K5
end

section
set_option linter.all false
set_option maxRecDepth 100000
/-! breaks_to. -/
namespace K5
open PySem PySem.Spec PyProof.Rows L2 MT
/- steps -/
local macro_rules | `(tactic| walk_at "sm") => `(tactic| first | assumption | exact Same.refl _ | (refine Same.mut ?_ (by assumption) _; walk_at "sm") | (refine Same.trans ?_ (Same.newo (by assumption) _); walk_at "sm") | (refine Same.trans ?_ (by assumption); walk_at "sm"))
local macro_rules | `(tactic| walk_at "hp") => `(tactic| first | assumption | exact upd_same | (refine up_new ?_ (by assumption) _; walk_at "hp") | (refine Same.up ?_ (by assumption) (by assumption); walk_at "sm") | (refine Same.look (by assumption) ?_; walk_at "hp"))
local macro_rules | `(tactic| walk_at "rep") => `(tactic| first | assumption | exact str_rep | exact int_rep | exact non_rep | (refine' Rep.s ?s ?h; (case h => assumption); (case s => walk_at "sm")))
local macro_rules | `(tactic| walk_at "if") => `(tactic| first | ((with_reducible refine' r_ifT ?e ?_); (case e => decide +kernel)) | ((with_reducible refine' r_ifF ?e ?_); (case e => decide +kernel)))
local macro_rules | `(tactic| walk_at "sz") => `(tactic| first | omega | decide | (simp only [List.length_map, List.length_append, List.length_cons, List.length_nil, List.length_take]; omega))
local macro_rules | `(tactic| walk_at "s") => `(tactic| first
  | with_reducible refine r_seq ?_ | with_reducible refine r_set ?_ | with_reducible refine r_asg ?_ | with_reducible refine r_ret ?_ | with_reducible refine r_drop ?_ | with_reducible refine r_next ?_ | with_reducible refine r_cont ?_ | with_reducible refine r_brk ?_
  | with_reducible refine r_if ?_ | with_reducible refine r_test ?_ | with_reducible refine r_tB ?_ | with_reducible refine r_bl ?_ | with_reducible refine r_and ?_ | with_reducible refine r_or ?_ | with_reducible refine r_not ?_
  | ((with_reducible refine' r_var ?e ?_); (case e => rfl)) | with_reducible refine r_c ?_ | with_reducible refine r_op ?_ | with_reducible refine r_un ?_ | with_reducible refine r_ifx ?_ | with_reducible refine r_andV ?_ | with_reducible refine r_orV ?_ | with_reducible refine r_notV ?_
  | with_reducible refine r_nil ?_ | with_reducible refine r_cons ?_ | with_reducible refine r_cb ?_ | with_reducible refine r_bm ?_ | with_reducible refine r_bm0 ?_ | with_reducible refine r_lst ?_ | with_reducible refine r_tup ?_ | with_reducible refine r_call ?_
  | with_reducible refine r_lc ?_ | with_reducible refine r_dc ?_ | with_reducible refine r_for ?_ | with_reducible refine r_iTup ?_ | with_reducible refine r_iList ?_ | with_reducible refine r_iEnum ?_ | with_reducible refine r_iRng1 ?_
  | with_reducible refine r_sl ?_ | with_reducible refine r_part ?_ | with_reducible refine r_nop ?_ | with_reducible refine r_int ?_ | with_reducible refine r_then ?_ | with_reducible refine r_yes ?_
  | with_reducible refine r_gname ?_ | with_reducible refine r_gcons ?_ | with_reducible refine r_gnil ?_
  | ((with_reducible refine' r_eq ?e ?_); (case e => rfl)) | ((with_reducible refine' r_ne ?e ?_); (case e => rfl)) | with_reducible refine r_I0 ?_
  | ((with_reducible refine' r_ixT0 ?e ?f ?_); (case e => walk_at "hp"); (case f => rfl)) | ((with_reducible refine' r_ixT1 ?e ?f ?_); (case e => walk_at "hp"); (case f => rfl)) | ((with_reducible refine' r_ixT2 ?e ?f ?_); (case e => walk_at "hp"); (case f => rfl)) | ((with_reducible refine' r_ixT3 ?e ?f ?_); (case e => walk_at "hp"); (case f => rfl)) | ((with_reducible refine' r_ixT4 ?e ?f ?_); (case e => walk_at "hp"); (case f => rfl)) | ((with_reducible refine' r_ixL0 ?e ?f ?_); (case e => walk_at "hp"); (case f => rfl)) | ((with_reducible refine' r_ixL1 ?e ?f ?_); (case e => walk_at "hp"); (case f => rfl)) | ((with_reducible refine' r_ixL2 ?e ?f ?_); (case e => walk_at "hp"); (case f => rfl)) | ((with_reducible refine' r_ixL3 ?e ?f ?_); (case e => walk_at "hp"); (case f => rfl)) | ((with_reducible refine' r_ixL4 ?e ?f ?_); (case e => walk_at "hp"); (case f => rfl))
  | ((with_reducible refine' r_ixT ?e ?f ?_); (case e => walk_at "hp"); (case f => rfl)) | ((with_reducible refine' r_ixL ?e ?f ?_); (case e => walk_at "hp"); (case f => rfl))
  | ((with_reducible refine' r_append ?e ?f ?_); (case e => walk_at "hp"); (case f => walk_at "sz")) | ((with_reducible refine' r_extend ?e ?e2 ?f ?_); (case e => walk_at "hp"); (case e2 => walk_at "hp"); (case f => walk_at "sz"))
  | ((with_reducible refine' r_tyL ?e ?_); (case e => walk_at "hp")) | walk_at "if")
local macro_rules | `(tactic| walk_at "go") => `(tactic| repeat walk_at "s")
/- steps end -/
def spBreaks (n : Nat) : Sp := fun vs H Q _ => ∃ (v : V) (nm : Str) (b : List Sm), vs = [v, .str nm] ∧ Bd H b v ∧ deps b < n ∧ ∀ c H', Same H H' → Q (.bl c) H'
section
variable {P : Program} {w : World} {K : PySem.W.Frag} {mg : Str → Option Value} {base : Heap}
theorem scBreaks : FnScope ["body", "name", "statement"] ["body", "name"] (defScope (top 81)) := ⟨rfl, rfl, rfl, by decide +kernel, rfl, by decide +kernel, by decide +kernel⟩
theorem breaks_step (T : Tx w K mg) (n : Nat) (c : C8.Cal P w K mg base n "breaks_to" (spBreaks n) []) : C8.Cal P w K mg base (n + 1) "breaks_to" (spBreaks (n + 1)) [] := by
  refine cal T (i := 81) (by decide +kernel) scBreaks (fun vs H Q E h => ?_) (fun _ _ _ _ _ _ us hl => match us, hl with | [_, _], _ => rfl) (fun cdv A outer s H vs Q E hr h => ?_)
  · obtain ⟨v, l, b, rfl, _⟩ := h
    rfl
  obtain ⟨v, nm, b, rfl, hb, hd, q⟩ := h
  obtain ⟨a, xs, rfl, ha, hx⟩ := rep_tup hb
  refine ⟨_, pss_cons (ps_for PassesOwn.never rfl (pi_tup (pv 0)) (pg_name (i := 2) scBreaks.nd rfl (.inl rfl))
      (pss_cons (ps_if (PW.pt (pw_and (pt_cmpR op_eq (pe_ix ix_tup (pv 2) pe_int (fun _ _ => rfl)) pe_str (nomark _)) (pw_and1 (pt_cmpR op_eq (pe_ix ix_tup (pv 2) pe_int (fun _ _ => rfl)) (pv 1) (nomark _))))) (pss_one (ps_ret pe_bl)) pss_nil)
      (pss_cons (ps_if (PW.pt (pw_and (pt_cmpR op_eq (pe_ix ix_tup (pv 2) pe_int (fun _ _ => rfl)) pe_str (nomark _)) (pw_and1 (PW.pt (pw_or
          (pt_val (C8.pe_c c hr (Nat.le_refl _) rfl (pa_cons (pe_ix ix_tup (pv 2) pe_int (fun _ _ => rfl)) (pa_cons (pv 1) pa_nil))))
          (pw_or1 (pt_val (C8.pe_c c hr (Nat.le_refl _) rfl (pa_cons (pe_ix ix_tup (pv 2) pe_int (fun _ _ => rfl)) (pa_cons (pv 1) pa_nil)))))))))) (pss_one (ps_ret pe_bl)) pss_nil)
      (pss_one (ps_if (PW.pt (pw_and (pt_cmpR op_in_seq (pe_ix ix_tup (pv 2) pe_int (fun _ _ => rfl)) (pe_tup (pa_cons pe_str (pa_cons pe_str pa_nil))) rfl)
          (pw_and (pt_cmpR op_ne (pe_ix ix_tup (pv 2) pe_int (fun _ _ => rfl)) (pv 1) (nomark _))
          (pw_and1 (pt_val (C8.pe_c c hr (Nat.le_refl _) rfl (pa_cons (pe_ix ix_tup (pv 2) pe_int (fun _ _ => rfl)) (pa_cons (pv 1) pa_nil)))))))) (pss_one (ps_ret pe_bl)) pss_nil)))))
    (pss_one (ps_ret pe_bl)), ?_⟩
  walk_at "go"
  refine ⟨a, rfl, ⟨_, SqT.of ha⟩, for_tup (xs := xs) (fun i σ H' => (∃ z, σ = [some (.ref a), some (.str nm), z]) ∧ Same H H')
    ⟨⟨none, rfl⟩, Same.refl _⟩ (fun i σ H' _ ⟨_, s1⟩ => SqT.of (s1 _ _ ha)) ?_ ?_⟩
  · rintro i y σ H' hi ⟨⟨z, rfl⟩, s1⟩
    obtain ⟨d, hd1, hy⟩ := hx.got hi
    obtain ⟨st, hst, rfl⟩ := sDs_get hd1
    have hmem : st ∈ b := List.mem_of_getElem? hst
    have hdep := dep_le hmem
    cases st with
    | node lb de =>
      obtain ⟨t, ts, rfl, ht, hr1⟩ := rep_tup hy
      obtain ⟨x1, r1, rfl, h1, hr1⟩ := cons_reps hr1
      obtain rfl := rep_str h1
      walk_at "go"
      refine ⟨by decide, fun p0 n0 => ?_⟩
      refine r_inT (by walk_at "hp") rfl rfl ?_
      walk_at "go"
      exact ⟨⟨_, rfl⟩, by walk_at "sm"⟩
    | cond lb e b1 b2 =>
      obtain ⟨t, ts, rfl, ht, hr1⟩ := rep_tup hy
      obtain ⟨x1, r1, rfl, h1, hr1⟩ := cons_reps hr1
      obtain ⟨x2, r2, rfl, h2, hr1⟩ := cons_reps hr1
      obtain ⟨x3, r3, rfl, h3, hr1⟩ := cons_reps hr1
      obtain ⟨x4, r4, rfl, h4, hr1⟩ := cons_reps hr1
      obtain ⟨x5, r5, rfl, h5, hr1⟩ := cons_reps hr1
      obtain rfl := rep_str h1
      obtain rfl := rep_str h2
      simp only [dep] at hdep
      walk_at "go"
      refine ⟨_, nm, b1, rfl, by walk_at "rep", by omega, fun c1 H1 s2 => ?_⟩
      walk_at "go"
      refine r_if2 (fun hc => ?_) (fun hc => ?_)
      · walk_at "go"
        exact q _ _ (by walk_at "sm")
      · walk_at "go"
        refine ⟨_, nm, b2, rfl, by walk_at "rep", by omega, fun c2 H2 s3 => ?_⟩
        walk_at "go"
        refine r_if2 (fun hc => ?_) (fun hc => ?_)
        · walk_at "go"
          exact q _ _ (by walk_at "sm")
        · walk_at "go"
          refine ⟨by decide, fun p0 n0 => ?_⟩
          refine r_inT (by walk_at "hp") rfl rfl ?_
          walk_at "go"
          exact ⟨⟨_, rfl⟩, by walk_at "sm"⟩
    | wrap k nm2 b1 =>
      obtain ⟨t, ts, rfl, ht, hr1⟩ := rep_tup hy
      obtain ⟨x1, r1, rfl, h1, hr1⟩ := cons_reps hr1
      obtain ⟨x2, r2, rfl, h2, hr1⟩ := cons_reps hr1
      obtain ⟨x3, r3, rfl, h3, hr1⟩ := cons_reps hr1
      obtain rfl := rep_str h1
      obtain rfl := rep_str h2
      simp only [dep] at hdep
      cases k
      all_goals
        walk_at "go"
        refine ⟨by decide, fun p0 n0 => ?_⟩
        refine r_inT (by walk_at "hp") rfl rfl ?_
        walk_at "go"
        refine r_if2 (fun hc => ?_) (fun hc => ?_)
        · walk_at "go"
          refine ⟨_, nm, b1, rfl, by walk_at "rep", by omega, fun c1 H1 s2 => ?_⟩
          walk_at "go"
          refine r_if2 (fun hc => ?_) (fun hc => ?_)
          · walk_at "go"
            exact q _ _ (by walk_at "sm")
          · walk_at "go"
            exact ⟨⟨_, rfl⟩, by walk_at "sm"⟩
        · walk_at "go"
          exact ⟨⟨_, rfl⟩, by walk_at "sm"⟩
    | jump k nm2 =>
      obtain ⟨t, ts, rfl, ht, hr1⟩ := rep_tup hy
      obtain ⟨x1, r1, rfl, h1, hr1⟩ := cons_reps hr1
      obtain ⟨x2, r2, rfl, h2, hr1⟩ := cons_reps hr1
      obtain rfl := rep_str h1
      obtain rfl := rep_str h2
      cases k
      · walk_at "go"
        refine r_if2 (fun hc => ?_) (fun hc => ?_)
        · walk_at "go"
          exact q _ _ (by walk_at "sm")
        · walk_at "go"
          refine ⟨by decide, fun p0 n0 => ?_⟩
          refine r_inT (by walk_at "hp") rfl rfl ?_
          walk_at "go"
          exact ⟨⟨_, rfl⟩, by walk_at "sm"⟩
      · walk_at "go"
        refine ⟨by decide, fun p0 n0 => ?_⟩
        refine r_inT (by walk_at "hp") rfl rfl ?_
        walk_at "go"
        exact ⟨⟨_, rfl⟩, by walk_at "sm"⟩
    | exit =>
      obtain ⟨t, ts, rfl, ht, hr1⟩ := rep_tup hy
      obtain ⟨x1, r1, rfl, h1, hr1⟩ := cons_reps hr1
      obtain rfl := rep_str h1
      walk_at "go"
      refine ⟨by decide, fun p0 n0 => ?_⟩
      refine r_inT (by walk_at "hp") rfl rfl ?_
      walk_at "go"
      exact ⟨⟨_, rfl⟩, by walk_at "sm"⟩
  · rintro σ H' ⟨⟨z, rfl⟩, s1⟩
    walk_at "go"
    exact q _ _ s1
theorem breaks_cal (T : Tx w K mg) : ∀ n : Nat, C8.Cal P w K mg base n "breaks_to" (spBreaks n) []
  | 0 => cal_no T (i := 81) (ps := ["body", "name"]) (by decide +kernel) (fun _ _ _ _ _ _ us hl => match us, hl with | [_, _], _ => rfl) fun vs H Q E h => by
    obtain ⟨v, l, b, _, _, h, _⟩ := h
    omega
  | n + 1 => breaks_step T n (breaks_cal T n)
end
end K5
end

section
set_option linter.all false
set_option maxRecDepth 100000
/-! Dicts, truth, while; graphs on the heap. -/
namespace K5
open PySem PySem.Spec PyProof.Rows L2
section
variable {De : Ends} {σ : L2.St} {H H0 : Hp} {Q : VK} {te ta tb tx : TE} {t u : TS} {c : TT} {tr : TA} {v x y : V} {K : PySem.W.Frag} {xs ys : List V} {p l a d : Addr} {k : Int} {b : Bool} {z : Str} {kvs : List (Key × V)}
/-- d[z] for a text z -/
abbrev dv (kvs : List (Key × V)) (z : Str) : Option V := valV kvs (Sum.inr z)
theorem r_dgetE (h : ta σ H fun x H1 => tb σ H1 fun y H2 => ∃ a v, x = .ref a ∧ DGet H2 a y (some v) ∧ Q v H2) : tDGet ta tb σ H Q := h
theorem r_dinE (h : ta σ H fun y H1 => tb σ H1 fun x H2 => ∃ a o, x = .ref a ∧ DGet H2 a y o ∧ Q (.bl o.isSome) H2) : tDIn ta tb σ H Q := h
theorem r_dninE (h : ta σ H fun y H1 => tb σ H1 fun x H2 => ∃ a o, x = .ref a ∧ DGet H2 a y o ∧ Q (.bl (!o.isSome)) H2) : tDNotIn ta tb σ H Q := h
theorem r_dputE (h : tx σ H fun v H1 => ta σ H1 fun x H2 => tb σ H2 fun y H3 => ∃ a H4, x = .ref a ∧ DPut H3 a y v H4 ∧ De.nx σ H4) : sDPut ta tb tx De σ H := h
theorem r_dnew (h : ∀ p, H p = none → Q (.ref p) (upd H p (.dK []))) : tDNewK σ H Q := h
theorem r_dg {B : V → Prop} (hd : H d = some (.dK kvs)) (hv : dv kvs z = some v) (h : B v) : ∃ a v, V.ref d = .ref a ∧ DGet H a (.str z) (some v) ∧ B v := ⟨d, v, rfl, by rw [← hv]; exact DGet.k (k := Sum.inr z) hd, h⟩
theorem r_dgo {B : Option V → Prop} (hd : H d = some (.dK kvs)) (h : B (dv kvs z)) : ∃ a o, V.ref d = .ref a ∧ DGet H a (.str z) o ∧ B o := ⟨d, _, rfl, DGet.k (k := Sum.inr z) hd, h⟩
theorem r_dp {B : Hp → Prop} (hd : H d = some (.dK kvs)) (hz : kvs.length < 100000) (h : B (upd H d (.dK (putK kvs (Sum.inr z) v)))) : ∃ a H4, V.ref d = .ref a ∧ DPut H a (.str z) v H4 ∧ B H4 := ⟨d, _, rfl, DPut.k (k := Sum.inr z) hd (szl hz), h⟩
theorem put_len (kvs : List (Key × V)) (z : Key) (v : V) : (putK kvs z v).length ≤ kvs.length + 1 := by
  unfold putK
  split <;> simp
theorem put_keys_new {kvs : List (Key × V)} {z : Key} (v : V) (h : valV kvs z = none) : putK kvs z v = kvs ++ [(z, v)] := by
  unfold putK
  rw [valV_any, h]; simp
theorem dv_put (kvs : List (Key × V)) (z z' : Str) (v : V) : dv (putK kvs (Sum.inr z) v) z' = if z' = z then some v else dv kvs z' := by
  show valV _ _ = _
  rw [valV_put]
  by_cases h : z' = z
  · subst h; simp
  · rw [if_neg h, if_neg (fun e => h (Sum.inr.inj e))]
theorem r_pop (hp : H p = some (.lst (xs ++ [v]))) (h : Q v (upd H p (.lst xs))) : rPop (.ref p) [] H Q := ⟨p, xs ++ [v], v, rfl, rfl, hp, by simp, by rw [List.dropLast_concat]; exact h⟩
theorem r_ixLm1 (hp : H p = some (.lst (xs ++ [v]))) (h : Q v H) : rIxL K (.ref p) (.int (-1)) H Q := ⟨p, xs ++ [v], -1, v, rfl, rfl, SqL.of hp, atI_last _ _, h⟩
theorem r_ixTm1 (hp : H p = some (.tup (xs ++ [v]))) (h : Q v H) : rIxT K (.ref p) (.int (-1)) H Q := ⟨p, xs ++ [v], -1, v, rfl, rfl, SqT.of hp, atI_last _ _, h⟩
theorem r_neg (h : Q (.int (-k)) H) : rU (fun i => .int (-i)) (.int k) H Q := ⟨k, rfl, h⟩
theorem r_truL {B : Bool → Prop} (hp : H p = some (.lst xs)) (h : B (!xs.isEmpty)) : ∃ k, TruV K (.ref p) H k ∧ B k := ⟨_, .inl ⟨xs, SqL.of hp, rfl⟩, h⟩
theorem r_while (h : ∃ W : Nat → L2.St → Hp → Prop, (∃ m, W m σ H) ∧ ∀ m σ H, W m σ H → c σ H fun b H1 => if b = true then ∃ N : L2.St → Hp → Prop, (∀ σ' H', N σ' H' → ∃ m', m' < m ∧ W m' σ' H') ∧ t { De with nx := N, ct := N, bk := De.nx } σ H1 else De.nx σ H1) : tWhile c t De σ H := h
theorem r_listOf {B : Addr → List V → Prop} (hp : SqT K H p xs) (h : ∀ l, H l = none → B l xs) : ∃ p' ys, ([V.ref p] : List V) = [.ref p'] ∧ (SqL K H p' ys ∨ SqT K H p' ys) ∧ ∀ l, H l = none → B l ys := ⟨p, xs, rfl, .inr hp, h⟩
/-- fresh later, fresh before -/
theorem fb (s : Same H0 H) (h : H l = none) : H0 l = none := Same.free s h
theorem gstr {w : World} {mg : Str → Option Value} (T : Tx w K mg) {x z : Str} (h : (x, z) ∈ cstrs) : ∃ u, mg x = some u ∧ RelV (.str z) u := by
  obtain ⟨t, e⟩ := T.cstr _ h
  exact ⟨_, e, t, rfl⟩
theorem gint {w : World} {mg : Str → Option Value} (T : Tx w K mg) {x : Str} {z : Int} (h : (x, z) ∈ cints) : ∃ u, mg x = some u ∧ RelV (.int z) u := by
  obtain ⟨t, e⟩ := T.cint _ h
  exact ⟨_, e, t, rfl⟩
end
/-! ### graphs -/
/-- a dict of targets: its keys U in order, each with a tuple of its targets -/
def TgD (H : Hp) (d : Addr) (U : List Str) (tg : Str → List Str) : Prop :=
  ∃ kvs : List (Key × V), H d = some (.dK kvs) ∧ kvs.map (·.1) = U.map Sum.inr ∧ ∀ l ∈ U, ∃ t, dv kvs l = some (.ref t) ∧ TF H t ((tg l).map V.str)
/-- a graph: pair of the entry and the dict of the targets -/
def GrAt (H : Hp) (v : V) (en : Str) (U : List Str) (tg : Str → List Str) : Prop := ∃ g d, v = .ref g ∧ H g = some (.tup [.str en, .ref d]) ∧ TgD H d U tg
/-- what is asked of a graph: closed, small -/
structure GrOk (en : Str) (U : List Str) (tg : Str → List Str) : Prop where
  two : ∀ l ∈ U, (tg l).length ≤ 2
  cl : ∀ l ∈ U, ∀ t ∈ tg l, t ≠ "exit" → t ∈ U
  en : en ≠ "exit" → en ∈ U
  nex : ("exit" : Str) ∉ U
  nd : U.Nodup
  len : U.length ≤ 60
theorem TgD.s {H H' : Hp} (s : Same H H') {d : Addr} {U : List Str} {tg : Str → List Str} (h : TgD H d U tg) : TgD H' d U tg := by
  obtain ⟨kvs, h1, h2, h3⟩ := h
  exact ⟨kvs, s _ _ h1, h2, fun l hl => by obtain ⟨t, a, b⟩ := h3 l hl; exact ⟨t, a, b.s s⟩⟩
theorem GrAt.s {H H' : Hp} (s : Same H H') {v : V} {en : Str} {U : List Str} {tg : Str → List Str} (h : GrAt H v en U tg) : GrAt H' v en U tg := by
  obtain ⟨g, d, h1, h2, h3⟩ := h
  exact ⟨g, d, h1, s _ _ h2, h3.s s⟩
end K5
end

section
set_option linter.all false
set_option maxRecDepth 100000
set_option maxHeartbeats 1000000
/-! enumerate over a tuple; loops over enumerate. -/
namespace K5
open PySem PySem.Spec PyProof.Rows L2
open PySem.Sem (wp)
theorem meets_enumerate_newB1 {v : Value} {o : Obj} {H : Heap → Prop} (B : Begins v o H) :
    Meets (Builtin.«enumerate.__new__» ⟨[.type "enumerate", v], []⟩) (fun _ R s => H s.heap ∧
      R (.ok (.ret (.ref (s.heap.push o).objs.size))) { s with heap := (s.heap.push o).push { cls := .type "enumerate", data := .fields #[.none, .bool false, .ref s.heap.objs.size, rawInt 0, .none, .none] } }) :=
  .of_wp fun prog w A R s h => by
    obtain ⟨hp, g, d, tk, os⟩ := s; obtain ⟨h1, h⟩ := h
    have hsub := sub_enumerate
    have q1 : ∀ {A' : Around} {E : Value → Shared → Prop} {Q : Value → Shared → Prop}, Q (.ref hp.objs.size) ⟨hp.push o, g, d, tk, os⟩ → wpAny (model prog w) A' (pyIter v) Q E ⟨hp, g, d, tk, os⟩ :=
      fun q => B.iter prog w _ _ ⟨hp, g, d, tk, os⟩ _ h1 q
    wp_walk using q1
    refine wpAny_stack_any fun st => wpAny_pure ?_
    split
    · rename_i c _ _ _ _ _
      cases (c == Value.type "enumerate")
      · wp_walk using q1
        exact ⟨_, rfl, h⟩
      · wp_walk using q1
        exact ⟨_, rfl, h⟩
    · wp_walk using q1
      exact ⟨_, rfl, h⟩
section
variable {prog : PySem.Program} {w : World} {A : Around} {E : Value → Shared → Prop} {s : Shared}
theorem call_enumerate_B1 {v : Value} {o : Obj} {H : Heap → Prop} {Q : Value → Shared → Prop} (B : Begins v o H) (h1 : H s.heap)
    (h : ∀ h', IsEnum h' (s.heap.objs.size + 1) s.heap.objs.size 0 .none → h'.get? s.heap.objs.size = some o → h'.objs.size = s.heap.objs.size + 2 →
      (∀ b o, s.heap.get? b = some o → h'.get? b = some o) → Q (.ref (s.heap.objs.size + 1)) { s with heap := h' }) :
    wpAny (model prog w) A (call (.type "enumerate") [v]) Q E s := by
  refine callType_new F.called_enumerate (by decide) (F.typeCall_enumerate_1 _) (F.newCall_enumerate_1 _) (fun obj => F.args_object_init_2 obj _) F.entry_enumerate_new
    (meets_enumerate_newB1 B) ⟨h1, ?_⟩
  have hz : (s.heap.push o).objs.size = s.heap.objs.size + 1 := Heap.size_push ..
  show _ ∧ _
  rw [hz]
  have he : IsEnum ((s.heap.push o).push { cls := .type "enumerate", data := .fields #[.none, .bool false, .ref s.heap.objs.size, rawInt 0, .none, .none] }) (s.heap.objs.size + 1) s.heap.objs.size 0 .none := by
    have := Heap.get?_push_size (s.heap.push o) (o := { cls := .type "enumerate", data := .fields #[.none, .bool false, .ref s.heap.objs.size, rawInt 0, .none, .none] }) rfl
    rw [hz] at this; exact this
  refine ⟨⟨_, he, rfl⟩, h _ he (Heap.get?_push_of_some _ (Heap.get?_push_size _ B.free)) (by rw [Heap.size_push, hz]) fun b o x => Heap.get?_push_of_some _ (Heap.get?_push_of_some _ x)⟩
end
/-- the tuple at a, each item in a new pair -/
def Itet (K : PySem.W.Frag) (a : Addr) : It :=
  ⟨fun i H => ∃ (xs : List V) (x : V), SqT K H a xs ∧ xs[i]? = some x, fun i H v H' => ∃ T x, v = .ref T ∧ H T = none ∧ H' = upd H T (.tup [.int (i : Nat), x]) ∧ ∀ xs, SqT K H a xs → xs[i]? = some x, fun i H => ∃ xs : List V, SqT K H a xs ∧ xs.length ≤ i⟩
theorem turn_enumT {P : PySem.Program} {w : World} {K : PySem.W.Frag} {elts : List Expr} {kk : Nat} {tpos : Pos} (a e it : Addr) (hat : a ≠ it) :
    Turn P w K (.Tuple elts kk tpos) (Itet K a) [e, it] e (fun i h => (∃ old, IsEnum h e it ((i : Nat) : Int) old) ∧ h.IsTupleIter it a i ∧ e ≠ it ∧ e ≠ a) where
  mem := by simp
  obj := fun i h st b hb => by
    obtain ⟨⟨old, he⟩, ⟨o, ho, hc, hd⟩, _⟩ := st
    have e' : b = e ∨ b = it := by simpa using hb
    rcases e' with z | z
    · rw [z]; exact ⟨_, he, fun v q => nomatch q⟩
    · rw [z]; exact ⟨o, ho, fun v q => by rw [hd] at q; cases q⟩
  keep := fun i h h' st k => let ⟨⟨old, he⟩, hi, hne⟩ := st; ⟨⟨old, k e (by simp) _ he⟩, hi.at fun o q => k it (by simp) o q, hne⟩
  item := by
    intro X hP hw hK hc i pins s σ H E I hf st hg
    subst hP hw hK
    obtain ⟨⟨old, he⟩, hit, hne, hea⟩ := st
    obtain ⟨xs, x, hq, hx⟩ := hg
    obtain ⟨its, rv, p, hz⟩ := I.tuple hq
    obtain ⟨u, hu, ru⟩ := rv.get hx
    have hel : e < s.heap.objs.size := Heap.lt_size he
    have hil : it < s.heap.objs.size := by obtain ⟨_, q, _⟩ := hit; exact Heap.lt_size q
    have hil' : i < its.toArray.size := by
      have := (List.getElem?_eq_some_iff.mp hu).1
      simpa using this
    refine wpAny_pyNext_enum_itemD (Draws.tuple (prog := X.prog) (w := X.w) (A := X.A.in1) (I.ok.hd hc) it a hat its.toArray) he ⟨hit, (show s.heap.IsTuple a its.toArray from p)⟩ hil' hne (by simp [hne, hea]) fun x1 h' tk hx1 ho st' hT hsz hk => ?_
    obtain ⟨hit', _⟩ := st'
    have ex1 : x1 = u := by
      have : its.toArray[i]? = some u := by simpa using hu
      rw [this] at hx1
      exact (Option.some.inj hx1).symm
    subst ex1
    refine ⟨_, rfl, wpAny_letOwnedTupleGo_enum (s := { s with heap := h', toks := tk + 1 }) ho fun h'' he' sb => ?_⟩
    have hT2 : h''.get? s.heap.objs.size = some { cls := .type "tuple", data := .seq #[.int i tk, x1] } := (sb.2 _ (Nat.ne_of_gt hel)).trans hT
    have new : ObjOk X.prog X.w (upd H s.heap.objs.size (.tup [.int (i : Nat), x])) h'' s.heap.objs.size (.tup [.int (i : Nat), x]) :=
      ⟨by show 2 ≤ sizeLine; decide, [.int i tk, x1], .cons ⟨_, rfl⟩ (.cons ru .nil), ⟨_, hT2, rfl, _, rfl⟩⟩
    have I1 : Inv X pins σ (upd H s.heap.objs.size (.tup [.int (i : Nat), x])) { s with heap := h'', toks := tk + 1 } :=
      I.turnedNew (ch := [e, it]) (fun b ob hb q => (sb.2 b (fun z => hb (by simp [z]))).trans (hk b ob (fun z => hb (by simp [z])) (fun z => hb (by simp [z])) q)) hf (Nat.le_refl _) new
    refine ⟨.ref s.heap.objs.size, _, I1, rfl, ⟨_, x, rfl, I.hok.fresh (Nat.le_refl _), rfl, fun ys hy => by rw [I.tuple_inj hy hq]; exact hx⟩, ⟨⟨x1, ?_⟩, hit'.at fun o q => (sb.2 it (Ne.symm hne)).trans q, hne, hea⟩, fun b hb => ?_⟩
    · have e1 : ((i + 1 : Nat) : Int) = (i : Int) + 1 := by omega
      rw [e1]; exact he'
    · have hb' : b < s.heap.objs.size := by
        have e' : b = e ∨ b = it := by simpa using hb
        rcases e' with z | z
        · rw [z]; exact hel
        · rw [z]; exact hil
      rw [upd_ne (Nat.ne_of_lt hb')]
      exact (hf b hb).1
  done := by
    intro X hP hw hK hc i pins s σ H E I hf st hg
    subst hP hw hK
    obtain ⟨⟨old, he⟩, hit, hne, hea⟩ := st
    obtain ⟨xs, hq, hx⟩ := hg
    obtain ⟨its, rv, p, hz⟩ := I.tuple hq
    obtain ⟨f0, f1, f2, f3, f4, f5⟩ := hf it (by simp)
    have hl := rv.length
    have hT : s.TypeIs (.ref e) "enumerate" := ⟨_, he, rfl⟩
    unfold pyNext
    refine wpAny_bind (wpAny_attempt (wpAny_callSpecial?_slot (name := Str.ofString "__next__") hT F.slot_enumerate_next
      (wpAny_call_entry F.slot_enumerate_next hT F.entry_enumerate_next ?_ (F.args_enumerate_next_1 _))))
    show wpAny _ _ (field (.ref e) 2 >>= _) _ _ _
    refine wpAny_bind (wpAny_field he rfl (x := .ref it) rfl ?_)
    refine wpAny_bind (wpAny_nextOf_tuple_end (I.ok.hd hc) hit (show s.heap.IsTuple a its.toArray from p) (by simp; omega) fun h' x he' hx' => ?_)
    obtain ⟨o, ho, hc2⟩ := hx'
    refine wpAny_bind (wpAny_isInstance (T := "StopIteration") (b := true) ⟨o, ho, hc2⟩ isSubtype_stop ?_)
    exact wpAny_pure ⟨rfl, I.turned (t' := s.toks) (fun b o hb q => he' b o hb q) f0 f1 f3 f4 f5⟩
  self := fun A i s Q E st h => let ⟨⟨_, he⟩, _⟩ := st; wpAny_pyIter_enum he h
def iEnumT (K : PySem.W.Frag) (ta : TA) : TI := fun σ H R => ta σ H fun vs H1 => ∃ a xs, vs = [.ref a] ∧ SqT K H1 a xs ∧ R (Itet K a) H1
theorem pi_enumT {X : Cx} {e : Expr} {ta : TA} {p pos tpos : Pos} {elts : List Expr} {kk : Nat} (hg : Gl X "enumerate") (hm : X.mg "enumerate" = none) (ha : PA X [e] ta) (hs : starEach [e] X.env = [(false, eval e X.env)] := by rfl) :
    PI X (.Tuple elts kk tpos) (.Call (.Name "enumerate" p) [e] [] pos) (iEnumT X.K ta) := by
  refine ⟨fun pins s σ H R I h => ?_⟩
  refine Call_ (ld_blt I hg hm boot_enumerate (PyProof.Rows.callWith_type1 (thn (ha.run pos pins s σ H _ I h) fun us s1 ⟨vs, H1, I1, r1, q1⟩ => ?_) hs rfl))
  obtain ⟨a, xs, ex, hq, q⟩ := q1
  subst ex
  cases r1 with
  | cons r rr =>
    cases rr
    cases r
    obtain ⟨its, rv, p', hz⟩ := I1.tuple hq
    refine call_enumerate_B1 (begins_tuple a its.toArray) (show s1.heap.IsTuple a its.toArray from p') fun h' he hit hsz hk => wpAny_pyIter_enum he ?_
    have I2 : Inv X pins σ H1 { s1 with heap := h' } := I1.kept (t' := s1.toks) hk
    have hal : a < s1.heap.objs.size := by obtain ⟨o, ho, _⟩ := p'; exact Heap.lt_size ho
    refine ⟨s1.heap.objs.size + 1, [s1.heap.objs.size + 1, s1.heap.objs.size], _, _, H1, rfl, I2, turn_enumT a (s1.heap.objs.size + 1) s1.heap.objs.size (Nat.ne_of_lt hal), ⟨⟨.none, he⟩, ⟨_, hit, rfl, rfl⟩, Nat.succ_ne_self _, Nat.ne_of_gt (Nat.lt_succ_of_lt hal)⟩, fun b hb => ?_, q⟩
    have e' : b = s1.heap.objs.size + 1 ∨ b = s1.heap.objs.size := by simpa using hb
    have hle : s1.heap.objs.size ≤ b := by
      rcases e' with z | z
      · rw [z]; exact Nat.le_add_right _ _
      · rw [z]; exact Nat.le_refl _
    exact I1.fpOk hle (I1.hok.fresh hle)
/-- a dict made over enumerate(tuple) -/
theorem dc_enumT {K : PySem.W.Frag} {a : Addr} {xs : List V} {g : TG} {tt : TT} {tk tv : TE} {vs : List Nat} {σ : L2.St} {H1 : Hp} {D : Addr} {Qd : Hp → Prop} (Pv : Nat → Hp → Prop) (h0 : Pv 0 (upd H1 D (.dK []))) (hl : ∀ i H, i ≤ xs.length → Pv i H → SqT K H a xs)
    (hs : ∀ i x T H, xs[i]? = some x → Pv i H → H T = none → g (.ref T) (wipe σ vs) (upd H T (.tup [.int (i : Nat), x])) fun σ2 H2 => wipe σ2 vs = wipe σ vs ∧ tt σ2 H2 fun b H3 =>
      if b = true then tk σ2 H3 fun y H4 => tv σ2 H4 fun z H5 => ∃ kvs k, y = kV k ∧ H5 D = some (.dK kvs) ∧ kvs.length < sizeLine ∧ Pv (i + 1) (upd H5 D (.dK (putK kvs k z))) else Pv (i + 1) H3) (hd : ∀ H, Pv xs.length H → Qd H) :
    ∃ W : Nat → Nat → Hp → Prop, (∃ m, W 0 m (upd H1 D (.dK []))) ∧ ∀ i m H, W i m H →
      ((Itet K a).stop i H ∧ Qd H) ∨ ((Itet K a).go i H ∧ ∃ Nx : Hp → Prop, (∀ H', Nx H' → ∃ m', m' < m ∧ W (i + 1) m' H') ∧ ∀ x H', (Itet K a).yld i H x H' → g x (wipe σ vs) H' fun σ2 H2 => wipe σ2 vs = wipe σ vs ∧ tt σ2 H2 fun b H3 =>
        if b = true then tk σ2 H3 fun y H4 => tv σ2 H4 fun z H5 => ∃ kvs k, y = kV k ∧ H5 D = some (.dK kvs) ∧ kvs.length < sizeLine ∧ Nx (upd H5 D (.dK (putK kvs k z))) else Nx H3) := by
  refine ⟨fun i m H => m = xs.length - i ∧ i ≤ xs.length ∧ Pv i H, ⟨xs.length, by simp, Nat.zero_le _, h0⟩, ?_⟩
  rintro i m H ⟨rfl, hi, p⟩
  have q := hl i H hi p
  by_cases hlt : i < xs.length
  · refine .inr ⟨⟨xs, xs[i], q, by simp [hlt]⟩, Pv (i + 1), fun H' p' => ⟨xs.length - (i + 1), by omega, rfl, hlt, p'⟩, fun x H' y => ?_⟩
    obtain ⟨T, x1, e, nT, e2, y⟩ := y
    subst e e2
    exact hs i x1 T _ (y xs q) p nT
  · have e : i = xs.length := by omega
    subst e
    exact .inl ⟨⟨xs, q, Nat.le_refl _⟩, hd H p⟩
/-- a loop over enumerate(list) -/
theorem for_enum {K : PySem.W.Frag} {a : Addr} {xs : List V} {g : TG} {tb : TS} {De : Ends} {σ : L2.St} {H : Hp} (Pv : Nat → L2.St → Hp → Prop) (h0 : Pv 0 σ H) (hl : ∀ i σ H, i ≤ xs.length → Pv i σ H → SqL K H a xs)
    (hs : ∀ i x T σ H, xs[i]? = some x → Pv i σ H → H T = none → g (.ref T) σ (upd H T (.tup [.int (i : Nat), x])) fun σ2 H2 => tb { De with nx := Pv (i + 1), ct := Pv (i + 1), bk := De.nx } σ2 H2) (hd : ∀ σ H, Pv xs.length σ H → De.nx σ H) :
    ∃ W : Nat → Nat → L2.St → Hp → Prop, (∃ m, W 0 m σ H) ∧ ∀ i m σ H, W i m σ H →
      ((Ite K a).stop i H ∧ De.nx σ H) ∨ ((Ite K a).go i H ∧ ∃ N : L2.St → Hp → Prop, (∀ σ' H', N σ' H' → ∃ m', m' < m ∧ W (i + 1) m' σ' H') ∧ ∀ x H', (Ite K a).yld i H x H' → g x σ H' fun σ2 H2 => tb { De with nx := N, ct := N, bk := De.nx } σ2 H2) := by
  refine ⟨fun i m σ H => m = xs.length - i ∧ i ≤ xs.length ∧ Pv i σ H, ⟨xs.length, by simp, Nat.zero_le _, h0⟩, ?_⟩
  rintro i m σ H ⟨rfl, hi, p⟩
  have q := hl i σ H hi p
  by_cases hlt : i < xs.length
  · refine .inr ⟨⟨xs, xs[i], q, by simp [hlt]⟩, Pv (i + 1), fun σ' H' p' => ⟨xs.length - (i + 1), by omega, rfl, hlt, p'⟩, fun x H' y => ?_⟩
    obtain ⟨T, x1, e, nT, e2, y⟩ := y
    subst e e2
    exact hs i x1 T σ _ (y xs q) p nT
  · have e : i = xs.length := by omega
    subst e
    exact .inl ⟨⟨xs, q, Nat.le_refl _⟩, hd σ H p⟩
end K5
end

section
set_option linter.all false
set_option maxRecDepth 100000
/-! Fields, methods, makers; pairs compared. -/
namespace K5
open PySem PySem.Spec PyProof.Rows L2
section
variable {De : Ends} {σ : L2.St} {H H0 : Hp} {Q : VK} {te ta tb tx : TE} {t u : TS} {tr : TA} {v x y : V} {K : PySem.W.Frag} {xs ys : List V} {p q l a d dx C : Addr} {fs : List (Str × V)} {f m : Str}
theorem r_fldE (h : ta σ H fun x H1 => ∃ a C dx fs v, x = .ref a ∧ H1 a = some (.ins C dx fs) ∧ Cls K C ∧ NoAttr K C f ∧ fs.lookup f = some v ∧ Q v H1) : tFld K ta f σ H Q := h
theorem r_fl {B : V → Prop} (hp : H a = some (.ins C dx fs)) (hc : Cls K C) (hn : NoAttr K C f) (hl : fs.lookup f = some v) (h : B v) : ∃ a' C dx fs v, V.ref a = .ref a' ∧ H a' = some (.ins C dx fs) ∧ Cls K C ∧ NoAttr K C f ∧ fs.lookup f = some v ∧ B v := ⟨a, C, dx, fs, v, rfl, hp, hc, hn, hl, h⟩
theorem r_methE {sp : Sp} {dvs : List V} {E : XK} (h : ta σ H fun x H1 => ∃ a dx fs, x = .ref a ∧ H1 a = some (.ins C dx fs) ∧ fs.lookup m = none ∧ tr σ H1 fun vs H2 => sp (x :: (vs ++ dvs)) H2 Q E) : tMeth C m sp dvs E ta tr σ H Q := h
theorem r_me {B : Prop} (hp : H a = some (.ins C dx fs)) (hl : fs.lookup m = none) (h : B) : ∃ a' dx fs, V.ref a = .ref a' ∧ H a' = some (.ins C dx fs) ∧ fs.lookup m = none ∧ B := ⟨a, dx, fs, rfl, hp, hl, h⟩
theorem r_make {sp : Sp} {dvs : List V} {E : XK} (h : tr σ H fun vs H1 => ∀ x dx, H1 x = none → H1 dx = none → dx ≠ x →
  sp (.ref x :: (vs ++ dvs)) (upd (upd H1 dx (.own x)) x (.ins C dx [])) (fun v H2 => v = .non ∧ Q (.ref x) H2) E) : tMake C sp dvs E tr σ H Q := h
theorem r_sfld (h : tx σ H fun y H1 => ta σ H1 fun x H2 => ∃ a C dx fs, x = .ref a ∧ H2 a = some (.ins C dx fs) ∧ Cls K C ∧ NoAttr K C f ∧ fs.length < 1000 ∧ De.nx σ (upd H2 a (.ins C dx (putF f y fs)))) : sFld K ta tx f De σ H := h
theorem r_sfl {B : Hp → Prop} (hp : H a = some (.ins C dx fs)) (hc : Cls K C) (hn : NoAttr K C f) (hl : fs.length < 1000) (h : B (upd H a (.ins C dx (putF f y fs)))) : ∃ a' C dx fs, V.ref a = .ref a' ∧ H a' = some (.ins C dx fs) ∧ Cls K C ∧ NoAttr K C f ∧ fs.length < 1000 ∧ B (upd H a' (.ins C dx (putF f y fs))) := ⟨a, C, dx, fs, rfl, hp, hc, hn, hl, h⟩
theorem put_fs_len : ∀ (fs : List (Str × V)), (putF f v fs).length ≤ fs.length + 1
  | [] => by simp [putF]
  | (n, u) :: r => by
    unfold putF
    by_cases h : n = f
    · rw [if_pos h]; simp
    · rw [if_neg h]
      have := put_fs_len r
      simp; omega
end
/-! ### pairs -/
inductive Atm where
  | non | str (x : Str) | int (i : Int)
  deriving DecidableEq
def Atm.v : Atm → V
  | .non => .non
  | .str x => .str x
  | .int i => .int i
def Atm.d : Atm → PyData
  | .non => .none
  | .str x => .str x
  | .int i => .int i
def Atm.ok : Atm → Bool
  | .str x => PyData.strOk x
  | _ => true
abbrev ok2 (z : Atm × Atm) : Prop := z.1.ok = true ∧ z.2.ok = true
def prP (q : Atm × Atm) : PyData := .tuple [q.1.d, q.2.d]
section
variable {H : Hp} {K : PySem.W.Frag} {p q l : Addr} {a b c d : Atm} {Q : VK}
theorem Atm.dp (a : Atm) : Dp K H a.v a.d := by
  cases a
  · exact .non
  · exact .str _
  · exact .int _
theorem dp_pair (h : H p = some (.tup [a.v, b.v])) : Dp K H (.ref p) (prP (a, b)) := .tup (SqT.of h) (.cons a.dp (.cons b.dp .nil))
theorem Atm.lay (a : Atm) (h : a.ok = true) : a.d.canLay0 = true := by
  cases a
  · simp [Atm.d, PyData.canLay0]
  · simp only [Atm.d, PyData.canLay0]; exact h
  · simp [Atm.d, PyData.canLay0]
theorem Atm.dep (a : Atm) : a.d.depth = 0 := by cases a <;> simp [Atm.d, PyData.depth]
theorem prP_lay (z : Atm × Atm) (h : ok2 z) : (prP z).canLay0 = true := by simp [prP, PyData.canLay0, PyData.canLayAll0, Atm.lay _ h.1, Atm.lay _ h.2]
theorem prP_depth (z : Atm × Atm) : (prP z).depth ≤ 2 := by simp [prP, PyData.depth, PyData.depthAll, Atm.dep]
theorem prPs_lay : ∀ zs : List (Atm × Atm), (∀ z ∈ zs, ok2 z) → PyData.canLayAll0 (zs.map prP) = true
  | [], _ => by simp [PyData.canLayAll0]
  | z :: zs, h => by simp [PyData.canLayAll0, prP_lay z (h z (by simp)), prPs_lay zs (fun y hy => h y (by simp [hy]))]
theorem prPs_depth : ∀ zs : List (Atm × Atm), PyData.depthAll (zs.map prP) ≤ 2
  | [] => by simp [PyData.depthAll]
  | z :: zs => by
    have h1 := prPs_depth zs
    have h2 := prP_depth z
    simp only [List.map_cons, PyData.depthAll]
    omega
theorem prP_shaped (z : Atm × Atm) (hk : ok2 z) : SeqAt.shaped (prP z) = true := by
  have h := prP_depth z
  show ((prP z).canLay0 && decide ((prP z).depth ≤ 64)) = true
  rw [Bool.and_eq_true]
  exact ⟨prP_lay z hk, decide_eq_true (by omega)⟩
theorem prPs_shaped (zs : List (Atm × Atm)) (hk : ∀ z ∈ zs, ok2 z) : SeqAt.shaped (.list (zs.map prP)) = true ∧ SeqAt.shaped (.tuple (zs.map prP)) = true := by
  have h1 := prPs_depth zs
  constructor
  · have h2 : PyData.depth (.list (zs.map prP)) ≤ 64 := by
      simp only [PyData.depth]
      omega
    show (PyData.canLay0 (.list (zs.map prP)) && decide (PyData.depth (.list (zs.map prP)) ≤ 64)) = true
    rw [Bool.and_eq_true]
    exact ⟨by simp only [PyData.canLay0]; exact prPs_lay zs hk, decide_eq_true h2⟩
  · have h2 : PyData.depth (.tuple (zs.map prP)) ≤ 64 := by
      simp only [PyData.depth]
      omega
    show (PyData.canLay0 (.tuple (zs.map prP)) && decide (PyData.depth (.tuple (zs.map prP)) ≤ 64)) = true
    rw [Bool.and_eq_true]
    exact ⟨by simp only [PyData.canLay0]; exact prPs_lay zs hk, decide_eq_true h2⟩
theorem Atm.eqv (a b : Atm) : PyData.eqv a.d b.d = decide (a = b) := by
  cases a <;> cases b <;> simp only [Atm.d, PyData.eqv] <;> simp
  · rename_i x y
    by_cases h : x = y
    · simp [h]
    · simp [h]
  · rename_i x y
    by_cases h : x = y
    · simp [h]
    · simp [h]
theorem prP_eqv (z w : Atm × Atm) : PyData.eqv (prP z) (prP w) = decide (z = w) := by
  obtain ⟨a, b⟩ := z
  obtain ⟨c, d⟩ := w
  have e : PyData.eqv (prP (a, b)) (prP (c, d)) = (PyData.eqv a.d c.d && (PyData.eqv b.d d.d && true)) := by simp only [prP, PyData.eqv, PyData.eqvAll]
  rw [e, Atm.eqv, Atm.eqv]
  by_cases h1 : a = c <;> by_cases h2 : b = d <;> simp [h1, h2]
theorem any_prP (zs : List (Atm × Atm)) (z : Atm × Atm) : ((zs.map prP).any fun y => PyData.eqv y (prP z)) = decide (z ∈ zs) := by
  induction zs with
  | nil => simp
  | cons a r ih =>
    rw [List.map_cons, List.any_cons, ih, prP_eqv]
    by_cases h : a = z
    · simp [h]
    · have h' : ¬ z = a := fun e => h e.symm
      simp [h, h']
/-- the pairs at xs -/
def PrsAt (H : Hp) (xs : List V) (zs : List (Atm × Atm)) : Prop := Paired (fun z v => ∃ p, v = V.ref p ∧ H p = some (.tup [z.1.v, z.2.v])) zs xs
theorem PrsAt.dp {xs : List V} {zs : List (Atm × Atm)} (h : PrsAt H xs zs) : DpAll K H xs (zs.map prP) := by
  induction h with
  | nil => exact .nil
  | cons h _ ih =>
    obtain ⟨p, rfl, hp⟩ := h
    exact .cons (dp_pair hp) ih
theorem PrsAt.s {H' : Hp} {xs : List V} {zs : List (Atm × Atm)} (s : Same H H') (h : PrsAt H xs zs) : PrsAt H' xs zs := by
  induction h with
  | nil => exact .nil
  | cons h _ ih =>
    obtain ⟨p, rfl, hp⟩ := h
    exact .cons ⟨p, rfl, s _ _ hp⟩ ih
theorem r_eqP (k1 : ok2 (a, b)) (k2 : ok2 (c, d)) (hx : H p = some (.tup [a.v, b.v])) (hy : H q = some (.tup [c.v, d.v])) (h : Q (.bl (decide ((a, b) = (c, d)))) H) : rEqD K (.ref p) (.ref q) H Q :=
  ⟨_, _, dp_pair hx, dp_pair hy, prP_shaped _ k1, prP_shaped _ k2, by rw [prP_eqv]; exact h⟩
def rInTD (K : PySem.W.Frag) : R2 := fun x y H Q => ∃ d ds, Dp K H x d ∧ Dp K H y (.tuple ds) ∧ SeqAt.shaped d = true ∧ SeqAt.shaped (.tuple ds) = true ∧ Q (.bl (ds.any fun z => PyData.eqv z d)) H
theorem op_inTD {X : Cx} (hu : X.A.units + 65 < cLine) : OpR X (compareOp .In) (rInTD X.K) := by
  intro pins s σ H x y v u Q I rx ry h
  obtain ⟨d, ds, hd, he, sd, se, q⟩ := h
  obtain ⟨as, r1⟩ := Dp.reads I d x v hd rx
  obtain ⟨bs, r2⟩ := Dp.reads I (.tuple ds) y u he ry
  exact PySem.SeqAt.in_tuple_reads r2 r1 (PySem.SeqAt.canLay_of_shaped se) (PySem.SeqAt.canLay_of_shaped sd) (PyProof.Rows.room_in_shaped sd hu) ⟨.bl _, H, I, rfl, q⟩
theorem hu65 {k : Nat} {A : Around} (hr : Room k A) : A.units + 65 < cLine := by have := hr.un; omega
theorem hu64 {k : Nat} {A : Around} (hr : Room k A) : A.units + 64 < cLine := hr.units
theorem r_inTP {xs : List V} {zs : List (Atm × Atm)} (k1 : ok2 (a, b)) (k2 : ∀ z ∈ zs, ok2 z) (hx : H p = some (.tup [a.v, b.v])) (hl : H l = some (.tup xs)) (hz : PrsAt H xs zs) (h : Q (.bl (decide ((a, b) ∈ zs))) H) : rInTD K (.ref p) (.ref l) H Q :=
  ⟨_, _, dp_pair hx, .tup (SqT.of hl) hz.dp, prP_shaped _ k1, (prPs_shaped zs k2).2, by rw [any_prP]; exact h⟩
theorem r_inLP {xs : List V} {zs : List (Atm × Atm)} (k1 : ok2 (a, b)) (k2 : ∀ z ∈ zs, ok2 z) (hx : H p = some (.tup [a.v, b.v])) (hl : H l = some (.lst xs)) (hz : PrsAt H xs zs) (h : Q (.bl (decide ((a, b) ∈ zs))) H) : rInD K (.ref p) (.ref l) H Q :=
  ⟨_, _, dp_pair hx, .lst (SqL.of hl) hz.dp, prP_shaped _ k1, (prPs_shaped zs k2).1, by rw [any_prP]; exact h⟩
theorem r_notInLP {xs : List V} {zs : List (Atm × Atm)} (k1 : ok2 (a, b)) (k2 : ∀ z ∈ zs, ok2 z) (hx : H p = some (.tup [a.v, b.v])) (hl : H l = some (.lst xs)) (hz : PrsAt H xs zs) (h : Q (.bl (!decide ((a, b) ∈ zs))) H) : rNotInD K (.ref p) (.ref l) H Q :=
  ⟨_, _, dp_pair hx, .lst (SqL.of hl) hz.dp, prP_shaped _ k1, (prPs_shaped zs k2).1, by rw [any_prP]; exact h⟩
end
end K5
end

section
set_option linter.all false
set_option maxRecDepth 100000
/-! y = {k: v for ..}, y a local name; dicts made over lists. -/
namespace K5
open PySem PySem.Spec PyProof.Rows L2
section
variable {X : Cx}
theorem ps_setDc {i : Nat} {y : Str} {py : Pos} {kx vx tg iter : Expr} {ifs : List Expr} {scope : Scope} {own : List (Str × Nat)} {pos spos : Pos} {wi : TI} {g : TG} {tt : TT} {tk tv : TE} (hc : X.calm = true) (hN : X.N.Nodup) (hy : X.N[i]? = some y) (hyl : X.env.scope.names.lookup y = some .local)
    (hsw : swapsWith (.DictComp kx vx [⟨tg, iter, ifs, 0⟩] scope pos) (some (.Name y py)) spos.line X.env = pure true) (hi : PI X tg iter wi) (ok : BlkOk X.N X.env.scope scope own)
    (hg : ∀ (s : Shared) (H : Hp) (C : Addr) (cl : List (Str × Addr)) (fp : List Addr), PG (X.blk s H scope (compEnvC scope cl C X.env) fp) tg g) (ht : ∀ (s : Shared) (H : Hp) (C : Addr) (cl : List (Str × Addr)) (fp : List Addr), PTs (X.blk s H scope (compEnvC scope cl C X.env) fp) ifs tt)
    (hk : ∀ (s : Shared) (H : Hp) (C : Addr) (cl : List (Str × Addr)) (fp : List Addr), PE (X.blk s H scope (compEnvC scope cl C X.env) fp) kx tk)
    (he : ∀ (s : Shared) (H : Hp) (C : Addr) (cl : List (Str × Addr)) (fp : List Addr), PE (X.blk s H scope (compEnvC scope cl C X.env) fp) vx tv) (hs : ∀ x, foldedSetIterable iter X.env x = pure x := by intro _; rfl) :
    PS X (.Assign [.Name y py] (.DictComp kx vx [⟨tg, iter, ifs, 0⟩] scope pos) spos) (tAsg (tDc wi g tt tk tv (own.map (·.2))) (gName i)) := by
  refine ⟨fun pins s σ H D I h => ?_⟩
  rw [exec_Assign_Name_used _ _ _ _ hsw]
  refine wpAny_bind (wpAny_standAt (wpAny_bind ?_))
  show wpAny _ X.A (do let _ ← comprehension (.DictComp kx vx [⟨tg, iter, ifs, 0⟩] scope pos) scope X.env (firstIterPos [⟨tg, iter, ifs, 0⟩] pos) newDict false (eval iter X.env) (some (assign (.Name y py) X.env))) _ _ s
  have h : tDc wi g tt tk tv (own.map (·.2)) σ H (fun x H1 => gName i x σ H1 D.nx) := h
  refine wpAny_bind (thn (dc_core (Qf := fun _ s' => SP X pins D .next s') hc hN I hi ok hg ht hk he hs h fun L C s' m H' I' q hn f => ?_) fun _ s' hq => wpAny_pure (wpAny_pure hq))
  show wpAny _ _ (assign (.Name y py) X.env (.ref L)) _ _ _
  refine wpAny_assign_Name (store_ok2 (v := V.ref L) I' hN hy (.inl hyl) rfl (fun s2 I2 ⟨a, sb, ha⟩ => ?_) (.inr hyl))
  obtain ⟨f0, f1, f2, f3, f4, f5⟩ := f
  have haC : C ≠ a := by
    rcases ha with z | z
    · rw [z]; exact f1
    · exact fun e => f4 y a z e.symm
  refine ⟨m, hn.sameBut sb haC, fun h3 sb3 => ?_⟩
  exact ⟨_, H', I2.turned (t' := s2.toks) (fun b o hb e => (sb3.2 b hb).trans e) f0 f1 f3 f4 f5, q⟩
theorem sw_trueD {kx vx : Expr} {gs : List Comprehension} {scope : Scope} {pos py : Pos} {y : Str} {l : Nat} {env : Env} (hk : env.scope.kind = .function) (hy : env.scope.names.lookup y = some .local) (hl : (py.line == pos.line) = true)
    (ha : (scope.names.any fun (n, k) => n == y && (k == .local || k == .cell)) = false) : swapsWith (.DictComp kx vx gs scope pos) (some (.Name y py)) l env = pure true := by
  have ky : env.kindOf y = some .local := hy
  have hb : env.blockKind = .function := by unfold Env.blockKind; rw [hk]; rfl
  unfold swapsWith
  simp only [hb, ky, ha, Expr.pos, hl]
  rfl
end
/-- over a list that stays -/
theorem dc_list {K : PySem.W.Frag} {a : Addr} {xs : List V} {g : TG} {tt : TT} {tk tv : TE} {vs : List Nat} {σ : L2.St} {H1 : Hp} {D : Addr} {Qd : Hp → Prop} (Pv : Nat → Hp → Prop) (h0 : Pv 0 (upd H1 D (.dK []))) (hl : ∀ i H, i ≤ xs.length → Pv i H → SqL K H a xs)
    (hs : ∀ i x H, xs[i]? = some x → Pv i H → g x (wipe σ vs) H fun σ2 H2 => wipe σ2 vs = wipe σ vs ∧ tt σ2 H2 fun b H3 =>
      if b = true then tk σ2 H3 fun y H4 => tv σ2 H4 fun z H5 => ∃ kvs k, y = kV k ∧ H5 D = some (.dK kvs) ∧ kvs.length < sizeLine ∧ Pv (i + 1) (upd H5 D (.dK (putK kvs k z))) else Pv (i + 1) H3) (hd : ∀ H, Pv xs.length H → Qd H) :
    ∃ W : Nat → Nat → Hp → Prop, (∃ m, W 0 m (upd H1 D (.dK []))) ∧ ∀ i m H, W i m H →
      ((Itl K a).stop i H ∧ Qd H) ∨ ((Itl K a).go i H ∧ ∃ Nx : Hp → Prop, (∀ H', Nx H' → ∃ m', m' < m ∧ W (i + 1) m' H') ∧ ∀ x H', (Itl K a).yld i H x H' → g x (wipe σ vs) H' fun σ2 H2 => wipe σ2 vs = wipe σ vs ∧ tt σ2 H2 fun b H3 =>
        if b = true then tk σ2 H3 fun y H4 => tv σ2 H4 fun z H5 => ∃ kvs k, y = kV k ∧ H5 D = some (.dK kvs) ∧ kvs.length < sizeLine ∧ Nx (upd H5 D (.dK (putK kvs k z))) else Nx H3) := by
  refine ⟨fun i m H => m = xs.length - i ∧ i ≤ xs.length ∧ Pv i H, ⟨xs.length, by simp, Nat.zero_le _, h0⟩, ?_⟩
  rintro i m H ⟨rfl, hi, p⟩
  have q := hl i H hi p
  by_cases hlt : i < xs.length
  · refine .inr ⟨⟨xs, xs[i], q, by simp [hlt]⟩, Pv (i + 1), fun H' p' => ⟨xs.length - (i + 1), by omega, rfl, hlt, p'⟩, fun x H' y => ?_⟩
    obtain ⟨e, y⟩ := y
    subst e
    exact hs i x _ (y xs q) p
  · have e : i = xs.length := by omega
    subst e
    exact .inl ⟨⟨xs, q, Nat.le_refl _⟩, hd H p⟩
end K5
end

section
set_option linter.all false
set_option maxRecDepth 100000
/-! max of a pair. -/
namespace K5
open PySem PySem.Spec PyProof.Rows L2 PySem.W
def rMaxT (K : PySem.W.Frag) : List V → Hp → VK → Prop := fun vs H Q => ∃ (a : Addr) (m n : Nat), vs = [V.ref a] ∧ SqT K H a [.int (m : Nat), .int (n : Nat)] ∧ Q (.int ((max m n : Nat) : Int)) H
theorem call_maxT {X : Cx} (hc : X.calm = true) (hu : X.A.units + 64 < cLine) : CallR X (.builtin "max") (rMaxT X.K) := by
  intro pins s σ H vs us Q I r h
  obtain ⟨a, m, n, rfl, hs, q⟩ := h
  obtain ⟨its, rv, hl, _⟩ := I.tuple hs
  rw [Vals.ref1 r]
  obtain ⟨as, hr⟩ := Dp.readsAll I [.int (m : Nat), .int (n : Nat)] _ its (.cons (.int _) (.cons (.int _) .nil)) rv
  refine max_tuple_data (I.ok.hd hc) (show s.heap.IsTuple a its.toArray from hl) (x := .int (m : Nat)) (xs := [.int (n : Nat)]) hr ⟨by simp [alike], by simp⟩ (by simp [PyData.depthAll, PyData.depth]; omega) fun i v h' tk bs hv hrd hk => ?_
  have e : maxD (.int (m : Nat)) [.int (n : Nat)] = .int ((max m n : Nat) : Int) := by
    have h0 := maxD_ints (m : Nat) [(n : Nat)]
    rw [List.map_cons, List.map_nil] at h0
    rw [h0]
    congr 1
    show max (m : Int) (n : Int) = _
    omega
  rw [e] at hrd
  cases hrd with
  | int i t => exact ⟨.int _, H, I.kept (t' := tk) hk, ⟨t, rfl⟩, q⟩
theorem r_maxT {K : PySem.W.Frag} {H : Hp} {a : Addr} {m n : Nat} {Q : VK} (h : H a = some (.tup [.int (m : Nat), .int (n : Nat)])) (q : Q (.int ((max m n : Nat) : Int)) H) : rMaxT K [.ref a] H Q := ⟨a, m, n, rfl, SqT.of h, q⟩
end K5
end

section
set_option linter.all false
set_option maxRecDepth 100000
set_option maxHeartbeats 1000000
/-! for x in o, o an own class whose __iter__ gives iter(a tuple). -/
namespace K5
open PySem PySem.Spec PyProof.Rows L2 ItX
def itT (t : Addr) : Obj := { cls := .type "tuple_iterator", data := .fields #[.ref t, .int 0 0] }
/-- a tuple's iterator, not yet moved -/
def ITup (t it : Addr) : HO := .ext fun h => h.get? it = some (itT t)
theorem itup_ok {P : PySem.Program} {w : World} {H : Hp} {h : Heap} {t it : Addr} (e : h.get? it = some (itT t)) : ObjOk P w H h it (ITup t it) := ⟨e, ⟨_, e⟩, fun h1 h2 q k => k _ q⟩
section
variable {prog : PySem.Program} {w : World} {A : Around} {E : Value → Shared → Prop} {s : Shared}
theorem call_iter_tup {t : Addr} {items : Array Value} {Q : Value → Shared → Prop} (hl : s.heap.IsTuple t items) (h : Q (.ref s.heap.objs.size) { s with heap := s.heap.push (itT t) }) : wpAny (model prog w) A (call (.builtin "iter") [.ref t]) Q E s := by
  refine Calls.call_function_entry (by decide +kernel) (by decide +kernel) PySem.W.kdk_entry_iter (PySem.W.kdk_args_iter _) ?_
  unfold Builtin.«iter»
  refine wpAny_bind (m := someArgs "iter" 1 2 _) (wpAny_of_eq (a := [Value.ref t]) (by first | rfl | kernel_rfl!) ?_)
  show wpAny _ _ (pyIter (.ref t) >>= _) _ _ _
  refine wpAny_bind (wpAny_pyIter_tuple hl ?_)
  exact wpAny_pure ⟨_, rfl, h⟩
end
/-- iter(t): a thing at n or behind it is there already -/
def rIterT (K : PySem.W.Frag) (n : Nat) : List V → Hp → VK → Prop := fun xs H Q => ∃ (t : Addr) (zs : List V) (b : Addr) (o : HO), xs = [.ref t] ∧ SqT K H t zs ∧ H b = some o ∧ n ≤ b ∧ ∀ it, H it = none → n ≤ it → Q (.ref it) (upd H it (ITup t it))
theorem call_iterT {X : Cx} {n : Nat} : CallR X (.builtin "iter") (rIterT X.K n) := by
  intro pins s σ H xs us Q I r h
  obtain ⟨t, zs, b, o, rfl, hq, hb, hn, q⟩ := h
  obtain ⟨u, rfl, ru⟩ := vals1 r
  cases ru
  obtain ⟨its, rv, pl, hz⟩ := I.tuple hq
  obtain ⟨ob, hob⟩ := objOk_get (I.hok b o hb)
  have hlt : b < s.heap.objs.size := Heap.lt_size hob
  refine call_iter_tup (show s.heap.IsTuple t its.toArray from pl) ?_
  exact ⟨.ref s.heap.objs.size, _, I.laid (t' := s.toks) (fun b u e => Heap.get?_push_of_some _ e) (Nat.le_refl _) (itup_ok (Heap.get?_push_size _ rfl)), rfl, q _ (I.hok.fresh (Nat.le_refl _)) (Nat.le_of_lt (Nat.lt_of_le_of_lt hn hlt))⟩
/-- {}: new, at n or behind it -/
def tDNewN (n : Nat) : TE := fun _ H Q => ∀ p, H p = none → n ≤ p → Q (.ref p) (upd H p (.dK []))
theorem pe_dnewN {X : Cx} {pos : Pos} : PE X (.Dict [] [] pos) (tDNewN X.s_0.heap.objs.size) := ⟨fun pins s σ H Q I h =>
  wpAny_Dict_empty ⟨.ref s.heap.objs.size, _, I.laid (a := s.heap.objs.size) (o := .dK []) (t' := s.toks) (fun _ _ q => Heap.get?_push_of_some _ q) (Nat.le_refl _) (dk_empty s.heap I.big), rfl, h _ (I.hok.fresh (Nat.le_refl _)) I.sz⟩⟩
/-- for .. in o: __iter__ runs -/
def iOwn (K : PySem.W.Frag) (n : Nat) (C : Addr) (sp : Sp) (ta : TE) : TI := fun σ H R => ta σ H fun x H1 => ∃ a dx fs, x = .ref a ∧ H1 a = some (.ins C dx fs) ∧
  sp [.ref a] H1 (fun v H2 => ∃ it t, v = .ref it ∧ H2 it = some (ITup t it) ∧ n ≤ it ∧ R (Itt K t) (dropH H2 it)) C8.E0
theorem pi_own {X : Cx} {tg e : Expr} {ta : TE} {C : Addr} {sp : Sp} {k : Nat} (c : C8.Met X.prog X.w X.K X.mg X.base k C "__iter__" sp []) (hr : Room k X.A) (he : PE X e ta) : PI X tg e (iOwn X.K X.s_0.heap.objs.size C sp ta) := by
  obtain ⟨f, fd, ps, ds, hc, hm, F, b, d⟩ := c.ex
  refine ⟨fun pins s σ H R I h => ?_⟩
  refine thn (he.run pins s σ H _ I h) fun u s1 ⟨x, H1, I1, rx, a, dx, fs, ex, ha, q⟩ => ?_
  subst ex
  obtain rfl : u = Value.ref a := rx
  obtain ⟨mA, J, _⟩ := ins_get I1.hok ha
  obtain ⟨od, J, _⟩ := J.look
  obtain ⟨m, hF⟩ := I1.fr
  refine PySem.W.owit_iter hF I1.ok.mod.kin J hm.at_ hm.fn ?_
  have z := run_fn F hr b d C8.pass0 I1 (us := [.ref a]) (vs := [.ref a]) (.cons rfl .nil) (by rw [List.append_nil]; exact q)
  refine thn z fun v s2 hv => ?_
  obtain ⟨y, H2, I2, ry, it, t, ey, hit, hn, hR⟩ := hv
  subst ey
  obtain rfl : v = Value.ref it := ry
  have eo : s2.heap.get? it = some (itT t) := (I2.hok it _ hit).1
  have st : s2.heap.IsTupleIter it t 0 := ⟨_, eo, rfl, rfl⟩
  have hT : s2.TypeIs (.ref it) "tuple_iterator" := ⟨_, eo, rfl⟩
  unfold PySem.W.OwitIt
  refine wpAny_specialOf (name := Str.ofString "__next__") hT PySem.F.slot_tuple_iterator_next.lookup ?_
  have hi' := hit
  unfold ITup at hi'
  refine ⟨it, [it], _, _, dropH H2 it, rfl, inv_drop I2 hi', turn_tuple t it, st, fun b hb => ?_, hR⟩
  have e : b = it := by simpa using hb
  rw [e]
  exact inv_fp I2 hit hn
theorem sqT_drop {K : PySem.W.Frag} {H : Hp} {a it : Addr} {xs : List V} (h : SqT K H a xs) (n : it ≠ a) : SqT K (dropH H it) a xs := by
  have e : dropH H it a = H a := dropH_ne (Ne.symm n)
  unfold SqT Rd at h ⊢
  simp only [e]
  exact h
end K5
end

section
set_option linter.all false
set_option maxRecDepth 100000
/-! C.m(..), m a staticmethod of the class. -/
namespace K5
open PySem PySem.Spec PyProof.Rows L2
/-- C.m is a staticmethod: its record at p, its def at f -/
structure SMet (K : PySem.W.Frag) (C : Addr) (m : Str) (p f : Addr) : Prop where
  at_ : ∃ mc, ClX.CRead K C mc ∧ PySem.W.findCls K (.ref C) mc m = some (.get (.builtin "staticmethod.__get__") (.ref p) .none (.ref C))
  rc : ∃ rest, PySem.W.recIn K p "staticmethod" = some (.ref f :: rest)
  kp : PySem.W.keepIn K (.ref f) = true
def tSMeth (C : Addr) (sp : Sp) (E : XK) (ta : TE) (t : TA) : TE := fun σ H Q => ta σ H fun x H1 => x = .ref C ∧ t σ H1 fun vs H2 => sp vs H2 Q E
theorem r_sm {C : Addr} {sp : Sp} {E : XK} {ta : TE} {t : TA} {σ : L2.St} {H : Hp} {Q : VK} (h : ta σ H fun x H1 => x = .ref C ∧ t σ H1 fun vs H2 => sp vs H2 Q E) : tSMeth C sp E ta t σ H Q := h
section
variable {X : Cx} {CX : CXT} {k : Nat} {C p f : Addr} {fd : FuncData} {ps : List Str} {sp : Sp} {E : XK} {o e : Expr} {es : List Expr} {m : Str} {pos apos : Pos} {ta : TE} {t : TA} {pl : Sem Bool}
theorem pe_smeth (he : PE X o ta) (c : SMet X.K C m p f) (F : FnOk X.prog X.w X.K X.mg X.base CX k f fd ps sp) (b : Binds X.K fd ps []) (hr : Room k X.A) (hx : Passes CX X E) (ha : PA X (e :: es) t)
    (hst : starEach (e :: es) X.env = (false, eval e X.env) :: starEach es X.env := by rfl) (hpl : (backTo pos (starEach es X.env)).any (·.1) = false := by rfl)
    (ht : eval (.Call (.Attribute o m apos) (e :: es) [] pos) X.env = (do
      let ov ← eval o X.env
      standAt apos.atName
      let (f, first) ← holding [ov] (getMethod ov m pl)
      callWith pos f first (backTo pos (starEach (e :: es) X.env)) (backToKw pos (keywordEach [] X.env))) := by rfl) :
    PE X (.Call (.Attribute o m apos) (e :: es) [] pos) (tSMeth C sp E ta t) := by
  refine ⟨fun pins s σ H Q I h => ?_⟩
  refine PySem.W.methodCall_KW (pl := pl) (thn (he.run pins s σ H _ I h) fun u s1 ⟨x, H1, I1, rx, ex, q⟩ => ?_) ht
  subst ex
  obtain rfl : u = Value.ref C := rx
  obtain ⟨mc, rd, hfc⟩ := c.at_
  obtain ⟨rest, hp⟩ := c.rc
  refine PySem.W.method_cls I1.kIn rd.ga ?_
  refine PySem.W.cls_bind I1.kIn rd.rd hfc ?_
  refine wpAny_call (PySem.W.sm_get (s := { s1 with toks := s1.toks + 1 }) I1.kIn hp (PySem.W.handed_on rfl ?_))
  have I2 : Inv X pins σ H1 { s1 with toks := s1.toks + 1 } := I1.tok _
  refine PySem.W.callWith_K (h₀ := X.base) I2.ok.mod.kin c.kp (thn (ha.run pos pins _ σ H1 _ I2 q) fun us s3 ⟨vs, H2, I3, rv, q2⟩ => ⟨I3.kIn, ?_⟩) hst hpl
  exact run_fn F hr b .nil hx I3 rv (by rw [List.append_nil]; exact q2)
end
end K5
end

section
set_option linter.all false
set_option maxRecDepth 100000
/-! finished_order. -/
namespace K5
open PySem PySem.Spec PyProof.Rows L2 MG
/- steps -/
local macro_rules | `(tactic| walk_at "sm") => `(tactic| first | assumption | exact Same.refl _ | (refine Same.mut ?_ (by assumption) _; walk_at "sm") | (refine Same.trans ?_ (Same.newo (by assumption) _); walk_at "sm") | (refine Same.trans ?_ (by assumption); walk_at "sm"))
local macro_rules | `(tactic| walk_at "hp") => `(tactic| first | assumption | exact upd_same | (refine up_new ?_ (by assumption) _; walk_at "hp") | (refine Same.up ?_ (by assumption) (by assumption); walk_at "sm") | (refine Same.look (by assumption) ?_; walk_at "hp"))
local macro_rules | `(tactic| walk_at "rep") => `(tactic| first | assumption | exact str_rep | exact int_rep | exact non_rep | (refine' Rep.s ?s ?h; (case h => assumption); (case s => walk_at "sm")))
local macro_rules | `(tactic| walk_at "if") => `(tactic| first | ((with_reducible refine' r_ifT ?e ?_); (case e => decide +kernel)) | ((with_reducible refine' r_ifF ?e ?_); (case e => decide +kernel)))
local macro_rules | `(tactic| walk_at "sz") => `(tactic| first | omega | decide | (simp only [List.length_map, List.length_append, List.length_cons, List.length_nil, List.length_take]; omega))
local macro_rules | `(tactic| walk_at "s") => `(tactic| first
  | with_reducible refine r_seq ?_ | with_reducible refine r_set ?_ | with_reducible refine r_asg ?_ | with_reducible refine r_ret ?_ | with_reducible refine r_drop ?_ | with_reducible refine r_next ?_ | with_reducible refine r_cont ?_ | with_reducible refine r_brk ?_
  | with_reducible refine r_if ?_ | with_reducible refine r_test ?_ | with_reducible refine r_tB ?_ | with_reducible refine r_bl ?_ | with_reducible refine r_and ?_ | with_reducible refine r_or ?_ | with_reducible refine r_not ?_
  | ((with_reducible refine' r_var ?e ?_); (case e => rfl)) | with_reducible refine r_c ?_ | with_reducible refine r_op ?_ | with_reducible refine r_un ?_ | with_reducible refine r_ifx ?_ | with_reducible refine r_andV ?_ | with_reducible refine r_orV ?_ | with_reducible refine r_notV ?_
  | with_reducible refine r_nil ?_ | with_reducible refine r_cons ?_ | with_reducible refine r_cb ?_ | with_reducible refine r_bm ?_ | with_reducible refine r_bm0 ?_ | with_reducible refine r_lst ?_ | with_reducible refine r_tup ?_ | with_reducible refine r_call ?_
  | with_reducible refine r_lc ?_ | with_reducible refine r_dc ?_ | with_reducible refine r_for ?_ | with_reducible refine r_iTup ?_ | with_reducible refine r_iList ?_ | with_reducible refine r_iEnum ?_ | with_reducible refine r_iRng1 ?_
  | with_reducible refine r_sl ?_ | with_reducible refine r_part ?_ | with_reducible refine r_nop ?_ | with_reducible refine r_int ?_ | with_reducible refine r_then ?_ | with_reducible refine r_yes ?_
  | with_reducible refine r_gname ?_ | with_reducible refine r_gcons ?_ | with_reducible refine r_gnil ?_
  | ((with_reducible refine' r_eq ?e ?_); (case e => rfl)) | ((with_reducible refine' r_ne ?e ?_); (case e => rfl)) | with_reducible refine r_I0 ?_
  | ((with_reducible refine' r_ixT0 ?e ?f ?_); (case e => walk_at "hp"); (case f => rfl)) | ((with_reducible refine' r_ixT1 ?e ?f ?_); (case e => walk_at "hp"); (case f => rfl)) | ((with_reducible refine' r_ixT2 ?e ?f ?_); (case e => walk_at "hp"); (case f => rfl)) | ((with_reducible refine' r_ixT3 ?e ?f ?_); (case e => walk_at "hp"); (case f => rfl)) | ((with_reducible refine' r_ixT4 ?e ?f ?_); (case e => walk_at "hp"); (case f => rfl)) | ((with_reducible refine' r_ixL0 ?e ?f ?_); (case e => walk_at "hp"); (case f => rfl)) | ((with_reducible refine' r_ixL1 ?e ?f ?_); (case e => walk_at "hp"); (case f => rfl)) | ((with_reducible refine' r_ixL2 ?e ?f ?_); (case e => walk_at "hp"); (case f => rfl)) | ((with_reducible refine' r_ixL3 ?e ?f ?_); (case e => walk_at "hp"); (case f => rfl)) | ((with_reducible refine' r_ixL4 ?e ?f ?_); (case e => walk_at "hp"); (case f => rfl))
  | ((with_reducible refine' r_ixT ?e ?f ?_); (case e => walk_at "hp"); (case f => rfl)) | ((with_reducible refine' r_ixL ?e ?f ?_); (case e => walk_at "hp"); (case f => rfl))
  | ((with_reducible refine' r_append ?e ?f ?_); (case e => walk_at "hp"); (case f => walk_at "sz")) | ((with_reducible refine' r_extend ?e ?e2 ?f ?_); (case e => walk_at "hp"); (case e2 => walk_at "hp"); (case f => walk_at "sz"))
  | with_reducible refine r_dgetE ?_ | with_reducible refine r_dinE ?_ | with_reducible refine r_dninE ?_ | with_reducible refine r_dputE ?_ | with_reducible refine r_dnew ?_ | with_reducible refine r_neg ?_
  | ((with_reducible refine' r_truL ?e ?_); (case e => walk_at "hp"))
  | ((with_reducible refine' r_gtup ?e ?f ?_); (case e => walk_at "hp"); (case f => rfl))
  | ((with_reducible refine' r_tyL ?e ?_); (case e => walk_at "hp")) | walk_at "if")
local macro_rules | `(tactic| walk_at "go") => `(tactic| repeat walk_at "s")
/- steps end -/
/-- an entry of the stack on the heap: the tuple at t, its list at a -/
structure Ent where
  t : Addr
  a : Addr
  l : Str
  lf : List Str
/-- the stack on the heap -/
structure StkAt (H : Hp) (q : List Ent) : Prop where
  tup : ∀ e ∈ q, H e.t = some (.tup [.str e.l, .ref e.a])
  lst : ∀ e ∈ q, H e.a = some (.lst (e.lf.map V.str))
  nd : (q.map (·.a)).Nodup
def stk (q : List Ent) : Stk Str := q.map fun e => (e.l, e.lf)
theorem StkAt.to {H H' : Hp} {q : List Ent} (h : StkAt H q) (te : TE_ H H') (ha : ∀ e ∈ q, H' e.a = H e.a) : StkAt H' q :=
  ⟨fun e he => te _ _ (h.tup e he), fun e he => (ha e he).trans (h.lst e he), h.nd⟩
theorem te_mutL {H : Hp} {l : Addr} {xs : List V} {o : HO} (hl : H l = some (.lst xs)) : TE_ H (upd H l o) := fun a zs h => by
  rw [upd_ne (fun e => by rw [e, hl] at h; cases h)]; exact h
theorem te_mutD {H : Hp} {l : Addr} {xs : List (Key × V)} {o : HO} (hl : H l = some (.dK xs)) : TE_ H (upd H l o) := fun a zs h => by
  rw [upd_ne (fun e => by rw [e, hl] at h; cases h)]; exact h
theorem TE_.trans {H H1 H2 : Hp} (a : TE_ H H1) (b : TE_ H1 H2) : TE_ H H2 := fun c xs h => b c xs (a c xs h)
theorem stk_snoc (q : List Ent) (e : Ent) : stk (q ++ [e]) = stk q ++ [(e.l, e.lf)] := by simp [stk]
def spFin : Sp := fun vs H Q _ => ∃ (v : V) (en : Str) (U : List Str) (tg : Str → List Str), vs = [v] ∧ GrAt H v en U tg ∧ GrOk en U tg ∧
  ∀ p fl d H' o, Same H H' → H' p = some (.tup [.ref fl, d]) → H' fl = some (.lst (o.reverse.map V.str)) → H fl = none → IsOrder en "exit" tg o → (∀ x ∈ o, x ∈ U) → Q (.ref p) H'
/-- between two turns -/
def FinW (H : Hp) (g d fl dl sl : Addr) (en : Str) (U : List Str) (tg : Str → List Str) (m : Nat) (σ : L2.St) (H' : Hp) : Prop :=
  ∃ (q : List Ent) (fin Ds : List Str) (kvs : List (Key × V)) (z6 z7 z8 : Option V), σ = [some (.ref g), some (.str en), some (.ref d), some (.ref fl), some (.ref dl), some (.ref sl), z6, z7, z8] ∧ Same H H' ∧
    H' fl = some (.lst (fin.map V.str)) ∧ H' dl = some (.dK kvs) ∧ H' sl = some (.lst (q.map fun e => V.ref e.t)) ∧ StkAt H' q ∧ (∀ e ∈ q, e.a ≠ fl ∧ e.a ≠ sl ∧ H e.a = none) ∧
    (∀ x, x ∈ Ds ↔ (dv kvs x).isSome = true) ∧ kvs.length ≤ Ds.length ∧ Ds.length ≤ (seq fin (stk q)).length ∧ DInv en "exit" tg U fin Ds (stk q) ∧ m = work U fin (stk q)
section
variable {P : Program} {w : World} {K : PySem.W.Frag} {mg : Str → Option Value} {base : Heap}
theorem scFin : FnScope ["graph", "entry", "targets", "finished", "discoverer", "stack", "label", "left", "target"] ["graph"] (defScope (top 8)) := ⟨rfl, rfl, rfl, by decide +kernel, rfl, by decide +kernel, by decide +kernel⟩
theorem fin_cal (T : Tx w K mg) : C8.Cal P w K mg base 1 "finished_order" spFin [] := by
  have m_list := T.free "list" (by decide +kernel)
  have g_EXIT := gstr T (x := "EXIT") (z := "exit") (by decide +kernel)
  refine cal T (i := 8) (by decide +kernel) scFin (fun vs H Q E h => ?_) (fun _ _ _ _ _ _ us hl => match us, hl with | [_], _ => rfl) (fun cdv A outer s H vs Q E hr h => ?_)
  · obtain ⟨v, _, _, _, rfl, _⟩ := h
    rfl
  obtain ⟨v, en, U, tg, rfl, hg, ok, q⟩ := h
  have hu := hu_of hr
  obtain ⟨g, d, rfl, hgt, kvs, hdk, hkeys, htg⟩ := hg
  refine ⟨_, (pss_cons (ps_asg (pv 0) (pg_tup rfl (pgs_cons (pg_name (i := 1) scFin.nd rfl (.inl rfl)) (pgs_cons (pg_name (i := 2) scFin.nd rfl (.inl rfl)) pgs_nil))))
(pss_cons (ps_set (i := 3) scFin.nd rfl (.inl rfl) (pe_lst pa_nil))
(pss_cons (ps_set (i := 4) scFin.nd rfl (.inl rfl) pe_dnewK)
(pss_cons (ps_if (pt_cmpR op_eq (pv 1) (C8.pe_gc rfl g_EXIT) (nomark _))
(pss_one (ps_ret (pe_tup (pa_cons (pv 3) (pa_cons (pv 4) pa_nil)))))
pss_nil)
(pss_cons (ps_dput hu (pv 4) (pv 1) pe_non rfl)
(pss_cons (ps_set (i := 5) scFin.nd rfl (.inl rfl) (pe_lst (pa_cons (pe_tup (pa_cons (pv 1) (pa_cons (pe_callTy call_list_of rfl m_list boot_list (pa_cons (pe_dget hu (pv 2) (pv 1) (fun _ _ => rfl)) pa_nil)) pa_nil))) pa_nil)))
(pss_cons (ps_while PassesOwn.never (pt_truth (pv 5) (fun _ => rfl))
(pss_cons (ps_asg (pe_ix ix_list (pv 5) (pe_un un_neg pe_int) (fun _ _ => rfl)) (pg_tup rfl (pgs_cons (pg_name (i := 6) scFin.nd rfl (.inl rfl)) (pgs_cons (pg_name (i := 7) scFin.nd rfl (.inl rfl)) pgs_nil))))
(pss_cons (ps_if (pt_not (pt_truth (pv 7) (fun _ => rfl)))
(pss_cons (ps_expr (pe_bm PySem.F.plainAttrs_list PySem.F.slot_list_append PySem.F.type_list_append mt_append (pv 3) (pa_cons (pv 6) pa_nil)))
(pss_cons (ps_expr (pe_bm0 PySem.F.plainAttrs_list PySem.F.slot_list_pop PySem.F.type_list_pop mt_pop (pv 5)))
(pss_one ps_continue)))
pss_nil)
(pss_cons (ps_set (i := 8) scFin.nd rfl (.inl rfl) (pe_bm0 PySem.F.plainAttrs_list PySem.F.slot_list_pop PySem.F.type_list_pop mt_pop (pv 7)))
(pss_one (ps_if (PW.pt (pw_and (pt_cmpR op_ne (pv 8) (C8.pe_gc rfl g_EXIT) (nomark _)) (pw_and1 (pt_cmp (pc_dnotin hu (pv 8) (pv 4))))))
(pss_cons (ps_dput hu (pv 4) (pv 8) (pv 6) rfl)
(pss_one (ps_expr (pe_bm PySem.F.plainAttrs_list PySem.F.slot_list_append PySem.F.type_list_append mt_append (pv 5) (pa_cons (pe_tup (pa_cons (pv 8) (pa_cons (pe_callTy call_list_of rfl m_list boot_list (pa_cons (pe_dget hu (pv 2) (pv 8) (fun _ _ => rfl)) pa_nil)) pa_nil))) pa_nil)))))
pss_nil))))))
(pss_one (ps_ret (pe_tup (pa_cons (pv 3) (pa_cons (pv 4) pa_nil)))))))))))), ?_⟩
  walk_at "go"
  refine ⟨Nat.zero_le _, fun fl nfl => ?_⟩
  walk_at "go"
  intro dl ndl
  have ndl0 : H dl = none := fb (by walk_at "sm") ndl
  walk_at "go"
  refine r_if2 (fun hc => ?_) (fun hc => ?_)
  · have he : en = "exit" := V.str.inj (of_decide_eq_true hc)
    walk_at "go"
    refine ⟨by show 2 ≤ sizeLine; decide, fun p np => ?_⟩
    exact q p fl (.ref dl) _ [] (by walk_at "sm") upd_same (by walk_at "hp") nfl (order_none he) (fun x hx => by simp at hx)
  have hne : en ≠ "exit" := fun e => by rw [e] at hc; simp at hc
  have henU := ok.en hne
  walk_at "go"
  refine r_dp (by walk_at "hp") (by simp) ?_
  obtain ⟨te, hte, hte'⟩ := htg en henU
  walk_at "go"
  refine r_dg (by walk_at "hp") hte ?_
  walk_at "go"
  refine r_listOf (TF.s (by walk_at "sm") hte').sqt fun a0 na0 => ?_
  walk_at "go"
  refine ⟨by show 2 ≤ sizeLine; decide, fun t0 nt0 => ?_⟩
  walk_at "go"
  refine ⟨by show 1 ≤ sizeLine; decide, fun sl nsl => ?_⟩
  have nfd : fl ≠ dl := fun e => by rw [e, upd_same] at ndl; cases ndl
  have na00 : H a0 = none := fb (by walk_at "sm") na0
  have nt00 : H t0 = none := fb (by walk_at "sm") nt0
  have nsl0 : H sl = none := fb (by walk_at "sm") nsl
  have a1 : a0 ≠ fl := fun e => by rw [e, upd_ne nfd, upd_ne nfd, upd_same] at na0; cases na0
  have a2 : a0 ≠ dl := fun e => by rw [e, upd_same] at na0; cases na0
  have a3 : t0 ≠ a0 := fun e => by rw [e, upd_same] at nt0; cases nt0
  have a4 : t0 ≠ fl := fun e => by rw [e, upd_ne a1.symm, upd_ne nfd, upd_ne nfd, upd_same] at nt0; cases nt0
  have a5 : t0 ≠ dl := fun e => by rw [e, upd_ne a2.symm, upd_same] at nt0; cases nt0
  have a6 : sl ≠ t0 := fun e => by rw [e, upd_same] at nsl; cases nsl
  have a7 : sl ≠ a0 := fun e => by rw [e, upd_ne a3.symm, upd_same] at nsl; cases nsl
  have a8 : sl ≠ fl := fun e => by rw [e, upd_ne a4.symm, upd_ne a1.symm, upd_ne nfd, upd_ne nfd, upd_same] at nsl; cases nsl
  have a9 : sl ≠ dl := fun e => by rw [e, upd_ne a5.symm, upd_ne a2.symm, upd_same] at nsl; cases nsl
  walk_at "go"
  refine r_while ⟨FinW H g d fl dl sl en U tg, ⟨_, [⟨t0, a0, en, tg en⟩], [], [en], putK [] (Sum.inr en) V.non, none, none, none, rfl, by walk_at "sm", ?_, ?_, upd_same, ⟨?_, ?_, ?_⟩, ?_, ?_, ?_, ?_, .start hne henU, rfl⟩, ?_⟩
  · rw [upd_ne a8.symm, upd_ne a4.symm, upd_ne a1.symm, upd_ne nfd, upd_ne nfd, upd_same]; rfl
  · rw [upd_ne a9.symm, upd_ne a5.symm, upd_ne a2.symm, upd_same]
  · intro e he
    obtain rfl := List.mem_singleton.mp he
    show upd _ sl _ t0 = _
    rw [upd_ne a6.symm, upd_same]
  · intro e he
    obtain rfl := List.mem_singleton.mp he
    show upd _ sl _ a0 = _
    rw [upd_ne a7.symm, upd_ne a3.symm, upd_same]
  · simp
  · intro e he
    obtain rfl := List.mem_singleton.mp he
    exact ⟨a1, a7.symm, na00⟩
  · intro x
    rw [dv_put]
    by_cases hx : x = en
    · subst hx; simp
    · rw [if_neg hx]; simp [hx, dv, valV_nil]
  · show (putK [] (Sum.inr en) V.non).length ≤ 1
    exact put_len _ _ _
  · simp [seq, stk]
  rintro m σ H' ⟨q', fin, Ds, kvs', z6, z7, z8, rfl, s1, hfl, hdl, hsl, hq, hne', hDs, hkl, hdq, dinv, rfl⟩
  have hbig := dinv.le
  have hlen := ok.len
  have hfinl : fin.length ≤ 60 := by simp [seq] at hbig; omega
  walk_at "go"
  refine r_if2 (fun hb => ?_) (fun hb => ?_)
  · -- a turn
    rcases List.eq_nil_or_concat q' with rfl | ⟨q1, e, rfl⟩
    · simp at hb
    rw [List.concat_eq_append] at *
    obtain ⟨et, ea, el, ef⟩ := e
    have hem : (⟨et, ea, el, ef⟩ : Ent) ∈ q1 ++ [⟨et, ea, el, ef⟩] := by simp
    have ht := hq.tup _ hem
    have hl := hq.lst _ hem
    obtain ⟨nf, ns, nea⟩ := hne' _ hem
    dsimp only at ht hl nf ns nea
    have hq1 : StkAt H' q1 := ⟨fun x hx => hq.tup x (List.mem_append_left _ hx), fun x hx => hq.lst x (List.mem_append_left _ hx), by have := hq.nd; rw [List.map_append, List.nodup_append] at this; exact this.1⟩
    have hq2 : ∀ {ef1 : List Str}, StkAt (upd H' ea (.lst (ef1.map V.str))) (q1 ++ [⟨et, ea, el, ef1⟩]) := by
      intro ef1
      have hnd := hq.nd
      rw [List.map_append, List.nodup_append] at hnd
      refine ⟨fun x hx => ?_, fun x hx => ?_, by rw [List.map_append, List.nodup_append]; exact hnd⟩
      · rcases List.mem_append.mp hx with hx | hx
        · exact te_mutL hl _ _ (hq1.tup x hx)
        · obtain rfl := List.mem_singleton.mp hx
          exact te_mutL hl _ _ ht
      · rcases List.mem_append.mp hx with hx | hx
        · rw [upd_ne (fun e => hnd.2.2 x.a (List.mem_map_of_mem hx) ea (by simp) e)]; exact hq1.lst x hx
        · obtain rfl := List.mem_singleton.mp hx
          exact upd_same
    rw [List.map_append] at hsl
    rw [stk_snoc] at dinv hdq hbig ⊢
    dsimp only at dinv hdq hbig ⊢
    refine ⟨fun σ' H'' => ∃ m', m' < work U fin (stk q1 ++ [(el, ef)]) ∧ FinW H g d fl dl sl en U tg m' σ' H'', fun _ _ h => h, ?_⟩
    walk_at "go"
    refine r_ixLm1 (v := .ref et) (by walk_at "hp") ?_
    walk_at "go"
    refine r_if2 (fun hb2 => ?_) (fun hb2 => ?_)
    · -- nothing is left: finished
      have eef : ef = [] := by
        cases ef with
        | nil => rfl
        | cons a r => simp at hb2
      subst eef
      have hsl1 : upd H' fl (.lst (fin.map V.str ++ [V.str el])) sl = some (.lst (q1.map (fun e => V.ref e.t) ++ [V.ref et])) := by rw [upd_ne a8]; exact hsl
      walk_at "go"
      refine r_pop (xs := q1.map fun e => V.ref e.t) (v := .ref et) hsl1 ?_
      walk_at "go"
      refine ⟨_, work_finish (l := el), q1, fin ++ [el], Ds, kvs', some (.str el), some (.ref ea), z8, rfl, by walk_at "sm", ?_, ?_, upd_same, hq1.to ((te_mutL hfl).trans (te_mutL (xs := q1.map (fun e => V.ref e.t) ++ [V.ref et]) (by rw [upd_ne a8]; exact hsl))) ?_, fun x hx => hne' x (List.mem_append_left _ hx), hDs, hkl, ?_, dinv.finish, rfl⟩
      · rw [upd_ne a8.symm, upd_same]; simp
      · rw [upd_ne a9.symm, upd_ne nfd.symm]; exact hdl
      · intro x hx
        obtain ⟨b1, b2, _⟩ := hne' x (List.mem_append_left _ hx)
        rw [upd_ne b2, upd_ne b1]
      · rw [seq_finish (lf := [])]; exact hdq
    · -- a target is looked at
      rcases List.eq_nil_or_concat ef with rfl | ⟨ef1, t, rfl⟩
      · simp at hb2
      rw [List.concat_eq_append] at *
      rw [List.map_append] at hl
      have nead : ea ≠ dl := ne_of hl hdl (by intro z; cases z)
      walk_at "go"
      refine r_pop (xs := ef1.map V.str) (v := .str t) hl ?_
      have sE : Same H (upd H' ea (.lst (ef1.map V.str))) := Same.mut s1 nea _
      have skip : (t = "exit" ∨ t ∈ Ds) → ∃ m', m' < work U fin (stk q1 ++ [(el, ef1 ++ [t])]) ∧ FinW H g d fl dl sl en U tg m' [some (.ref g), some (.str en), some (.ref d), some (.ref fl), some (.ref dl), some (.ref sl), some (.str el), some (.ref ea), some (.str t)] (upd H' ea (.lst (ef1.map V.str))) := by
        intro ht'
        refine ⟨_, work_skip, q1 ++ [⟨et, ea, el, ef1⟩], fin, Ds, kvs', _, _, _, rfl, sE, ?_, ?_, ?_, hq2, ?_, hDs, hkl, ?_, ?_, ?_⟩
        · rw [upd_ne nf.symm]; exact hfl
        · rw [upd_ne nead.symm]; exact hdl
        · rw [upd_ne ns.symm, List.map_append]; exact hsl
        · intro x hx
          rcases List.mem_append.mp hx with hx | hx
          · exact hne' x (List.mem_append_left _ hx)
          · obtain rfl := List.mem_singleton.mp hx
            exact ⟨nf, ns, nea⟩
        · rw [stk_snoc, seq_skip (lf' := ef1 ++ [t])]; exact hdq
        · rw [stk_snoc]; exact dinv.skip ht'
        · rw [stk_snoc]
      walk_at "go"
      refine r_if2 (fun hb3 => ?_) (fun hb3 => ?_)
      · have hnex : t ≠ "exit" := fun e => by rw [e] at hb3; simp at hb3
        walk_at "go"
        refine r_dgo (kvs := kvs') (by rw [upd_ne nead.symm]; exact hdl) ?_
        walk_at "go"
        refine r_if2 (fun hb4 => ?_) (fun hb4 => ?_)
        · have hnd : t ∉ Ds := fun z => by
            have := (hDs t).mp z
            rw [this] at hb4; cases hb4
          have tU : t ∈ U := ok.cl el (dinv.sub el (by rw [seq_top]; simp)) t ((dinv.left (el, ef1 ++ [t]) (by simp)).1 t (by simp)) hnex
          obtain ⟨tt, htt, htt'⟩ := htg t tU
          walk_at "go"
          refine r_dp (kvs := kvs') (by rw [upd_ne nead.symm]; exact hdl) (by omega) ?_
          have sE2 : Same H (upd (upd H' ea (.lst (ef1.map V.str))) dl (.dK (putK kvs' (Sum.inr t) (.str el)))) := Same.mut sE ndl0 _
          generalize eX : upd (upd H' ea (.lst (ef1.map V.str))) dl (.dK (putK kvs' (Sum.inr t) (.str el))) = HX at *
          have xsl : HX sl = some (.lst (q1.map (fun e => V.ref e.t) ++ [V.ref et])) := by rw [← eX, upd_ne a9, upd_ne ns.symm]; exact hsl
          have xfl : HX fl = some (.lst (fin.map V.str)) := by rw [← eX, upd_ne nfd, upd_ne nf.symm]; exact hfl
          have xdl : HX dl = some (.dK (putK kvs' (Sum.inr t) (.str el))) := by rw [← eX, upd_same]
          have xq : StkAt HX (q1 ++ [⟨et, ea, el, ef1⟩]) := by
            rw [← eX]
            refine hq2.to (te_mutD (xs := kvs') (by rw [upd_ne nead.symm]; exact hdl)) fun x hx => upd_ne (fun e => ?_)
            have := hq2.lst x hx
            rw [e, upd_ne nead.symm, hdl] at this
            cases this
          walk_at "go"
          refine r_dg (sE2 _ _ hdk) htt ?_
          walk_at "go"
          refine r_listOf (TF.s sE2 htt').sqt fun a1' na1' => ?_
          walk_at "go"
          refine ⟨by show 2 ≤ sizeLine; decide, fun t1 nt1 => ?_⟩
          have s5 : Same HX (upd (upd HX a1' (.lst ((tg t).map V.str))) t1 (.tup [.str t, .ref a1'])) := by walk_at "sm"
          have b1 : a1' ≠ t1 := ne_of_none (upd_same (H := HX)) nt1
          have hql : q1.length ≤ 60 := by have hz := hbig; rw [seq_top] at hz; simp only [stk, List.length_append, List.length_cons, List.length_reverse, List.length_map] at hz; omega
          walk_at "go"
          refine ⟨_, work_push dinv hnex hnd tU (ok.two t tU), q1 ++ [⟨et, ea, el, ef1⟩] ++ [⟨t1, a1', t, tg t⟩], fin, Ds ++ [t], putK kvs' (Sum.inr t) (.str el), some (.str el), some (.ref ea), some (.str t), rfl, ?_, ?_, ?_, ?_, ?_, ?_, ?_, ?_, ?_, ?_, ?_⟩
          · exact Same.mut (Same.trans sE2 s5) nsl0 _
          · rw [upd_ne a8.symm]; exact s5 _ _ xfl
          · rw [upd_ne a9.symm]; exact s5 _ _ xdl
          · rw [upd_same, List.map_append, List.map_append]; rfl
          · refine ⟨fun x hx => ?_, fun x hx => ?_, ?_⟩
            · rcases List.mem_append.mp hx with hx | hx
              · refine te_mutL (s5 _ _ xsl) _ _ (s5 _ _ (xq.tup x hx))
              · obtain rfl := List.mem_singleton.mp hx
                refine te_mutL (s5 _ _ xsl) _ _ upd_same
            · rcases List.mem_append.mp hx with hx | hx
              · have e1 := s5 _ _ (xq.lst x hx)
                have : x.a ≠ sl := by
                  rcases List.mem_append.mp hx with hx | hx
                  · exact (hne' x (List.mem_append_left _ hx)).2.1
                  · obtain rfl := List.mem_singleton.mp hx
                    exact ns
                rw [upd_ne this]; exact e1
              · obtain rfl := List.mem_singleton.mp hx
                show upd _ sl _ a1' = _
                rw [upd_ne (ne_of_none xsl na1').symm, upd_ne b1, upd_same]
            · rw [List.map_append, List.nodup_append]
              refine ⟨xq.nd, by simp, ?_⟩
              intro x hx y hy e
              simp at hy
              obtain ⟨z, hz, rfl⟩ := List.mem_map.mp hx
              exact ne_of_none (xq.lst z hz) na1' (e.trans hy)
          · intro x hx
            rcases List.mem_append.mp hx with hx | hx
            · rcases List.mem_append.mp hx with hx | hx
              · exact hne' x (List.mem_append_left _ hx)
              · obtain rfl := List.mem_singleton.mp hx
                exact ⟨nf, ns, nea⟩
            · obtain rfl := List.mem_singleton.mp hx
              exact ⟨(ne_of_none xfl na1').symm, (ne_of_none xsl na1').symm, fb sE2 na1'⟩
          · intro x
            rw [dv_put, List.mem_append, hDs]
            by_cases hx : x = t
            · subst hx; simp
            · rw [if_neg hx]; simp [hx]
          · have := put_len kvs' (Sum.inr t) (.str el)
            simp; omega
          · rw [stk_snoc, stk_snoc, List.append_assoc]
            rw [seq_top] at hdq
            simp [seq] at hdq ⊢
            omega
          · rw [stk_snoc, stk_snoc, List.append_assoc]
            exact dinv.push hnex hnd tU
          · rw [stk_snoc, stk_snoc, List.append_assoc]; rfl
        · have htD : t ∈ Ds := (hDs t).mpr (by cases hx : (dv kvs' t).isSome with | true => rfl | false => rw [hx] at hb4; cases hb4)
          walk_at "go"
          exact skip (.inr htD)
      · have htx : t = "exit" := by
          by_cases e : t = "exit"
          · exact e
          · exfalso
            have : decide (V.str t = V.str "exit") = false := decide_eq_false (fun z => e (V.str.inj z))
            rw [this] at hb3; cases hb3
        walk_at "go"
        exact skip (.inl htx)
  · -- the end
    have eq' : q' = [] := by
      cases q' with
      | nil => rfl
      | cons a r => simp at hb
    subst eq'
    walk_at "go"
    refine ⟨by show 2 ≤ sizeLine; decide, fun p np => ?_⟩
    refine q p fl (.ref dl) _ fin.reverse (by walk_at "sm") upd_same (by rw [List.reverse_reverse]; exact up_new hfl np _) nfl (dinv.order hne) (fun x hx => dinv.sub x ?_)
    simp [seq, stk] at hx ⊢
    exact hx
end
end K5
end

section
set_option linter.all false
set_option maxRecDepth 100000
/-! order_of, reached_without. -/
namespace K5
open PySem PySem.Spec PyProof.Rows L2 MG
/- steps -/
local macro_rules | `(tactic| walk_at "sm") => `(tactic| first | assumption | exact Same.refl _ | (refine Same.mut ?_ (by assumption) _; walk_at "sm") | (refine Same.trans ?_ (Same.newo (by assumption) _); walk_at "sm") | (refine Same.trans ?_ (by assumption); walk_at "sm"))
local macro_rules | `(tactic| walk_at "hp") => `(tactic| first | assumption | exact upd_same | (refine up_new ?_ (by assumption) _; walk_at "hp") | (refine Same.up ?_ (by assumption) (by assumption); walk_at "sm") | (refine Same.look (by assumption) ?_; walk_at "hp"))
local macro_rules | `(tactic| walk_at "rep") => `(tactic| first | assumption | exact str_rep | exact int_rep | exact non_rep | (refine' Rep.s ?s ?h; (case h => assumption); (case s => walk_at "sm")))
local macro_rules | `(tactic| walk_at "if") => `(tactic| first | ((with_reducible refine' r_ifT ?e ?_); (case e => decide +kernel)) | ((with_reducible refine' r_ifF ?e ?_); (case e => decide +kernel)))
local macro_rules | `(tactic| walk_at "sz") => `(tactic| first | omega | decide | (simp only [List.length_map, List.length_append, List.length_cons, List.length_nil, List.length_take]; omega))
local macro_rules | `(tactic| walk_at "s") => `(tactic| first
  | with_reducible refine r_seq ?_ | with_reducible refine r_set ?_ | with_reducible refine r_asg ?_ | with_reducible refine r_ret ?_ | with_reducible refine r_drop ?_ | with_reducible refine r_next ?_ | with_reducible refine r_cont ?_ | with_reducible refine r_brk ?_
  | with_reducible refine r_if ?_ | with_reducible refine r_test ?_ | with_reducible refine r_tB ?_ | with_reducible refine r_bl ?_ | with_reducible refine r_and ?_ | with_reducible refine r_or ?_ | with_reducible refine r_not ?_
  | ((with_reducible refine' r_var ?e ?_); (case e => rfl)) | with_reducible refine r_c ?_ | with_reducible refine r_op ?_ | with_reducible refine r_un ?_ | with_reducible refine r_ifx ?_ | with_reducible refine r_andV ?_ | with_reducible refine r_orV ?_ | with_reducible refine r_notV ?_
  | with_reducible refine r_nil ?_ | with_reducible refine r_cons ?_ | with_reducible refine r_cb ?_ | with_reducible refine r_bm ?_ | with_reducible refine r_bm0 ?_ | with_reducible refine r_lst ?_ | with_reducible refine r_tup ?_ | with_reducible refine r_call ?_
  | with_reducible refine r_lc ?_ | with_reducible refine r_dc ?_ | with_reducible refine r_for ?_ | with_reducible refine r_iTup ?_ | with_reducible refine r_iList ?_ | with_reducible refine r_iEnum ?_ | with_reducible refine r_iRng1 ?_
  | with_reducible refine r_sl ?_ | with_reducible refine r_part ?_ | with_reducible refine r_nop ?_ | with_reducible refine r_int ?_ | with_reducible refine r_then ?_ | with_reducible refine r_yes ?_
  | with_reducible refine r_gname ?_ | with_reducible refine r_gcons ?_ | with_reducible refine r_gnil ?_
  | ((with_reducible refine' r_eq ?e ?_); (case e => rfl)) | ((with_reducible refine' r_ne ?e ?_); (case e => rfl)) | with_reducible refine r_I0 ?_
  | ((with_reducible refine' r_ixT0 ?e ?f ?_); (case e => walk_at "hp"); (case f => rfl)) | ((with_reducible refine' r_ixT1 ?e ?f ?_); (case e => walk_at "hp"); (case f => rfl)) | ((with_reducible refine' r_ixT2 ?e ?f ?_); (case e => walk_at "hp"); (case f => rfl)) | ((with_reducible refine' r_ixT3 ?e ?f ?_); (case e => walk_at "hp"); (case f => rfl)) | ((with_reducible refine' r_ixT4 ?e ?f ?_); (case e => walk_at "hp"); (case f => rfl)) | ((with_reducible refine' r_ixL0 ?e ?f ?_); (case e => walk_at "hp"); (case f => rfl)) | ((with_reducible refine' r_ixL1 ?e ?f ?_); (case e => walk_at "hp"); (case f => rfl)) | ((with_reducible refine' r_ixL2 ?e ?f ?_); (case e => walk_at "hp"); (case f => rfl)) | ((with_reducible refine' r_ixL3 ?e ?f ?_); (case e => walk_at "hp"); (case f => rfl)) | ((with_reducible refine' r_ixL4 ?e ?f ?_); (case e => walk_at "hp"); (case f => rfl))
  | ((with_reducible refine' r_ixT ?e ?f ?_); (case e => walk_at "hp"); (case f => rfl)) | ((with_reducible refine' r_ixL ?e ?f ?_); (case e => walk_at "hp"); (case f => rfl))
  | ((with_reducible refine' r_append ?e ?f ?_); (case e => walk_at "hp"); (case f => walk_at "sz")) | ((with_reducible refine' r_extend ?e ?e2 ?f ?_); (case e => walk_at "hp"); (case e2 => walk_at "hp"); (case f => walk_at "sz"))
  | with_reducible refine r_dgetE ?_ | with_reducible refine r_dinE ?_ | with_reducible refine r_dninE ?_ | with_reducible refine r_dputE ?_ | with_reducible refine r_dnew ?_ | with_reducible refine r_neg ?_
  | ((with_reducible refine' r_truL ?e ?_); (case e => walk_at "hp"))
  | ((with_reducible refine' r_gtup ?e ?f ?_); (case e => walk_at "hp"); (case f => rfl))
  | ((with_reducible refine' r_tyL ?e ?_); (case e => walk_at "hp")) | walk_at "if")
local macro_rules | `(tactic| walk_at "go") => `(tactic| repeat walk_at "s")
/- steps end -/
def spOrder : Sp := fun vs H Q _ => ∃ (v : V) (en : Str) (U : List Str) (tg : Str → List Str), vs = [v] ∧ GrAt H v en U tg ∧ GrOk en U tg ∧
  ∀ p H' o, Same H H' → H' p = some (.tup (o.map V.str)) → IsOrder en "exit" tg o → (∀ x ∈ o, x ∈ U) → Q (.ref p) H'
/-- the search without av -/
structure RInv (en av : Str) (tg : Str → List Str) (U Ks W : List Str) : Prop where
  sub : ∀ x ∈ Ks, x ∈ U
  nd : Ks.Nodup
  noav : av ∉ Ks
  noex : ("exit" : Str) ∉ Ks
  ent : en ≠ av → en ∈ Ks ∨ en ∈ W
  cl : ∀ l ∈ Ks, ∀ t ∈ tg l, t ≠ "exit" → t ≠ av → t ∈ Ks ∨ t ∈ W
  wsub : ∀ x ∈ W, x = "exit" ∨ x ∈ U
  eav : en = av → Ks = [] ∧ ∀ x ∈ W, x = av
theorem RInv.skip {en av x : Str} {tg : Str → List Str} {U Ks W : List Str} (h : RInv en av tg U Ks (W ++ [x])) (hne : en ≠ "exit") (hx : x = "exit" ∨ x = av ∨ x ∈ Ks) : RInv en av tg U Ks W := by
  refine ⟨h.sub, h.nd, h.noav, h.noex, fun e => ?_, fun l hl t ht h1 h2 => ?_, fun y hy => h.wsub y (by simp [hy]), fun e => ⟨(h.eav e).1, fun y hy => (h.eav e).2 y (by simp [hy])⟩⟩
  · rcases h.ent e with z | z
    · exact .inl z
    · rcases List.mem_append.mp z with z | z
      · exact .inr z
      · have ez : en = x := by simpa using z
        rcases hx with q | q | q
        · exact absurd (ez.trans q) hne
        · exact absurd (ez.trans q) e
        · exact .inl (by rw [ez]; exact q)
  · rcases h.cl l hl t ht h1 h2 with z | z
    · exact .inl z
    · rcases List.mem_append.mp z with z | z
      · exact .inr z
      · have ez : t = x := by simpa using z
        rcases hx with q | q | q
        · exact absurd (ez.trans q) h1
        · exact absurd (ez.trans q) h2
        · exact .inl (by rw [ez]; exact q)
theorem RInv.add {en av x : Str} {tg : Str → List Str} {U Ks W : List Str} (h : RInv en av tg U Ks (W ++ [x])) (ok : GrOk en U tg) (h1 : x ≠ "exit") (h2 : x ≠ av) (h3 : x ∉ Ks) : RInv en av tg U (Ks ++ [x]) (W ++ tg x) := by
  have hxU : x ∈ U := by
    rcases h.wsub x (by simp) with z | z
    · exact absurd z h1
    · exact z
  have mv : ∀ y, y ∈ Ks ∨ y ∈ W ++ [x] → y ∈ Ks ++ [x] ∨ y ∈ W ++ tg x := by
    rintro y (z | z)
    · exact .inl (by simp [z])
    · rcases List.mem_append.mp z with z | z
      · exact .inr (by simp [z])
      · exact .inl (by simp only [List.mem_append]; exact .inr z)
  refine ⟨?_, ?_, ?_, ?_, fun e => mv _ (h.ent e), ?_, ?_, fun e => ?_⟩
  · intro y hy
    rcases List.mem_append.mp hy with z | z
    · exact h.sub y z
    · rw [show y = x by simpa using z]; exact hxU
  · rw [List.nodup_append]
    exact ⟨h.nd, by simp, fun a ha b hb e => h3 (by rw [← show b = x by simpa using hb, ← e]; exact ha)⟩
  · intro z
    rcases List.mem_append.mp z with z | z
    · exact h.noav z
    · exact h2 (by simpa using z : av = x).symm
  · intro z
    rcases List.mem_append.mp z with z | z
    · exact h.noex z
    · exact h1 (by simpa using z : ("exit" : Str) = x).symm
  · intro l hl t ht e1 e2
    rcases List.mem_append.mp hl with z | z
    · exact mv t (h.cl l z t ht e1 e2)
    · have : l = x := by simpa using z
      subst this
      exact .inr (by simp [ht])
  · intro y hy
    rcases List.mem_append.mp hy with z | z
    · exact h.wsub y (by simp [z])
    · by_cases e : y = "exit"
      · exact .inl e
      · exact .inr (ok.cl x hxU y z e)
  · exact absurd ((h.eav e).2 x (by simp)) h2
theorem RInv.le {en av : Str} {tg : Str → List Str} {U Ks W : List Str} (h : RInv en av tg U Ks W) : Ks.length ≤ U.length := h.nd.length_le_of_subset (fun x hx => h.sub x hx)
def spReach : Sp := fun vs H Q _ => ∃ (v : V) (av en : Str) (U : List Str) (tg : Str → List Str), vs = [v, .str av] ∧ GrAt H v en U tg ∧ GrOk en U tg ∧ en ≠ "exit" ∧
  ∀ d kvs H' Ks, Same H H' → H' d = some (.dK kvs) → (∀ x, x ∈ Ks ↔ (dv kvs x).isSome = true) → RInv en av tg U Ks [] → Q (.ref d) H'
section
variable {P : Program} {w : World} {K : PySem.W.Frag} {mg : Str → Option Value} {base : Heap}
theorem scOrder : FnScope ["graph", "finished", "_"] ["graph"] (defScope (top 9)) := ⟨rfl, rfl, rfl, by decide +kernel, rfl, by decide +kernel, by decide +kernel⟩
theorem order_cal (T : Tx w K mg) : C8.Cal P w K mg base 2 "order_of" spOrder [] := by
  have c_finished_order : C8.Cal P w K mg base 1 "finished_order" spFin [] := fin_cal T
  have m_tuple := T.free "tuple" (by decide +kernel)
  have m_reversed := T.free "reversed" (by decide +kernel)
  refine cal T (i := 9) (by decide +kernel) scOrder (fun vs H Q E h => ?_) (fun _ _ _ _ _ _ us hl => match us, hl with | [_], _ => rfl) (fun cdv A outer s H vs Q E hr h => ?_)
  · obtain ⟨v, _, _, _, rfl, _⟩ := h
    rfl
  obtain ⟨v, en, U, tg, rfl, hg, ok, q⟩ := h
  refine ⟨_, (pss_cons (ps_asg (C8.pe_c c_finished_order hr (by omega) rfl (pa_cons (pv 0) pa_nil)) (pg_tup rfl (pgs_cons (pg_name (i := 1) scOrder.nd rfl (.inl rfl)) (pgs_cons (pg_name (i := 2) scOrder.nd rfl (.inl rfl)) pgs_nil))))
(pss_one (ps_ret (RT.pe_tupRev rfl rfl m_tuple rfl m_reversed (pv 1))))), ?_⟩
  walk_at "go"
  refine ⟨v, en, U, tg, rfl, hg, ok, fun p fl d H1 o s1 hp hfl nfl io ho => ?_⟩
  walk_at "go"
  refine ⟨_, rfl, fl, _, rfl, SqL.of hfl, fun p2 n2 => ?_⟩
  refine q p2 _ o (by walk_at "sm") ?_ io ho
  rw [upd_same, ← List.map_reverse, List.reverse_reverse]
theorem scReach : FnScope ["graph", "avoided", "entry", "targets", "found", "waiting", "label"] ["graph", "avoided"] (defScope (top 10)) := ⟨rfl, rfl, rfl, by decide +kernel, rfl, by decide +kernel, by decide +kernel⟩
def ReachW (H : Hp) (g d fd wd : Addr) (en av : Str) (U : List Str) (tg : Str → List Str) (m : Nat) (σ : L2.St) (H' : Hp) : Prop :=
  ∃ (Ks W : List Str) (kvs : List (Key × V)) (z : Option V), σ = [some (.ref g), some (.str av), some (.str en), some (.ref d), some (.ref fd), some (.ref wd), z] ∧ Same H H' ∧
    H' fd = some (.dK kvs) ∧ H' wd = some (.lst (W.map V.str)) ∧ (∀ x, x ∈ Ks ↔ (dv kvs x).isSome = true) ∧ kvs.length ≤ Ks.length ∧ RInv en av tg U Ks W ∧ W.length ≤ 1 + 2 * Ks.length ∧ m = 4 * (U.length - Ks.length) + W.length
theorem reach_cal (T : Tx w K mg) : C8.Cal P w K mg base 1 "reached_without" spReach [] := by
  have g_EXIT := gstr T (x := "EXIT") (z := "exit") (by decide +kernel)
  refine cal T (i := 10) (by decide +kernel) scReach (fun vs H Q E h => ?_) (fun _ _ _ _ _ _ us hl => match us, hl with | [_, _], _ => rfl) (fun cdv A outer s H vs Q E hr h => ?_)
  · obtain ⟨v, _, _, _, _, rfl, _⟩ := h
    rfl
  obtain ⟨v, av, en, U, tg, rfl, hg, ok, hne, q⟩ := h
  have hu := hu_of hr
  have hlen := ok.len
  obtain ⟨g, d, rfl, hgt, kvs, hdk, hkeys, htg⟩ := hg
  refine ⟨_, (pss_cons (ps_asg (pv 0) (pg_tup rfl (pgs_cons (pg_name (i := 2) scReach.nd rfl (.inl rfl)) (pgs_cons (pg_name (i := 3) scReach.nd rfl (.inl rfl)) pgs_nil))))
(pss_cons (ps_set (i := 4) scReach.nd rfl (.inl rfl) pe_dnewK)
(pss_cons (ps_set (i := 5) scReach.nd rfl (.inl rfl) (pe_lst (pa_cons (pv 2) pa_nil)))
(pss_cons (ps_while PassesOwn.never (pt_truth (pv 5) (fun _ => rfl))
(pss_cons (ps_set (i := 6) scReach.nd rfl (.inl rfl) (pe_bm0 PySem.F.plainAttrs_list PySem.F.slot_list_pop PySem.F.type_list_pop mt_pop (pv 5)))
(pss_one (ps_if (PW.pt (pw_and (pt_cmpR op_notIn_seq (pv 6) (pe_tup (pa_cons (C8.pe_gc rfl g_EXIT) (pa_cons (pv 1) pa_nil))) rfl) (pw_and1 (pt_cmp (pc_dnotin hu (pv 6) (pv 4))))))
(pss_cons (ps_dput hu (pv 4) (pv 6) pe_bl rfl)
(pss_one (ps_expr (pe_bm PySem.F.plainAttrs_list PySem.F.slot_list_extend PySem.F.type_list_extend mt_extendT (pv 5) (pa_cons (pe_dget hu (pv 3) (pv 6) (fun _ _ => rfl)) pa_nil)))))
pss_nil))))
(pss_one (ps_ret (pv 4))))))), ?_⟩
  walk_at "go"
  intro fd nfd
  walk_at "go"
  refine ⟨by show 1 ≤ sizeLine; decide, fun wd nwd => ?_⟩
  have nwd0 : H wd = none := fb (by walk_at "sm") nwd
  have nfw : fd ≠ wd := fun e => by rw [← e, upd_same] at nwd; cases nwd
  walk_at "go"
  refine r_while ⟨ReachW H g d fd wd en av U tg, ⟨_, [], [en], [], none, rfl, by walk_at "sm", by walk_at "hp", upd_same, by simp [dv, valV_nil], Nat.le_refl _,
    ⟨by simp, by simp, by simp, by simp, fun _ => .inr (by simp), by simp, fun x hx => .inr (by rw [show x = en by simpa using hx]; exact ok.en hne), fun e => ⟨rfl, fun x hx => by rw [show x = en by simpa using hx]; exact e⟩⟩, by simp, rfl⟩, ?_⟩
  rintro m σ H' ⟨Ks, W, kvs', z, rfl, s1, hfd, hwd, hKs, hkl, inv, hWl, rfl⟩
  have hle := inv.le
  walk_at "go"
  refine r_if2 (fun hb => ?_) (fun hb => ?_)
  · rcases List.eq_nil_or_concat W with rfl | ⟨W1, x, rfl⟩
    · simp at hb
    rw [List.concat_eq_append] at *
    rw [List.map_append] at hwd
    refine ⟨fun σ' H'' => ∃ m', m' < 4 * (U.length - Ks.length) + (W1 ++ [x]).length ∧ ReachW H g d fd wd en av U tg m' σ' H'', fun _ _ h => h, ?_⟩
    walk_at "go"
    refine r_pop (xs := W1.map V.str) (v := .str x) hwd ?_
    have sE : Same H (upd H' wd (.lst (W1.map V.str))) := Same.mut s1 nwd0 _
    walk_at "go"
    refine ⟨by show 2 ≤ sizeLine; decide, fun p1 n1 => ?_⟩
    refine r_notInTs (zs := ["exit", av]) (by walk_at "hp") ?_
    have xfd : upd (upd H' wd (.lst (W1.map V.str))) p1 (.tup [.str "exit", .str av]) fd = some (.dK kvs') := up_new (by rw [upd_ne nfw]; exact hfd) n1 _
    have xwd : upd (upd H' wd (.lst (W1.map V.str))) p1 (.tup [.str "exit", .str av]) wd = some (.lst (W1.map V.str)) := up_new upd_same n1 _
    have sE2 : Same H (upd (upd H' wd (.lst (W1.map V.str))) p1 (.tup [.str "exit", .str av])) := by walk_at "sm"
    generalize eX : upd (upd H' wd (.lst (W1.map V.str))) p1 (.tup [.str "exit", .str av]) = HX at *
    have skip : (x = "exit" ∨ x = av ∨ x ∈ Ks) → ∃ m', m' < 4 * (U.length - Ks.length) + (W1 ++ [x]).length ∧ ReachW H g d fd wd en av U tg m' [some (.ref g), some (.str av), some (.str en), some (.ref d), some (.ref fd), some (.ref wd), some (.str x)] HX := fun hx =>
      ⟨_, by simp, Ks, W1, kvs', _, rfl, sE2, xfd, xwd, hKs, hkl, inv.skip hne hx, by simp at hWl; omega, rfl⟩
    walk_at "go"
    refine r_if2 (fun hb2 => ?_) (fun hb2 => ?_)
    · have h12 : x ≠ "exit" ∧ x ≠ av := by simpa using hb2
      walk_at "go"
      refine r_dgo xfd ?_
      walk_at "go"
      refine r_if2 (fun hb3 => ?_) (fun hb3 => ?_)
      · have hx3 : x ∉ Ks := fun z => by
          have := (hKs x).mp z
          rw [this] at hb3; cases hb3
        have inv2 := inv.add ok h12.1 h12.2 hx3
        have hle2 := inv2.le
        have xU : x ∈ U := inv2.sub x (by simp)
        have h2 := ok.two x xU
        obtain ⟨tt, htt, htt'⟩ := htg x xU
        walk_at "go"
        refine r_dp xfd (by omega) ?_
        have sE3 : Same H (upd HX fd (.dK (putK kvs' (Sum.inr x) (.bl true)))) := Same.mut sE2 (fb (Same.refl _) nfd) _
        have ywd : upd HX fd (.dK (putK kvs' (Sum.inr x) (.bl true))) wd = some (.lst (W1.map V.str)) := by rw [upd_ne nfw.symm]; exact xwd
        walk_at "go"
        refine r_dg (sE3 _ _ hdk) htt ?_
        walk_at "go"
        refine ⟨wd, tt, _, _, rfl, rfl, ywd, (TF.s sE3 htt').sqt, sz (by simp only [List.length_map]; simp at hWl; omega), ?_⟩
        refine ⟨_, ?_, Ks ++ [x], W1 ++ tg x, putK kvs' (Sum.inr x) (.bl true), _, rfl, Same.mut sE3 nwd0 _, by rw [upd_ne nfw, upd_same], by rw [upd_same, List.map_append], fun y => ?_, ?_, inv2, ?_, rfl⟩
        · simp at hle2 ⊢; omega
        · rw [dv_put, List.mem_append, hKs]
          by_cases hy : y = x
          · subst hy; simp
          · rw [if_neg hy]; simp [hy]
        · have := put_len kvs' (Sum.inr x) (.bl true)
          simp; omega
        · simp at hWl ⊢; omega
      · have hx3 : x ∈ Ks := (hKs x).mpr (by cases hx : (dv kvs' x).isSome with | true => rfl | false => rw [hx] at hb3; cases hb3)
        walk_at "go"
        exact skip (.inr (.inr hx3))
    · have h12 : x = "exit" ∨ x = av := by
        by_cases e1 : x = "exit"
        · exact .inl e1
        · by_cases e2 : x = av
          · exact .inr e2
          · simp [e1, e2] at hb2
      walk_at "go"
      exact skip (h12.elim .inl fun e => .inr (.inl e))
  · have eW : W = [] := by
      cases W with
      | nil => rfl
      | cons a r => simp at hb
    subst eW
    walk_at "go"
    exact q fd kvs' H' Ks s1 hfd hKs inv
end
end K5
end

section
set_option linter.all false
set_option maxRecDepth 100000
/-! strict_dominators. -/
namespace K5
open PySem PySem.Spec PyProof.Rows L2 MG
/- steps -/
local macro_rules | `(tactic| walk_at "sm") => `(tactic| first | assumption | exact Same.refl _ | (refine Same.mut ?_ (by assumption) _; walk_at "sm") | (refine Same.trans ?_ (Same.newo (by assumption) _); walk_at "sm") | (refine Same.trans ?_ (by assumption); walk_at "sm"))
local macro_rules | `(tactic| walk_at "hp") => `(tactic| first | assumption | exact upd_same | (refine up_new ?_ (by assumption) _; walk_at "hp") | (refine Same.up ?_ (by assumption) (by assumption); walk_at "sm") | (refine Same.look (by assumption) ?_; walk_at "hp"))
local macro_rules | `(tactic| walk_at "rep") => `(tactic| first | assumption | exact str_rep | exact int_rep | exact non_rep | (refine' Rep.s ?s ?h; (case h => assumption); (case s => walk_at "sm")))
local macro_rules | `(tactic| walk_at "if") => `(tactic| first | ((with_reducible refine' r_ifT ?e ?_); (case e => decide +kernel)) | ((with_reducible refine' r_ifF ?e ?_); (case e => decide +kernel)))
local macro_rules | `(tactic| walk_at "sz") => `(tactic| first | omega | decide | (simp only [List.length_map, List.length_append, List.length_cons, List.length_nil, List.length_take]; omega))
local macro_rules | `(tactic| walk_at "s") => `(tactic| first
  | with_reducible refine r_seq ?_ | with_reducible refine r_set ?_ | with_reducible refine r_asg ?_ | with_reducible refine r_ret ?_ | with_reducible refine r_drop ?_ | with_reducible refine r_next ?_ | with_reducible refine r_cont ?_ | with_reducible refine r_brk ?_
  | with_reducible refine r_if ?_ | with_reducible refine r_test ?_ | with_reducible refine r_tB ?_ | with_reducible refine r_bl ?_ | with_reducible refine r_and ?_ | with_reducible refine r_or ?_ | with_reducible refine r_not ?_
  | ((with_reducible refine' r_var ?e ?_); (case e => rfl)) | with_reducible refine r_c ?_ | with_reducible refine r_op ?_ | with_reducible refine r_un ?_ | with_reducible refine r_ifx ?_ | with_reducible refine r_andV ?_ | with_reducible refine r_orV ?_ | with_reducible refine r_notV ?_
  | with_reducible refine r_nil ?_ | with_reducible refine r_cons ?_ | with_reducible refine r_cb ?_ | with_reducible refine r_bm ?_ | with_reducible refine r_bm0 ?_ | with_reducible refine r_lst ?_ | with_reducible refine r_tup ?_ | with_reducible refine r_call ?_
  | with_reducible refine r_lc ?_ | with_reducible refine r_dc ?_ | with_reducible refine r_for ?_ | with_reducible refine r_iTup ?_ | with_reducible refine r_iList ?_ | with_reducible refine r_iEnum ?_ | with_reducible refine r_iRng1 ?_
  | with_reducible refine r_sl ?_ | with_reducible refine r_part ?_ | with_reducible refine r_nop ?_ | with_reducible refine r_int ?_ | with_reducible refine r_then ?_ | with_reducible refine r_yes ?_
  | with_reducible refine r_gname ?_ | with_reducible refine r_gcons ?_ | with_reducible refine r_gnil ?_
  | ((with_reducible refine' r_eq ?e ?_); (case e => rfl)) | ((with_reducible refine' r_ne ?e ?_); (case e => rfl)) | with_reducible refine r_I0 ?_
  | ((with_reducible refine' r_ixT0 ?e ?f ?_); (case e => walk_at "hp"); (case f => rfl)) | ((with_reducible refine' r_ixT1 ?e ?f ?_); (case e => walk_at "hp"); (case f => rfl)) | ((with_reducible refine' r_ixT2 ?e ?f ?_); (case e => walk_at "hp"); (case f => rfl)) | ((with_reducible refine' r_ixT3 ?e ?f ?_); (case e => walk_at "hp"); (case f => rfl)) | ((with_reducible refine' r_ixT4 ?e ?f ?_); (case e => walk_at "hp"); (case f => rfl)) | ((with_reducible refine' r_ixL0 ?e ?f ?_); (case e => walk_at "hp"); (case f => rfl)) | ((with_reducible refine' r_ixL1 ?e ?f ?_); (case e => walk_at "hp"); (case f => rfl)) | ((with_reducible refine' r_ixL2 ?e ?f ?_); (case e => walk_at "hp"); (case f => rfl)) | ((with_reducible refine' r_ixL3 ?e ?f ?_); (case e => walk_at "hp"); (case f => rfl)) | ((with_reducible refine' r_ixL4 ?e ?f ?_); (case e => walk_at "hp"); (case f => rfl))
  | ((with_reducible refine' r_ixT ?e ?f ?_); (case e => walk_at "hp"); (case f => rfl)) | ((with_reducible refine' r_ixL ?e ?f ?_); (case e => walk_at "hp"); (case f => rfl))
  | ((with_reducible refine' r_append ?e ?f ?_); (case e => walk_at "hp"); (case f => walk_at "sz")) | ((with_reducible refine' r_extend ?e ?e2 ?f ?_); (case e => walk_at "hp"); (case e2 => walk_at "hp"); (case f => walk_at "sz"))
  | with_reducible refine r_dgetE ?_ | with_reducible refine r_dinE ?_ | with_reducible refine r_dninE ?_ | with_reducible refine r_dputE ?_ | with_reducible refine r_dnew ?_ | with_reducible refine r_neg ?_
  | ((with_reducible refine' r_truL ?e ?_); (case e => walk_at "hp"))
  | ((with_reducible refine' r_gtup ?e ?f ?_); (case e => walk_at "hp"); (case f => rfl))
  | ((with_reducible refine' r_tyL ?e ?_); (case e => walk_at "hp")) | walk_at "if")
local macro_rules | `(tactic| walk_at "go") => `(tactic| repeat walk_at "s")
/- steps end -/
theorem dv_map {f : Str → V} {l : Str} : ∀ {L : List Str}, l ∈ L → dv (L.map fun l => ((Sum.inr l : Key), f l)) l = some (f l)
  | [], h => by simp at h
  | x :: r, h => by
    by_cases e : x = l
    · subst e
      exact valV_pos (p := ((Sum.inr x : Key), f x)) rfl
    · have : l ∈ r := by
        rcases List.mem_cons.mp h with z | z
        · exact absurd z.symm e
        · exact z
      refine (valV_neg (p := ((Sum.inr x : Key), f x)) (fun z => e (Sum.inr.inj z))).trans (dv_map this)
theorem dv_map_none {f : Str → V} {l : Str} : ∀ {L : List Str}, l ∉ L → dv (L.map fun l => ((Sum.inr l : Key), f l)) l = none
  | [], _ => rfl
  | x :: r, h => by
    refine (valV_neg (p := ((Sum.inr x : Key), f x)) (fun z => h (by rw [Sum.inr.inj z]; simp))).trans (dv_map_none fun z => h (by simp [z]))
theorem take_snoc {α : Type} {o : List α} {i : Nat} {l : α} (h : o[i]? = some l) : o.take (i + 1) = o.take i ++ [l] := by
  obtain ⟨hi', rfl⟩ := List.getElem?_eq_some_iff.mp h
  rw [List.take_succ_eq_append_getElem hi']
theorem not_take {α : Type} {o : List α} {i : Nat} {l : α} (hn : o.Nodup) (h : o[i]? = some l) : l ∉ o.take i := by
  intro z
  have := hn.sublist (List.take_sublist (i + 1) o)
  rw [take_snoc h, List.nodup_append] at this
  exact this.2.2 l z l (by simp) rfl
theorem map_str_get {o : List Str} {i : Nat} {y : V} (h : (o.map V.str)[i]? = some y) : ∃ x, o[i]? = some x ∧ y = .str x := by
  rw [List.getElem?_map] at h
  cases e : o[i]? with
  | none => rw [e] at h; simp at h
  | some x => rw [e] at h; simp at h; exact ⟨x, rfl, h.symm⟩
/-- d is on every way to m -/
def DomBy (en : Str) (tg : Str → List Str) (o : List Str) (d m : Str) : Prop :=
  d ∈ o ∧ m ≠ d ∧ ∃ R : Str → Prop, (en ≠ d → R en) ∧ (∀ l, R l → ∀ t ∈ tg l, t ≠ "exit" → t ≠ d → R t) ∧ ¬ R m
/-- what strict_dominators gives -/
structure DomOk (en : Str) (tg : Str → List Str) (o : List Str) (dm : Str → List Str) : Prop where
  some_ : ∀ m ∈ o, m ≠ en → dm m ≠ []
  by_ : ∀ m ∈ o, ∀ d ∈ dm m, DomBy en tg o d m
def spDom : Sp := fun vs H Q _ => ∃ (v : V) (en : Str) (U : List Str) (tg : Str → List Str), vs = [v] ∧ GrAt H v en U tg ∧ GrOk en U tg ∧
  ∀ d H' o kvs dm, Same H H' → H' d = some (.dK kvs) → IsOrder en "exit" tg o → DomOk en tg o dm → (∀ l ∈ o, ∃ t, dv kvs l = some (.ref t) ∧ H' t = some (.tup ((dm l).map V.str))) → Q (.ref d) H'
/-- the lists by label: H0 what stood before -/
def DLs (H0 H : Hp) (fd : Addr) (o : List Str) (ad : Str → Addr) (dm : Str → List Str) : Prop :=
  H fd = some (.dK (o.map fun l => (Sum.inr l, V.ref (ad l)))) ∧ (∀ l ∈ o, H (ad l) = some (.lst ((dm l).map V.str)) ∧ H0 (ad l) = none) ∧ ∀ l ∈ o, ∀ m ∈ o, ad l = ad m → l = m
theorem DLs.s {H0 H H' : Hp} {fd : Addr} {o : List Str} {ad : Str → Addr} {dm : Str → List Str} (h : DLs H0 H fd o ad dm) (s : Same H H') : DLs H0 H' fd o ad dm :=
  ⟨s _ _ h.1, fun l hl => ⟨s _ _ (h.2.1 l hl).1, (h.2.1 l hl).2⟩, h.2.2⟩
section
variable {P : Program} {w : World} {K : PySem.W.Frag} {mg : Str → Option Value} {base : Heap}
theorem scDom : FnScope ["graph", "order", "found", "label", "reached", "other"] ["graph"] (defScope (top 11)) := ⟨rfl, rfl, rfl, by decide +kernel, rfl, by decide +kernel, by decide +kernel⟩
theorem dom_cal (T : Tx w K mg) : C8.Cal P w K mg base 3 "strict_dominators" spDom [] := by
  have c_order_of : C8.Cal P w K mg base 2 "order_of" spOrder [] := order_cal T
  have c_reached_without : C8.Cal P w K mg base 1 "reached_without" spReach [] := reach_cal T
  have m_tuple := T.free "tuple" (by decide +kernel)
  refine cal T (i := 11) (by decide +kernel) scDom (fun vs H Q E h => ?_) (fun _ _ _ _ _ _ us hl => match us, hl with | [_], _ => rfl) (fun cdv A outer s H vs Q E hr h => ?_)
  · obtain ⟨v, _, _, _, rfl, _⟩ := h
    rfl
  obtain ⟨v, en, U, tg, rfl, hg, ok, q⟩ := h
  have hu := hu_of hr
  have hlen := ok.len
  refine ⟨_, (pss_cons (ps_set (i := 1) scDom.nd rfl (.inl rfl) (C8.pe_c c_order_of hr (by omega) rfl (pa_cons (pv 0) pa_nil)))
(pss_cons (ps_set (i := 2) scDom.nd rfl (.inr rfl) (pe_dc (own := [("label", 3)]) (g := gName 3) (tt := tYes) (tk := tVar 3) (tv := tLst tNil) rfl scDom.nd (pi_tup (pv 1)) (blkOk_by (N := ["graph", "order", "found", "label", "reached", "other"]) (sc := defScope (top 11)) (by decide +kernel)) (fun _ _ _ _ _ => pg_name (i := 3) scDom.nd rfl (.inl rfl)) (fun _ _ _ _ _ => pts_nil) (fun _ _ _ _ _ => pv 3) (fun _ _ _ _ _ => pe_lst pa_nil)))
(pss_cons (ps_for PassesOwn.never rfl (pi_tup (pv 1)) (pg_name (i := 3) scDom.nd rfl (.inl rfl))
(pss_cons (ps_set (i := 4) scDom.nd rfl (.inl rfl) (C8.pe_c c_reached_without hr (by omega) rfl (pa_cons (pv 0) (pa_cons (pv 3) pa_nil))))
(pss_one (ps_for PassesOwn.never rfl (pi_tup (pv 1)) (pg_name (i := 5) scDom.nd rfl (.inl rfl))
(pss_one (ps_if (PW.pt (pw_and (pt_cmpR op_ne (pv 5) (pv 3) (nomark _)) (pw_and1 (pt_cmp (pc_dnotin hu (pv 5) (pv 4))))))
(pss_one (ps_expr (pe_bm PySem.F.plainAttrs_list PySem.F.slot_list_append PySem.F.type_list_append mt_append (pe_dget hu (pv 2) (pv 5) (fun _ _ => rfl)) (pa_cons (pv 3) pa_nil))))
pss_nil))))))
(pss_one (ps_ret (pe_dc (own := [("label", 3)]) (g := gName 3) (tt := tYes) (tk := tVar 3) (tv := tThen (tDGet (tVar 2) (tVar 3)) (kTup K)) rfl scDom.nd (pi_tup (pv 1)) (blkOk_by (N := ["graph", "order", "found", "label", "reached", "other"]) (sc := defScope (top 11)) (by decide +kernel)) (fun _ _ _ _ _ => pg_name (i := 3) scDom.nd rfl (.inl rfl)) (fun _ _ _ _ _ => pts_nil) (fun _ _ _ _ _ => pv 3) (fun _ _ _ _ _ => pe_tupleOf rfl m_tuple (pe_dget hu (pv 2) (pv 3) (fun _ _ => rfl))))))))), ?_⟩
  walk_at "go"
  refine ⟨v, en, U, tg, rfl, hg, ok, fun p H1 o s1 hp io ho => ?_⟩
  walk_at "go"
  have ol : o.length ≤ 60 := Nat.le_trans (io.nodup.length_le_of_subset fun x hx => ho x hx) hlen
  refine ⟨p, rfl, ⟨_, SqT.of hp⟩, fun fd nfd => dc_tup (xs := o.map V.str) (fun i H' => ∃ ad, Same H1 H' ∧ DLs H1 H' fd (o.take i) ad (fun _ => []))
    ⟨fun _ => 0, Same.newo nfd _, upd_same, by simp, by simp⟩ (fun i H' _ ⟨_, s2, _⟩ => SqT.of (s2 _ _ hp)) ?_ ?_⟩
  · rintro i y H' hi ⟨ad, s2, hD1, hD2, hD3⟩
    obtain ⟨x, hx, rfl⟩ := map_str_get hi
    have hnt := not_take io.nodup hx
    walk_at "go"
    refine ⟨rfl, ?_⟩
    walk_at "go"
    refine ⟨Nat.zero_le _, fun p2 n2 => ?_⟩
    have n20 : H1 p2 = none := fb s2 n2
    have fp2 : fd ≠ p2 := ne_of_none hD1 n2
    have nadp : ∀ l ∈ o.take i, ad l ≠ p2 := fun l hl => ne_of_none (hD2 l hl).1 n2
    have nadf : ∀ l ∈ o.take i, ad l ≠ fd := fun l hl => ne_of (hD2 l hl).1 hD1 (by intro z; cases z)
    refine ⟨_, Sum.inr x, rfl, up_new hD1 n2 _, szl (by rw [List.length_map, List.length_take]; omega), fun l => if l = x then p2 else ad l, Same.mut (Same.trans s2 (Same.newo n2 _)) nfd _, ?_, ?_, ?_⟩
    · rw [upd_same, put_keys_new _ (dv_map_none hnt), take_snoc hx, List.map_append]
      have e1 : (o.take i).map (fun l => ((Sum.inr l : Key), V.ref (if l = x then p2 else ad l))) = (o.take i).map fun l => ((Sum.inr l : Key), V.ref (ad l)) := List.map_congr_left fun l hl => by rw [if_neg (fun e => hnt (by rw [← e]; exact hl))]
      rw [e1, List.map_cons, List.map_nil]
      simp only [if_true]
    · intro l hl
      (try dsimp only)
      rw [take_snoc hx] at hl
      rcases List.mem_append.mp hl with hl | hl
      · rw [if_neg (fun e => hnt (by rw [← e]; exact hl)), upd_ne (nadf l hl), upd_ne (nadp l hl)]
        exact hD2 l hl
      · have : l = x := by simpa using hl
        subst this
        rw [if_pos rfl, upd_ne fp2.symm, upd_same]
        exact ⟨rfl, n20⟩
    · intro l hl m hm
      (try dsimp only)
      rw [take_snoc hx] at hl hm
      rcases List.mem_append.mp hl with hl | hl <;> rcases List.mem_append.mp hm with hm | hm
      · rw [if_neg (fun e => hnt (by rw [← e]; exact hl)), if_neg (fun e => hnt (by rw [← e]; exact hm))]
        exact hD3 l hl m hm
      · rw [if_neg (fun e => hnt (by rw [← e]; exact hl)), if_pos (by simpa using hm)]
        exact fun e => absurd e (nadp l hl)
      · rw [if_pos (show l = x by simpa using hl), if_neg (fun e => hnt (by rw [← e]; exact hm))]
        exact fun e => absurd e.symm (nadp m hm)
      · exact fun _ => (show l = x by simpa using hl).trans (show m = x by simpa using hm).symm
  · rintro H2 ⟨ad, s2, hD⟩
    rw [List.length_map, List.take_length] at hD
    walk_at "go"
    refine ⟨p, rfl, ⟨_, SqT.of (s2 _ _ hp)⟩, for_tup (xs := o.map V.str) (fun i σ H' => (∃ z3 z4 z5, σ = [some v, some (.ref p), some (.ref fd), z3, z4, z5]) ∧ Same H1 H' ∧ ∃ dm, DLs H1 H' fd o ad dm ∧
        (∀ m ∈ o, ∀ d ∈ dm m, DomBy en tg o d m) ∧ (0 < i → ∀ m ∈ o, m ≠ en → dm m ≠ []) ∧ ∀ m ∈ o, (dm m).length ≤ i)
      ⟨⟨_, _, _, rfl⟩, s2, fun _ => [], hD, fun m _ d hd => by simp at hd, fun h => absurd h (by omega), fun m _ => Nat.le_refl _⟩ (fun i σ H' _ ⟨_, s3, _⟩ => SqT.of (s3 _ _ hp)) ?_ ?_⟩
    · rintro i y σ H' hi ⟨⟨z3, z4, z5, rfl⟩, s3, dm, hD', hby, hso, hsz⟩
      obtain ⟨x, hx, rfl⟩ := map_str_get hi
      have hxo : x ∈ o := List.mem_of_getElem? hx
      have il : i < o.length := (List.getElem?_eq_some_iff.mp hx).1
      have hne : en ≠ "exit" := io.ne hxo
      walk_at "go"
      refine ⟨v, x, en, U, tg, rfl, hg.s (Same.trans s1 s3), ok, hne, fun rd kvR H3 Ks s4 hrd hKs inv => ?_⟩
      walk_at "go"
      refine ⟨p, rfl, ⟨_, SqT.of (s4 _ _ (s3 _ _ hp))⟩, for_tup (xs := o.map V.str) (fun j σ H' => (∃ z5, σ = [some v, some (.ref p), some (.ref fd), some (.str x), some (.ref rd), z5]) ∧ Same H1 H' ∧ H' rd = some (.dK kvR) ∧ ∃ dm, DLs H1 H' fd o ad dm ∧
          (∀ m ∈ o, ∀ d ∈ dm m, DomBy en tg o d m) ∧ (0 < i → ∀ m ∈ o, m ≠ en → dm m ≠ []) ∧ (x = en → ∀ m ∈ o.take j, m ≠ en → dm m ≠ []) ∧ (∀ m ∈ o, m ∉ o.take j → (dm m).length ≤ i) ∧ ∀ m ∈ o, (dm m).length ≤ i + 1)
        ⟨⟨_, rfl⟩, Same.trans s3 s4, hrd, dm, hD'.s s4, hby, hso, fun _ m hm => by simp at hm, fun m hm _ => hsz m hm, fun m hm => Nat.le_succ_of_le (hsz m hm)⟩ (fun i σ H' _ ⟨_, s5, _⟩ => SqT.of (s5 _ _ hp)) ?_ ?_⟩
      · rintro j y2 σ H'' hj ⟨⟨z5, rfl⟩, s5, hrd', dm', hD2, hby', hso', hse', hsz', hsz2'⟩
        obtain ⟨m, hm, rfl⟩ := map_str_get hj
        have hmo : m ∈ o := List.mem_of_getElem? hm
        have hmt := not_take io.nodup hm
        obtain ⟨hF, hA⟩ := hD2.2.1 m hmo
        have nadf : ad m ≠ fd := ne_of hF hD2.1 (by intro z; cases z)
        have nadr : rd ≠ ad m := ne_of hrd' hF (by intro z; cases z)
        have hlm := hsz' m hmo hmt
        walk_at "go"
        refine r_if2 (fun hb => ?_) (fun hb => ?_)
        · have hmx : m ≠ x := fun e => by rw [e] at hb; simp at hb
          walk_at "go"
          refine r_dgo hrd' ?_
          walk_at "go"
          refine r_if2 (fun hb2 => ?_) (fun hb2 => ?_)
          · have hnK : m ∉ Ks := fun z => by
              have := (hKs m).mp z
              rw [this] at hb2; cases hb2
            walk_at "go"
            refine r_dg (v := .ref (ad m)) hD2.1 (dv_map hmo) ?_
            walk_at "go"
            refine ⟨⟨_, rfl⟩, Same.mut s5 hA _, by rw [upd_ne nadr]; exact hrd', fun l => if l = m then dm' m ++ [x] else dm' l, ⟨?_, ?_, hD2.2.2⟩, ?_, ?_, ?_, ?_, ?_⟩
            · rw [upd_ne nadf.symm]; exact hD2.1
            · intro l hl
              (try dsimp only)
              by_cases e : l = m
              · subst e
                rw [if_pos rfl, upd_same, List.map_append]
                exact ⟨rfl, hA⟩
              · rw [if_neg e, upd_ne (fun q => e (hD2.2.2 l hl m hmo q))]
                exact hD2.2.1 l hl
            · intro l hl d hd
              (try dsimp only at hd ⊢)
              by_cases e : l = m
              · subst e
                rw [if_pos rfl] at hd
                rcases List.mem_append.mp hd with hd | hd
                · exact hby' l hl d hd
                · have : d = x := by simpa using hd
                  subst this
                  refine ⟨hxo, hmx, fun z => z ∈ Ks, fun e => ?_, fun l' hl' t ht h1 h2 => ?_, hnK⟩
                  · rcases inv.ent e with z | z
                    · exact z
                    · simp at z
                  · rcases inv.cl l' hl' t ht h1 h2 with z | z
                    · exact z
                    · simp at z
              · rw [if_neg e] at hd
                exact hby' l hl d hd
            · intro h0 l hl hle
              (try dsimp only)
              by_cases e : l = m
              · rw [if_pos e]; simp
              · rw [if_neg e]; exact hso' h0 l hl hle
            · intro hxe l hl hle
              (try dsimp only)
              by_cases e : l = m
              · rw [if_pos e]; simp
              · rw [if_neg e]
                rw [take_snoc hm] at hl
                rcases List.mem_append.mp hl with hl | hl
                · exact hse' hxe l hl hle
                · exact absurd (by simpa using hl) e
            · intro l hl hlt
              (try dsimp only)
              have e : l ≠ m := fun e => hlt (by rw [take_snoc hm, e]; simp)
              rw [if_neg e]
              exact hsz' l hl fun z => hlt (by rw [take_snoc hm]; simp [z])
            · intro l hl
              (try dsimp only)
              by_cases e : l = m
              · rw [if_pos e]; simp; omega
              · rw [if_neg e]; exact hsz2' l hl
          · have hK : m ∈ Ks := (hKs m).mpr (by cases hx : (dv kvR m).isSome with | true => rfl | false => rw [hx] at hb2; cases hb2)
            walk_at "go"
            refine ⟨⟨_, rfl⟩, s5, hrd', dm', hD2, hby', hso', fun hxe l hl hle => ?_, fun l hl hlt => hsz' l hl fun z => hlt (by rw [take_snoc hm]; simp [z]), hsz2'⟩
            rw [(inv.eav hxe.symm).1] at hK
            simp at hK
        · have hmx : m = x := by
            by_cases e : m = x
            · exact e
            · have : decide (V.str m = V.str x) = false := decide_eq_false (fun z => e (V.str.inj z))
              rw [this] at hb; cases hb
          walk_at "go"
          refine ⟨⟨_, rfl⟩, s5, hrd', dm', hD2, hby', hso', fun hxe l hl hle => ?_, fun l hl hlt => hsz' l hl fun z => hlt (by rw [take_snoc hm]; simp [z]), hsz2'⟩
          rw [take_snoc hm] at hl
          rcases List.mem_append.mp hl with hl | hl
          · exact hse' hxe l hl hle
          · exact absurd ((show l = m by simpa using hl).trans (hmx.trans hxe)) hle
      · rintro σ H'' ⟨⟨z5, rfl⟩, s5, hrd', dm', hD2, hby', hso', hse', hsz', hsz2'⟩
        rw [List.length_map, List.take_length] at hse'
        refine ⟨⟨_, _, _, rfl⟩, s5, dm', hD2, hby', fun _ m hm hme => ?_, hsz2'⟩
        by_cases h0 : 0 < i
        · exact hso' h0 m hm hme
        · refine hse' ?_ m hm hme
          obtain ⟨r, e⟩ := io.head hne
          have : i = 0 := by omega
          subst this
          rw [e] at hx
          simp at hx
          exact hx.symm
    · rintro σ H' ⟨⟨z3, z4, z5, rfl⟩, s3, dm, hD', hby, hso, hsz⟩
      rw [List.length_map] at hso hsz
      walk_at "go"
      refine ⟨p, rfl, ⟨_, SqT.of (s3 _ _ hp)⟩, fun rd nrd => dc_tup (xs := o.map V.str) (fun i H4 => ∃ td : Str → Addr, Same H' H4 ∧ H4 rd = some (.dK ((o.take i).map fun l => (Sum.inr l, V.ref (td l)))) ∧ ∀ l ∈ o.take i, H4 (td l) = some (.tup ((dm l).map V.str)))
        ⟨fun _ => 0, Same.newo nrd _, upd_same, by simp⟩ (fun i H4 _ ⟨_, s5, _⟩ => SqT.of (s5 _ _ (s3 _ _ hp))) ?_ ?_⟩
      · rintro i y H4 hi ⟨td, s5, hE1, hE2⟩
        obtain ⟨x, hx, rfl⟩ := map_str_get hi
        have hnt := not_take io.nodup hx
        have hxo : x ∈ o := List.mem_of_getElem? hx
        have hF := (hD'.2.1 x hxo).1
        walk_at "go"
        refine ⟨rfl, ?_⟩
        walk_at "go"
        refine r_dg (v := .ref (ad x)) (s5 _ _ hD'.1) (dv_map hxo) ?_
        refine r_kTupL (s5 _ _ hF) fun p2 n2 => ?_
        have rp2 : rd ≠ p2 := ne_of_none hE1 n2
        refine ⟨_, Sum.inr x, rfl, up_new hE1 n2 _, szl (by rw [List.length_map, List.length_take]; omega), fun l => if l = x then p2 else td l, Same.mut (Same.trans s5 (Same.newo n2 _)) nrd _, ?_, ?_⟩
        · rw [upd_same, put_keys_new _ (dv_map_none hnt), take_snoc hx, List.map_append]
          have e1 : (o.take i).map (fun l => ((Sum.inr l : Key), V.ref (if l = x then p2 else td l))) = (o.take i).map fun l => ((Sum.inr l : Key), V.ref (td l)) := List.map_congr_left fun l hl => by rw [if_neg (fun e => hnt (by rw [← e]; exact hl))]
          rw [e1, List.map_cons, List.map_nil]
          simp only [if_true]
        · intro l hl
          (try dsimp only)
          rw [take_snoc hx] at hl
          rcases List.mem_append.mp hl with hl | hl
          · rw [if_neg (fun e => hnt (by rw [← e]; exact hl)), upd_ne (ne_of (hE2 l hl) hE1 (by intro z; cases z)), upd_ne (ne_of_none (hE2 l hl) n2)]
            exact hE2 l hl
          · have : l = x := by simpa using hl
            subst this
            rw [if_pos rfl, upd_ne rp2.symm, upd_same]
      · rintro H4 ⟨td, s5, hE1, hE2⟩
        rw [List.length_map, List.take_length] at hE1 hE2
        refine q rd H4 o _ dm (Same.trans s1 (Same.trans s3 s5)) hE1 io ⟨fun m hm hme => hso (Nat.pos_of_ne_zero fun e => by rw [List.length_eq_zero_iff.mp e] at hm; simp at hm) m hm hme, hby⟩ fun l hl => ⟨td l, dv_map hl, hE2 l hl⟩
end
end K5
end

section
set_option linter.all false
set_option maxRecDepth 100000
/-! edges_of, retreating_edges, bad_edge, is_reducible. -/
namespace K5
open PySem PySem.Spec PyProof.Rows L2 MG
/- steps -/
local macro_rules | `(tactic| walk_at "sm") => `(tactic| first | assumption | exact Same.refl _ | (refine Same.mut ?_ (by assumption) _; walk_at "sm") | (refine Same.trans ?_ (Same.newo (by assumption) _); walk_at "sm") | (refine Same.trans ?_ (by assumption); walk_at "sm"))
local macro_rules | `(tactic| walk_at "hp") => `(tactic| first | assumption | exact upd_same | (refine up_new ?_ (by assumption) _; walk_at "hp") | (refine Same.up ?_ (by assumption) (by assumption); walk_at "sm") | (refine Same.look (by assumption) ?_; walk_at "hp"))
local macro_rules | `(tactic| walk_at "rep") => `(tactic| first | assumption | exact str_rep | exact int_rep | exact non_rep | (refine' Rep.s ?s ?h; (case h => assumption); (case s => walk_at "sm")))
local macro_rules | `(tactic| walk_at "if") => `(tactic| first | ((with_reducible refine' r_ifT ?e ?_); (case e => decide +kernel)) | ((with_reducible refine' r_ifF ?e ?_); (case e => decide +kernel)))
local macro_rules | `(tactic| walk_at "sz") => `(tactic| first | omega | decide | (simp only [List.length_map, List.length_append, List.length_cons, List.length_nil, List.length_take]; omega))
local macro_rules | `(tactic| walk_at "s") => `(tactic| first
  | with_reducible refine r_seq ?_ | with_reducible refine r_set ?_ | with_reducible refine r_asg ?_ | with_reducible refine r_ret ?_ | with_reducible refine r_drop ?_ | with_reducible refine r_next ?_ | with_reducible refine r_cont ?_ | with_reducible refine r_brk ?_
  | with_reducible refine r_if ?_ | with_reducible refine r_test ?_ | with_reducible refine r_tB ?_ | with_reducible refine r_bl ?_ | with_reducible refine r_and ?_ | with_reducible refine r_or ?_ | with_reducible refine r_not ?_
  | ((with_reducible refine' r_var ?e ?_); (case e => rfl)) | with_reducible refine r_c ?_ | with_reducible refine r_op ?_ | with_reducible refine r_un ?_ | with_reducible refine r_ifx ?_ | with_reducible refine r_andV ?_ | with_reducible refine r_orV ?_ | with_reducible refine r_notV ?_
  | with_reducible refine r_nil ?_ | with_reducible refine r_cons ?_ | with_reducible refine r_cb ?_ | with_reducible refine r_bm ?_ | with_reducible refine r_bm0 ?_ | with_reducible refine r_lst ?_ | with_reducible refine r_tup ?_ | with_reducible refine r_call ?_
  | with_reducible refine r_lc ?_ | with_reducible refine r_dc ?_ | with_reducible refine r_for ?_ | with_reducible refine r_iTup ?_ | with_reducible refine r_iList ?_ | with_reducible refine r_iEnum ?_ | with_reducible refine r_iRng1 ?_
  | with_reducible refine r_sl ?_ | with_reducible refine r_part ?_ | with_reducible refine r_nop ?_ | with_reducible refine r_int ?_ | with_reducible refine r_then ?_ | with_reducible refine r_yes ?_
  | with_reducible refine r_gname ?_ | with_reducible refine r_gcons ?_ | with_reducible refine r_gnil ?_
  | ((with_reducible refine' r_eq ?e ?_); (case e => rfl)) | ((with_reducible refine' r_ne ?e ?_); (case e => rfl)) | with_reducible refine r_I0 ?_
  | ((with_reducible refine' r_ixT0 ?e ?f ?_); (case e => walk_at "hp"); (case f => rfl)) | ((with_reducible refine' r_ixT1 ?e ?f ?_); (case e => walk_at "hp"); (case f => rfl)) | ((with_reducible refine' r_ixT2 ?e ?f ?_); (case e => walk_at "hp"); (case f => rfl)) | ((with_reducible refine' r_ixT3 ?e ?f ?_); (case e => walk_at "hp"); (case f => rfl)) | ((with_reducible refine' r_ixT4 ?e ?f ?_); (case e => walk_at "hp"); (case f => rfl)) | ((with_reducible refine' r_ixL0 ?e ?f ?_); (case e => walk_at "hp"); (case f => rfl)) | ((with_reducible refine' r_ixL1 ?e ?f ?_); (case e => walk_at "hp"); (case f => rfl)) | ((with_reducible refine' r_ixL2 ?e ?f ?_); (case e => walk_at "hp"); (case f => rfl)) | ((with_reducible refine' r_ixL3 ?e ?f ?_); (case e => walk_at "hp"); (case f => rfl)) | ((with_reducible refine' r_ixL4 ?e ?f ?_); (case e => walk_at "hp"); (case f => rfl))
  | ((with_reducible refine' r_ixT ?e ?f ?_); (case e => walk_at "hp"); (case f => rfl)) | ((with_reducible refine' r_ixL ?e ?f ?_); (case e => walk_at "hp"); (case f => rfl))
  | ((with_reducible refine' r_append ?e ?f ?_); (case e => walk_at "hp"); (case f => walk_at "sz")) | ((with_reducible refine' r_extend ?e ?e2 ?f ?_); (case e => walk_at "hp"); (case e2 => walk_at "hp"); (case f => walk_at "sz"))
  | with_reducible refine r_dgetE ?_ | with_reducible refine r_dinE ?_ | with_reducible refine r_dninE ?_ | with_reducible refine r_dputE ?_ | with_reducible refine r_dnew ?_ | with_reducible refine r_neg ?_
  | ((with_reducible refine' r_truL ?e ?_); (case e => walk_at "hp"))
  | ((with_reducible refine' r_gtup ?e ?f ?_); (case e => walk_at "hp"); (case f => rfl))
  | ((with_reducible refine' r_tyL ?e ?_); (case e => walk_at "hp")) | walk_at "if")
local macro_rules | `(tactic| walk_at "go") => `(tactic| repeat walk_at "s")
/- steps end -/
theorem r_lc2 {wi wi1 : TI} {g g1 : TG} {tt tt1 : TT} {te : TE} {vs vs1 : List Nat} {σ : L2.St} {H : Hp} {Q : VK} (h : wi σ H fun J H1 => ∀ D, H1 D = none → ∃ W : Nat → Nat → Hp → Prop, (∃ m, W 0 m (upd H1 D (.lst []))) ∧ ∀ i m H, W i m H →
  (J.stop i H ∧ Q (.ref D) H) ∨ (J.go i H ∧ ∃ Nx : Hp → Prop, (∀ H', Nx H' → ∃ m', m' < m ∧ W (i + 1) m' H') ∧ ∀ x H', J.yld i H x H' → g x (wipe σ vs) H' fun σ2 H2 => wipe σ2 vs = wipe σ vs ∧ tt σ2 H2 fun b H3 =>
    if b = true then wi1 σ2 H3 fun J1 H4 => ∃ W1 : Nat → Nat → Hp → Prop, (∃ m, W1 0 m H4) ∧ ∀ j k H, W1 j k H →
      (J1.stop j H ∧ Nx H) ∨ (J1.go j H ∧ ∃ Nx1 : Hp → Prop, (∀ H', Nx1 H' → ∃ k', k' < k ∧ W1 (j + 1) k' H') ∧ ∀ x H', J1.yld j H x H' → g1 x (wipe σ2 vs1) H' fun σ3 H5 => wipe σ3 vs1 = wipe σ2 vs1 ∧ tt1 σ3 H5 fun b H6 =>
        if b = true then te σ3 H6 fun y H7 => ∃ acc, H7 D = some (.lst acc) ∧ acc.length < sizeLine ∧ Nx1 (upd H7 D (.lst (acc ++ [y]))) else Nx1 H6)
    else Nx H3)) : tLc2 wi g tt wi1 g1 tt1 te vs vs1 σ H Q := h
/-- the outer loop, over a tuple -/
theorem lc2_tup {K : PySem.W.Frag} {a : Addr} {xs : List V} {vs : List Nat} {σ : L2.St} {H1 : Hp} {D : Addr} {g : TG} {tt : TT} {Qd : Hp → Prop} {wi1 : TI} {g1 : TG} {tt1 : TT} {te : TE} {vs1 : List Nat} (Pv : Nat → Hp → Prop) (h0 : Pv 0 (upd H1 D (.lst []))) (hl : ∀ i H, i ≤ xs.length → Pv i H → SqT K H a xs)
    (hs : ∀ i x H, xs[i]? = some x → Pv i H → g x (wipe σ vs) H fun σ2 H2 => wipe σ2 vs = wipe σ vs ∧ tt σ2 H2 fun b H3 => if b = true then wi1 σ2 H3 fun J1 H4 => ∃ W1 : Nat → Nat → Hp → Prop, (∃ m, W1 0 m H4) ∧ ∀ j k H, W1 j k H →
      (J1.stop j H ∧ Pv (i + 1) H) ∨ (J1.go j H ∧ ∃ Nx1 : Hp → Prop, (∀ H', Nx1 H' → ∃ k', k' < k ∧ W1 (j + 1) k' H') ∧ ∀ x H', J1.yld j H x H' → g1 x (wipe σ2 vs1) H' fun σ3 H5 => wipe σ3 vs1 = wipe σ2 vs1 ∧ tt1 σ3 H5 fun b H6 =>
        if b = true then te σ3 H6 fun y H7 => ∃ acc, H7 D = some (.lst acc) ∧ acc.length < sizeLine ∧ Nx1 (upd H7 D (.lst (acc ++ [y]))) else Nx1 H6) else Pv (i + 1) H3) (hd : ∀ H, Pv xs.length H → Qd H) :
    ∃ W : Nat → Nat → Hp → Prop, (∃ m, W 0 m (upd H1 D (.lst []))) ∧ ∀ i m H, W i m H →
      ((Itt K a).stop i H ∧ Qd H) ∨ ((Itt K a).go i H ∧ ∃ Nx : Hp → Prop, (∀ H', Nx H' → ∃ m', m' < m ∧ W (i + 1) m' H') ∧ ∀ x H', (Itt K a).yld i H x H' → g x (wipe σ vs) H' fun σ2 H2 => wipe σ2 vs = wipe σ vs ∧ tt σ2 H2 fun b H3 =>
        if b = true then wi1 σ2 H3 fun J1 H4 => ∃ W1 : Nat → Nat → Hp → Prop, (∃ m, W1 0 m H4) ∧ ∀ j k H, W1 j k H →
      (J1.stop j H ∧ Nx H) ∨ (J1.go j H ∧ ∃ Nx1 : Hp → Prop, (∀ H', Nx1 H' → ∃ k', k' < k ∧ W1 (j + 1) k' H') ∧ ∀ x H', J1.yld j H x H' → g1 x (wipe σ2 vs1) H' fun σ3 H5 => wipe σ3 vs1 = wipe σ2 vs1 ∧ tt1 σ3 H5 fun b H6 =>
        if b = true then te σ3 H6 fun y H7 => ∃ acc, H7 D = some (.lst acc) ∧ acc.length < sizeLine ∧ Nx1 (upd H7 D (.lst (acc ++ [y]))) else Nx1 H6) else Nx H3) := by
  refine ⟨fun i m H => m = xs.length - i ∧ i ≤ xs.length ∧ Pv i H, ⟨xs.length, by simp, Nat.zero_le _, h0⟩, ?_⟩
  rintro i m H ⟨rfl, hi, p⟩
  have q := hl i H hi p
  by_cases hlt : i < xs.length
  · refine .inr ⟨⟨xs, xs[i], q, by simp [hlt]⟩, Pv (i + 1), fun H' p' => ⟨xs.length - (i + 1), by omega, rfl, hlt, p'⟩, fun x H' y => ?_⟩
    obtain ⟨e, y⟩ := y
    subst e
    exact hs i x _ (y xs q) p
  · have e : i = xs.length := by omega
    subst e
    exact .inl ⟨⟨xs, q, Nat.le_refl _⟩, hd H p⟩
/-- the inner loop, over a tuple -/
theorem lc2_in {K : PySem.W.Frag} {a : Addr} {xs : List V} {H1 : Hp} {g : V → Hp → (Hp → Prop) → Prop} {Qd : Hp → Prop} (Pv : Nat → Hp → Prop) (h0 : Pv 0 H1) (hl : ∀ i H, i ≤ xs.length → Pv i H → SqT K H a xs)
    (hs : ∀ i x H, xs[i]? = some x → Pv i H → g x H (Pv (i + 1))) (hd : ∀ H, Pv xs.length H → Qd H) :
    ∃ W : Nat → Nat → Hp → Prop, (∃ m, W 0 m H1) ∧ ∀ i m H, W i m H →
      ((Itt K a).stop i H ∧ Qd H) ∨ ((Itt K a).go i H ∧ ∃ Nx : Hp → Prop, (∀ H', Nx H' → ∃ m', m' < m ∧ W (i + 1) m' H') ∧ ∀ x H', (Itt K a).yld i H x H' → g x H' Nx) := by
  refine ⟨fun i m H => m = xs.length - i ∧ i ≤ xs.length ∧ Pv i H, ⟨xs.length, by simp, Nat.zero_le _, h0⟩, ?_⟩
  rintro i m H ⟨rfl, hi, p⟩
  have q := hl i H hi p
  by_cases hlt : i < xs.length
  · refine .inr ⟨⟨xs, xs[i], q, by simp [hlt]⟩, Pv (i + 1), fun H' p' => ⟨xs.length - (i + 1), by omega, rfl, hlt, p'⟩, fun x H' y => ?_⟩
    obtain ⟨e, y⟩ := y
    subst e
    exact hs i x _ (y xs q) p
  · have e : i = xs.length := by omega
    subst e
    exact .inl ⟨⟨xs, q, Nat.le_refl _⟩, hd H p⟩
/-- a pair of labels -/
def eD (p : Str × Str) : D := .tup [.str p.1, .str p.2]
/-- a list of pairs -/
def PrL (H : Hp) (l : Addr) (es : List (Str × Str)) : Prop := ∃ xs, H l = some (.lst xs) ∧ Reps H (es.map eD) xs
theorem PrL.s {H H' : Hp} {l : Addr} {es : List (Str × Str)} (s : Same H H') (h : PrL H l es) : PrL H' l es := by
  obtain ⟨xs, a, b⟩ := h
  exact ⟨xs, s _ _ a, b.s s⟩
theorem PrL.add {H : Hp} {l p : Addr} {es : List (Str × Str)} {a b : Str} (h : PrL H l es) (n : H p = none) : ∃ xs, upd H p (.tup [.str a, .str b]) l = some (.lst xs) ∧ xs.length = es.length ∧ PrL (upd (upd H p (.tup [.str a, .str b])) l (.lst (xs ++ [.ref p]))) l (es ++ [(a, b)]) := by
  obtain ⟨xs, e, r⟩ := h
  have nl : l ≠ p := ne_of_none e n
  refine ⟨xs, up_new e n _, by rw [r.len, List.length_map], xs ++ [.ref p], upd_same, ?_⟩
  have te : TE_ (upd H p (.tup [.str a, .str b])) (upd (upd H p (.tup [.str a, .str b])) l (.lst (xs ++ [.ref p]))) := te_mutL (up_new e n _)
  rw [List.map_append]
  exact Reps.mono te (Reps.append (r.s (Same.newo n _)) (reps_cons (rep_new n (reps_cons str_rep (reps_cons str_rep reps_nil))) reps_nil))
/-- the edges of a label -/
def outs (tg : Str → List Str) (l : Str) : List (Str × Str) := ((tg l).filter fun (t : Str) => decide (t ≠ "exit")).map fun t => (l, t)
def outs_ (tg : Str → List Str) (o : List Str) : List (Str × Str) := o.flatMap (outs tg)
theorem outs_len {tg : Str → List Str} {U o : List Str} (ok : ∀ l ∈ U, (tg l).length ≤ 2) (h : ∀ x ∈ o, x ∈ U) : (outs_ tg o).length ≤ 2 * o.length := by
  induction o with
  | nil => simp [outs_]
  | cons a r ih =>
    have h1 := ih (fun x hx => h x (by simp [hx]))
    have h2 := ok a (h a (by simp))
    have h3 : (outs tg a).length ≤ (tg a).length := by rw [outs, List.length_map]; exact List.length_filter_le _ _
    have e : outs_ tg (a :: r) = outs tg a ++ outs_ tg r := by simp [outs_]
    rw [e, List.length_append, List.length_cons]
    omega
theorem mem_outs {tg : Str → List Str} {o : List Str} {s t : Str} : (s, t) ∈ outs_ tg o ↔ s ∈ o ∧ t ∈ tg s ∧ t ≠ "exit" := by
  simp only [outs_, outs, List.mem_flatMap, List.mem_map, List.mem_filter, decide_eq_true_eq, Prod.mk.injEq]
  constructor
  · rintro ⟨a, ha, b, ⟨hb, hb2⟩, rfl, rfl⟩
    exact ⟨ha, hb, hb2⟩
  · rintro ⟨ha, hb, hb2⟩
    exact ⟨s, ha, t, ⟨hb, hb2⟩, rfl, rfl⟩
def spEdges : Sp := fun vs H Q _ => ∃ (v : V) (en : Str) (U : List Str) (tg : Str → List Str), vs = [v] ∧ GrAt H v en U tg ∧ GrOk en U tg ∧
  ∀ l H' o, Same H H' → PrL H' l (outs_ tg o) → IsOrder en "exit" tg o → (∀ x ∈ o, x ∈ U) → Q (.ref l) H'
section
variable {P : PySem.Program} {w : World} {K : PySem.W.Frag} {mg : Str → Option Value} {base : Heap}
theorem scEdges : FnScope ["graph", "_", "targets", "label", "target"] ["graph"] (defScope (top 12)) := ⟨rfl, rfl, rfl, by decide +kernel, rfl, by decide +kernel, by decide +kernel⟩
theorem edges_cal (T : Tx w K mg) : C8.Cal P w K mg base 3 "edges_of" spEdges [] := by
  have c_order_of : C8.Cal P w K mg base 2 "order_of" spOrder [] := order_cal T
  have g_EXIT := gstr T (x := "EXIT") (z := "exit") (by decide +kernel)
  refine cal T (i := 12) (by decide +kernel) scEdges (fun vs H Q E h => ?_) (fun _ _ _ _ _ _ us hl => match us, hl with | [_], _ => rfl) (fun cdv A outer s H vs Q E hr h => ?_)
  · obtain ⟨v, _, _, _, rfl, _⟩ := h
    rfl
  obtain ⟨v, en, U, tg, rfl, hg, ok, q⟩ := h
  have hu := hu_of hr
  have hlen := ok.len
  have hg0 := hg
  obtain ⟨g, d, rfl, hgt, kvs, hdk, hkeys, htg⟩ := hg
  refine ⟨_, (pss_cons (ps_asg (pv 0) (pg_tup rfl (pgs_cons (pg_name (i := 1) scEdges.nd rfl (.inl rfl)) (pgs_cons (pg_name (i := 2) scEdges.nd rfl (.inr rfl)) pgs_nil))))
(pss_one (ps_ret (pe_lc2 (own := [("label", 3), ("target", 4)]) (vs1 := [4]) (g := gName 3) (g1 := gName 4) (tt := tYes) (tt1 := tTest (tOp rNe (tVar 4) (tC (.str "exit")))) (wi1 := iTup K (tDGet (tVar 2) (tVar 3))) (te := tTup (tCons (tVar 3) (tCons (tVar 4) tNil))) rfl scEdges.nd (pi_tup (C8.pe_c c_order_of hr (by omega) rfl (pa_cons (pv 0) pa_nil))) (blkOk_by (N := ["graph", "_", "targets", "label", "target"]) (sc := defScope (top 12)) (by decide +kernel)) (by decide) (fun _ _ _ _ _ => pg_name (i := 3) scEdges.nd rfl (.inl rfl)) (fun _ _ _ _ _ => pts_nil) (fun _ _ _ _ _ => pi_tup (pe_dget hu (pv 2) (pv 3) (fun _ _ => rfl))) (fun _ _ _ _ _ => pg_name (i := 4) scEdges.nd rfl (.inl rfl)) (fun _ _ _ _ _ => pts_one (pt_cmpR op_ne (pv 4) (C8.pe_gc rfl g_EXIT) (nomark _))) (fun _ _ _ _ _ => pe_tup (pa_cons (pv 3) (pa_cons (pv 4) pa_nil))))))), ?_⟩
  walk_at "go"
  refine r_lc2 ?_
  walk_at "go"
  refine ⟨_, en, U, tg, rfl, hg0, ok, fun p H1 o s1 hp io ho => ?_⟩
  have ol : o.length ≤ 60 := Nat.le_trans (io.nodup.length_le_of_subset fun x hx => ho x hx) hlen
  have hpr := fun i => outs_len (o := o.take i) (fun l hl => ok.two l hl) (fun x hx => ho x (List.mem_of_mem_take hx))
  refine ⟨p, rfl, ⟨_, SqT.of hp⟩, fun D nD => lc2_tup (xs := o.map V.str) (fun i H' => Same H1 H' ∧ PrL H' D (outs_ tg (o.take i)))
    ⟨Same.newo nD _, [], upd_same, by simp [outs_, reps_nil]⟩ (fun i H' _ ⟨s2, _⟩ => SqT.of (s2 _ _ hp)) ?_ ?_⟩
  · rintro i y H' hi ⟨s2, pl⟩
    obtain ⟨x, hx, rfl⟩ := map_str_get hi
    have hxo : x ∈ o := List.mem_of_getElem? hx
    have hxU := ho x hxo
    have h2 := ok.two x hxU
    obtain ⟨tt, htt, htt'⟩ := htg x hxU
    have il : i < o.length := (List.getElem?_eq_some_iff.mp hx).1
    have hpi := hpr i
    rw [List.length_take] at hpi
    walk_at "go"
    refine ⟨rfl, ?_⟩
    walk_at "go"
    refine r_dg (s2 _ _ (s1 _ _ hdk)) htt ?_
    refine ⟨tt, rfl, ⟨_, (TF.s (Same.trans s1 s2) htt').sqt⟩, lc2_in (xs := (tg x).map V.str) (fun j H4 => Same H1 H4 ∧ PrL H4 D (outs_ tg (o.take i) ++ (((tg x).take j).filter fun (t : Str) => decide (t ≠ "exit")).map fun t => (x, t)))
      ⟨s2, by simpa using pl⟩ (fun j H4 _ ⟨s4, _⟩ => (TF.s (Same.trans s1 s4) htt').sqt) ?_ ?_⟩
    · rintro j y H4 hj ⟨s4, pl4⟩
      obtain ⟨t, ht, rfl⟩ := map_str_get hj
      have tl : ∀ j, (((tg x).take j).filter fun (t : Str) => decide (t ≠ "exit")).length ≤ 2 := fun j => Nat.le_trans (List.length_filter_le _ _) (Nat.le_trans (List.length_take_le' _ _) h2)
      have tlj := tl j
      walk_at "go"
      refine ⟨rfl, ?_⟩
      walk_at "go"
      refine r_if2 (fun hb => ?_) (fun hb => ?_)
      · have hne : t ≠ "exit" := fun e => by rw [e] at hb; simp at hb
        walk_at "go"
        refine ⟨by show 2 ≤ sizeLine; decide, fun p2 n2 => ?_⟩
        obtain ⟨xs, e, xl, pl5⟩ := pl4.add (a := x) (b := t) n2
        refine ⟨xs, e, szl (by rw [xl, List.length_append, List.length_map]; omega), Same.mut (Same.trans s4 (Same.newo n2 _)) nD _, ?_⟩
        rw [take_snoc ht, List.filter_append, List.map_append, ← List.append_assoc]
        simpa [hne] using pl5
      · have hne : t = "exit" := by
          by_cases e : t = "exit"
          · exact e
          · have : decide (V.str t = V.str "exit") = false := decide_eq_false (fun z => e (V.str.inj z))
            rw [this] at hb; cases hb
        refine ⟨s4, ?_⟩
        rw [take_snoc ht, List.filter_append, List.map_append]
        simpa [hne] using pl4
    · rintro H4 ⟨s4, pl4⟩
      refine ⟨s4, ?_⟩
      rw [List.length_map, List.take_length] at pl4
      rw [take_snoc hx]
      simpa [outs_, outs] using pl4
  · rintro H' ⟨s2, pl⟩
    rw [List.length_map, List.take_length] at pl
    exact q D H' o (Same.trans s1 s2) pl io ho
end
end K5
end

section
set_option linter.all false
set_option maxRecDepth 100000
/-! retreating_edges, bad_edge, is_reducible. -/
namespace K5
open PySem PySem.Spec PyProof.Rows L2 MG
/- steps -/
local macro_rules | `(tactic| walk_at "sm") => `(tactic| first | assumption | exact Same.refl _ | (refine Same.mut ?_ (by assumption) _; walk_at "sm") | (refine Same.trans ?_ (Same.newo (by assumption) _); walk_at "sm") | (refine Same.trans ?_ (by assumption); walk_at "sm"))
local macro_rules | `(tactic| walk_at "hp") => `(tactic| first | assumption | exact upd_same | (refine up_new ?_ (by assumption) _; walk_at "hp") | (refine Same.up ?_ (by assumption) (by assumption); walk_at "sm") | (refine Same.look (by assumption) ?_; walk_at "hp"))
local macro_rules | `(tactic| walk_at "rep") => `(tactic| first | assumption | exact str_rep | exact int_rep | exact non_rep | (refine' Rep.s ?s ?h; (case h => assumption); (case s => walk_at "sm")))
local macro_rules | `(tactic| walk_at "if") => `(tactic| first | ((with_reducible refine' r_ifT ?e ?_); (case e => decide +kernel)) | ((with_reducible refine' r_ifF ?e ?_); (case e => decide +kernel)))
local macro_rules | `(tactic| walk_at "sz") => `(tactic| first | omega | decide | (simp only [List.length_map, List.length_append, List.length_cons, List.length_nil, List.length_take]; omega))
local macro_rules | `(tactic| walk_at "s") => `(tactic| first
  | with_reducible refine r_seq ?_ | with_reducible refine r_set ?_ | with_reducible refine r_asg ?_ | with_reducible refine r_ret ?_ | with_reducible refine r_drop ?_ | with_reducible refine r_next ?_ | with_reducible refine r_cont ?_ | with_reducible refine r_brk ?_
  | with_reducible refine r_if ?_ | with_reducible refine r_test ?_ | with_reducible refine r_tB ?_ | with_reducible refine r_bl ?_ | with_reducible refine r_and ?_ | with_reducible refine r_or ?_ | with_reducible refine r_not ?_
  | ((with_reducible refine' r_var ?e ?_); (case e => rfl)) | with_reducible refine r_c ?_ | with_reducible refine r_op ?_ | with_reducible refine r_un ?_ | with_reducible refine r_ifx ?_ | with_reducible refine r_andV ?_ | with_reducible refine r_orV ?_ | with_reducible refine r_notV ?_
  | with_reducible refine r_nil ?_ | with_reducible refine r_cons ?_ | with_reducible refine r_cb ?_ | with_reducible refine r_bm ?_ | with_reducible refine r_bm0 ?_ | with_reducible refine r_lst ?_ | with_reducible refine r_tup ?_ | with_reducible refine r_call ?_
  | with_reducible refine r_lc ?_ | with_reducible refine r_dc ?_ | with_reducible refine r_for ?_ | with_reducible refine r_iTup ?_ | with_reducible refine r_iList ?_ | with_reducible refine r_iEnum ?_ | with_reducible refine r_iRng1 ?_
  | with_reducible refine r_sl ?_ | with_reducible refine r_part ?_ | with_reducible refine r_nop ?_ | with_reducible refine r_int ?_ | with_reducible refine r_then ?_ | with_reducible refine r_yes ?_
  | with_reducible refine r_gname ?_ | with_reducible refine r_gcons ?_ | with_reducible refine r_gnil ?_
  | ((with_reducible refine' r_eq ?e ?_); (case e => rfl)) | ((with_reducible refine' r_ne ?e ?_); (case e => rfl)) | with_reducible refine r_I0 ?_
  | ((with_reducible refine' r_ixT0 ?e ?f ?_); (case e => walk_at "hp"); (case f => rfl)) | ((with_reducible refine' r_ixT1 ?e ?f ?_); (case e => walk_at "hp"); (case f => rfl)) | ((with_reducible refine' r_ixT2 ?e ?f ?_); (case e => walk_at "hp"); (case f => rfl)) | ((with_reducible refine' r_ixT3 ?e ?f ?_); (case e => walk_at "hp"); (case f => rfl)) | ((with_reducible refine' r_ixT4 ?e ?f ?_); (case e => walk_at "hp"); (case f => rfl)) | ((with_reducible refine' r_ixL0 ?e ?f ?_); (case e => walk_at "hp"); (case f => rfl)) | ((with_reducible refine' r_ixL1 ?e ?f ?_); (case e => walk_at "hp"); (case f => rfl)) | ((with_reducible refine' r_ixL2 ?e ?f ?_); (case e => walk_at "hp"); (case f => rfl)) | ((with_reducible refine' r_ixL3 ?e ?f ?_); (case e => walk_at "hp"); (case f => rfl)) | ((with_reducible refine' r_ixL4 ?e ?f ?_); (case e => walk_at "hp"); (case f => rfl))
  | ((with_reducible refine' r_ixT ?e ?f ?_); (case e => walk_at "hp"); (case f => rfl)) | ((with_reducible refine' r_ixL ?e ?f ?_); (case e => walk_at "hp"); (case f => rfl))
  | ((with_reducible refine' r_append ?e ?f ?_); (case e => walk_at "hp"); (case f => walk_at "sz")) | ((with_reducible refine' r_extend ?e ?e2 ?f ?_); (case e => walk_at "hp"); (case e2 => walk_at "hp"); (case f => walk_at "sz"))
  | with_reducible refine r_dgetE ?_ | with_reducible refine r_dinE ?_ | with_reducible refine r_dninE ?_ | with_reducible refine r_dputE ?_ | with_reducible refine r_dnew ?_ | with_reducible refine r_neg ?_
  | ((with_reducible refine' r_truL ?e ?_); (case e => walk_at "hp"))
  | ((with_reducible refine' r_gtup ?e ?f ?_); (case e => walk_at "hp"); (case f => rfl))
  | ((with_reducible refine' r_tyL ?e ?_); (case e => walk_at "hp")) | walk_at "if")
local macro_rules | `(tactic| walk_at "go") => `(tactic| repeat walk_at "s")
/- steps end -/
theorem r_iEnumT {K : PySem.W.Frag} {tr : TA} {σ : L2.St} {H : Hp} {R : It → Hp → Prop} (h : tr σ H fun vs H1 => ∃ a xs, vs = [.ref a] ∧ SqT K H1 a xs ∧ R (Itet K a) H1) : iEnumT K tr σ H R := h
/-- the retreating edges -/
def Retr (en : Str) (U : List Str) (tg : Str → List Str) (R : List (Str × Str)) : Prop :=
  R.length ≤ 120 ∧ ∃ o, IsOrder en "exit" tg o ∧ (∀ x ∈ o, x ∈ U) ∧ ∀ s t, (s, t) ∈ R ↔ s ∈ o ∧ t ∈ tg s ∧ t ≠ "exit" ∧ place o t ≤ place o s
def spRetr : Sp := fun vs H Q _ => ∃ (v : V) (en : Str) (U : List Str) (tg : Str → List Str), vs = [v] ∧ GrAt H v en U tg ∧ GrOk en U tg ∧
  ∀ l H' R, Same H H' → PrL H' l R → Retr en U tg R → Q (.ref l) H'
def spBad : Sp := fun vs H Q _ => ∃ (v : V) (en : Str) (U : List Str) (tg : Str → List Str), vs = [v] ∧ GrAt H v en U tg ∧ GrOk en U tg ∧
  ∀ v H', Same H H' → Q v H'
def spRed : Sp := fun vs H Q _ => ∃ (v : V) (en : Str) (U : List Str) (tg : Str → List Str), vs = [v] ∧ GrAt H v en U tg ∧ GrOk en U tg ∧
  ∀ b H', Same H H' → Q (.bl b) H'
theorem eD_rep {H : Hp} {s t : Str} {x : V} (h : Rep H (eD (s, t)) x) : ∃ p, x = .ref p ∧ H p = some (.tup [.str s, .str t]) := by
  obtain ⟨p, xs, rfl, hp, hr⟩ := rep_tup h
  obtain ⟨a, r, rfl, h1, h2⟩ := cons_reps hr
  obtain ⟨b, r2, rfl, h3, h4⟩ := cons_reps h2
  rw [nil_reps h4, rep_str h1, rep_str h3] at hp
  exact ⟨p, rfl, hp⟩
theorem PrL.got {H : Hp} {xs : List V} {es : List (Str × Str)} (r : Reps H (es.map eD) xs) {i : Nat} {y : V} (hi : xs[i]? = some y) : ∃ s t p, es[i]? = some (s, t) ∧ y = .ref p ∧ H p = some (.tup [.str s, .str t]) := by
  obtain ⟨d, hd, hr⟩ := r.got hi
  rw [List.getElem?_map] at hd
  cases e : es[i]? with
  | none => rw [e] at hd; simp at hd
  | some q =>
    rw [e] at hd
    obtain ⟨s, t⟩ := q
    simp at hd
    subst hd
    obtain ⟨p, h1, h2⟩ := eD_rep hr
    exact ⟨s, t, p, rfl, h1, h2⟩
section
variable {P : PySem.Program} {w : World} {K : PySem.W.Frag} {mg : Str → Option Value} {base : Heap}
theorem scRetr : FnScope ["graph", "place", "index", "label", "source", "target"] ["graph"] (defScope (top 13)) := ⟨rfl, rfl, rfl, by decide +kernel, rfl, by decide +kernel, by decide +kernel⟩
theorem retr_cal (T : Tx w K mg) : C8.Cal P w K mg base 4 "retreating_edges" spRetr [] := by
  have c_order_of : C8.Cal P w K mg base 2 "order_of" spOrder [] := order_cal T
  have c_edges_of : C8.Cal P w K mg base 3 "edges_of" spEdges [] := edges_cal T
  have m_enumerate := T.free "enumerate" (by decide +kernel)
  refine cal T (i := 13) (by decide +kernel) scRetr (fun vs H Q E h => ?_) (fun _ _ _ _ _ _ us hl => match us, hl with | [_], _ => rfl) (fun cdv A outer s H vs Q E hr h => ?_)
  · obtain ⟨v, _, _, _, rfl, _⟩ := h
    rfl
  obtain ⟨v, en, U, tg, rfl, hg, ok, q⟩ := h
  have hu := hu_of hr
  have hlen := ok.len
  refine ⟨_, (pss_cons (ps_set (i := 1) scRetr.nd rfl (.inr rfl) (pe_dc (own := [("index", 2), ("label", 3)]) (g := gTup K 2 (gCons (gName 2) (gCons (gName 3) gNil))) (tt := tYes) (tk := tVar 3) (tv := tVar 2) rfl scRetr.nd (pi_enumT rfl m_enumerate (pa_cons (C8.pe_c c_order_of hr (by omega) rfl (pa_cons (pv 0) pa_nil)) pa_nil)) (blkOk_by (N := ["graph", "place", "index", "label", "source", "target"]) (sc := defScope (top 13)) (by decide +kernel)) (fun _ _ _ _ _ => pg_tup rfl (pgs_cons (pg_name (i := 2) scRetr.nd rfl (.inl rfl)) (pgs_cons (pg_name (i := 3) scRetr.nd rfl (.inl rfl)) pgs_nil))) (fun _ _ _ _ _ => pts_nil) (fun _ _ _ _ _ => pv 3) (fun _ _ _ _ _ => pv 2)))
(pss_one (ps_ret (pe_lc (own := [("source", 4), ("target", 5)]) (g := gTup K 2 (gCons (gName 4) (gCons (gName 5) gNil))) (tt := tTest (tOp (rI0 fun a b => .bl (decide (a ≤ b))) (tDGet (tVar 1) (tVar 5)) (tDGet (tVar 1) (tVar 4)))) (te := tTup (tCons (tVar 4) (tCons (tVar 5) tNil))) rfl scRetr.nd (pi_list (C8.pe_c c_edges_of hr (by omega) rfl (pa_cons (pv 0) pa_nil))) (blkOk_by (N := ["graph", "place", "index", "label", "source", "target"]) (sc := defScope (top 13)) (by decide +kernel)) (fun _ _ _ _ _ => pg_tup rfl (pgs_cons (pg_name (i := 4) scRetr.nd rfl (.inl rfl)) (pgs_cons (pg_name (i := 5) scRetr.nd rfl (.inl rfl)) pgs_nil))) (fun _ _ _ _ _ => pts_one (pt_cmpR op_le (pe_dget hu (pv 1) (pv 5) (fun _ _ => rfl)) (pe_dget hu (pv 1) (pv 4) (fun _ _ => rfl)) (nomark _))) (fun _ _ _ _ _ => pe_tup (pa_cons (pv 4) (pa_cons (pv 5) pa_nil))))))), ?_⟩
  walk_at "go"
  refine r_iEnumT ?_
  walk_at "go"
  refine ⟨v, en, U, tg, rfl, hg, ok, fun p H1 o s1 hp io ho => ?_⟩
  have ol : o.length ≤ 60 := Nat.le_trans (io.nodup.length_le_of_subset fun x hx => ho x hx) hlen
  walk_at "go"
  refine ⟨p, _, rfl, SqT.of hp, fun D nD => dc_enumT (xs := o.map V.str) (fun i H' => Same H1 H' ∧ ∃ kvs : List (Key × V), H' D = some (.dK kvs) ∧ kvs.length ≤ i ∧ ∀ l ∈ o.take i, dv kvs l = some (.int (place o l : Nat)))
    ⟨Same.newo nD _, [], upd_same, Nat.le_refl _, by simp⟩ (fun i H' _ ⟨s2, _⟩ => SqT.of (s2 _ _ hp)) ?_ ?_⟩
  · rintro i y Tq H' hi ⟨s2, kvs, hD, hkl, hkv⟩ nT
    obtain ⟨x, hx, rfl⟩ := map_str_get hi
    have hnt := not_take io.nodup hx
    have il : i < o.length := (List.getElem?_eq_some_iff.mp hx).1
    walk_at "go"
    refine ⟨rfl, ?_⟩
    walk_at "go"
    refine ⟨kvs, Sum.inr x, rfl, up_new hD nT _, szl (by omega), Same.mut (Same.trans s2 (Same.newo nT _)) nD _, _, upd_same, Nat.le_trans (put_len _ _ _) (by omega), fun l hl => ?_⟩
    rw [dv_put]
    rw [take_snoc hx] at hl
    rcases List.mem_append.mp hl with hl | hl
    · rw [if_neg (fun e => hnt (by rw [← e]; exact hl))]
      exact hkv l hl
    · have e : l = x := by simpa using hl
      subst e
      rw [if_pos rfl, place_of io.nodup hx]
  · rintro H2 ⟨s2, kvs, hD, hkl, hkv⟩
    rw [List.length_map, List.take_length] at hkv
    walk_at "go"
    refine ⟨v, en, U, tg, rfl, hg.s (Same.trans s1 s2), ok, fun el H3 o2 s3 hel io2 ho2 => ?_⟩
    have mm : ∀ x, x ∈ o2 ↔ x ∈ o := fun x => ⟨fun h => io2.mem_of io (fun _ _ => rfl) h, fun h => io.mem_of io2 (fun _ _ => rfl) h⟩
    have ol2 : o2.length ≤ 60 := Nat.le_trans (io2.nodup.length_le_of_subset fun x hx => ho2 x hx) hlen
    have hpr := outs_len (o := o2) (fun l hl => ok.two l hl) ho2
    obtain ⟨xs, hxs, hre⟩ := hel
    have xl : xs.length = (outs_ tg o2).length := by rw [hre.len, List.length_map]
    refine ⟨el, rfl, ⟨_, SqL.of hxs⟩, fun rl nrl => lc_list (xs := xs) (fun i H' => Same H3 H' ∧ PrL H' rl (((outs_ tg o2).take i).filter fun q => decide (place o q.2 ≤ place o q.1)))
      ⟨Same.newo nrl _, [], upd_same, by simp [reps_nil]⟩ (fun i H' _ ⟨s4, _⟩ => SqL.of (s4 _ _ hxs)) ?_ ?_⟩
    · rintro i y H' hi ⟨s4, pl⟩
      obtain ⟨a, b, pp, hab, rfl, hpp⟩ := PrL.got hre hi
      obtain ⟨m1, m2, m3⟩ := mem_outs.mp (List.mem_of_getElem? hab)
      have ha : a ∈ o := (mm a).mp m1
      have hb : b ∈ o := io.closed a ha b m2 m3
      have hpp' := s4 _ _ hpp
      have hD' : H' D = some (.dK kvs) := s4 _ _ (s3 _ _ hD)
      walk_at "go"
      refine ⟨rfl, ?_⟩
      walk_at "go"
      refine r_dg hD' (hkv b hb) ?_
      walk_at "go"
      refine r_dg hD' (hkv a ha) ?_
      walk_at "go"
      have tle : (((outs_ tg o2).take i).filter fun q => decide (place o q.2 ≤ place o q.1)).length ≤ 120 := Nat.le_trans (List.length_filter_le _ _) (Nat.le_trans (List.length_take_le' _ _) (by omega))
      refine r_if2 (fun hc => ?_) (fun hc => ?_)
      · have hc' : place o b ≤ place o a := by have := of_decide_eq_true hc; omega
        walk_at "go"
        refine ⟨by show 2 ≤ sizeLine; decide, fun p2 n2 => ?_⟩
        obtain ⟨ys, e, yl, pl5⟩ := pl.add (a := a) (b := b) n2
        refine ⟨ys, e, szl (by rw [yl]; omega), Same.mut (Same.trans s4 (Same.newo n2 _)) nrl _, ?_⟩
        rw [take_snoc hab, List.filter_append]
        simpa [hc'] using pl5
      · have hc' : ¬ place o b ≤ place o a := fun z => by have := of_decide_eq_false hc; omega
        refine ⟨s4, ?_⟩
        rw [take_snoc hab, List.filter_append]
        simpa [hc'] using pl
    · rintro H' ⟨s4, pl⟩
      rw [xl, List.take_length] at pl
      refine q rl H' _ (Same.trans s1 (Same.trans s2 (Same.trans s3 s4))) pl ⟨Nat.le_trans (List.length_filter_le _ _) (by omega), o, io, ho, fun s t => ?_⟩
      rw [List.mem_filter, mem_outs, mm, decide_eq_true_eq]
      simp only [and_assoc]
theorem scBad : FnScope ["graph", "dominators", "source", "target"] ["graph"] (defScope (top 14)) := ⟨rfl, rfl, rfl, by decide +kernel, rfl, by decide +kernel, by decide +kernel⟩
theorem bad_cal (T : Tx w K mg) : C8.Cal P w K mg base 5 "bad_edge" spBad [] := by
  have c_strict_dominators : C8.Cal P w K mg base 3 "strict_dominators" spDom [] := dom_cal T
  have c_retreating_edges : C8.Cal P w K mg base 4 "retreating_edges" spRetr [] := retr_cal T
  refine cal T (i := 14) (by decide +kernel) scBad (fun vs H Q E h => ?_) (fun _ _ _ _ _ _ us hl => match us, hl with | [_], _ => rfl) (fun cdv A outer s H vs Q E hr h => ?_)
  · obtain ⟨v, _, _, _, rfl, _⟩ := h
    rfl
  obtain ⟨v, en, U, tg, rfl, hg, ok, q⟩ := h
  have hu := hu_of hr
  refine ⟨_, (pss_cons (ps_set (i := 1) scBad.nd rfl (.inl rfl) (C8.pe_c c_strict_dominators hr (by omega) rfl (pa_cons (pv 0) pa_nil)))
(pss_cons (ps_for PassesOwn.never rfl (pi_list (C8.pe_c c_retreating_edges hr (by omega) rfl (pa_cons (pv 0) pa_nil))) (pg_tup rfl (pgs_cons (pg_name (i := 2) scBad.nd rfl (.inl rfl)) (pgs_cons (pg_name (i := 3) scBad.nd rfl (.inl rfl)) pgs_nil)))
(pss_one (ps_if (PW.pt (pw_and (pt_cmpR op_ne (pv 2) (pv 3) (nomark _)) (pw_and1 (pt_cmpR op_notIn_seq (pv 3) (pe_dget hu (pv 1) (pv 2) (fun _ _ => rfl)) rfl))))
(pss_one (ps_ret (pe_tup (pa_cons (pv 2) (pa_cons (pv 3) pa_nil)))))
pss_nil)))
(pss_one (ps_ret pe_non)))), ?_⟩
  walk_at "go"
  refine ⟨v, en, U, tg, rfl, hg, ok, fun d H1 o kvs dm s1 hd io hdm hdv => ?_⟩
  walk_at "go"
  refine ⟨v, en, U, tg, rfl, hg.s s1, ok, fun l H2 R s2 hl hR => ?_⟩
  obtain ⟨_, o2, io2, ho2, hR⟩ := hR
  obtain ⟨xs, hxs, hre⟩ := hl
  refine ⟨l, rfl, ⟨_, SqL.of hxs⟩, for_list (xs := xs) (fun i σ H' => (∃ z3 z4, σ = [some v, some (.ref d), z3, z4]) ∧ Same H2 H') ⟨⟨_, _, rfl⟩, Same.refl _⟩ (fun i σ H' _ ⟨_, s3⟩ => SqL.of (s3 _ _ hxs)) ?_ ?_⟩
  · rintro i y σ H' hi ⟨⟨z3, z4, rfl⟩, s3⟩
    obtain ⟨a, b, pp, hab, rfl, hpp⟩ := PrL.got hre hi
    have hpp' := s3 _ _ hpp
    have ha : a ∈ o := io2.mem_of io (fun _ _ => rfl) ((hR a b).mp (List.mem_of_getElem? hab)).1
    obtain ⟨t, ht, ht'⟩ := hdv a ha
    walk_at "go"
    refine r_if2 (fun hc => ?_) (fun hc => ?_)
    · walk_at "go"
      refine r_dg (s3 _ _ (s2 _ _ hd)) ht ?_
      refine r_notInTs (zs := dm a) (s3 _ _ (s2 _ _ ht')) ?_
      walk_at "go"
      refine r_if2 (fun hc2 => ?_) (fun hc2 => ?_)
      · walk_at "go"
        refine ⟨by show 2 ≤ sizeLine; decide, fun p2 n2 => ?_⟩
        exact q _ _ (by walk_at "sm")
      · walk_at "go"
        exact ⟨⟨_, _, rfl⟩, s3⟩
    · walk_at "go"
      exact ⟨⟨_, _, rfl⟩, s3⟩
  · rintro σ H' ⟨⟨z3, z4, rfl⟩, s3⟩
    walk_at "go"
    exact q _ _ (by walk_at "sm")
theorem scRed : FnScope ["graph"] ["graph"] (defScope (top 15)) := ⟨rfl, rfl, rfl, by decide +kernel, rfl, by decide +kernel, by decide +kernel⟩
theorem red_cal (T : Tx w K mg) : C8.Cal P w K mg base 6 "is_reducible" spRed [] := by
  have c_bad_edge : C8.Cal P w K mg base 5 "bad_edge" spBad [] := bad_cal T
  refine cal T (i := 15) (by decide +kernel) scRed (fun vs H Q E h => ?_) (fun _ _ _ _ _ _ us hl => match us, hl with | [_], _ => rfl) (fun cdv A outer s H vs Q E hr h => ?_)
  · obtain ⟨v, _, _, _, rfl, _⟩ := h
    rfl
  obtain ⟨v, en, U, tg, rfl, hg, ok, q⟩ := h
  refine ⟨_, (pss_one (ps_ret (pe_cmpR op_isN (C8.pe_c c_bad_edge hr (by omega) rfl (pa_cons (pv 0) pa_nil)) pe_non (nomark _)))), ?_⟩
  walk_at "go"
  refine ⟨v, en, U, tg, rfl, hg, ok, fun x H1 s1 => ?_⟩
  walk_at "go"
  exact ⟨rfl, q _ _ s1⟩
end
end K5
end

section
set_option linter.all false
set_option maxRecDepth 100000
/-! Programs on the heap: graph, node. -/
namespace K5
open PySem PySem.Spec PyProof.Rows L2 MG
/- steps -/
local macro_rules | `(tactic| walk_at "sm") => `(tactic| first | assumption | exact Same.refl _ | (refine Same.mut ?_ (by assumption) _; walk_at "sm") | (refine Same.trans ?_ (Same.newo (by assumption) _); walk_at "sm") | (refine Same.trans ?_ (by assumption); walk_at "sm"))
local macro_rules | `(tactic| walk_at "hp") => `(tactic| first | assumption | exact upd_same | (refine up_new ?_ (by assumption) _; walk_at "hp") | (refine Same.up ?_ (by assumption) (by assumption); walk_at "sm") | (refine Same.look (by assumption) ?_; walk_at "hp"))
local macro_rules | `(tactic| walk_at "rep") => `(tactic| first | assumption | exact str_rep | exact int_rep | exact non_rep | (refine' Rep.s ?s ?h; (case h => assumption); (case s => walk_at "sm")))
local macro_rules | `(tactic| walk_at "if") => `(tactic| first | ((with_reducible refine' r_ifT ?e ?_); (case e => decide +kernel)) | ((with_reducible refine' r_ifF ?e ?_); (case e => decide +kernel)))
local macro_rules | `(tactic| walk_at "sz") => `(tactic| first | omega | decide | (simp only [List.length_map, List.length_append, List.length_cons, List.length_nil, List.length_take]; omega))
local macro_rules | `(tactic| walk_at "s") => `(tactic| first
  | with_reducible refine r_seq ?_ | with_reducible refine r_set ?_ | with_reducible refine r_asg ?_ | with_reducible refine r_ret ?_ | with_reducible refine r_drop ?_ | with_reducible refine r_next ?_ | with_reducible refine r_cont ?_ | with_reducible refine r_brk ?_
  | with_reducible refine r_if ?_ | with_reducible refine r_test ?_ | with_reducible refine r_tB ?_ | with_reducible refine r_bl ?_ | with_reducible refine r_and ?_ | with_reducible refine r_or ?_ | with_reducible refine r_not ?_
  | ((with_reducible refine' r_var ?e ?_); (case e => rfl)) | with_reducible refine r_c ?_ | with_reducible refine r_op ?_ | with_reducible refine r_un ?_ | with_reducible refine r_ifx ?_ | with_reducible refine r_andV ?_ | with_reducible refine r_orV ?_ | with_reducible refine r_notV ?_
  | with_reducible refine r_nil ?_ | with_reducible refine r_cons ?_ | with_reducible refine r_cb ?_ | with_reducible refine r_bm ?_ | with_reducible refine r_bm0 ?_ | with_reducible refine r_lst ?_ | with_reducible refine r_tup ?_ | with_reducible refine r_call ?_
  | with_reducible refine r_lc ?_ | with_reducible refine r_dc ?_ | with_reducible refine r_for ?_ | with_reducible refine r_iTup ?_ | with_reducible refine r_iList ?_ | with_reducible refine r_iEnum ?_ | with_reducible refine r_iRng1 ?_
  | with_reducible refine r_sl ?_ | with_reducible refine r_part ?_ | with_reducible refine r_nop ?_ | with_reducible refine r_int ?_ | with_reducible refine r_then ?_ | with_reducible refine r_yes ?_
  | with_reducible refine r_gname ?_ | with_reducible refine r_gcons ?_ | with_reducible refine r_gnil ?_
  | ((with_reducible refine' r_eq ?e ?_); (case e => rfl)) | ((with_reducible refine' r_ne ?e ?_); (case e => rfl)) | with_reducible refine r_I0 ?_
  | ((with_reducible refine' r_ixT0 ?e ?f ?_); (case e => walk_at "hp"); (case f => rfl)) | ((with_reducible refine' r_ixT1 ?e ?f ?_); (case e => walk_at "hp"); (case f => rfl)) | ((with_reducible refine' r_ixT2 ?e ?f ?_); (case e => walk_at "hp"); (case f => rfl)) | ((with_reducible refine' r_ixT3 ?e ?f ?_); (case e => walk_at "hp"); (case f => rfl)) | ((with_reducible refine' r_ixT4 ?e ?f ?_); (case e => walk_at "hp"); (case f => rfl)) | ((with_reducible refine' r_ixL0 ?e ?f ?_); (case e => walk_at "hp"); (case f => rfl)) | ((with_reducible refine' r_ixL1 ?e ?f ?_); (case e => walk_at "hp"); (case f => rfl)) | ((with_reducible refine' r_ixL2 ?e ?f ?_); (case e => walk_at "hp"); (case f => rfl)) | ((with_reducible refine' r_ixL3 ?e ?f ?_); (case e => walk_at "hp"); (case f => rfl)) | ((with_reducible refine' r_ixL4 ?e ?f ?_); (case e => walk_at "hp"); (case f => rfl))
  | ((with_reducible refine' r_ixT ?e ?f ?_); (case e => walk_at "hp"); (case f => rfl)) | ((with_reducible refine' r_ixL ?e ?f ?_); (case e => walk_at "hp"); (case f => rfl))
  | ((with_reducible refine' r_append ?e ?f ?_); (case e => walk_at "hp"); (case f => walk_at "sz")) | ((with_reducible refine' r_extend ?e ?e2 ?f ?_); (case e => walk_at "hp"); (case e2 => walk_at "hp"); (case f => walk_at "sz"))
  | with_reducible refine r_fldE ?_ | with_reducible refine r_methE ?_ | with_reducible refine r_make ?_ | with_reducible refine r_sfld ?_ | with_reducible refine r_iEnumT ?_
  | with_reducible refine r_dgetE ?_ | with_reducible refine r_dinE ?_ | with_reducible refine r_dninE ?_ | with_reducible refine r_dputE ?_ | with_reducible refine r_dnew ?_ | with_reducible refine r_neg ?_
  | ((with_reducible refine' r_truL ?e ?_); (case e => walk_at "hp"))
  | ((with_reducible refine' r_gtup ?e ?f ?_); (case e => walk_at "hp"); (case f => rfl))
  | ((with_reducible refine' r_tyL ?e ?_); (case e => walk_at "hp")) | walk_at "if")
local macro_rules | `(tactic| walk_at "go") => `(tactic| repeat walk_at "s")
/- steps end -/
/-- a field -/
abbrev fl (fs : List (Str × V)) (f : Str) : Option V := fs.lookup f
/-- a node: label, kind and rest of its deed, targets -/
structure Nod where
  l : Str
  k : Str
  r : List D
  tg : List Str
def NdAt (H : Hp) (n : Nod) (v : V) : Prop := ∃ p t dv, v = .ref p ∧ H p = some (.tup [.str n.l, dv, .ref t]) ∧ Rep H (.tup (.str n.k :: n.r)) dv ∧ TF H t (n.tg.map V.str)
theorem NdAt.s {H H' : Hp} (s : Same H H') {n : Nod} {v : V} (h : NdAt H n v) : NdAt H' n v := by
  obtain ⟨p, t, dv, h1, h2, h3, h4⟩ := h
  exact ⟨p, t, dv, h1, s _ _ h2, h3.s s, h4.s s⟩
abbrev lbs (ns : List Nod) : List Str := ns.map Nod.l
def tgOf (ns : List Nod) (l : Str) : List Str := ((ns.find? fun n => decide (n.l = l)).map Nod.tg).getD []
structure NsOk (en : Str) (ns : List Nod) : Prop where
  nd : (lbs ns).Nodup
  nex : ("exit" : Str) ∉ lbs ns
  en : en ≠ "exit" → en ∈ lbs ns
  cl : ∀ n ∈ ns, ∀ t ∈ n.tg, t ≠ "exit" → t ∈ lbs ns
  len : ns.length ≤ 8
  two : ∀ n ∈ ns, (n.k = "if" ∧ ∃ e t1 t2, n.r = [e] ∧ n.tg = [t1, t2]) ∨ (n.k ≠ "if" ∧ ∃ t1, n.tg = [t1])
  ok : ∀ n ∈ ns, PyData.strOk n.l = true
theorem nod_inj : ∀ {ns : List Nod}, (lbs ns).Nodup → ∀ {n m : Nod}, n ∈ ns → m ∈ ns → n.l = m.l → n = m
  | [], _, _, _, h, _, _ => by simp at h
  | a :: r, hn, n, m, h, h', e => by
    simp only [lbs, List.map_cons, List.nodup_cons] at hn
    rcases List.mem_cons.mp h with h1 | h1 <;> rcases List.mem_cons.mp h' with h2 | h2
    · rw [h1, h2]
    · rw [h1] at e; exact absurd (List.mem_map_of_mem (f := Nod.l) h2) (by rw [← e]; exact hn.1)
    · rw [h2] at e; exact absurd (List.mem_map_of_mem (f := Nod.l) h1) (by rw [e]; exact hn.1)
    · exact nod_inj hn.2 h1 h2 e
theorem find_nod {ns : List Nod} (hn : (lbs ns).Nodup) {n : Nod} (h : n ∈ ns) : ns.find? (fun m => decide (m.l = n.l)) = some n := by
  cases e : ns.find? (fun m => decide (m.l = n.l)) with
  | none => exact absurd (List.find?_eq_none.mp e n h) (by simp)
  | some m =>
    have h1 := List.find?_some e
    have h2 := List.mem_of_find?_eq_some e
    rw [nod_inj hn h2 h (of_decide_eq_true h1)]
theorem tgOf_nod {ns : List Nod} (hn : (lbs ns).Nodup) {n : Nod} (h : n ∈ ns) : tgOf ns n.l = n.tg := by
  unfold tgOf
  rw [find_nod hn h]; rfl
theorem nod_of {ns : List Nod} {l : Str} (h : l ∈ lbs ns) : ∃ n ∈ ns, n.l = l := by
  obtain ⟨n, h1, h2⟩ := List.mem_map.mp h
  exact ⟨n, h1, h2⟩
theorem NsOk.two' {en : Str} {ns : List Nod} (h : NsOk en ns) {n : Nod} (hn : n ∈ ns) : n.tg.length ≤ 2 := by
  rcases h.two n hn with ⟨_, _, _, _, _, e⟩ | ⟨_, _, e⟩ <;> rw [e] <;> simp
theorem NsOk.gr {en : Str} {ns : List Nod} (h : NsOk en ns) : GrOk en (lbs ns) (tgOf ns) where
  two := fun l hl => by
    obtain ⟨n, hn, rfl⟩ := nod_of hl
    rw [tgOf_nod h.nd hn]; exact h.two' hn
  cl := fun l hl t ht hne => by
    obtain ⟨n, hn, rfl⟩ := nod_of hl
    rw [tgOf_nod h.nd hn] at ht
    exact h.cl n hn t ht hne
  en := h.en
  nex := h.nex
  nd := h.nd
  len := by have := h.len; simp; omega
/-- a program stands at a -/
def PrAt (K : PySem.W.Frag) (H : Hp) (a : Addr) (en : Str) (ns : List Nod) : Prop :=
  ∃ (dx : Addr) (fs : List (Str × V)) (t : Addr) (ts : List V) (d : Addr) (kvs : List (Key × V)) (lt : Addr), H a = some (.ins (He.ga K "Program") dx fs) ∧
    (fl fs "entry" = some (.str en) ∧ fl fs "nodes" = some (.ref t) ∧ fl fs "by_label" = some (.ref d) ∧ fl fs "labels" = some (.ref lt) ∧ fl fs "node" = none ∧ fl fs "graph" = none) ∧
    H t = some (.tup ts) ∧ Paired (NdAt H) ns ts ∧ H d = some (.dK kvs) ∧ (∀ n ∈ ns, ∃ v, dv kvs n.l = some v ∧ NdAt H n v) ∧ H lt = some (.tup ((lbs ns).map V.str))
theorem paired_mono {α β : Type} {F G : α → β → Prop} (h : ∀ a b, F a b → G a b) {xs : List α} {ys : List β} (p : Paired F xs ys) : Paired G xs ys := by
  induction p with
  | nil => exact .nil
  | cons a _ ih => exact .cons (h _ _ a) ih
theorem paired_got {α β : Type} {F : α → β → Prop} {xs : List α} {ys : List β} (p : Paired F xs ys) : ∀ {i : Nat} {y : β}, ys[i]? = some y → ∃ x, xs[i]? = some x ∧ F x y := by
  induction p with
  | nil => intro i y h; simp at h
  | cons a _ ih =>
    intro i y h
    cases i with
    | zero => simp at h; subst h; exact ⟨_, rfl, a⟩
    | succ i => simpa using ih (by simpa using h)
theorem PrAt.s {K : PySem.W.Frag} {H H' : Hp} (s : Same H H') {a : Addr} {en : Str} {ns : List Nod} (h : PrAt K H a en ns) : PrAt K H' a en ns := by
  obtain ⟨dx, fs, t, ts, d, kvs, lt, h1, h2, h3, h4, h5, h6, h7⟩ := h
  exact ⟨dx, fs, t, ts, d, kvs, lt, s _ _ h1, h2, s _ _ h3, paired_mono (fun _ _ q => q.s s) h4, s _ _ h5, fun n hn => by obtain ⟨v, a, b⟩ := h6 n hn; exact ⟨v, a, b.s s⟩, s _ _ h7⟩
def spGraph (K : PySem.W.Frag) : Sp := fun vs H Q _ => ∃ (a : Addr) (en : Str) (ns : List Nod), vs = [.ref a] ∧ PrAt K H a en ns ∧ NsOk en ns ∧
  ∀ v H', Same H H' → GrAt H' v en (lbs ns) (tgOf ns) → Q v H'
def spNode (K : PySem.W.Frag) : Sp := fun vs H Q _ => ∃ (a : Addr) (en : Str) (ns : List Nod) (n : Nod), vs = [.ref a, .str n.l] ∧ PrAt K H a en ns ∧ n ∈ ns ∧
  ∀ v, NdAt H n v → Q v H
theorem r_dget1 {td ty : TE} {σ : L2.St} {H : Hp} {Q : VK} (h : td σ H fun x H1 => ∃ a, x = .ref a ∧ IsD H1 a ∧ ty σ H1 fun y H2 => ∃ o, DGet H2 a y o ∧ Q (o.getD .non) H2) : tDGet1 td ty σ H Q := h
section
variable {P : PySem.Program} {w : World} {K : PySem.W.Frag} {mg : Str → Option Value} {base : Heap}
theorem scGraph : FnScope ["self", "label", "_", "targets"] ["self"] (defScope (mth 79 10)) := ⟨rfl, rfl, rfl, by decide +kernel, rfl, by decide +kernel, by decide +kernel⟩
theorem prog_cls (T : Tx w K mg) : Cls K (He.ga K "Program") := (T.cls "Program" (by decide +kernel)).2.1
theorem prog_no (T : Tx w K mg) {f : Str} (h : (("Program" : Str), f) ∈ noats) : NoAttr K (He.ga K "Program") f := T.noat _ h
theorem graph_met (T : Tx w K mg) : C8.Met P w K mg base 1 (He.ga K "Program") "graph" (spGraph K) [] := by
  have cP := prog_cls T
  have n1 := prog_no T (f := "entry") (by decide +kernel)
  have n2 := prog_no T (f := "nodes") (by decide +kernel)
  refine met T (i := 79) (j := 10) (q := "Program.graph") (by decide +kernel) (by decide +kernel) scGraph (fun vs H Q E h => ?_) (fun _ _ _ _ _ _ us hl => match us, hl with | [_], _ => rfl) (fun cdv A outer s H vs Q E hr h => ?_)
  · obtain ⟨v, _, _, rfl, _⟩ := h
    rfl
  obtain ⟨a, en, ns, rfl, hP, ok, q⟩ := h
  have hu := hu_of hr
  obtain ⟨dx, fs, t, ts, d, kvs, lt, h1, ⟨f1, f2, f3, f4, f5, f6⟩, h3, h4, h5, h6, h7⟩ := hP
  have hlen := ok.len
  refine ⟨_, (pss_one (ps_ret (pe_tup (pa_cons (pe_fld (pv 0) rfl) (pa_cons (pe_dc (own := [("label", 1), ("_", 2), ("targets", 3)]) (g := gTup K 3 (gCons (gName 1) (gCons (gName 2) (gCons (gName 3) gNil)))) (tt := tYes) (tk := tVar 1) (tv := tVar 3) rfl scGraph.nd (pi_tup (pe_fld (pv 0) rfl)) (blkOk_by (N := ["self", "label", "_", "targets"]) (sc := defScope (mth 79 10)) (by decide +kernel)) (fun _ _ _ _ _ => pg_tup rfl (pgs_cons (pg_name (i := 1) scGraph.nd rfl (.inl rfl)) (pgs_cons (pg_name (i := 2) scGraph.nd rfl (.inl rfl)) (pgs_cons (pg_name (i := 3) scGraph.nd rfl (.inl rfl)) pgs_nil)))) (fun _ _ _ _ _ => pts_nil) (fun _ _ _ _ _ => pv 1) (fun _ _ _ _ _ => pv 3)) pa_nil))))), ?_⟩
  walk_at "go"
  refine r_fl h1 cP n1 f1 ?_
  walk_at "go"
  refine r_fl h1 cP n2 f2 ?_
  refine ⟨t, rfl, ⟨_, SqT.of h3⟩, fun D nD => dc_tup (xs := ts) (fun i H' => Same H H' ∧ ∃ kv : List (Key × V), H' D = some (.dK kv) ∧ kv.map (·.1) = (lbs (ns.take i)).map Sum.inr ∧ ∀ n ∈ ns.take i, ∃ tt, dv kv n.l = some (.ref tt) ∧ TF H' tt (n.tg.map V.str))
    ⟨Same.newo nD _, [], upd_same, by simp, by simp⟩ (fun i H' _ ⟨s2, _⟩ => SqT.of (s2 _ _ h3)) ?_ ?_⟩
  · rintro i y H' hi ⟨s2, kv, hD, hk, hkv⟩
    obtain ⟨n, hn, p, tt, dd, rfl, hp, hdv, ht⟩ := paired_got h4 hi
    have hp' := s2 _ _ hp
    have il : i < ns.length := (List.getElem?_eq_some_iff.mp hn).1
    have hnt : n.l ∉ lbs (ns.take i) := by
      have := not_take (o := lbs ns) ok.nd (i := i) (l := n.l) (by rw [List.getElem?_map, hn]; rfl)
      rwa [← List.map_take] at this
    walk_at "go"
    refine ⟨rfl, ?_⟩
    walk_at "go"
    have hno : dv kv n.l = none := by
      cases e : dv kv n.l with
      | none => rfl
      | some v =>
        have : Sum.inr n.l ∈ kv.map (·.1) := by
          have h9 := valV_any (kvs := kv) (k := (Sum.inr n.l : Key))
          rw [show valV kv (Sum.inr n.l) = some v from e] at h9
          simp only [Option.isSome_some, List.any_eq_true] at h9
          obtain ⟨q, hq, hq2⟩ := h9
          exact List.mem_map.mpr ⟨q, hq, by simpa using hq2⟩
        rw [hk] at this
        obtain ⟨z, hz, ez⟩ := List.mem_map.mp this
        exact absurd (by rw [← Sum.inr.inj ez]; exact hz) hnt
    have hkl : kv.length = (ns.take i).length := by have := congrArg List.length hk; simpa [lbs] using this
    refine ⟨kv, Sum.inr n.l, rfl, hD, szl (by rw [hkl, List.length_take]; omega), Same.mut s2 nD _, _, upd_same, ?_, ?_⟩
    · rw [put_keys_new _ hno, List.map_append, hk, take_snoc hn]
      simp [lbs]
    · intro m hm
      rw [dv_put]
      rw [take_snoc hn] at hm
      rcases List.mem_append.mp hm with hm | hm
      · obtain ⟨t2, e1, e2⟩ := hkv m hm
        rw [if_neg (fun e => hnt (by rw [← e]; exact List.mem_map_of_mem (f := Nod.l) hm))]
        obtain ⟨ob, e3, e4⟩ := e2
        exact ⟨t2, e1, ob, by rw [upd_ne (ne_of e3 hD (by intro z; cases z))]; exact e3, e4⟩
      · have e : m = n := by simpa using hm
        subst e
        rw [if_pos rfl]
        obtain ⟨ob, e3, e4⟩ := ht
        exact ⟨tt, rfl, ob, by rw [upd_ne (ne_of (s2 _ _ e3) hD (by intro z; cases z))]; exact s2 _ _ e3, e4⟩
  · rintro H' ⟨s2, kv, hD, hk, hkv⟩
    have hl : ts.length = ns.length := by have := Paired.length h4; omega
    rw [hl, List.take_length] at hk hkv
    walk_at "go"
    refine ⟨by show 2 ≤ sizeLine; decide, fun p np => ?_⟩
    have sn : Same H' (upd H' p (.tup [.str en, .ref D])) := Same.newo np _
    refine q _ _ (Same.trans s2 sn) ⟨p, D, rfl, upd_same, kv, sn _ _ hD, hk, fun l hl2 => ?_⟩
    obtain ⟨n, hn, rfl⟩ := nod_of hl2
    obtain ⟨tt, e1, e2⟩ := hkv n hn
    rw [tgOf_nod ok.nd hn]
    exact ⟨tt, e1, e2.s sn⟩
theorem scNode : FnScope ["self", "label"] ["self", "label"] (defScope (mth 79 9)) := ⟨rfl, rfl, rfl, by decide +kernel, rfl, by decide +kernel, by decide +kernel⟩
theorem node_met (T : Tx w K mg) : C8.Met P w K mg base 1 (He.ga K "Program") "node" (spNode K) [] := by
  have cP := prog_cls T
  have n1 := prog_no T (f := "by_label") (by decide +kernel)
  refine met T (i := 79) (j := 9) (q := "Program.node") (by decide +kernel) (by decide +kernel) scNode (fun vs H Q E h => ?_) (fun _ _ _ _ _ _ us hl => match us, hl with | [_, _], _ => rfl) (fun cdv A outer s H vs Q E hr h => ?_)
  · obtain ⟨v, _, _, _, rfl, _⟩ := h
    rfl
  obtain ⟨a, en, ns, n, rfl, hP, hn, q⟩ := h
  have hu := hu_of hr
  obtain ⟨dx, fs, t, ts, d, kvs, lt, h1, ⟨f1, f2, f3, f4, f5, f6⟩, h3, h4, h5, h6, h7⟩ := hP
  obtain ⟨v, e1, e2⟩ := h6 n hn
  refine ⟨_, (pss_one (ps_ret (pe_dget1 hu (pe_fld (pv 0) rfl) (pv 1) ⟨rfl, rfl, rfl, rfl⟩))), ?_⟩
  walk_at "go"
  refine r_dget1 ?_
  walk_at "go"
  refine r_fl h1 cP n1 f3 ?_
  refine ⟨d, rfl, .inl ⟨kvs, .inl h5⟩, ?_⟩
  walk_at "go"
  refine ⟨some v, by rw [← e1]; exact DGet.k (k := Sum.inr n.l) h5, ?_⟩
  exact q v e2
end
end K5
end

section
set_option linter.all false
set_option maxRecDepth 100000
/-! The code of a structure. -/
namespace K5
open PySem PySem.Spec PyProof.Rows L2 MG MT
/- steps -/
local macro_rules | `(tactic| walk_at "sm") => `(tactic| first | assumption | exact Same.refl _ | (refine Same.mut ?_ (by assumption) _; walk_at "sm") | (refine Same.trans ?_ (Same.newo (by assumption) _); walk_at "sm") | (refine Same.trans ?_ (by assumption); walk_at "sm"))
local macro_rules | `(tactic| walk_at "hp") => `(tactic| first | assumption | exact upd_same | (refine up_new ?_ (by assumption) _; walk_at "hp") | (refine Same.up ?_ (by assumption) (by assumption); walk_at "sm") | (refine Same.look (by assumption) ?_; walk_at "hp"))
local macro_rules | `(tactic| walk_at "rep") => `(tactic| first | assumption | exact str_rep | exact int_rep | exact non_rep | (refine' Rep.s ?s ?h; (case h => assumption); (case s => walk_at "sm")))
local macro_rules | `(tactic| walk_at "if") => `(tactic| first | ((with_reducible refine' r_ifT ?e ?_); (case e => decide +kernel)) | ((with_reducible refine' r_ifF ?e ?_); (case e => decide +kernel)))
local macro_rules | `(tactic| walk_at "sz") => `(tactic| first | omega | decide | (simp only [List.length_map, List.length_append, List.length_cons, List.length_nil, List.length_take]; omega))
local macro_rules | `(tactic| walk_at "s") => `(tactic| first
  | with_reducible refine r_seq ?_ | with_reducible refine r_set ?_ | with_reducible refine r_asg ?_ | with_reducible refine r_ret ?_ | with_reducible refine r_drop ?_ | with_reducible refine r_next ?_ | with_reducible refine r_cont ?_ | with_reducible refine r_brk ?_
  | with_reducible refine r_if ?_ | with_reducible refine r_test ?_ | with_reducible refine r_tB ?_ | with_reducible refine r_bl ?_ | with_reducible refine r_and ?_ | with_reducible refine r_or ?_ | with_reducible refine r_not ?_
  | ((with_reducible refine' r_var ?e ?_); (case e => rfl)) | with_reducible refine r_c ?_ | with_reducible refine r_op ?_ | with_reducible refine r_un ?_ | with_reducible refine r_ifx ?_ | with_reducible refine r_andV ?_ | with_reducible refine r_orV ?_ | with_reducible refine r_notV ?_
  | with_reducible refine r_nil ?_ | with_reducible refine r_cons ?_ | with_reducible refine r_cb ?_ | with_reducible refine r_bm ?_ | with_reducible refine r_bm0 ?_ | with_reducible refine r_lst ?_ | with_reducible refine r_tup ?_ | with_reducible refine r_call ?_
  | with_reducible refine r_lc ?_ | with_reducible refine r_dc ?_ | with_reducible refine r_for ?_ | with_reducible refine r_iTup ?_ | with_reducible refine r_iList ?_ | with_reducible refine r_iEnum ?_ | with_reducible refine r_iRng1 ?_
  | with_reducible refine r_sl ?_ | with_reducible refine r_part ?_ | with_reducible refine r_nop ?_ | with_reducible refine r_int ?_ | with_reducible refine r_then ?_ | with_reducible refine r_yes ?_
  | with_reducible refine r_gname ?_ | with_reducible refine r_gcons ?_ | with_reducible refine r_gnil ?_
  | ((with_reducible refine' r_eq ?e ?_); (case e => rfl)) | ((with_reducible refine' r_ne ?e ?_); (case e => rfl)) | with_reducible refine r_I0 ?_
  | ((with_reducible refine' r_ixT0 ?e ?f ?_); (case e => walk_at "hp"); (case f => rfl)) | ((with_reducible refine' r_ixT1 ?e ?f ?_); (case e => walk_at "hp"); (case f => rfl)) | ((with_reducible refine' r_ixT2 ?e ?f ?_); (case e => walk_at "hp"); (case f => rfl)) | ((with_reducible refine' r_ixT3 ?e ?f ?_); (case e => walk_at "hp"); (case f => rfl)) | ((with_reducible refine' r_ixT4 ?e ?f ?_); (case e => walk_at "hp"); (case f => rfl)) | ((with_reducible refine' r_ixL0 ?e ?f ?_); (case e => walk_at "hp"); (case f => rfl)) | ((with_reducible refine' r_ixL1 ?e ?f ?_); (case e => walk_at "hp"); (case f => rfl)) | ((with_reducible refine' r_ixL2 ?e ?f ?_); (case e => walk_at "hp"); (case f => rfl)) | ((with_reducible refine' r_ixL3 ?e ?f ?_); (case e => walk_at "hp"); (case f => rfl)) | ((with_reducible refine' r_ixL4 ?e ?f ?_); (case e => walk_at "hp"); (case f => rfl))
  | ((with_reducible refine' r_ixT ?e ?f ?_); (case e => walk_at "hp"); (case f => rfl)) | ((with_reducible refine' r_ixL ?e ?f ?_); (case e => walk_at "hp"); (case f => rfl))
  | ((with_reducible refine' r_append ?e ?f ?_); (case e => walk_at "hp"); (case f => walk_at "sz")) | ((with_reducible refine' r_extend ?e ?e2 ?f ?_); (case e => walk_at "hp"); (case e2 => walk_at "hp"); (case f => walk_at "sz"))
  | with_reducible refine r_fldE ?_ | with_reducible refine r_methE ?_ | with_reducible refine r_make ?_ | with_reducible refine r_sfld ?_ | with_reducible refine r_iEnumT ?_
  | with_reducible refine r_dgetE ?_ | with_reducible refine r_dinE ?_ | with_reducible refine r_dninE ?_ | with_reducible refine r_dputE ?_ | with_reducible refine r_dnew ?_ | with_reducible refine r_neg ?_
  | ((with_reducible refine' r_truL ?e ?_); (case e => walk_at "hp"))
  | ((with_reducible refine' r_gtup ?e ?f ?_); (case e => walk_at "hp"); (case f => rfl))
  | ((with_reducible refine' r_tyL ?e ?_); (case e => walk_at "hp")) | walk_at "if")
local macro_rules | `(tactic| walk_at "go") => `(tactic| repeat walk_at "s")
/- steps end -/
mutual
def okS : Sm → Bool
  | .node _ _ => true
  | .cond l _ a b => PyData.strOk l && (okB a && okB b)
  | .wrap _ n b => PyData.strOk n && okB b
  | .jump _ _ => true
  | .exit => true
def okB : List Sm → Bool
  | [] => true
  | s :: r => okS s && okB r
end
theorem okB_append (a b : List Sm) : okB (a ++ b) = (okB a && okB b) := by
  induction a with
  | nil => simp [okB]
  | cons s r ih => simp [okB, ih, Bool.and_assoc]
def at2 (p : Str × Str) : Atm × Atm := (.str p.1, .str p.2)
theorem PrL.prs {H : Hp} {es : List (Str × Str)} : ∀ {xs : List V}, Reps H (es.map eD) xs → PrsAt H xs (es.map at2) := by
  induction es with
  | nil => intro xs h; rw [nil_reps h]; exact .nil
  | cons a r ih =>
    intro xs h
    obtain ⟨x, q, rfl, h1, h2⟩ := cons_reps h
    obtain ⟨s, t⟩ := a
    exact .cons (eD_rep h1) (ih h2)
theorem mem_at2 {p : Str × Str} {es : List (Str × Str)} : at2 p ∈ es.map at2 ↔ p ∈ es := by
  rw [List.mem_map]
  constructor
  · rintro ⟨q, hq, e⟩
    have h1 := congrArg Prod.fst e
    have h2 := congrArg Prod.snd e
    have : q = p := Prod.ext (Atm.str.inj h1) (Atm.str.inj h2)
    rw [← this]; exact hq
  · exact fun h => ⟨p, h, rfl⟩
/-- the edges that code follows -/
def edS (ns : List Nod) (R : List (Str × Str)) (mgl : List Str) (l : Str) : List Str := (tgOf ns l).filter fun t => decide (t ≠ "exit") && !decide ((l, t) ∈ R) && !decide (t ∈ mgl)
abbrev chS (ns : List Nod) (R : List (Str × Str)) (mgl : List Str) (mm : Str → List Str) (l : Str) : List Str := edS ns R mgl l ++ mm l
/-- all that the code is made from -/
structure StF (en : Str) (ns : List Nod) (o : List Str) (R : List (Str × Str)) (mgl : List Str) (mm : Str → List Str) (rk : Str → Nat) : Prop where
  nsk : NsOk en ns
  ho : ∀ x, x ∈ o ↔ x ∈ lbs ns
  ol : o.length ≤ 8
  tr : MT.Tree o en (chS ns R mgl mm) rk
  mml : ∀ l ∈ o, ∀ m ∈ mm l, m ∈ mgl
  rok : ∀ p ∈ R, PyData.strOk p.1 = true ∧ PyData.strOk p.2 = true
def StAt (K : PySem.W.Frag) (H : Hp) (a : Addr) (en : Str) (ns : List Nod) (R : List (Str × Str)) (hs mgl : List Str) (mm : Str → List Str) : Prop :=
  ∃ (dx : Addr) (fs : List (Str × V)) (pa rl : Addr) (rx : List V) (hl ml d : Addr) (kvs : List (Key × V)), H a = some (.ins (He.ga K "Structure") dx fs) ∧
    (fl fs "program" = some (.ref pa) ∧ fl fs "retreating" = some (.ref rl) ∧ fl fs "headers" = some (.ref hl) ∧ fl fs "merging" = some (.ref ml) ∧ fl fs "merges" = some (.ref d)) ∧
    (fl fs "forward_count" = none ∧ fl fs "code" = none ∧ fl fs "inner_code" = none ∧ fl fs "own_code" = none ∧ fl fs "edge_code" = none) ∧
    PrAt K H pa en ns ∧ H rl = some (.lst rx) ∧ PrsAt H rx (R.map at2) ∧ H hl = some (.lst (hs.map V.str)) ∧ H ml = some (.lst (mgl.map V.str)) ∧ H d = some (.dK kvs) ∧
    ∀ l ∈ lbs ns, ∃ ad, dv kvs l = some (.ref ad) ∧ H ad = some (.lst ((mm l).map V.str))
theorem StAt.s {K : PySem.W.Frag} {H H' : Hp} (s : Same H H') {a : Addr} {en : Str} {ns : List Nod} {R : List (Str × Str)} {hs mgl : List Str} {mm : Str → List Str} (h : StAt K H a en ns R hs mgl mm) : StAt K H' a en ns R hs mgl mm := by
  obtain ⟨dx, fs, pa, rl, rx, hl, ml, d, kvs, h1, h2, h2', h3, h4, h5, h6, h7, h8, h9⟩ := h
  exact ⟨dx, fs, pa, rl, rx, hl, ml, d, kvs, s _ _ h1, h2, h2', h3.s s, s _ _ h4, h5.s s, s _ _ h6, s _ _ h7, s _ _ h8, fun l hl => by obtain ⟨ad, e1, e2⟩ := h9 l hl; exact ⟨ad, e1, s _ _ e2⟩⟩
section
variable {en : Str} {ns : List Nod} {o : List Str} {R : List (Str × Str)} {mgl : List Str} {mm : Str → List Str} {rk : Str → Nat}
theorem StF.blen (F : StF en ns o R mgl mm rk) {n : Nat} {l : Str} (hl : l ∈ o) : (below (chS ns R mgl mm) n l).length ≤ 8 :=
  Nat.le_trans ((F.tr.nodup n l hl).length_le_of_subset fun x hx => (F.tr.sub n l hl x hx).1) F.ol
theorem StF.mlen (F : StF en ns o R mgl mm rk) {l : Str} (hl : l ∈ o) : (mm l).length ≤ 8 := by
  have h1 : (mm l).Nodup := (F.tr.nd l hl).sublist (List.sublist_append_right _ _)
  exact Nat.le_trans (h1.length_le_of_subset fun x hx => (F.tr.up l hl x (List.mem_append_right _ hx)).1) F.ol
/-- what an edge's code has within -/
def eL (ns : List Nod) (R : List (Str × Str)) (mgl : List Str) (mm : Str → List Str) (n : Nat) (l t : Str) : List Str :=
  if (decide (t ≠ "exit") && !decide ((l, t) ∈ R) && !decide (t ∈ mgl)) = true then below (chS ns R mgl mm) n t else []
theorem filter_flat {α β : Type} (c : α → Bool) (f : α → List β) : ∀ xs : List α, (xs.filter c).flatMap f = xs.flatMap fun t => if c t = true then f t else []
  | [] => rfl
  | a :: r => by
    by_cases h : c a = true
    · simp [List.filter_cons, h, filter_flat c f r]
    · simp [List.filter_cons, h, filter_flat c f r]
theorem below_eL (n : Nat) (l : Str) : below (chS ns R mgl mm) (n + 1) l = l :: ((tgOf ns l).flatMap (eL ns R mgl mm n l) ++ (mm l).flatMap (below (chS ns R mgl mm) n)) := by
  show l :: (chS ns R mgl mm l).flatMap (below (chS ns R mgl mm) n) = _
  rw [chS, List.flatMap_append, edS, filter_flat]
  rfl
end
/-- what is asked around a call -/
def Ask (K : PySem.W.Frag) (H : Hp) (a : Addr) (l after : Str) (n : Nat) (en : Str) (ns : List Nod) (o : List Str) (R : List (Str × Str)) (hs mgl : List Str) (mm : Str → List Str) (rk : Str → Nat) : Prop :=
  StAt K H a en ns R hs mgl mm ∧ StF en ns o R mgl mm rk ∧ l ∈ o ∧ o.length ≤ n + rk l ∧ n ≤ 9 ∧ (after = "exit" ∨ after ∈ mgl)
theorem Ask.s {K : PySem.W.Frag} {H H' : Hp} (s : Same H H') {a : Addr} {l after : Str} {n : Nat} {en : Str} {ns : List Nod} {o : List Str} {R : List (Str × Str)} {hs mgl : List Str} {mm : Str → List Str} {rk : Str → Nat} (h : Ask K H a l after n en ns o R hs mgl mm rk) : Ask K H' a l after n en ns o R hs mgl mm rk :=
  ⟨h.1.s s, h.2⟩
/-- code(label, after) -/
def spCode (K : PySem.W.Frag) (n : Nat) : Sp := fun vs H Q _ => ∃ (a : Addr) (l after en : Str) (ns : List Nod) (o : List Str) (R : List (Str × Str)) (hs mgl : List Str) (mm : Str → List Str) (rk : Str → Nat),
  vs = [.ref a, .str l, .str after] ∧ Ask K H a l after n en ns o R hs mgl mm rk ∧
  ∀ v H' b, Same H H' → Bd H' b v → labs b = below (chS ns R mgl mm) n l → deps b ≤ 10 * n → b.length ≤ 2 * (labs b).length → okB b = true → Q v H'
/-- inner_code(label, after), one turn more -/
def spInnerC (K : PySem.W.Frag) (n : Nat) : Sp := fun vs H Q _ => ∃ (a : Addr) (l after en : Str) (ns : List Nod) (o : List Str) (R : List (Str × Str)) (hs mgl : List Str) (mm : Str → List Str) (rk : Str → Nat),
  vs = [.ref a, .str l, .str after] ∧ Ask K H a l after (n + 1) en ns o R hs mgl mm rk ∧
  ∀ v H' b, Same H H' → Bd H' b v → labs b = below (chS ns R mgl mm) (n + 1) l → deps b ≤ 10 * n + 9 → b.length ≤ 2 * (labs b).length → okB b = true → Q v H'
/-- own_code(label, after), one turn more -/
def spOwnC (K : PySem.W.Frag) (n : Nat) : Sp := fun vs H Q _ => ∃ (a : Addr) (l after en : Str) (ns : List Nod) (o : List Str) (R : List (Str × Str)) (hs mgl : List Str) (mm : Str → List Str) (rk : Str → Nat),
  vs = [.ref a, .str l, .str after] ∧ Ask K H a l after (n + 1) en ns o R hs mgl mm rk ∧
  ∀ v H' b, Same H H' → Bd H' b v → labs b = l :: (tgOf ns l).flatMap (eL ns R mgl mm n l) → deps b ≤ 10 * n + 1 → b.length ≤ 2 * (labs b).length → okB b = true → Q v H'
/-- edge_code(label, target, after), one turn more -/
def spEdgeC (K : PySem.W.Frag) (n : Nat) : Sp := fun vs H Q _ => ∃ (a : Addr) (l t after en : Str) (ns : List Nod) (o : List Str) (R : List (Str × Str)) (hs mgl : List Str) (mm : Str → List Str) (rk : Str → Nat),
  vs = [.ref a, .str l, .str t, .str after] ∧ Ask K H a l after (n + 1) en ns o R hs mgl mm rk ∧ t ∈ tgOf ns l ∧
  ∀ v H' b, Same H H' → Bd H' b v → labs b = eL ns R mgl mm n l t → deps b ≤ 10 * n → b.length ≤ 1 + 2 * (labs b).length → okB b = true → Q v H'
section
variable {P : PySem.Program} {w : World} {K : PySem.W.Frag} {mg : Str → Option Value} {base : Heap}
theorem str_cls (T : Tx w K mg) : Cls K (He.ga K "Structure") := (T.cls "Structure" (by decide +kernel)).2.1
theorem str_no (T : Tx w K mg) {f : Str} (h : (("Structure" : Str), f) ∈ noats) : NoAttr K (He.ga K "Structure") f := T.noat _ h
theorem scEdgeC : FnScope ["self", "label", "target", "after"] ["self", "label", "target", "after"] (defScope (mth 82 5)) := ⟨rfl, rfl, rfl, by decide +kernel, rfl, by decide +kernel, by decide +kernel⟩
theorem edge_met (T : Tx w K mg) (n : Nat) (m_code : C8.Met P w K mg base (101 + 4 * n) (He.ga K "Structure") "code" (spCode K n) []) : C8.Met P w K mg base (101 + 4 * n + 1) (He.ga K "Structure") "edge_code" (spEdgeC K n) [] := by
  have cS := str_cls T
  have n1 := str_no T (f := "retreating") (by decide +kernel)
  have n2 := str_no T (f := "merging") (by decide +kernel)
  have g_EXIT := gstr T (x := "EXIT") (z := "exit") (by decide +kernel)
  refine met T (i := 82) (j := 5) (k := 101 + 4 * n) (C := "Structure") (x := "edge_code") (q := "Structure.edge_code") (by decide +kernel) (by decide +kernel) scEdgeC (fun vs H Q E h => ?_) (fun _ _ _ _ _ _ us hl => match us, hl with | [_, _, _, _], _ => rfl) (fun cdv A outer s H vs Q E hr h => ?_)
  · obtain ⟨a, _, _, _, _, _, _, _, _, _, _, _, rfl, _⟩ := h
    rfl
  obtain ⟨a, l, t, after, en, ns, o, R, hs, mgl, mm, rk, rfl, hA, ht, q⟩ := h
  have hA0 := hA
  obtain ⟨⟨dx, fs, pa, rl, rx, hl, ml, d, kvs, h1, ⟨f1, f2, f3, f4, f5⟩, ⟨e1, e2, e3, e4, e5⟩, h3, h4, h5, h6, h7, h8, h9⟩, F, hlo, hn, hn9, haft⟩ := hA
  have hu := hu65 hr
  refine ⟨_, (pss_cons (ps_if (pt_cmpR op_eq (pv 2) (pv 3) (nomark _))
(pss_one (ps_ret (pe_tup pa_nil)))
pss_nil)
(pss_cons (ps_if (pt_cmpR op_eq (pv 2) (C8.pe_gc rfl g_EXIT) (nomark _))
(pss_one (ps_ret (pe_tup (pa_cons (pe_tup (pa_cons pe_str pa_nil)) pa_nil))))
pss_nil)
(pss_cons (ps_if (pt_cmpR (op_inD hu) (pe_tup (pa_cons (pv 1) (pa_cons (pv 2) pa_nil))) (pe_fld (pv 0) rfl) rfl)
(pss_one (ps_ret (pe_tup (pa_cons (pe_tup (pa_cons pe_str (pa_cons (pv 2) pa_nil))) pa_nil))))
pss_nil)
(pss_cons (ps_if (pt_cmpR op_in_seq (pv 2) (pe_fld (pv 0) rfl) rfl)
(pss_one (ps_ret (pe_tup (pa_cons (pe_tup (pa_cons pe_str (pa_cons (pv 2) pa_nil))) pa_nil))))
pss_nil)
(pss_one (ps_ret (C8.pe_mt (pl := L2.plainOf _ _) m_code hr (by omega) (pv 0) (pa_cons (pv 2) (pa_cons (pv 3) pa_nil))))))))), ?_⟩
  obtain ⟨nd, hnd, rfl⟩ := nod_of ((F.ho l).mp hlo)
  have htU := F.nsk.cl nd hnd t (by rw [← tgOf_nod F.nsk.nd hnd]; exact ht)
  walk_at "go"
  refine r_if2 (fun hb => ?_) (fun hb => ?_)
  · have e : t = after := V.str.inj (of_decide_eq_true hb)
    walk_at "go"
    refine ⟨Nat.zero_le _, fun p np => q _ _ [] (Same.newo np _) (rep_new np reps_nil) ?_ (Nat.zero_le _) (Nat.zero_le _) rfl⟩
    unfold eL
    rw [if_neg]
    · rfl
    · rcases haft with h | h
      · simp [e, h]
      · simp [e, h]
  walk_at "go"
  refine r_if2 (fun hb2 => ?_) (fun hb2 => ?_)
  · have e : t = "exit" := V.str.inj (of_decide_eq_true hb2)
    walk_at "go"
    refine ⟨by show 1 ≤ sizeLine; decide, fun p np => ?_⟩
    walk_at "go"
    refine ⟨by show 1 ≤ sizeLine; decide, fun p2 np2 => q _ _ [.exit] (by walk_at "sm") (rep_new np2 (reps_cons (rep_new np (reps_cons str_rep reps_nil)) reps_nil)) ?_ (by simp [deps, dep]) (by simp) rfl⟩
    unfold eL
    rw [if_neg (by simp [e])]
    rfl
  have hne : t ≠ "exit" := fun e => by rw [e] at hb2; simp at hb2
  have htl := htU hne
  obtain ⟨nt, hnt, et⟩ := nod_of htl
  have okl := F.nsk.ok nd hnd
  have okt : PyData.strOk t = true := by rw [← et]; exact F.nsk.ok nt hnt
  walk_at "go"
  refine ⟨by show 2 ≤ sizeLine; decide, fun p np => ?_⟩
  walk_at "go"
  refine r_fl (up_new h1 np _) cS n1 f2 ?_
  refine r_inLP (a := .str nd.l) (b := .str t) (zs := R.map at2) ⟨okl, okt⟩ ?_ upd_same (up_new h4 np _) (h5.s (Same.newo np _)) ?_
  · intro z hz
    obtain ⟨pr, hpr, rfl⟩ := List.mem_map.mp hz
    exact F.rok pr hpr
  walk_at "go"
  refine r_if2 (fun hb3 => ?_) (fun hb3 => ?_)
  · have hm : (nd.l, t) ∈ R := mem_at2.mp (of_decide_eq_true hb3)
    walk_at "go"
    refine ⟨by show 2 ≤ sizeLine; decide, fun p2 np2 => ?_⟩
    walk_at "go"
    refine ⟨by show 1 ≤ sizeLine; decide, fun p3 np3 => q _ _ [.jump true t] (by walk_at "sm") (rep_new np3 (reps_cons (rep_new np2 (reps_cons str_rep (reps_cons str_rep reps_nil))) reps_nil)) ?_ (by simp [deps, dep]) (by simp) rfl⟩
    unfold eL
    rw [if_neg (by simp [hm])]
    rfl
  have hR : (nd.l, t) ∉ R := fun hm => by
    have : at2 (nd.l, t) ∈ R.map at2 := mem_at2.mpr hm
    have h' := of_decide_eq_false hb3
    exact h' this
  walk_at "go"
  refine r_fl (up_new h1 np _) cS n2 f4 ?_
  refine r_inLs (up_new h7 np _) ?_
  walk_at "go"
  refine r_if2 (fun hb4 => ?_) (fun hb4 => ?_)
  · have hm : t ∈ mgl := of_decide_eq_true hb4
    walk_at "go"
    refine ⟨by show 2 ≤ sizeLine; decide, fun p2 np2 => ?_⟩
    walk_at "go"
    refine ⟨by show 1 ≤ sizeLine; decide, fun p3 np3 => q _ _ [.jump false t] (by walk_at "sm") (rep_new np3 (reps_cons (rep_new np2 (reps_cons str_rep (reps_cons str_rep reps_nil))) reps_nil)) ?_ (by simp [deps, dep]) (by simp) rfl⟩
    unfold eL
    rw [if_neg (by simp [hm])]
    rfl
  have hM : t ∉ mgl := of_decide_eq_false hb4
  have hc : (decide (t ≠ "exit") && !decide ((nd.l, t) ∈ R) && !decide (t ∈ mgl)) = true := by simp [hne, hR, hM]
  have hup := F.tr.up nd.l hlo t (List.mem_append_left _ (List.mem_filter.mpr ⟨ht, hc⟩))
  walk_at "go"
  refine r_me (up_new h1 np _) e2 ?_
  walk_at "go"
  refine ⟨a, t, after, en, ns, o, R, hs, mgl, mm, rk, rfl, ⟨hA0.1.s (Same.newo np _), F, hup.1, by have := hup.2; omega, by omega, haft⟩, fun v H' b s1 hb5 h6 h7 h8 h11 => ?_⟩
  exact q v H' b (Same.trans (Same.newo np _) s1) hb5 (by rw [h6]; unfold eL; rw [if_pos hc]) h7 (by omega) h11
theorem scOwnC : FnScope ["self", "label", "after", "_", "deed", "targets", "first", "second"] ["self", "label", "after"] (defScope (mth 82 4)) := ⟨rfl, rfl, rfl, by decide +kernel, rfl, by decide +kernel, by decide +kernel⟩
theorem own_met (T : Tx w K mg) (n : Nat) (m_edge_code : C8.Met P w K mg base (101 + 4 * n + 1) (He.ga K "Structure") "edge_code" (spEdgeC K n) []) : C8.Met P w K mg base (101 + 4 * n + 1 + 1) (He.ga K "Structure") "own_code" (spOwnC K n) [] := by
  have cS := str_cls T
  have n1 := str_no T (f := "program") (by decide +kernel)
  have m_node : C8.Met P w K mg base 1 (He.ga K "Program") "node" (spNode K) [] := node_met T
  refine met T (i := 82) (j := 4) (k := 101 + 4 * n + 1) (C := "Structure") (x := "own_code") (q := "Structure.own_code") (by decide +kernel) (by decide +kernel) scOwnC (fun vs H Q E h => ?_) (fun _ _ _ _ _ _ us hl => match us, hl with | [_, _, _], _ => rfl) (fun cdv A outer s H vs Q E hr h => ?_)
  · obtain ⟨a, _, _, _, _, _, _, _, _, _, _, rfl, _⟩ := h
    rfl
  obtain ⟨a, l, after, en, ns, o, R, hs, mgl, mm, rk, rfl, hA, q⟩ := h
  have hA0 := hA
  obtain ⟨⟨dx, fs, pa, rl, rx, hl, ml, d, kvs, h1, ⟨f1, f2, f3, f4, f5⟩, ⟨e1, e2, e3, e4, e5⟩, h3, h4, h5, h6, h7, h8, h9⟩, F, hlo, hn, hn9, haft⟩ := hA
  refine ⟨_, (pss_cons (ps_asg (C8.pe_mt (pl := L2.plainOf _ _) m_node hr (by omega) (pe_fld (pv 0) rfl) (pa_cons (pv 1) pa_nil)) (pg_tup rfl (pgs_cons (pg_name (i := 3) scOwnC.nd rfl (.inl rfl)) (pgs_cons (pg_name (i := 4) scOwnC.nd rfl (.inl rfl)) (pgs_cons (pg_name (i := 5) scOwnC.nd rfl (.inl rfl)) pgs_nil)))))
(pss_cons (ps_if (pt_cmpR op_eq (pe_ix ix_tup (pv 4) pe_int (fun _ _ => rfl)) pe_str (nomark _))
(pss_cons (ps_set (i := 6) scOwnC.nd rfl (.inl rfl) (C8.pe_mt (pl := L2.plainOf _ _) m_edge_code hr (by omega) (pv 0) (pa_cons (pv 1) (pa_cons (pe_ix ix_tup (pv 5) pe_int (fun _ _ => rfl)) (pa_cons (pv 2) pa_nil)))))
(pss_cons (ps_set (i := 7) scOwnC.nd rfl (.inl rfl) (C8.pe_mt (pl := L2.plainOf _ _) m_edge_code hr (by omega) (pv 0) (pa_cons (pv 1) (pa_cons (pe_ix ix_tup (pv 5) pe_int (fun _ _ => rfl)) (pa_cons (pv 2) pa_nil)))))
(pss_one (ps_ret (pe_tup (pa_cons (pe_tup (pa_cons pe_str (pa_cons (pv 1) (pa_cons (pe_ix ix_tup (pv 4) pe_int (fun _ _ => rfl)) (pa_cons (pv 6) (pa_cons (pv 7) pa_nil)))))) pa_nil))))))
pss_nil)
(pss_one (ps_ret (pe_op op_catA (pe_tup (pa_cons (pe_tup (pa_cons pe_str (pa_cons (pv 1) (pa_cons (pv 4) pa_nil)))) pa_nil)) (C8.pe_mt (pl := L2.plainOf _ _) m_edge_code hr (by omega) (pv 0) (pa_cons (pv 1) (pa_cons (pe_ix ix_tup (pv 5) pe_int (fun _ _ => rfl)) (pa_cons (pv 2) pa_nil))))))))), ?_⟩
  obtain ⟨nd, hnd, rfl⟩ := nod_of ((F.ho l).mp hlo)
  have htg : tgOf ns nd.l = nd.tg := tgOf_nod F.nsk.nd hnd
  walk_at "go"
  refine r_fl h1 cS n1 f1 ?_
  have h3' := h3
  obtain ⟨dx2, fs2, t2, ts2, d2, kvs2, lt2, k1, ⟨k2, k3, k4, k5, k6, k7⟩, _⟩ := h3'
  refine r_me k1 k6 ?_
  walk_at "go"
  refine ⟨pa, en, ns, nd, rfl, h3, hnd, fun v hv => ?_⟩
  obtain ⟨p, tt, dv', rfl, hp, hdd, htt⟩ := hv
  obtain ⟨pd, dxs, rfl, hpd, hds⟩ := rep_tup hdd
  obtain ⟨x0, xr, rfl, hx0, hxr⟩ := cons_reps hds
  rw [rep_str hx0] at hpd
  obtain ⟨ob, htt1, htt2⟩ := htt
  have htt' : SqT K H tt (nd.tg.map V.str) := .inl (.inr ⟨ob, htt1⟩)
  have tin : ∀ t ∈ nd.tg, t ∈ tgOf ns nd.l := fun t ht => by rw [htg]; exact ht
  walk_at "go"
  refine r_if2 (fun hb => ?_) (fun hb => ?_)
  · have hk : nd.k = "if" := V.str.inj (of_decide_eq_true hb)
    rcases F.nsk.two nd hnd with ⟨_, e, t1, t3, hr1, ht1⟩ | ⟨h0, _⟩
    · rw [hr1] at hxr
      obtain ⟨xe, xr', rfl, hxe, hxr'⟩ := cons_reps hxr
      obtain rfl := nil_reps hxr'
      walk_at "go"
      refine r_me h1 e5 ?_
      walk_at "go"
      refine ⟨tt, _, 0, .str t1, rfl, rfl, htt', atI_nat (j := 0) (by rw [ht1]; rfl), ?_⟩
      walk_at "go"
      refine ⟨a, nd.l, t1, after, en, ns, o, R, hs, mgl, mm, rk, rfl, hA0, tin t1 (by rw [ht1]; simp), fun v1 H1 b1 s1 hb1 q1 q2 q3 q4 => ?_⟩
      walk_at "go"
      refine r_me (s1 _ _ h1) e5 ?_
      walk_at "go"
      refine ⟨tt, _, 1, .str t3, rfl, rfl, .inl (.inr ⟨ob, s1 _ _ htt1⟩), atI_nat (j := 1) (by rw [ht1]; rfl), ?_⟩
      walk_at "go"
      refine ⟨a, nd.l, t3, after, en, ns, o, R, hs, mgl, mm, rk, rfl, hA0.s s1, tin t3 (by rw [ht1]; simp), fun v2 H2 b2 s2 hb2 r1 r2 r3 r4 => ?_⟩
      walk_at "go"
      refine ⟨by show 5 ≤ sizeLine; decide, fun p2 np2 => ?_⟩
      walk_at "go"
      refine ⟨by show 1 ≤ sizeLine; decide, fun p3 np3 => ?_⟩
      refine q _ _ [.cond nd.l e b1 b2] (by walk_at "sm") (rep_new np3 (reps_cons (rep_new np2 (reps_cons str_rep (reps_cons str_rep (reps_cons (Rep.s (Same.trans s1 s2) hxe) (reps_cons (Rep.s s2 hb1) (reps_cons hb2 reps_nil)))))) reps_nil)) ?_ ?_ ?_ (by simp [okB, okS, q4, r4, F.nsk.ok nd hnd])
      · rw [htg, ht1]
        simp [labs, lab, q1, r1]
      · simp [deps, dep]; omega
      · simp [labs, lab]; omega
    · exact absurd hk h0
  · have hk : nd.k ≠ "if" := fun e => by rw [e] at hb; simp at hb
    rcases F.nsk.two nd hnd with ⟨h0, _⟩ | ⟨_, t1, ht1⟩
    · exact absurd h0 hk
    · walk_at "go"
      refine ⟨by show 3 ≤ sizeLine; decide, fun p2 np2 => ?_⟩
      walk_at "go"
      refine ⟨by show 1 ≤ sizeLine; decide, fun p3 np3 => ?_⟩
      have s3 : Same H (upd (upd H p2 (.tup [.str "node", .str nd.l, .ref pd])) p3 (.tup [.ref p2])) := by walk_at "sm"
      have hb3 : Bd (upd (upd H p2 (.tup [.str "node", .str nd.l, .ref pd])) p3 (.tup [.ref p2])) [.node nd.l (.tup (.str nd.k :: nd.r))] (.ref p3) :=
        rep_new np3 (reps_cons (rep_new np2 (reps_cons str_rep (reps_cons str_rep (reps_cons hdd reps_nil)))) reps_nil)
      walk_at "go"
      refine r_me (s3 _ _ h1) e5 ?_
      walk_at "go"
      refine ⟨tt, _, 0, .str t1, rfl, rfl, .inl (.inr ⟨ob, s3 _ _ htt1⟩), atI_nat (j := 0) (by rw [ht1]; rfl), ?_⟩
      walk_at "go"
      refine ⟨a, nd.l, t1, after, en, ns, o, R, hs, mgl, mm, rk, rfl, hA0.s s3, tin t1 (by rw [ht1]; simp), fun v1 H1 b1 s1 hb1 q1 q2 q3 q4 => ?_⟩
      have hbl := F.blen (n := n + 1) hlo
      have hll : (labs b1).length ≤ 8 := by
        rw [below_eL, htg, ht1, List.length_cons, List.length_append] at hbl
        simp at hbl
        rw [q1]; omega
      refine r_catR (Rep.s s1 hb3) hb1 (by rw [sDs_len, sDs_len]; simp; omega) fun v2 H2 s2 hb2 => ?_
      rw [← sDs_app] at hb2
      refine q v2 H2 _ (Same.trans s3 (Same.trans s1 s2)) hb2 ?_ ?_ ?_ (by rw [okB_append]; simp [okB, okS, q4])
      · rw [htg, ht1, labs_append]
        simp [labs, lab, q1]
      · rw [deps_append]; simp [deps, dep]; omega
      · rw [labs_append]; simp [labs, lab]; omega
theorem scInnerC : FnScope ["self", "label", "after", "followers", "body", "index", "merge"] ["self", "label", "after"] (defScope (mth 82 3)) := ⟨rfl, rfl, rfl, by decide +kernel, rfl, by decide +kernel, by decide +kernel⟩
theorem inner_met (T : Tx w K mg) (n : Nat) (m_code : C8.Met P w K mg base (101 + 4 * n) (He.ga K "Structure") "code" (spCode K n) []) (m_own_code : C8.Met P w K mg base (101 + 4 * n + 1 + 1) (He.ga K "Structure") "own_code" (spOwnC K n) []) : C8.Met P w K mg base (101 + 4 * n + 1 + 1 + 1) (He.ga K "Structure") "inner_code" (spInnerC K n) [] := by
  have cS := str_cls T
  have n1 := str_no T (f := "merges") (by decide +kernel)
  have c_breaks_to : C8.Cal P w K mg base 100 "breaks_to" (spBreaks 100) [] := breaks_cal T 100
  have m_enumerate := T.free "enumerate" (by decide +kernel)
  refine met T (i := 82) (j := 3) (k := 101 + 4 * n + 1 + 1) (C := "Structure") (x := "inner_code") (q := "Structure.inner_code") (by decide +kernel) (by decide +kernel) scInnerC (fun vs H Q E h => ?_) (fun _ _ _ _ _ _ us hl => match us, hl with | [_, _, _], _ => rfl) (fun cdv A outer s H vs Q E hr h => ?_)
  · obtain ⟨a, _, _, _, _, _, _, _, _, _, _, rfl, _⟩ := h
    rfl
  obtain ⟨a, l, after, en, ns, o, R, hs, mgl, mm, rk, rfl, hA, q⟩ := h
  have hA0 := hA
  have hu := hu_of hr
  obtain ⟨⟨dx, fs, pa, rl, rx, hl, ml, d, kvs, h1, ⟨f1, f2, f3, f4, f5⟩, ⟨e1, e2, e3, e4, e5⟩, h3, h4, h5, h6, h7, h8, h9⟩, F, hlo, hn, hn9, haft⟩ := hA
  obtain ⟨ad, had, hadl⟩ := h9 l ((F.ho l).mp hlo)
  have hml := F.mlen hlo
  refine ⟨_, (pss_cons (ps_set (i := 3) scInnerC.nd rfl (.inl rfl) (pe_op op_cat (pe_dget hu (pe_fld (pv 0) rfl) (pv 1) (fun _ _ => rfl)) (pe_lst (pa_cons (pv 2) pa_nil))))
(pss_cons (ps_set (i := 4) scInnerC.nd rfl (.inl rfl) (C8.pe_mt (pl := L2.plainOf _ _) m_own_code hr (by omega) (pv 0) (pa_cons (pv 1) (pa_cons (pe_ix ix_list (pv 3) pe_int (fun _ _ => rfl)) pa_nil))))
(pss_cons (ps_for PassesOwn.never rfl (pi_enum rfl m_enumerate (pa_cons (pe_dget hu (pe_fld (pv 0) rfl) (pv 1) (fun _ _ => rfl)) pa_nil)) (pg_tup rfl (pgs_cons (pg_name (i := 5) scInnerC.nd rfl (.inl rfl)) (pgs_cons (pg_name (i := 6) scInnerC.nd rfl (.inl rfl)) pgs_nil)))
(pss_cons (ps_if (pt_val (C8.pe_c c_breaks_to hr (by omega) rfl (pa_cons (pv 4) (pa_cons (pv 6) pa_nil))))
(pss_one (ps_set (i := 4) scInnerC.nd rfl (.inl rfl) (pe_tup (pa_cons (pe_tup (pa_cons pe_str (pa_cons (pv 6) (pa_cons (pv 4) pa_nil)))) pa_nil))))
pss_nil)
(pss_one (ps_set (i := 4) scInnerC.nd rfl (.inl rfl) (pe_op op_catA (pv 4) (C8.pe_mt (pl := L2.plainOf _ _) m_code hr (by omega) (pv 0) (pa_cons (pv 6) (pa_cons (pe_ix ix_list (pv 3) (pe_op op_add (pv 5) pe_int) (fun _ _ => rfl)) pa_nil))))))))
(pss_one (ps_ret (pv 4)))))), ?_⟩
  walk_at "go"
  refine r_fl h1 cS n1 f5 ?_
  walk_at "go"
  refine r_dg h8 had ?_
  walk_at "go"
  refine ⟨by show 1 ≤ sizeLine; decide, fun p1 np1 => ?_⟩
  refine r_cat (up_new hadl np1 _) upd_same (by simp; omega) fun p2 np2 => ?_
  have s2 : Same H (upd (upd H p1 (.lst [.str after])) p2 (.lst ((mm l).map V.str ++ [.str after]))) := by walk_at "sm"
  have hfl : upd (upd H p1 (.lst [.str after])) p2 (.lst ((mm l).map V.str ++ [.str after])) p2 = some (.lst ((mm l ++ [after]).map V.str)) := by rw [upd_same, List.map_append]; rfl
  generalize upd (upd H p1 (.lst [.str after])) p2 (.lst ((mm l).map V.str ++ [.str after])) = H2 at s2 hfl ⊢
  have faft : ∀ m ∈ mm l ++ [after], m = "exit" ∨ m ∈ mgl := fun m hm => by
    rcases List.mem_append.mp hm with hm | hm
    · exact .inr (F.mml l hlo m hm)
    · rw [show m = after by simpa using hm]; exact haft
  obtain ⟨f0, hf0⟩ : ∃ f0, (mm l ++ [after])[0]? = some f0 := by
    cases e : (mm l ++ [after])[0]? with
    | none => rw [List.getElem?_eq_none_iff] at e; simp at e
    | some f0 => exact ⟨f0, rfl⟩
  have hm0 : ((mm l ++ [after]).map V.str)[0]? = some (.str f0) := by rw [List.getElem?_map, hf0]; rfl
  walk_at "go"
  refine r_me (s2 _ _ h1) e4 ?_
  walk_at "go"
  refine r_ixL0 hfl hm0 ?_
  walk_at "go"
  refine ⟨a, l, f0, en, ns, o, R, hs, mgl, mm, rk, rfl, ⟨hA0.1.s s2, F, hlo, hn, hn9, faft f0 (List.mem_of_getElem? hf0)⟩, fun v1 H3 b1 s3 hb1 q1 q2 q3 q4 => ?_⟩
  have s23 : Same H H3 := Same.trans s2 s3
  walk_at "go"
  refine r_fl (s23 _ _ h1) cS n1 f5 ?_
  walk_at "go"
  refine r_dg (s23 _ _ h8) had ?_
  walk_at "go"
  refine ⟨ad, _, rfl, SqL.of (s23 _ _ hadl), for_enum (xs := (mm l).map V.str) (fun i σ H' => ∃ v b z5 z6, σ = [some (.ref a), some (.str l), some (.str after), some (.ref p2), some v, z5, z6] ∧ Same H3 H' ∧ Bd H' b v ∧
      labs b = l :: ((tgOf ns l).flatMap (eL ns R mgl mm n l) ++ ((mm l).take i).flatMap (below (chS ns R mgl mm) n)) ∧ deps b ≤ 10 * n + 1 + i ∧ b.length ≤ 2 * (labs b).length ∧ okB b = true)
    ⟨v1, b1, _, _, rfl, Same.refl _, hb1, by rw [q1]; simp, q2, q3, q4⟩ (fun i σ H' _ ⟨_, _, _, _, _, s4, _⟩ => SqL.of (s4 _ _ (s23 _ _ hadl))) ?_ ?_⟩
  · rintro i y Tq σ H' hi ⟨v, b, z5, z6, rfl, s4, hb, r1, r2, r3, r4⟩ nT
    obtain ⟨m, hm, rfl⟩ := map_str_get hi
    have il : i < (mm l).length := (List.getElem?_eq_some_iff.mp hm).1
    have hmm : m ∈ mm l := List.mem_of_getElem? hm
    have hup := F.tr.up l hlo m (List.mem_append_right _ hmm)
    obtain ⟨f1', hf1⟩ : ∃ f1, (mm l ++ [after])[i + 1]? = some f1 := by
      cases e : (mm l ++ [after])[i + 1]? with
      | none => rw [List.getElem?_eq_none_iff] at e; simp at e; omega
      | some f0 => exact ⟨f0, rfl⟩
    have hm1 : ((mm l ++ [after]).map V.str)[i + 1]? = some (.str f1') := by rw [List.getElem?_map, hf1]; rfl
    have hbl : (labs b).length ≤ 8 := by
      have h0 := F.blen (n := n + 1) hlo
      have hsub : (((mm l).take i).flatMap (below (chS ns R mgl mm) n)).length ≤ ((mm l).flatMap (below (chS ns R mgl mm) n)).length := by
        rw [← List.take_append_drop i (mm l), List.flatMap_append, List.length_append]
        simp
      rw [below_eL, List.length_cons, List.length_append] at h0
      rw [r1, List.length_cons, List.length_append]; omega
    have hbm : (below (chS ns R mgl mm) n m).length ≤ 8 := F.blen hup.1
    have s5 : Same H' (upd H' Tq (.tup [.int (i : Nat), .str m])) := Same.newo nT _
    have fin : ∀ (v' : V) (b' : List Sm) (H5 : Hp), Same (upd H' Tq (.tup [.int (i : Nat), .str m])) H5 → Bd H5 b' v' → labs b' = labs b → deps b' ≤ 10 * n + 1 + (i + 1) → b'.length ≤ 2 * (labs b').length → okB b' = true →
        ∀ v2 H6 b2, Same H5 H6 → Bd H6 b2 v2 → labs b2 = below (chS ns R mgl mm) n m → deps b2 ≤ 10 * n → b2.length ≤ 2 * (labs b2).length → okB b2 = true →
        rCatA K v' v2 H6 fun x H7 => ∃ v b z5 z6, ([some (.ref a), some (.str l), some (.str after), some (.ref p2), some x, some (.int (i : Nat)), some (.str m)] : L2.St) = [some (.ref a), some (.str l), some (.str after), some (.ref p2), some v, z5, z6] ∧ Same H3 H7 ∧ Bd H7 b v ∧
          labs b = l :: ((tgOf ns l).flatMap (eL ns R mgl mm n l) ++ ((mm l).take (i + 1)).flatMap (below (chS ns R mgl mm) n)) ∧ deps b ≤ 10 * n + 1 + (i + 1) ∧ b.length ≤ 2 * (labs b).length ∧ okB b = true := by
      intro v' b' H5 s6 hb' k1 k2 k3 k4 v2 H6 b2 s7 hb2 j1 j2 j3 j4
      have hx1 : (labs b').length ≤ 8 := by rw [k1]; exact hbl
      have hx2 : (labs b2).length ≤ 8 := by rw [j1]; exact hbm
      refine r_catR (Rep.s s7 hb') hb2 (by rw [sDs_len, sDs_len]; omega) fun v3 H7 s8 hb3 => ?_
      rw [← sDs_app] at hb3
      refine ⟨v3, b' ++ b2, _, _, rfl, Same.trans s4 (Same.trans s5 (Same.trans s6 (Same.trans s7 s8))), hb3, ?_, ?_, ?_, by rw [okB_append, k4, j4]; rfl⟩
      · rw [labs_append, k1, r1, j1, take_snoc hm, List.flatMap_append]
        simp
      · rw [deps_append]; omega
      · rw [labs_append, List.length_append, List.length_append]; omega
    have go2 : ∀ (v' : V) (b' : List Sm) (H5 : Hp), Same (upd H' Tq (.tup [.int (i : Nat), .str m])) H5 → Bd H5 b' v' → labs b' = labs b → deps b' ≤ 10 * n + 1 + (i + 1) → b'.length ≤ 2 * (labs b').length → Same H H5 := fun v' b' H5 s6 _ _ _ _ => Same.trans s23 (Same.trans s4 (Same.trans s5 s6))
    walk_at "go"
    refine ⟨v, m, b, rfl, Rep.s s5 hb, by omega, fun c H5 s6 => ?_⟩
    walk_at "go"
    refine r_if2 (fun hc => ?_) (fun hc => ?_)
    · walk_at "go"
      refine ⟨by show 3 ≤ sizeLine; decide, fun p4 np4 => ?_⟩
      walk_at "go"
      refine ⟨by show 1 ≤ sizeLine; decide, fun p5 np5 => ?_⟩
      have s7 : Same H5 (upd (upd H5 p4 (.tup [.str "block", .str m, v])) p5 (.tup [.ref p4])) := by walk_at "sm"
      have hb4 : Bd (upd (upd H5 p4 (.tup [.str "block", .str m, v])) p5 (.tup [.ref p4])) [.wrap false m b] (.ref p5) :=
        rep_new np5 (reps_cons (rep_new np4 (reps_cons str_rep (reps_cons str_rep (reps_cons (Rep.s (Same.trans s5 s6) hb) reps_nil)))) reps_nil)
      have l1 : labs ([.wrap false m b] : List Sm) = labs b := by simp [labs, lab]
      have l2 : deps ([.wrap false m b] : List Sm) ≤ 10 * n + 1 + (i + 1) := by simp [deps, dep]; omega
      have l3 : ([.wrap false m b] : List Sm).length ≤ 2 * (labs ([.wrap false m b] : List Sm)).length := by rw [l1, r1]; simp; omega
      have sA := go2 _ _ _ (Same.trans s6 s7) hb4 l1 l2 l3
      have l4 : okB ([.wrap false m b] : List Sm) = true := by
        obtain ⟨nm, hnm, enm⟩ := nod_of ((F.ho m).mp hup.1)
        have := F.nsk.ok nm hnm
        rw [enm] at this
        simp [okB, okS, r4, this]
      have fA := fin _ _ _ (Same.trans s6 s7) hb4 l1 l2 l3 l4
      walk_at "go"
      refine r_me (sA _ _ h1) e2 ?_
      walk_at "go"
      refine r_ixL (k := ((i + 1 : Nat) : Int)) ((Same.trans s3 (Same.trans s4 (Same.trans s5 (Same.trans s6 s7)))) _ _ hfl) (atI_nat hm1) ?_
      walk_at "go"
      exact ⟨a, m, f1', en, ns, o, R, hs, mgl, mm, rk, rfl, ⟨hA0.1.s sA, F, hup.1, by have := hup.2; omega, by omega, faft f1' (List.mem_of_getElem? hf1)⟩, fun v2 H6 b2 s8 hb2 j1 j2 j3 j4 => fA v2 H6 b2 s8 hb2 j1 j2 j3 j4⟩
    · have sA := go2 v b H5 s6 (Rep.s (Same.trans s5 s6) hb) rfl (by omega) r3
      have fA := fin v b H5 s6 (Rep.s (Same.trans s5 s6) hb) rfl (by omega) r3 r4
      walk_at "go"
      refine r_me (sA _ _ h1) e2 ?_
      walk_at "go"
      refine r_ixL (k := ((i + 1 : Nat) : Int)) ((Same.trans s3 (Same.trans s4 (Same.trans s5 s6))) _ _ hfl) (atI_nat hm1) ?_
      walk_at "go"
      exact ⟨a, m, f1', en, ns, o, R, hs, mgl, mm, rk, rfl, ⟨hA0.1.s sA, F, hup.1, by have := hup.2; omega, by omega, faft f1' (List.mem_of_getElem? hf1)⟩, fun v2 H6 b2 s8 hb2 j1 j2 j3 j4 => fA v2 H6 b2 s8 hb2 j1 j2 j3 j4⟩
  · rintro σ H' ⟨v, b, z5, z6, rfl, s4, hb, r1, r2, r3, r4⟩
    rw [List.length_map, List.take_length] at r1
    rw [List.length_map] at r2
    walk_at "go"
    exact q v H' b (Same.trans s23 s4) hb (by rw [r1, below_eL]) (by omega) r3 r4
theorem scCode : FnScope ["self", "label", "after", "inner"] ["self", "label", "after"] (defScope (mth 82 2)) := ⟨rfl, rfl, rfl, by decide +kernel, rfl, by decide +kernel, by decide +kernel⟩
theorem code_step (T : Tx w K mg) (n : Nat) (m_inner_code : C8.Met P w K mg base (101 + 4 * n + 1 + 1 + 1) (He.ga K "Structure") "inner_code" (spInnerC K n) []) : C8.Met P w K mg base (101 + 4 * n + 1 + 1 + 1 + 1) (He.ga K "Structure") "code" (spCode K (n + 1)) [] := by
  have cS := str_cls T
  have n1 := str_no T (f := "headers") (by decide +kernel)
  refine met T (i := 82) (j := 2) (k := 101 + 4 * n + 1 + 1 + 1) (C := "Structure") (x := "code") (q := "Structure.code") (by decide +kernel) (by decide +kernel) scCode (fun vs H Q E h => ?_) (fun _ _ _ _ _ _ us hl => match us, hl with | [_, _, _], _ => rfl) (fun cdv A outer s H vs Q E hr h => ?_)
  · obtain ⟨a, _, _, _, _, _, _, _, _, _, _, rfl, _⟩ := h
    rfl
  obtain ⟨a, l, after, en, ns, o, R, hs, mgl, mm, rk, rfl, hA, q⟩ := h
  have hA0 := hA
  obtain ⟨⟨dx, fs, pa, rl, rx, hl, ml, d, kvs, h1, ⟨f1, f2, f3, f4, f5⟩, ⟨e1, e2, e3, e4, e5⟩, h3, h4, h5, h6, h7, h8, h9⟩, F, hlo, hn, hn9, haft⟩ := hA
  refine ⟨_, (pss_cons (ps_set (i := 3) scCode.nd rfl (.inl rfl) (C8.pe_mt (pl := L2.plainOf _ _) m_inner_code hr (by omega) (pv 0) (pa_cons (pv 1) (pa_cons (pv 2) pa_nil))))
(pss_cons (ps_if (pt_cmpR op_in_seq (pv 1) (pe_fld (pv 0) rfl) rfl)
(pss_one (ps_ret (pe_tup (pa_cons (pe_tup (pa_cons pe_str (pa_cons (pv 1) (pa_cons (pv 3) pa_nil)))) pa_nil))))
pss_nil)
(pss_one (ps_ret (pv 3))))), ?_⟩
  walk_at "go"
  refine r_me h1 e3 ?_
  walk_at "go"
  refine ⟨a, l, after, en, ns, o, R, hs, mgl, mm, rk, rfl, hA0, fun v H1 b s1 hb q1 q2 q3 q4 => ?_⟩
  walk_at "go"
  refine r_fl (s1 _ _ h1) cS n1 f3 ?_
  refine r_inLs (s1 _ _ h6) ?_
  walk_at "go"
  refine r_if2 (fun hc => ?_) (fun hc => ?_)
  · walk_at "go"
    refine ⟨by show 3 ≤ sizeLine; decide, fun p4 np4 => ?_⟩
    walk_at "go"
    refine ⟨by show 1 ≤ sizeLine; decide, fun p5 np5 => ?_⟩
    refine q _ _ [.wrap true l b] (by walk_at "sm") (rep_new np5 (reps_cons (rep_new np4 (reps_cons str_rep (reps_cons str_rep (reps_cons hb reps_nil)))) reps_nil)) (by simp [labs, lab, q1]) (by simp [deps, dep]; omega) ?_ (by
      obtain ⟨nm, hnm, enm⟩ := nod_of ((F.ho l).mp hlo)
      have := F.nsk.ok nm hnm
      rw [enm] at this
      simp [okB, okS, q4, this])
    have l1 : labs ([.wrap true l b] : List Sm) = labs b := by simp [labs, lab]
    rw [l1, q1, below_eL]
    simp; omega
  · walk_at "go"
    exact q v H1 b s1 hb q1 (by omega) q3 q4
theorem code_no (T : Tx w K mg) : C8.Met P w K mg base (101 + 4 * 0) (He.ga K "Structure") "code" (spCode K 0) [] := by
  obtain ⟨g, fd, F⟩ := T.mdef (82, 2, "Structure", "code", "Structure.code") (by decide +kernel)
  have no : ∀ vs H Q E, ¬ spCode K 0 vs H Q E := fun vs H Q E h => by
    obtain ⟨a, l, after, en, ns, o, R, hs, mgl, mm, rk, rfl, ⟨_, F, hlo, hn, _⟩, _⟩ := h
    have := F.tr.lt l hlo
    omega
  refine ⟨He.ma K (He.ga K "Structure") "code", fd, ["self", "label", "after"], [], str_cls T, g, ⟨fun vs H Q E h => absurd h (no vs H Q E), fun A outer s H args us vs Q E _ _ _ _ h => absurd h (no vs H Q E)⟩, F.bindsN (fun _ _ _ _ _ _ us hl => match us, hl with | [_, _, _], _ => rfl), .nil⟩
theorem code_met (T : Tx w K mg) : ∀ n : Nat, C8.Met P w K mg base (101 + 4 * n) (He.ga K "Structure") "code" (spCode K n) []
  | 0 => code_no T
  | n + 1 => by
    have c := code_met T n
    have e := edge_met T n c
    have o := own_met T n e
    have i := inner_met T n c o
    have z := code_step T n i
    have : 101 + 4 * (n + 1) = 101 + 4 * n + 1 + 1 + 1 + 1 := by omega
    rw [this]
    exact z
end
end K5
end

section
set_option linter.all false
set_option maxRecDepth 100000
/-! Structure: forward_count, __init__. -/
namespace K5
open PySem PySem.Spec PyProof.Rows L2 MG MT MS
/- steps -/
local macro_rules | `(tactic| walk_at "sm") => `(tactic| first | assumption | exact Same.refl _ | (refine Same.mut ?_ (by assumption) _; walk_at "sm") | (refine Same.trans ?_ (Same.newo (by assumption) _); walk_at "sm") | (refine Same.trans ?_ (by assumption); walk_at "sm"))
local macro_rules | `(tactic| walk_at "hp") => `(tactic| first | assumption | exact upd_same | (refine up_new ?_ (by assumption) _; walk_at "hp") | (refine Same.up ?_ (by assumption) (by assumption); walk_at "sm") | (refine Same.look (by assumption) ?_; walk_at "hp"))
local macro_rules | `(tactic| walk_at "rep") => `(tactic| first | assumption | exact str_rep | exact int_rep | exact non_rep | (refine' Rep.s ?s ?h; (case h => assumption); (case s => walk_at "sm")))
local macro_rules | `(tactic| walk_at "if") => `(tactic| first | ((with_reducible refine' r_ifT ?e ?_); (case e => decide +kernel)) | ((with_reducible refine' r_ifF ?e ?_); (case e => decide +kernel)))
local macro_rules | `(tactic| walk_at "sz") => `(tactic| first | omega | decide | (simp only [List.length_map, List.length_append, List.length_cons, List.length_nil, List.length_take]; omega))
local macro_rules | `(tactic| walk_at "s") => `(tactic| first
  | with_reducible refine r_seq ?_ | with_reducible refine r_set ?_ | with_reducible refine r_asg ?_ | with_reducible refine r_ret ?_ | with_reducible refine r_drop ?_ | with_reducible refine r_next ?_ | with_reducible refine r_cont ?_ | with_reducible refine r_brk ?_
  | with_reducible refine r_if ?_ | with_reducible refine r_test ?_ | with_reducible refine r_tB ?_ | with_reducible refine r_bl ?_ | with_reducible refine r_and ?_ | with_reducible refine r_or ?_ | with_reducible refine r_not ?_
  | ((with_reducible refine' r_var ?e ?_); (case e => rfl)) | with_reducible refine r_c ?_ | with_reducible refine r_op ?_ | with_reducible refine r_un ?_ | with_reducible refine r_ifx ?_ | with_reducible refine r_andV ?_ | with_reducible refine r_orV ?_ | with_reducible refine r_notV ?_
  | with_reducible refine r_nil ?_ | with_reducible refine r_cons ?_ | with_reducible refine r_cb ?_ | with_reducible refine r_bm ?_ | with_reducible refine r_bm0 ?_ | with_reducible refine r_lst ?_ | with_reducible refine r_tup ?_ | with_reducible refine r_call ?_
  | with_reducible refine r_lc ?_ | with_reducible refine r_dc ?_ | with_reducible refine r_for ?_ | with_reducible refine r_iTup ?_ | with_reducible refine r_iList ?_ | with_reducible refine r_iEnum ?_ | with_reducible refine r_iRng1 ?_
  | with_reducible refine r_sl ?_ | with_reducible refine r_part ?_ | with_reducible refine r_nop ?_ | with_reducible refine r_int ?_ | with_reducible refine r_then ?_ | with_reducible refine r_yes ?_
  | with_reducible refine r_gname ?_ | with_reducible refine r_gcons ?_ | with_reducible refine r_gnil ?_
  | ((with_reducible refine' r_eq ?e ?_); (case e => rfl)) | ((with_reducible refine' r_ne ?e ?_); (case e => rfl)) | with_reducible refine r_I0 ?_
  | ((with_reducible refine' r_ixT0 ?e ?f ?_); (case e => walk_at "hp"); (case f => rfl)) | ((with_reducible refine' r_ixT1 ?e ?f ?_); (case e => walk_at "hp"); (case f => rfl)) | ((with_reducible refine' r_ixT2 ?e ?f ?_); (case e => walk_at "hp"); (case f => rfl)) | ((with_reducible refine' r_ixT3 ?e ?f ?_); (case e => walk_at "hp"); (case f => rfl)) | ((with_reducible refine' r_ixT4 ?e ?f ?_); (case e => walk_at "hp"); (case f => rfl)) | ((with_reducible refine' r_ixL0 ?e ?f ?_); (case e => walk_at "hp"); (case f => rfl)) | ((with_reducible refine' r_ixL1 ?e ?f ?_); (case e => walk_at "hp"); (case f => rfl)) | ((with_reducible refine' r_ixL2 ?e ?f ?_); (case e => walk_at "hp"); (case f => rfl)) | ((with_reducible refine' r_ixL3 ?e ?f ?_); (case e => walk_at "hp"); (case f => rfl)) | ((with_reducible refine' r_ixL4 ?e ?f ?_); (case e => walk_at "hp"); (case f => rfl))
  | ((with_reducible refine' r_ixT ?e ?f ?_); (case e => walk_at "hp"); (case f => rfl)) | ((with_reducible refine' r_ixL ?e ?f ?_); (case e => walk_at "hp"); (case f => rfl))
  | ((with_reducible refine' r_append ?e ?f ?_); (case e => walk_at "hp"); (case f => walk_at "sz")) | ((with_reducible refine' r_extend ?e ?e2 ?f ?_); (case e => walk_at "hp"); (case e2 => walk_at "hp"); (case f => walk_at "sz"))
  | with_reducible refine r_fldE ?_ | with_reducible refine r_methE ?_ | with_reducible refine r_make ?_ | with_reducible refine r_sfld ?_ | with_reducible refine r_iEnumT ?_
  | with_reducible refine r_dgetE ?_ | with_reducible refine r_dinE ?_ | with_reducible refine r_dninE ?_ | with_reducible refine r_dputE ?_ | with_reducible refine r_dnew ?_ | with_reducible refine r_neg ?_
  | ((with_reducible refine' r_truL ?e ?_); (case e => walk_at "hp"))
  | ((with_reducible refine' r_gtup ?e ?f ?_); (case e => walk_at "hp"); (case f => rfl))
  | ((with_reducible refine' r_tyL ?e ?_); (case e => walk_at "hp")) | walk_at "if")
local macro_rules | `(tactic| walk_at "go") => `(tactic| repeat walk_at "s")
/- steps end -/
/-! ### all but instances stays -/
def Sn (H H' : Hp) : Prop := ∀ b o, (∀ C dx fs, o ≠ .ins C dx fs) → H b = some o → H' b = some o
theorem Sn.of {H H' : Hp} (s : Same H H') : Sn H H' := fun b o _ h => s b o h
theorem Sn.trans {H H1 H2 : Hp} (a : Sn H H1) (b : Sn H1 H2) : Sn H H2 := fun c o n h => b c o n (a c o n h)
theorem Sn.upd {H : Hp} {x C dx : Addr} {fs : List (Str × V)} (h : H x = some (.ins C dx fs)) (o : HO) : Sn H (upd H x o) := fun b u n q => by
  rw [upd_ne (fun e => by rw [e, h] at q; cases q; exact n _ _ _ rfl)]; exact q
theorem Sn.te {H H' : Hp} (s : Sn H H') : TE_ H H' := fun a xs h => s a _ (by intro C dx fs z; cases z) h
theorem Sn.tup {H H' : Hp} (s : Sn H H') {a : Addr} {xs : List V} (h : H a = some (.tup xs)) : H' a = some (.tup xs) := s a _ (by intro C dx fs z; cases z) h
theorem Sn.lst {H H' : Hp} (s : Sn H H') {a : Addr} {xs : List V} (h : H a = some (.lst xs)) : H' a = some (.lst xs) := s a _ (by intro C dx fs z; cases z) h
theorem Sn.dk {H H' : Hp} (s : Sn H H') {a : Addr} {xs : List (Key × V)} (h : H a = some (.dK xs)) : H' a = some (.dK xs) := s a _ (by intro C dx fs z; cases z) h
theorem GrAt.sn {H H' : Hp} (s : Sn H H') {v : V} {en : Str} {U : List Str} {tg : Str → List Str} (h : GrAt H v en U tg) : GrAt H' v en U tg := by
  obtain ⟨g, d, h1, h2, kvs, h3, h4, h5⟩ := h
  refine ⟨g, d, h1, s.tup h2, kvs, s.dk h3, h4, fun l hl => ?_⟩
  obtain ⟨t, a, o, b, c⟩ := h5 l hl
  exact ⟨t, a, o, s _ _ (by intro C dx fs z; cases z) b, c⟩
theorem PrsAt.sn {H H' : Hp} {xs : List V} {zs : List (Atm × Atm)} (s : Sn H H') (h : PrsAt H xs zs) : PrsAt H' xs zs := by
  induction h with
  | nil => exact .nil
  | cons h _ ih =>
    obtain ⟨p, rfl, hp⟩ := h
    exact .cons ⟨p, rfl, s.tup hp⟩ ih
theorem r_bmfE {r : V → List V → Hp → VK → Prop} {to : TE} {t : TA} {σ : L2.St} {H : Hp} {Q : VK} (h : to σ H fun x H1 => (∃ p ob xs, x = .ref p ∧ H1 p = some (.frz ob (.tup xs)) ∧ ob.dict = none) ∧ t σ H1 fun xs H2 => r x xs H2 Q) : tBMF r to t σ H Q := h
/-- forward_count(label) -/
def spFwd (K : PySem.W.Frag) : Sp := fun vs H Q _ => ∃ (a : Addr) (l : Str) (dx : Addr) (fs : List (Str × V)) (pa rl : Addr) (rx : List V) (en : Str) (ns : List Nod) (R : List (Str × Str)), vs = [.ref a, .str l] ∧
  H a = some (.ins (He.ga K "Structure") dx fs) ∧ fl fs "program" = some (.ref pa) ∧ fl fs "retreating" = some (.ref rl) ∧ PrAt K H pa en ns ∧ NsOk en ns ∧ H rl = some (.lst rx) ∧ PrsAt H rx (R.map at2) ∧
  (∀ p ∈ R, PyData.strOk p.1 = true ∧ PyData.strOk p.2 = true) ∧ PyData.strOk l = true ∧
  ∀ H', Same H H' → Q (.int (fc (lbs ns) (tgOf ns) (fun s t => decide ((s, t) ∈ R)) l : Nat)) H'
theorem fc_snoc {ns : List Str} {tg : Str → List Str} {R : Str → Str → Bool} {m s : Str} : fc (ns ++ [s]) tg R m = fc ns tg R m + (if R s m then 0 else (tg s).count m) := by
  simp [fc]
section
variable {P : PySem.Program} {w : World} {K : PySem.W.Frag} {mg : Str → Option Value} {base : Heap}
theorem scFwd : FnScope ["self", "label", "count", "source", "_", "targets"] ["self", "label"] (defScope (mth 82 1)) := ⟨rfl, rfl, rfl, by decide +kernel, rfl, by decide +kernel, by decide +kernel⟩
theorem fwd_met (T : Tx w K mg) : C8.Met P w K mg base 1 (He.ga K "Structure") "forward_count" (spFwd K) [] := by
  have cS := str_cls T
  have n1 := str_no T (f := "program") (by decide +kernel)
  have n2 := str_no T (f := "retreating") (by decide +kernel)
  have cP := prog_cls T
  have n3 := prog_no T (f := "nodes") (by decide +kernel)
  refine met T (i := 82) (j := 1) (q := "Structure.forward_count") (by decide +kernel) (by decide +kernel) scFwd (fun vs H Q E h => ?_) (fun _ _ _ _ _ _ us hl => match us, hl with | [_, _], _ => rfl) (fun cdv A outer s H vs Q E hr h => ?_)
  · obtain ⟨v, _, _, _, _, _, _, _, _, _, rfl, _⟩ := h
    rfl
  obtain ⟨a, l, dx, fs, pa, rl, rx, en, ns, R, rfl, h1, f1, f2, hP, ok, h4, h5, hro, hlo, q⟩ := h
  have hu := hu65 hr
  refine ⟨_, (pss_cons (ps_set (i := 2) scFwd.nd rfl (.inl rfl) pe_int)
(pss_cons (ps_for PassesOwn.never rfl (pi_tup (pe_fld (pe_fld (pv 0) rfl) rfl)) (pg_tup rfl (pgs_cons (pg_name (i := 3) scFwd.nd rfl (.inl rfl)) (pgs_cons (pg_name (i := 4) scFwd.nd rfl (.inl rfl)) (pgs_cons (pg_name (i := 5) scFwd.nd rfl (.inl rfl)) pgs_nil))))
(pss_one (ps_if (pt_cmpR (op_notInD hu) (pe_tup (pa_cons (pv 3) (pa_cons (pv 1) pa_nil))) (pe_fld (pv 0) rfl) rfl)
(pss_one (ps_aug (i := 2) scFwd.nd rfl (.inl rfl) (pe_bmF PySem.F.slot_tuple_count PySem.F.type_tuple_count mt_tcount (pv 5) (pa_cons (pv 1) pa_nil)) ip_add))
pss_nil)))
(pss_one (ps_ret (pv 2))))), ?_⟩
  have hP' := hP
  obtain ⟨dx2, fs2, t2, ts2, d2, kvs2, lt2, k1, ⟨k2, k3, k4, k5, k6, k7⟩, k8, k9, _⟩ := hP'
  walk_at "go"
  refine r_fl h1 cS n1 f1 ?_
  refine r_fl k1 cP n3 k3 ?_
  refine ⟨t2, rfl, ⟨_, SqT.of k8⟩, for_tup (xs := ts2) (fun i σ H' => ∃ z3 z4 z5, σ = [some (.ref a), some (.str l), some (.int (fc ((lbs ns).take i) (tgOf ns) (fun s t => decide ((s, t) ∈ R)) l : Nat)), z3, z4, z5] ∧ Same H H')
    ⟨_, _, _, rfl, Same.refl _⟩ (fun i σ H' _ ⟨_, _, _, _, s1⟩ => SqT.of (s1 _ _ k8)) ?_ ?_⟩
  · rintro i y σ H' hi ⟨z3, z4, z5, rfl, s1⟩
    obtain ⟨n, hn, p, tt, dd, rfl, hp, hdv, ob, ht, ht2⟩ := paired_got k9 hi
    have hnm := List.mem_of_getElem? hn
    have hp' := s1 _ _ hp
    have hn' : (lbs ns)[i]? = some n.l := by rw [List.getElem?_map, hn]; rfl
    have htg : tgOf ns n.l = n.tg := tgOf_nod ok.nd hnm
    walk_at "go"
    refine ⟨by show 2 ≤ sizeLine; decide, fun p2 np2 => ?_⟩
    have s2 : Same H (upd H' p2 (.tup [.str n.l, .str l])) := by walk_at "sm"
    walk_at "go"
    refine r_fl (s2 _ _ h1) cS n2 f2 ?_
    refine r_notInLP (a := .str n.l) (b := .str l) (zs := R.map at2) ⟨ok.ok n hnm, hlo⟩ ?_ upd_same (s2 _ _ h4) (h5.s s2) ?_
    · intro z hz
      obtain ⟨pr, hpr, rfl⟩ := List.mem_map.mp hz
      exact hro pr hpr
    have hdm : decide ((Atm.str n.l, Atm.str l) ∈ R.map at2) = decide ((n.l, l) ∈ R) := decide_eq_decide.mpr (mem_at2 (p := (n.l, l)))
    rw [hdm]
    walk_at "go"
    refine r_if2 (fun hb => ?_) (fun hb => ?_)
    · have hR : (n.l, l) ∉ R := fun z => by simp [z] at hb
      walk_at "go"
      refine r_aug rfl ?_
      refine r_bmfE ?_
      walk_at "go"
      refine ⟨⟨tt, ob, _, rfl, s2 _ _ ht, ht2⟩, ?_⟩
      walk_at "go"
      refine r_tcount (zs := n.tg) (.inl (.inr ⟨ob, s2 _ _ ht⟩)) ?_
      refine r_ip ?_
      refine ⟨some (.str n.l), some dd, some (.ref tt), ?_, s2⟩
      rw [take_snoc hn', fc_snoc]
      simp [hR, htg]
    · have hR : (n.l, l) ∈ R := by
        by_cases z : (n.l, l) ∈ R
        · exact z
        · simp [z] at hb
      walk_at "go"
      refine ⟨some (.str n.l), some dd, some (.ref tt), ?_, s2⟩
      rw [take_snoc hn', fc_snoc]
      simp [hR]
  · rintro σ H' ⟨z3, z4, z5, rfl, s1⟩
    have hl : ts2.length = (lbs ns).length := by have := Paired.length k9; simp [lbs]; omega
    rw [hl, List.take_length]
    walk_at "go"
    exact q H' s1
end
end K5
end

section
set_option linter.all false
set_option maxRecDepth 100000
/-! Structure.__init__. -/
namespace K5
open PySem PySem.Spec PyProof.Rows L2 MG MT MS
/- steps -/
local macro_rules | `(tactic| walk_at "sm") => `(tactic| first | assumption | exact Same.refl _ | (refine Same.mut ?_ (by assumption) _; walk_at "sm") | (refine Same.trans ?_ (Same.newo (by assumption) _); walk_at "sm") | (refine Same.trans ?_ (by assumption); walk_at "sm"))
local macro_rules | `(tactic| walk_at "hp") => `(tactic| first | assumption | exact upd_same | (refine up_new ?_ (by assumption) _; walk_at "hp") | (refine Same.up ?_ (by assumption) (by assumption); walk_at "sm") | (refine Same.look (by assumption) ?_; walk_at "hp"))
local macro_rules | `(tactic| walk_at "rep") => `(tactic| first | assumption | exact str_rep | exact int_rep | exact non_rep | (refine' Rep.s ?s ?h; (case h => assumption); (case s => walk_at "sm")))
local macro_rules | `(tactic| walk_at "if") => `(tactic| first | ((with_reducible refine' r_ifT ?e ?_); (case e => decide +kernel)) | ((with_reducible refine' r_ifF ?e ?_); (case e => decide +kernel)))
local macro_rules | `(tactic| walk_at "sz") => `(tactic| first | omega | decide | (simp only [List.length_map, List.length_append, List.length_cons, List.length_nil, List.length_take]; omega))
local macro_rules | `(tactic| walk_at "s") => `(tactic| first
  | with_reducible refine r_seq ?_ | with_reducible refine r_set ?_ | with_reducible refine r_asg ?_ | with_reducible refine r_ret ?_ | with_reducible refine r_drop ?_ | with_reducible refine r_next ?_ | with_reducible refine r_cont ?_ | with_reducible refine r_brk ?_
  | with_reducible refine r_if ?_ | with_reducible refine r_test ?_ | with_reducible refine r_tB ?_ | with_reducible refine r_bl ?_ | with_reducible refine r_and ?_ | with_reducible refine r_or ?_ | with_reducible refine r_not ?_
  | ((with_reducible refine' r_var ?e ?_); (case e => rfl)) | with_reducible refine r_c ?_ | with_reducible refine r_op ?_ | with_reducible refine r_un ?_ | with_reducible refine r_ifx ?_ | with_reducible refine r_andV ?_ | with_reducible refine r_orV ?_ | with_reducible refine r_notV ?_
  | with_reducible refine r_nil ?_ | with_reducible refine r_cons ?_ | with_reducible refine r_cb ?_ | with_reducible refine r_bm ?_ | with_reducible refine r_bm0 ?_ | with_reducible refine r_lst ?_ | with_reducible refine r_tup ?_ | with_reducible refine r_call ?_
  | with_reducible refine r_lc ?_ | with_reducible refine r_dc ?_ | with_reducible refine r_for ?_ | with_reducible refine r_iTup ?_ | with_reducible refine r_iList ?_ | with_reducible refine r_iEnum ?_ | with_reducible refine r_iRng1 ?_
  | with_reducible refine r_sl ?_ | with_reducible refine r_part ?_ | with_reducible refine r_nop ?_ | with_reducible refine r_int ?_ | with_reducible refine r_then ?_ | with_reducible refine r_yes ?_
  | with_reducible refine r_gname ?_ | with_reducible refine r_gcons ?_ | with_reducible refine r_gnil ?_
  | ((with_reducible refine' r_eq ?e ?_); (case e => rfl)) | ((with_reducible refine' r_ne ?e ?_); (case e => rfl)) | with_reducible refine r_I0 ?_
  | ((with_reducible refine' r_ixT0 ?e ?f ?_); (case e => walk_at "hp"); (case f => rfl)) | ((with_reducible refine' r_ixT1 ?e ?f ?_); (case e => walk_at "hp"); (case f => rfl)) | ((with_reducible refine' r_ixT2 ?e ?f ?_); (case e => walk_at "hp"); (case f => rfl)) | ((with_reducible refine' r_ixT3 ?e ?f ?_); (case e => walk_at "hp"); (case f => rfl)) | ((with_reducible refine' r_ixT4 ?e ?f ?_); (case e => walk_at "hp"); (case f => rfl)) | ((with_reducible refine' r_ixL0 ?e ?f ?_); (case e => walk_at "hp"); (case f => rfl)) | ((with_reducible refine' r_ixL1 ?e ?f ?_); (case e => walk_at "hp"); (case f => rfl)) | ((with_reducible refine' r_ixL2 ?e ?f ?_); (case e => walk_at "hp"); (case f => rfl)) | ((with_reducible refine' r_ixL3 ?e ?f ?_); (case e => walk_at "hp"); (case f => rfl)) | ((with_reducible refine' r_ixL4 ?e ?f ?_); (case e => walk_at "hp"); (case f => rfl))
  | ((with_reducible refine' r_ixT ?e ?f ?_); (case e => walk_at "hp"); (case f => rfl)) | ((with_reducible refine' r_ixL ?e ?f ?_); (case e => walk_at "hp"); (case f => rfl))
  | ((with_reducible refine' r_append ?e ?f ?_); (case e => walk_at "hp"); (case f => walk_at "sz")) | ((with_reducible refine' r_extend ?e ?e2 ?f ?_); (case e => walk_at "hp"); (case e2 => walk_at "hp"); (case f => walk_at "sz"))
  | with_reducible refine r_fldE ?_ | with_reducible refine r_methE ?_ | with_reducible refine r_make ?_ | with_reducible refine r_sfld ?_ | with_reducible refine r_iEnumT ?_
  | with_reducible refine r_dgetE ?_ | with_reducible refine r_dinE ?_ | with_reducible refine r_dninE ?_ | with_reducible refine r_dputE ?_ | with_reducible refine r_dnew ?_ | with_reducible refine r_neg ?_
  | ((with_reducible refine' r_truL ?e ?_); (case e => walk_at "hp"))
  | ((with_reducible refine' r_gtup ?e ?f ?_); (case e => walk_at "hp"); (case f => rfl))
  | ((with_reducible refine' r_tyL ?e ?_); (case e => walk_at "hp")) | walk_at "if")
local macro_rules | `(tactic| walk_at "go") => `(tactic| repeat walk_at "s")
/- steps end -/
theorem entry_no' {en ex : Str} {tg : Str → List Str} {ns o o' : List Str} {R : Str → Str → Bool} {mg : Str → Bool} (ho' : IsOrder en ex tg o') (hne : en ≠ ex) (hns : ∀ x, x ∈ ns ↔ x ∈ o)
    (hR : ∀ s ∈ o, ∀ t ∈ tg s, t ≠ ex → (R s t = true ↔ place o' t ≤ place o' s)) (hmg : ∀ m, mg m = true ↔ m ∈ o ∧ 2 ≤ fc ns tg R m) : mg en = false := by
  cases e : mg en with
  | false => rfl
  | true =>
    have h1 := ((hmg en).mp e).2
    have : fc ns tg R en = 0 := by
      unfold fc
      have hz : ∀ s ∈ ns, (if R s en then 0 else (tg s).count en) = 0 := by
        intro s hs
        by_cases hm : en ∈ tg s
        · have := (hR s ((hns s).mp hs) en hm hne).mpr (by rw [ho'.place0 hne]; omega)
          rw [if_pos this]
        · rw [List.count_eq_zero.mpr hm]; simp
      clear h1 hns hR hmg
      induction ns with
      | nil => rfl
      | cons a r ih =>
        rw [List.map_cons, List.sum_cons, hz a (by simp), ih (fun s hs => hz s (by simp [hs]))]
    omega
theorem lp0 : ([] : List (Str × V)).length ≤ 0 := Nat.le_refl _
theorem lp {f : Str} {v : V} {fs : List (Str × V)} {n : Nat} (h : fs.length ≤ n) : (putF f v fs).length ≤ n + 1 := Nat.le_trans (put_fs_len fs) (Nat.succ_le_succ h)
theorem Sn.mut {H H' : Hp} {l : Addr} (s : Sn H H') (h : H l = none) (o : HO) : Sn H (L2.upd H' l o) := fun b u n q => by
  rw [upd_ne (ne_of_none q h)]; exact s b u n q
theorem merges_snoc {o : List Str} {mg : Str → Bool} {dm : Str → Str} {l m : Str} : mergesOf (o ++ [m]) mg dm l = mergesOf o mg dm l ++ (if (mg m && decide (dm m = l)) = true then [m] else []) := by
  unfold mergesOf
  rw [List.filter_append]
  cases e : (mg m && decide (dm m = l)) <;> simp [e]
/-- Structure(program) -/
def spInit (K : PySem.W.Frag) : Sp := fun vs H Q _ => ∃ (x pa dx : Addr) (H0 : Hp) (en : Str) (ns : List Nod), vs = [.ref x, .ref pa] ∧ H0 x = none ∧ Same H0 H ∧ H x = some (.ins (He.ga K "Structure") dx []) ∧
  PrAt K H0 pa en ns ∧ NsOk en ns ∧ en ≠ "exit" ∧ (∃ o, IsOrder en "exit" (tgOf ns) o ∧ ∀ l ∈ lbs ns, l ∈ o) ∧
  ∀ H' o R hs mgl mm rk, Same H0 H' → StAt K H' x en ns R hs mgl mm → StF en ns o R mgl mm rk → en ∈ o → Q .non H'
section
variable {P : PySem.Program} {w : World} {K : PySem.W.Frag} {mg : Str → Option Value} {base : Heap}
theorem scInit : FnScope ["self", "program", "graph", "order", "dominators", "label", "_", "target"] ["self", "program"] (defScope (mth 82 0)) := ⟨rfl, rfl, rfl, by decide +kernel, rfl, by decide +kernel, by decide +kernel⟩
theorem init_mak (T : Tx w K mg) : C8.Mak P w K mg base 5 "Structure" (He.ga K "Structure") (spInit K) [] := by
  have cS := str_cls T
  have n1 := str_no T (f := "program") (by decide +kernel)
  have n2 := str_no T (f := "retreating") (by decide +kernel)
  have n3 := str_no T (f := "headers") (by decide +kernel)
  have n4 := str_no T (f := "merging") (by decide +kernel)
  have n5 := str_no T (f := "merges") (by decide +kernel)
  have m_graph : C8.Met P w K mg base 1 (He.ga K "Program") "graph" (spGraph K) [] := graph_met T
  have m_forward_count : C8.Met P w K mg base 1 (He.ga K "Structure") "forward_count" (spFwd K) [] := fwd_met T
  have c_order_of : C8.Cal P w K mg base 2 "order_of" spOrder [] := order_cal T
  have c_strict_dominators : C8.Cal P w K mg base 3 "strict_dominators" spDom [] := dom_cal T
  have c_retreating_edges : C8.Cal P w K mg base 4 "retreating_edges" spRetr [] := retr_cal T
  refine mak T (i := 82) (j := 0) (q := "Structure.__init__") (by decide +kernel) (by decide +kernel) scInit (fun vs H Q E h => ?_) (fun _ _ _ _ _ _ us hl => match us, hl with | [_, _], _ => rfl) (fun cdv A outer s H vs Q E hr h => ?_)
  · obtain ⟨x, _, _, _, _, _, rfl, _⟩ := h
    rfl
  obtain ⟨x, pa, dx, H0, en, ns, rfl, hx0, s00, hx, hP0, ok, hne, hreach, q⟩ := h
  have hu := hu_of hr
  have hlen := ok.len
  have gok := ok.gr
  refine ⟨_, (pss_cons (ps_set (i := 2) scInit.nd rfl (.inl rfl) (C8.pe_mt0 (pl := L2.plainOf _ _) m_graph hr (by omega) (pv 1)))
(pss_cons (ps_set (i := 3) scInit.nd rfl (.inl rfl) (C8.pe_c c_order_of hr (by omega) rfl (pa_cons (pv 2) pa_nil)))
(pss_cons (ps_set (i := 4) scInit.nd rfl (.inl rfl) (C8.pe_c c_strict_dominators hr (by omega) rfl (pa_cons (pv 2) pa_nil)))
(pss_cons (ps_fld (pv 0) (pv 1) rfl)
(pss_cons (ps_fld (pv 0) (C8.pe_c c_retreating_edges hr (by omega) rfl (pa_cons (pv 2) pa_nil)) rfl)
(pss_cons (ps_fld (pv 0) (pe_lc (own := [("_", 6), ("target", 7)]) (g := gTup K 2 (gCons (gName 6) (gCons (gName 7) gNil))) (tt := tYes) (te := tVar 7) rfl scInit.nd (pi_list (pe_fld (pv 0) rfl)) (blkOk_by (N := ["self", "program", "graph", "order", "dominators", "label", "_", "target"]) (sc := defScope (mth 82 0)) (by decide +kernel)) (fun _ _ _ _ _ => pg_tup rfl (pgs_cons (pg_name (i := 6) scInit.nd rfl (.inl rfl)) (pgs_cons (pg_name (i := 7) scInit.nd rfl (.inl rfl)) pgs_nil))) (fun _ _ _ _ _ => pts_nil) (fun _ _ _ _ _ => pv 7)) rfl)
(pss_cons (ps_fld (pv 0) (pe_lc (own := [("label", 5)]) (g := gName 5) (tt := tTest (tOp (rI0 fun a b => .bl (decide (b ≤ a))) (tMeth (He.ga K "Structure") "forward_count" (spFwd K) [] C8.E0 (tVar 0) (tCons (tVar 5) tNil)) (tC (.int 2)))) (te := tVar 5) rfl scInit.nd (pi_tup (pv 3)) (blkOk_by (N := ["self", "program", "graph", "order", "dominators", "label", "_", "target"]) (sc := defScope (mth 82 0)) (by decide +kernel)) (fun _ _ _ _ _ => pg_name (i := 5) scInit.nd rfl (.inl rfl)) (fun _ _ _ _ _ => pts_one (pt_cmpR op_ge (C8.pe_mt (pl := L2.plainOf _ _) m_forward_count hr (by omega) (pv 0) (pa_cons (pv 5) pa_nil)) pe_int (nomark _))) (fun _ _ _ _ _ => pv 5)) rfl)
(pss_cons (ps_fld (pv 0) (pe_dc (own := [("label", 5)]) (g := gName 5) (tt := tYes) (tk := tVar 5) (tv := tLst tNil) rfl scInit.nd (pi_tup (pv 3)) (blkOk_by (N := ["self", "program", "graph", "order", "dominators", "label", "_", "target"]) (sc := defScope (mth 82 0)) (by decide +kernel)) (fun _ _ _ _ _ => pg_name (i := 5) scInit.nd rfl (.inl rfl)) (fun _ _ _ _ _ => pts_nil) (fun _ _ _ _ _ => pv 5) (fun _ _ _ _ _ => pe_lst pa_nil)) rfl)
(pss_one (ps_for PassesOwn.never rfl (pi_tup (pv 3)) (pg_name (i := 5) scInit.nd rfl (.inl rfl))
(pss_one (ps_if (pt_cmpR op_in_seq (pv 5) (pe_fld (pv 0) rfl) rfl)
(pss_one (ps_expr (pe_bm PySem.F.plainAttrs_list PySem.F.slot_list_append PySem.F.type_list_append mt_append (pe_dget hu (pe_fld (pv 0) rfl) (pe_ix ix_tup (pe_dget hu (pv 4) (pv 5) (fun _ _ => rfl)) (pe_un un_neg pe_int) (fun _ _ => rfl)) (fun _ _ => rfl)) (pa_cons (pv 5) pa_nil))))
pss_nil)))))))))))), ?_⟩
  have hP0' := hP0
  obtain ⟨dx2, fs2, t2, ts2, d2, kvs2, lt2, k1, ⟨k2, k3, k4, k5, k6, k7⟩, k8, k9, _⟩ := hP0'
  walk_at "go"
  refine r_me (s00 _ _ k1) k7 ?_
  walk_at "go"
  refine ⟨pa, en, ns, rfl, hP0.s s00, ok, fun gv H1 s1 hG => ?_⟩
  have s01 : Same H0 H1 := Same.trans s00 s1
  have hx1 := s1 _ _ hx
  walk_at "go"
  refine ⟨gv, en, _, _, rfl, hG, gok, fun p H2 o s2 hp io ho => ?_⟩
  have s02 : Same H0 H2 := Same.trans s01 s2
  have hx2 := s2 _ _ hx1
  have ol : o.length ≤ 8 := Nat.le_trans (io.nodup.length_le_of_subset fun x hx => ho x hx) (by simp; omega)
  walk_at "go"
  refine ⟨gv, en, _, _, rfl, hG.s s2, gok, fun d H3 oD kvD dmm s3 hd ioD hdm hdv => ?_⟩
  have s03 : Same H0 H3 := Same.trans s02 s3
  have hx3 := s3 _ _ hx2
  walk_at "go"
  refine r_sfl hx3 cS n1 (by decide) ?_
  have n34 : Sn H3 (upd H3 x (.ins (He.ga K "Structure") dx (putF "program" (.ref pa) []))) := Sn.upd hx3 _
  have s04 : Same H0 (upd H3 x (.ins (He.ga K "Structure") dx (putF "program" (.ref pa) []))) := Same.mut s03 hx0 _
  have hx4 : upd H3 x (.ins (He.ga K "Structure") dx (putF "program" (.ref pa) [])) x = some (.ins (He.ga K "Structure") dx (putF "program" (.ref pa) [])) := upd_same
  generalize upd H3 x (.ins (He.ga K "Structure") dx (putF "program" (.ref pa) [])) = H4 at n34 s04 hx4 ⊢
  walk_at "go"
  refine ⟨gv, en, _, _, rfl, (hG.s (Same.trans s2 s3)).sn n34, gok, fun rl H5 R s5 hrl hR => ?_⟩
  obtain ⟨hRl, oR, ioR, hoR, hRm⟩ := hR
  obtain ⟨rx, hrx, hrr⟩ := hrl
  have hprs := PrL.prs hrr
  have s05 : Same H0 H5 := Same.trans s04 s5
  have hx5 := s5 _ _ hx4
  walk_at "go"
  refine r_sfl hx5 cS n2 (Nat.lt_of_le_of_lt (lp lp0) (by decide)) ?_
  have n36 : Sn H3 (upd H5 x (.ins (He.ga K "Structure") dx (putF "retreating" (.ref rl) (putF "program" (.ref pa) [])))) := n34.trans ((Sn.of s5).trans (Sn.upd hx5 _))
  have n56 : Sn H5 (upd H5 x (.ins (He.ga K "Structure") dx (putF "retreating" (.ref rl) (putF "program" (.ref pa) [])))) := Sn.upd hx5 _
  have s06 : Same H0 (upd H5 x (.ins (He.ga K "Structure") dx (putF "retreating" (.ref rl) (putF "program" (.ref pa) [])))) := Same.mut s05 hx0 _
  have hx6 : upd H5 x (.ins (He.ga K "Structure") dx (putF "retreating" (.ref rl) (putF "program" (.ref pa) []))) x = some (.ins (He.ga K "Structure") dx (putF "retreating" (.ref rl) (putF "program" (.ref pa) []))) := upd_same
  generalize upd H5 x (.ins (He.ga K "Structure") dx (putF "retreating" (.ref rl) (putF "program" (.ref pa) []))) = H6 at n36 n56 s06 hx6 ⊢
  have hrx6 := n56.lst hrx
  have hprs6 := hprs.sn n56
  have lrx : rx.length = R.length := by rw [hrr.len, List.length_map]
  walk_at "go"
  refine r_fl hx6 cS n2 (by rfl) ?_
  refine ⟨rl, rfl, ⟨_, SqL.of hrx6⟩, fun hl nhl => lc_list (xs := rx) (fun i H' => Same H6 H' ∧ H' hl = some (.lst (((R.take i).map Prod.snd).map V.str))) ⟨Same.newo nhl _, by simp [upd_same]⟩ (fun i H' _ ⟨s7, _⟩ => SqL.of (s7 _ _ hrx6)) ?_ ?_⟩
  · rintro i y H' hi ⟨s7, hh⟩
    obtain ⟨z, hz, pp, rfl, hpp⟩ := paired_got hprs6 hi
    rw [List.getElem?_map] at hz
    cases er : R[i]? with
    | none => rw [er] at hz; simp at hz
    | some rp =>
    rw [er] at hz
    obtain rfl : at2 rp = z := by simpa using hz
    have hpp' := s7 _ _ hpp
    have il : i < R.length := (List.getElem?_eq_some_iff.mp er).1
    walk_at "go"
    refine ⟨rfl, ?_⟩
    walk_at "go"
    refine ⟨_, hh, szl (by simp; omega), Same.mut s7 nhl _, ?_⟩
    rw [upd_same, take_snoc er]
    simp [at2, Atm.v]
  rintro H7 ⟨s7, hhl⟩
  rw [lrx, List.take_length] at hhl
  have s07 : Same H0 H7 := Same.trans s06 s7
  have hx7 := s7 _ _ hx6
  walk_at "go"
  refine r_sfl hx7 cS n3 (Nat.lt_of_le_of_lt (lp (lp lp0)) (by decide)) ?_
  have n78 : Sn H7 (upd H7 x (.ins (He.ga K "Structure") dx (putF "headers" (.ref hl) (putF "retreating" (.ref rl) (putF "program" (.ref pa) []))))) := Sn.upd hx7 _
  have s08 : Same H0 (upd H7 x (.ins (He.ga K "Structure") dx (putF "headers" (.ref hl) (putF "retreating" (.ref rl) (putF "program" (.ref pa) []))))) := Same.mut s07 hx0 _
  have hx8 : upd H7 x (.ins (He.ga K "Structure") dx (putF "headers" (.ref hl) (putF "retreating" (.ref rl) (putF "program" (.ref pa) [])))) x = some (.ins (He.ga K "Structure") dx (putF "headers" (.ref hl) (putF "retreating" (.ref rl) (putF "program" (.ref pa) [])))) := upd_same
  generalize upd H7 x (.ins (He.ga K "Structure") dx (putF "headers" (.ref hl) (putF "retreating" (.ref rl) (putF "program" (.ref pa) [])))) = H8 at n78 s08 hx8 ⊢
  have n38 : Sn H3 H8 := n36.trans ((Sn.of s7).trans n78)
  have hp8 : H8 p = some (.tup (o.map V.str)) := n38.tup (s3 _ _ hp)
  have hrx8 := n78.lst (s7 _ _ hrx6)
  have hprs8 := (hprs6.s s7).sn n78
  have hhl8 := n78.lst hhl
  have hd8 := n38.dk hd
  have hstr : ∀ l ∈ lbs ns, PyData.strOk l = true := fun l hl => by obtain ⟨n, hn, rfl⟩ := nod_of hl; exact ok.ok n hn
  have rok : ∀ p ∈ R, PyData.strOk p.1 = true ∧ PyData.strOk p.2 = true := fun z hz => by
    obtain ⟨a, b⟩ := z
    obtain ⟨m1, m2, m3, m4⟩ := (hRm a b).mp hz
    have ha := hoR a m1
    exact ⟨hstr a ha, hstr b (gok.cl a ha b m2 m3)⟩
  generalize eRf : (fun s t => decide ((s, t) ∈ R) : Str → Str → Bool) = Rf
  generalize eF : (fun m => decide (2 ≤ fc (lbs ns) (tgOf ns) Rf m) : Str → Bool) = ff
  walk_at "go"
  refine ⟨p, rfl, ⟨_, SqT.of hp8⟩, fun ml nml => lc_tup (xs := o.map V.str) (fun i H' => Same H8 H' ∧ H' ml = some (.lst (((o.take i).filter ff).map V.str))) ⟨Same.newo nml _, by simp [upd_same]⟩ (fun i H' _ ⟨s9, _⟩ => SqT.of (s9 _ _ hp8)) ?_ ?_⟩
  · rintro i y H' hi ⟨s9, hh⟩
    obtain ⟨l, hl', rfl⟩ := map_str_get hi
    have il : i < o.length := (List.getElem?_eq_some_iff.mp hl').1
    have hlU := ho l (List.mem_of_getElem? hl')
    have tl : ((o.take i).filter ff).length ≤ 8 := Nat.le_trans (List.length_filter_le _ _) (Nat.le_trans (List.length_take_le' _ _) ol)
    have hx9 := s9 _ _ hx8
    walk_at "go"
    refine ⟨rfl, ?_⟩
    walk_at "go"
    refine r_me hx9 (by rfl) ?_
    walk_at "go"
    refine ⟨x, l, dx, _, pa, rl, rx, en, ns, R, rfl, hx9, by rfl, by rfl, hP0.s (Same.trans s08 s9), ok, s9 _ _ hrx8, hprs8.s s9, rok, hstr l hlU, fun H10 s10 => ?_⟩
    rw [eRf]
    walk_at "go"
    have efl : ff l = decide (2 ≤ fc (lbs ns) (tgOf ns) Rf l) := by rw [← eF]
    refine r_if2 (fun hc => ?_) (fun hc => ?_)
    · have hc' : ff l = true := by rw [efl]; have := of_decide_eq_true hc; exact decide_eq_true (by omega)
      walk_at "go"
      refine ⟨_, s10 _ _ hh, szl (by rw [List.length_map]; omega), Same.mut (Same.trans s9 s10) nml _, ?_⟩
      rw [upd_same, take_snoc hl', List.filter_append]
      simp [hc']
    · have hc' : ff l = false := by rw [efl]; have := of_decide_eq_false hc; exact decide_eq_false (by omega)
      refine ⟨Same.trans s9 s10, ?_⟩
      rw [take_snoc hl', List.filter_append, s10 _ _ hh]
      simp [hc']
  rintro H9 ⟨s9, hml⟩
  rw [List.length_map, List.take_length] at hml
  generalize eM : o.filter ff = mgl at hml
  have s09 : Same H0 H9 := Same.trans s08 s9
  have hx9 := s9 _ _ hx8
  walk_at "go"
  refine r_sfl hx9 cS n4 (Nat.lt_of_le_of_lt (lp (lp (lp lp0))) (by decide)) ?_
  have n9a : Sn H9 (upd H9 x (.ins (He.ga K "Structure") dx (putF "merging" (.ref ml) (putF "headers" (.ref hl) (putF "retreating" (.ref rl) (putF "program" (.ref pa) [])))))) := Sn.upd hx9 _
  have s0a : Same H0 (upd H9 x (.ins (He.ga K "Structure") dx (putF "merging" (.ref ml) (putF "headers" (.ref hl) (putF "retreating" (.ref rl) (putF "program" (.ref pa) [])))))) := Same.mut s09 hx0 _
  have hxa : upd H9 x (.ins (He.ga K "Structure") dx (putF "merging" (.ref ml) (putF "headers" (.ref hl) (putF "retreating" (.ref rl) (putF "program" (.ref pa) []))))) x = some (.ins (He.ga K "Structure") dx (putF "merging" (.ref ml) (putF "headers" (.ref hl) (putF "retreating" (.ref rl) (putF "program" (.ref pa) []))))) := upd_same
  generalize upd H9 x (.ins (He.ga K "Structure") dx (putF "merging" (.ref ml) (putF "headers" (.ref hl) (putF "retreating" (.ref rl) (putF "program" (.ref pa) []))))) = Ha at n9a s0a hxa ⊢
  have n8a : Sn H8 Ha := (Sn.of s9).trans n9a
  have n3a : Sn H3 Ha := n38.trans n8a
  have hpa := n8a.tup hp8
  walk_at "go"
  refine ⟨p, rfl, ⟨_, SqT.of hpa⟩, fun fd nfd => dc_tup (xs := o.map V.str) (fun i H' => ∃ ad, Same Ha H' ∧ DLs Ha H' fd (o.take i) ad (fun _ => []))
    ⟨fun _ => 0, Same.newo nfd _, upd_same, by simp, by simp⟩ (fun i H' _ ⟨_, s2, _⟩ => SqT.of (s2 _ _ hpa)) ?_ ?_⟩
  · rintro i y H' hi ⟨ad, s2, hD1, hD2, hD3⟩
    obtain ⟨l, hl', rfl⟩ := map_str_get hi
    have hnt := not_take io.nodup hl'
    walk_at "go"
    refine ⟨rfl, ?_⟩
    walk_at "go"
    refine ⟨Nat.zero_le _, fun p2 n2 => ?_⟩
    have n20 : Ha p2 = none := fb s2 n2
    have fp2 : fd ≠ p2 := ne_of_none hD1 n2
    have nadp : ∀ l ∈ o.take i, ad l ≠ p2 := fun l hl => ne_of_none (hD2 l hl).1 n2
    have nadf : ∀ l ∈ o.take i, ad l ≠ fd := fun l hl => ne_of (hD2 l hl).1 hD1 (by intro z; cases z)
    refine ⟨_, Sum.inr l, rfl, up_new hD1 n2 _, szl (by rw [List.length_map, List.length_take]; omega), fun z => if z = l then p2 else ad z, Same.mut (Same.trans s2 (Same.newo n2 _)) nfd _, ?_, ?_, ?_⟩
    · rw [upd_same, put_keys_new _ (dv_map_none hnt), take_snoc hl', List.map_append]
      have e1 : (o.take i).map (fun z => ((Sum.inr z : Key), V.ref (if z = l then p2 else ad z))) = (o.take i).map fun z => ((Sum.inr z : Key), V.ref (ad z)) := List.map_congr_left fun z hz => by rw [if_neg (fun e => hnt (by rw [← e]; exact hz))]
      rw [e1, List.map_cons, List.map_nil]
      simp only [if_true]
    · intro z hz
      (try dsimp only)
      rw [take_snoc hl'] at hz
      rcases List.mem_append.mp hz with hz | hz
      · rw [if_neg (fun e => hnt (by rw [← e]; exact hz)), upd_ne (nadf z hz), upd_ne (nadp z hz)]
        exact hD2 z hz
      · have : z = l := by simpa using hz
        subst this
        rw [if_pos rfl, upd_ne fp2.symm, upd_same]
        exact ⟨rfl, n20⟩
    · intro z hz m hm
      (try dsimp only)
      rw [take_snoc hl'] at hz hm
      rcases List.mem_append.mp hz with hz | hz <;> rcases List.mem_append.mp hm with hm | hm
      · rw [if_neg (fun e => hnt (by rw [← e]; exact hz)), if_neg (fun e => hnt (by rw [← e]; exact hm))]
        exact hD3 z hz m hm
      · rw [if_neg (fun e => hnt (by rw [← e]; exact hz)), if_pos (by simpa using hm)]
        exact fun e => absurd e (nadp z hz)
      · rw [if_pos (show z = l by simpa using hz), if_neg (fun e => hnt (by rw [← e]; exact hm))]
        exact fun e => absurd e.symm (nadp m hm)
      · exact fun _ => (show z = l by simpa using hz).trans (show m = l by simpa using hm).symm
  rintro Hb ⟨ad, sab, hD⟩
  rw [List.length_map, List.take_length] at hD
  have hxb := sab _ _ hxa
  walk_at "go"
  refine r_sfl hxb cS n5 (Nat.lt_of_le_of_lt (lp (lp (lp (lp lp0)))) (by decide)) ?_
  generalize efs : putF "merges" (.ref fd) (putF "merging" (.ref ml) (putF "headers" (.ref hl) (putF "retreating" (.ref rl) (putF "program" (.ref pa) ([] : List (Str × V)))))) = fs5
  have nbc : Sn Hb (upd Hb x (.ins (He.ga K "Structure") dx fs5)) := Sn.upd hxb _
  have s0c : Same H0 (upd Hb x (.ins (He.ga K "Structure") dx fs5)) := Same.mut (Same.trans s0a sab) hx0 _
  have hxc : upd Hb x (.ins (He.ga K "Structure") dx fs5) x = some (.ins (He.ga K "Structure") dx fs5) := upd_same
  generalize upd Hb x (.ins (He.ga K "Structure") dx fs5) = Hc at nbc s0c hxc ⊢
  have nac : Sn Ha Hc := (Sn.of sab).trans nbc
  have n3c : Sn H3 Hc := n3a.trans nac
  have hpc := nac.tup hpa
  have hdc := n3c.dk hd
  have hmlc := nac.lst (n9a.lst hml)
  have hDc : DLs Ha Hc fd o ad (fun _ => []) := ⟨nbc.dk hD.1, fun l hl => ⟨nbc.lst (hD.2.1 l hl).1, (hD.2.1 l hl).2⟩, hD.2.2⟩
  have ofs : fl fs5 "program" = some (.ref pa) ∧ fl fs5 "retreating" = some (.ref rl) ∧ fl fs5 "headers" = some (.ref hl) ∧ fl fs5 "merging" = some (.ref ml) ∧ fl fs5 "merges" = some (.ref fd) := by
    rw [← efs]; exact ⟨rfl, rfl, rfl, rfl, rfl⟩
  have ofs' : fl fs5 "forward_count" = none ∧ fl fs5 "code" = none ∧ fl fs5 "inner_code" = none ∧ fl fs5 "own_code" = none ∧ fl fs5 "edge_code" = none := by
    rw [← efs]; exact ⟨rfl, rfl, rfl, rfl, rfl⟩
  -- the mathematics
  have mm1 : ∀ {o1 o2 : List Str}, IsOrder en "exit" (tgOf ns) o1 → IsOrder en "exit" (tgOf ns) o2 → ∀ x, x ∈ o1 ↔ x ∈ o2 := fun h1 h2 x => ⟨fun h => h1.mem_of h2 (fun _ _ => rfl) h, fun h => h2.mem_of h1 (fun _ _ => rfl) h⟩
  obtain ⟨oq, ioq, hoq⟩ := hreach
  have hons : ∀ x, x ∈ lbs ns ↔ x ∈ o := fun x => ⟨fun h => (mm1 ioq io x).mp (hoq x h), fun h => ho x h⟩
  have hRf : ∀ s ∈ o, ∀ t ∈ tgOf ns s, t ≠ "exit" → (Rf s t = true ↔ place oR t ≤ place oR s) := by
    intro s hs t ht hte
    rw [← eRf, decide_eq_true_eq, hRm]
    exact ⟨fun h => h.2.2.2, fun h => ⟨(mm1 io ioR s).mp hs, ht, hte, h⟩⟩
  have hmgf : ∀ m, decide (m ∈ mgl) = true ↔ m ∈ o ∧ 2 ≤ fc (lbs ns) (tgOf ns) Rf m := by
    intro m
    rw [decide_eq_true_eq, ← eM, List.mem_filter, ← eF, decide_eq_true_eq]
  have hen0 := entry_no' ioR hne hons hRf hmgf
  generalize eD : (fun m => (dmm m).getLast?.getD "" : Str → Str) = dml
  have hdml : ∀ m ∈ o, m ≠ en → ∃ r, dmm m = r ++ [dml m] := by
    intro m hm hme
    have h0 := hdm.some_ m ((mm1 io ioD m).mp hm) hme
    refine ⟨(dmm m).dropLast, ?_⟩
    have e1 : dml m = (dmm m).getLast?.getD "" := by rw [← eD]
    rw [e1, List.getLast?_eq_some_getLast h0]
    exact (List.dropLast_concat_getLast h0).symm
  have hmne : ∀ m, decide (m ∈ mgl) = true → m ≠ en := fun m hm e => by rw [e, hen0] at hm; cases hm
  have S : Struc en "exit" (tgOf ns) (lbs ns) o oR Rf (fun m => decide (m ∈ mgl)) dml := by
    refine ⟨io, ioR, hne, hons, hRf, hmgf, fun m hm => ?_⟩
    have hmo := ((hmgf m).mp hm).1
    obtain ⟨r, er⟩ := hdml m hmo (hmne m hm)
    obtain ⟨hd1, hd2, Rr, hR1, hR2, hR3⟩ := hdm.by_ m ((mm1 io ioD m).mp hmo) (dml m) (by rw [er]; simp)
    exact ⟨(mm1 io ioD _).mpr hd1, ioR.dom hR1 hR2 ((mm1 io ioR m).mp hmo) hd2 hR3⟩
  have FF : StF en ns o R mgl (mergesOf o (fun m => decide (m ∈ mgl)) dml) (place oR) := by
    refine ⟨ok, fun x => (hons x).symm, ol, ?_, fun l _ m hm => ?_, rok⟩
    · have := S.tree
      rw [← eRf] at this
      exact this
    · have := (mem_merges.mp hm).2.1
      exact of_decide_eq_true this
  have heo : en ∈ o := io.entry hne
  walk_at "go"
  refine ⟨p, rfl, ⟨_, SqT.of hpc⟩, for_tup (xs := o.map V.str) (fun i σ H' => (∃ z5 z6 z7, σ = [some (.ref x), some (.ref pa), some gv, some (.ref p), some (.ref d), z5, z6, z7]) ∧ Same H0 H' ∧ Sn Ha H' ∧ H' x = some (.ins (He.ga K "Structure") dx fs5) ∧
      DLs Ha H' fd o ad (fun l => mergesOf (o.take i) (fun m => decide (m ∈ mgl)) dml l))
    ⟨⟨_, _, _, rfl⟩, s0c, nac, hxc, by simpa [mergesOf] using hDc⟩ (fun i σ H' _ ⟨_, _, n8', _⟩ => SqT.of (n8'.tup hpa)) ?_ ?_⟩
  · rintro i y σ H' hi ⟨⟨z5, z6, z7, rfl⟩, s0', na', hx', hD'⟩
    obtain ⟨m, hm, rfl⟩ := map_str_get hi
    have hmo : m ∈ o := List.mem_of_getElem? hm
    have hml' := na'.lst (n9a.lst hml)
    have sn : ∀ l, mergesOf (o.take (i + 1)) (fun m => decide (m ∈ mgl)) dml l = mergesOf (o.take i) (fun m => decide (m ∈ mgl)) dml l ++ (if (decide (m ∈ mgl) && decide (dml m = l)) = true then [m] else []) := fun l => by
      rw [take_snoc hm, merges_snoc]
    walk_at "go"
    refine r_fl hx' cS n4 ofs.2.2.2.1 ?_
    refine r_inLs hml' ?_
    walk_at "go"
    refine r_if2 (fun hc => ?_) (fun hc => ?_)
    · obtain ⟨r, er⟩ := hdml m hmo (hmne m hc)
      obtain ⟨tt, htt1, htt2⟩ := hdv m ((mm1 io ioD m).mp hmo)
      have htt2' := na'.tup (n3a.tup htt2)
      rw [er, List.map_append] at htt2'
      have hdo := (S.hdm m hc).1
      obtain ⟨hF, hA⟩ := hD'.2.1 (dml m) hdo
      have adx : ad (dml m) ≠ x := ne_of hF hx' (by intro z; cases z)
      have adf : ad (dml m) ≠ fd := ne_of hF hD'.1 (by intro z; cases z)
      have hlm : (mergesOf (o.take i) (fun m => decide (m ∈ mgl)) dml (dml m)).length ≤ 8 := Nat.le_trans (List.length_filter_le _ _) (Nat.le_trans (List.length_take_le' _ _) ol)
      have hA0 : H0 (ad (dml m)) = none := fb s0a hA
      walk_at "go"
      refine r_fl hx' cS n5 ofs.2.2.2.2 ?_
      walk_at "go"
      refine r_dg (na'.dk (n3a.dk hd)) htt1 ?_
      walk_at "go"
      refine r_ixTm1 (v := .str (dml m)) htt2' ?_
      refine r_dg hD'.1 (dv_map hdo) ?_
      walk_at "go"
      refine ⟨⟨_, _, _, rfl⟩, Same.mut s0' hA0 _, na'.mut hA _, by rw [upd_ne adx.symm]; exact hx', by rw [upd_ne adf.symm]; exact hD'.1, fun l hl => ?_, hD'.2.2⟩
      (try dsimp only)
      rw [sn l]
      by_cases e : l = dml m
      · subst e
        rw [upd_same, if_pos (by simp [hc]), List.map_append]
        exact ⟨rfl, hA⟩
      · rw [upd_ne (fun q => e (hD'.2.2 l hl _ hdo q)), if_neg (by simp; exact fun _ q => e q.symm), List.append_nil]
        exact hD'.2.1 l hl
    · walk_at "go"
      refine ⟨⟨_, _, _, rfl⟩, s0', na', hx', hD'.1, fun l hl => ?_, hD'.2.2⟩
      (try dsimp only)
      have hcm : m ∉ mgl := of_decide_eq_false hc
      rw [sn l, if_neg (by simp [hcm]), List.append_nil]
      exact hD'.2.1 l hl
  · rintro σ H' ⟨⟨z5, z6, z7, rfl⟩, s0', na', hx', hD'⟩
    rw [List.length_map, List.take_length] at hD'
    walk_at "go"
    exact q H' o R _ mgl _ _ s0' ⟨dx, fs5, pa, rl, rx, hl, ml, fd, _, hx', ofs, ofs', hP0.s s0', na'.lst (n8a.lst hrx8), (hprs8.sn n8a).sn na', na'.lst (n8a.lst hhl8), na'.lst (n9a.lst hml), hD'.1,
      fun l hl => ⟨ad l, dv_map ((hons l).mp hl), (hD'.2.1 l ((hons l).mp hl)).1⟩⟩ FF heo
end
end K5
end

section
set_option linter.all false
set_option maxRecDepth 100000
/-! structured. -/
namespace K5
open PySem PySem.Spec PyProof.Rows L2 MG MT MS
/- steps -/
local macro_rules | `(tactic| walk_at "sm") => `(tactic| first | assumption | exact Same.refl _ | (refine Same.mut ?_ (by assumption) _; walk_at "sm") | (refine Same.trans ?_ (Same.newo (by assumption) _); walk_at "sm") | (refine Same.trans ?_ (by assumption); walk_at "sm"))
local macro_rules | `(tactic| walk_at "hp") => `(tactic| first | assumption | exact upd_same | (refine up_new ?_ (by assumption) _; walk_at "hp") | (refine Same.up ?_ (by assumption) (by assumption); walk_at "sm") | (refine Same.look (by assumption) ?_; walk_at "hp"))
local macro_rules | `(tactic| walk_at "rep") => `(tactic| first | assumption | exact str_rep | exact int_rep | exact non_rep | (refine' Rep.s ?s ?h; (case h => assumption); (case s => walk_at "sm")))
local macro_rules | `(tactic| walk_at "if") => `(tactic| first | ((with_reducible refine' r_ifT ?e ?_); (case e => decide +kernel)) | ((with_reducible refine' r_ifF ?e ?_); (case e => decide +kernel)))
local macro_rules | `(tactic| walk_at "sz") => `(tactic| first | omega | decide | (simp only [List.length_map, List.length_append, List.length_cons, List.length_nil, List.length_take]; omega))
local macro_rules | `(tactic| walk_at "s") => `(tactic| first
  | with_reducible refine r_seq ?_ | with_reducible refine r_set ?_ | with_reducible refine r_asg ?_ | with_reducible refine r_ret ?_ | with_reducible refine r_drop ?_ | with_reducible refine r_next ?_ | with_reducible refine r_cont ?_ | with_reducible refine r_brk ?_
  | with_reducible refine r_if ?_ | with_reducible refine r_test ?_ | with_reducible refine r_tB ?_ | with_reducible refine r_bl ?_ | with_reducible refine r_and ?_ | with_reducible refine r_or ?_ | with_reducible refine r_not ?_
  | ((with_reducible refine' r_var ?e ?_); (case e => rfl)) | with_reducible refine r_c ?_ | with_reducible refine r_op ?_ | with_reducible refine r_un ?_ | with_reducible refine r_ifx ?_ | with_reducible refine r_andV ?_ | with_reducible refine r_orV ?_ | with_reducible refine r_notV ?_
  | with_reducible refine r_nil ?_ | with_reducible refine r_cons ?_ | with_reducible refine r_cb ?_ | with_reducible refine r_bm ?_ | with_reducible refine r_bm0 ?_ | with_reducible refine r_lst ?_ | with_reducible refine r_tup ?_ | with_reducible refine r_call ?_
  | with_reducible refine r_lc ?_ | with_reducible refine r_dc ?_ | with_reducible refine r_for ?_ | with_reducible refine r_iTup ?_ | with_reducible refine r_iList ?_ | with_reducible refine r_iEnum ?_ | with_reducible refine r_iRng1 ?_
  | with_reducible refine r_sl ?_ | with_reducible refine r_part ?_ | with_reducible refine r_nop ?_ | with_reducible refine r_int ?_ | with_reducible refine r_then ?_ | with_reducible refine r_yes ?_
  | with_reducible refine r_gname ?_ | with_reducible refine r_gcons ?_ | with_reducible refine r_gnil ?_
  | ((with_reducible refine' r_eq ?e ?_); (case e => rfl)) | ((with_reducible refine' r_ne ?e ?_); (case e => rfl)) | with_reducible refine r_I0 ?_
  | ((with_reducible refine' r_ixT0 ?e ?f ?_); (case e => walk_at "hp"); (case f => rfl)) | ((with_reducible refine' r_ixT1 ?e ?f ?_); (case e => walk_at "hp"); (case f => rfl)) | ((with_reducible refine' r_ixT2 ?e ?f ?_); (case e => walk_at "hp"); (case f => rfl)) | ((with_reducible refine' r_ixT3 ?e ?f ?_); (case e => walk_at "hp"); (case f => rfl)) | ((with_reducible refine' r_ixT4 ?e ?f ?_); (case e => walk_at "hp"); (case f => rfl)) | ((with_reducible refine' r_ixL0 ?e ?f ?_); (case e => walk_at "hp"); (case f => rfl)) | ((with_reducible refine' r_ixL1 ?e ?f ?_); (case e => walk_at "hp"); (case f => rfl)) | ((with_reducible refine' r_ixL2 ?e ?f ?_); (case e => walk_at "hp"); (case f => rfl)) | ((with_reducible refine' r_ixL3 ?e ?f ?_); (case e => walk_at "hp"); (case f => rfl)) | ((with_reducible refine' r_ixL4 ?e ?f ?_); (case e => walk_at "hp"); (case f => rfl))
  | ((with_reducible refine' r_ixT ?e ?f ?_); (case e => walk_at "hp"); (case f => rfl)) | ((with_reducible refine' r_ixL ?e ?f ?_); (case e => walk_at "hp"); (case f => rfl))
  | ((with_reducible refine' r_append ?e ?f ?_); (case e => walk_at "hp"); (case f => walk_at "sz")) | ((with_reducible refine' r_extend ?e ?e2 ?f ?_); (case e => walk_at "hp"); (case e2 => walk_at "hp"); (case f => walk_at "sz"))
  | with_reducible refine r_fldE ?_ | with_reducible refine r_methE ?_ | with_reducible refine r_make ?_ | with_reducible refine r_sfld ?_ | with_reducible refine r_iEnumT ?_
  | with_reducible refine r_dgetE ?_ | with_reducible refine r_dinE ?_ | with_reducible refine r_dninE ?_ | with_reducible refine r_dputE ?_ | with_reducible refine r_dnew ?_ | with_reducible refine r_neg ?_
  | ((with_reducible refine' r_truL ?e ?_); (case e => walk_at "hp"))
  | ((with_reducible refine' r_gtup ?e ?f ?_); (case e => walk_at "hp"); (case f => rfl))
  | ((with_reducible refine' r_tyL ?e ?_); (case e => walk_at "hp")) | walk_at "if")
local macro_rules | `(tactic| walk_at "go") => `(tactic| repeat walk_at "s")
/- steps end -/
/-- the exception -/
structure Ex (K : PySem.W.Frag) (mg : Str → Option Value) : Prop where
  g : mg "NotReducible" = some (.ref (He.ga K "NotReducible"))
  exc : PySem.W.excIn K (He.ga K "NotReducible") He.veBase "ValueError.__new__" = true
  kp : PySem.W.keepIn K (.ref (He.ga K "NotReducible")) = true
  sub : PySem.W.subIn K (.ref (He.ga K "NotReducible")) (.type "BaseException") = some true
  ty : PySem.W.typeIn K (.ref (He.ga K "NotReducible")) = some (.type "type")
  exm : PySem.W.exmOne K (.ref (He.ga K "NotReducible")) (.ref (He.ga K "NotReducible")) = some true
/-- the program has just the nodes that the entry reaches -/
def Rch (en : Str) (ns : List Nod) : Prop := ∃ o, IsOrder en "exit" (tgOf ns) o ∧ ∀ l ∈ lbs ns, l ∈ o
def spStruct (K : PySem.W.Frag) : Sp := fun vs H Q E => ∃ (a : Addr) (en : Str) (ns : List Nod), vs = [.ref a] ∧ PrAt K H a en ns ∧ NsOk en ns ∧ Rch en ns ∧
  (∀ H', Same H H' → E (.ref (He.ga K "NotReducible")) none H') ∧
  ∀ v H' b, Same H H' → Bd H' b v → (labs b).Nodup → (∀ x, x ∈ labs b ↔ x ∈ lbs ns) → deps b ≤ 90 → okB b = true → Q v H'
section
variable {P : PySem.Program} {w : World} {K : PySem.W.Frag} {mg : Str → Option Value} {base : Heap}
theorem scStruct : FnScope ["program"] ["program"] (defScope (top 83)) := ⟨rfl, rfl, rfl, by decide +kernel, rfl, by decide +kernel, by decide +kernel⟩
theorem struct_fn (T : Tx w K mg) (X : Ex K mg) {fd : FuncData} (F : FunD K "structured" "structured" (defArgs (top 83)) (defBody (top 83)) (defScope (top 83)) [] [] (He.ga K "structured") fd) : FnOk P w K mg base (L2.CX P w) 138 (He.ga K "structured") fd ["program"] (spStruct K) := by
  have cP := prog_cls T
  have n1 := prog_no T (f := "entry") (by decide +kernel)
  have g_EXIT := gstr T (x := "EXIT") (z := "exit") (by decide +kernel)
  have m_graph : C8.Met P w K mg base 1 (He.ga K "Program") "graph" (spGraph K) [] := graph_met T
  have m_code : C8.Met P w K mg base 137 (He.ga K "Structure") "code" (spCode K 9) [] := code_met T 9
  have k_Structure : C8.Mak P w K mg base 5 "Structure" (He.ga K "Structure") (spInit K) [] := init_mak T
  have c_is_reducible : C8.Cal P w K mg base 6 "is_reducible" spRed [] := red_cal T
  refine F.ok (k := 137) scStruct (fun vs H Q E h => ?_) (fun cdv A outer s H vs Q E hr h => ?_)
  · obtain ⟨a, _, _, rfl, _⟩ := h
    rfl
  obtain ⟨a, en, ns, rfl, hP, ok, hre, qE, q⟩ := h
  refine ⟨_, (pss_cons (ps_if (pt_not (pt_val (C8.pe_c c_is_reducible hr (by omega) rfl (pa_cons (C8.pe_mt0 (pl := L2.plainOf _ _) m_graph hr (by omega) (pv 0)) pa_nil))))
(pss_one (ps_raise rfl (takes_of rfl rfl rfl rfl) (pmk_own PySem.F.excBase_ValueError X.exc X.g X.kp (raises_own X.sub X.ty) rfl)))
pss_nil)
(pss_cons (ps_if (pt_cmpR op_eq (pe_fld (pv 0) rfl) (C8.pe_gc rfl g_EXIT) (nomark _))
(pss_one (ps_ret (pe_tup pa_nil)))
pss_nil)
(pss_one (ps_ret (C8.pe_mt (pl := L2.plainOf _ _) m_code hr (by omega) (C8.pe_mk k_Structure hr (by omega) rfl (pa_cons (pv 0) pa_nil)) (pa_cons (pe_fld (pv 0) rfl) (pa_cons (C8.pe_gc rfl g_EXIT) pa_nil))))))), ?_⟩
  have hP' := hP
  obtain ⟨dx2, fs2, t2, ts2, d2, kvs2, lt2, k1, ⟨k2, k3, k4, k5, k6, k7⟩, k8, k9, _⟩ := hP'
  walk_at "go"
  refine r_me k1 k7 ?_
  walk_at "go"
  refine ⟨a, en, ns, rfl, hP, ok, fun gv H1 s1 hG => ?_⟩
  walk_at "go"
  refine ⟨gv, en, _, _, rfl, hG, ok.gr, fun b H2 s2 => ?_⟩
  have s12 : Same H H2 := Same.trans s1 s2
  walk_at "go"
  refine r_if2 (fun hb => ?_) (fun hb => ?_)
  · exact qE H2 s12
  walk_at "go"
  refine r_fl (s12 _ _ k1) cP n1 k2 ?_
  walk_at "go"
  refine r_if2 (fun hc => ?_) (fun hc => ?_)
  · have he : en = "exit" := V.str.inj (of_decide_eq_true hc)
    obtain ⟨o, io, ho⟩ := hre
    have h0 : o = [] := io.empty he
    have hn : ∀ x, x ∉ lbs ns := fun x hx => by have := ho x hx; rw [h0] at this; simp at this
    walk_at "go"
    refine ⟨Nat.zero_le _, fun p np => q _ _ [] (Same.trans s12 (Same.newo np _)) (rep_new np reps_nil) (by simp [labs]) (fun x => ?_) (by simp [deps]) rfl⟩
    simp only [labs, List.not_mem_nil, false_iff]
    exact hn x
  have he : en ≠ "exit" := fun e => by rw [e] at hc; simp at hc
  walk_at "go"
  intro x dx nx ndx hdx
  have sX : Same H (upd (upd H2 dx (.own x)) x (.ins (He.ga K "Structure") dx [])) := by
    refine Same.trans s12 (Same.trans (Same.newo ndx (.own x)) (Same.newo ?_ _))
    rw [upd_ne hdx.symm]; exact nx
  refine ⟨x, a, dx, H2, en, ns, rfl, nx, ?_, upd_same, hP.s s12, ok, he, hre, fun H3 o R hs mgl mm rk s3 hst F2 heo => ?_⟩
  · refine Same.trans (Same.newo ndx (.own x)) (Same.newo ?_ _)
    rw [upd_ne hdx.symm]; exact nx
  have s13 : Same H H3 := Same.trans s12 s3
  obtain ⟨dx4, fs4, pa4, rl4, rx4, hl4, ml4, d4, kvs4, h41, ⟨f1, f2, f3, f4, f5⟩, ⟨e1, e2, e3, e4, e5⟩, _⟩ := id hst
  refine ⟨rfl, ?_⟩
  refine r_me h41 e2 ?_
  walk_at "go"
  refine r_fl (s13 _ _ k1) cP n1 k2 ?_
  walk_at "go"
  have hol := F2.ol
  refine ⟨x, en, "exit", en, ns, o, R, hs, mgl, mm, rk, rfl, ⟨hst, F2, heo, by omega, Nat.le_refl _, .inl rfl⟩, fun v H4 b s4 hb q1 q2 q3 q4 => ?_⟩
  refine q v H4 b (Same.trans s13 s4) hb ?_ (fun z => ?_) q2 q4
  · rw [q1]; exact F2.tr.nodup 9 en heo
  · rw [q1]
    constructor
    · exact fun hz => (F2.ho z).mp (F2.tr.sub 9 en heo z hz).1
    · exact fun hz => F2.tr.everything heo (by omega) _ z rfl ((F2.ho z).mpr hz)
end
end K5
end

section
set_option linter.all false
set_option maxRecDepth 100000
/-! _law_scopes. -/
namespace K5
open PySem PySem.Spec PyProof.Rows L2 MT
/- steps -/
local macro_rules | `(tactic| walk_at "sm") => `(tactic| first | assumption | exact Same.refl _ | (refine Same.mut ?_ (by assumption) _; walk_at "sm") | (refine Same.trans ?_ (Same.newo (by assumption) _); walk_at "sm") | (refine Same.trans ?_ (by assumption); walk_at "sm"))
local macro_rules | `(tactic| walk_at "hp") => `(tactic| first | assumption | exact upd_same | (refine up_new ?_ (by assumption) _; walk_at "hp") | (refine Same.up ?_ (by assumption) (by assumption); walk_at "sm") | (refine Same.look (by assumption) ?_; walk_at "hp"))
local macro_rules | `(tactic| walk_at "rep") => `(tactic| first | assumption | exact str_rep | exact int_rep | exact non_rep | (refine' Rep.s ?s ?h; (case h => assumption); (case s => walk_at "sm")))
local macro_rules | `(tactic| walk_at "if") => `(tactic| first | ((with_reducible refine' r_ifT ?e ?_); (case e => decide +kernel)) | ((with_reducible refine' r_ifF ?e ?_); (case e => decide +kernel)))
local macro_rules | `(tactic| walk_at "sz") => `(tactic| first | omega | decide | (simp only [List.length_map, List.length_append, List.length_cons, List.length_nil, List.length_take]; omega))
local macro_rules | `(tactic| walk_at "s") => `(tactic| first
  | with_reducible refine r_seq ?_ | with_reducible refine r_set ?_ | with_reducible refine r_asg ?_ | with_reducible refine r_ret ?_ | with_reducible refine r_drop ?_ | with_reducible refine r_next ?_ | with_reducible refine r_cont ?_ | with_reducible refine r_brk ?_
  | with_reducible refine r_if ?_ | with_reducible refine r_test ?_ | with_reducible refine r_tB ?_ | with_reducible refine r_bl ?_ | with_reducible refine r_and ?_ | with_reducible refine r_or ?_ | with_reducible refine r_not ?_
  | ((with_reducible refine' r_var ?e ?_); (case e => rfl)) | with_reducible refine r_c ?_ | with_reducible refine r_op ?_ | with_reducible refine r_un ?_ | with_reducible refine r_ifx ?_ | with_reducible refine r_andV ?_ | with_reducible refine r_orV ?_ | with_reducible refine r_notV ?_
  | with_reducible refine r_nil ?_ | with_reducible refine r_cons ?_ | with_reducible refine r_cb ?_ | with_reducible refine r_bm ?_ | with_reducible refine r_bm0 ?_ | with_reducible refine r_lst ?_ | with_reducible refine r_tup ?_ | with_reducible refine r_call ?_
  | with_reducible refine r_lc ?_ | with_reducible refine r_dc ?_ | with_reducible refine r_for ?_ | with_reducible refine r_iTup ?_ | with_reducible refine r_iList ?_ | with_reducible refine r_iEnum ?_ | with_reducible refine r_iRng1 ?_
  | with_reducible refine r_sl ?_ | with_reducible refine r_part ?_ | with_reducible refine r_nop ?_ | with_reducible refine r_int ?_ | with_reducible refine r_then ?_ | with_reducible refine r_yes ?_
  | with_reducible refine r_gname ?_ | with_reducible refine r_gcons ?_ | with_reducible refine r_gnil ?_
  | ((with_reducible refine' r_eq ?e ?_); (case e => rfl)) | ((with_reducible refine' r_ne ?e ?_); (case e => rfl)) | with_reducible refine r_I0 ?_
  | ((with_reducible refine' r_ixT0 ?e ?f ?_); (case e => walk_at "hp"); (case f => rfl)) | ((with_reducible refine' r_ixT1 ?e ?f ?_); (case e => walk_at "hp"); (case f => rfl)) | ((with_reducible refine' r_ixT2 ?e ?f ?_); (case e => walk_at "hp"); (case f => rfl)) | ((with_reducible refine' r_ixT3 ?e ?f ?_); (case e => walk_at "hp"); (case f => rfl)) | ((with_reducible refine' r_ixT4 ?e ?f ?_); (case e => walk_at "hp"); (case f => rfl)) | ((with_reducible refine' r_ixL0 ?e ?f ?_); (case e => walk_at "hp"); (case f => rfl)) | ((with_reducible refine' r_ixL1 ?e ?f ?_); (case e => walk_at "hp"); (case f => rfl)) | ((with_reducible refine' r_ixL2 ?e ?f ?_); (case e => walk_at "hp"); (case f => rfl)) | ((with_reducible refine' r_ixL3 ?e ?f ?_); (case e => walk_at "hp"); (case f => rfl)) | ((with_reducible refine' r_ixL4 ?e ?f ?_); (case e => walk_at "hp"); (case f => rfl))
  | ((with_reducible refine' r_ixT ?e ?f ?_); (case e => walk_at "hp"); (case f => rfl)) | ((with_reducible refine' r_ixL ?e ?f ?_); (case e => walk_at "hp"); (case f => rfl))
  | ((with_reducible refine' r_append ?e ?f ?_); (case e => walk_at "hp"); (case f => walk_at "sz")) | ((with_reducible refine' r_extend ?e ?e2 ?f ?_); (case e => walk_at "hp"); (case e2 => walk_at "hp"); (case f => walk_at "sz"))
  | with_reducible refine r_fldE ?_ | with_reducible refine r_methE ?_ | with_reducible refine r_make ?_ | with_reducible refine r_sfld ?_ | with_reducible refine r_iEnumT ?_
  | with_reducible refine r_dgetE ?_ | with_reducible refine r_dinE ?_ | with_reducible refine r_dninE ?_ | with_reducible refine r_dputE ?_ | with_reducible refine r_dnew ?_ | with_reducible refine r_neg ?_
  | ((with_reducible refine' r_truL ?e ?_); (case e => walk_at "hp"))
  | ((with_reducible refine' r_gtup ?e ?f ?_); (case e => walk_at "hp"); (case f => rfl))
  | ((with_reducible refine' r_tyL ?e ?_); (case e => walk_at "hp")) | walk_at "if")
local macro_rules | `(tactic| walk_at "go") => `(tactic| repeat walk_at "s")
/- steps end -/
theorem Way.sub {a b : List Sm} (h : ∀ s ∈ a, s ∈ b) {l : Str} {w : List (Nat × Str)} (t : Way a l w) : Way b l w := by
  cases t with
  | node h1 => exact .node (h _ h1)
  | here h1 => exact .here (h _ h1)
  | into h1 h2 h3 h4 => exact .into (h _ h1) h2 h3 h4
/-- what is found: the ways -/
def LS (H : Hp) (ws : List (Nat × Str)) (b : List Sm) (k k' : List (Key × V)) : Prop :=
  ∀ l, (l ∈ labs b → ∃ v w, Way b l w ∧ dv k' l = some v ∧ Rep H (.tup ((ws ++ w).map hdD)) v) ∧ (l ∉ labs b → dv k' l = dv k l)
theorem LS.te {H H' : Hp} {ws : List (Nat × Str)} {b : List Sm} {k k' : List (Key × V)} (h : LS H ws b k k') (t : TE_ H H') : LS H' ws b k k' := fun l =>
  ⟨fun hl => by obtain ⟨v, w, a, b, c⟩ := (h l).1 hl; exact ⟨v, w, a, b, c.mono t⟩, (h l).2⟩
theorem LS.nil {H : Hp} {ws : List (Nat × Str)} {k : List (Key × V)} : LS H ws [] k k := fun l => ⟨fun h => by simp [labs] at h, fun _ => rfl⟩
theorem LS.app {H H' : Hp} {ws : List (Nat × Str)} {a b : List Sm} {k k1 k2 : List (Key × V)} (h1 : LS H ws a k k1) (t : TE_ H H') (h2 : LS H' ws b k1 k2) (hd : ∀ x ∈ labs a, x ∉ labs b) : LS H' ws (a ++ b) k k2 := fun l => by
  rw [labs_append, List.mem_append]
  constructor
  · rintro (hl | hl)
    · obtain ⟨v, w, e1, e2, e3⟩ := (h1 l).1 hl
      exact ⟨v, w, Way.sub (fun s hs => by simp [hs]) e1, by rw [(h2 l).2 (hd l hl)]; exact e2, e3.mono t⟩
    · obtain ⟨v, w, e1, e2, e3⟩ := (h2 l).1 hl
      exact ⟨v, w, Way.sub (fun s hs => by simp [hs]) e1, e2, e3⟩
  · intro hn
    rw [(h2 l).2 (fun z => hn (.inr z)), (h1 l).2 (fun z => hn (.inl z))]
theorem LS.node {H : Hp} {ws : List (Nat × Str)} {l : Str} {d : D} {k : List (Key × V)} {v : V} (h : Rep H (.tup (ws.map hdD)) v) : LS H ws [.node l d] k (putK k (Sum.inr l) v) := fun x => by
  have e : labs ([.node l d] : List Sm) = [l] := rfl
  rw [e, dv_put]
  constructor
  · intro hx
    have : x = l := by simpa using hx
    subst this
    exact ⟨v, [], .node (d := d) (by simp), by rw [if_pos rfl], by rw [List.append_nil]; exact h⟩
  · intro hx
    rw [if_neg (fun e => hx (by simp [e]))]
theorem LS.into {H : Hp} {ws : List (Nat × Str)} {s : Sm} {c : List Sm} {kk : Nat × Str} {k k' : List (Key × V)} (hk : hd s = some kk) (hi : c ∈ inner s) (h : LS H (ws ++ [kk]) c k k') : ∀ l ∈ labs c, ∃ v w, Way [s] l w ∧ dv k' l = some v ∧ Rep H (.tup ((ws ++ w).map hdD)) v := fun l hl => by
  obtain ⟨v, w, e1, e2, e3⟩ := (h l).1 hl
  refine ⟨v, kk :: w, .into (by simp) hk hi e1, e2, ?_⟩
  rw [List.append_assoc] at e3
  exact e3
theorem LS.cond {H0 H1 H : Hp} {ws : List (Nat × Str)} {l : Str} {e : D} {p q : List Sm} {k k2 k3 : List (Key × V)} {v : V} (nd : (labs ([.cond l e p q] : List Sm)).Nodup) (hv : Rep H0 (.tup (ws.map hdD)) v) (t0 : TE_ H0 H) (h1 : LS H1 (ws ++ [(0, l)]) p (putK k (Sum.inr l) v) k2) (t1 : TE_ H1 H) (h2 : LS H (ws ++ [(0, l)]) q k2 k3) : LS H ws [.cond l e p q] k k3 := by
  have el : labs ([.cond l e p q] : List Sm) = l :: (labs p ++ labs q) := by simp [labs, lab]
  rw [el, List.nodup_cons, List.mem_append, List.nodup_append] at nd
  obtain ⟨n1, n2, n3, n4⟩ := nd
  intro x
  rw [el, List.mem_cons, List.mem_append]
  constructor
  · rintro (hx | hx | hx)
    · subst hx
      refine ⟨v, [], .here (e := e) (p := p) (q := q) (by simp), ?_, by rw [List.append_nil]; exact hv.mono t0⟩
      rw [(h2 x).2 (fun z => n1 (.inr z)), (h1 x).2 (fun z => n1 (.inl z)), dv_put, if_pos rfl]
    · obtain ⟨v', w, a, b, c⟩ := LS.into (s := .cond l e p q) (c := p) rfl (by simp [inner]) h1 x hx
      exact ⟨v', w, a, by rw [(h2 x).2 (fun z => n4 x hx x z rfl)]; exact b, c.mono t1⟩
    · exact LS.into (s := .cond l e p q) (c := q) rfl (by simp [inner]) h2 x hx
  · intro hn
    rw [(h2 x).2 (fun z => hn (.inr (.inr z))), (h1 x).2 (fun z => hn (.inr (.inl z))), dv_put, if_neg (fun z => hn (.inl z))]
theorem LS.wrap {H : Hp} {ws : List (Nat × Str)} {kb : Bool} {n : Str} {p : List Sm} {k k2 : List (Key × V)} (h1 : LS H (ws ++ [(if kb then 2 else 1, n)]) p k k2) : LS H ws [.wrap kb n p] k k2 := by
  have el : labs ([.wrap kb n p] : List Sm) = labs p := by simp [labs, lab]
  intro x
  rw [el]
  exact ⟨fun hx => LS.into (s := .wrap kb n p) (c := p) rfl (by simp [inner]) h1 x hx, (h1 x).2⟩
def spLS (n : Nat) : Sp := fun vs H Q _ => ∃ (bv av : V) (fd : Addr) (b : List Sm) (ws : List (Nat × Str)) (kvs : List (Key × V)), vs = [bv, av, .ref fd] ∧ Bd H b bv ∧ Rep H (.tup (ws.map hdD)) av ∧ H fd = some (.dK kvs) ∧ deps b < n ∧ (labs b).Nodup ∧
  kvs.length + (labs b).length ≤ 1000 ∧ ws.length + deps b ≤ 1000 ∧
  ∀ H' kvs', But fd H H' → H' fd = some (.dK kvs') → LS H' ws b kvs kvs' → kvs'.length ≤ kvs.length + (labs b).length → Q .non H'
section
variable {P : PySem.Program} {w : World} {K : PySem.W.Frag} {mg : Str → Option Value} {base : Heap}
theorem scLS : FnScope ["_law_body", "_law_around", "_law_found", "_law_head"] ["_law_body", "_law_around", "_law_found"] (defScope (top 93)) := ⟨rfl, rfl, rfl, by decide +kernel, rfl, by decide +kernel, by decide +kernel⟩
theorem ls_step (T : Tx w K mg) (n : Nat) (c_law_scopes : C8.Cal P w K mg base n "_law_scopes" (spLS n) []) : C8.Cal P w K mg base (n + 1) "_law_scopes" (spLS (n + 1)) [] := by
  refine cal T (i := 93) (by decide +kernel) scLS (fun vs H Q E h => ?_) (fun _ _ _ _ _ _ us hl => match us, hl with | [_, _, _], _ => rfl) (fun cdv A outer s H vs Q E hr h => ?_)
  · obtain ⟨v, _, _, _, _, _, rfl, _⟩ := h
    rfl
  obtain ⟨bv, av, fd, b, ws, kvs, rfl, hb, ha, hf, hd', nd, hkl, hwl, q⟩ := h
  have hu := hu_of hr
  obtain ⟨pb, xs, rfl, hpb, hxs⟩ := rep_tup hb
  have nt : ∀ zs, H fd ≠ some (.tup zs) := fun zs e => by rw [hf] at e; cases e
  have pbf : pb ≠ fd := ne_of hpb hf (by intro z; cases z)
  refine ⟨_, (pss_one (ps_for PassesOwn.never rfl (pi_tup (pv 0)) (pg_name (i := 3) scLS.nd rfl (.inl rfl))
(pss_cons (ps_if (PW.pt (pw_or (pt_cmpR op_eq (pe_ix ix_tup (pv 3) pe_int (fun _ _ => rfl)) pe_str (nomark _)) (pw_or1 (pt_cmpR op_eq (pe_ix ix_tup (pv 3) pe_int (fun _ _ => rfl)) pe_str (nomark _)))))
(pss_one (ps_dput hu (pv 2) (pe_ix ix_tup (pv 3) pe_int (fun _ _ => rfl)) (pv 1) rfl))
pss_nil)
(pss_cons (ps_if (pt_cmpR op_eq (pe_ix ix_tup (pv 3) pe_int (fun _ _ => rfl)) pe_str (nomark _))
(pss_cons (ps_expr (C8.pe_c c_law_scopes hr (by omega) rfl (pa_cons (pe_ix ix_tup (pv 3) pe_int (fun _ _ => rfl)) (pa_cons (pe_op op_catA (pv 1) (pe_tup (pa_cons (pe_tup (pa_cons pe_str (pa_cons (pe_ix ix_tup (pv 3) pe_int (fun _ _ => rfl)) pa_nil))) pa_nil))) (pa_cons (pv 2) pa_nil)))))
(pss_one (ps_expr (C8.pe_c c_law_scopes hr (by omega) rfl (pa_cons (pe_ix ix_tup (pv 3) pe_int (fun _ _ => rfl)) (pa_cons (pe_op op_catA (pv 1) (pe_tup (pa_cons (pe_tup (pa_cons pe_str (pa_cons (pe_ix ix_tup (pv 3) pe_int (fun _ _ => rfl)) pa_nil))) pa_nil))) (pa_cons (pv 2) pa_nil)))))))
pss_nil)
(pss_one (ps_if (PW.pt (pw_or (pt_cmpR op_eq (pe_ix ix_tup (pv 3) pe_int (fun _ _ => rfl)) pe_str (nomark _)) (pw_or1 (pt_cmpR op_eq (pe_ix ix_tup (pv 3) pe_int (fun _ _ => rfl)) pe_str (nomark _)))))
(pss_one (ps_expr (C8.pe_c c_law_scopes hr (by omega) rfl (pa_cons (pe_ix ix_tup (pv 3) pe_int (fun _ _ => rfl)) (pa_cons (pe_op op_catA (pv 1) (pe_tup (pa_cons (pe_tup (pa_cons (pe_ix ix_tup (pv 3) pe_int (fun _ _ => rfl)) (pa_cons (pe_ix ix_tup (pv 3) pe_int (fun _ _ => rfl)) pa_nil))) pa_nil))) (pa_cons (pv 2) pa_nil))))))
pss_nil)))))), ?_⟩
  walk_at "go"
  refine ⟨pb, rfl, ⟨_, SqT.of hpb⟩, for_tup (xs := xs) (fun i σ H' => (∃ z, σ = [some (.ref pb), some av, some (.ref fd), z]) ∧ But fd H H' ∧ ∃ kvs', H' fd = some (.dK kvs') ∧ LS H' ws (b.take i) kvs kvs' ∧ kvs'.length ≤ kvs.length + (labs (b.take i)).length)
    ⟨⟨_, rfl⟩, But.refl _ _, kvs, hf, by simpa using LS.nil, by simp⟩ (fun i σ H' _ ⟨_, b1, _⟩ => SqT.of (b1 _ _ pbf hpb)) ?_ ?_⟩
  · rintro i y σ H' hi ⟨⟨z, rfl⟩, b1, k1, hf1, hL, hl1⟩
    obtain ⟨d, hd1, hy⟩ := hxs.got hi
    obtain ⟨st, hst, rfl⟩ := sDs_get hd1
    have te := b1.te nt
    have hy1 := hy.mono te
    have ha1 := ha.mono te
    have hmem := List.mem_of_getElem? hst
    have hdp := dep_le hmem
    have hll := lab_le hmem
    have ndt := nd_mem nd hmem
    have elb := labs_take hst
    have etk : b.take (i + 1) = b.take i ++ [st] := take_snoc hst
    have hdis : ∀ x ∈ labs (b.take i), x ∉ labs [st] := by
      have h0 : (labs (b.take (i + 1))).Nodup := by
        have : labs b = labs (b.take (i + 1)) ++ labs (b.drop (i + 1)) := by rw [← labs_append, List.take_append_drop]
        rw [this, List.nodup_append] at nd
        exact nd.1
      rw [etk, labs_append, List.nodup_append] at h0
      exact fun x hx hx' => h0.2.2 x hx x hx' rfl
    have hsum : (labs (b.take i)).length + (lab st).length ≤ (labs b).length := by
      have := take_labs_le b (i + 1)
      rw [elb, List.length_append] at this
      exact this
    have el1 : labs ([st] : List Sm) = lab st := by simp [labs]
    have fin : ∀ H2 k2, TE_ H' H2 → But fd H' H2 → H2 fd = some (.dK k2) → LS H2 ws [st] k1 k2 → k2.length ≤ k1.length + (lab st).length → But fd H H2 ∧ ∃ kvs', H2 fd = some (.dK kvs') ∧ LS H2 ws (b.take (i + 1)) kvs kvs' ∧ kvs'.length ≤ kvs.length + (labs (b.take (i + 1))).length := fun H2 k2 t2 b2 f2 l2 n2 =>
      ⟨b1.trans b2, k2, f2, by rw [etk]; exact hL.app t2 l2 hdis, by rw [elb, List.length_append]; omega⟩
    cases st with
    | node l d =>
      obtain ⟨ps, x0, rfl, hps, h0⟩ := rep_tup hy1
      obtain ⟨x1, r1, rfl, h1, h0⟩ := cons_reps h0
      obtain ⟨x2, r2, rfl, h2, h0⟩ := cons_reps h0
      obtain ⟨x3, r3, rfl, h3, h0⟩ := cons_reps h0
      obtain rfl := nil_reps h0
      obtain rfl := rep_str h1
      obtain rfl := rep_str h2
      walk_at "go"
      refine r_dp hf1 (by simp [lab] at hsum; omega) ?_
      have te2 : TE_ H' (upd H' fd (.dK (putK k1 (Sum.inr l) av))) := te_mutD hf1
      have hps2 := te2 _ _ hps
      walk_at "go"
      exact ⟨⟨_, rfl⟩, fin _ _ te2 (fun a o n h => by rw [upd_ne n]; exact h) upd_same (LS.node (ha1.mono te2)) (by have := put_len k1 (Sum.inr l) av; simp [lab]; omega)⟩
    | cond l e p1 q1 =>
      obtain ⟨ps, x0, rfl, hps, h0⟩ := rep_tup hy1
      obtain ⟨x1, r1, rfl, h1, h0⟩ := cons_reps h0
      obtain ⟨x2, r2, rfl, h2, h0⟩ := cons_reps h0
      obtain ⟨x3, r3, rfl, h3, h0⟩ := cons_reps h0
      obtain ⟨x4, r4, rfl, h4, h0⟩ := cons_reps h0
      obtain ⟨x5, r5, rfl, h5, h0⟩ := cons_reps h0
      obtain rfl := nil_reps h0
      obtain rfl := rep_str h1
      obtain rfl := rep_str h2
      have hla : (lab (Stm.cond l e p1 q1)).length = 1 + ((labs p1).length + (labs q1).length) := by simp [lab]; omega
      have hdp1 := inner_dep (s := Stm.cond l e p1 q1) (b := p1) (by simp [inner])
      have hdq1 := inner_dep (s := Stm.cond l e p1 q1) (b := q1) (by simp [inner])
      have ndp := nd_lab ndt (b := p1) (by simp [inner])
      have ndq := nd_lab ndt (b := q1) (by simp [inner])
      walk_at "go"
      refine r_dp hf1 (by omega) ?_
      have hl2 := put_len k1 (Sum.inr l) av
      have te2 : TE_ H' (upd H' fd (.dK (putK k1 (Sum.inr l) av))) := te_mutD hf1
      have b2 : But fd H' (upd H' fd (.dK (putK k1 (Sum.inr l) av))) := fun a o n h => by rw [upd_ne n]; exact h
      have hf2 : upd H' fd (.dK (putK k1 (Sum.inr l) av)) fd = some (.dK (putK k1 (Sum.inr l) av)) := upd_same
      generalize upd H' fd (.dK (putK k1 (Sum.inr l) av)) = H2 at te2 b2 hf2 ⊢
      have hps2 := te2 _ _ hps
      walk_at "go"
      refine ⟨by show 2 ≤ sizeLine; decide, fun p6 np6 => ?_⟩
      walk_at "go"
      refine ⟨by show 1 ≤ sizeLine; decide, fun p7 np7 => ?_⟩
      refine r_catR (ds := ws.map hdD) (es := [hdD (0, l)]) (Rep.mono te2 ha1 |>.s (by walk_at "sm")) (rep_new np7 (reps_cons (rep_new np6 (reps_cons str_rep (reps_cons str_rep reps_nil))) reps_nil)) (by simp; omega) fun v8 H8 s8 hv8 => ?_
      have s28 : Same H2 H8 := by walk_at "sm"
      have te28 : TE_ H2 H8 := .of s28
      have e8 : ws.map hdD ++ [hdD (0, l)] = (ws ++ [(0, l)]).map hdD := by simp
      rw [e8] at hv8
      have nt8 : ∀ zs, H8 fd ≠ some (.tup zs) := fun zs z => by rw [s28 _ _ hf2] at z; cases z
      walk_at "go"
      refine ⟨x4, v8, fd, p1, ws ++ [(0, l)], _, rfl, h4.mono (te2.trans te28), hv8, s28 _ _ hf2, by omega, ndp, by omega, by simp; omega, fun H9 k9 b9 hf9 hL9 hl9 => ?_⟩
      have te89 := b9.te nt8
      have te9 := te2.trans (te28.trans te89)
      have b19 : But fd H' H9 := b2.trans ((But.of s28).trans b9)
      have hps9 := te9 _ _ hps
      walk_at "go"
      refine ⟨by show 2 ≤ sizeLine; decide, fun p16 np16 => ?_⟩
      walk_at "go"
      refine ⟨by show 1 ≤ sizeLine; decide, fun p17 np17 => ?_⟩
      refine r_catR (ds := ws.map hdD) (es := [hdD (0, l)]) (Rep.mono te9 ha1 |>.s (by walk_at "sm")) (rep_new np17 (reps_cons (rep_new np16 (reps_cons str_rep (reps_cons str_rep reps_nil))) reps_nil)) (by simp; omega) fun v18 H18 s18 hv18 => ?_
      have s918 : Same H9 H18 := by walk_at "sm"
      rw [e8] at hv18
      have nt18 : ∀ zs, H18 fd ≠ some (.tup zs) := fun zs z => by rw [s918 _ _ hf9] at z; cases z
      have te918 : TE_ H9 H18 := .of s918
      walk_at "go"
      refine ⟨x5, v18, fd, q1, ws ++ [(0, l)], _, rfl, h5.mono (te9.trans te918), hv18, s918 _ _ hf9, by omega, ndq, by omega, by simp; omega, fun H19 k19 b19' hf19 hL19 hl19 => ?_⟩
      have te1819 := b19'.te nt18
      have teE : TE_ H' H19 := te9.trans (te918.trans te1819)
      have bE : But fd H' H19 := b19.trans ((But.of s918).trans b19')
      have hpsE := teE _ _ hps
      walk_at "go"
      exact ⟨⟨_, rfl⟩, fin _ _ teE bE hf19 (LS.cond (by rw [el1]; exact ndt) ha1 teE hL9 (te918.trans te1819) hL19) (by omega)⟩
    | wrap kb nm p1 =>
      obtain ⟨ps, x0, rfl, hps, h0⟩ := rep_tup hy1
      obtain ⟨x1, r1, rfl, h1, h0⟩ := cons_reps h0
      obtain ⟨x2, r2, rfl, h2, h0⟩ := cons_reps h0
      obtain ⟨x3, r3, rfl, h3, h0⟩ := cons_reps h0
      obtain rfl := nil_reps h0
      obtain rfl := rep_str h1
      obtain rfl := rep_str h2
      have hla : (lab (Stm.wrap kb nm p1 : Sm)).length = (labs p1).length := by simp [lab]
      have hdp1 := inner_dep (s := (Stm.wrap kb nm p1 : Sm)) (b := p1) (by simp [inner])
      have ndp := nd_lab ndt (b := p1) (by simp [inner])
      cases kb
      all_goals
        (try dsimp only at hps)
        walk_at "go"
        refine ⟨by show 2 ≤ sizeLine; decide, fun p6 np6 => ?_⟩
        walk_at "go"
        refine ⟨by show 1 ≤ sizeLine; decide, fun p7 np7 => ?_⟩
      · refine r_catR (ds := ws.map hdD) (es := [hdD (1, nm)]) (Rep.s (by walk_at "sm") ha1) (rep_new np7 (reps_cons (rep_new np6 (reps_cons str_rep (reps_cons str_rep reps_nil))) reps_nil)) (by simp; omega) fun v8 H8 s8 hv8 => ?_
        have s28 : Same H' H8 := by walk_at "sm"
        have te28 : TE_ H' H8 := .of s28
        have e8 : ws.map hdD ++ [hdD (1, nm)] = (ws ++ [(1, nm)]).map hdD := by simp
        rw [e8] at hv8
        have nt8 : ∀ zs, H8 fd ≠ some (.tup zs) := fun zs z => by rw [s28 _ _ hf1] at z; cases z
        walk_at "go"
        refine ⟨x3, v8, fd, p1, ws ++ [(1, nm)], _, rfl, h3.mono te28, hv8, s28 _ _ hf1, by omega, ndp, by omega, by simp; omega, fun H9 k9 b9 hf9 hL9 hl9 => ?_⟩
        have te89 := b9.te nt8
        exact ⟨⟨_, rfl⟩, fin _ _ (te28.trans te89) ((But.of s28).trans b9) hf9 (LS.wrap (kb := false) hL9) (by omega)⟩
      · refine r_catR (ds := ws.map hdD) (es := [hdD (2, nm)]) (Rep.s (by walk_at "sm") ha1) (rep_new np7 (reps_cons (rep_new np6 (reps_cons str_rep (reps_cons str_rep reps_nil))) reps_nil)) (by simp; omega) fun v8 H8 s8 hv8 => ?_
        have s28 : Same H' H8 := by walk_at "sm"
        have te28 : TE_ H' H8 := .of s28
        have e8 : ws.map hdD ++ [hdD (2, nm)] = (ws ++ [(2, nm)]).map hdD := by simp
        rw [e8] at hv8
        have nt8 : ∀ zs, H8 fd ≠ some (.tup zs) := fun zs z => by rw [s28 _ _ hf1] at z; cases z
        walk_at "go"
        refine ⟨x3, v8, fd, p1, ws ++ [(2, nm)], _, rfl, h3.mono te28, hv8, s28 _ _ hf1, by omega, ndp, by omega, by simp; omega, fun H9 k9 b9 hf9 hL9 hl9 => ?_⟩
        have te89 := b9.te nt8
        exact ⟨⟨_, rfl⟩, fin _ _ (te28.trans te89) ((But.of s28).trans b9) hf9 (LS.wrap (kb := true) hL9) (by omega)⟩
    | jump kb nm =>
      obtain ⟨ps, x0, rfl, hps, h0⟩ := rep_tup hy1
      obtain ⟨x1, r1, rfl, h1, h0⟩ := cons_reps h0
      obtain rfl := rep_str h1
      have eL : LS H' ws [(Stm.jump kb nm : Sm)] k1 k1 := fun l => ⟨fun h => by simp [labs, lab] at h, fun _ => rfl⟩
      cases kb
      all_goals
        (try dsimp only at hps)
        walk_at "go"
        exact ⟨⟨_, rfl⟩, fin _ _ (fun _ _ h => h) (But.refl _ _) hf1 eL (by omega)⟩
    | exit =>
      obtain ⟨ps, x0, rfl, hps, h0⟩ := rep_tup hy1
      obtain ⟨x1, r1, rfl, h1, h0⟩ := cons_reps h0
      obtain rfl := rep_str h1
      have eL : LS H' ws [(Stm.exit : Sm)] k1 k1 := fun l => ⟨fun h => by simp [labs, lab] at h, fun _ => rfl⟩
      walk_at "go"
      exact ⟨⟨_, rfl⟩, fin _ _ (fun _ _ h => h) (But.refl _ _) hf1 eL (by omega)⟩
  · rintro σ H' ⟨⟨z, rfl⟩, b1, k1, hf1, hL, hl1⟩
    rw [hxs.len, sDs_len, List.take_length] at hL hl1
    walk_at "go"
    exact q H' k1 b1 hf1 hL hl1
theorem ls_cal (T : Tx w K mg) : ∀ n : Nat, C8.Cal P w K mg base n "_law_scopes" (spLS n) []
  | 0 => cal_no T (i := 93) (ps := ["_law_body", "_law_around", "_law_found"]) (by decide +kernel) (fun _ _ _ _ _ _ us hl => match us, hl with | [_, _, _], _ => rfl) fun vs H Q E h => by
    obtain ⟨_, _, _, b, _, _, _, _, _, _, h0, _⟩ := h
    omega
  | n + 1 => ls_step T n (ls_cal T n)
end
end K5
end

section
set_option linter.all false
set_option maxRecDepth 100000
/-! Signs: run_end, number_of, word_end. -/
namespace K5
open PySem PySem.Spec PyProof.Rows L2 SX
/- steps -/
local macro_rules | `(tactic| walk_at "sm") => `(tactic| first | assumption | exact Same.refl _ | (refine Same.mut ?_ (by assumption) _; walk_at "sm") | (refine Same.trans ?_ (Same.newo (by assumption) _); walk_at "sm") | (refine Same.trans ?_ (by assumption); walk_at "sm"))
local macro_rules | `(tactic| walk_at "hp") => `(tactic| first | assumption | exact upd_same | (refine up_new ?_ (by assumption) _; walk_at "hp") | (refine Same.up ?_ (by assumption) (by assumption); walk_at "sm") | (refine Same.look (by assumption) ?_; walk_at "hp"))
local macro_rules | `(tactic| walk_at "rep") => `(tactic| first | assumption | exact str_rep | exact int_rep | exact non_rep | (refine' Rep.s ?s ?h; (case h => assumption); (case s => walk_at "sm")))
local macro_rules | `(tactic| walk_at "if") => `(tactic| first | ((with_reducible refine' r_ifT ?e ?_); (case e => decide +kernel)) | ((with_reducible refine' r_ifF ?e ?_); (case e => decide +kernel)))
local macro_rules | `(tactic| walk_at "sz") => `(tactic| first | omega | decide | (simp only [List.length_map, List.length_append, List.length_cons, List.length_nil, List.length_take]; omega))
local macro_rules | `(tactic| walk_at "s") => `(tactic| first
  | with_reducible refine r_seq ?_ | with_reducible refine r_set ?_ | with_reducible refine r_asg ?_ | with_reducible refine r_ret ?_ | with_reducible refine r_drop ?_ | with_reducible refine r_next ?_ | with_reducible refine r_cont ?_ | with_reducible refine r_brk ?_
  | with_reducible refine r_if ?_ | with_reducible refine r_test ?_ | with_reducible refine r_tB ?_ | with_reducible refine r_bl ?_ | with_reducible refine r_and ?_ | with_reducible refine r_or ?_ | with_reducible refine r_not ?_
  | ((with_reducible refine' r_var ?e ?_); (case e => rfl)) | with_reducible refine r_c ?_ | with_reducible refine r_op ?_ | with_reducible refine r_un ?_ | with_reducible refine r_ifx ?_ | with_reducible refine r_andV ?_ | with_reducible refine r_orV ?_ | with_reducible refine r_notV ?_
  | with_reducible refine r_nil ?_ | with_reducible refine r_cons ?_ | with_reducible refine r_cb ?_ | with_reducible refine r_bm ?_ | with_reducible refine r_bm0 ?_ | with_reducible refine r_lst ?_ | with_reducible refine r_tup ?_ | with_reducible refine r_call ?_
  | with_reducible refine r_lc ?_ | with_reducible refine r_dc ?_ | with_reducible refine r_for ?_ | with_reducible refine r_iTup ?_ | with_reducible refine r_iList ?_ | with_reducible refine r_iEnum ?_ | with_reducible refine r_iRng1 ?_
  | with_reducible refine r_sl ?_ | with_reducible refine r_part ?_ | with_reducible refine r_nop ?_ | with_reducible refine r_int ?_ | with_reducible refine r_then ?_ | with_reducible refine r_yes ?_
  | with_reducible refine r_gname ?_ | with_reducible refine r_gcons ?_ | with_reducible refine r_gnil ?_
  | ((with_reducible refine' r_eq ?e ?_); (case e => rfl)) | ((with_reducible refine' r_ne ?e ?_); (case e => rfl)) | with_reducible refine r_I0 ?_
  | ((with_reducible refine' r_ixT0 ?e ?f ?_); (case e => walk_at "hp"); (case f => rfl)) | ((with_reducible refine' r_ixT1 ?e ?f ?_); (case e => walk_at "hp"); (case f => rfl)) | ((with_reducible refine' r_ixT2 ?e ?f ?_); (case e => walk_at "hp"); (case f => rfl)) | ((with_reducible refine' r_ixT3 ?e ?f ?_); (case e => walk_at "hp"); (case f => rfl)) | ((with_reducible refine' r_ixT4 ?e ?f ?_); (case e => walk_at "hp"); (case f => rfl)) | ((with_reducible refine' r_ixL0 ?e ?f ?_); (case e => walk_at "hp"); (case f => rfl)) | ((with_reducible refine' r_ixL1 ?e ?f ?_); (case e => walk_at "hp"); (case f => rfl)) | ((with_reducible refine' r_ixL2 ?e ?f ?_); (case e => walk_at "hp"); (case f => rfl)) | ((with_reducible refine' r_ixL3 ?e ?f ?_); (case e => walk_at "hp"); (case f => rfl)) | ((with_reducible refine' r_ixL4 ?e ?f ?_); (case e => walk_at "hp"); (case f => rfl))
  | ((with_reducible refine' r_ixT ?e ?f ?_); (case e => walk_at "hp"); (case f => rfl)) | ((with_reducible refine' r_ixL ?e ?f ?_); (case e => walk_at "hp"); (case f => rfl))
  | ((with_reducible refine' r_append ?e ?f ?_); (case e => walk_at "hp"); (case f => walk_at "sz")) | ((with_reducible refine' r_extend ?e ?e2 ?f ?_); (case e => walk_at "hp"); (case e2 => walk_at "hp"); (case f => walk_at "sz"))
  | with_reducible refine r_fldE ?_ | with_reducible refine r_methE ?_ | with_reducible refine r_make ?_ | with_reducible refine r_sfld ?_ | with_reducible refine r_iEnumT ?_
  | with_reducible refine r_dgetE ?_ | with_reducible refine r_dinE ?_ | with_reducible refine r_dninE ?_ | with_reducible refine r_dputE ?_ | with_reducible refine r_dnew ?_ | with_reducible refine r_neg ?_
  | ((with_reducible refine' r_truL ?e ?_); (case e => walk_at "hp"))
  | ((with_reducible refine' r_gtup ?e ?f ?_); (case e => walk_at "hp"); (case f => rfl))
  | ((with_reducible refine' r_tyL ?e ?_); (case e => walk_at "hp")) | walk_at "if")
local macro_rules | `(tactic| walk_at "go") => `(tactic| repeat walk_at "s")
/- steps end -/
section
variable {σ : L2.St} {H : Hp} {Q : VK} {l : List Nat} {i j c : Nat} {z : Str}
theorem r_ixS (h1 : l[i]? = some c) (h2 : l.length ≤ 100000) (h : Q (.str (S [c])) H) : rIxS (.str (S l)) (.int (i : Nat)) H Q :=
  ⟨S l, i, c, rfl, rfl, sz (by rw [S_len]; exact h2), atI_nat h1, h⟩
theorem r_ixS0 (h1 : l[0]? = some c) (h2 : l.length ≤ 100000) (h : Q (.str (S [c])) H) : rIxS (.str (S l)) (.int 0) H Q :=
  ⟨S l, 0, c, rfl, rfl, sz (by rw [S_len]; exact h2), atI_nat (j := 0) h1, h⟩
theorem r_inSg (h : Q (.bl (decide (c ∈ TL.tl z))) H) : rInS (.str (S [c])) (.str z) H Q := ⟨c, z, rfl, rfl, h⟩
theorem r_ninSg (h : Q (.bl (!decide (c ∈ TL.tl z))) H) : rNotInS (.str (S [c])) (.str z) H Q := ⟨c, z, rfl, rfl, h⟩
theorem cut_S {a b : Nat} (hab : a ≤ b) (hb : b ≤ l.length) : cutS (S l) (some (a : Int)) (some (b : Int)) = S ((l.drop a).take (b - a)) := by
  have e1 : HT.sIx (S l).length 0 (some (a : Int)) = a := by rw [HT.sIx_nat, S_len]; omega
  have e2 : HT.sIx (S l).length (S l).length (some (b : Int)) = b := by rw [HT.sIx_nat, S_len]; omega
  unfold cutS
  rw [e1, e2]
theorem r_slS {a b : Nat} (hab : a ≤ b) (hb : b ≤ l.length) (h2 : l.length ≤ 100000) (h : Q (.str (S ((l.drop a).take (b - a)))) H) : rSlS (.str (S l)) (some (a : Int)) (some (b : Int)) H Q :=
  ⟨S l, rfl, sz (by rw [S_len]; exact h2), by rw [cut_S hab hb]; exact h⟩
theorem r_lenS {B : Str → Prop} (h2 : l.length ≤ 100000) (h : B (S l)) : ∃ z, ([V.str (S l)] : List V) = [.str z] ∧ z.length ≤ sizeLine ∧ B z :=
  ⟨S l, rfl, sz (by rw [S_len]; exact h2), h⟩
end
abbrev lettersZ : Str := "abcdefghijklmnopqrstuvwxyz"
abbrev digitsZ : Str := "0123456789"
abbrev symbolsZ : Str := "(){}:=+-*<"
/-- run_end(line, start, chars) -/
def spRun : Sp := fun vs H Q _ => ∃ (p x r : List Nat) (cz : Str), vs = [.str (S (p ++ (x ++ r))), .int (p.length : Nat), .str cz] ∧ (∀ c ∈ x, c ∈ TL.tl cz) ∧ (∀ c, r.head? = some c → c ∉ TL.tl cz) ∧ (p ++ (x ++ r)).length ≤ 100000 ∧
  Q (.int ((p.length + x.length : Nat) : Int)) H
/-- number_of(digits, least, most) -/
def spNum : Sp := fun vs H Q _ => ∃ (n a b : Nat), vs = [.str (S (TL.numL n)), .int (a : Nat), .int (b : Nat)] ∧ a ≤ n ∧ n ≤ b ∧ n ≤ 1000000 ∧ Q (.int (n : Nat)) H
section
variable {P : PySem.Program} {w : World} {K : PySem.W.Frag} {mg : Str → Option Value} {base : Heap}
theorem scRun : FnScope ["line", "start", "chars", "end"] ["line", "start", "chars"] (defScope (top 23)) := ⟨rfl, rfl, rfl, by decide +kernel, rfl, by decide +kernel, by decide +kernel⟩
theorem run_cal (T : Tx w K mg) : C8.Cal P w K mg base 1 "run_end" spRun [] := by
  have m_len := T.free "len" (by decide +kernel)
  refine cal T (i := 23) (by decide +kernel) scRun (fun vs H Q E h => ?_) (fun _ _ _ _ _ _ us hl => match us, hl with | [_, _, _], _ => rfl) (fun cdv A outer s H vs Q E hr h => ?_)
  · obtain ⟨p, _, _, _, rfl, _⟩ := h
    rfl
  obtain ⟨p, x, r, cz, rfl, hx, hrr, hlen, q⟩ := h
  refine ⟨_, (pss_cons (ps_set (i := 3) scRun.nd rfl (.inl rfl) (pv 1))
(pss_cons (ps_while PassesOwn.never (PW.pt (pw_and (pt_cmpR op_lt (pv 3) (pe_callB call_len_str rfl m_len PySem.boot_len (pa_cons (pv 0) pa_nil)) (nomark _)) (pw_and1 (pt_cmpR op_inS (pe_ix ix_str (pv 0) (pv 3) (fun _ _ => rfl)) (pv 2) rfl))))
(pss_one (ps_aug (i := 3) scRun.nd rfl (.inl rfl) pe_int ip_add)))
(pss_one (ps_ret (pv 3))))), ?_⟩
  walk_at "go"
  refine r_while ⟨fun m σ H' => ∃ k, k ≤ x.length ∧ H' = H ∧ m = x.length - k ∧ σ = [some (.str (S (p ++ (x ++ r)))), some (.int (p.length : Nat)), some (.str cz), some (.int ((p.length + k : Nat) : Int))], ⟨_, 0, Nat.zero_le _, rfl, rfl, rfl⟩, ?_⟩
  rintro m σ H' ⟨k, hk, rfl, rfl, rfl⟩
  walk_at "go"
  refine r_lenS hlen ?_
  rw [S_len]
  walk_at "go"
  refine r_if2 (fun hb => ?_) (fun hb => ?_)
  · have hlt : p.length + k < (p ++ (x ++ r)).length := by have := of_decide_eq_true hb; omega
    by_cases hkx : k < x.length
    · have e : (p ++ (x ++ r))[p.length + k]? = some x[k] := by
        rw [List.getElem?_append_right (by omega), Nat.add_sub_cancel_left, List.getElem?_append_left hkx, List.getElem?_eq_getElem hkx]
      walk_at "go"
      refine r_ixS e hlen ?_
      walk_at "go"
      refine r_inSg ?_
      rw [decide_eq_true (hx _ (List.getElem_mem hkx))]
      walk_at "go"
      refine ⟨fun σ' H'' => ∃ m', m' < x.length - k ∧ ∃ k, k ≤ x.length ∧ H'' = H' ∧ m' = x.length - k ∧ σ' = [some (.str (S (p ++ (x ++ r)))), some (.int (p.length : Nat)), some (.str cz), some (.int ((p.length + k : Nat) : Int))], fun _ _ h => h, ?_⟩
      refine r_aug rfl ?_
      walk_at "go"
      refine r_ip ?_
      refine ⟨x.length - (k + 1), by omega, k + 1, hkx, rfl, rfl, ?_⟩
      have e2 : ((p.length + k : Nat) : Int) + 1 = ((p.length + (k + 1) : Nat) : Int) := by omega
      rw [e2]; rfl
    · have hkx' : k = x.length := by omega
      subst hkx'
      cases hr0 : r with
      | nil => subst hr0; simp at hlt
      | cons c r' =>
        subst hr0
        have e : (p ++ (x ++ (c :: r')))[p.length + x.length]? = some c := by
          rw [List.getElem?_append_right (by omega), Nat.add_sub_cancel_left, List.getElem?_append_right (by omega)]; simp
        walk_at "go"
        refine r_ixS e hlen ?_
        walk_at "go"
        refine r_inSg ?_
        rw [decide_eq_false (hrr c rfl)]
        walk_at "go"
        exact q
  · have hlt : ¬ p.length + k < (p ++ (x ++ r)).length := by have := of_decide_eq_false hb; omega
    have hkx' : k = x.length := by simp at hlt; omega
    subst hkx'
    walk_at "go"
    exact q
end
end K5
end

section
set_option linter.all false
set_option maxRecDepth 100000
/-! Signs: number_of, word_end, signs_of. -/
namespace K5
open PySem PySem.Spec PyProof.Rows L2 SX
theorem r_chain {r r' : R2} {ta tb tc : TE} {σ : L2.St} {H : Hp} {Q : VK} (h : ta σ H fun x H1 => tb σ H1 fun y H2 => r x y H2 fun z H3 => ∃ k, z = .bl k ∧
  (if k = true then tc σ H3 fun w' H4 => r' y w' H4 Q else Q (.bl false) H3)) : tChain r r' ta tb tc σ H Q := h
/- steps -/
local macro_rules | `(tactic| walk_at "sm") => `(tactic| first | assumption | exact Same.refl _ | (refine Same.mut ?_ (by assumption) _; walk_at "sm") | (refine Same.trans ?_ (Same.newo (by assumption) _); walk_at "sm") | (refine Same.trans ?_ (by assumption); walk_at "sm"))
local macro_rules | `(tactic| walk_at "hp") => `(tactic| first | assumption | exact upd_same | (refine up_new ?_ (by assumption) _; walk_at "hp") | (refine Same.up ?_ (by assumption) (by assumption); walk_at "sm") | (refine Same.look (by assumption) ?_; walk_at "hp"))
local macro_rules | `(tactic| walk_at "rep") => `(tactic| first | assumption | exact str_rep | exact int_rep | exact non_rep | (refine' Rep.s ?s ?h; (case h => assumption); (case s => walk_at "sm")))
local macro_rules | `(tactic| walk_at "if") => `(tactic| first | ((with_reducible refine' r_ifT ?e ?_); (case e => decide +kernel)) | ((with_reducible refine' r_ifF ?e ?_); (case e => decide +kernel)))
local macro_rules | `(tactic| walk_at "sz") => `(tactic| first | omega | decide | (simp only [List.length_map, List.length_append, List.length_cons, List.length_nil, List.length_take]; omega))
local macro_rules | `(tactic| walk_at "s") => `(tactic| first
  | with_reducible refine r_seq ?_ | with_reducible refine r_set ?_ | with_reducible refine r_asg ?_ | with_reducible refine r_ret ?_ | with_reducible refine r_drop ?_ | with_reducible refine r_next ?_ | with_reducible refine r_cont ?_ | with_reducible refine r_brk ?_
  | with_reducible refine r_if ?_ | with_reducible refine r_test ?_ | with_reducible refine r_tB ?_ | with_reducible refine r_bl ?_ | with_reducible refine r_and ?_ | with_reducible refine r_or ?_ | with_reducible refine r_not ?_
  | ((with_reducible refine' r_var ?e ?_); (case e => rfl)) | with_reducible refine r_c ?_ | with_reducible refine r_op ?_ | with_reducible refine r_un ?_ | with_reducible refine r_ifx ?_ | with_reducible refine r_andV ?_ | with_reducible refine r_orV ?_ | with_reducible refine r_notV ?_
  | with_reducible refine r_nil ?_ | with_reducible refine r_cons ?_ | with_reducible refine r_cb ?_ | with_reducible refine r_bm ?_ | with_reducible refine r_bm0 ?_ | with_reducible refine r_lst ?_ | with_reducible refine r_tup ?_ | with_reducible refine r_call ?_
  | with_reducible refine r_lc ?_ | with_reducible refine r_dc ?_ | with_reducible refine r_for ?_ | with_reducible refine r_iTup ?_ | with_reducible refine r_iList ?_ | with_reducible refine r_iEnum ?_ | with_reducible refine r_iRng1 ?_
  | with_reducible refine r_sl ?_ | with_reducible refine r_part ?_ | with_reducible refine r_nop ?_ | with_reducible refine r_int ?_ | with_reducible refine r_then ?_ | with_reducible refine r_yes ?_
  | with_reducible refine r_gname ?_ | with_reducible refine r_gcons ?_ | with_reducible refine r_gnil ?_
  | ((with_reducible refine' r_eq ?e ?_); (case e => rfl)) | ((with_reducible refine' r_ne ?e ?_); (case e => rfl)) | with_reducible refine r_I0 ?_
  | ((with_reducible refine' r_ixT0 ?e ?f ?_); (case e => walk_at "hp"); (case f => rfl)) | ((with_reducible refine' r_ixT1 ?e ?f ?_); (case e => walk_at "hp"); (case f => rfl)) | ((with_reducible refine' r_ixT2 ?e ?f ?_); (case e => walk_at "hp"); (case f => rfl)) | ((with_reducible refine' r_ixT3 ?e ?f ?_); (case e => walk_at "hp"); (case f => rfl)) | ((with_reducible refine' r_ixT4 ?e ?f ?_); (case e => walk_at "hp"); (case f => rfl)) | ((with_reducible refine' r_ixL0 ?e ?f ?_); (case e => walk_at "hp"); (case f => rfl)) | ((with_reducible refine' r_ixL1 ?e ?f ?_); (case e => walk_at "hp"); (case f => rfl)) | ((with_reducible refine' r_ixL2 ?e ?f ?_); (case e => walk_at "hp"); (case f => rfl)) | ((with_reducible refine' r_ixL3 ?e ?f ?_); (case e => walk_at "hp"); (case f => rfl)) | ((with_reducible refine' r_ixL4 ?e ?f ?_); (case e => walk_at "hp"); (case f => rfl))
  | ((with_reducible refine' r_ixT ?e ?f ?_); (case e => walk_at "hp"); (case f => rfl)) | ((with_reducible refine' r_ixL ?e ?f ?_); (case e => walk_at "hp"); (case f => rfl))
  | ((with_reducible refine' r_append ?e ?f ?_); (case e => walk_at "hp"); (case f => walk_at "sz")) | ((with_reducible refine' r_extend ?e ?e2 ?f ?_); (case e => walk_at "hp"); (case e2 => walk_at "hp"); (case f => walk_at "sz"))
  | with_reducible refine r_fldE ?_ | with_reducible refine r_methE ?_ | with_reducible refine r_make ?_ | with_reducible refine r_sfld ?_ | with_reducible refine r_iEnumT ?_ | with_reducible refine r_inSg ?_ | with_reducible refine r_ninSg ?_ | with_reducible refine r_bmfE ?_ | with_reducible refine r_dget1 ?_ | with_reducible refine r_chain ?_
  | with_reducible refine r_dgetE ?_ | with_reducible refine r_dinE ?_ | with_reducible refine r_dninE ?_ | with_reducible refine r_dputE ?_ | with_reducible refine r_dnew ?_ | with_reducible refine r_neg ?_
  | ((with_reducible refine' r_truL ?e ?_); (case e => walk_at "hp"))
  | ((with_reducible refine' r_gtup ?e ?f ?_); (case e => walk_at "hp"); (case f => rfl))
  | ((with_reducible refine' r_tyL ?e ?_); (case e => walk_at "hp")) | walk_at "if")
local macro_rules | `(tactic| walk_at "go") => `(tactic| repeat walk_at "s")
/- steps end -/
theorem numL_head (n : Nat) : ∀ c t, TL.numL n = c :: t → 10 ≤ n → c ≠ 48 := by
  induction n using Nat.strongRecOn with
  | ind n ih =>
    intro c t e h
    rw [TL.numL_step h] at e
    by_cases h2 : n / 10 < 10
    · rw [TL.numL_lt h2] at e
      simp at e
      omega
    · cases e2 : TL.numL (n / 10) with
      | nil => exact absurd e2 (TL.numL_ne _)
      | cons c' t' =>
        rw [e2] at e
        simp at e
        rw [← e.1]
        exact ih (n / 10) (by omega) c' t' e2 (by omega)
theorem numL_len7 {n : Nat} (h : n ≤ 1000000) : (TL.numL n).length ≤ 7 := TL.numL_len (by decide) (Nat.lt_of_le_of_lt h (by decide))
theorem intText_numL {n : Nat} (h : n ≤ 1000000) : intText? (S (TL.numL n)) = some (n : Int) := by
  rw [← num_S]
  exact TL.int_num (Nat.le_trans (numL_len7 h) (by decide))
theorem num_digit {n c : Nat} (h : c ∈ TL.numL n) : c ∈ TL.tl digitsZ := by
  have h1 := TL.numL_digits n c h
  have e : TL.tl digitsZ = [48, 49, 50, 51, 52, 53, 54, 55, 56, 57] := by decide +kernel
  rw [e]
  simp
  omega
/-- a word's end: nothing, or a dot and a number -/
def WSuf (y r : List Nat) : Prop := (y = [] ∧ ∀ c, r.head? = some c → c ∉ TL.tl lettersZ ∧ c ≠ 46) ∨ ∃ n, 2 ≤ n ∧ n ≤ 99 ∧ y = 46 :: TL.numL n ∧ ∀ c, r.head? = some c → c ∉ TL.tl digitsZ
def spWord : Sp := fun vs H Q _ => ∃ (p x y r : List Nat), vs = [.str (S (p ++ (x ++ (y ++ r)))), .int (p.length : Nat)] ∧ (∀ c ∈ x, c ∈ TL.tl lettersZ) ∧ x.length ≤ 8 ∧ WSuf y r ∧ (p ++ (x ++ (y ++ r))).length ≤ 100000 ∧
  Q (.int ((p.length + (x.length + y.length) : Nat) : Int)) H
section
variable {P : PySem.Program} {w : World} {K : PySem.W.Frag} {mg : Str → Option Value} {base : Heap}
theorem scNum : FnScope ["digits", "least", "most"] ["digits", "least", "most"] (defScope (top 24)) := ⟨rfl, rfl, rfl, by decide +kernel, rfl, by decide +kernel, by decide +kernel⟩
theorem num_cal (T : Tx w K mg) : C8.Cal P w K mg base 1 "number_of" spNum [] := by
  have m_len := T.free "len" (by decide +kernel)
  have m_int := T.free "int" (by decide +kernel)
  refine cal T (i := 24) (by decide +kernel) scNum (fun vs H Q E h => ?_) (fun _ _ _ _ _ _ us hl => match us, hl with | [_, _, _], _ => rfl) (fun cdv A outer s H vs Q E hr h => ?_)
  · obtain ⟨p, _, _, rfl, _⟩ := h
    rfl
  obtain ⟨n, a, b, rfl, ha, hb, hn, q⟩ := h
  refine ⟨_, (pss_cons (ps_if (PW.pt (pw_or (pt_cmpR op_eq (pv 0) pe_str (nomark _)) (pw_or (pt_cmpR op_gt (pe_callB call_len_str rfl m_len PySem.boot_len (pa_cons (pv 0) pa_nil)) pe_int (nomark _)) (pw_or1 (PW.pt (pw_and (pt_cmpR op_eq (pe_ix ix_str (pv 0) pe_int (fun _ _ => rfl)) pe_str (nomark _)) (pw_and1 (pt_cmpR op_gt (pe_callB call_len_str rfl m_len PySem.boot_len (pa_cons (pv 0) pa_nil)) pe_int (nomark _)))))))))
(pss_one ps_never)
pss_nil)
(pss_cons (ps_if (pt_not (pt_chain op_le op_le (pv 1) (pe_callTy call_int_str rfl m_int PySem.Pv.boot_int (pa_cons (pv 0) pa_nil)) (pv 2)))
(pss_one ps_never)
pss_nil)
(pss_one (ps_ret (pe_callTy call_int_str rfl m_int PySem.Pv.boot_int (pa_cons (pv 0) pa_nil)))))), ?_⟩
  have hl7 := numL_len7 hn
  have hl : (TL.numL n).length ≤ 100000 := by omega
  obtain ⟨c, t, ec⟩ : ∃ c t, TL.numL n = c :: t := by
    cases e : TL.numL n with
    | nil => exact absurd e (TL.numL_ne n)
    | cons c t => exact ⟨c, t, rfl⟩
  have e0 : decide (V.str (S (TL.numL n)) = V.str "") = false := decide_eq_false fun e => by
    have e1 : S (TL.numL n) = "" := V.str.inj e
    have e2 : TL.numL n = [] := S_inj (b := []) (e1.trans (TL.ext_tl rfl))
    exact TL.numL_ne n e2
  have e3 : decide ((7 : Int) < ((TL.numL n).length : Nat)) = false := decide_eq_false (by omega)
  walk_at "go"
  rw [e0]
  walk_at "go"
  refine r_lenS hl ?_
  rw [S_len]
  walk_at "go"
  rw [e3]
  walk_at "go"
  refine r_ixS0 (c := c) (by rw [ec]; rfl) hl ?_
  walk_at "go"
  refine' r_if2 (fun hc => ?a) (fun hc => ?b)
  case' a =>
    have ec48 : c = 48 := by
      have := V.str.inj (of_decide_eq_true hc)
      have := S_inj (a := [c]) (b := [48]) (this.trans (TL.ext_tl (by decide +kernel)))
      simpa using this
    have hn10 : n < 10 := by
      by_cases h : n < 10
      · exact h
      · exact absurd ec48 (numL_head n c t ec (by omega))
    have e4 : decide ((1 : Int) < ((TL.numL n).length : Nat)) = false := by rw [TL.numL_lt hn10]; rfl
    walk_at "go"
    refine r_lenS hl ?_
    rw [S_len]
    walk_at "go"
    rw [e4]
  all_goals
    walk_at "go"
    refine ⟨_, _, rfl, intText_numL hn, by rw [S_len]; omega, ?_⟩
    have e5 : decide ((a : Int) ≤ (n : Int)) = true := decide_eq_true (by omega)
    have e6 : decide ((n : Int) ≤ (b : Int)) = true := decide_eq_true (by omega)
    walk_at "go"
    rw [e5]
    walk_at "go"
    rw [e6]
    walk_at "go"
    exact ⟨_, _, rfl, intText_numL hn, by rw [S_len]; omega, q⟩
theorem scWord : FnScope ["line", "start", "end", "last"] ["line", "start"] (defScope (top 25)) := ⟨rfl, rfl, rfl, by decide +kernel, rfl, by decide +kernel, by decide +kernel⟩
theorem word_cal (T : Tx w K mg) : C8.Cal P w K mg base 2 "word_end" spWord [] := by
  have m_len := T.free "len" (by decide +kernel)
  have c_run_end : C8.Cal P w K mg base 1 "run_end" spRun [] := run_cal T
  have c_number_of : C8.Cal P w K mg base 1 "number_of" spNum [] := num_cal T
  have g_LETTERS := gstr T (x := "LETTERS") (z := lettersZ) (by decide +kernel)
  have g_DIGITS := gstr T (x := "DIGITS") (z := digitsZ) (by decide +kernel)
  have g_MOST_LETTERS := gint T (x := "MOST_LETTERS") (z := 8) (by decide +kernel)
  refine cal T (i := 25) (by decide +kernel) scWord (fun vs H Q E h => ?_) (fun _ _ _ _ _ _ us hl => match us, hl with | [_, _], _ => rfl) (fun cdv A outer s H vs Q E hr h => ?_)
  · obtain ⟨p, _, _, _, rfl, _⟩ := h
    rfl
  obtain ⟨p, x, y, r, rfl, hx, hx8, hy, hlen, q⟩ := h
  refine ⟨_, (pss_cons (ps_set (i := 2) scWord.nd rfl (.inl rfl) (C8.pe_c c_run_end hr (by omega) rfl (pa_cons (pv 0) (pa_cons (pv 1) (pa_cons (C8.pe_gc rfl g_LETTERS) pa_nil)))))
(pss_cons (ps_if (pt_cmpR op_gt (pe_op op_sub (pv 2) (pv 1)) (C8.pe_gc rfl g_MOST_LETTERS) (nomark _))
(pss_one ps_never)
pss_nil)
(pss_cons (ps_if (PW.pt (pw_and (pt_cmpR op_lt (pv 2) (pe_callB call_len_str rfl m_len PySem.boot_len (pa_cons (pv 0) pa_nil)) (nomark _)) (pw_and1 (pt_cmpR op_eq (pe_ix ix_str (pv 0) (pv 2) (fun _ _ => rfl)) pe_str (nomark _)))))
(pss_cons (ps_set (i := 3) scWord.nd rfl (.inl rfl) (C8.pe_c c_run_end hr (by omega) rfl (pa_cons (pv 0) (pa_cons (pe_op op_add (pv 2) pe_int) (pa_cons (C8.pe_gc rfl g_DIGITS) pa_nil)))))
(pss_cons (ps_expr (C8.pe_c c_number_of hr (by omega) rfl (pa_cons (pe_slice sl_str (pv 0) (po_some (pe_op op_add (pv 2) pe_int)) (po_some (pv 3))) (pa_cons pe_int (pa_cons pe_int pa_nil)))))
(pss_one (ps_ret (pv 3)))))
pss_nil)
(pss_one (ps_ret (pv 2)))))), ?_⟩
  have hh : ∀ c, (y ++ r).head? = some c → c ∉ TL.tl lettersZ := by
    rcases hy with ⟨rfl, h⟩ | ⟨n, _, _, rfl, _⟩
    · intro c hc; exact (h c (by simpa using hc)).1
    · intro c hc
      have : c = 46 := by simpa using hc.symm
      rw [this]; decide +kernel
  walk_at "go"
  refine ⟨p, x, y ++ r, lettersZ, rfl, hx, hh, hlen, ?_⟩
  have e1 : decide ((8 : Int) < ((p.length + x.length : Nat) : Int) - (p.length : Nat)) = false := decide_eq_false (by omega)
  walk_at "go"
  rw [e1]
  walk_at "go"
  refine r_lenS hlen ?_
  rw [S_len]
  walk_at "go"
  rcases hy with ⟨rfl, hr1⟩ | ⟨n, hn2, hn99, rfl, hr1⟩
  · refine r_if2 (fun hb => ?_) (fun hb => ?_)
    · cases r with
      | nil => simp at hb
      | cons c r' =>
        have hc := (hr1 c rfl).2
        walk_at "go"
        refine r_ixS (c := c) ?_ hlen ?_
        · rw [List.getElem?_append_right (by omega), Nat.add_sub_cancel_left, List.getElem?_append_right (by omega)]; simp
        have e2 : decide (V.str (S [c]) = V.str ".") = false := decide_eq_false fun e => hc (by
          have := S_inj (a := [c]) (b := [46]) ((V.str.inj e).trans (TL.ext_tl (by decide +kernel)))
          simpa using this)
        walk_at "go"
        rw [e2]
        walk_at "go"
        exact q
    · walk_at "go"
      exact q
  · have e3 : decide (((p.length + x.length : Nat) : Int) < ((p ++ (x ++ ((46 :: TL.numL n) ++ r))).length : Nat)) = true := decide_eq_true (by simp; omega)
    rw [e3]
    walk_at "go"
    refine r_ixS (c := 46) ?_ hlen ?_
    · rw [List.getElem?_append_right (by omega), Nat.add_sub_cancel_left, List.getElem?_append_right (by omega)]; simp
    walk_at "go"
    have e4 : p ++ (x ++ ((46 :: TL.numL n) ++ r)) = (p ++ (x ++ [46])) ++ (TL.numL n ++ r) := by simp
    refine ⟨p ++ (x ++ [46]), TL.numL n, r, digitsZ, ?_, fun c hc => num_digit hc, hr1, by rw [← e4]; exact hlen, ?_⟩
    · rw [e4]
      have : ((p.length + x.length : Nat) : Int) + 1 = (((p ++ (x ++ [46])).length : Nat) : Int) := by simp; omega
      rw [← this]; rfl
    walk_at "go"
    have e5 : ((p.length + x.length : Nat) : Int) + 1 = (((p ++ (x ++ [46])).length : Nat) : Int) := by simp; omega
    rw [e5]
    refine r_slS (Nat.le_add_right _ _) (by simp; omega) hlen ?_
    walk_at "go"
    have e6 : ((p ++ (x ++ ((46 :: TL.numL n) ++ r))).drop (p ++ (x ++ [46])).length).take ((p ++ (x ++ [46])).length + (TL.numL n).length - (p ++ (x ++ [46])).length) = TL.numL n := by
      rw [e4, List.drop_left, Nat.add_sub_cancel_left, List.take_left]
    rw [e6]
    refine ⟨n, 2, 99, rfl, hn2, hn99, by omega, ?_⟩
    walk_at "go"
    have e7 : (p ++ (x ++ [46])).length + (TL.numL n).length = p.length + (x.length + (46 :: TL.numL n).length) := by simp; omega
    rw [e7]
    exact q
end
end K5
end

section
set_option linter.all false
set_option maxRecDepth 100000
/-! Signs: signs_of, is_name, is_label, is_blank. -/
namespace K5
open PySem PySem.Spec PyProof.Rows L2 SX
/- steps -/
local macro_rules | `(tactic| walk_at "sm") => `(tactic| first | assumption | exact Same.refl _ | (refine Same.mut ?_ (by assumption) _; walk_at "sm") | (refine Same.trans ?_ (Same.newo (by assumption) _); walk_at "sm") | (refine Same.trans ?_ (by assumption); walk_at "sm"))
local macro_rules | `(tactic| walk_at "hp") => `(tactic| first | assumption | exact upd_same | (refine up_new ?_ (by assumption) _; walk_at "hp") | (refine Same.up ?_ (by assumption) (by assumption); walk_at "sm") | (refine Same.look (by assumption) ?_; walk_at "hp"))
local macro_rules | `(tactic| walk_at "rep") => `(tactic| first | assumption | exact str_rep | exact int_rep | exact non_rep | (refine' Rep.s ?s ?h; (case h => assumption); (case s => walk_at "sm")))
local macro_rules | `(tactic| walk_at "if") => `(tactic| first | ((with_reducible refine' r_ifT ?e ?_); (case e => decide +kernel)) | ((with_reducible refine' r_ifF ?e ?_); (case e => decide +kernel)))
local macro_rules | `(tactic| walk_at "sz") => `(tactic| first | omega | decide | (simp only [List.length_map, List.length_append, List.length_cons, List.length_nil, List.length_take]; omega))
local macro_rules | `(tactic| walk_at "s") => `(tactic| first
  | with_reducible refine r_seq ?_ | with_reducible refine r_set ?_ | with_reducible refine r_asg ?_ | with_reducible refine r_ret ?_ | with_reducible refine r_drop ?_ | with_reducible refine r_next ?_ | with_reducible refine r_cont ?_ | with_reducible refine r_brk ?_
  | with_reducible refine r_if ?_ | with_reducible refine r_test ?_ | with_reducible refine r_tB ?_ | with_reducible refine r_bl ?_ | with_reducible refine r_and ?_ | with_reducible refine r_or ?_ | with_reducible refine r_not ?_
  | ((with_reducible refine' r_var ?e ?_); (case e => rfl)) | with_reducible refine r_c ?_ | with_reducible refine r_op ?_ | with_reducible refine r_un ?_ | with_reducible refine r_ifx ?_ | with_reducible refine r_andV ?_ | with_reducible refine r_orV ?_ | with_reducible refine r_notV ?_
  | with_reducible refine r_nil ?_ | with_reducible refine r_cons ?_ | with_reducible refine r_cb ?_ | with_reducible refine r_bm ?_ | with_reducible refine r_bm0 ?_ | with_reducible refine r_lst ?_ | with_reducible refine r_tup ?_ | with_reducible refine r_call ?_
  | with_reducible refine r_lc ?_ | with_reducible refine r_dc ?_ | with_reducible refine r_for ?_ | with_reducible refine r_iTup ?_ | with_reducible refine r_iList ?_ | with_reducible refine r_iEnum ?_ | with_reducible refine r_iRng1 ?_
  | with_reducible refine r_sl ?_ | with_reducible refine r_part ?_ | with_reducible refine r_nop ?_ | with_reducible refine r_int ?_ | with_reducible refine r_then ?_ | with_reducible refine r_yes ?_
  | with_reducible refine r_gname ?_ | with_reducible refine r_gcons ?_ | with_reducible refine r_gnil ?_
  | ((with_reducible refine' r_eq ?e ?_); (case e => rfl)) | ((with_reducible refine' r_ne ?e ?_); (case e => rfl)) | with_reducible refine r_I0 ?_
  | ((with_reducible refine' r_ixT0 ?e ?f ?_); (case e => walk_at "hp"); (case f => rfl)) | ((with_reducible refine' r_ixT1 ?e ?f ?_); (case e => walk_at "hp"); (case f => rfl)) | ((with_reducible refine' r_ixT2 ?e ?f ?_); (case e => walk_at "hp"); (case f => rfl)) | ((with_reducible refine' r_ixT3 ?e ?f ?_); (case e => walk_at "hp"); (case f => rfl)) | ((with_reducible refine' r_ixT4 ?e ?f ?_); (case e => walk_at "hp"); (case f => rfl)) | ((with_reducible refine' r_ixL0 ?e ?f ?_); (case e => walk_at "hp"); (case f => rfl)) | ((with_reducible refine' r_ixL1 ?e ?f ?_); (case e => walk_at "hp"); (case f => rfl)) | ((with_reducible refine' r_ixL2 ?e ?f ?_); (case e => walk_at "hp"); (case f => rfl)) | ((with_reducible refine' r_ixL3 ?e ?f ?_); (case e => walk_at "hp"); (case f => rfl)) | ((with_reducible refine' r_ixL4 ?e ?f ?_); (case e => walk_at "hp"); (case f => rfl))
  | ((with_reducible refine' r_ixT ?e ?f ?_); (case e => walk_at "hp"); (case f => rfl)) | ((with_reducible refine' r_ixL ?e ?f ?_); (case e => walk_at "hp"); (case f => rfl))
  | ((with_reducible refine' r_append ?e ?f ?_); (case e => walk_at "hp"); (case f => walk_at "sz")) | ((with_reducible refine' r_extend ?e ?e2 ?f ?_); (case e => walk_at "hp"); (case e2 => walk_at "hp"); (case f => walk_at "sz"))
  | with_reducible refine r_fldE ?_ | with_reducible refine r_methE ?_ | with_reducible refine r_make ?_ | with_reducible refine r_sfld ?_ | with_reducible refine r_iEnumT ?_ | with_reducible refine r_inSg ?_ | with_reducible refine r_ninSg ?_ | with_reducible refine r_bmfE ?_ | with_reducible refine r_dget1 ?_ | with_reducible refine r_chain ?_
  | with_reducible refine r_dgetE ?_ | with_reducible refine r_dinE ?_ | with_reducible refine r_dninE ?_ | with_reducible refine r_dputE ?_ | with_reducible refine r_dnew ?_ | with_reducible refine r_neg ?_
  | ((with_reducible refine' r_truL ?e ?_); (case e => walk_at "hp"))
  | ((with_reducible refine' r_gtup ?e ?f ?_); (case e => walk_at "hp"); (case f => rfl))
  | ((with_reducible refine' r_tyL ?e ?_); (case e => walk_at "hp")) | walk_at "if")
local macro_rules | `(tactic| walk_at "go") => `(tactic| repeat walk_at "s")
/- steps end -/
inductive Tk where
  | w (x : List Nat) | n (k : Nat) | s (c : Nat)
def Tk.at : Tk → Atm × Atm
  | .w x => (.str "word", .str (S x))
  | .n k => (.str "number", .int (k : Nat))
  | .s c => (.str "symbol", .str (S [c]))
/-- the signs of a line -/
inductive Lex : List Nat → List Tk → Prop where
  | nil : Lex [] []
  | sp {r : List Nat} {ts : List Tk} (t : Lex r ts) : Lex (32 :: r) ts
  | sy {c : Nat} {r : List Nat} {ts : List Tk} (h : c ∈ TL.tl symbolsZ) (t : Lex r ts) : Lex (c :: r) (.s c :: ts)
  | wd {x y r : List Nat} {ts : List Tk} (h0 : x ≠ []) (hx : ∀ c ∈ x, c ∈ TL.tl lettersZ) (h8 : x.length ≤ 8) (hy : WSuf y r) (t : Lex r ts) : Lex (x ++ (y ++ r)) (.w (x ++ y) :: ts)
  | nm {n : Nat} {r : List Nat} {ts : List Tk} (hn : n ≤ 1000000) (hr : ∀ c, r.head? = some c → c ∉ TL.tl digitsZ) (t : Lex r ts) : Lex (TL.numL n ++ r) (.n n :: ts)
theorem lex_nil {r : List Nat} {ts : List Tk} (h : Lex r ts) (e : r = []) : ts = [] := by
  cases h with
  | nil => rfl
  | sp _ => cases e
  | sy _ _ => cases e
  | wd h0 _ _ _ _ => simp [h0] at e
  | nm _ _ _ => simp [TL.numL_ne] at e
theorem sym_not : ∀ c ∈ TL.tl symbolsZ, c ∉ TL.tl lettersZ ∧ c ∉ TL.tl digitsZ := by decide +kernel
theorem dig_not : ∀ c ∈ TL.tl digitsZ, c ∉ TL.tl lettersZ := by decide +kernel
theorem PrsAt.te {H H' : Hp} {xs : List V} {zs : List (Atm × Atm)} (s : TE_ H H') (h : PrsAt H xs zs) : PrsAt H' xs zs := by
  induction h with
  | nil => exact .nil
  | cons h _ ih =>
    obtain ⟨p, rfl, hp⟩ := h
    exact .cons ⟨p, rfl, s _ _ hp⟩ ih
/-- a pair put at a list's end -/
theorem PrsAt.add {H : Hp} {l p : Addr} {xs : List V} {zs : List (Atm × Atm)} {a : Atm × Atm} (hl : H l = some (.lst xs)) (h : PrsAt H xs zs) (n : H p = none) :
    PrsAt (upd (upd H p (.tup [a.1.v, a.2.v])) l (.lst (xs ++ [.ref p]))) (xs ++ [.ref p]) (zs ++ [a]) := by
  have nl : l ≠ p := ne_of_none hl n
  have te : TE_ (upd H p (.tup [a.1.v, a.2.v])) (upd (upd H p (.tup [a.1.v, a.2.v])) l (.lst (xs ++ [.ref p]))) := te_mutL (up_new hl n _)
  exact Paired.snoc ((h.s (Same.newo n _)).te te) ⟨p, rfl, te _ _ upd_same⟩
def spSigns : Sp := fun vs H Q _ => ∃ (l : List Nat) (ts : List Tk), vs = [.str (S l)] ∧ Lex l ts ∧ l.length ≤ 10000 ∧
  ∀ p H' xs, Same H H' → H p = none → H' p = some (.lst xs) → PrsAt H' xs (ts.map Tk.at) → Q (.ref p) H'
section
variable {P : PySem.Program} {w : World} {K : PySem.W.Frag} {mg : Str → Option Value} {base : Heap}
theorem scSigns : FnScope ["line", "signs", "index", "char", "end"] ["line"] (defScope (top 26)) := ⟨rfl, rfl, rfl, by decide +kernel, rfl, by decide +kernel, by decide +kernel⟩
def SgW (H : Hp) (l : List Nat) (ts : List Tk) (sp : Addr) (m : Nat) (σ : L2.St) (H' : Hp) : Prop :=
  ∃ (pre rest : List Nat) (ts1 ts2 : List Tk) (z3 z4 : Option V) (xs : List V), l = pre ++ rest ∧ Lex rest ts2 ∧ ts = ts1 ++ ts2 ∧ σ = [some (.str (S l)), some (.ref sp), some (.int (pre.length : Nat)), z3, z4] ∧ Same H H' ∧
    H' sp = some (.lst xs) ∧ PrsAt H' xs (ts1.map Tk.at) ∧ m = rest.length ∧ ts1.length ≤ pre.length
theorem signs_cal (T : Tx w K mg) : C8.Cal P w K mg base 3 "signs_of" spSigns [] := by
  have m_len := T.free "len" (by decide +kernel)
  have c_run_end : C8.Cal P w K mg base 1 "run_end" spRun [] := run_cal T
  have c_number_of : C8.Cal P w K mg base 1 "number_of" spNum [] := num_cal T
  have c_word_end : C8.Cal P w K mg base 2 "word_end" spWord [] := word_cal T
  have g_LETTERS := gstr T (x := "LETTERS") (z := lettersZ) (by decide +kernel)
  have g_DIGITS := gstr T (x := "DIGITS") (z := digitsZ) (by decide +kernel)
  have g_SYMBOLS := gstr T (x := "SYMBOLS") (z := symbolsZ) (by decide +kernel)
  have g_MOST_NUMBER := gint T (x := "MOST_NUMBER") (z := 1000000) (by decide +kernel)
  refine cal T (i := 26) (by decide +kernel) scSigns (fun vs H Q E h => ?_) (fun _ _ _ _ _ _ us hl => match us, hl with | [_], _ => rfl) (fun cdv A outer s H vs Q E hr h => ?_)
  · obtain ⟨l, _, rfl, _⟩ := h
    rfl
  obtain ⟨l, ts, rfl, hlex, hlen, q⟩ := h
  have hl5 : l.length ≤ 100000 := by omega
  refine ⟨_, (pss_cons (ps_set (i := 1) scSigns.nd rfl (.inl rfl) (pe_lst pa_nil))
(pss_cons (ps_set (i := 2) scSigns.nd rfl (.inl rfl) pe_int)
(pss_cons (ps_while PassesOwn.never (pt_cmpR op_lt (pv 2) (pe_callB call_len_str rfl m_len PySem.boot_len (pa_cons (pv 0) pa_nil)) (nomark _))
(pss_cons (ps_set (i := 3) scSigns.nd rfl (.inl rfl) (pe_ix ix_str (pv 0) (pv 2) (fun _ _ => rfl)))
(pss_cons (ps_set (i := 4) scSigns.nd rfl (.inl rfl) (pe_op op_add (pv 2) pe_int))
(pss_cons (ps_if (pt_cmpR op_inS (pv 3) (C8.pe_gc rfl g_LETTERS) rfl)
(pss_cons (ps_set (i := 4) scSigns.nd rfl (.inl rfl) (C8.pe_c c_word_end hr (by omega) rfl (pa_cons (pv 0) (pa_cons (pv 2) pa_nil))))
(pss_one (ps_expr (pe_bm PySem.F.plainAttrs_list PySem.F.slot_list_append PySem.F.type_list_append mt_append (pv 1) (pa_cons (pe_tup (pa_cons pe_str (pa_cons (pe_slice sl_str (pv 0) (po_some (pv 2)) (po_some (pv 4))) pa_nil))) pa_nil)))))
(pss_one (ps_if (pt_cmpR op_inS (pv 3) (C8.pe_gc rfl g_DIGITS) rfl)
(pss_cons (ps_set (i := 4) scSigns.nd rfl (.inl rfl) (C8.pe_c c_run_end hr (by omega) rfl (pa_cons (pv 0) (pa_cons (pv 2) (pa_cons (C8.pe_gc rfl g_DIGITS) pa_nil)))))
(pss_one (ps_expr (pe_bm PySem.F.plainAttrs_list PySem.F.slot_list_append PySem.F.type_list_append mt_append (pv 1) (pa_cons (pe_tup (pa_cons pe_str (pa_cons (C8.pe_c c_number_of hr (by omega) rfl (pa_cons (pe_slice sl_str (pv 0) (po_some (pv 2)) (po_some (pv 4))) (pa_cons pe_int (pa_cons (C8.pe_gc rfl g_MOST_NUMBER) pa_nil)))) pa_nil))) pa_nil)))))
(pss_one (ps_if (pt_cmpR op_inS (pv 3) (C8.pe_gc rfl g_SYMBOLS) rfl)
(pss_one (ps_expr (pe_bm PySem.F.plainAttrs_list PySem.F.slot_list_append PySem.F.type_list_append mt_append (pv 1) (pa_cons (pe_tup (pa_cons pe_str (pa_cons (pv 3) pa_nil))) pa_nil))))
(pss_one (ps_if (pt_cmpR op_ne (pv 3) pe_str (nomark _))
(pss_one ps_never)
pss_nil)))))))
(pss_one (ps_set (i := 2) scSigns.nd rfl (.inl rfl) (pv 4)))))))
(pss_one (ps_ret (pv 1)))))), ?_⟩
  walk_at "go"
  refine ⟨Nat.zero_le _, fun sp nsp => ?_⟩
  walk_at "go"
  refine r_while ⟨SgW H l ts sp, ⟨_, [], l, [], ts, _, _, [], rfl, hlex, rfl, rfl, by walk_at "sm", upd_same, .nil, rfl, Nat.le_refl _⟩, ?_⟩
  rintro m σ H' ⟨pre, rest, ts1, ts2, z3, z4, xs, hl, hlx, hts, rfl, s1, hsp, hpr, rfl, hle⟩
  have hll : l.length = pre.length + rest.length := by rw [hl, List.length_append]
  walk_at "go"
  refine r_lenS hl5 ?_
  rw [S_len]
  walk_at "go"
  have lxs : xs.length = ts1.length := by have := Paired.length hpr; simpa using this.symm
  have fin : ∀ (a b : List Nat) (t : List Tk) (z z' : Option V) (xs' : List V) (H2 : Hp) (t2 : List Tk), rest = a ++ b → a ≠ [] → t.length ≤ 1 → ts2 = t ++ t2 → Lex b t2 → Same H H2 → H2 sp = some (.lst xs') → PrsAt H2 xs' ((ts1 ++ t).map Tk.at) →
      ∃ m', m' < rest.length ∧ SgW H l ts sp m' [some (.str (S l)), some (.ref sp), some (.int ((pre.length + a.length : Nat) : Int)), z, z'] H2 := by
    intro a b t z z' xs' H2 t2 e1 ha ht e2 hb s2 h2 hp
    have : 0 < a.length := List.length_pos_iff.mpr ha
    refine ⟨b.length, by rw [e1, List.length_append]; omega, pre ++ a, b, ts1 ++ t, t2, z, z', xs', by rw [hl, e1]; simp, hb, by rw [hts, e2]; simp, by rw [List.length_append], s2, h2, hp, rfl, by simp; omega⟩
  refine r_if2 (fun hb => ?_) (fun hb => ?_)
  · have hlt : pre.length < l.length := by have := of_decide_eq_true hb; omega
    refine ⟨fun σ' H'' => ∃ m', m' < rest.length ∧ SgW H l ts sp m' σ' H'', fun _ _ h => h, ?_⟩
    have hix : ∀ c r, rest = c :: r → l[pre.length]? = some c := fun c r e => by rw [hl, e, List.getElem?_append_right (Nat.le_refl _)]; simp
    have e0 : ((pre.length : Nat) : Int) + 1 = ((pre.length + 1 : Nat) : Int) := by omega
    cases hlx with
    | nil => simp at hll; omega
    | @sp r ts2 t =>
      walk_at "go"
      refine r_ixS (hix 32 r rfl) hl5 ?_
      walk_at "go"
      exact fin [32] r [] _ _ xs H' ts2 rfl (by simp) (by simp) rfl t s1 hsp (by simpa using hpr)
    | @sy c r t2 hc t =>
      obtain ⟨hc1, hc2⟩ := sym_not c hc
      walk_at "go"
      refine r_ixS (hix c r rfl) hl5 ?_
      walk_at "go"
      rw [decide_eq_false hc1]
      walk_at "go"
      rw [decide_eq_false hc2]
      walk_at "go"
      rw [decide_eq_true hc]
      walk_at "go"
      refine ⟨by show 2 ≤ sizeLine; decide, fun p2 n2 => ?_⟩
      have hsp2 := up_new hsp n2 (.tup [.str "symbol", .str (S [c])])
      have hp2 := PrsAt.add (a := (Tk.s c).at) hsp hpr n2
      walk_at "go"
      exact fin [c] r [.s c] _ _ _ _ t2 rfl (by simp) (by simp) rfl t (Same.mut (Same.trans s1 (Same.newo n2 _)) nsp _) upd_same (by rw [List.map_append]; exact hp2)
    | @wd x y r t2 h0 hx h8 hy t =>
      obtain ⟨c, x', ex⟩ : ∃ c x', x = c :: x' := by
        cases x with
        | nil => exact absurd rfl h0
        | cons c x' => exact ⟨c, x', rfl⟩
      have hc : c ∈ TL.tl lettersZ := hx c (by rw [ex]; simp)
      walk_at "go"
      refine r_ixS (hix c (x' ++ (y ++ r)) (by rw [ex]; rfl)) hl5 ?_
      walk_at "go"
      rw [decide_eq_true hc]
      walk_at "go"
      refine ⟨pre, x, y, r, by rw [hl]; rfl, hx, h8, hy, by rw [← hl]; exact hl5, ?_⟩
      walk_at "go"
      have hlb : pre.length + (x.length + y.length) ≤ l.length := by rw [hll]; simp <;> omega
      refine r_slS (Nat.le_add_right _ _) hlb hl5 ?_
      have e1 : (l.drop pre.length).take (pre.length + (x.length + y.length) - pre.length) = x ++ y := by
        rw [hl, List.drop_left, Nat.add_sub_cancel_left, ← List.append_assoc, ← List.length_append, List.take_left]
      rw [e1]
      walk_at "go"
      refine ⟨by show 2 ≤ sizeLine; decide, fun p2 n2 => ?_⟩
      have hsp2 := up_new hsp n2 (.tup [.str "word", .str (S (x ++ y))])
      have hp2 := PrsAt.add (a := (Tk.w (x ++ y)).at) hsp hpr n2
      walk_at "go"
      have := fin (x ++ y) r [.w (x ++ y)] (some (.str (S [c]))) (some (.int ((pre.length + (x.length + y.length) : Nat) : Int))) _ _ t2 (by simp) (by simp [h0]) (by simp) rfl t (Same.mut (Same.trans s1 (Same.newo n2 _)) nsp _) upd_same (by rw [List.map_append]; exact hp2)
      rw [show (x ++ y).length = x.length + y.length from List.length_append] at this
      exact this
    | @nm n r t2 hn hr' t =>
      obtain ⟨c, x', ex⟩ : ∃ c x', TL.numL n = c :: x' := by
        cases e : TL.numL n with
        | nil => exact absurd e (TL.numL_ne n)
        | cons c x' => exact ⟨c, x', rfl⟩
      have hc : c ∈ TL.tl digitsZ := num_digit (n := n) (by rw [ex]; simp)
      walk_at "go"
      refine r_ixS (hix c (x' ++ r) (by rw [ex]; rfl)) hl5 ?_
      walk_at "go"
      rw [decide_eq_false (dig_not c hc)]
      walk_at "go"
      rw [decide_eq_true hc]
      walk_at "go"
      refine ⟨pre, TL.numL n, r, digitsZ, by rw [hl]; rfl, fun c hc => num_digit hc, hr', by rw [← hl]; exact hl5, ?_⟩
      walk_at "go"
      have hlb : pre.length + (TL.numL n).length ≤ l.length := by rw [hll]; simp <;> omega
      refine r_slS (Nat.le_add_right _ _) hlb hl5 ?_
      have e1 : (l.drop pre.length).take (pre.length + (TL.numL n).length - pre.length) = TL.numL n := by
        rw [hl, List.drop_left, Nat.add_sub_cancel_left, List.take_left]
      rw [e1]
      walk_at "go"
      refine ⟨n, 0, 1000000, rfl, Nat.zero_le _, hn, hn, ?_⟩
      walk_at "go"
      refine ⟨by show 2 ≤ sizeLine; decide, fun p2 n2 => ?_⟩
      have hsp2 := up_new hsp n2 (.tup [.str "number", .int (n : Nat)])
      have hp2 := PrsAt.add (a := (Tk.n n).at) hsp hpr n2
      walk_at "go"
      exact fin (TL.numL n) r [.n n] _ _ _ _ t2 rfl (TL.numL_ne n) (by simp) rfl t (Same.mut (Same.trans s1 (Same.newo n2 _)) nsp _) upd_same (by rw [List.map_append]; exact hp2)
  · have hre : rest = [] := by
      have := of_decide_eq_false hb
      exact List.length_eq_zero_iff.mp (by omega)
    subst hre
    have e2 := lex_nil hlx rfl
    subst e2
    rw [List.append_nil] at hts
    walk_at "go"
    exact q sp H' xs s1 nsp hsp (by rw [hts]; exact hpr)
end
end K5
end

section
set_option linter.all false
set_option maxRecDepth 100000
/-! Names, labels, the reader. -/
namespace K5
open PySem PySem.Spec PyProof.Rows L2 SX
theorem r_sfa {K : PySem.W.Frag} {ta tv : TE} {rd : V → V → Hp → VK → Prop} {f : Str} {De : Ends} {σ : L2.St} {H : Hp} (h : ta σ H fun x H1 => ∃ a C dx fs v, x = .ref a ∧ H1 a = some (.ins C dx fs) ∧ Cls K C ∧ NoAttr K C f ∧ fs.lookup f = some v ∧
  tv σ H1 fun y H2 => rd v y H2 fun z H3 => ∃ dx' fs', H3 a = some (.ins C dx' fs') ∧ fs'.length < 1000 ∧ De.nx σ (upd H3 a (.ins C dx' (putF f z fs')))) : sFldAug K ta tv rd f De σ H := h
theorem r_rAdd {H : Hp} {Q : VK} {i j : Int} (h : Q (.int (i + j)) H) : rAdd (.int i) (.int j) H Q := ⟨i, j, rfl, rfl, h⟩
theorem r_m1E {r : V → List V → Hp → VK → Prop} {to te : TE} {σ : L2.St} {H : Hp} {Q : VK} (h : to σ H fun x H1 => (∃ a, x = .str a) ∧ te σ H1 fun y H2 => r x [y] H2 Q) : tM1 r to te σ H Q := h
theorem r_m0E {r : V → List V → Hp → VK → Prop} {to : TE} {σ : L2.St} {H : Hp} {Q : VK} (h : to σ H fun x H1 => (∃ a, x = .str a) ∧ r x [] H1 Q) : tM0 r to σ H Q := h
/- steps -/
local macro_rules | `(tactic| walk_at "sm") => `(tactic| first | assumption | exact Same.refl _ | (refine Same.mut ?_ (by assumption) _; walk_at "sm") | (refine Same.trans ?_ (Same.newo (by assumption) _); walk_at "sm") | (refine Same.trans ?_ (by assumption); walk_at "sm"))
local macro_rules | `(tactic| walk_at "hp") => `(tactic| first | assumption | exact upd_same | (refine up_new ?_ (by assumption) _; walk_at "hp") | (refine Same.up ?_ (by assumption) (by assumption); walk_at "sm") | (refine Same.look (by assumption) ?_; walk_at "hp"))
local macro_rules | `(tactic| walk_at "rep") => `(tactic| first | assumption | exact str_rep | exact int_rep | exact non_rep | (refine' Rep.s ?s ?h; (case h => assumption); (case s => walk_at "sm")))
local macro_rules | `(tactic| walk_at "if") => `(tactic| first | ((with_reducible refine' r_ifT ?e ?_); (case e => decide +kernel)) | ((with_reducible refine' r_ifF ?e ?_); (case e => decide +kernel)))
local macro_rules | `(tactic| walk_at "sz") => `(tactic| first | omega | decide | (simp only [List.length_map, List.length_append, List.length_cons, List.length_nil, List.length_take]; omega))
local macro_rules | `(tactic| walk_at "s") => `(tactic| first
  | with_reducible refine r_seq ?_ | with_reducible refine r_set ?_ | with_reducible refine r_asg ?_ | with_reducible refine r_ret ?_ | with_reducible refine r_drop ?_ | with_reducible refine r_next ?_ | with_reducible refine r_cont ?_ | with_reducible refine r_brk ?_
  | with_reducible refine r_if ?_ | with_reducible refine r_test ?_ | with_reducible refine r_tB ?_ | with_reducible refine r_bl ?_ | with_reducible refine r_and ?_ | with_reducible refine r_or ?_ | with_reducible refine r_not ?_
  | ((with_reducible refine' r_var ?e ?_); (case e => rfl)) | with_reducible refine r_c ?_ | with_reducible refine r_op ?_ | with_reducible refine r_un ?_ | with_reducible refine r_ifx ?_ | with_reducible refine r_andV ?_ | with_reducible refine r_orV ?_ | with_reducible refine r_notV ?_
  | with_reducible refine r_nil ?_ | with_reducible refine r_cons ?_ | with_reducible refine r_cb ?_ | with_reducible refine r_bm ?_ | with_reducible refine r_bm0 ?_ | with_reducible refine r_lst ?_ | with_reducible refine r_tup ?_ | with_reducible refine r_call ?_
  | with_reducible refine r_lc ?_ | with_reducible refine r_dc ?_ | with_reducible refine r_for ?_ | with_reducible refine r_iTup ?_ | with_reducible refine r_iList ?_ | with_reducible refine r_iEnum ?_ | with_reducible refine r_iRng1 ?_
  | with_reducible refine r_sl ?_ | with_reducible refine r_part ?_ | with_reducible refine r_nop ?_ | with_reducible refine r_int ?_ | with_reducible refine r_then ?_ | with_reducible refine r_yes ?_
  | with_reducible refine r_gname ?_ | with_reducible refine r_gcons ?_ | with_reducible refine r_gnil ?_
  | ((with_reducible refine' r_eq ?e ?_); (case e => rfl)) | ((with_reducible refine' r_ne ?e ?_); (case e => rfl)) | with_reducible refine r_I0 ?_
  | ((with_reducible refine' r_ixT0 ?e ?f ?_); (case e => walk_at "hp"); (case f => rfl)) | ((with_reducible refine' r_ixT1 ?e ?f ?_); (case e => walk_at "hp"); (case f => rfl)) | ((with_reducible refine' r_ixT2 ?e ?f ?_); (case e => walk_at "hp"); (case f => rfl)) | ((with_reducible refine' r_ixT3 ?e ?f ?_); (case e => walk_at "hp"); (case f => rfl)) | ((with_reducible refine' r_ixT4 ?e ?f ?_); (case e => walk_at "hp"); (case f => rfl)) | ((with_reducible refine' r_ixL0 ?e ?f ?_); (case e => walk_at "hp"); (case f => rfl)) | ((with_reducible refine' r_ixL1 ?e ?f ?_); (case e => walk_at "hp"); (case f => rfl)) | ((with_reducible refine' r_ixL2 ?e ?f ?_); (case e => walk_at "hp"); (case f => rfl)) | ((with_reducible refine' r_ixL3 ?e ?f ?_); (case e => walk_at "hp"); (case f => rfl)) | ((with_reducible refine' r_ixL4 ?e ?f ?_); (case e => walk_at "hp"); (case f => rfl))
  | ((with_reducible refine' r_ixT ?e ?f ?_); (case e => walk_at "hp"); (case f => rfl)) | ((with_reducible refine' r_ixL ?e ?f ?_); (case e => walk_at "hp"); (case f => rfl))
  | ((with_reducible refine' r_append ?e ?f ?_); (case e => walk_at "hp"); (case f => walk_at "sz")) | ((with_reducible refine' r_extend ?e ?e2 ?f ?_); (case e => walk_at "hp"); (case e2 => walk_at "hp"); (case f => walk_at "sz"))
  | with_reducible refine r_fldE ?_ | with_reducible refine r_methE ?_ | with_reducible refine r_make ?_ | with_reducible refine r_sfld ?_ | with_reducible refine r_iEnumT ?_ | with_reducible refine r_inSg ?_ | with_reducible refine r_ninSg ?_ | with_reducible refine r_bmfE ?_ | with_reducible refine r_dget1 ?_ | with_reducible refine r_chain ?_ | with_reducible refine r_m1E ?_ | with_reducible refine r_m0E ?_ | with_reducible refine r_sfa ?_ | with_reducible refine r_rAdd ?_
  | with_reducible refine r_dgetE ?_ | with_reducible refine r_dinE ?_ | with_reducible refine r_dninE ?_ | with_reducible refine r_dputE ?_ | with_reducible refine r_dnew ?_ | with_reducible refine r_neg ?_
  | ((with_reducible refine' r_truL ?e ?_); (case e => walk_at "hp"))
  | ((with_reducible refine' r_gtup ?e ?f ?_); (case e => walk_at "hp"); (case f => rfl))
  | ((with_reducible refine' r_tyL ?e ?_); (case e => walk_at "hp")) | walk_at "if")
local macro_rules | `(tactic| walk_at "go") => `(tactic| repeat walk_at "s")
/- steps end -/
theorem r_ninDot {z : Str} {H : Hp} {Q : VK} (h : Q (.bl (!decide (46 ∈ TL.tl z))) H) : rNotInS (.str ".") (.str z) H Q := ⟨46, z, by congr 1, rfl, h⟩
theorem r_notInKw {K : PySem.W.Frag} {H : Hp} {Q : VK} {p : Addr} {z : Str} {zs : List Str} (hp : SqT K H p (zs.map V.str)) (h : Q (.bl (!decide (z ∈ zs))) H) : rIn K true (.str z) (.ref p) H Q := by
  refine ⟨p, _, rfl, .inr hp, rfl, flat_strs zs, ?_⟩
  show Q (.bl (if true = true then !inV (.str z) (zs.map V.str) else _)) H
  rw [inV_str]; exact h
/-- a name -/
def NmOk (z : Str) : Prop := 46 ∉ TL.tl z ∧ z ∉ kwords
def spName : Sp := fun vs H Q _ => ∃ z, vs = [.str z] ∧ NmOk z ∧ Q (.bl true) H
/-- a label: a name, perhaps a dot and something without one -/
def LbOk (x : List Nat) : Prop := x.length ≤ 100 ∧ ∃ a b, x = a ++ b ∧ NmOk (S a) ∧ (b = [] ∨ ∃ c, b = 46 :: c ∧ 46 ∉ c)
def spLabel : Sp := fun vs H Q _ => ∃ x, vs = [.str (S x)] ∧ LbOk x ∧ ∀ H', Same H H' → Q (.bl true) H'
theorem split_lb {x : List Nat} (h : LbOk x) : ∃ a r, NmOk (S a) ∧ Txt.split (S x) "." = S a :: r := by
  obtain ⟨_, a, b, rfl, hn, hb⟩ := h
  have e : ("." : Str) = S [46] := TL.ext_tl (by decide +kernel)
  have ha : 46 ∉ a := hn.1
  rw [e, split_S (by simp) (by decide)]
  rcases hb with rfl | ⟨c, rfl, hc⟩
  · refine ⟨a, [], hn, ?_⟩
    rw [List.append_nil, TL.spl_last1 ha]; rfl
  · refine ⟨a, [S c], hn, ?_⟩
    have := TL.spl_part1 (s := 46) (S := []) (p := a) (rest := c) (acc := []) ha
    rw [show a ++ 46 :: c = a ++ ([46] ++ c) from rfl, this, TL.spl_last1 hc]; rfl
/-! a line that begins with no blank -/
theorem getD_S (l : List Nat) (k : Nat) : (S l).cps.getD k 0 = l.getD k 0 := by rw [← getD_list]
theorem strip_ne {c : Nat} {l : List Nat} (h : c ≠ 32) : Txt.stripChars (S (c :: l)) " " ≠ "" := by
  intro e
  have hg : (" " : Str).cps.contains c = false := by
    have e1 : (" " : Str).cps = #[32] := by decide +kernel
    rw [e1]; simp [h]
  have e2 : TL.tl (Txt.stripChars (S (c :: l)) " ") = [] := by rw [e]; decide +kernel
  unfold Txt.stripChars at e2
  rw [stripBy_eq] at e2
  obtain ⟨a1, a2, a3⟩ := lo_facts ((" " : Str).cps.contains) (S (c :: l))
  have hlo : stripLo ((" " : Str).cps.contains) true (S (c :: l)) = 0 := by
    by_cases h0 : stripLo ((" " : Str).cps.contains) true (S (c :: l)) = 0
    · exact h0
    · have := a2 0 (by omega)
      rw [getD_S] at this
      have h9 : (" " : Str).cps.contains c = true := this
      rw [hg] at h9
      cases h9
  rw [hlo] at e2
  obtain ⟨b1, b2, b3, b4⟩ := hi_facts ((" " : Str).cps.contains) (S (c :: l)) 0 (Nat.zero_le _)
  have hhi : stripHi ((" " : Str).cps.contains) true (S (c :: l)) 0 ≠ 0 := by
    intro h0
    have := b3 0 (by omega) (by rw [S_len]; simp)
    rw [getD_S] at this
    have h9 : (" " : Str).cps.contains c = true := this
    rw [hg] at h9
    cases h9
  rw [TL.tl_strSub] at e2
  have e3 := congrArg List.length e2
  have e4 : TL.tl (S (c :: l)) = c :: l := rfl
  rw [e4, List.length_take, List.length_drop] at e3
  have b2' := b2
  rw [S_len] at b2'
  simp only [List.length_cons, List.length_nil] at e3 b2'
  omega
theorem lstrip_same {c : Nat} {l : List Nat} (h : c ≠ 32) : Txt.lstripChars (S (c :: l)) " " = S (c :: l) := by
  unfold Txt.lstripChars
  have hlo : stripLo ((" " : Str).cps.contains) true (S (c :: l)) = 0 := by
    have e1 : (" " : Str).cps = #[32] := by decide +kernel
    simp [stripLo, e1, h]
  rw [stripBy_eq, hlo]
  have : stripHi ((" " : Str).cps.contains) false (S (c :: l)) 0 = (S (c :: l)).length := by simp [stripHi]
  rw [this]
  exact strSub_whole _
def spBlank : Sp := fun vs H Q _ => ∃ c l, vs = [.str (S (c :: l))] ∧ c ≠ 32 ∧ (c :: l).length ≤ 100000 ∧ Q (.bl false) H
section
variable {P : PySem.Program} {w : World} {K : PySem.W.Frag} {mg : Str → Option Value} {base : Heap}
theorem scName : FnScope ["word"] ["word"] (defScope (top 27)) := ⟨rfl, rfl, rfl, by decide +kernel, rfl, by decide +kernel, by decide +kernel⟩
theorem name_cal (T : Tx w K mg) : C8.Cal P w K mg base 1 "is_name" spName [] := by
  have g_KEYWORDS : ∃ u, mg "KEYWORDS" = some u ∧ RelV (.ref (He.ga K "KEYWORDS")) u := ⟨_, T.kw.1, rfl⟩
  refine cal T (i := 27) (by decide +kernel) scName (fun vs H Q E h => ?_) (fun _ _ _ _ _ _ us hl => match us, hl with | [_], _ => rfl) (fun cdv A outer s H vs Q E hr h => ?_)
  · obtain ⟨l, rfl, _⟩ := h
    rfl
  obtain ⟨z, rfl, ⟨h1, h2⟩, q⟩ := h
  refine ⟨_, (pss_one (ps_ret (pe_and (pe_cmpR op_notInS pe_str (pv 0) rfl) (pe_one (pe_cmpR op_notIn_seq (pv 0) (C8.pe_gc rfl g_KEYWORDS) rfl))))), ?_⟩
  walk_at "go"
  refine r_ninDot ?_
  rw [decide_eq_false h1]
  refine ⟨_, rfl, ?_⟩
  refine r_ifT rfl ?_
  walk_at "go"
  refine r_notInKw (T.kw.2 _) ?_
  rw [decide_eq_false h2]
  exact q
theorem scLabel : FnScope ["word"] ["word"] (defScope (top 28)) := ⟨rfl, rfl, rfl, by decide +kernel, rfl, by decide +kernel, by decide +kernel⟩
theorem label_cal (T : Tx w K mg) : C8.Cal P w K mg base 2 "is_label" spLabel [] := by
  have c_is_name : C8.Cal P w K mg base 1 "is_name" spName [] := name_cal T
  refine cal T (i := 28) (by decide +kernel) scLabel (fun vs H Q E h => ?_) (fun _ _ _ _ _ _ us hl => match us, hl with | [_], _ => rfl) (fun cdv A outer s H vs Q E hr h => ?_)
  · obtain ⟨l, rfl, _⟩ := h
    rfl
  obtain ⟨x, rfl, hx, q⟩ := h
  obtain ⟨a, r, hn, e⟩ := split_lb hx
  refine ⟨_, (pss_one (ps_ret (C8.pe_c c_is_name hr (by omega) rfl (pa_cons (pe_ix ix_list (L2.pe_split (pv 0) pe_str) pe_int (fun _ _ => rfl)) pa_nil)))), ?_⟩
  walk_at "go"
  refine ⟨⟨_, rfl⟩, ?_⟩
  walk_at "go"
  refine ⟨S x, ".", rfl, rfl, by decide +kernel, by rw [S_len]; have := hx.1; exact Nat.le_trans (by omega : x.length + 2 ≤ 100000) (sz (Nat.le_refl _)), fun p np => ?_⟩
  walk_at "go"
  refine r_ixL0 (v := .str (S a)) upd_same (by rw [e]; rfl) ?_
  walk_at "go"
  exact ⟨S a, rfl, hn, q _ (Same.newo np _)⟩
theorem scBlank : FnScope ["line"] ["line"] (defScope (top 30)) := ⟨rfl, rfl, rfl, by decide +kernel, rfl, by decide +kernel, by decide +kernel⟩
theorem blank_cal (T : Tx w K mg) : C8.Cal P w K mg base 1 "is_blank" spBlank [] := by
  refine cal T (i := 30) (by decide +kernel) scBlank (fun vs H Q E h => ?_) (fun _ _ _ _ _ _ us hl => match us, hl with | [_], _ => rfl) (fun cdv A outer s H vs Q E hr h => ?_)
  · obtain ⟨c, l, rfl, _⟩ := h
    rfl
  obtain ⟨c, l, rfl, hc, hl, q⟩ := h
  refine ⟨_, (pss_one (ps_ret (pe_cmpR op_eq (L2.pe_m1 PySem.F.slot_str_strip PySem.F.type_str_strip mt_stripChars (pv 0) pe_str) pe_str (nomark _)))), ?_⟩
  walk_at "go"
  refine ⟨⟨_, rfl⟩, ?_⟩
  walk_at "go"
  refine ⟨S (c :: l), " ", rfl, rfl, sz (by rw [S_len]; exact hl), ?_⟩
  walk_at "go"
  rw [decide_eq_false (fun e => strip_ne hc (V.str.inj e))]
  exact q
end
end K5
end

section
set_option linter.all false
set_option maxRecDepth 100000
/-! The reader. -/
namespace K5
open PySem PySem.Spec PyProof.Rows L2 SX
/- steps -/
local macro_rules | `(tactic| walk_at "sm") => `(tactic| first | assumption | exact Same.refl _ | (refine Same.mut ?_ (by assumption) _; walk_at "sm") | (refine Same.trans ?_ (Same.newo (by assumption) _); walk_at "sm") | (refine Same.trans ?_ (by assumption); walk_at "sm"))
local macro_rules | `(tactic| walk_at "hp") => `(tactic| first | assumption | exact upd_same | (refine up_new ?_ (by assumption) _; walk_at "hp") | (refine Same.up ?_ (by assumption) (by assumption); walk_at "sm") | (refine Same.look (by assumption) ?_; walk_at "hp"))
local macro_rules | `(tactic| walk_at "rep") => `(tactic| first | assumption | exact str_rep | exact int_rep | exact non_rep | (refine' Rep.s ?s ?h; (case h => assumption); (case s => walk_at "sm")))
local macro_rules | `(tactic| walk_at "if") => `(tactic| first | ((with_reducible refine' r_ifT ?e ?_); (case e => decide +kernel)) | ((with_reducible refine' r_ifF ?e ?_); (case e => decide +kernel)))
local macro_rules | `(tactic| walk_at "sz") => `(tactic| first | omega | decide | (simp only [List.length_map, List.length_append, List.length_cons, List.length_nil, List.length_take]; omega))
local macro_rules | `(tactic| walk_at "s") => `(tactic| first
  | with_reducible refine r_seq ?_ | with_reducible refine r_set ?_ | with_reducible refine r_asg ?_ | with_reducible refine r_ret ?_ | with_reducible refine r_drop ?_ | with_reducible refine r_next ?_ | with_reducible refine r_cont ?_ | with_reducible refine r_brk ?_
  | with_reducible refine r_if ?_ | with_reducible refine r_test ?_ | with_reducible refine r_tB ?_ | with_reducible refine r_bl ?_ | with_reducible refine r_and ?_ | with_reducible refine r_or ?_ | with_reducible refine r_not ?_
  | ((with_reducible refine' r_var ?e ?_); (case e => rfl)) | with_reducible refine r_c ?_ | with_reducible refine r_op ?_ | with_reducible refine r_un ?_ | with_reducible refine r_ifx ?_ | with_reducible refine r_andV ?_ | with_reducible refine r_orV ?_ | with_reducible refine r_notV ?_
  | with_reducible refine r_nil ?_ | with_reducible refine r_cons ?_ | with_reducible refine r_cb ?_ | with_reducible refine r_bm ?_ | with_reducible refine r_bm0 ?_ | with_reducible refine r_lst ?_ | with_reducible refine r_tup ?_ | with_reducible refine r_call ?_
  | with_reducible refine r_lc ?_ | with_reducible refine r_dc ?_ | with_reducible refine r_for ?_ | with_reducible refine r_iTup ?_ | with_reducible refine r_iList ?_ | with_reducible refine r_iEnum ?_ | with_reducible refine r_iRng1 ?_
  | with_reducible refine r_sl ?_ | with_reducible refine r_part ?_ | with_reducible refine r_nop ?_ | with_reducible refine r_int ?_ | with_reducible refine r_then ?_ | with_reducible refine r_yes ?_
  | with_reducible refine r_gname ?_ | with_reducible refine r_gcons ?_ | with_reducible refine r_gnil ?_
  | ((with_reducible refine' r_eq ?e ?_); (case e => rfl)) | ((with_reducible refine' r_ne ?e ?_); (case e => rfl)) | with_reducible refine r_I0 ?_
  | ((with_reducible refine' r_ixT0 ?e ?f ?_); (case e => walk_at "hp"); (case f => rfl)) | ((with_reducible refine' r_ixT1 ?e ?f ?_); (case e => walk_at "hp"); (case f => rfl)) | ((with_reducible refine' r_ixT2 ?e ?f ?_); (case e => walk_at "hp"); (case f => rfl)) | ((with_reducible refine' r_ixT3 ?e ?f ?_); (case e => walk_at "hp"); (case f => rfl)) | ((with_reducible refine' r_ixT4 ?e ?f ?_); (case e => walk_at "hp"); (case f => rfl)) | ((with_reducible refine' r_ixL0 ?e ?f ?_); (case e => walk_at "hp"); (case f => rfl)) | ((with_reducible refine' r_ixL1 ?e ?f ?_); (case e => walk_at "hp"); (case f => rfl)) | ((with_reducible refine' r_ixL2 ?e ?f ?_); (case e => walk_at "hp"); (case f => rfl)) | ((with_reducible refine' r_ixL3 ?e ?f ?_); (case e => walk_at "hp"); (case f => rfl)) | ((with_reducible refine' r_ixL4 ?e ?f ?_); (case e => walk_at "hp"); (case f => rfl))
  | ((with_reducible refine' r_ixT ?e ?f ?_); (case e => walk_at "hp"); (case f => rfl)) | ((with_reducible refine' r_ixL ?e ?f ?_); (case e => walk_at "hp"); (case f => rfl))
  | ((with_reducible refine' r_append ?e ?f ?_); (case e => walk_at "hp"); (case f => walk_at "sz")) | ((with_reducible refine' r_extend ?e ?e2 ?f ?_); (case e => walk_at "hp"); (case e2 => walk_at "hp"); (case f => walk_at "sz"))
  | with_reducible refine r_fldE ?_ | with_reducible refine r_methE ?_ | with_reducible refine r_make ?_ | with_reducible refine r_sfld ?_ | with_reducible refine r_iEnumT ?_ | with_reducible refine r_inSg ?_ | with_reducible refine r_ninSg ?_ | with_reducible refine r_bmfE ?_ | with_reducible refine r_dget1 ?_ | with_reducible refine r_chain ?_ | with_reducible refine r_m1E ?_ | with_reducible refine r_m0E ?_ | with_reducible refine r_sfa ?_ | with_reducible refine r_rAdd ?_
  | with_reducible refine r_dgetE ?_ | with_reducible refine r_dinE ?_ | with_reducible refine r_dninE ?_ | with_reducible refine r_dputE ?_ | with_reducible refine r_dnew ?_ | with_reducible refine r_neg ?_
  | ((with_reducible refine' r_truL ?e ?_); (case e => walk_at "hp"))
  | ((with_reducible refine' r_gtup ?e ?f ?_); (case e => walk_at "hp"); (case f => rfl))
  | ((with_reducible refine' r_tyL ?e ?_); (case e => walk_at "hp")) | walk_at "if")
local macro_rules | `(tactic| walk_at "go") => `(tactic| repeat walk_at "s")
/- steps end -/
def pk : List Tk → Atm × Atm
  | [] => (.non, .non)
  | t :: _ => t.at
def rfs (l : Addr) (i : Nat) : List (Str × V) := [("signs", .ref l), ("place", .int (i : Nat))]
/-- a reader at p with these signs left -/
def RdAt (K : PySem.W.Frag) (H : Hp) (p : Addr) (rest : List Tk) : Prop :=
  ∃ (dx l : Addr) (xs : List V) (i : Nat) (ts : List Tk), H p = some (.ins (He.ga K "Reader") dx (rfs l i)) ∧ H l = some (.lst xs) ∧ PrsAt H xs (ts.map Tk.at) ∧ rest = ts.drop i ∧ i ≤ ts.length ∧ ts.length ≤ 10000 ∧ ∀ t ∈ ts, ok2 t.at
theorem put_rfs (l : Addr) (i j : Nat) : putF "place" (.int (j : Nat)) (rfs l i) = rfs l j := rfl
theorem RdAt.s {K : PySem.W.Frag} {H H' : Hp} (s : Same H H') {p : Addr} {rest : List Tk} (h : RdAt K H p rest) : RdAt K H' p rest := by
  obtain ⟨dx, l, xs, i, ts, h1, h2, h3, h4⟩ := h
  exact ⟨dx, l, xs, i, ts, s _ _ h1, s _ _ h2, h3.s s, h4⟩
theorem RdAt.nt {K : PySem.W.Frag} {H : Hp} {p : Addr} {rest : List Tk} (h : RdAt K H p rest) : ∀ zs, H p ≠ some (.tup zs) := by
  obtain ⟨dx, l, xs, i, ts, h1, _⟩ := h
  intro zs e
  rw [h1] at e; cases e
theorem pk_ok {K : PySem.W.Frag} {H : Hp} {p : Addr} {rest : List Tk} (h : RdAt K H p rest) : ok2 (pk rest) := by
  obtain ⟨dx, l, xs, i, ts, h1, h2, h3, rfl, h5, h6, h7⟩ := h
  cases e : ts.drop i with
  | nil => exact ⟨rfl, rfl⟩
  | cons t r => exact h7 t (List.mem_of_mem_drop (by rw [e]; simp))
section
variable {P : PySem.Program} {w : World} {K : PySem.W.Frag} {mg : Str → Option Value} {base : Heap}
theorem rd_cls (T : Tx w K mg) : Cls K (He.ga K "Reader") := (T.cls "Reader" (by decide +kernel)).2.1
theorem rd_no (T : Tx w K mg) {f : Str} (h : (("Reader" : Str), f) ∈ noats) : NoAttr K (He.ga K "Reader") f := T.noat _ h
/-- Reader(signs) -/
def spRdInit (K : PySem.W.Frag) : Sp := fun vs H Q _ => ∃ (x dx l : Addr), vs = [.ref x, .ref l] ∧ H x = some (.ins (He.ga K "Reader") dx []) ∧ Q .non (upd (upd H x (.ins (He.ga K "Reader") dx [("signs", .ref l)])) x (.ins (He.ga K "Reader") dx (rfs l 0)))
theorem scRdInit : FnScope ["self", "signs"] ["self", "signs"] (defScope (mth 29 0)) := ⟨rfl, rfl, rfl, by decide +kernel, rfl, by decide +kernel, by decide +kernel⟩
theorem rdinit_mak (T : Tx w K mg) : C8.Mak P w K mg base 1 "Reader" (He.ga K "Reader") (spRdInit K) [] := by
  have cR := rd_cls T
  have n1 := rd_no T (f := "signs") (by decide +kernel)
  have n2 := rd_no T (f := "place") (by decide +kernel)
  refine mak T (i := 29) (j := 0) (q := "Reader.__init__") (by decide +kernel) (by decide +kernel) scRdInit (fun vs H Q E h => ?_) (fun _ _ _ _ _ _ us hl => match us, hl with | [_, _], _ => rfl) (fun cdv A outer s H vs Q E hr h => ?_)
  · obtain ⟨x, _, _, rfl, _⟩ := h
    rfl
  obtain ⟨x, dx, l, rfl, hx, q⟩ := h
  refine ⟨_, (pss_cons (ps_fld (pv 0) (pv 1) rfl)
(pss_one (ps_fld (pv 0) pe_int rfl))), ?_⟩
  walk_at "go"
  refine r_sfl hx cR n1 (Nat.lt_of_le_of_lt lp0 (by decide)) ?_
  walk_at "go"
  refine r_sfl upd_same cR n2 (Nat.lt_of_le_of_lt (lp lp0) (by decide)) ?_
  exact q
/-- peek() -/
def spPeek (K : PySem.W.Frag) : Sp := fun vs H Q _ => ∃ (p : Addr) (rest : List Tk), vs = [.ref p] ∧ RdAt K H p rest ∧ ∀ q H', Same H H' → H' q = some (.tup [(pk rest).1.v, (pk rest).2.v]) → Q (.ref q) H'
theorem scPeek : FnScope ["self"] ["self"] (defScope (mth 29 1)) := ⟨rfl, rfl, rfl, by decide +kernel, rfl, by decide +kernel, by decide +kernel⟩
theorem peek_met (T : Tx w K mg) : C8.Met P w K mg base 1 (He.ga K "Reader") "peek" (spPeek K) [] := by
  have cR := rd_cls T
  have n1 := rd_no T (f := "signs") (by decide +kernel)
  have n2 := rd_no T (f := "place") (by decide +kernel)
  have m_len := T.free "len" (by decide +kernel)
  refine met T (i := 29) (j := 1) (q := "Reader.peek") (by decide +kernel) (by decide +kernel) scPeek (fun vs H Q E h => ?_) (fun _ _ _ _ _ _ us hl => match us, hl with | [_], _ => rfl) (fun cdv A outer s H vs Q E hr h => ?_)
  · obtain ⟨p, _, rfl, _⟩ := h
    rfl
  obtain ⟨p, rest, rfl, ⟨dx, l, xs, i, ts, h1, h2, h3, rfl, h5, h6, h7⟩, q⟩ := h
  refine ⟨_, (pss_cons (ps_if (pt_cmpR op_lt (pe_fld (pv 0) rfl) (pe_callB call_len_seq rfl m_len PySem.boot_len (pa_cons (pe_fld (pv 0) rfl) pa_nil)) (nomark _))
(pss_one (ps_ret (pe_ix ix_list (pe_fld (pv 0) rfl) (pe_fld (pv 0) rfl) (fun _ _ => rfl))))
pss_nil)
(pss_one (ps_ret (pe_tup (pa_cons pe_non (pa_cons pe_non pa_nil)))))), ?_⟩
  have hlx : xs.length = ts.length := by have := Paired.length h3; simpa using this.symm
  walk_at "go"
  refine r_fl h1 cR n2 rfl ?_
  walk_at "go"
  refine r_fl h1 cR n1 rfl ?_
  refine ⟨l, xs, rfl, .inl (SqL.of h2), ?_⟩
  rw [hlx]
  walk_at "go"
  refine r_if2 (fun hb => ?_) (fun hb => ?_)
  · have hlt : i < ts.length := by have := of_decide_eq_true hb; omega
    obtain ⟨x, hx⟩ : ∃ x, xs[i]? = some x := ⟨_, List.getElem?_eq_getElem (by omega)⟩
    obtain ⟨z, hz, pp, rfl, hpp⟩ := paired_got h3 hx
    rw [List.getElem?_map, List.getElem?_eq_getElem hlt] at hz
    have ez : ts[i].at = z := by simpa using hz
    have ed : ts.drop i = ts[i] :: ts.drop (i + 1) := List.drop_eq_getElem_cons hlt
    walk_at "go"
    refine r_fl h1 cR n1 rfl ?_
    walk_at "go"
    refine r_fl h1 cR n2 rfl ?_
    refine r_ixL (k := ((i : Nat) : Int)) h2 (atI_nat hx) ?_
    refine q pp H (Same.refl _) ?_
    rw [ed]
    show H pp = some (.tup [ts[i].at.1.v, ts[i].at.2.v])
    rw [ez]; exact hpp
  · have hlt : ts.length ≤ i := by have := of_decide_eq_false hb; omega
    have ed : ts.drop i = [] := List.drop_eq_nil_of_le hlt
    walk_at "go"
    refine ⟨by show 2 ≤ sizeLine; decide, fun p2 n2 => ?_⟩
    refine q p2 _ (Same.newo n2 _) ?_
    rw [ed, upd_same]; rfl
/-- take(), a sign is left -/
def spTake (K : PySem.W.Frag) : Sp := fun vs H Q _ => ∃ (p : Addr) (t : Tk) (rest : List Tk), vs = [.ref p] ∧ RdAt K H p (t :: rest) ∧ ∀ q H', But p H H' → RdAt K H' p rest → H' q = some (.tup [t.at.1.v, t.at.2.v]) → Q (.ref q) H'
theorem RdAt.step {K : PySem.W.Frag} {H H1 : Hp} {p : Addr} {t : Tk} {rest : List Tk} (h : RdAt K H p (t :: rest)) (s : Same H H1) :
    ∃ dx l i, H1 p = some (.ins (He.ga K "Reader") dx (rfs l i)) ∧ But p H (upd H1 p (.ins (He.ga K "Reader") dx (rfs l (i + 1)))) ∧ RdAt K (upd H1 p (.ins (He.ga K "Reader") dx (rfs l (i + 1)))) p rest ∧
      ∀ q xs, H1 q = some (.tup xs) → upd H1 p (.ins (He.ga K "Reader") dx (rfs l (i + 1))) q = some (.tup xs) := by
  obtain ⟨dx, l, xs, i, ts, h1, h2, h3, h4, h5, h6, h7⟩ := h
  have h1' := s _ _ h1
  have hlt : i < ts.length := by
    have := congrArg List.length h4
    rw [List.length_drop, List.length_cons] at this
    omega
  have ed : ts.drop i = ts[i] :: ts.drop (i + 1) := List.drop_eq_getElem_cons hlt
  rw [ed] at h4
  have nt : ∀ q xs, H1 q = some (.tup xs) → upd H1 p (.ins (He.ga K "Reader") dx (rfs l (i + 1))) q = some (.tup xs) := fun q zs hq => by
    rw [upd_ne (ne_of hq h1' (by intro z; cases z))]; exact hq
  refine ⟨dx, l, i, h1', fun b o n hb => by rw [upd_ne n]; exact s _ _ hb, ⟨dx, l, xs, i + 1, ts, upd_same, ?_, (h3.s s).te nt, (List.cons.inj h4).2, hlt, h6, h7⟩, nt⟩
  rw [upd_ne (ne_of (s _ _ h2) h1' (by intro z; cases z))]; exact s _ _ h2
theorem scTake : FnScope ["self", "sign"] ["self"] (defScope (mth 29 2)) := ⟨rfl, rfl, rfl, by decide +kernel, rfl, by decide +kernel, by decide +kernel⟩
theorem take_met (T : Tx w K mg) : C8.Met P w K mg base 2 (He.ga K "Reader") "take" (spTake K) [] := by
  have cR := rd_cls T
  have n2 := rd_no T (f := "place") (by decide +kernel)
  have m_peek : C8.Met P w K mg base 1 (He.ga K "Reader") "peek" (spPeek K) [] := peek_met T
  refine met T (i := 29) (j := 2) (q := "Reader.take") (by decide +kernel) (by decide +kernel) scTake (fun vs H Q E h => ?_) (fun _ _ _ _ _ _ us hl => match us, hl with | [_], _ => rfl) (fun cdv A outer s H vs Q E hr h => ?_)
  · obtain ⟨p, _, _, rfl, _⟩ := h
    rfl
  obtain ⟨p, t, rest, rfl, hR, q⟩ := h
  have hR' := hR
  obtain ⟨dx0, l0, xs0, i0, ts0, h01, _⟩ := hR'
  refine ⟨_, (pss_cons (ps_set (i := 1) scTake.nd rfl (.inl rfl) (C8.pe_mt0 (pl := L2.plainOf _ _) m_peek hr (by omega) (pv 0)))
(pss_cons (ps_fldaug (pv 0) pe_int in_add)
(pss_one (ps_ret (pv 1))))), ?_⟩
  walk_at "go"
  refine r_me h01 rfl ?_
  walk_at "go"
  refine ⟨p, t :: rest, rfl, hR, fun qq H1 s1 hq => ?_⟩
  obtain ⟨dx, l, i, h1, b1, r1, k1⟩ := hR.step s1
  walk_at "go"
  refine ⟨p, _, dx, rfs l i, _, rfl, h1, cR, n2, rfl, ?_⟩
  walk_at "go"
  refine ⟨dx, rfs l i, h1, Nat.lt_of_le_of_lt (Nat.le_refl 2) (by decide), ?_⟩
  have e : ((i : Nat) : Int) + 1 = ((i + 1 : Nat) : Int) := by omega
  rw [e, put_rfs]
  walk_at "go"
  exact q qq _ b1 r1 (k1 _ _ hq)
/-- skip(kind, value) -/
def spSkip (K : PySem.W.Frag) : Sp := fun vs H Q _ => ∃ (p : Addr) (rest : List Tk) (k v : Str), vs = [.ref p, .str k, .str v] ∧ RdAt K H p rest ∧ PyData.strOk k = true ∧ PyData.strOk v = true ∧
  (pk rest = (.str k, .str v) → ∀ H' t r, rest = t :: r → But p H H' → RdAt K H' p r → Q (.bl true) H') ∧ (pk rest ≠ (.str k, .str v) → ∀ H', But p H H' → RdAt K H' p rest → Q (.bl false) H')
theorem scSkip : FnScope ["self", "kind", "value"] ["self", "kind", "value"] (defScope (mth 29 3)) := ⟨rfl, rfl, rfl, by decide +kernel, rfl, by decide +kernel, by decide +kernel⟩
theorem skip_met (T : Tx w K mg) : C8.Met P w K mg base 2 (He.ga K "Reader") "skip" (spSkip K) [] := by
  have cR := rd_cls T
  have n2 := rd_no T (f := "place") (by decide +kernel)
  have m_peek : C8.Met P w K mg base 1 (He.ga K "Reader") "peek" (spPeek K) [] := peek_met T
  refine met T (i := 29) (j := 3) (q := "Reader.skip") (by decide +kernel) (by decide +kernel) scSkip (fun vs H Q E h => ?_) (fun _ _ _ _ _ _ us hl => match us, hl with | [_, _, _], _ => rfl) (fun cdv A outer s H vs Q E hr h => ?_)
  · obtain ⟨p, _, _, _, rfl, _⟩ := h
    rfl
  obtain ⟨p, rest, k, v, rfl, hR, hk, hv, q1, q2⟩ := h
  have hu := hu64 hr
  have hR' := hR
  obtain ⟨dx0, l0, xs0, i0, ts0, h01, _⟩ := hR'
  refine ⟨_, (pss_cons (ps_if (pt_cmpR (op_eqD hu) (C8.pe_mt0 (pl := L2.plainOf _ _) m_peek hr (by omega) (pv 0)) (pe_tup (pa_cons (pv 1) (pa_cons (pv 2) pa_nil))) (nomark _))
(pss_cons (ps_fldaug (pv 0) pe_int in_add)
(pss_one (ps_ret pe_bl)))
pss_nil)
(pss_one (ps_ret pe_bl))), ?_⟩
  walk_at "go"
  refine r_me h01 rfl ?_
  walk_at "go"
  refine ⟨p, rest, rfl, hR, fun qq H1 s1 hq => ?_⟩
  walk_at "go"
  refine ⟨by show 2 ≤ sizeLine; decide, fun p2 np2 => ?_⟩
  refine r_eqP (c := .str k) (d := .str v) (pk_ok hR) ⟨hk, hv⟩ (up_new hq np2 _) upd_same ?_
  walk_at "go"
  have s2 : Same H (upd H1 p2 (.tup [.str k, .str v])) := Same.trans s1 (Same.newo np2 _)
  refine r_if2 (fun hb => ?_) (fun hb => ?_)
  · have hb' : pk rest = (.str k, .str v) := of_decide_eq_true hb
    cases rest with
    | nil => cases hb'
    | cons t r =>
      obtain ⟨dx, l, i, h1, b1, r1, k1⟩ := hR.step s2
      walk_at "go"
      refine ⟨p, _, dx, rfs l i, _, rfl, h1, cR, n2, rfl, ?_⟩
      walk_at "go"
      refine ⟨dx, rfs l i, h1, Nat.lt_of_le_of_lt (Nat.le_refl 2) (by decide), ?_⟩
      have e : ((i : Nat) : Int) + 1 = ((i + 1 : Nat) : Int) := by omega
      rw [e, put_rfs]
      walk_at "go"
      exact q1 hb' _ t r rfl b1 r1
  · have hb' : pk rest ≠ (.str k, .str v) := of_decide_eq_false hb
    walk_at "go"
    exact q2 hb' _ (But.of s2) (hR.s s2)
/-- expect(kind, value): it stands next -/
def spExpect (K : PySem.W.Frag) : Sp := fun vs H Q _ => ∃ (p : Addr) (t : Tk) (rest : List Tk) (k v : Str), vs = [.ref p, .str k, .str v] ∧ RdAt K H p (t :: rest) ∧ PyData.strOk k = true ∧ PyData.strOk v = true ∧ t.at = (.str k, .str v) ∧
  ∀ H', But p H H' → RdAt K H' p rest → Q .non H'
theorem scExpect : FnScope ["self", "kind", "value"] ["self", "kind", "value"] (defScope (mth 29 4)) := ⟨rfl, rfl, rfl, by decide +kernel, rfl, by decide +kernel, by decide +kernel⟩
theorem expect_met (T : Tx w K mg) : C8.Met P w K mg base 3 (He.ga K "Reader") "expect" (spExpect K) [] := by
  have m_skip : C8.Met P w K mg base 2 (He.ga K "Reader") "skip" (spSkip K) [] := skip_met T
  refine met T (i := 29) (j := 4) (q := "Reader.expect") (by decide +kernel) (by decide +kernel) scExpect (fun vs H Q E h => ?_) (fun _ _ _ _ _ _ us hl => match us, hl with | [_, _, _], _ => rfl) (fun cdv A outer s H vs Q E hr h => ?_)
  · obtain ⟨p, _, _, _, _, rfl, _⟩ := h
    rfl
  obtain ⟨p, t, rest, k, v, rfl, hR, hk, hv, ht, q⟩ := h
  have hR' := hR
  obtain ⟨dx0, l0, xs0, i0, ts0, h01, _⟩ := hR'
  refine ⟨_, (pss_one (ps_if (pt_not (pt_val (C8.pe_mt (pl := L2.plainOf _ _) m_skip hr (by omega) (pv 0) (pa_cons (pv 1) (pa_cons (pv 2) pa_nil)))))
(pss_one ps_never)
pss_nil)), ?_⟩
  walk_at "go"
  refine r_me h01 rfl ?_
  walk_at "go"
  refine ⟨p, t :: rest, k, v, rfl, hR, hk, hv, fun _ H' t' r e b r' => ?_, fun h => absurd ht h⟩
  cases e
  walk_at "go"
  exact q H' b r'
/-- take_name() -/
def spTName (K : PySem.W.Frag) : Sp := fun vs H Q _ => ∃ (p : Addr) (x : List Nat) (rest : List Tk), vs = [.ref p] ∧ RdAt K H p (.w x :: rest) ∧ NmOk (S x) ∧ ∀ H', But p H H' → RdAt K H' p rest → Q (.str (S x)) H'
theorem scTName : FnScope ["self", "kind", "value"] ["self"] (defScope (mth 29 5)) := ⟨rfl, rfl, rfl, by decide +kernel, rfl, by decide +kernel, by decide +kernel⟩
theorem tname_met (T : Tx w K mg) : C8.Met P w K mg base 3 (He.ga K "Reader") "take_name" (spTName K) [] := by
  have m_take : C8.Met P w K mg base 2 (He.ga K "Reader") "take" (spTake K) [] := take_met T
  have c_is_name : C8.Cal P w K mg base 1 "is_name" spName [] := name_cal T
  refine met T (i := 29) (j := 5) (q := "Reader.take_name") (by decide +kernel) (by decide +kernel) scTName (fun vs H Q E h => ?_) (fun _ _ _ _ _ _ us hl => match us, hl with | [_], _ => rfl) (fun cdv A outer s H vs Q E hr h => ?_)
  · obtain ⟨p, _, _, rfl, _⟩ := h
    rfl
  obtain ⟨p, x, rest, rfl, hR, hn, q⟩ := h
  have hR' := hR
  obtain ⟨dx0, l0, xs0, i0, ts0, h01, _⟩ := hR'
  refine ⟨_, (pss_cons (ps_asg (C8.pe_mt0 (pl := L2.plainOf _ _) m_take hr (by omega) (pv 0)) (pg_tup rfl (pgs_cons (pg_name (i := 1) scTName.nd rfl (.inl rfl)) (pgs_cons (pg_name (i := 2) scTName.nd rfl (.inl rfl)) pgs_nil))))
(pss_cons (ps_if (PW.pt (pw_or (pt_cmpR op_ne (pv 1) pe_str (nomark _)) (pw_or1 (pt_not (pt_val (C8.pe_c c_is_name hr (by omega) rfl (pa_cons (pv 2) pa_nil)))))))
(pss_one ps_never)
pss_nil)
(pss_one (ps_ret (pv 2))))), ?_⟩
  walk_at "go"
  refine r_me h01 rfl ?_
  walk_at "go"
  refine ⟨p, .w x, rest, rfl, hR, fun qq H' b r' hq => ?_⟩
  replace hq : H' qq = some (.tup [.str "word", .str (S x)]) := hq
  walk_at "go"
  refine ⟨S x, rfl, hn, ?_⟩
  walk_at "go"
  exact q H' b r'
/-- take_label() -/
def spTLabel (K : PySem.W.Frag) : Sp := fun vs H Q _ => ∃ (p : Addr) (x : List Nat) (rest : List Tk), vs = [.ref p] ∧ RdAt K H p (.w x :: rest) ∧ LbOk x ∧ ∀ H', But p H H' → RdAt K H' p rest → Q (.str (S x)) H'
theorem scTLabel : FnScope ["self", "kind", "value"] ["self"] (defScope (mth 29 6)) := ⟨rfl, rfl, rfl, by decide +kernel, rfl, by decide +kernel, by decide +kernel⟩
theorem tlabel_met (T : Tx w K mg) : C8.Met P w K mg base 3 (He.ga K "Reader") "take_label" (spTLabel K) [] := by
  have m_take : C8.Met P w K mg base 2 (He.ga K "Reader") "take" (spTake K) [] := take_met T
  have c_is_label : C8.Cal P w K mg base 2 "is_label" spLabel [] := label_cal T
  refine met T (i := 29) (j := 6) (q := "Reader.take_label") (by decide +kernel) (by decide +kernel) scTLabel (fun vs H Q E h => ?_) (fun _ _ _ _ _ _ us hl => match us, hl with | [_], _ => rfl) (fun cdv A outer s H vs Q E hr h => ?_)
  · obtain ⟨p, _, _, rfl, _⟩ := h
    rfl
  obtain ⟨p, x, rest, rfl, hR, hn, q⟩ := h
  have hR' := hR
  obtain ⟨dx0, l0, xs0, i0, ts0, h01, _⟩ := hR'
  refine ⟨_, (pss_cons (ps_asg (C8.pe_mt0 (pl := L2.plainOf _ _) m_take hr (by omega) (pv 0)) (pg_tup rfl (pgs_cons (pg_name (i := 1) scTLabel.nd rfl (.inl rfl)) (pgs_cons (pg_name (i := 2) scTLabel.nd rfl (.inl rfl)) pgs_nil))))
(pss_cons (ps_if (PW.pt (pw_or (pt_cmpR op_ne (pv 1) pe_str (nomark _)) (pw_or1 (pt_not (pt_val (C8.pe_c c_is_label hr (by omega) rfl (pa_cons (pv 2) pa_nil)))))))
(pss_one ps_never)
pss_nil)
(pss_one (ps_ret (pv 2))))), ?_⟩
  walk_at "go"
  refine r_me h01 rfl ?_
  walk_at "go"
  refine ⟨p, .w x, rest, rfl, hR, fun qq H' b r' hq => ?_⟩
  replace hq : H' qq = some (.tup [.str "word", .str (S x)]) := hq
  walk_at "go"
  refine ⟨x, rfl, hn, fun H2 s2 => ?_⟩
  walk_at "go"
  exact q H2 (b.trans (But.of s2)) (r'.s s2)
/-- take_target() -/
def spTTarget (K : PySem.W.Frag) : Sp := fun vs H Q _ => ∃ (p : Addr) (x : List Nat) (rest : List Tk), vs = [.ref p] ∧ RdAt K H p (.w x :: rest) ∧ (S x = "exit" ∨ (S x ≠ "exit" ∧ LbOk x)) ∧ ∀ H', But p H H' → RdAt K H' p rest → Q (.str (S x)) H'
theorem scTTarget : FnScope ["self"] ["self"] (defScope (mth 29 7)) := ⟨rfl, rfl, rfl, by decide +kernel, rfl, by decide +kernel, by decide +kernel⟩
theorem ttarget_met (T : Tx w K mg) : C8.Met P w K mg base 4 (He.ga K "Reader") "take_target" (spTTarget K) [] := by
  have m_skip : C8.Met P w K mg base 2 (He.ga K "Reader") "skip" (spSkip K) [] := skip_met T
  have m_take_label : C8.Met P w K mg base 3 (He.ga K "Reader") "take_label" (spTLabel K) [] := tlabel_met T
  refine met T (i := 29) (j := 7) (q := "Reader.take_target") (by decide +kernel) (by decide +kernel) scTTarget (fun vs H Q E h => ?_) (fun _ _ _ _ _ _ us hl => match us, hl with | [_], _ => rfl) (fun cdv A outer s H vs Q E hr h => ?_)
  · obtain ⟨p, _, _, rfl, _⟩ := h
    rfl
  obtain ⟨p, x, rest, rfl, hR, hn, q⟩ := h
  have hR' := hR
  obtain ⟨dx0, l0, xs0, i0, ts0, h01, _⟩ := hR'
  refine ⟨_, (pss_cons (ps_if (pt_val (C8.pe_mt (pl := L2.plainOf _ _) m_skip hr (by omega) (pv 0) (pa_cons pe_str (pa_cons pe_str pa_nil))))
(pss_one (ps_ret pe_str))
pss_nil)
(pss_one (ps_ret (C8.pe_mt0 (pl := L2.plainOf _ _) m_take_label hr (by omega) (pv 0))))), ?_⟩
  walk_at "go"
  refine r_me h01 rfl ?_
  walk_at "go"
  refine ⟨p, .w x :: rest, "word", "exit", rfl, hR, by decide +kernel, by decide +kernel, fun e H' t r er b r' => ?_, fun e H' b r' => ?_⟩
  · cases er
    have ex : S x = "exit" := Atm.str.inj (congrArg Prod.snd e)
    walk_at "go"
    rw [← ex]
    exact q H' b r'
  · have ex : S x ≠ "exit" := fun z => e (by show (Atm.str "word", Atm.str (S x)) = _; rw [z])
    have hl : LbOk x := by
      rcases hn with h | h
      · exact absurd h ex
      · exact h.2
    obtain ⟨dx1, l1, xs1, i1, ts1, h11, _⟩ := id r'
    walk_at "go"
    refine r_me h11 rfl ?_
    walk_at "go"
    refine ⟨p, x, rest, rfl, r', hl, fun H2 b2 r2 => q H2 (b.trans b2) r2⟩
/-- finish(): no sign is left -/
def spFinish (K : PySem.W.Frag) : Sp := fun vs H Q _ => ∃ (p : Addr), vs = [.ref p] ∧ RdAt K H p [] ∧ Q .non H
theorem scFinish : FnScope ["self"] ["self"] (defScope (mth 29 8)) := ⟨rfl, rfl, rfl, by decide +kernel, rfl, by decide +kernel, by decide +kernel⟩
theorem finish_met (T : Tx w K mg) : C8.Met P w K mg base 1 (He.ga K "Reader") "finish" (spFinish K) [] := by
  have cR := rd_cls T
  have n1 := rd_no T (f := "signs") (by decide +kernel)
  have n2 := rd_no T (f := "place") (by decide +kernel)
  have m_len := T.free "len" (by decide +kernel)
  refine met T (i := 29) (j := 8) (q := "Reader.finish") (by decide +kernel) (by decide +kernel) scFinish (fun vs H Q E h => ?_) (fun _ _ _ _ _ _ us hl => match us, hl with | [_], _ => rfl) (fun cdv A outer s H vs Q E hr h => ?_)
  · obtain ⟨p, rfl, _⟩ := h
    rfl
  obtain ⟨p, rfl, ⟨dx, l, xs, i, ts, h1, h2, h3, h4, h5, h6, h7⟩, q⟩ := h
  refine ⟨_, (pss_one (ps_if (pt_cmpR op_lt (pe_fld (pv 0) rfl) (pe_callB call_len_seq rfl m_len PySem.boot_len (pa_cons (pe_fld (pv 0) rfl) pa_nil)) (nomark _))
(pss_one ps_never)
pss_nil)), ?_⟩
  have hlx : xs.length = ts.length := by have := Paired.length h3; simpa using this.symm
  have hle : ts.length ≤ i := by
    have := congrArg List.length h4
    rw [List.length_drop] at this
    simp at this; omega
  walk_at "go"
  refine r_fl h1 cR n2 rfl ?_
  walk_at "go"
  refine r_fl h1 cR n1 rfl ?_
  refine ⟨l, xs, rfl, .inl (SqL.of h2), ?_⟩
  rw [hlx]
  walk_at "go"
  rw [decide_eq_false (by omega)]
  walk_at "go"
  exact q
end
end K5
end

section
set_option linter.all false
set_option maxRecDepth 100000
/-! Expressions: joined, read_primary, read_product, read_sum, read_comparison, read_expression. -/
namespace K5
open PySem PySem.Spec PyProof.Rows L2 SX
/- steps -/
local macro_rules | `(tactic| walk_at "sm") => `(tactic| first | assumption | exact Same.refl _ | (refine Same.mut ?_ (by assumption) _; walk_at "sm") | (refine Same.trans ?_ (Same.newo (by assumption) _); walk_at "sm") | (refine Same.trans ?_ (by assumption); walk_at "sm"))
local macro_rules | `(tactic| walk_at "hp") => `(tactic| first | assumption | exact upd_same | (refine up_new ?_ (by assumption) _; walk_at "hp") | (refine Same.up ?_ (by assumption) (by assumption); walk_at "sm") | (refine Same.look (by assumption) ?_; walk_at "hp"))
local macro_rules | `(tactic| walk_at "rep") => `(tactic| first | assumption | exact str_rep | exact int_rep | exact non_rep | (refine' Rep.s ?s ?h; (case h => assumption); (case s => walk_at "sm")))
local macro_rules | `(tactic| walk_at "if") => `(tactic| first | ((with_reducible refine' r_ifT ?e ?_); (case e => decide +kernel)) | ((with_reducible refine' r_ifF ?e ?_); (case e => decide +kernel)))
local macro_rules | `(tactic| walk_at "sz") => `(tactic| first | omega | decide | (simp only [List.length_map, List.length_append, List.length_cons, List.length_nil, List.length_take]; omega))
local macro_rules | `(tactic| walk_at "s") => `(tactic| first
  | with_reducible refine r_seq ?_ | with_reducible refine r_set ?_ | with_reducible refine r_asg ?_ | with_reducible refine r_ret ?_ | with_reducible refine r_drop ?_ | with_reducible refine r_next ?_ | with_reducible refine r_cont ?_ | with_reducible refine r_brk ?_
  | with_reducible refine r_if ?_ | with_reducible refine r_test ?_ | with_reducible refine r_tB ?_ | with_reducible refine r_bl ?_ | with_reducible refine r_and ?_ | with_reducible refine r_or ?_ | with_reducible refine r_not ?_
  | ((with_reducible refine' r_var ?e ?_); (case e => rfl)) | with_reducible refine r_c ?_ | with_reducible refine r_op ?_ | with_reducible refine r_un ?_ | with_reducible refine r_ifx ?_ | with_reducible refine r_andV ?_ | with_reducible refine r_orV ?_ | with_reducible refine r_notV ?_
  | with_reducible refine r_nil ?_ | with_reducible refine r_cons ?_ | with_reducible refine r_cb ?_ | with_reducible refine r_bm ?_ | with_reducible refine r_bm0 ?_ | with_reducible refine r_lst ?_ | with_reducible refine r_tup ?_ | with_reducible refine r_call ?_
  | with_reducible refine r_lc ?_ | with_reducible refine r_dc ?_ | with_reducible refine r_for ?_ | with_reducible refine r_iTup ?_ | with_reducible refine r_iList ?_ | with_reducible refine r_iEnum ?_ | with_reducible refine r_iRng1 ?_
  | with_reducible refine r_sl ?_ | with_reducible refine r_part ?_ | with_reducible refine r_nop ?_ | with_reducible refine r_int ?_ | with_reducible refine r_then ?_ | with_reducible refine r_yes ?_
  | with_reducible refine r_gname ?_ | with_reducible refine r_gcons ?_ | with_reducible refine r_gnil ?_
  | ((with_reducible refine' r_eq ?e ?_); (case e => rfl)) | ((with_reducible refine' r_ne ?e ?_); (case e => rfl)) | with_reducible refine r_I0 ?_
  | ((with_reducible refine' r_ixT0 ?e ?f ?_); (case e => walk_at "hp"); (case f => rfl)) | ((with_reducible refine' r_ixT1 ?e ?f ?_); (case e => walk_at "hp"); (case f => rfl)) | ((with_reducible refine' r_ixT2 ?e ?f ?_); (case e => walk_at "hp"); (case f => rfl)) | ((with_reducible refine' r_ixT3 ?e ?f ?_); (case e => walk_at "hp"); (case f => rfl)) | ((with_reducible refine' r_ixT4 ?e ?f ?_); (case e => walk_at "hp"); (case f => rfl)) | ((with_reducible refine' r_ixL0 ?e ?f ?_); (case e => walk_at "hp"); (case f => rfl)) | ((with_reducible refine' r_ixL1 ?e ?f ?_); (case e => walk_at "hp"); (case f => rfl)) | ((with_reducible refine' r_ixL2 ?e ?f ?_); (case e => walk_at "hp"); (case f => rfl)) | ((with_reducible refine' r_ixL3 ?e ?f ?_); (case e => walk_at "hp"); (case f => rfl)) | ((with_reducible refine' r_ixL4 ?e ?f ?_); (case e => walk_at "hp"); (case f => rfl))
  | ((with_reducible refine' r_ixT ?e ?f ?_); (case e => walk_at "hp"); (case f => rfl)) | ((with_reducible refine' r_ixL ?e ?f ?_); (case e => walk_at "hp"); (case f => rfl))
  | ((with_reducible refine' r_append ?e ?f ?_); (case e => walk_at "hp"); (case f => walk_at "sz")) | ((with_reducible refine' r_extend ?e ?e2 ?f ?_); (case e => walk_at "hp"); (case e2 => walk_at "hp"); (case f => walk_at "sz"))
  | with_reducible refine r_fldE ?_ | with_reducible refine r_methE ?_ | with_reducible refine r_make ?_ | with_reducible refine r_sfld ?_ | with_reducible refine r_iEnumT ?_ | with_reducible refine r_inSg ?_ | with_reducible refine r_ninSg ?_ | with_reducible refine r_bmfE ?_ | with_reducible refine r_dget1 ?_ | with_reducible refine r_chain ?_ | with_reducible refine r_m1E ?_ | with_reducible refine r_m0E ?_ | with_reducible refine r_sfa ?_ | with_reducible refine r_rAdd ?_
  | with_reducible refine r_dgetE ?_ | with_reducible refine r_dinE ?_ | with_reducible refine r_dninE ?_ | with_reducible refine r_dputE ?_ | with_reducible refine r_dnew ?_ | with_reducible refine r_neg ?_
  | ((with_reducible refine' r_truL ?e ?_); (case e => walk_at "hp"))
  | ((with_reducible refine' r_gtup ?e ?f ?_); (case e => walk_at "hp"); (case f => rfl))
  | ((with_reducible refine' r_tyL ?e ?_); (case e => walk_at "hp")) | walk_at "if")
local macro_rules | `(tactic| walk_at "go") => `(tactic| repeat walk_at "s")
/- steps end -/
inductive Xp where
  | var (x : List Nat) | num (n : Nat) | op (c : Nat) (l r : Xp)
def xD : Xp → D
  | .var x => .tup [.str "variable", .str (S x)]
  | .num n => .tup [.str "number", .int (n : Nat)]
  | .op c l r => .tup [.str (S [c]), xD l, xD r]
def hgt : Xp → Nat
  | .var _ => 1
  | .num _ => 1
  | .op _ l r => 1 + max (hgt l) (hgt r)
def toks : Xp → List Tk
  | .var x => [.w x]
  | .num n => [.n n]
  | .op c l r => .s 40 :: (toks l ++ .s c :: (toks r ++ [.s 41]))
def XOk : Xp → Prop
  | .var x => NmOk (S x)
  | .num _ => True
  | .op c l r => (c = 43 ∨ c = 45 ∨ c = 42 ∨ c = 61 ∨ c = 60) ∧ XOk l ∧ XOk r
theorem hgt_pos (e : Xp) : 1 ≤ hgt e := by cases e <;> simp [hgt]
abbrev sy (c : Nat) : Atm × Atm := (.str "symbol", .str (S [c]))
theorem sy_inj {c d : Nat} (h : sy c = sy d) : c = d := by
  have := S_inj (a := [c]) (b := [d]) (Atm.str.inj (congrArg Prod.snd h))
  simpa using this
def ProdT (n : Nat) (e : Xp) (T : List Tk) : Prop := (T = toks e ∧ hgt e ≤ n) ∨ ∃ l r, e = .op 42 l r ∧ T = toks l ++ .s 42 :: toks r ∧ hgt l ≤ n ∧ hgt r ≤ n
def SumT (n : Nat) (e : Xp) (T : List Tk) : Prop := ProdT n e T ∨ ∃ c l r, (c = 43 ∨ c = 45) ∧ e = .op c l r ∧ T = toks l ++ .s c :: toks r ∧ hgt l ≤ n ∧ hgt r ≤ n
def CmpT (n : Nat) (e : Xp) (T : List Tk) : Prop := SumT n e T ∨ ∃ c l r, (c = 61 ∨ c = 60) ∧ e = .op c l r ∧ T = toks l ++ .s c :: toks r ∧ hgt l ≤ n ∧ hgt r ≤ n
/-- how an expression is given back -/
def XPost (K : PySem.W.Frag) (H : Hp) (p : Addr) (e : Xp) (r : List Tk) (Q : VK) : Prop := ∀ q dv H', But p H H' → RdAt K H' p r → H' q = some (.tup [dv, .int (hgt e : Nat)]) → Rep H' (xD e) dv → Q (.ref q) H'
def spJoined : Sp := fun vs H Q _ => ∃ (z : Str) (lv rv : V) (ht : Addr) (m n : Nat), vs = [.str z, lv, rv, .ref ht] ∧ H ht = some (.tup [.int (m : Nat), .int (n : Nat)]) ∧ 1 + max m n ≤ 20 ∧
  ∀ q t H', Same H H' → H' t = some (.tup [.str z, lv, rv]) → H' q = some (.tup [.ref t, .int ((1 + max m n : Nat) : Int)]) → Q (.ref q) H'
def spPrim (K : PySem.W.Frag) (n : Nat) : Sp := fun vs H Q _ => ∃ (p : Addr) (o : Nat) (e : Xp) (r : List Tk), vs = [.ref p, .int (o : Nat)] ∧ RdAt K H p (toks e ++ r) ∧ XOk e ∧ hgt e ≤ n ∧ o + n ≤ 19 ∧ XPost K H p e r Q
def spProd (K : PySem.W.Frag) (n : Nat) : Sp := fun vs H Q _ => ∃ (p : Addr) (o : Nat) (e : Xp) (T r : List Tk), vs = [.ref p, .int (o : Nat)] ∧ RdAt K H p (T ++ r) ∧ XOk e ∧ ProdT n e T ∧ pk r ≠ sy 42 ∧ o + n ≤ 19 ∧ XPost K H p e r Q
def spSum (K : PySem.W.Frag) (n : Nat) : Sp := fun vs H Q _ => ∃ (p : Addr) (o : Nat) (e : Xp) (T r : List Tk), vs = [.ref p, .int (o : Nat)] ∧ RdAt K H p (T ++ r) ∧ XOk e ∧ SumT n e T ∧ pk r ∉ [sy 42, sy 43, sy 45] ∧ o + n ≤ 19 ∧ XPost K H p e r Q
def spCmp (K : PySem.W.Frag) (n : Nat) : Sp := fun vs H Q _ => ∃ (p : Addr) (o : Nat) (e : Xp) (T r : List Tk), vs = [.ref p, .int (o : Nat)] ∧ RdAt K H p (T ++ r) ∧ XOk e ∧ CmpT n e T ∧ pk r ∉ [sy 42, sy 43, sy 45, sy 61, sy 60] ∧ o + n ≤ 19 ∧ XPost K H p e r Q
section
variable {P : PySem.Program} {w : World} {K : PySem.W.Frag} {mg : Str → Option Value} {base : Heap}
theorem scJoined : FnScope ["sign", "left", "right", "heights", "height"] ["sign", "left", "right", "heights"] (defScope (top 35)) := ⟨rfl, rfl, rfl, by decide +kernel, rfl, by decide +kernel, by decide +kernel⟩
theorem joined_cal (T : Tx w K mg) : C8.Cal P w K mg base 1 "joined" spJoined [] := by
  have m_max := T.free "max" (by decide +kernel)
  have g_MOST_HEIGHT := gint T (x := "MOST_HEIGHT") (z := 20) (by decide +kernel)
  refine cal T (i := 35) (by decide +kernel) scJoined (fun vs H Q E h => ?_) (fun _ _ _ _ _ _ us hl => match us, hl with | [_, _, _, _], _ => rfl) (fun cdv A outer s H vs Q E hr h => ?_)
  · obtain ⟨z, _, _, _, _, _, rfl, _⟩ := h
    rfl
  obtain ⟨z, lv, rv, ht, m, n, rfl, hh, h20, q⟩ := h
  have hu := hu64 hr
  refine ⟨_, (pss_cons (ps_set (i := 4) scJoined.nd rfl (.inl rfl) (pe_op op_add pe_int (pe_callB (call_maxT rfl hu) rfl m_max (by rfl) (pa_cons (pv 3) pa_nil))))
(pss_cons (ps_if (pt_cmpR op_gt (pv 4) (C8.pe_gc rfl g_MOST_HEIGHT) (nomark _))
(pss_one ps_never)
pss_nil)
(pss_one (ps_ret (pe_tup (pa_cons (pe_tup (pa_cons (pv 0) (pa_cons (pv 1) (pa_cons (pv 2) pa_nil)))) (pa_cons (pv 4) pa_nil))))))), ?_⟩
  walk_at "go"
  refine r_maxT hh ?_
  walk_at "go"
  rw [decide_eq_false (by omega)]
  walk_at "go"
  refine ⟨by show 3 ≤ sizeLine; decide, fun p1 n1 => ?_⟩
  walk_at "go"
  refine ⟨by show 2 ≤ sizeLine; decide, fun p2 n2 => ?_⟩
  refine q p2 p1 _ (by walk_at "sm") (up_new upd_same n2 _) ?_
  rw [upd_same]
  have e : (1 : Int) + ((max m n : Nat) : Int) = ((1 + max m n : Nat) : Int) := by omega
  rw [e]
theorem scPrim : FnScope ["reader", "opened", "found"] ["reader", "opened"] (defScope (top 36)) := ⟨rfl, rfl, rfl, by decide +kernel, rfl, by decide +kernel, by decide +kernel⟩
theorem prim_step (T : Tx w K mg) (n : Nat) (c_read_comparison : C8.Cal P w K mg base (7 + 4 * n) "read_comparison" (spCmp K n) []) : C8.Cal P w K mg base (7 + 4 * n + 1) "read_primary" (spPrim K (n + 1)) [] := by
  have g_MOST_OPEN := gint T (x := "MOST_OPEN") (z := 20) (by decide +kernel)
  have m_skip : C8.Met P w K mg base 2 (He.ga K "Reader") "skip" (spSkip K) [] := skip_met T
  have m_peek : C8.Met P w K mg base 1 (He.ga K "Reader") "peek" (spPeek K) [] := peek_met T
  have m_take : C8.Met P w K mg base 2 (He.ga K "Reader") "take" (spTake K) [] := take_met T
  have m_expect : C8.Met P w K mg base 3 (He.ga K "Reader") "expect" (spExpect K) [] := expect_met T
  have m_take_name : C8.Met P w K mg base 3 (He.ga K "Reader") "take_name" (spTName K) [] := tname_met T
  refine cal T (i := 36) (by decide +kernel) scPrim (fun vs H Q E h => ?_) (fun _ _ _ _ _ _ us hl => match us, hl with | [_, _], _ => rfl) (fun cdv A outer s H vs Q E hr h => ?_)
  · obtain ⟨z, _, _, _, rfl, _⟩ := h
    rfl
  obtain ⟨p, o, e, r, rfl, hR, hx, hh, ho, q⟩ := h
  obtain ⟨dx0, l0, xs0, i0, ts0, h01, _⟩ := id hR
  refine ⟨_, (pss_cons (ps_if (pt_val (C8.pe_mt (pl := L2.plainOf _ _) m_skip hr (by omega) (pv 0) (pa_cons pe_str (pa_cons pe_str pa_nil))))
(pss_cons (ps_if (pt_cmpR op_eq (pv 1) (C8.pe_gc rfl g_MOST_OPEN) (nomark _))
(pss_one ps_never)
pss_nil)
(pss_cons (ps_set (i := 2) scPrim.nd rfl (.inl rfl) (C8.pe_c c_read_comparison hr (by omega) rfl (pa_cons (pv 0) (pa_cons (pe_op op_add (pv 1) pe_int) pa_nil))))
(pss_cons (ps_expr (C8.pe_mt (pl := L2.plainOf _ _) m_expect hr (by omega) (pv 0) (pa_cons pe_str (pa_cons pe_str pa_nil))))
(pss_one (ps_ret (pv 2))))))
pss_nil)
(pss_cons (ps_if (pt_cmpR op_eq (pe_ix ix_tup (C8.pe_mt0 (pl := L2.plainOf _ _) m_peek hr (by omega) (pv 0)) pe_int (fun _ _ => rfl)) pe_str (nomark _))
(pss_one (ps_ret (pe_tup (pa_cons (pe_tup (pa_cons pe_str (pa_cons (pe_ix ix_tup (C8.pe_mt0 (pl := L2.plainOf _ _) m_take hr (by omega) (pv 0)) pe_int (fun _ _ => rfl)) pa_nil))) (pa_cons pe_int pa_nil)))))
pss_nil)
(pss_one (ps_ret (pe_tup (pa_cons (pe_tup (pa_cons pe_str (pa_cons (C8.pe_mt0 (pl := L2.plainOf _ _) m_take_name hr (by omega) (pv 0)) pa_nil))) (pa_cons pe_int pa_nil))))))), ?_⟩
  walk_at "go"
  refine r_me h01 rfl ?_
  walk_at "go"
  refine ⟨p, toks e ++ r, "symbol", "(", rfl, hR, by decide +kernel, by decide +kernel, fun e0 H1 t r1 er b1 r1' => ?_, fun e0 H1 b1 r1 => ?_⟩
  · cases e with
    | var x =>
      have h9 : (Tk.w x).at = (Atm.str "symbol", Atm.str "(") := e0
      exact absurd (Atm.str.inj (congrArg Prod.fst h9)) (by decide +kernel)
    | num k =>
      have h9 : (Tk.n k).at = (Atm.str "symbol", Atm.str "(") := e0
      exact absurd (Atm.str.inj (congrArg Prod.fst h9)) (by decide +kernel)
    | op c el erx =>
      have er' : Tk.s 40 :: ((toks el ++ Tk.s c :: (toks erx ++ [Tk.s 41])) ++ r) = t :: r1 := er
      obtain ⟨rfl, rfl⟩ := List.cons.inj er'
      have hp := hgt_pos el
      have hp2 := hgt_pos erx
      have hlr : hgt el ≤ n ∧ hgt erx ≤ n := by simp only [hgt] at hh; omega
      obtain ⟨dx1, l1, xs1, i1, ts1, h11, _⟩ := id r1'
      walk_at "go"
      rw [decide_eq_false (fun z => by have := V.int.inj z; omega)]
      walk_at "go"
      have ec : ((toks el ++ Tk.s c :: (toks erx ++ [Tk.s 41])) ++ r) = (toks el ++ Tk.s c :: toks erx) ++ (Tk.s 41 :: r) := by simp
      rw [ec] at r1'
      have eo : ((o : Nat) : Int) + 1 = ((o + 1 : Nat) : Int) := by omega
      rw [eo]
      have hct : CmpT n (.op c el erx) (toks el ++ Tk.s c :: toks erx) := by
        rcases hx.1 with h | h | h | h | h
        · exact .inl (.inr ⟨c, el, erx, .inl h, rfl, rfl, hlr⟩)
        · exact .inl (.inr ⟨c, el, erx, .inr h, rfl, rfl, hlr⟩)
        · exact .inl (.inl (.inr ⟨el, erx, by rw [h], by rw [h], hlr⟩))
        · exact .inr ⟨c, el, erx, .inl h, rfl, rfl, hlr⟩
        · exact .inr ⟨c, el, erx, .inr h, rfl, rfl, hlr⟩
      refine ⟨p, o + 1, .op c el erx, toks el ++ Tk.s c :: toks erx, Tk.s 41 :: r, rfl, r1', hx, hct, ?_, by omega, fun q2 dv H2 b2 r2 hq2 hd2 => ?_⟩
      · show (Tk.s 41).at ∉ _
        decide +kernel
      obtain ⟨dx2, l2, xs2, i2, ts2, h21, _⟩ := id r2
      walk_at "go"
      refine r_me h21 rfl ?_
      walk_at "go"
      refine ⟨p, .s 41, r, "symbol", ")", rfl, r2, by decide +kernel, by decide +kernel, by decide +kernel, fun H3 b3 r3 => ?_⟩
      have t3 := b3.te r2.nt
      walk_at "go"
      exact q q2 dv H3 (b1.trans (b2.trans b3)) r3 (t3 _ _ hq2) (hd2.mono t3)
  · obtain ⟨dx1, l1, xs1, i1, ts1, h11, _⟩ := id r1
    walk_at "go"
    refine r_me h11 rfl ?_
    walk_at "go"
    refine ⟨p, toks e ++ r, rfl, r1, fun qq H2 s2 hq => ?_⟩
    have r2 := r1.s s2
    have b2 := b1.trans (But.of s2)
    obtain ⟨dx2, l2, xs2, i2, ts2, h21, _⟩ := id r2
    cases e with
    | var x =>
      replace hq : H2 qq = some (.tup [.str "word", .str (S x)]) := hq
      walk_at "go"
      refine r_me h21 rfl ?_
      walk_at "go"
      refine ⟨p, x, r, rfl, r2, hx, fun H3 b3 r3 => ?_⟩
      walk_at "go"
      refine ⟨by show 2 ≤ sizeLine; decide, fun p1 n1 => ?_⟩
      walk_at "go"
      refine ⟨by show 2 ≤ sizeLine; decide, fun p2 n2 => ?_⟩
      have s4 : Same H3 (upd (upd H3 p1 (.tup [.str "variable", .str (S x)])) p2 (.tup [.ref p1, .int 1])) := by walk_at "sm"
      exact q p2 (.ref p1) _ (b2.trans (b3.trans (But.of s4))) (r3.s s4) upd_same (Rep.s (Same.newo n2 _) (rep_new n1 (reps_cons str_rep (reps_cons str_rep reps_nil))))
    | num k =>
      replace hq : H2 qq = some (.tup [.str "number", .int (k : Nat)]) := hq
      walk_at "go"
      refine r_me h21 rfl ?_
      walk_at "go"
      refine ⟨p, .n k, r, rfl, r2, fun q3 H3 b3 r3 hq3 => ?_⟩
      replace hq3 : H3 q3 = some (.tup [.str "number", .int (k : Nat)]) := hq3
      walk_at "go"
      refine ⟨by show 2 ≤ sizeLine; decide, fun p1 n1 => ?_⟩
      walk_at "go"
      refine ⟨by show 2 ≤ sizeLine; decide, fun p2 n2 => ?_⟩
      have s4 : Same H3 (upd (upd H3 p1 (.tup [.str "number", .int (k : Nat)])) p2 (.tup [.ref p1, .int 1])) := by walk_at "sm"
      exact q p2 (.ref p1) _ (b2.trans (b3.trans (But.of s4))) (r3.s s4) upd_same (Rep.s (Same.newo n2 _) (rep_new n1 (reps_cons str_rep (reps_cons int_rep reps_nil))))
    | op c el er =>
      exact absurd (show (Tk.s 40).at = (Atm.str "symbol", Atm.str "(") by decide +kernel) e0
end
end K5
end

section
set_option linter.all false
set_option maxRecDepth 100000
/-! Expressions: read_product, read_sum, read_comparison, read_expression. -/
namespace K5
open PySem PySem.Spec PyProof.Rows L2 SX
/- steps -/
local macro_rules | `(tactic| walk_at "sm") => `(tactic| first | assumption | exact Same.refl _ | (refine Same.mut ?_ (by assumption) _; walk_at "sm") | (refine Same.trans ?_ (Same.newo (by assumption) _); walk_at "sm") | (refine Same.trans ?_ (by assumption); walk_at "sm"))
local macro_rules | `(tactic| walk_at "hp") => `(tactic| first | assumption | exact upd_same | (refine up_new ?_ (by assumption) _; walk_at "hp") | (refine Same.up ?_ (by assumption) (by assumption); walk_at "sm") | (refine Same.look (by assumption) ?_; walk_at "hp"))
local macro_rules | `(tactic| walk_at "rep") => `(tactic| first | assumption | exact str_rep | exact int_rep | exact non_rep | (refine' Rep.s ?s ?h; (case h => assumption); (case s => walk_at "sm")))
local macro_rules | `(tactic| walk_at "if") => `(tactic| first | ((with_reducible refine' r_ifT ?e ?_); (case e => decide +kernel)) | ((with_reducible refine' r_ifF ?e ?_); (case e => decide +kernel)))
local macro_rules | `(tactic| walk_at "sz") => `(tactic| first | omega | decide | (simp only [List.length_map, List.length_append, List.length_cons, List.length_nil, List.length_take]; omega))
local macro_rules | `(tactic| walk_at "s") => `(tactic| first
  | with_reducible refine r_seq ?_ | with_reducible refine r_set ?_ | with_reducible refine r_asg ?_ | with_reducible refine r_ret ?_ | with_reducible refine r_drop ?_ | with_reducible refine r_next ?_ | with_reducible refine r_cont ?_ | with_reducible refine r_brk ?_
  | with_reducible refine r_if ?_ | with_reducible refine r_test ?_ | with_reducible refine r_tB ?_ | with_reducible refine r_bl ?_ | with_reducible refine r_and ?_ | with_reducible refine r_or ?_ | with_reducible refine r_not ?_
  | ((with_reducible refine' r_var ?e ?_); (case e => rfl)) | with_reducible refine r_c ?_ | with_reducible refine r_op ?_ | with_reducible refine r_un ?_ | with_reducible refine r_ifx ?_ | with_reducible refine r_andV ?_ | with_reducible refine r_orV ?_ | with_reducible refine r_notV ?_
  | with_reducible refine r_nil ?_ | with_reducible refine r_cons ?_ | with_reducible refine r_cb ?_ | with_reducible refine r_bm ?_ | with_reducible refine r_bm0 ?_ | with_reducible refine r_lst ?_ | with_reducible refine r_tup ?_ | with_reducible refine r_call ?_
  | with_reducible refine r_lc ?_ | with_reducible refine r_dc ?_ | with_reducible refine r_for ?_ | with_reducible refine r_iTup ?_ | with_reducible refine r_iList ?_ | with_reducible refine r_iEnum ?_ | with_reducible refine r_iRng1 ?_
  | with_reducible refine r_sl ?_ | with_reducible refine r_part ?_ | with_reducible refine r_nop ?_ | with_reducible refine r_int ?_ | with_reducible refine r_then ?_ | with_reducible refine r_yes ?_
  | with_reducible refine r_gname ?_ | with_reducible refine r_gcons ?_ | with_reducible refine r_gnil ?_
  | ((with_reducible refine' r_eq ?e ?_); (case e => rfl)) | ((with_reducible refine' r_ne ?e ?_); (case e => rfl)) | with_reducible refine r_I0 ?_
  | ((with_reducible refine' r_ixT0 ?e ?f ?_); (case e => walk_at "hp"); (case f => rfl)) | ((with_reducible refine' r_ixT1 ?e ?f ?_); (case e => walk_at "hp"); (case f => rfl)) | ((with_reducible refine' r_ixT2 ?e ?f ?_); (case e => walk_at "hp"); (case f => rfl)) | ((with_reducible refine' r_ixT3 ?e ?f ?_); (case e => walk_at "hp"); (case f => rfl)) | ((with_reducible refine' r_ixT4 ?e ?f ?_); (case e => walk_at "hp"); (case f => rfl)) | ((with_reducible refine' r_ixL0 ?e ?f ?_); (case e => walk_at "hp"); (case f => rfl)) | ((with_reducible refine' r_ixL1 ?e ?f ?_); (case e => walk_at "hp"); (case f => rfl)) | ((with_reducible refine' r_ixL2 ?e ?f ?_); (case e => walk_at "hp"); (case f => rfl)) | ((with_reducible refine' r_ixL3 ?e ?f ?_); (case e => walk_at "hp"); (case f => rfl)) | ((with_reducible refine' r_ixL4 ?e ?f ?_); (case e => walk_at "hp"); (case f => rfl))
  | ((with_reducible refine' r_ixT ?e ?f ?_); (case e => walk_at "hp"); (case f => rfl)) | ((with_reducible refine' r_ixL ?e ?f ?_); (case e => walk_at "hp"); (case f => rfl))
  | ((with_reducible refine' r_append ?e ?f ?_); (case e => walk_at "hp"); (case f => walk_at "sz")) | ((with_reducible refine' r_extend ?e ?e2 ?f ?_); (case e => walk_at "hp"); (case e2 => walk_at "hp"); (case f => walk_at "sz"))
  | with_reducible refine r_fldE ?_ | with_reducible refine r_methE ?_ | with_reducible refine r_make ?_ | with_reducible refine r_sfld ?_ | with_reducible refine r_iEnumT ?_ | with_reducible refine r_inSg ?_ | with_reducible refine r_ninSg ?_ | with_reducible refine r_bmfE ?_ | with_reducible refine r_dget1 ?_ | with_reducible refine r_chain ?_ | with_reducible refine r_m1E ?_ | with_reducible refine r_m0E ?_ | with_reducible refine r_sfa ?_ | with_reducible refine r_rAdd ?_
  | with_reducible refine r_dgetE ?_ | with_reducible refine r_dinE ?_ | with_reducible refine r_dninE ?_ | with_reducible refine r_dputE ?_ | with_reducible refine r_dnew ?_ | with_reducible refine r_neg ?_
  | ((with_reducible refine' r_truL ?e ?_); (case e => walk_at "hp"))
  | ((with_reducible refine' r_gtup ?e ?f ?_); (case e => walk_at "hp"); (case f => rfl))
  | ((with_reducible refine' r_tyL ?e ?_); (case e => walk_at "hp")) | walk_at "if")
local macro_rules | `(tactic| walk_at "go") => `(tactic| repeat walk_at "s")
/- steps end -/
theorem w_ne (x : List Nat) (c : Nat) : (Tk.w x).at ≠ sy c := fun e => absurd (Atm.str.inj (congrArg Prod.fst e)) (by decide +kernel)
theorem n_ne (k c : Nat) : (Tk.n k).at ≠ sy c := fun e => absurd (Atm.str.inj (congrArg Prod.fst e)) (by decide +kernel)
theorem r_inTPz {H : Hp} {K : PySem.W.Frag} {p l : Addr} {Q : VK} {xs : List V} {zs : List (Atm × Atm)} (z : Atm × Atm) (k1 : ok2 z) (k2 : ∀ z ∈ zs, ok2 z) (hx : H p = some (.tup [z.1.v, z.2.v])) (hl : H l = some (.tup xs)) (hz : PrsAt H xs zs) (h : Q (.bl (decide (z ∈ zs))) H) : rInTD K (.ref p) (.ref l) H Q :=
  r_inTP (a := z.1) (b := z.2) k1 k2 hx hl hz h
section
variable {P : PySem.Program} {w : World} {K : PySem.W.Frag} {mg : Str → Option Value} {base : Heap}
theorem scProd : FnScope ["reader", "opened", "left", "height", "right", "other"] ["reader", "opened"] (defScope (top 37)) := ⟨rfl, rfl, rfl, by decide +kernel, rfl, by decide +kernel, by decide +kernel⟩
theorem prod_step (T : Tx w K mg) (n : Nat) (c_read_primary : C8.Cal P w K mg base (4 + 4 * n) "read_primary" (spPrim K n) []) : C8.Cal P w K mg base (4 + 4 * n + 1) "read_product" (spProd K n) [] := by
  have m_skip : C8.Met P w K mg base 2 (He.ga K "Reader") "skip" (spSkip K) [] := skip_met T
  have c_joined : C8.Cal P w K mg base 1 "joined" spJoined [] := joined_cal T
  refine cal T (i := 37) (by decide +kernel) scProd (fun vs H Q E h => ?_) (fun _ _ _ _ _ _ us hl => match us, hl with | [_, _], _ => rfl) (fun cdv A outer s H vs Q E hr h => ?_)
  · obtain ⟨z, _, _, _, _, rfl, _⟩ := h
    rfl
  obtain ⟨p, o, e, Tt, r, rfl, hR, hx, hT, hpk, ho, q⟩ := h
  refine ⟨_, (pss_cons (ps_asg (C8.pe_c c_read_primary hr (by omega) rfl (pa_cons (pv 0) (pa_cons (pv 1) pa_nil))) (pg_tup rfl (pgs_cons (pg_name (i := 2) scProd.nd rfl (.inl rfl)) (pgs_cons (pg_name (i := 3) scProd.nd rfl (.inl rfl)) pgs_nil))))
(pss_cons (ps_while PassesOwn.never (pt_val (C8.pe_mt (pl := L2.plainOf _ _) m_skip hr (by omega) (pv 0) (pa_cons pe_str (pa_cons pe_str pa_nil))))
(pss_cons (ps_asg (C8.pe_c c_read_primary hr (by omega) rfl (pa_cons (pv 0) (pa_cons (pv 1) pa_nil))) (pg_tup rfl (pgs_cons (pg_name (i := 4) scProd.nd rfl (.inl rfl)) (pgs_cons (pg_name (i := 5) scProd.nd rfl (.inl rfl)) pgs_nil))))
(pss_one (ps_asg (C8.pe_c c_joined hr (by omega) rfl (pa_cons pe_str (pa_cons (pv 2) (pa_cons (pv 4) (pa_cons (pe_tup (pa_cons (pv 3) (pa_cons (pv 5) pa_nil))) pa_nil))))) (pg_tup rfl (pgs_cons (pg_name (i := 2) scProd.nd rfl (.inl rfl)) (pgs_cons (pg_name (i := 3) scProd.nd rfl (.inl rfl)) pgs_nil)))))))
(pss_one (ps_ret (pe_tup (pa_cons (pv 2) (pa_cons (pv 3) pa_nil))))))), ?_⟩
  have fin : ∀ (H1 : Hp) (dv : V), But p H H1 → RdAt K H1 p r → Rep H1 (xD e) dv → ∀ p2, H1 p2 = none → Q (.ref p2) (upd H1 p2 (.tup [dv, .int (hgt e : Nat)])) := fun H1 dv b1 r1 hd p2 n2 =>
    q p2 dv _ (b1.trans (But.of (Same.newo n2 _))) (r1.s (Same.newo n2 _)) upd_same (Rep.s (Same.newo n2 _) hd)
  walk_at "go"
  rcases hT with ⟨rfl, hh⟩ | ⟨l, rr, rfl, rfl, hl, hrr⟩
  · refine ⟨p, o, e, r, rfl, hR, hx, hh, ho, fun q1 dv H1 b1 r1 hq1 hd1 => ?_⟩
    walk_at "go"
    refine r_while ⟨fun m σ H' => H' = H1 ∧ σ = [some (.ref p), some (.int (o : Nat)), some dv, some (.int (hgt e : Nat)), none, none], ⟨0, rfl, rfl⟩, ?_⟩
    rintro m σ H' ⟨rfl, rfl⟩
    obtain ⟨dx1, l1, xs1, i1, ts1, h11, _⟩ := id r1
    walk_at "go"
    refine r_me h11 rfl ?_
    walk_at "go"
    refine ⟨p, r, "symbol", "*", rfl, r1, by decide +kernel, by decide +kernel, fun e0 => absurd e0 hpk, fun _ H2 b2 r2 => ?_⟩
    walk_at "go"
    refine ⟨by show 2 ≤ sizeLine; decide, fun p2 n2 => ?_⟩
    exact fin H2 dv (b1.trans b2) r2 (hd1.mono (b2.te r1.nt)) p2 n2
  · have hxl := hx.2.1
    have hxr := hx.2.2
    rw [List.append_assoc] at hR
    refine ⟨p, o, l, _, rfl, hR, hxl, hl, ho, fun q1 dv H1 b1 r1 hq1 hd1 => ?_⟩
    walk_at "go"
    refine r_while ⟨fun m σ H' => (m = 1 ∧ H' = H1 ∧ σ = [some (.ref p), some (.int (o : Nat)), some dv, some (.int (hgt l : Nat)), none, none]) ∨ (m = 0 ∧ ∃ dv' z4 z5, σ = [some (.ref p), some (.int (o : Nat)), some dv', some (.int (hgt (.op 42 l rr) : Nat)), z4, z5] ∧ But p H H' ∧ RdAt K H' p r ∧ Rep H' (xD (.op 42 l rr)) dv'), ⟨1, .inl ⟨rfl, rfl, rfl⟩⟩, ?_⟩
    rintro m σ H' (⟨rfl, rfl, rfl⟩ | ⟨rfl, dv', z4, z5, rfl, b', r', hd'⟩)
    · obtain ⟨dx1, l1, xs1, i1, ts1, h11, _⟩ := id r1
      walk_at "go"
      refine r_me h11 rfl ?_
      walk_at "go"
      refine ⟨p, _, "symbol", "*", rfl, r1, by decide +kernel, by decide +kernel, fun _ H2 t r2 er b2 r2' => ?_, fun e0 => absurd (show (Tk.s 42).at = (Atm.str "symbol", Atm.str "*") by decide +kernel) e0⟩
      obtain ⟨rfl, rfl⟩ := List.cons.inj (show Tk.s 42 :: (toks rr ++ r) = t :: r2 from er)
      walk_at "go"
      refine ⟨fun σ' H'' => ∃ m', m' < 1 ∧ ((m' = 1 ∧ H'' = H' ∧ σ' = [some (.ref p), some (.int (o : Nat)), some dv, some (.int (hgt l : Nat)), none, none]) ∨ (m' = 0 ∧ ∃ dv' z4 z5, σ' = [some (.ref p), some (.int (o : Nat)), some dv', some (.int (hgt (.op 42 l rr) : Nat)), z4, z5] ∧ But p H H'' ∧ RdAt K H'' p r ∧ Rep H'' (xD (.op 42 l rr)) dv')), fun _ _ h => h, ?_⟩
      have t2 := b2.te r1.nt
      walk_at "go"
      refine ⟨p, o, rr, r, rfl, r2', hxr, hrr, ho, fun q3 dv3 H3 b3 r3 hq3 hd3 => ?_⟩
      have t3 := t2.trans (b3.te r2'.nt)
      walk_at "go"
      refine ⟨by show 2 ≤ sizeLine; decide, fun p4 n4 => ?_⟩
      walk_at "go"
      refine ⟨"*", dv, dv3, p4, hgt l, hgt rr, rfl, upd_same, by omega, fun q5 t5 H5 s5 ht5 hq5 => ?_⟩
      have s35 : Same H3 H5 := Same.trans (Same.newo n4 _) s5
      walk_at "go"
      refine ⟨0, by omega, .inr ⟨rfl, .ref t5, _, _, rfl, b1.trans (b2.trans (b3.trans (But.of s35))), r3.s s35, ?_⟩⟩
      have e42 : ("*" : Str) = S [42] := TL.ext_tl (by decide +kernel)
      rw [e42] at ht5
      exact tup_rep ht5 (reps_cons str_rep (reps_cons ((hd1.mono t3).s s35) (reps_cons (hd3.s s35) reps_nil)))
    · obtain ⟨dx1, l1, xs1, i1, ts1, h11, _⟩ := id r'
      walk_at "go"
      refine r_me h11 rfl ?_
      walk_at "go"
      refine ⟨p, r, "symbol", "*", rfl, r', by decide +kernel, by decide +kernel, fun e0 => absurd e0 hpk, fun _ H2 b2 r2 => ?_⟩
      walk_at "go"
      refine ⟨by show 2 ≤ sizeLine; decide, fun p2 n2 => ?_⟩
      exact fin H2 dv' (b'.trans b2) r2 (hd'.mono (b2.te r'.nt)) p2 n2
theorem scSum : FnScope ["reader", "opened", "left", "height", "sign", "right", "other"] ["reader", "opened"] (defScope (top 38)) := ⟨rfl, rfl, rfl, by decide +kernel, rfl, by decide +kernel, by decide +kernel⟩
theorem sum_step (T : Tx w K mg) (n : Nat) (c_read_product : C8.Cal P w K mg base (4 + 4 * n + 1) "read_product" (spProd K n) []) : C8.Cal P w K mg base (4 + 4 * n + 1 + 1) "read_sum" (spSum K n) [] := by
  have m_peek : C8.Met P w K mg base 1 (He.ga K "Reader") "peek" (spPeek K) [] := peek_met T
  have m_take : C8.Met P w K mg base 2 (He.ga K "Reader") "take" (spTake K) [] := take_met T
  have c_joined : C8.Cal P w K mg base 1 "joined" spJoined [] := joined_cal T
  refine cal T (i := 38) (by decide +kernel) scSum (fun vs H Q E h => ?_) (fun _ _ _ _ _ _ us hl => match us, hl with | [_, _], _ => rfl) (fun cdv A outer s H vs Q E hr h => ?_)
  · obtain ⟨z, _, _, _, _, rfl, _⟩ := h
    rfl
  obtain ⟨p, o, e, Tt, r, rfl, hR, hx, hT, hpk, ho, q⟩ := h
  have hu := hu65 hr
  refine ⟨_, (pss_cons (ps_asg (C8.pe_c c_read_product hr (by omega) rfl (pa_cons (pv 0) (pa_cons (pv 1) pa_nil))) (pg_tup rfl (pgs_cons (pg_name (i := 2) scSum.nd rfl (.inl rfl)) (pgs_cons (pg_name (i := 3) scSum.nd rfl (.inl rfl)) pgs_nil))))
(pss_cons (ps_while PassesOwn.never (pt_cmpR (op_inTD hu) (C8.pe_mt0 (pl := L2.plainOf _ _) m_peek hr (by omega) (pv 0)) (pe_tup (pa_cons (pe_tup (pa_cons pe_str (pa_cons pe_str pa_nil))) (pa_cons (pe_tup (pa_cons pe_str (pa_cons pe_str pa_nil))) pa_nil))) rfl)
(pss_cons (ps_set (i := 4) scSum.nd rfl (.inl rfl) (pe_ix ix_tup (C8.pe_mt0 (pl := L2.plainOf _ _) m_take hr (by omega) (pv 0)) pe_int (fun _ _ => rfl)))
(pss_cons (ps_asg (C8.pe_c c_read_product hr (by omega) rfl (pa_cons (pv 0) (pa_cons (pv 1) pa_nil))) (pg_tup rfl (pgs_cons (pg_name (i := 5) scSum.nd rfl (.inl rfl)) (pgs_cons (pg_name (i := 6) scSum.nd rfl (.inl rfl)) pgs_nil))))
(pss_one (ps_asg (C8.pe_c c_joined hr (by omega) rfl (pa_cons (pv 4) (pa_cons (pv 2) (pa_cons (pv 5) (pa_cons (pe_tup (pa_cons (pv 3) (pa_cons (pv 6) pa_nil))) pa_nil))))) (pg_tup rfl (pgs_cons (pg_name (i := 2) scSum.nd rfl (.inl rfl)) (pgs_cons (pg_name (i := 3) scSum.nd rfl (.inl rfl)) pgs_nil))))))))
(pss_one (ps_ret (pe_tup (pa_cons (pv 2) (pa_cons (pv 3) pa_nil))))))), ?_⟩
  have fin : ∀ (H1 : Hp) (dv : V), But p H H1 → RdAt K H1 p r → Rep H1 (xD e) dv → ∀ p2, H1 p2 = none → Q (.ref p2) (upd H1 p2 (.tup [dv, .int (hgt e : Nat)])) := fun H1 dv b1 r1 hd p2 n2 =>
    q p2 dv _ (b1.trans (But.of (Same.newo n2 _))) (r1.s (Same.newo n2 _)) upd_same (Rep.s (Same.newo n2 _) hd)
  have hpk1 : pk r ≠ sy 42 := fun z => hpk (by rw [z]; simp)
  have hpk2 : pk r ∉ [sy 43, sy 45] := fun z => hpk (List.mem_cons_of_mem _ z)
  have ok43 : ∀ z ∈ [sy 43, sy 45], ok2 z := by decide +kernel
  have ep : (sy 43) = (Atm.str "symbol", Atm.str "+") := by decide +kernel
  have em : (sy 45) = (Atm.str "symbol", Atm.str "-") := by decide +kernel
  -- the test of the loop
  have hz : ∀ (H2 : Hp) (p1 p2 : Addr), H2 p1 = some (.tup [.str "symbol", .str "+"]) → H2 p2 = some (.tup [.str "symbol", .str "-"]) → PrsAt H2 [.ref p1, .ref p2] [sy 43, sy 45] := fun H2 p1 p2 h1 h2 => by
    rw [ep, em]
    exact .cons ⟨p1, rfl, h1⟩ (.cons ⟨p2, rfl, h2⟩ .nil)
  walk_at "go"
  rcases hT with hT | ⟨c, l, rr, hc, rfl, rfl, hl, hrr⟩
  · refine ⟨p, o, e, Tt, r, rfl, hR, hx, hT, hpk1, ho, fun q1 dv H1 b1 r1 hq1 hd1 => ?_⟩
    walk_at "go"
    refine r_while ⟨fun m σ H' => H' = H1 ∧ σ = [some (.ref p), some (.int (o : Nat)), some dv, some (.int (hgt e : Nat)), none, none, none], ⟨0, rfl, rfl⟩, ?_⟩
    rintro m σ H' ⟨rfl, rfl⟩
    obtain ⟨dx1, l1, xs1, i1, ts1, h11, _⟩ := id r1
    walk_at "go"
    refine r_me h11 rfl ?_
    walk_at "go"
    refine ⟨p, r, rfl, r1, fun qq H2 s2 hq => ?_⟩
    walk_at "go"
    refine ⟨by show 2 ≤ sizeLine; decide, fun p1 n1 => ?_⟩
    walk_at "go"
    refine ⟨by show 2 ≤ sizeLine; decide, fun p2 n2 => ?_⟩
    walk_at "go"
    refine ⟨by show 2 ≤ sizeLine; decide, fun p3 n3 => ?_⟩
    refine r_inTPz (zs := [sy 43, sy 45]) (pk r) (pk_ok r1) ok43 (up_new (up_new (up_new hq n1 _) n2 _) n3 _) upd_same ((hz _ p1 p2 (up_new upd_same n2 _) upd_same).s (Same.newo n3 _)) ?_
    rw [decide_eq_false hpk2]
    have s5 : Same H' (upd (upd (upd H2 p1 (.tup [.str "symbol", .str "+"])) p2 (.tup [.str "symbol", .str "-"])) p3 (.tup [.ref p1, .ref p2])) := by walk_at "sm"
    walk_at "go"
    refine ⟨by show 2 ≤ sizeLine; decide, fun p6 n6 => ?_⟩
    exact fin _ dv (b1.trans (But.of s5)) (r1.s s5) (hd1.s s5) p6 n6
  · have hxl := hx.2.1
    have hxr := hx.2.2
    rw [List.append_assoc] at hR
    have hc42 : pk (Tk.s c :: (toks rr ++ r)) ≠ sy 42 := fun z => by have := sy_inj (c := c) (d := 42) z; omega
    refine ⟨p, o, l, toks l, _, rfl, hR, hxl, .inl ⟨rfl, hl⟩, hc42, ho, fun q1 dv H1 b1 r1 hq1 hd1 => ?_⟩
    walk_at "go"
    refine r_while ⟨fun m σ H' => (m = 1 ∧ H' = H1 ∧ σ = [some (.ref p), some (.int (o : Nat)), some dv, some (.int (hgt l : Nat)), none, none, none]) ∨ (m = 0 ∧ ∃ dv' z4 z5 z6, σ = [some (.ref p), some (.int (o : Nat)), some dv', some (.int (hgt (.op c l rr) : Nat)), z4, z5, z6] ∧ But p H H' ∧ RdAt K H' p r ∧ Rep H' (xD (.op c l rr)) dv'), ⟨1, .inl ⟨rfl, rfl, rfl⟩⟩, ?_⟩
    rintro m σ H' (⟨rfl, rfl, rfl⟩ | ⟨rfl, dv', z4, z5, z6, rfl, b', r', hd'⟩)
    · obtain ⟨dx1, l1, xs1, i1, ts1, h11, _⟩ := id r1
      walk_at "go"
      refine r_me h11 rfl ?_
      walk_at "go"
      refine ⟨p, _, rfl, r1, fun qq H2 s2 hq => ?_⟩
      walk_at "go"
      refine ⟨by show 2 ≤ sizeLine; decide, fun p1 n1 => ?_⟩
      walk_at "go"
      refine ⟨by show 2 ≤ sizeLine; decide, fun p2 n2 => ?_⟩
      walk_at "go"
      refine ⟨by show 2 ≤ sizeLine; decide, fun p3 n3 => ?_⟩
      have hin : pk (Tk.s c :: (toks rr ++ r)) ∈ [sy 43, sy 45] := by
        rcases hc with rfl | rfl
        · exact List.mem_cons_self ..
        · exact List.mem_cons_of_mem _ (List.mem_cons_self ..)
      refine r_inTPz (zs := [sy 43, sy 45]) (pk (Tk.s c :: (toks rr ++ r))) (pk_ok r1) ok43 (up_new (up_new (up_new hq n1 _) n2 _) n3 _) upd_same ((hz _ p1 p2 (up_new upd_same n2 _) upd_same).s (Same.newo n3 _)) ?_
      rw [decide_eq_true hin]
      have s5 : Same H' (upd (upd (upd H2 p1 (.tup [.str "symbol", .str "+"])) p2 (.tup [.str "symbol", .str "-"])) p3 (.tup [.ref p1, .ref p2])) := by walk_at "sm"
      generalize upd (upd (upd H2 p1 (.tup [.str "symbol", .str "+"])) p2 (.tup [.str "symbol", .str "-"])) p3 (.tup [.ref p1, .ref p2]) = H5 at s5 ⊢
      walk_at "go"
      refine ⟨fun σ' H'' => ∃ m', m' < 1 ∧ ((m' = 1 ∧ H'' = H' ∧ σ' = [some (.ref p), some (.int (o : Nat)), some dv, some (.int (hgt l : Nat)), none, none, none]) ∨ (m' = 0 ∧ ∃ dv' z4 z5 z6, σ' = [some (.ref p), some (.int (o : Nat)), some dv', some (.int (hgt (.op c l rr) : Nat)), z4, z5, z6] ∧ But p H H'' ∧ RdAt K H'' p r ∧ Rep H'' (xD (.op c l rr)) dv')), fun _ _ h => h, ?_⟩
      have r5 := r1.s s5
      walk_at "go"
      refine r_me (s5 _ _ h11) rfl ?_
      walk_at "go"
      refine ⟨p, .s c, toks rr ++ r, rfl, r5, fun q6 H6 b6 r6 hq6 => ?_⟩
      replace hq6 : H6 q6 = some (.tup [.str "symbol", .str (S [c])]) := hq6
      have t6 := b6.te r5.nt
      walk_at "go"
      refine ⟨p, o, rr, toks rr, r, rfl, r6, hxr, .inl ⟨rfl, hrr⟩, hpk1, ho, fun q3 dv3 H3 b3 r3 hq3 hd3 => ?_⟩
      have t3 := t6.trans (b3.te r6.nt)
      walk_at "go"
      refine ⟨by show 2 ≤ sizeLine; decide, fun p4 n4 => ?_⟩
      walk_at "go"
      refine ⟨S [c], dv, dv3, p4, hgt l, hgt rr, rfl, upd_same, by omega, fun q7 t7 H7 s7 ht7 hq7 => ?_⟩
      have s37 : Same H3 H7 := Same.trans (Same.newo n4 _) s7
      walk_at "go"
      refine ⟨0, by omega, .inr ⟨rfl, .ref t7, _, _, _, rfl, b1.trans ((But.of s5).trans (b6.trans (b3.trans (But.of s37)))), r3.s s37, ?_⟩⟩
      exact tup_rep ht7 (reps_cons str_rep (reps_cons (((hd1.s s5).mono t3).s s37) (reps_cons (hd3.s s37) reps_nil)))
    · obtain ⟨dx1, l1, xs1, i1, ts1, h11, _⟩ := id r'
      walk_at "go"
      refine r_me h11 rfl ?_
      walk_at "go"
      refine ⟨p, r, rfl, r', fun qq H2 s2 hq => ?_⟩
      walk_at "go"
      refine ⟨by show 2 ≤ sizeLine; decide, fun p1 n1 => ?_⟩
      walk_at "go"
      refine ⟨by show 2 ≤ sizeLine; decide, fun p2 n2 => ?_⟩
      walk_at "go"
      refine ⟨by show 2 ≤ sizeLine; decide, fun p3 n3 => ?_⟩
      refine r_inTPz (zs := [sy 43, sy 45]) (pk r) (pk_ok r') ok43 (up_new (up_new (up_new hq n1 _) n2 _) n3 _) upd_same ((hz _ p1 p2 (up_new upd_same n2 _) upd_same).s (Same.newo n3 _)) ?_
      rw [decide_eq_false hpk2]
      have s5 : Same H' (upd (upd (upd H2 p1 (.tup [.str "symbol", .str "+"])) p2 (.tup [.str "symbol", .str "-"])) p3 (.tup [.ref p1, .ref p2])) := by walk_at "sm"
      walk_at "go"
      refine ⟨by show 2 ≤ sizeLine; decide, fun p6 n6 => ?_⟩
      exact fin _ dv' (b'.trans (But.of s5)) (r'.s s5) (hd'.s s5) p6 n6
end
end K5
end

section
set_option linter.all false
set_option maxRecDepth 100000
/-! Expressions: read_comparison, read_expression. -/
namespace K5
open PySem PySem.Spec PyProof.Rows L2 SX
/- steps -/
local macro_rules | `(tactic| walk_at "sm") => `(tactic| first | assumption | exact Same.refl _ | (refine Same.mut ?_ (by assumption) _; walk_at "sm") | (refine Same.trans ?_ (Same.newo (by assumption) _); walk_at "sm") | (refine Same.trans ?_ (by assumption); walk_at "sm"))
local macro_rules | `(tactic| walk_at "hp") => `(tactic| first | assumption | exact upd_same | (refine up_new ?_ (by assumption) _; walk_at "hp") | (refine Same.up ?_ (by assumption) (by assumption); walk_at "sm") | (refine Same.look (by assumption) ?_; walk_at "hp"))
local macro_rules | `(tactic| walk_at "rep") => `(tactic| first | assumption | exact str_rep | exact int_rep | exact non_rep | (refine' Rep.s ?s ?h; (case h => assumption); (case s => walk_at "sm")))
local macro_rules | `(tactic| walk_at "if") => `(tactic| first | ((with_reducible refine' r_ifT ?e ?_); (case e => decide +kernel)) | ((with_reducible refine' r_ifF ?e ?_); (case e => decide +kernel)))
local macro_rules | `(tactic| walk_at "sz") => `(tactic| first | omega | decide | (simp only [List.length_map, List.length_append, List.length_cons, List.length_nil, List.length_take]; omega))
local macro_rules | `(tactic| walk_at "s") => `(tactic| first
  | with_reducible refine r_seq ?_ | with_reducible refine r_set ?_ | with_reducible refine r_asg ?_ | with_reducible refine r_ret ?_ | with_reducible refine r_drop ?_ | with_reducible refine r_next ?_ | with_reducible refine r_cont ?_ | with_reducible refine r_brk ?_
  | with_reducible refine r_if ?_ | with_reducible refine r_test ?_ | with_reducible refine r_tB ?_ | with_reducible refine r_bl ?_ | with_reducible refine r_and ?_ | with_reducible refine r_or ?_ | with_reducible refine r_not ?_
  | ((with_reducible refine' r_var ?e ?_); (case e => rfl)) | with_reducible refine r_c ?_ | with_reducible refine r_op ?_ | with_reducible refine r_un ?_ | with_reducible refine r_ifx ?_ | with_reducible refine r_andV ?_ | with_reducible refine r_orV ?_ | with_reducible refine r_notV ?_
  | with_reducible refine r_nil ?_ | with_reducible refine r_cons ?_ | with_reducible refine r_cb ?_ | with_reducible refine r_bm ?_ | with_reducible refine r_bm0 ?_ | with_reducible refine r_lst ?_ | with_reducible refine r_tup ?_ | with_reducible refine r_call ?_
  | with_reducible refine r_lc ?_ | with_reducible refine r_dc ?_ | with_reducible refine r_for ?_ | with_reducible refine r_iTup ?_ | with_reducible refine r_iList ?_ | with_reducible refine r_iEnum ?_ | with_reducible refine r_iRng1 ?_
  | with_reducible refine r_sl ?_ | with_reducible refine r_part ?_ | with_reducible refine r_nop ?_ | with_reducible refine r_int ?_ | with_reducible refine r_then ?_ | with_reducible refine r_yes ?_
  | with_reducible refine r_gname ?_ | with_reducible refine r_gcons ?_ | with_reducible refine r_gnil ?_
  | ((with_reducible refine' r_eq ?e ?_); (case e => rfl)) | ((with_reducible refine' r_ne ?e ?_); (case e => rfl)) | with_reducible refine r_I0 ?_
  | ((with_reducible refine' r_ixT0 ?e ?f ?_); (case e => walk_at "hp"); (case f => rfl)) | ((with_reducible refine' r_ixT1 ?e ?f ?_); (case e => walk_at "hp"); (case f => rfl)) | ((with_reducible refine' r_ixT2 ?e ?f ?_); (case e => walk_at "hp"); (case f => rfl)) | ((with_reducible refine' r_ixT3 ?e ?f ?_); (case e => walk_at "hp"); (case f => rfl)) | ((with_reducible refine' r_ixT4 ?e ?f ?_); (case e => walk_at "hp"); (case f => rfl)) | ((with_reducible refine' r_ixL0 ?e ?f ?_); (case e => walk_at "hp"); (case f => rfl)) | ((with_reducible refine' r_ixL1 ?e ?f ?_); (case e => walk_at "hp"); (case f => rfl)) | ((with_reducible refine' r_ixL2 ?e ?f ?_); (case e => walk_at "hp"); (case f => rfl)) | ((with_reducible refine' r_ixL3 ?e ?f ?_); (case e => walk_at "hp"); (case f => rfl)) | ((with_reducible refine' r_ixL4 ?e ?f ?_); (case e => walk_at "hp"); (case f => rfl))
  | ((with_reducible refine' r_ixT ?e ?f ?_); (case e => walk_at "hp"); (case f => rfl)) | ((with_reducible refine' r_ixL ?e ?f ?_); (case e => walk_at "hp"); (case f => rfl))
  | ((with_reducible refine' r_append ?e ?f ?_); (case e => walk_at "hp"); (case f => walk_at "sz")) | ((with_reducible refine' r_extend ?e ?e2 ?f ?_); (case e => walk_at "hp"); (case e2 => walk_at "hp"); (case f => walk_at "sz"))
  | with_reducible refine r_fldE ?_ | with_reducible refine r_methE ?_ | with_reducible refine r_make ?_ | with_reducible refine r_sfld ?_ | with_reducible refine r_iEnumT ?_ | with_reducible refine r_inSg ?_ | with_reducible refine r_ninSg ?_ | with_reducible refine r_bmfE ?_ | with_reducible refine r_dget1 ?_ | with_reducible refine r_chain ?_ | with_reducible refine r_m1E ?_ | with_reducible refine r_m0E ?_ | with_reducible refine r_sfa ?_ | with_reducible refine r_rAdd ?_
  | with_reducible refine r_dgetE ?_ | with_reducible refine r_dinE ?_ | with_reducible refine r_dninE ?_ | with_reducible refine r_dputE ?_ | with_reducible refine r_dnew ?_ | with_reducible refine r_neg ?_
  | ((with_reducible refine' r_truL ?e ?_); (case e => walk_at "hp"))
  | ((with_reducible refine' r_gtup ?e ?f ?_); (case e => walk_at "hp"); (case f => rfl))
  | ((with_reducible refine' r_tyL ?e ?_); (case e => walk_at "hp")) | walk_at "if")
local macro_rules | `(tactic| walk_at "go") => `(tactic| repeat walk_at "s")
/- steps end -/
/-- read_expression(reader) -/
def spExpr (K : PySem.W.Frag) : Sp := fun vs H Q _ => ∃ (p : Addr) (e : Xp) (r : List Tk), vs = [.ref p] ∧ RdAt K H p (toks e ++ r) ∧ XOk e ∧ hgt e ≤ 3 ∧ pk r ∉ [sy 42, sy 43, sy 45, sy 61, sy 60] ∧
  ∀ dv H', But p H H' → RdAt K H' p r → Rep H' (xD e) dv → Q dv H'
section
variable {P : PySem.Program} {w : World} {K : PySem.W.Frag} {mg : Str → Option Value} {base : Heap}
theorem scCmp : FnScope ["reader", "opened", "left", "height", "sign", "right", "other"] ["reader", "opened"] (defScope (top 39)) := ⟨rfl, rfl, rfl, by decide +kernel, rfl, by decide +kernel, by decide +kernel⟩
theorem cmp_step (T : Tx w K mg) (n : Nat) (c_read_sum : C8.Cal P w K mg base (4 + 4 * n + 1 + 1) "read_sum" (spSum K n) []) : C8.Cal P w K mg base (4 + 4 * n + 1 + 1 + 1) "read_comparison" (spCmp K n) [] := by
  have m_peek : C8.Met P w K mg base 1 (He.ga K "Reader") "peek" (spPeek K) [] := peek_met T
  have m_take : C8.Met P w K mg base 2 (He.ga K "Reader") "take" (spTake K) [] := take_met T
  have c_joined : C8.Cal P w K mg base 1 "joined" spJoined [] := joined_cal T
  refine cal T (i := 39) (by decide +kernel) scCmp (fun vs H Q E h => ?_) (fun _ _ _ _ _ _ us hl => match us, hl with | [_, _], _ => rfl) (fun cdv A outer s H vs Q E hr h => ?_)
  · obtain ⟨z, _, _, _, _, rfl, _⟩ := h
    rfl
  obtain ⟨p, o, e, Tt, r, rfl, hR, hx, hT, hpk, ho, q⟩ := h
  have hu := hu65 hr
  refine ⟨_, (pss_cons (ps_asg (C8.pe_c c_read_sum hr (by omega) rfl (pa_cons (pv 0) (pa_cons (pv 1) pa_nil))) (pg_tup rfl (pgs_cons (pg_name (i := 2) scCmp.nd rfl (.inl rfl)) (pgs_cons (pg_name (i := 3) scCmp.nd rfl (.inl rfl)) pgs_nil))))
(pss_cons (ps_if (pt_cmpR (op_inTD hu) (C8.pe_mt0 (pl := L2.plainOf _ _) m_peek hr (by omega) (pv 0)) (pe_tup (pa_cons (pe_tup (pa_cons pe_str (pa_cons pe_str pa_nil))) (pa_cons (pe_tup (pa_cons pe_str (pa_cons pe_str pa_nil))) pa_nil))) rfl)
(pss_cons (ps_set (i := 4) scCmp.nd rfl (.inl rfl) (pe_ix ix_tup (C8.pe_mt0 (pl := L2.plainOf _ _) m_take hr (by omega) (pv 0)) pe_int (fun _ _ => rfl)))
(pss_cons (ps_asg (C8.pe_c c_read_sum hr (by omega) rfl (pa_cons (pv 0) (pa_cons (pv 1) pa_nil))) (pg_tup rfl (pgs_cons (pg_name (i := 5) scCmp.nd rfl (.inl rfl)) (pgs_cons (pg_name (i := 6) scCmp.nd rfl (.inl rfl)) pgs_nil))))
(pss_one (ps_ret (C8.pe_c c_joined hr (by omega) rfl (pa_cons (pv 4) (pa_cons (pv 2) (pa_cons (pv 5) (pa_cons (pe_tup (pa_cons (pv 3) (pa_cons (pv 6) pa_nil))) pa_nil)))))))))
pss_nil)
(pss_one (ps_ret (pe_tup (pa_cons (pv 2) (pa_cons (pv 3) pa_nil))))))), ?_⟩
  have hpk1 : pk r ∉ [sy 42, sy 43, sy 45] := fun z => hpk (by
    rcases List.mem_cons.mp z with h | h
    · rw [h]; simp
    · rcases List.mem_cons.mp h with h | h
      · rw [h]; simp
      · rw [show pk r = sy 45 by simpa using h]; simp)
  have hpk2 : pk r ∉ [sy 61, sy 60] := fun z => hpk (List.mem_cons_of_mem _ (List.mem_cons_of_mem _ (List.mem_cons_of_mem _ z)))
  have ok43 : ∀ z ∈ [sy 61, sy 60], ok2 z := by decide +kernel
  have ep : (sy 61) = (Atm.str "symbol", Atm.str "=") := by decide +kernel
  have em : (sy 60) = (Atm.str "symbol", Atm.str "<") := by decide +kernel
  have hz : ∀ (H2 : Hp) (p1 p2 : Addr), H2 p1 = some (.tup [.str "symbol", .str "="]) → H2 p2 = some (.tup [.str "symbol", .str "<"]) → PrsAt H2 [.ref p1, .ref p2] [sy 61, sy 60] := fun H2 p1 p2 h1 h2 => by
    rw [ep, em]
    exact .cons ⟨p1, rfl, h1⟩ (.cons ⟨p2, rfl, h2⟩ .nil)
  walk_at "go"
  rcases hT with hT | ⟨c, l, rr, hc, rfl, rfl, hl, hrr⟩
  · refine ⟨p, o, e, Tt, r, rfl, hR, hx, hT, hpk1, ho, fun q1 dv H1 b1 r1 hq1 hd1 => ?_⟩
    obtain ⟨dx1, l1, xs1, i1, ts1, h11, _⟩ := id r1
    walk_at "go"
    refine r_me h11 rfl ?_
    walk_at "go"
    refine ⟨p, r, rfl, r1, fun qq H2 s2 hq => ?_⟩
    walk_at "go"
    refine ⟨by show 2 ≤ sizeLine; decide, fun p1 n1 => ?_⟩
    walk_at "go"
    refine ⟨by show 2 ≤ sizeLine; decide, fun p2 n2 => ?_⟩
    walk_at "go"
    refine ⟨by show 2 ≤ sizeLine; decide, fun p3 n3 => ?_⟩
    refine r_inTPz (zs := [sy 61, sy 60]) (pk r) (pk_ok r1) ok43 (up_new (up_new (up_new hq n1 _) n2 _) n3 _) upd_same ((hz _ p1 p2 (up_new upd_same n2 _) upd_same).s (Same.newo n3 _)) ?_
    rw [decide_eq_false hpk2]
    have s5 : Same H1 (upd (upd (upd H2 p1 (.tup [.str "symbol", .str "="])) p2 (.tup [.str "symbol", .str "<"])) p3 (.tup [.ref p1, .ref p2])) := by walk_at "sm"
    walk_at "go"
    refine ⟨by show 2 ≤ sizeLine; decide, fun p6 n6 => ?_⟩
    exact q p6 dv _ (b1.trans ((But.of s5).trans (But.of (Same.newo n6 _)))) ((r1.s s5).s (Same.newo n6 _)) upd_same (Rep.s (Same.newo n6 _) (hd1.s s5))
  · have hxl := hx.2.1
    have hxr := hx.2.2
    rw [List.append_assoc] at hR
    have hc42 : pk (Tk.s c :: (toks rr ++ r)) ∉ [sy 42, sy 43, sy 45] := fun z => by
      rcases List.mem_cons.mp z with h | h
      · have := sy_inj (c := c) h; omega
      · rcases List.mem_cons.mp h with h | h
        · have := sy_inj (c := c) h; omega
        · have := sy_inj (c := c) (List.mem_singleton.mp h); omega
    refine ⟨p, o, l, toks l, _, rfl, hR, hxl, .inl (.inl ⟨rfl, hl⟩), hc42, ho, fun q1 dv H1 b1 r1 hq1 hd1 => ?_⟩
    obtain ⟨dx1, l1, xs1, i1, ts1, h11, _⟩ := id r1
    walk_at "go"
    refine r_me h11 rfl ?_
    walk_at "go"
    refine ⟨p, _, rfl, r1, fun qq H2 s2 hq => ?_⟩
    walk_at "go"
    refine ⟨by show 2 ≤ sizeLine; decide, fun p1 n1 => ?_⟩
    walk_at "go"
    refine ⟨by show 2 ≤ sizeLine; decide, fun p2 n2 => ?_⟩
    walk_at "go"
    refine ⟨by show 2 ≤ sizeLine; decide, fun p3 n3 => ?_⟩
    have hin : pk (Tk.s c :: (toks rr ++ r)) ∈ [sy 61, sy 60] := by
      rcases hc with rfl | rfl
      · exact List.mem_cons_self ..
      · exact List.mem_cons_of_mem _ (List.mem_cons_self ..)
    refine r_inTPz (zs := [sy 61, sy 60]) (pk (Tk.s c :: (toks rr ++ r))) (pk_ok r1) ok43 (up_new (up_new (up_new hq n1 _) n2 _) n3 _) upd_same ((hz _ p1 p2 (up_new upd_same n2 _) upd_same).s (Same.newo n3 _)) ?_
    rw [decide_eq_true hin]
    have s5 : Same H1 (upd (upd (upd H2 p1 (.tup [.str "symbol", .str "="])) p2 (.tup [.str "symbol", .str "<"])) p3 (.tup [.ref p1, .ref p2])) := by walk_at "sm"
    generalize upd (upd (upd H2 p1 (.tup [.str "symbol", .str "="])) p2 (.tup [.str "symbol", .str "<"])) p3 (.tup [.ref p1, .ref p2]) = H5 at s5 ⊢
    have r5 := r1.s s5
    walk_at "go"
    refine r_me (s5 _ _ h11) rfl ?_
    walk_at "go"
    refine ⟨p, .s c, toks rr ++ r, rfl, r5, fun q6 H6 b6 r6 hq6 => ?_⟩
    replace hq6 : H6 q6 = some (.tup [.str "symbol", .str (S [c])]) := hq6
    have t6 := b6.te r5.nt
    walk_at "go"
    refine ⟨p, o, rr, toks rr, r, rfl, r6, hxr, .inl (.inl ⟨rfl, hrr⟩), hpk1, ho, fun q3 dv3 H3 b3 r3 hq3 hd3 => ?_⟩
    have t3 := t6.trans (b3.te r6.nt)
    walk_at "go"
    refine ⟨by show 2 ≤ sizeLine; decide, fun p4 n4 => ?_⟩
    walk_at "go"
    refine ⟨S [c], dv, dv3, p4, hgt l, hgt rr, rfl, upd_same, by omega, fun q7 t7 H7 s7 ht7 hq7 => ?_⟩
    have s37 : Same H3 H7 := Same.trans (Same.newo n4 _) s7
    refine q q7 (.ref t7) H7 (b1.trans ((But.of s5).trans (b6.trans (b3.trans (But.of s37))))) (r3.s s37) hq7 ?_
    exact tup_rep ht7 (reps_cons str_rep (reps_cons (((hd1.s s5).mono t3).s s37) (reps_cons (hd3.s s37) reps_nil)))
theorem cmp_cal (T : Tx w K mg) : ∀ n : Nat, C8.Cal P w K mg base (7 + 4 * n) "read_comparison" (spCmp K n) []
  | 0 => by
    have c0 : C8.Cal P w K mg base 0 "read_primary" (spPrim K 0) [] := cal_no T (i := 36) (ps := ["reader", "opened"]) (by decide +kernel) (fun _ _ _ _ _ _ us hl => match us, hl with | [_, _], _ => rfl) fun vs H Q E h => by
      obtain ⟨_, _, e, _, _, _, _, h0, _⟩ := h
      have := hgt_pos e
      omega
    exact cmp_step T 0 (sum_step T 0 (prod_step T 0 (cal_mono c0 (Nat.zero_le _))))
  | n + 1 => by
    have c1 := prim_step T n (cmp_cal T n)
    have e1 : 7 + 4 * n + 1 = 4 + 4 * (n + 1) := by omega
    have e2 : 7 + 4 * (n + 1) = 4 + 4 * (n + 1) + 1 + 1 + 1 := by omega
    rw [e1] at c1
    rw [e2]
    exact cmp_step T (n + 1) (sum_step T (n + 1) (prod_step T (n + 1) c1))
theorem scExpr : FnScope ["reader"] ["reader"] (defScope (top 40)) := ⟨rfl, rfl, rfl, by decide +kernel, rfl, by decide +kernel, by decide +kernel⟩
theorem expr_cal (T : Tx w K mg) : C8.Cal P w K mg base 20 "read_expression" (spExpr K) [] := by
  have c_read_comparison : C8.Cal P w K mg base 19 "read_comparison" (spCmp K 3) [] := cmp_cal T 3
  refine cal T (i := 40) (by decide +kernel) scExpr (fun vs H Q E h => ?_) (fun _ _ _ _ _ _ us hl => match us, hl with | [_], _ => rfl) (fun cdv A outer s H vs Q E hr h => ?_)
  · obtain ⟨z, _, _, rfl, _⟩ := h
    rfl
  obtain ⟨p, e, r, rfl, hR, hx, hh, hpk, q⟩ := h
  refine ⟨_, (pss_one (ps_ret (pe_ix ix_tup (C8.pe_c c_read_comparison hr (by omega) rfl (pa_cons (pv 0) (pa_cons pe_int pa_nil))) pe_int (fun _ _ => rfl)))), ?_⟩
  walk_at "go"
  refine ⟨p, 0, e, toks e, r, rfl, hR, hx, .inl (.inl (.inl ⟨rfl, hh⟩)), hpk, by omega, fun q1 dv H1 b1 r1 hq1 hd1 => ?_⟩
  walk_at "go"
  exact q dv H1 b1 r1 hd1
end
end K5
end

section
set_option linter.all false
set_option maxRecDepth 100000
/-! Nodes read: read_deed, read_node, parse_node, parse_entry. -/
namespace K5
open PySem PySem.Spec PyProof.Rows L2 SX
theorem r_tupFE {t : TA} {σ : L2.St} {H : Hp} {Q : VK} (h : t σ H fun xs H1 => xs.length ≤ sizeLine ∧ ∀ (p : Addr) (o : Obj), H1 p = none → o.dict = none → Q (.ref p) (upd H1 p (.frz o (.tup xs)))) : tTupF t σ H Q := h
/- steps -/
local macro_rules | `(tactic| walk_at "sm") => `(tactic| first | assumption | exact Same.refl _ | (refine Same.mut ?_ (by assumption) _; walk_at "sm") | (refine Same.trans ?_ (Same.newo (by assumption) _); walk_at "sm") | (refine Same.trans ?_ (by assumption); walk_at "sm"))
local macro_rules | `(tactic| walk_at "hp") => `(tactic| first | assumption | exact upd_same | (refine up_new ?_ (by assumption) _; walk_at "hp") | (refine Same.up ?_ (by assumption) (by assumption); walk_at "sm") | (refine Same.look (by assumption) ?_; walk_at "hp"))
local macro_rules | `(tactic| walk_at "rep") => `(tactic| first | assumption | exact str_rep | exact int_rep | exact non_rep | (refine' Rep.s ?s ?h; (case h => assumption); (case s => walk_at "sm")))
local macro_rules | `(tactic| walk_at "if") => `(tactic| first | ((with_reducible refine' r_ifT ?e ?_); (case e => decide +kernel)) | ((with_reducible refine' r_ifF ?e ?_); (case e => decide +kernel)))
local macro_rules | `(tactic| walk_at "sz") => `(tactic| first | omega | decide | (simp only [List.length_map, List.length_append, List.length_cons, List.length_nil, List.length_take]; omega))
local macro_rules | `(tactic| walk_at "s") => `(tactic| first
  | with_reducible refine r_seq ?_ | with_reducible refine r_set ?_ | with_reducible refine r_asg ?_ | with_reducible refine r_ret ?_ | with_reducible refine r_drop ?_ | with_reducible refine r_next ?_ | with_reducible refine r_cont ?_ | with_reducible refine r_brk ?_
  | with_reducible refine r_if ?_ | with_reducible refine r_test ?_ | with_reducible refine r_tB ?_ | with_reducible refine r_bl ?_ | with_reducible refine r_and ?_ | with_reducible refine r_or ?_ | with_reducible refine r_not ?_
  | ((with_reducible refine' r_var ?e ?_); (case e => rfl)) | with_reducible refine r_c ?_ | with_reducible refine r_op ?_ | with_reducible refine r_un ?_ | with_reducible refine r_ifx ?_ | with_reducible refine r_andV ?_ | with_reducible refine r_orV ?_ | with_reducible refine r_notV ?_
  | with_reducible refine r_nil ?_ | with_reducible refine r_cons ?_ | with_reducible refine r_cb ?_ | with_reducible refine r_bm ?_ | with_reducible refine r_bm0 ?_ | with_reducible refine r_lst ?_ | with_reducible refine r_tup ?_ | with_reducible refine r_call ?_
  | with_reducible refine r_lc ?_ | with_reducible refine r_dc ?_ | with_reducible refine r_for ?_ | with_reducible refine r_iTup ?_ | with_reducible refine r_iList ?_ | with_reducible refine r_iEnum ?_ | with_reducible refine r_iRng1 ?_
  | with_reducible refine r_sl ?_ | with_reducible refine r_part ?_ | with_reducible refine r_nop ?_ | with_reducible refine r_int ?_ | with_reducible refine r_then ?_ | with_reducible refine r_yes ?_
  | with_reducible refine r_gname ?_ | with_reducible refine r_gcons ?_ | with_reducible refine r_gnil ?_
  | ((with_reducible refine' r_eq ?e ?_); (case e => rfl)) | ((with_reducible refine' r_ne ?e ?_); (case e => rfl)) | with_reducible refine r_I0 ?_
  | ((with_reducible refine' r_ixT0 ?e ?f ?_); (case e => walk_at "hp"); (case f => rfl)) | ((with_reducible refine' r_ixT1 ?e ?f ?_); (case e => walk_at "hp"); (case f => rfl)) | ((with_reducible refine' r_ixT2 ?e ?f ?_); (case e => walk_at "hp"); (case f => rfl)) | ((with_reducible refine' r_ixT3 ?e ?f ?_); (case e => walk_at "hp"); (case f => rfl)) | ((with_reducible refine' r_ixT4 ?e ?f ?_); (case e => walk_at "hp"); (case f => rfl)) | ((with_reducible refine' r_ixL0 ?e ?f ?_); (case e => walk_at "hp"); (case f => rfl)) | ((with_reducible refine' r_ixL1 ?e ?f ?_); (case e => walk_at "hp"); (case f => rfl)) | ((with_reducible refine' r_ixL2 ?e ?f ?_); (case e => walk_at "hp"); (case f => rfl)) | ((with_reducible refine' r_ixL3 ?e ?f ?_); (case e => walk_at "hp"); (case f => rfl)) | ((with_reducible refine' r_ixL4 ?e ?f ?_); (case e => walk_at "hp"); (case f => rfl))
  | ((with_reducible refine' r_ixT ?e ?f ?_); (case e => walk_at "hp"); (case f => rfl)) | ((with_reducible refine' r_ixL ?e ?f ?_); (case e => walk_at "hp"); (case f => rfl))
  | ((with_reducible refine' r_append ?e ?f ?_); (case e => walk_at "hp"); (case f => walk_at "sz")) | ((with_reducible refine' r_extend ?e ?e2 ?f ?_); (case e => walk_at "hp"); (case e2 => walk_at "hp"); (case f => walk_at "sz"))
  | with_reducible refine r_fldE ?_ | with_reducible refine r_methE ?_ | with_reducible refine r_make ?_ | with_reducible refine r_sfld ?_ | with_reducible refine r_iEnumT ?_ | with_reducible refine r_inSg ?_ | with_reducible refine r_ninSg ?_ | with_reducible refine r_bmfE ?_ | with_reducible refine r_dget1 ?_ | with_reducible refine r_chain ?_ | with_reducible refine r_tupFE ?_ | with_reducible refine r_m1E ?_ | with_reducible refine r_m0E ?_ | with_reducible refine r_sfa ?_ | with_reducible refine r_rAdd ?_
  | with_reducible refine r_dgetE ?_ | with_reducible refine r_dinE ?_ | with_reducible refine r_dninE ?_ | with_reducible refine r_dputE ?_ | with_reducible refine r_dnew ?_ | with_reducible refine r_neg ?_
  | ((with_reducible refine' r_truL ?e ?_); (case e => walk_at "hp"))
  | ((with_reducible refine' r_gtup ?e ?f ?_); (case e => walk_at "hp"); (case f => rfl))
  | ((with_reducible refine' r_tyL ?e ?_); (case e => walk_at "hp")) | walk_at "if")
local macro_rules | `(tactic| walk_at "go") => `(tactic| repeat walk_at "s")
/- steps end -/
inductive Dd where
  | set (x : List Nat) (e : Xp) | prt (e : Xp) | iff (e : Xp)
/-- a node as the law writes it -/
structure Pn where
  l : List Nat
  d : Dd
  t0 : List Nat
  t1 : List Nat
abbrev ch (z : Str) : List Nat := TL.tl z
def Dd.k : Dd → Str
  | .set _ _ => "set"
  | .prt _ => "print"
  | .iff _ => "if"
def Dd.r : Dd → List D
  | .set x e => [.str (S x), xD e]
  | .prt e => [xD e]
  | .iff e => [xD e]
def Dd.tk : Dd → List Tk
  | .set x e => .w x :: .s 61 :: toks e
  | .prt e => .w (ch "print") :: toks e
  | .iff e => .w (ch "if") :: toks e
def Dd.x : Dd → Xp
  | .set _ e => e
  | .prt e => e
  | .iff e => e
def DdOk (d : Dd) : Prop := XOk d.x ∧ hgt d.x ≤ 3 ∧ ∀ x e, d = .set x e → NmOk (S x)
def Pn.tgs (n : Pn) : List (List Nat) := match n.d with
  | .iff _ => [n.t0, n.t1]
  | _ => [n.t0]
def Pn.nod (n : Pn) : Nod := ⟨S n.l, n.d.k, n.d.r, n.tgs.map S⟩
def Pn.tk (n : Pn) : List Tk := .w n.l :: .s 58 :: (n.d.tk ++ (.w (ch "goto") :: .w n.t0 :: (match n.d with
  | .iff _ => [.w (ch "else"), .w n.t1]
  | _ => [])))
def TgOk (x : List Nat) : Prop := S x = "exit" ∨ (S x ≠ "exit" ∧ LbOk x)
structure PnOk (n : Pn) : Prop where
  l : LbOk n.l
  d : DdOk n.d
  t0 : TgOk n.t0
  t1 : TgOk n.t1
theorem S_ch (z : Str) : S (ch z) = z := S_tl z
theorem TF.but {H H' : Hp} {p t C dx : Addr} {fs : List (Str × V)} {xs : List V} (b : But p H H') (hp : H p = some (.ins C dx fs)) (h : TF H t xs) : TF H' t xs := by
  obtain ⟨o, a, c⟩ := h
  exact ⟨o, b _ _ (ne_of a hp (by intro z; cases z)) a, c⟩
theorem pk_goto {r : List Tk} : pk (Tk.w (ch "goto") :: r) ∉ [sy 42, sy 43, sy 45, sy 61, sy 60] := by
  show (Tk.w (ch "goto")).at ∉ _
  decide +kernel
def spDeed (K : PySem.W.Frag) : Sp := fun vs H Q _ => ∃ (p : Addr) (d : Dd) (r : List Tk), vs = [.ref p] ∧ RdAt K H p (d.tk ++ r) ∧ DdOk d ∧ pk r ∉ [sy 42, sy 43, sy 45, sy 61, sy 60] ∧
  ∀ dv H', But p H H' → RdAt K H' p r → Rep H' (.tup (.str d.k :: d.r)) dv → Q dv H'
def spRNode (K : PySem.W.Frag) : Sp := fun vs H Q _ => ∃ (p : Addr) (n : Pn), vs = [.ref p] ∧ RdAt K H p n.tk ∧ PnOk n ∧ ∀ v H', But p H H' → NdAt H' n.nod v → Q v H'
def spPNode : Sp := fun vs H Q _ => ∃ (l : List Nat) (n : Pn), vs = [.str (S l)] ∧ Lex l n.tk ∧ l.length ≤ 10000 ∧ (∀ t ∈ n.tk, ok2 t.at) ∧ PnOk n ∧ ∀ v H', Same H H' → NdAt H' n.nod v → Q v H'
def spPEntry : Sp := fun vs H Q _ => ∃ (l x : List Nat), vs = [.str (S l)] ∧ Lex l [.w (ch "entry"), .w x] ∧ l.length ≤ 10000 ∧ TgOk x ∧ PyData.strOk (S x) = true ∧ ∀ H', Same H H' → Q (.str (S x)) H'
section
variable {P : PySem.Program} {w : World} {K : PySem.W.Frag} {mg : Str → Option Value} {base : Heap}
theorem scDeed : FnScope ["reader", "name"] ["reader"] (defScope (top 45)) := ⟨rfl, rfl, rfl, by decide +kernel, rfl, by decide +kernel, by decide +kernel⟩
theorem deed_cal (T : Tx w K mg) : C8.Cal P w K mg base 21 "read_deed" (spDeed K) [] := by
  have m_skip : C8.Met P w K mg base 2 (He.ga K "Reader") "skip" (spSkip K) [] := skip_met T
  have m_expect : C8.Met P w K mg base 3 (He.ga K "Reader") "expect" (spExpect K) [] := expect_met T
  have m_take_name : C8.Met P w K mg base 3 (He.ga K "Reader") "take_name" (spTName K) [] := tname_met T
  have c_read_expression : C8.Cal P w K mg base 20 "read_expression" (spExpr K) [] := expr_cal T
  refine cal T (i := 45) (by decide +kernel) scDeed (fun vs H Q E h => ?_) (fun _ _ _ _ _ _ us hl => match us, hl with | [_], _ => rfl) (fun cdv A outer s H vs Q E hr h => ?_)
  · obtain ⟨z, _, _, rfl, _⟩ := h
    rfl
  obtain ⟨p, d, r, rfl, hR, hd, hpk, q⟩ := h
  obtain ⟨dx0, l0, xs0, i0, ts0, h01, _⟩ := id hR
  refine ⟨_, (pss_cons (ps_if (pt_val (C8.pe_mt (pl := L2.plainOf _ _) m_skip hr (by omega) (pv 0) (pa_cons pe_str (pa_cons pe_str pa_nil))))
(pss_one (ps_ret (pe_tup (pa_cons pe_str (pa_cons (C8.pe_c c_read_expression hr (by omega) rfl (pa_cons (pv 0) pa_nil)) pa_nil)))))
pss_nil)
(pss_cons (ps_if (pt_val (C8.pe_mt (pl := L2.plainOf _ _) m_skip hr (by omega) (pv 0) (pa_cons pe_str (pa_cons pe_str pa_nil))))
(pss_one (ps_ret (pe_tup (pa_cons pe_str (pa_cons (C8.pe_c c_read_expression hr (by omega) rfl (pa_cons (pv 0) pa_nil)) pa_nil)))))
pss_nil)
(pss_cons (ps_set (i := 1) scDeed.nd rfl (.inl rfl) (C8.pe_mt0 (pl := L2.plainOf _ _) m_take_name hr (by omega) (pv 0)))
(pss_cons (ps_expr (C8.pe_mt (pl := L2.plainOf _ _) m_expect hr (by omega) (pv 0) (pa_cons pe_str (pa_cons pe_str pa_nil))))
(pss_one (ps_ret (pe_tup (pa_cons pe_str (pa_cons (pv 1) (pa_cons (C8.pe_c c_read_expression hr (by omega) rfl (pa_cons (pv 0) pa_nil)) pa_nil)))))))))), ?_⟩
  walk_at "go"
  refine r_me h01 rfl ?_
  walk_at "go"
  have ew : ∀ (x : List Nat) (z : Str), (Tk.w x).at = (Atm.str "word", Atm.str z) → S x = z := fun x z e => Atm.str.inj (congrArg Prod.snd e)
  cases d with
  | prt e =>
    refine ⟨p, _, "word", "print", rfl, hR, by decide +kernel, by decide +kernel, fun _ H1 t r1 er b1 r1' => ?_, fun e0 => absurd (show (Tk.w (ch "print")).at = (Atm.str "word", Atm.str "print") by decide +kernel) e0⟩
    obtain ⟨rfl, rfl⟩ := List.cons.inj (show Tk.w (ch "print") :: (toks e ++ r) = t :: r1 from er)
    walk_at "go"
    refine ⟨p, e, r, rfl, r1', hd.1, hd.2.1, hpk, fun dv H2 b2 r2 hd2 => ?_⟩
    walk_at "go"
    refine ⟨by show 2 ≤ sizeLine; decide, fun p1 n1 => ?_⟩
    exact q _ _ (b1.trans (b2.trans (But.of (Same.newo n1 _)))) (r2.s (Same.newo n1 _)) (rep_new n1 (reps_cons str_rep (reps_cons hd2 reps_nil)))
  | iff e =>
    refine ⟨p, _, "word", "print", rfl, hR, by decide +kernel, by decide +kernel, fun e0 => absurd (show (Tk.w (ch "if")).at = (Atm.str "word", Atm.str "print") from e0) (by decide +kernel), fun _ H1 b1 r1 => ?_⟩
    obtain ⟨dx1, l1, xs1, i1, ts1, h11, _⟩ := id r1
    walk_at "go"
    refine r_me h11 rfl ?_
    walk_at "go"
    refine ⟨p, _, "word", "if", rfl, r1, by decide +kernel, by decide +kernel, fun _ H2 t r2 er b2 r2' => ?_, fun e0 => absurd (show (Tk.w (ch "if")).at = (Atm.str "word", Atm.str "if") by decide +kernel) e0⟩
    obtain ⟨rfl, rfl⟩ := List.cons.inj (show Tk.w (ch "if") :: (toks e ++ r) = t :: r2 from er)
    walk_at "go"
    refine ⟨p, e, r, rfl, r2', hd.1, hd.2.1, hpk, fun dv H3 b3 r3 hd3 => ?_⟩
    walk_at "go"
    refine ⟨by show 2 ≤ sizeLine; decide, fun p1 n1 => ?_⟩
    exact q _ _ (b1.trans (b2.trans (b3.trans (But.of (Same.newo n1 _))))) (r3.s (Same.newo n1 _)) (rep_new n1 (reps_cons str_rep (reps_cons hd3 reps_nil)))
  | set x e =>
    have hnm := hd.2.2 x e rfl
    have h1 : S x ≠ "print" := fun z => hnm.2 (by rw [z]; decide +kernel)
    have h2 : S x ≠ "if" := fun z => hnm.2 (by rw [z]; decide +kernel)
    refine ⟨p, _, "word", "print", rfl, hR, by decide +kernel, by decide +kernel, fun e0 => absurd (ew x _ e0) h1, fun _ H1 b1 r1 => ?_⟩
    obtain ⟨dx1, l1, xs1, i1, ts1, h11, _⟩ := id r1
    walk_at "go"
    refine r_me h11 rfl ?_
    walk_at "go"
    refine ⟨p, _, "word", "if", rfl, r1, by decide +kernel, by decide +kernel, fun e0 => absurd (ew x _ e0) h2, fun _ H2 b2 r2 => ?_⟩
    obtain ⟨dx2, l2, xs2, i2, ts2, h21, _⟩ := id r2
    walk_at "go"
    refine r_me h21 rfl ?_
    walk_at "go"
    refine ⟨p, x, .s 61 :: (toks e ++ r), rfl, r2, hnm, fun H3 b3 r3 => ?_⟩
    obtain ⟨dx3, l3, xs3, i3, ts3, h31, _⟩ := id r3
    walk_at "go"
    refine r_me h31 rfl ?_
    walk_at "go"
    refine ⟨p, .s 61, toks e ++ r, "symbol", "=", rfl, r3, by decide +kernel, by decide +kernel, by decide +kernel, fun H4 b4 r4 => ?_⟩
    walk_at "go"
    refine ⟨p, e, r, rfl, r4, hd.1, hd.2.1, hpk, fun dv H5 b5 r5 hd5 => ?_⟩
    walk_at "go"
    refine ⟨by show 3 ≤ sizeLine; decide, fun p1 n1 => ?_⟩
    exact q _ _ (b1.trans (b2.trans (b3.trans (b4.trans (b5.trans (But.of (Same.newo n1 _))))))) (r5.s (Same.newo n1 _)) (rep_new n1 (reps_cons str_rep (reps_cons str_rep (reps_cons hd5 reps_nil))))
theorem scRNode : FnScope ["reader", "label", "deed", "targets"] ["reader"] (defScope (top 46)) := ⟨rfl, rfl, rfl, by decide +kernel, rfl, by decide +kernel, by decide +kernel⟩
theorem rnode_cal (T : Tx w K mg) : C8.Cal P w K mg base 22 "read_node" (spRNode K) [] := by
  have m_take_label : C8.Met P w K mg base 3 (He.ga K "Reader") "take_label" (spTLabel K) [] := tlabel_met T
  have m_take_target : C8.Met P w K mg base 4 (He.ga K "Reader") "take_target" (spTTarget K) [] := ttarget_met T
  have m_expect : C8.Met P w K mg base 3 (He.ga K "Reader") "expect" (spExpect K) [] := expect_met T
  have m_finish : C8.Met P w K mg base 1 (He.ga K "Reader") "finish" (spFinish K) [] := finish_met T
  have c_read_deed : C8.Cal P w K mg base 21 "read_deed" (spDeed K) [] := deed_cal T
  refine cal T (i := 46) (by decide +kernel) scRNode (fun vs H Q E h => ?_) (fun _ _ _ _ _ _ us hl => match us, hl with | [_], _ => rfl) (fun cdv A outer s H vs Q E hr h => ?_)
  · obtain ⟨z, _, rfl, _⟩ := h
    rfl
  obtain ⟨p, n, rfl, hR, ok, q⟩ := h
  obtain ⟨dx0, l0, xs0, i0, ts0, h01, _⟩ := id hR
  refine ⟨_, (pss_cons (ps_set (i := 1) scRNode.nd rfl (.inl rfl) (C8.pe_mt0 (pl := L2.plainOf _ _) m_take_label hr (by omega) (pv 0)))
(pss_cons (ps_expr (C8.pe_mt (pl := L2.plainOf _ _) m_expect hr (by omega) (pv 0) (pa_cons pe_str (pa_cons pe_str pa_nil))))
(pss_cons (ps_set (i := 2) scRNode.nd rfl (.inl rfl) (C8.pe_c c_read_deed hr (by omega) rfl (pa_cons (pv 0) pa_nil)))
(pss_cons (ps_expr (C8.pe_mt (pl := L2.plainOf _ _) m_expect hr (by omega) (pv 0) (pa_cons pe_str (pa_cons pe_str pa_nil))))
(pss_cons (ps_set (i := 3) scRNode.nd rfl (.inl rfl) (pe_tupF (pa_cons (C8.pe_mt0 (pl := L2.plainOf _ _) m_take_target hr (by omega) (pv 0)) pa_nil)))
(pss_cons (ps_if (pt_cmpR op_eq (pe_ix ix_tup (pv 2) pe_int (fun _ _ => rfl)) pe_str (nomark _))
(pss_cons (ps_expr (C8.pe_mt (pl := L2.plainOf _ _) m_expect hr (by omega) (pv 0) (pa_cons pe_str (pa_cons pe_str pa_nil))))
(pss_one (ps_set (i := 3) scRNode.nd rfl (.inl rfl) (pe_op op_catF (pv 3) (pe_tupF (pa_cons (C8.pe_mt0 (pl := L2.plainOf _ _) m_take_target hr (by omega) (pv 0)) pa_nil))))))
pss_nil)
(pss_cons (ps_expr (C8.pe_mt0 (pl := L2.plainOf _ _) m_finish hr (by omega) (pv 0)))
(pss_one (ps_ret (pe_tup (pa_cons (pv 1) (pa_cons (pv 2) (pa_cons (pv 3) pa_nil))))))))))))), ?_⟩
  walk_at "go"
  refine r_me h01 rfl ?_
  walk_at "go"
  refine ⟨p, n.l, _, rfl, hR, ok.l, fun H1 b1 r1 => ?_⟩
  obtain ⟨dx1, l1, xs1, i1, ts1, h11, _⟩ := id r1
  walk_at "go"
  refine r_me h11 rfl ?_
  walk_at "go"
  refine ⟨p, .s 58, _, "symbol", ":", rfl, r1, by decide +kernel, by decide +kernel, by decide +kernel, fun H2 b2 r2 => ?_⟩
  walk_at "go"
  refine ⟨p, n.d, _, rfl, r2, ok.d, pk_goto, fun dv H3 b3 r3 hd3 => ?_⟩
  obtain ⟨dx3, l3, xs3, i3, ts3, h31, _⟩ := id r3
  walk_at "go"
  refine r_me h31 rfl ?_
  walk_at "go"
  refine ⟨p, .w (ch "goto"), _, "word", "goto", rfl, r3, by decide +kernel, by decide +kernel, by decide +kernel, fun H4 b4 r4 => ?_⟩
  obtain ⟨dx4, l4, xs4, i4, ts4, h41, _⟩ := id r4
  have hd4 := hd3.mono (b4.te r3.nt)
  walk_at "go"
  refine r_me h41 rfl ?_
  walk_at "go"
  refine ⟨p, n.t0, _, rfl, r4, ok.t0, fun H5 b5 r5 => ?_⟩
  have hd5 := hd4.mono (b5.te r4.nt)
  walk_at "go"
  refine ⟨by show 1 ≤ sizeLine; decide, fun t ob nt hob => ?_⟩
  have s6 : Same H5 (upd H5 t (.frz ob (.tup [.str (S n.t0)]))) := Same.newo nt _
  have ht6 : TF (upd H5 t (.frz ob (.tup [.str (S n.t0)]))) t [.str (S n.t0)] := ⟨ob, upd_same, hob⟩
  generalize upd H5 t (.frz ob (.tup [.str (S n.t0)])) = H6 at s6 ht6 ⊢
  have r6 := r5.s s6
  have hd6 := hd5.s s6
  have b6 : But p H H6 := b1.trans (b2.trans (b3.trans (b4.trans (b5.trans (But.of s6)))))
  obtain ⟨dx6, l6, xs6, i6, ts6, h61, _⟩ := id r6
  obtain ⟨pd, dxs, rfl, hpd, hds⟩ := rep_tup hd6
  obtain ⟨y0, yr, rfl, hy0, hyr⟩ := cons_reps hds
  obtain rfl := rep_str hy0
  obtain ⟨l, d, t0, t1⟩ := n
  cases d with
  | iff e =>
    replace hpd : H6 pd = some (.tup (.str "if" :: yr)) := hpd
    walk_at "go"
    refine r_me h61 rfl ?_
    walk_at "go"
    refine ⟨p, .w (ch "else"), _, "word", "else", rfl, r6, by decide +kernel, by decide +kernel, by decide +kernel, fun H7 b7 r7 => ?_⟩
    have ht7 := TF.but b7 h61 ht6
    have hd7 := hd6.mono (b7.te r6.nt)
    obtain ⟨dx7, l7, xs7, i7, ts7, h71, _⟩ := id r7
    walk_at "go"
    refine r_me h71 rfl ?_
    walk_at "go"
    refine ⟨p, t1, _, rfl, r7, ok.t1, fun H8 b8 r8 => ?_⟩
    have ht8 := TF.but b8 h71 ht7
    have hd8 := hd7.mono (b8.te r7.nt)
    walk_at "go"
    refine ⟨by show 1 ≤ sizeLine; decide, fun t2 ob2 nt2 hob2 => ?_⟩
    have s9 : Same H8 (upd H8 t2 (.frz ob2 (.tup [.str (S t1)]))) := Same.newo nt2 _
    refine ⟨t, t2, _, _, rfl, rfl, (ht8.s s9).sqt, .inl (.inr ⟨ob2, upd_same⟩), by simp, by simp, by show 2 ≤ sizeLine; decide, fun t3 ob3 nt3 hob3 => ?_⟩
    have s10 : Same H8 (upd (upd H8 t2 (.frz ob2 (.tup [.str (S t1)]))) t3 (.frz ob3 (.tup ([.str (S t0)] ++ [.str (S t1)])))) := Same.trans s9 (Same.newo nt3 _)
    have ht10 : TF (upd (upd H8 t2 (.frz ob2 (.tup [.str (S t1)]))) t3 (.frz ob3 (.tup ([.str (S t0)] ++ [.str (S t1)])))) t3 ([.str (S t0)] ++ [.str (S t1)]) := ⟨ob3, upd_same, hob3⟩
    generalize upd (upd H8 t2 (.frz ob2 (.tup [.str (S t1)]))) t3 (.frz ob3 (.tup ([.str (S t0)] ++ [.str (S t1)]))) = H10 at s10 ht10 ⊢
    have r10 := r8.s s10
    obtain ⟨dx8, l8, xs8, i8, ts8, h81, _⟩ := id r10
    walk_at "go"
    refine r_me h81 rfl ?_
    walk_at "go"
    refine ⟨p, rfl, r10, ?_⟩
    walk_at "go"
    refine ⟨by show 3 ≤ sizeLine; decide, fun p1 n1 => ?_⟩
    exact q _ _ (b6.trans (b7.trans (b8.trans ((But.of s10).trans (But.of (Same.newo n1 _)))))) ⟨p1, t3, _, rfl, upd_same, Rep.s (Same.newo n1 _) (hd8.s s10), ht10.s (Same.newo n1 _)⟩
  | prt e =>
    replace hpd : H6 pd = some (.tup (.str "print" :: yr)) := hpd
    walk_at "go"
    refine r_me h61 rfl ?_
    walk_at "go"
    refine ⟨p, rfl, r6, ?_⟩
    walk_at "go"
    refine ⟨by show 3 ≤ sizeLine; decide, fun p1 n1 => ?_⟩
    exact q _ _ (b6.trans (But.of (Same.newo n1 _))) ⟨p1, t, _, rfl, upd_same, Rep.s (Same.newo n1 _) hd6, ht6.s (Same.newo n1 _)⟩
  | set x e =>
    replace hpd : H6 pd = some (.tup (.str "set" :: yr)) := hpd
    walk_at "go"
    refine r_me h61 rfl ?_
    walk_at "go"
    refine ⟨p, rfl, r6, ?_⟩
    walk_at "go"
    refine ⟨by show 3 ≤ sizeLine; decide, fun p1 n1 => ?_⟩
    exact q _ _ (b6.trans (But.of (Same.newo n1 _))) ⟨p1, t, _, rfl, upd_same, Rep.s (Same.newo n1 _) hd6, ht6.s (Same.newo n1 _)⟩
end
end K5
end

section
set_option linter.all false
set_option maxRecDepth 100000
/-! parse_node, parse_entry. -/
namespace K5
open PySem PySem.Spec PyProof.Rows L2 SX
/- steps -/
local macro_rules | `(tactic| walk_at "sm") => `(tactic| first | assumption | exact Same.refl _ | (refine Same.mut ?_ (by assumption) _; walk_at "sm") | (refine Same.trans ?_ (Same.newo (by assumption) _); walk_at "sm") | (refine Same.trans ?_ (by assumption); walk_at "sm"))
local macro_rules | `(tactic| walk_at "hp") => `(tactic| first | assumption | exact upd_same | (refine up_new ?_ (by assumption) _; walk_at "hp") | (refine Same.up ?_ (by assumption) (by assumption); walk_at "sm") | (refine Same.look (by assumption) ?_; walk_at "hp"))
local macro_rules | `(tactic| walk_at "rep") => `(tactic| first | assumption | exact str_rep | exact int_rep | exact non_rep | (refine' Rep.s ?s ?h; (case h => assumption); (case s => walk_at "sm")))
local macro_rules | `(tactic| walk_at "if") => `(tactic| first | ((with_reducible refine' r_ifT ?e ?_); (case e => decide +kernel)) | ((with_reducible refine' r_ifF ?e ?_); (case e => decide +kernel)))
local macro_rules | `(tactic| walk_at "sz") => `(tactic| first | omega | decide | (simp only [List.length_map, List.length_append, List.length_cons, List.length_nil, List.length_take]; omega))
local macro_rules | `(tactic| walk_at "s") => `(tactic| first
  | with_reducible refine r_seq ?_ | with_reducible refine r_set ?_ | with_reducible refine r_asg ?_ | with_reducible refine r_ret ?_ | with_reducible refine r_drop ?_ | with_reducible refine r_next ?_ | with_reducible refine r_cont ?_ | with_reducible refine r_brk ?_
  | with_reducible refine r_if ?_ | with_reducible refine r_test ?_ | with_reducible refine r_tB ?_ | with_reducible refine r_bl ?_ | with_reducible refine r_and ?_ | with_reducible refine r_or ?_ | with_reducible refine r_not ?_
  | ((with_reducible refine' r_var ?e ?_); (case e => rfl)) | with_reducible refine r_c ?_ | with_reducible refine r_op ?_ | with_reducible refine r_un ?_ | with_reducible refine r_ifx ?_ | with_reducible refine r_andV ?_ | with_reducible refine r_orV ?_ | with_reducible refine r_notV ?_
  | with_reducible refine r_nil ?_ | with_reducible refine r_cons ?_ | with_reducible refine r_cb ?_ | with_reducible refine r_bm ?_ | with_reducible refine r_bm0 ?_ | with_reducible refine r_lst ?_ | with_reducible refine r_tup ?_ | with_reducible refine r_call ?_
  | with_reducible refine r_lc ?_ | with_reducible refine r_dc ?_ | with_reducible refine r_for ?_ | with_reducible refine r_iTup ?_ | with_reducible refine r_iList ?_ | with_reducible refine r_iEnum ?_ | with_reducible refine r_iRng1 ?_
  | with_reducible refine r_sl ?_ | with_reducible refine r_part ?_ | with_reducible refine r_nop ?_ | with_reducible refine r_int ?_ | with_reducible refine r_then ?_ | with_reducible refine r_yes ?_
  | with_reducible refine r_gname ?_ | with_reducible refine r_gcons ?_ | with_reducible refine r_gnil ?_
  | ((with_reducible refine' r_eq ?e ?_); (case e => rfl)) | ((with_reducible refine' r_ne ?e ?_); (case e => rfl)) | with_reducible refine r_I0 ?_
  | ((with_reducible refine' r_ixT0 ?e ?f ?_); (case e => walk_at "hp"); (case f => rfl)) | ((with_reducible refine' r_ixT1 ?e ?f ?_); (case e => walk_at "hp"); (case f => rfl)) | ((with_reducible refine' r_ixT2 ?e ?f ?_); (case e => walk_at "hp"); (case f => rfl)) | ((with_reducible refine' r_ixT3 ?e ?f ?_); (case e => walk_at "hp"); (case f => rfl)) | ((with_reducible refine' r_ixT4 ?e ?f ?_); (case e => walk_at "hp"); (case f => rfl)) | ((with_reducible refine' r_ixL0 ?e ?f ?_); (case e => walk_at "hp"); (case f => rfl)) | ((with_reducible refine' r_ixL1 ?e ?f ?_); (case e => walk_at "hp"); (case f => rfl)) | ((with_reducible refine' r_ixL2 ?e ?f ?_); (case e => walk_at "hp"); (case f => rfl)) | ((with_reducible refine' r_ixL3 ?e ?f ?_); (case e => walk_at "hp"); (case f => rfl)) | ((with_reducible refine' r_ixL4 ?e ?f ?_); (case e => walk_at "hp"); (case f => rfl))
  | ((with_reducible refine' r_ixT ?e ?f ?_); (case e => walk_at "hp"); (case f => rfl)) | ((with_reducible refine' r_ixL ?e ?f ?_); (case e => walk_at "hp"); (case f => rfl))
  | ((with_reducible refine' r_append ?e ?f ?_); (case e => walk_at "hp"); (case f => walk_at "sz")) | ((with_reducible refine' r_extend ?e ?e2 ?f ?_); (case e => walk_at "hp"); (case e2 => walk_at "hp"); (case f => walk_at "sz"))
  | with_reducible refine r_fldE ?_ | with_reducible refine r_methE ?_ | with_reducible refine r_make ?_ | with_reducible refine r_sfld ?_ | with_reducible refine r_iEnumT ?_ | with_reducible refine r_inSg ?_ | with_reducible refine r_ninSg ?_ | with_reducible refine r_bmfE ?_ | with_reducible refine r_dget1 ?_ | with_reducible refine r_chain ?_ | with_reducible refine r_tupFE ?_ | with_reducible refine r_m1E ?_ | with_reducible refine r_m0E ?_ | with_reducible refine r_sfa ?_ | with_reducible refine r_rAdd ?_
  | with_reducible refine r_dgetE ?_ | with_reducible refine r_dinE ?_ | with_reducible refine r_dninE ?_ | with_reducible refine r_dputE ?_ | with_reducible refine r_dnew ?_ | with_reducible refine r_neg ?_
  | ((with_reducible refine' r_truL ?e ?_); (case e => walk_at "hp"))
  | ((with_reducible refine' r_gtup ?e ?f ?_); (case e => walk_at "hp"); (case f => rfl))
  | ((with_reducible refine' r_tyL ?e ?_); (case e => walk_at "hp")) | walk_at "if")
local macro_rules | `(tactic| walk_at "go") => `(tactic| repeat walk_at "s")
/- steps end -/
section
variable {P : PySem.Program} {w : World} {K : PySem.W.Frag} {mg : Str → Option Value} {base : Heap}
theorem rd_new {K : PySem.W.Frag} {H : Hp} {x dx l : Addr} {xs : List V} {ts : List Tk} (nx : H x = none) (ndx : H dx = none) (hdx : dx ≠ x) (hl : H l = some (.lst xs)) (hp : PrsAt H xs (ts.map Tk.at)) (hz : ts.length ≤ 10000) (ok : ∀ t ∈ ts, ok2 t.at) (o1 o2 : HO) :
    RdAt K (upd (upd (upd (upd H dx (.own x)) x o1) x o2) x (.ins (He.ga K "Reader") dx (rfs l 0))) x ts ∧ Same H (upd (upd (upd (upd H dx (.own x)) x o1) x o2) x (.ins (He.ga K "Reader") dx (rfs l 0))) := by
  have s : Same H (upd (upd (upd (upd H dx (.own x)) x o1) x o2) x (.ins (He.ga K "Reader") dx (rfs l 0))) := fun b o hb => by
    have h1 := ne_of_none hb nx
    have h2 := ne_of_none hb ndx
    rw [upd_ne h1, upd_ne h1, upd_ne h1, upd_ne h2]; exact hb
  exact ⟨⟨dx, l, xs, 0, ts, upd_same, s _ _ hl, hp.s s, rfl, Nat.zero_le _, hz, ok⟩, s⟩
theorem same_but {H H1 H2 : Hp} {x : Addr} (s : Same H H1) (nx : H x = none) (b : But x H1 H2) : Same H H2 := fun c o h => b c o (ne_of_none h nx) (s c o h)
theorem lex_len {l : List Nat} {ts : List Tk} (h : Lex l ts) : ts.length ≤ l.length := by
  induction h with
  | nil => simp
  | sp _ ih => simp; omega
  | sy _ _ ih => simp; omega
  | @wd x y r ts h0 _ _ _ _ ih =>
    have : 0 < x.length := List.length_pos_iff.mpr h0
    simp; omega
  | @nm n r ts _ _ _ ih =>
    have : 0 < (TL.numL n).length := List.length_pos_iff.mpr (TL.numL_ne n)
    simp; omega
theorem scPNode : FnScope ["line"] ["line"] (defScope (top 47)) := ⟨rfl, rfl, rfl, by decide +kernel, rfl, by decide +kernel, by decide +kernel⟩
theorem pnode_cal (T : Tx w K mg) : C8.Cal P w K mg base 23 "parse_node" spPNode [] := by
  have c_read_node : C8.Cal P w K mg base 22 "read_node" (spRNode K) [] := rnode_cal T
  have c_signs_of : C8.Cal P w K mg base 3 "signs_of" spSigns [] := signs_cal T
  have k_Reader : C8.Mak P w K mg base 1 "Reader" (He.ga K "Reader") (spRdInit K) [] := rdinit_mak T
  refine cal T (i := 47) (by decide +kernel) scPNode (fun vs H Q E h => ?_) (fun _ _ _ _ _ _ us hl => match us, hl with | [_], _ => rfl) (fun cdv A outer s H vs Q E hr h => ?_)
  · obtain ⟨z, _, rfl, _⟩ := h
    rfl
  obtain ⟨l, n, rfl, hlex, hlen, hok, ok, q⟩ := h
  refine ⟨_, (pss_one (ps_ret (C8.pe_c c_read_node hr (by omega) rfl (pa_cons (C8.pe_mk k_Reader hr (by omega) rfl (pa_cons (C8.pe_c c_signs_of hr (by omega) rfl (pa_cons (pv 0) pa_nil)) pa_nil)) pa_nil)))), ?_⟩
  walk_at "go"
  refine ⟨l, n.tk, rfl, hlex, hlen, fun sp H1 xs s1 nsp hsp hpr => ?_⟩
  walk_at "go"
  intro x dx nx ndx hdx
  refine ⟨x, dx, sp, rfl, upd_same, rfl, ?_⟩
  obtain ⟨r1, s2⟩ := rd_new nx ndx hdx hsp hpr (Nat.le_trans (lex_len hlex) hlen) hok (.ins (He.ga K "Reader") dx []) (.ins (He.ga K "Reader") dx [("signs", .ref sp)])
  walk_at "go"
  exact ⟨x, n, rfl, r1, ok, fun v H2 b hv => q v H2 (Same.trans s1 (same_but s2 nx b)) hv⟩
theorem scPEntry : FnScope ["line", "reader", "target"] ["line"] (defScope (top 48)) := ⟨rfl, rfl, rfl, by decide +kernel, rfl, by decide +kernel, by decide +kernel⟩
theorem pentry_cal (T : Tx w K mg) : C8.Cal P w K mg base 5 "parse_entry" spPEntry [] := by
  have m_take_target : C8.Met P w K mg base 4 (He.ga K "Reader") "take_target" (spTTarget K) [] := ttarget_met T
  have m_expect : C8.Met P w K mg base 3 (He.ga K "Reader") "expect" (spExpect K) [] := expect_met T
  have m_finish : C8.Met P w K mg base 1 (He.ga K "Reader") "finish" (spFinish K) [] := finish_met T
  have c_signs_of : C8.Cal P w K mg base 3 "signs_of" spSigns [] := signs_cal T
  have k_Reader : C8.Mak P w K mg base 1 "Reader" (He.ga K "Reader") (spRdInit K) [] := rdinit_mak T
  refine cal T (i := 48) (by decide +kernel) scPEntry (fun vs H Q E h => ?_) (fun _ _ _ _ _ _ us hl => match us, hl with | [_], _ => rfl) (fun cdv A outer s H vs Q E hr h => ?_)
  · obtain ⟨z, _, rfl, _⟩ := h
    rfl
  obtain ⟨l, y, rfl, hlex, hlen, hy, hys, q⟩ := h
  refine ⟨_, (pss_cons (ps_set (i := 1) scPEntry.nd rfl (.inl rfl) (C8.pe_mk k_Reader hr (by omega) rfl (pa_cons (C8.pe_c c_signs_of hr (by omega) rfl (pa_cons (pv 0) pa_nil)) pa_nil)))
(pss_cons (ps_expr (C8.pe_mt (pl := L2.plainOf _ _) m_expect hr (by omega) (pv 1) (pa_cons pe_str (pa_cons pe_str pa_nil))))
(pss_cons (ps_set (i := 2) scPEntry.nd rfl (.inl rfl) (C8.pe_mt0 (pl := L2.plainOf _ _) m_take_target hr (by omega) (pv 1)))
(pss_cons (ps_expr (C8.pe_mt0 (pl := L2.plainOf _ _) m_finish hr (by omega) (pv 1)))
(pss_one (ps_ret (pv 2))))))), ?_⟩
  walk_at "go"
  refine ⟨l, _, rfl, hlex, hlen, fun sp H1 xs s1 nsp hsp hpr => ?_⟩
  walk_at "go"
  intro x dx nx ndx hdx
  refine ⟨x, dx, sp, rfl, upd_same, rfl, ?_⟩
  have hok : ∀ t ∈ [Tk.w (ch "entry"), Tk.w y], ok2 t.at := fun t ht => by
    rcases List.mem_cons.mp ht with rfl | ht
    · decide +kernel
    · rw [List.mem_singleton.mp ht]
      exact ⟨by show PyData.strOk "word" = true; decide +kernel, hys⟩
  obtain ⟨r1, s2⟩ := rd_new nx ndx hdx hsp hpr (Nat.le_trans (lex_len hlex) hlen) hok (.ins (He.ga K "Reader") dx []) (.ins (He.ga K "Reader") dx [("signs", .ref sp)])
  obtain ⟨dx1, l1, xs1, i1, ts1, h11, _⟩ := id r1
  generalize upd (upd (upd (upd H1 dx (.own x)) x (.ins (He.ga K "Reader") dx [])) x (.ins (He.ga K "Reader") dx [("signs", .ref sp)])) x (.ins (He.ga K "Reader") dx (rfs sp 0)) = H2 at r1 s2 h11 ⊢
  walk_at "go"
  refine r_me h11 rfl ?_
  walk_at "go"
  refine ⟨x, _, _, "word", "entry", rfl, r1, by decide +kernel, by decide +kernel, by decide +kernel, fun H3 b3 r3 => ?_⟩
  obtain ⟨dx3, l3, xs3, i3, ts3, h31, _⟩ := id r3
  walk_at "go"
  refine r_me h31 rfl ?_
  walk_at "go"
  refine ⟨x, y, [], rfl, r3, hy, fun H4 b4 r4 => ?_⟩
  obtain ⟨dx4, l4, xs4, i4, ts4, h41, _⟩ := id r4
  walk_at "go"
  refine r_me h41 rfl ?_
  walk_at "go"
  refine ⟨x, rfl, r4, ?_⟩
  walk_at "go"
  exact q H4 (Same.trans s1 (same_but s2 nx (b3.trans b4)))
end
end K5
end

section
set_option linter.all false
set_option maxRecDepth 100000
/-! parse_jumps, has_jumps. -/
namespace K5
open PySem PySem.Spec PyProof.Rows L2 SX
/- steps -/
local macro_rules | `(tactic| walk_at "sm") => `(tactic| first | assumption | exact Same.refl _ | (refine Same.mut ?_ (by assumption) _; walk_at "sm") | (refine Same.trans ?_ (Same.newo (by assumption) _); walk_at "sm") | (refine Same.trans ?_ (by assumption); walk_at "sm"))
local macro_rules | `(tactic| walk_at "hp") => `(tactic| first | assumption | exact upd_same | (refine up_new ?_ (by assumption) _; walk_at "hp") | (refine Same.up ?_ (by assumption) (by assumption); walk_at "sm") | (refine Same.look (by assumption) ?_; walk_at "hp"))
local macro_rules | `(tactic| walk_at "rep") => `(tactic| first | assumption | exact str_rep | exact int_rep | exact non_rep | (refine' Rep.s ?s ?h; (case h => assumption); (case s => walk_at "sm")))
local macro_rules | `(tactic| walk_at "if") => `(tactic| first | ((with_reducible refine' r_ifT ?e ?_); (case e => decide +kernel)) | ((with_reducible refine' r_ifF ?e ?_); (case e => decide +kernel)))
local macro_rules | `(tactic| walk_at "sz") => `(tactic| first | omega | decide | (simp only [List.length_map, List.length_append, List.length_cons, List.length_nil, List.length_take]; omega))
local macro_rules | `(tactic| walk_at "s") => `(tactic| first
  | with_reducible refine r_seq ?_ | with_reducible refine r_set ?_ | with_reducible refine r_asg ?_ | with_reducible refine r_ret ?_ | with_reducible refine r_drop ?_ | with_reducible refine r_next ?_ | with_reducible refine r_cont ?_ | with_reducible refine r_brk ?_
  | with_reducible refine r_if ?_ | with_reducible refine r_test ?_ | with_reducible refine r_tB ?_ | with_reducible refine r_bl ?_ | with_reducible refine r_and ?_ | with_reducible refine r_or ?_ | with_reducible refine r_not ?_
  | ((with_reducible refine' r_var ?e ?_); (case e => rfl)) | with_reducible refine r_c ?_ | with_reducible refine r_op ?_ | with_reducible refine r_un ?_ | with_reducible refine r_ifx ?_ | with_reducible refine r_andV ?_ | with_reducible refine r_orV ?_ | with_reducible refine r_notV ?_
  | with_reducible refine r_nil ?_ | with_reducible refine r_cons ?_ | with_reducible refine r_cb ?_ | with_reducible refine r_bm ?_ | with_reducible refine r_bm0 ?_ | with_reducible refine r_lst ?_ | with_reducible refine r_tup ?_ | with_reducible refine r_call ?_
  | with_reducible refine r_lc ?_ | with_reducible refine r_dc ?_ | with_reducible refine r_for ?_ | with_reducible refine r_iTup ?_ | with_reducible refine r_iList ?_ | with_reducible refine r_iEnum ?_ | with_reducible refine r_iRng1 ?_
  | with_reducible refine r_sl ?_ | with_reducible refine r_part ?_ | with_reducible refine r_nop ?_ | with_reducible refine r_int ?_ | with_reducible refine r_then ?_ | with_reducible refine r_yes ?_
  | with_reducible refine r_gname ?_ | with_reducible refine r_gcons ?_ | with_reducible refine r_gnil ?_
  | ((with_reducible refine' r_eq ?e ?_); (case e => rfl)) | ((with_reducible refine' r_ne ?e ?_); (case e => rfl)) | with_reducible refine r_I0 ?_
  | ((with_reducible refine' r_ixT0 ?e ?f ?_); (case e => walk_at "hp"); (case f => rfl)) | ((with_reducible refine' r_ixT1 ?e ?f ?_); (case e => walk_at "hp"); (case f => rfl)) | ((with_reducible refine' r_ixT2 ?e ?f ?_); (case e => walk_at "hp"); (case f => rfl)) | ((with_reducible refine' r_ixT3 ?e ?f ?_); (case e => walk_at "hp"); (case f => rfl)) | ((with_reducible refine' r_ixT4 ?e ?f ?_); (case e => walk_at "hp"); (case f => rfl)) | ((with_reducible refine' r_ixL0 ?e ?f ?_); (case e => walk_at "hp"); (case f => rfl)) | ((with_reducible refine' r_ixL1 ?e ?f ?_); (case e => walk_at "hp"); (case f => rfl)) | ((with_reducible refine' r_ixL2 ?e ?f ?_); (case e => walk_at "hp"); (case f => rfl)) | ((with_reducible refine' r_ixL3 ?e ?f ?_); (case e => walk_at "hp"); (case f => rfl)) | ((with_reducible refine' r_ixL4 ?e ?f ?_); (case e => walk_at "hp"); (case f => rfl))
  | ((with_reducible refine' r_ixT ?e ?f ?_); (case e => walk_at "hp"); (case f => rfl)) | ((with_reducible refine' r_ixL ?e ?f ?_); (case e => walk_at "hp"); (case f => rfl))
  | ((with_reducible refine' r_append ?e ?f ?_); (case e => walk_at "hp"); (case f => walk_at "sz")) | ((with_reducible refine' r_extend ?e ?e2 ?f ?_); (case e => walk_at "hp"); (case e2 => walk_at "hp"); (case f => walk_at "sz"))
  | with_reducible refine r_fldE ?_ | with_reducible refine r_methE ?_ | with_reducible refine r_make ?_ | with_reducible refine r_sfld ?_ | with_reducible refine r_iEnumT ?_ | with_reducible refine r_inSg ?_ | with_reducible refine r_ninSg ?_ | with_reducible refine r_bmfE ?_ | with_reducible refine r_dget1 ?_ | with_reducible refine r_chain ?_ | with_reducible refine r_tupFE ?_ | with_reducible refine r_m1E ?_ | with_reducible refine r_m0E ?_ | with_reducible refine r_sfa ?_ | with_reducible refine r_rAdd ?_
  | with_reducible refine r_dgetE ?_ | with_reducible refine r_dinE ?_ | with_reducible refine r_dninE ?_ | with_reducible refine r_dputE ?_ | with_reducible refine r_dnew ?_ | with_reducible refine r_neg ?_
  | ((with_reducible refine' r_truL ?e ?_); (case e => walk_at "hp"))
  | ((with_reducible refine' r_gtup ?e ?f ?_); (case e => walk_at "hp"); (case f => rfl))
  | ((with_reducible refine' r_tyL ?e ?_); (case e => walk_at "hp")) | walk_at "if")
local macro_rules | `(tactic| walk_at "go") => `(tactic| repeat walk_at "s")
/- steps end -/
/-- a line of a node -/
structure LnOk (l : List Nat) (n : Pn) : Prop where
  lex : Lex l n.tk
  len : l.length ≤ 10000
  oks : ∀ t ∈ n.tk, ok2 t.at
  ok : PnOk n
  hd : ∃ c r, l = c :: r ∧ c ≠ 32
  nl : 10 ∉ l
/-- the source: its lines -/
structure SrcOk (x l0 : List Nat) (ls : List (List Nat)) (ns : List Pn) : Prop where
  e : l0 = ch "entry " ++ x
  lex : Lex l0 [.w (ch "entry"), .w x]
  len : l0.length ≤ 10000
  tx : TgOk x
  sx : PyData.strOk (S x) = true
  nl : 10 ∉ l0
  lns : Paired LnOk ls ns
  all : (TL.joinL [10] (l0 :: ls)).length ≤ 99000
  cnt : ls.length ≤ 8
abbrev srcT (l0 : List Nat) (ls : List (List Nat)) : List Nat := TL.joinL [10] (l0 :: ls)
theorem src_split {x l0 : List Nat} {ls : List (List Nat)} {ns : List Pn} (h : SrcOk x l0 ls ns) : Txt.split (S (srcT l0 ls)) "\n" = (l0 :: ls).map S := by
  have e : ("\n" : Str) = S [10] := TL.ext_tl (by decide +kernel)
  rw [e, split_S (by simp) (by decide), TL.spl_join (by simp)]
  intro p hp
  rcases List.mem_cons.mp hp with rfl | hp
  · exact h.nl
  · obtain ⟨i, hi⟩ := List.getElem?_of_mem hp
    have : ∀ {ls : List (List Nat)} {ns : List Pn}, Paired LnOk ls ns → ∀ p ∈ ls, 10 ∉ p := by
      intro ls ns h
      induction h with
      | nil => intro p hp; simp at hp
      | cons a _ ih =>
        intro p hp
        rcases List.mem_cons.mp hp with rfl | hp
        · exact a.nl
        · exact ih p hp
    exact this h.lns p hp
theorem paired_get {α β : Type} {F : α → β → Prop} {xs : List α} {ys : List β} (p : Paired F xs ys) : ∀ {i : Nat} {x : α}, xs[i]? = some x → ∃ y, ys[i]? = some y ∧ F x y := by
  induction p with
  | nil => intro i y h; simp at h
  | cons a _ ih =>
    intro i y h
    cases i with
    | zero => simp at h; subst h; exact ⟨_, rfl, a⟩
    | succ i => simpa using ih (by simpa using h)
/-- parse_jumps(text) -/
def spPJ : Sp := fun vs H Q _ => ∃ (x l0 : List Nat) (ls : List (List Nat)) (ns : List Pn), vs = [.str (S (srcT l0 ls))] ∧ SrcOk x l0 ls ns ∧
  ∀ q H' nl us, Same H H' → H' q = some (.tup [.str (S x), .ref nl]) → H' nl = some (.lst us) → Paired (NdAt H') (ns.map Pn.nod) us → Q (.ref q) H'
section
variable {P : PySem.Program} {w : World} {K : PySem.W.Frag} {mg : Str → Option Value} {base : Heap}
theorem scPJ : FnScope ["text", "entry", "nodes", "index", "line", "e"] ["text"] (defScope (top 49)) := ⟨rfl, rfl, rfl, by decide +kernel, rfl, by decide +kernel, by decide +kernel⟩
theorem pj_cal (T : Tx w K mg) : C8.Cal P w K mg base 24 "parse_jumps" spPJ [] := by
  have c_parse_node : C8.Cal P w K mg base 23 "parse_node" spPNode [] := pnode_cal T
  have c_parse_entry : C8.Cal P w K mg base 5 "parse_entry" spPEntry [] := pentry_cal T
  have c_is_blank : C8.Cal P w K mg base 1 "is_blank" spBlank [] := blank_cal T
  have m_enumerate := T.free "enumerate" (by decide +kernel)
  refine cal T (i := 49) (by decide +kernel) scPJ (fun vs H Q E h => ?_) (fun _ _ _ _ _ _ us hl => match us, hl with | [_], _ => rfl) (fun cdv A outer s H vs Q E hr h => ?_)
  · obtain ⟨z, _, _, _, rfl, _⟩ := h
    rfl
  obtain ⟨x, l0, ls, ns, rfl, ok, q⟩ := h
  refine ⟨_, (pss_cons (ps_set (i := 1) scPJ.nd rfl (.inl rfl) pe_non)
(pss_cons (ps_set (i := 2) scPJ.nd rfl (.inl rfl) (pe_lst pa_nil))
(pss_cons (ps_for PassesOwn.never rfl (pi_enum rfl m_enumerate (pa_cons (L2.pe_split (pv 0) pe_str) pa_nil)) (pg_tup rfl (pgs_cons (pg_name (i := 3) scPJ.nd rfl (.inl rfl)) (pgs_cons (pg_name (i := 4) scPJ.nd rfl (.inl rfl)) pgs_nil)))
(pss_one (ps_if (pt_not (pt_val (C8.pe_c c_is_blank hr (by omega) rfl (pa_cons (pv 4) pa_nil))))
(pss_one (ps_try_thru0 (pss_one (ps_if (pt_cmpR op_isN (pv 1) pe_non (nomark _))
(pss_one (ps_set (i := 1) scPJ.nd rfl (.inl rfl) (C8.pe_c c_parse_entry hr (by omega) rfl (pa_cons (pv 4) pa_nil))))
(pss_one (ps_expr (pe_bm PySem.F.plainAttrs_list PySem.F.slot_list_append PySem.F.type_list_append mt_append (pv 2) (pa_cons (C8.pe_c c_parse_node hr (by omega) rfl (pa_cons (pv 4) pa_nil)) pa_nil))))))))
pss_nil)))
(pss_one (ps_ret (pe_tup (pa_cons (pv 1) (pa_cons (pv 2) pa_nil)))))))), ?_⟩
  walk_at "go"
  refine ⟨Nat.zero_le _, fun nl nnl => ?_⟩
  have s1 : Same H (upd H nl (.lst [])) := Same.newo nnl _
  have hnl : upd H nl (.lst []) nl = some (.lst []) := upd_same
  generalize upd H nl (.lst []) = H1 at s1 hnl ⊢
  walk_at "go"
  refine ⟨⟨_, rfl⟩, ?_⟩
  walk_at "go"
  refine ⟨S (srcT l0 ls), "\n", rfl, rfl, by decide +kernel, by rw [S_len]; exact Nat.le_trans (Nat.add_le_add_right ok.all 2) (sz (by decide)), fun p np => ?_⟩
  rw [src_split ok]
  have s2 : Same H (upd H1 p (.lst (((l0 :: ls).map S).map V.str))) := by walk_at "sm"
  have hp : upd H1 p (.lst (((l0 :: ls).map S).map V.str)) p = some (.lst (((l0 :: ls).map S).map V.str)) := upd_same
  have hnl2 := up_new hnl np (.lst (((l0 :: ls).map S).map V.str))
  have nlp : nl ≠ p := ne_of_none hnl np
  generalize upd H1 p (.lst (((l0 :: ls).map S).map V.str)) = H2 at s2 hp hnl2 ⊢
  walk_at "go"
  refine ⟨p, _, rfl, SqL.of hp, for_enum (xs := ((l0 :: ls).map S).map V.str) (fun i σ H' => Same H H' ∧ H' p = some (.lst (((l0 :: ls).map S).map V.str)) ∧ ∃ us z3 z4 z5, H' nl = some (.lst us) ∧ Paired (NdAt H') ((ns.take (i - 1)).map Pn.nod) us ∧
      σ = [some (.str (S (srcT l0 ls))), some (if i = 0 then .non else .str (S x)), some (.ref nl), z3, z4, z5])
    ⟨s2, hp, [], _, _, _, hnl2, by simpa using Paired.nil, rfl⟩ (fun i σ H' _ ⟨_, h2, _⟩ => SqL.of h2) ?_ ?_⟩
  · rintro i y Tq σ H' hi ⟨s3, hp3, us, z3, z4, z5, hnl3, hpr, rfl⟩ nT
    obtain ⟨z, hz, rfl⟩ := map_str_get hi
    obtain ⟨ll, hll, rfl⟩ : ∃ ll, (l0 :: ls)[i]? = some ll ∧ z = S ll := by
      rw [List.getElem?_map] at hz
      cases e : (l0 :: ls)[i]? with
      | none => rw [e] at hz; simp at hz
      | some ll => rw [e] at hz; exact ⟨ll, rfl, by simpa using hz.symm⟩
    have s4 : Same H' (upd H' Tq (.tup [.int (i : Nat), .str (S ll)])) := Same.newo nT _
    have hT4 : upd H' Tq (.tup [.int (i : Nat), .str (S ll)]) Tq = some (.tup [.int (i : Nat), .str (S ll)]) := upd_same
    generalize upd H' Tq (.tup [.int (i : Nat), .str (S ll)]) = H4 at s4 hT4 ⊢
    have hp4 := s4 _ _ hp3
    have hnl4 := s4 _ _ hnl3
    cases i with
    | zero =>
      obtain rfl : l0 = ll := by simpa using hll
      have hus : us = [] := by
        have h9 : Paired (NdAt H') ((ns.take (0 - 1)).map Pn.nod) us := hpr
        cases h9; rfl
      subst hus
      rw [if_pos rfl]
      walk_at "go"
      have e0 : l0 = 101 :: (ch "ntry " ++ x) := by
        rw [ok.e, show ch "entry " = 101 :: ch "ntry " by decide +kernel]; rfl
      refine ⟨101, ch "ntry " ++ x, by rw [← e0]; rfl, by decide, by rw [← e0]; have := ok.len; omega, ?_⟩
      walk_at "go"
      refine ⟨rfl, ?_⟩
      walk_at "go"
      refine ⟨l0, x, rfl, ok.lex, ok.len, ok.tx, ok.sx, fun H5 s5 => ?_⟩
      walk_at "go"
      exact ⟨Same.trans s3 (Same.trans s4 s5), s5 _ _ hp4, [], _, _, _, s5 _ _ hnl4, by simpa using Paired.nil, rfl⟩
    | succ j =>
      have hlj : ls[j]? = some ll := by simpa using hll
      obtain ⟨n, hn, lok⟩ := paired_get ok.lns hlj
      obtain ⟨c, r, er, hc⟩ := lok.hd
      have jl : j < ls.length := (List.getElem?_eq_some_iff.mp hlj).1
      have hul : us.length ≤ 8 := by
        have := Paired.length hpr
        simp at this
        have := ok.cnt
        have h9 := Paired.length ok.lns
        omega
      rw [if_neg (Nat.succ_ne_zero j)]
      walk_at "go"
      refine ⟨c, r, by rw [← er]; rfl, hc, by rw [← er]; have := lok.len; omega, ?_⟩
      walk_at "go"
      refine ⟨rfl, ?_⟩
      have e1 : decide (V.str (S x) = V.non) = false := decide_eq_false (by intro z; cases z)
      walk_at "go"
      rw [e1]
      walk_at "go"
      refine ⟨ll, n, rfl, lok.lex, lok.len, lok.oks, lok.ok, fun v H5 s5 hv => ?_⟩
      have hnl5 := s5 _ _ hnl4
      have nnl' : H nl = none := nnl
      walk_at "go"
      have te : TE_ H5 (upd H5 nl (.lst (us ++ [v]))) := te_mutL hnl5
      have nm : ∀ {n : Nod} {v' : V}, NdAt H5 n v' → NdAt (upd H5 nl (.lst (us ++ [v]))) n v' := fun {n v'} h => by
        obtain ⟨p1, t1, d1, a1, a2, a3, ob, a4, a5⟩ := h
        exact ⟨p1, t1, d1, a1, te _ _ a2, a3.mono te, ob, by rw [upd_ne (ne_of a4 hnl5 (by intro z; cases z))]; exact a4, a5⟩
      have pnl : p ≠ nl := nlp.symm
      refine ⟨Same.mut (Same.trans s3 (Same.trans s4 s5)) nnl' _, by rw [upd_ne pnl]; exact s5 _ _ hp4, us ++ [v], _, _, _, upd_same, ?_, rfl⟩
      rw [Nat.add_sub_cancel, take_snoc hn, List.map_append]
      exact Paired.snoc (paired_mono (fun _ _ h => nm (h.s (Same.trans s4 s5))) hpr) (nm hv)
  · rintro σ H' ⟨s3, hp3, us, z3, z4, z5, hnl3, hpr, rfl⟩
    have hln : ns.length = ls.length := (Paired.length ok.lns).symm
    have e1 : (((l0 :: ls).map S).map V.str).length - 1 = ns.length := by simp [hln]
    rw [e1, List.take_length] at hpr
    have e2 : (if (((l0 :: ls).map S).map V.str).length = 0 then V.non else V.str (S x)) = V.str (S x) := if_neg (by simp)
    rw [e2]
    walk_at "go"
    refine ⟨by show 2 ≤ sizeLine; decide, fun p9 n9 => ?_⟩
    have s9 : Same H' (upd H' p9 (.tup [.str (S x), .ref nl])) := Same.newo n9 _
    exact q p9 _ nl us (Same.trans s3 s9) upd_same (s9 _ _ hnl3) (paired_mono (fun _ _ h => h.s s9) hpr)
end
end K5
end

section
set_option linter.all false
set_option maxRecDepth 100000
/-! has_jumps, first_double, check_doubles. -/
namespace K5
open PySem PySem.Spec PyProof.Rows L2 SX
/-- text + text -/
def rCatS : R2 := fun x y H Q => ∃ i j, x = .str i ∧ y = .str j ∧ i.length + j.length ≤ sizeLine ∧ Q (.str (i ++ j)) H
theorem op_catS {X : Cx} : OpR X (binaryOp .Add) rCatS := op_add_str
theorem r_catS {a b : List Nat} {H : Hp} {Q : VK} (hl : a.length + b.length ≤ 100000) (h : Q (.str (S (a ++ b))) H) : rCatS (.str (S a)) (.str (S b)) H Q := ⟨S a, S b, rfl, rfl, by rw [S_len, S_len]; exact sz hl, by rw [S_cat]; exact h⟩
theorem r_catZ {x y : Str} {H : Hp} {Q : VK} (hl : x.length + y.length ≤ 100000) (h : Q (.str (x ++ y)) H) : rCatS (.str x) (.str y) H Q := ⟨x, y, rfl, rfl, sz hl, h⟩
theorem r_dget2 {td ty tx : TE} {σ : L2.St} {H : Hp} {Q : VK} (h : td σ H fun x H1 => ∃ a, x = .ref a ∧ IsD H1 a ∧ ty σ H1 fun y H2 => tx σ H2 fun z H3 => ∃ o, DGet H3 a y o ∧ Q (o.getD z) H3) : tDGet2 td ty tx σ H Q := h
/- steps -/
local macro_rules | `(tactic| walk_at "sm") => `(tactic| first | assumption | exact Same.refl _ | (refine Same.mut ?_ (by assumption) _; walk_at "sm") | (refine Same.trans ?_ (Same.newo (by assumption) _); walk_at "sm") | (refine Same.trans ?_ (by assumption); walk_at "sm"))
local macro_rules | `(tactic| walk_at "hp") => `(tactic| first | assumption | exact upd_same | (refine up_new ?_ (by assumption) _; walk_at "hp") | (refine Same.up ?_ (by assumption) (by assumption); walk_at "sm") | (refine Same.look (by assumption) ?_; walk_at "hp"))
local macro_rules | `(tactic| walk_at "rep") => `(tactic| first | assumption | exact str_rep | exact int_rep | exact non_rep | (refine' Rep.s ?s ?h; (case h => assumption); (case s => walk_at "sm")))
local macro_rules | `(tactic| walk_at "if") => `(tactic| first | ((with_reducible refine' r_ifT ?e ?_); (case e => decide +kernel)) | ((with_reducible refine' r_ifF ?e ?_); (case e => decide +kernel)))
local macro_rules | `(tactic| walk_at "sz") => `(tactic| first | omega | decide | (simp only [List.length_map, List.length_append, List.length_cons, List.length_nil, List.length_take]; omega))
local macro_rules | `(tactic| walk_at "s") => `(tactic| first
  | with_reducible refine r_seq ?_ | with_reducible refine r_set ?_ | with_reducible refine r_asg ?_ | with_reducible refine r_ret ?_ | with_reducible refine r_drop ?_ | with_reducible refine r_next ?_ | with_reducible refine r_cont ?_ | with_reducible refine r_brk ?_
  | with_reducible refine r_if ?_ | with_reducible refine r_test ?_ | with_reducible refine r_tB ?_ | with_reducible refine r_bl ?_ | with_reducible refine r_and ?_ | with_reducible refine r_or ?_ | with_reducible refine r_not ?_
  | ((with_reducible refine' r_var ?e ?_); (case e => rfl)) | with_reducible refine r_c ?_ | with_reducible refine r_op ?_ | with_reducible refine r_un ?_ | with_reducible refine r_ifx ?_ | with_reducible refine r_andV ?_ | with_reducible refine r_orV ?_ | with_reducible refine r_notV ?_
  | with_reducible refine r_nil ?_ | with_reducible refine r_cons ?_ | with_reducible refine r_cb ?_ | with_reducible refine r_bm ?_ | with_reducible refine r_bm0 ?_ | with_reducible refine r_lst ?_ | with_reducible refine r_tup ?_ | with_reducible refine r_call ?_
  | with_reducible refine r_lc ?_ | with_reducible refine r_dc ?_ | with_reducible refine r_for ?_ | with_reducible refine r_iTup ?_ | with_reducible refine r_iList ?_ | with_reducible refine r_iEnum ?_ | with_reducible refine r_iRng1 ?_
  | with_reducible refine r_sl ?_ | with_reducible refine r_part ?_ | with_reducible refine r_nop ?_ | with_reducible refine r_int ?_ | with_reducible refine r_then ?_ | with_reducible refine r_yes ?_
  | with_reducible refine r_gname ?_ | with_reducible refine r_gcons ?_ | with_reducible refine r_gnil ?_
  | ((with_reducible refine' r_eq ?e ?_); (case e => rfl)) | ((with_reducible refine' r_ne ?e ?_); (case e => rfl)) | with_reducible refine r_I0 ?_
  | ((with_reducible refine' r_ixT0 ?e ?f ?_); (case e => walk_at "hp"); (case f => rfl)) | ((with_reducible refine' r_ixT1 ?e ?f ?_); (case e => walk_at "hp"); (case f => rfl)) | ((with_reducible refine' r_ixT2 ?e ?f ?_); (case e => walk_at "hp"); (case f => rfl)) | ((with_reducible refine' r_ixT3 ?e ?f ?_); (case e => walk_at "hp"); (case f => rfl)) | ((with_reducible refine' r_ixT4 ?e ?f ?_); (case e => walk_at "hp"); (case f => rfl)) | ((with_reducible refine' r_ixL0 ?e ?f ?_); (case e => walk_at "hp"); (case f => rfl)) | ((with_reducible refine' r_ixL1 ?e ?f ?_); (case e => walk_at "hp"); (case f => rfl)) | ((with_reducible refine' r_ixL2 ?e ?f ?_); (case e => walk_at "hp"); (case f => rfl)) | ((with_reducible refine' r_ixL3 ?e ?f ?_); (case e => walk_at "hp"); (case f => rfl)) | ((with_reducible refine' r_ixL4 ?e ?f ?_); (case e => walk_at "hp"); (case f => rfl))
  | ((with_reducible refine' r_ixT ?e ?f ?_); (case e => walk_at "hp"); (case f => rfl)) | ((with_reducible refine' r_ixL ?e ?f ?_); (case e => walk_at "hp"); (case f => rfl))
  | ((with_reducible refine' r_append ?e ?f ?_); (case e => walk_at "hp"); (case f => walk_at "sz")) | ((with_reducible refine' r_extend ?e ?e2 ?f ?_); (case e => walk_at "hp"); (case e2 => walk_at "hp"); (case f => walk_at "sz"))
  | with_reducible refine r_fldE ?_ | with_reducible refine r_methE ?_ | with_reducible refine r_make ?_ | with_reducible refine r_sfld ?_ | with_reducible refine r_iEnumT ?_ | with_reducible refine r_inSg ?_ | with_reducible refine r_ninSg ?_ | with_reducible refine r_bmfE ?_ | with_reducible refine r_dget1 ?_ | with_reducible refine r_chain ?_ | with_reducible refine r_tupFE ?_ | with_reducible refine r_m1E ?_ | with_reducible refine r_m0E ?_ | with_reducible refine r_sfa ?_ | with_reducible refine r_rAdd ?_
  | with_reducible refine r_dgetE ?_ | with_reducible refine r_dinE ?_ | with_reducible refine r_dninE ?_ | with_reducible refine r_dputE ?_ | with_reducible refine r_dnew ?_ | with_reducible refine r_neg ?_
  | ((with_reducible refine' r_truL ?e ?_); (case e => walk_at "hp"))
  | ((with_reducible refine' r_gtup ?e ?f ?_); (case e => walk_at "hp"); (case f => rfl))
  | ((with_reducible refine' r_tyL ?e ?_); (case e => walk_at "hp")) | walk_at "if")
local macro_rules | `(tactic| walk_at "go") => `(tactic| repeat walk_at "s")
/- steps end -/
def spHJ : Sp := fun vs H Q _ => ∃ (x l0 : List Nat) (ls : List (List Nat)) (ns : List Pn), vs = [.str (S (srcT l0 ls))] ∧ SrcOk x l0 ls ns ∧ ∀ H', Same H H' → Q (.bl true) H'
theorem starts_entry (x : List Nat) : Txt.startswith (S (ch "entry " ++ x)) "entry" = true := by
  have e1 : ch "entry " = [101, 110, 116, 114, 121, 32] := by decide +kernel
  have e2 : ("entry" : Str) = S [101, 110, 116, 114, 121] := TL.ext_tl (by decide +kernel)
  unfold Txt.startswith
  rw [StrLaws.subAt_eq, e1, e2, S_len, S_len]
  simp
def spFD : Sp := fun vs H Q _ => ∃ (l : Addr) (zs : List Str), vs = [.ref l] ∧ H l = some (.lst (zs.map V.str)) ∧ zs.Nodup ∧ zs.length ≤ 60 ∧ ∀ H', Same H H' → Q .non H'
def spCD : Sp := fun vs H Q _ => ∃ (l : Addr) (us : List V) (ns : List Nod), vs = [.ref l] ∧ H l = some (.lst us) ∧ Paired (NdAt H) ns us ∧ (lbs ns).Nodup ∧ ns.length ≤ 60 ∧ ∀ H', Same H H' → Q .non H'
section
variable {P : PySem.Program} {w : World} {K : PySem.W.Frag} {mg : Str → Option Value} {base : Heap}
theorem scHJ : FnScope ["text", "line", "rest"] ["text"] (defScope (top 77)) := ⟨rfl, rfl, rfl, by decide +kernel, rfl, by decide +kernel, by decide +kernel⟩
theorem hj_cal (T : Tx w K mg) : C8.Cal P w K mg base 2 "has_jumps" spHJ [] := by
  have c_is_blank : C8.Cal P w K mg base 1 "is_blank" spBlank [] := blank_cal T
  have m_len := T.free "len" (by decide +kernel)
  have g_LETTERS := gstr T (x := "LETTERS") (z := lettersZ) (by decide +kernel)
  refine cal T (i := 77) (by decide +kernel) scHJ (fun vs H Q E h => ?_) (fun _ _ _ _ _ _ us hl => match us, hl with | [_], _ => rfl) (fun cdv A outer s H vs Q E hr h => ?_)
  · obtain ⟨z, _, _, _, rfl, _⟩ := h
    rfl
  obtain ⟨x, l0, ls, ns, rfl, ok, q⟩ := h
  refine ⟨_, (pss_cons (ps_for PassesOwn.never rfl (pi_list (L2.pe_split (pv 0) pe_str)) (pg_name (i := 1) scHJ.nd rfl (.inl rfl))
(pss_one (ps_if (pt_not (pt_val (C8.pe_c c_is_blank hr (by omega) rfl (pa_cons (pv 1) pa_nil))))
(pss_cons (ps_set (i := 2) scHJ.nd rfl (.inl rfl) (L2.pe_m1 PySem.F.slot_str_lstrip PySem.F.type_str_lstrip mt_lstripChars (pv 1) pe_str))
(pss_one (ps_ret (pe_and (L2.pe_m1 PySem.F.slot_str_startswith PySem.F.type_str_startswith mt_startswith (pv 2) pe_str) (pe_one (pe_or (pe_cmpR op_eq (pe_callB call_len_str rfl m_len PySem.boot_len (pa_cons (pv 2) pa_nil)) pe_int (nomark _)) (pe_one (pe_cmpR op_notInS (pe_ix ix_str (pv 2) pe_int (fun _ _ => rfl)) (pe_op op_catS (C8.pe_gc rfl g_LETTERS) pe_str) rfl))))))))
pss_nil)))
(pss_one (ps_ret pe_bl))), ?_⟩
  walk_at "go"
  refine ⟨⟨_, rfl⟩, ?_⟩
  walk_at "go"
  refine ⟨S (srcT l0 ls), "\n", rfl, rfl, by decide +kernel, by rw [S_len]; exact Nat.le_trans (Nat.add_le_add_right ok.all 2) (sz (by decide)), fun p np => ?_⟩
  rw [src_split ok]
  refine ⟨p, rfl, ⟨_, SqL.of upd_same⟩, for_list (xs := ((l0 :: ls).map S).map V.str) (fun i σ H' => i = 0 ∧ Same H H' ∧ H' p = some (.lst (((l0 :: ls).map S).map V.str)) ∧ ∃ z1 z2, σ = [some (.str (S (srcT l0 ls))), z1, z2])
    ⟨rfl, Same.newo np _, upd_same, _, _, rfl⟩ (fun i σ H' _ ⟨_, _, h2, _⟩ => SqL.of h2) ?_ ?_⟩
  · rintro i y σ H' hi ⟨rfl, s1, hp, z1, z2, rfl⟩
    obtain rfl : V.str (S l0) = y := by simpa using hi
    have e0 : l0 = 101 :: (ch "ntry " ++ x) := by
      rw [ok.e, show ch "entry " = 101 :: ch "ntry " by decide +kernel]; rfl
    have hl5 : l0.length ≤ 100000 := by have := ok.len; omega
    walk_at "go"
    refine ⟨101, ch "ntry " ++ x, by rw [← e0]; rfl, by decide, by rw [← e0]; exact hl5, ?_⟩
    walk_at "go"
    refine ⟨⟨_, rfl⟩, ?_⟩
    walk_at "go"
    refine ⟨S l0, " ", rfl, rfl, sz (by rw [S_len]; exact hl5), ?_⟩
    have e1 : Txt.lstripChars (S l0) " " = S l0 := by rw [e0]; exact lstrip_same (by decide)
    rw [e1]
    walk_at "go"
    refine ⟨⟨_, rfl⟩, ?_⟩
    walk_at "go"
    refine ⟨S l0, "entry", rfl, rfl, ?_⟩
    rw [ok.e, starts_entry, ← ok.e]
    refine ⟨_, rfl, ?_⟩
    refine r_ifT rfl ?_
    walk_at "go"
    refine r_lenS hl5 ?_
    rw [S_len]
    walk_at "go"
    refine r_if2 (fun hb => ?_) (fun hb => ?_)
    · exact q H' s1
    walk_at "go"
    have e5 : l0[5]? = some 32 := by
      rw [ok.e, show ch "entry " = [101, 110, 116, 114, 121, 32] by decide +kernel]; rfl
    refine r_ixS (i := 5) e5 hl5 ?_
    walk_at "go"
    refine r_catZ (by decide +kernel) ?_
    refine r_ninSg ?_
    have e6 : decide (32 ∈ TL.tl (lettersZ ++ ("." : Str))) = false := by decide +kernel
    rw [e6]
    exact q H' s1
  · rintro σ H' ⟨h0, _⟩
    simp at h0
theorem scFD : FnScope ["labels", "counts", "label"] ["labels"] (defScope (top 50)) := ⟨rfl, rfl, rfl, by decide +kernel, rfl, by decide +kernel, by decide +kernel⟩
theorem fd_cal (T : Tx w K mg) : C8.Cal P w K mg base 1 "first_double" spFD [] := by
  refine cal T (i := 50) (by decide +kernel) scFD (fun vs H Q E h => ?_) (fun _ _ _ _ _ _ us hl => match us, hl with | [_], _ => rfl) (fun cdv A outer s H vs Q E hr h => ?_)
  · obtain ⟨z, _, rfl, _⟩ := h
    rfl
  obtain ⟨l, zs, rfl, hl, nd, h60, q⟩ := h
  have hu := hu_of hr
  refine ⟨_, (pss_cons (ps_set (i := 1) scFD.nd rfl (.inl rfl) pe_dnewK)
(pss_cons (ps_for PassesOwn.never rfl (pi_list (pv 0)) (pg_name (i := 2) scFD.nd rfl (.inl rfl))
(pss_one (ps_dput hu (pv 1) (pv 2) (pe_op op_add (pe_dget2 hu (pv 1) (pv 2) pe_int ⟨rfl, rfl, rfl, rfl⟩) pe_int) rfl)))
(pss_cons (ps_for PassesOwn.never rfl (pi_list (pv 0)) (pg_name (i := 2) scFD.nd rfl (.inl rfl))
(pss_one (ps_if (pt_cmpR op_gt (pe_dget hu (pv 1) (pv 2) (fun _ _ => rfl)) pe_int (nomark _))
(pss_one (ps_ret (pv 2)))
pss_nil)))
(pss_one (ps_ret pe_non))))), ?_⟩
  walk_at "go"
  intro D nD
  walk_at "go"
  refine ⟨l, rfl, ⟨_, SqL.of (up_new hl nD _)⟩, for_list (xs := zs.map V.str) (fun i σ H' => (∃ z, σ = [some (.ref l), some (.ref D), z]) ∧ Same H H' ∧ ∃ kvs : List (Key × V), H' D = some (.dK kvs) ∧ kvs.length ≤ i ∧ ∀ z, dv kvs z = if z ∈ zs.take i then some (.int 1) else none)
    ⟨⟨_, rfl⟩, Same.newo nD _, [], upd_same, Nat.le_refl _, fun z => by simp [dv, valV_nil]⟩ (fun i σ H' _ ⟨_, s1, _⟩ => SqL.of (s1 _ _ hl)) ?_ ?_⟩
  · rintro i y σ H' hi ⟨⟨z0, rfl⟩, s1, kvs, hD, hkl, hkv⟩
    obtain ⟨x, hx, rfl⟩ := map_str_get hi
    have hnt := not_take nd hx
    have il : i < zs.length := (List.getElem?_eq_some_iff.mp hx).1
    walk_at "go"
    refine r_dget2 ?_
    walk_at "go"
    refine ⟨D, rfl, .inl ⟨kvs, .inl hD⟩, ?_⟩
    walk_at "go"
    refine ⟨dv kvs x, DGet.k (k := Sum.inr x) hD, ?_⟩
    rw [hkv x, if_neg hnt]
    walk_at "go"
    refine r_I0 (m := 0) (n := 1) ?_
    walk_at "go"
    refine r_dp hD (by omega) ?_
    refine ⟨⟨_, rfl⟩, Same.mut s1 nD _, _, upd_same, Nat.le_trans (put_len _ _ _) (by omega), fun z => ?_⟩
    rw [dv_put, hkv z, take_snoc hx]
    by_cases e : z = x
    · subst e
      rw [if_pos rfl, if_pos (by simp)]; rfl
    · rw [if_neg e]
      simp [e]
  · rintro σ H' ⟨⟨z0, rfl⟩, s1, kvs, hD, hkl, hkv⟩
    rw [List.length_map, List.take_length] at hkv
    walk_at "go"
    refine ⟨l, rfl, ⟨_, SqL.of (s1 _ _ hl)⟩, for_list (xs := zs.map V.str) (fun i σ H2 => (∃ z, σ = [some (.ref l), some (.ref D), z]) ∧ H2 = H') ⟨⟨_, rfl⟩, rfl⟩ (fun i σ H2 _ ⟨_, e⟩ => by rw [e]; exact SqL.of (s1 _ _ hl)) ?_ ?_⟩
    · rintro i y σ H2 hi ⟨⟨z1, rfl⟩, rfl⟩
      obtain ⟨x, hx, rfl⟩ := map_str_get hi
      walk_at "go"
      refine r_dg hD (by rw [hkv x, if_pos (List.mem_of_getElem? hx)]) ?_
      walk_at "go"
      exact ⟨⟨_, rfl⟩, rfl⟩
    · rintro σ H2 ⟨⟨z1, rfl⟩, rfl⟩
      walk_at "go"
      exact q _ s1
theorem scCD : FnScope ["nodes", "double", "node"] ["nodes"] (defScope (top 53)) := ⟨rfl, rfl, rfl, by decide +kernel, rfl, by decide +kernel, by decide +kernel⟩
theorem cd_cal (T : Tx w K mg) : C8.Cal P w K mg base 2 "check_doubles" spCD [] := by
  have c_first_double : C8.Cal P w K mg base 1 "first_double" spFD [] := fd_cal T
  refine cal T (i := 53) (by decide +kernel) scCD (fun vs H Q E h => ?_) (fun _ _ _ _ _ _ us hl => match us, hl with | [_], _ => rfl) (fun cdv A outer s H vs Q E hr h => ?_)
  · obtain ⟨z, _, _, rfl, _⟩ := h
    rfl
  obtain ⟨l, us, ns, rfl, hl, hpr, nd, h60, q⟩ := h
  refine ⟨_, (pss_cons (ps_set (i := 1) scCD.nd rfl (.inl rfl) (C8.pe_c c_first_double hr (by omega) rfl (pa_cons (pe_lc (own := [("node", 2)]) (g := gName 2) (tt := tYes) (te := tOp (rIxT K) (tVar 2) (tC (.int 0))) rfl scCD.nd (pi_list (pv 0)) (blkOk_by (N := ["nodes", "double", "node"]) (sc := defScope (top 53)) (by decide +kernel)) (fun _ _ _ _ _ => pg_name (i := 2) scCD.nd rfl (.inl rfl)) (fun _ _ _ _ _ => pts_nil) (fun _ _ _ _ _ => pe_ix ix_tup (pv 2) pe_int (fun _ _ => rfl))) pa_nil)))
(pss_one (ps_if (pt_cmpR op_notN (pv 1) pe_non (nomark _))
(pss_one ps_never)
pss_nil))), ?_⟩
  have hul := Paired.length hpr
  walk_at "go"
  refine ⟨l, rfl, ⟨_, SqL.of hl⟩, fun D nD => lc_list (xs := us) (fun i H' => Same H H' ∧ H' D = some (.lst ((lbs (ns.take i)).map V.str))) ⟨Same.newo nD _, by simp [upd_same, lbs]⟩ (fun i H' _ ⟨s1, _⟩ => SqL.of (s1 _ _ hl)) ?_ ?_⟩
  · rintro i y H' hi ⟨s1, hD⟩
    obtain ⟨n, hn, pp, tt, dd, rfl, hpp, _⟩ := paired_got hpr hi
    have hpp' := s1 _ _ hpp
    have il : i < ns.length := (List.getElem?_eq_some_iff.mp hn).1
    walk_at "go"
    refine ⟨rfl, ?_⟩
    walk_at "go"
    refine ⟨_, hD, szl (by simp [lbs]; omega), Same.mut s1 nD _, ?_⟩
    rw [upd_same, take_snoc hn]
    simp [lbs]
  · rintro H' ⟨s1, hD⟩
    rw [← hul, List.take_length] at hD
    walk_at "go"
    refine ⟨D, lbs ns, rfl, hD, nd, by simp [lbs]; omega, fun H2 s2 => ?_⟩
    walk_at "go"
    refine ⟨rfl, ?_⟩
    walk_at "go"
    exact q H2 (Same.trans s1 s2)
end
end K5
end

section
set_option linter.all false
set_option maxRecDepth 100000
/-! check_targets, normalized, parse_source. -/
namespace K5
open PySem PySem.Spec PyProof.Rows L2 SX MG
theorem r_lockE {t : TE} {σ : L2.St} {H : Hp} {Q : VK} (h : ∃ d u, H d = some u ∧ Mut (some u) ∧ ∀ od, t σ (upd H d (.frz od u)) fun v H' => H' d = some (.frz od u) ∧ Q v (upd H' d u)) : tLockE t σ H Q := h
theorem r_iKeys {td : TE} {σ : L2.St} {H : Hp} {R : It → Hp → Prop} (h : td σ H fun x H1 => ∃ d o, x = .ref d ∧ ((∃ kvs, H1 d = some (.frz o (.dK kvs)) ∧ R (Itk d o kvs) H1) ∨ ∃ kvs, H1 d = some (.frz o (.dT kvs)) ∧ R (Itkt d o kvs) H1)) : iKeys td σ H R := h
/- steps -/
local macro_rules | `(tactic| walk_at "sm") => `(tactic| first | assumption | exact Same.refl _ | (refine Same.mut ?_ (by assumption) _; walk_at "sm") | (refine Same.trans ?_ (Same.newo (by assumption) _); walk_at "sm") | (refine Same.trans ?_ (by assumption); walk_at "sm"))
local macro_rules | `(tactic| walk_at "hp") => `(tactic| first | assumption | exact upd_same | (refine up_new ?_ (by assumption) _; walk_at "hp") | (refine Same.up ?_ (by assumption) (by assumption); walk_at "sm") | (refine Same.look (by assumption) ?_; walk_at "hp"))
local macro_rules | `(tactic| walk_at "rep") => `(tactic| first | assumption | exact str_rep | exact int_rep | exact non_rep | (refine' Rep.s ?s ?h; (case h => assumption); (case s => walk_at "sm")))
local macro_rules | `(tactic| walk_at "if") => `(tactic| first | ((with_reducible refine' r_ifT ?e ?_); (case e => decide +kernel)) | ((with_reducible refine' r_ifF ?e ?_); (case e => decide +kernel)))
local macro_rules | `(tactic| walk_at "sz") => `(tactic| first | omega | decide | (simp only [List.length_map, List.length_append, List.length_cons, List.length_nil, List.length_take]; omega))
local macro_rules | `(tactic| walk_at "s") => `(tactic| first
  | with_reducible refine r_seq ?_ | with_reducible refine r_set ?_ | with_reducible refine r_asg ?_ | with_reducible refine r_ret ?_ | with_reducible refine r_drop ?_ | with_reducible refine r_next ?_ | with_reducible refine r_cont ?_ | with_reducible refine r_brk ?_
  | with_reducible refine r_if ?_ | with_reducible refine r_test ?_ | with_reducible refine r_tB ?_ | with_reducible refine r_bl ?_ | with_reducible refine r_and ?_ | with_reducible refine r_or ?_ | with_reducible refine r_not ?_
  | ((with_reducible refine' r_var ?e ?_); (case e => rfl)) | with_reducible refine r_c ?_ | with_reducible refine r_op ?_ | with_reducible refine r_un ?_ | with_reducible refine r_ifx ?_ | with_reducible refine r_andV ?_ | with_reducible refine r_orV ?_ | with_reducible refine r_notV ?_
  | with_reducible refine r_nil ?_ | with_reducible refine r_cons ?_ | with_reducible refine r_cb ?_ | with_reducible refine r_bm ?_ | with_reducible refine r_bm0 ?_ | with_reducible refine r_lst ?_ | with_reducible refine r_tup ?_ | with_reducible refine r_call ?_
  | with_reducible refine r_lc ?_ | with_reducible refine r_dc ?_ | with_reducible refine r_for ?_ | with_reducible refine r_iTup ?_ | with_reducible refine r_iList ?_ | with_reducible refine r_iEnum ?_ | with_reducible refine r_iRng1 ?_
  | with_reducible refine r_sl ?_ | with_reducible refine r_part ?_ | with_reducible refine r_nop ?_ | with_reducible refine r_int ?_ | with_reducible refine r_then ?_ | with_reducible refine r_yes ?_
  | with_reducible refine r_gname ?_ | with_reducible refine r_gcons ?_ | with_reducible refine r_gnil ?_
  | ((with_reducible refine' r_eq ?e ?_); (case e => rfl)) | ((with_reducible refine' r_ne ?e ?_); (case e => rfl)) | with_reducible refine r_I0 ?_
  | ((with_reducible refine' r_ixT0 ?e ?f ?_); (case e => walk_at "hp"); (case f => rfl)) | ((with_reducible refine' r_ixT1 ?e ?f ?_); (case e => walk_at "hp"); (case f => rfl)) | ((with_reducible refine' r_ixT2 ?e ?f ?_); (case e => walk_at "hp"); (case f => rfl)) | ((with_reducible refine' r_ixT3 ?e ?f ?_); (case e => walk_at "hp"); (case f => rfl)) | ((with_reducible refine' r_ixT4 ?e ?f ?_); (case e => walk_at "hp"); (case f => rfl)) | ((with_reducible refine' r_ixL0 ?e ?f ?_); (case e => walk_at "hp"); (case f => rfl)) | ((with_reducible refine' r_ixL1 ?e ?f ?_); (case e => walk_at "hp"); (case f => rfl)) | ((with_reducible refine' r_ixL2 ?e ?f ?_); (case e => walk_at "hp"); (case f => rfl)) | ((with_reducible refine' r_ixL3 ?e ?f ?_); (case e => walk_at "hp"); (case f => rfl)) | ((with_reducible refine' r_ixL4 ?e ?f ?_); (case e => walk_at "hp"); (case f => rfl))
  | ((with_reducible refine' r_ixT ?e ?f ?_); (case e => walk_at "hp"); (case f => rfl)) | ((with_reducible refine' r_ixL ?e ?f ?_); (case e => walk_at "hp"); (case f => rfl))
  | ((with_reducible refine' r_append ?e ?f ?_); (case e => walk_at "hp"); (case f => walk_at "sz")) | ((with_reducible refine' r_extend ?e ?e2 ?f ?_); (case e => walk_at "hp"); (case e2 => walk_at "hp"); (case f => walk_at "sz"))
  | with_reducible refine r_fldE ?_ | with_reducible refine r_methE ?_ | with_reducible refine r_make ?_ | with_reducible refine r_sfld ?_ | with_reducible refine r_iEnumT ?_ | with_reducible refine r_inSg ?_ | with_reducible refine r_ninSg ?_ | with_reducible refine r_bmfE ?_ | with_reducible refine r_dget1 ?_ | with_reducible refine r_chain ?_ | with_reducible refine r_tupFE ?_ | with_reducible refine r_m1E ?_ | with_reducible refine r_m0E ?_ | with_reducible refine r_sfa ?_ | with_reducible refine r_rAdd ?_
  | with_reducible refine r_dgetE ?_ | with_reducible refine r_dinE ?_ | with_reducible refine r_dninE ?_ | with_reducible refine r_dputE ?_ | with_reducible refine r_dnew ?_ | with_reducible refine r_neg ?_
  | ((with_reducible refine' r_truL ?e ?_); (case e => walk_at "hp"))
  | ((with_reducible refine' r_gtup ?e ?f ?_); (case e => walk_at "hp"); (case f => rfl))
  | ((with_reducible refine' r_tyL ?e ?_); (case e => walk_at "hp")) | walk_at "if")
local macro_rules | `(tactic| walk_at "go") => `(tactic| repeat walk_at "s")
/- steps end -/
/-- a dict made over the keys of a locked dict -/
theorem dc_keys {d : Addr} {od : Obj} {kv0 : List (Key × V)} {g : TG} {tt : TT} {tk tv : TE} {vs : List Nat} {σ : L2.St} {H1 : Hp} {D : Addr} {Qd : Hp → Prop} (Pv : Nat → Hp → Prop) (h0 : Pv 0 (upd H1 D (.dK []))) (hl : ∀ i H, i ≤ kv0.length → Pv i H → H d = some (.frz od (.dK kv0)))
    (hs : ∀ i k v H, kv0[i]? = some (k, v) → Pv i H → g (kV k) (wipe σ vs) H fun σ2 H2 => wipe σ2 vs = wipe σ vs ∧ tt σ2 H2 fun b H3 =>
      if b = true then tk σ2 H3 fun y H4 => tv σ2 H4 fun z H5 => ∃ kvs k, y = kV k ∧ H5 D = some (.dK kvs) ∧ kvs.length < sizeLine ∧ Pv (i + 1) (upd H5 D (.dK (putK kvs k z))) else Pv (i + 1) H3) (hd : ∀ H, Pv kv0.length H → Qd H) :
    ∃ W : Nat → Nat → Hp → Prop, (∃ m, W 0 m (upd H1 D (.dK []))) ∧ ∀ i m H, W i m H →
      ((Itk d od kv0).stop i H ∧ Qd H) ∨ ((Itk d od kv0).go i H ∧ ∃ Nx : Hp → Prop, (∀ H', Nx H' → ∃ m', m' < m ∧ W (i + 1) m' H') ∧ ∀ x H', (Itk d od kv0).yld i H x H' → g x (wipe σ vs) H' fun σ2 H2 => wipe σ2 vs = wipe σ vs ∧ tt σ2 H2 fun b H3 =>
        if b = true then tk σ2 H3 fun y H4 => tv σ2 H4 fun z H5 => ∃ kvs k, y = kV k ∧ H5 D = some (.dK kvs) ∧ kvs.length < sizeLine ∧ Nx (upd H5 D (.dK (putK kvs k z))) else Nx H3) := by
  refine ⟨fun i m H => m = kv0.length - i ∧ i ≤ kv0.length ∧ Pv i H, ⟨kv0.length, by simp, Nat.zero_le _, h0⟩, ?_⟩
  rintro i m H ⟨rfl, hi, p⟩
  have q := hl i H hi p
  by_cases hlt : i < kv0.length
  · refine .inr ⟨⟨q, hlt⟩, Pv (i + 1), fun H' p' => ⟨kv0.length - (i + 1), by omega, rfl, hlt, p'⟩, fun x H' y => ?_⟩
    obtain ⟨e, k, v, hk, ex⟩ := y
    subst e ex
    exact hs i k v _ hk p
  · have e : i = kv0.length := by omega
    subst e
    exact .inl ⟨⟨q, Nat.le_refl _⟩, hd H p⟩
/-- check_targets(entry, nodes) -/
def spCT : Sp := fun vs H Q _ => ∃ (l : Addr) (us : List V) (ns : List Nod) (en : Str), vs = [.str en, .ref l] ∧ H l = some (.lst us) ∧ Paired (NdAt H) ns us ∧ NsOk en ns ∧
  ∀ d kvs H', Same H H' → H d = none → H' d = some (.dK kvs) → kvs.map (·.1) = (lbs ns).map Sum.inr → (∀ n ∈ ns, ∃ v, dv kvs n.l = some v ∧ NdAt H' n v) → Q (.ref d) H'
theorem dv_keys {kvs : List (Key × V)} {zs : List Str} (h : kvs.map (·.1) = zs.map Sum.inr) {z : Str} (hn : z ∉ zs) : dv kvs z = none := by
  cases e : dv kvs z with
  | none => rfl
  | some v =>
    have : Sum.inr z ∈ kvs.map (·.1) := by
      have h9 := valV_any (kvs := kvs) (k := (Sum.inr z : Key))
      rw [show valV kvs (Sum.inr z) = some v from e] at h9
      simp only [Option.isSome_some, List.any_eq_true] at h9
      obtain ⟨q, hq, hq2⟩ := h9
      exact List.mem_map.mpr ⟨q, hq, by simpa using hq2⟩
    rw [h] at this
    obtain ⟨z', hz, ez⟩ := List.mem_map.mp this
    exact absurd (by rw [← Sum.inr.inj ez]; exact hz) hn
theorem NdAt.te {H H' : Hp} (s : ∀ b o, (∀ C dx fs, o ≠ .ins C dx fs) → (∀ k, o ≠ .dK k) → (∀ k, o ≠ .lst k) → H b = some o → H' b = some o) {n : Nod} {v : V} (h : NdAt H n v) : NdAt H' n v := by
  obtain ⟨p1, t1, d1, a1, a2, a3, ob, a4, a5⟩ := h
  have te : TE_ H H' := fun a xs h => s a _ (by intro _ _ _ z; cases z) (by intro _ z; cases z) (by intro _ z; cases z) h
  exact ⟨p1, t1, d1, a1, te _ _ a2, a3.mono te, ob, s _ _ (by intro _ _ _ z; cases z) (by intro _ z; cases z) (by intro _ z; cases z) a4, a5⟩
theorem NdAt.upd {H : Hp} {a : Addr} {o o' : HO} (h : H a = some o) (ho : (∃ k, o = .dK k) ∨ (∃ k, o = .lst k)) {n : Nod} {v : V} (hn : NdAt H n v) : NdAt (upd H a o') n v := by
  refine hn.te fun b u h1 h2 h3 e => ?_
  rw [upd_ne (fun z => by
    rw [z, h] at e
    cases e
    rcases ho with ⟨k, rfl⟩ | ⟨k, rfl⟩
    · exact h2 _ rfl
    · exact h3 _ rfl)]
  exact e
section
variable {P : PySem.Program} {w : World} {K : PySem.W.Frag} {mg : Str → Option Value} {base : Heap}
theorem scCT : FnScope ["entry", "nodes", "by_label", "targets", "_", "more", "target", "node"] ["entry", "nodes"] (defScope (top 51)) := ⟨rfl, rfl, rfl, by decide +kernel, rfl, by decide +kernel, by decide +kernel⟩
theorem ct_cal (T : Tx w K mg) : C8.Cal P w K mg base 1 "check_targets" spCT [] := by
  have g_EXIT := gstr T (x := "EXIT") (z := "exit") (by decide +kernel)
  refine cal T (i := 51) (by decide +kernel) scCT (fun vs H Q E h => ?_) (fun _ _ _ _ _ _ us hl => match us, hl with | [_, _], _ => rfl) (fun cdv A outer s H vs Q E hr h => ?_)
  · obtain ⟨z, _, _, _, rfl, _⟩ := h
    rfl
  obtain ⟨l, us, ns, en, rfl, hl, hpr, ok, q⟩ := h
  have hu := hu_of hr
  have hlen := ok.len
  have hul := Paired.length hpr
  refine ⟨_, (pss_cons (ps_setDc (i := 2) (own := [("node", 7)]) (g := gName 7) (tt := tYes) (tk := tOp (rIxT K) (tVar 7) (tC (.int 0))) (tv := tVar 7) rfl scCT.nd rfl rfl (sw_trueD rfl rfl rfl (by decide +kernel)) (pi_list (pv 1)) (blkOk_by (N := ["entry", "nodes", "by_label", "targets", "_", "more", "target", "node"]) (sc := defScope (top 51)) (by decide +kernel)) (fun _ _ _ _ _ => pg_name (i := 7) scCT.nd rfl (.inl rfl)) (fun _ _ _ _ _ => pts_nil) (fun _ _ _ _ _ => pe_ix ix_tup (pv 7) pe_int (fun _ _ => rfl)) (fun _ _ _ _ _ => pv 7))
(pss_cons (ps_set (i := 3) scCT.nd rfl (.inl rfl) (pe_lst (pa_cons (pv 0) pa_nil)))
(pss_cons (ps_for PassesOwn.never rfl (pi_list (pv 1)) (pg_tup rfl (pgs_cons (pg_name (i := 4) scCT.nd rfl (.inl rfl)) (pgs_cons (pg_name (i := 4) scCT.nd rfl (.inl rfl)) (pgs_cons (pg_name (i := 5) scCT.nd rfl (.inl rfl)) pgs_nil))))
(pss_one (ps_expr (pe_bm PySem.F.plainAttrs_list PySem.F.slot_list_extend PySem.F.type_list_extend mt_extendT (pv 3) (pa_cons (pv 5) pa_nil)))))
(pss_cons (ps_for PassesOwn.never rfl (pi_list (pv 3)) (pg_name (i := 6) scCT.nd rfl (.inl rfl))
(pss_one (ps_if (PW.pt (pw_and (pt_cmpR op_ne (pv 6) (C8.pe_gc rfl g_EXIT) (nomark _)) (pw_and1 (pt_cmp (pc_dnotin hu (pv 6) (pv 2))))))
(pss_one ps_never)
pss_nil)))
(pss_one (ps_ret (pv 2))))))), ?_⟩
  walk_at "go"
  refine ⟨l, rfl, ⟨_, SqL.of hl⟩, fun D nD => dc_list (xs := us) (fun i H' => Same H H' ∧ ∃ kvs : List (Key × V), H' D = some (.dK kvs) ∧ kvs.map (·.1) = (lbs (ns.take i)).map Sum.inr ∧ ∀ n ∈ ns.take i, ∃ v, dv kvs n.l = some v ∧ NdAt H' n v)
    ⟨Same.newo nD _, [], upd_same, by simp, by simp⟩ (fun i H' _ ⟨s1, _⟩ => SqL.of (s1 _ _ hl)) ?_ ?_⟩
  · rintro i y H' hi ⟨s1, kv, hD, hk, hkv⟩
    obtain ⟨n, hn, hnd⟩ := paired_got hpr hi
    have hnd1 := hnd.s s1
    obtain ⟨pp, tt, dd, rfl, hpp, hdd, htt⟩ := id hnd1
    have il : i < ns.length := (List.getElem?_eq_some_iff.mp hn).1
    have hnt : n.l ∉ lbs (ns.take i) := by
      have := not_take (o := lbs ns) ok.nd (i := i) (l := n.l) (by rw [List.getElem?_map, hn]; rfl)
      rwa [← List.map_take] at this
    have hno := dv_keys hk hnt
    have hkl : kv.length = (ns.take i).length := by have := congrArg List.length hk; simpa [lbs] using this
    walk_at "go"
    refine ⟨rfl, ?_⟩
    walk_at "go"
    refine ⟨kv, Sum.inr n.l, rfl, hD, szl (by rw [hkl, List.length_take]; omega), Same.mut s1 nD _, _, upd_same, ?_, ?_⟩
    · rw [put_keys_new _ hno, List.map_append, hk, take_snoc hn]
      simp [lbs]
    · intro m hm
      rw [dv_put]
      rw [take_snoc hn] at hm
      rcases List.mem_append.mp hm with hm | hm
      · obtain ⟨v, e1, e2⟩ := hkv m hm
        rw [if_neg (fun e => hnt (by rw [← e]; exact List.mem_map_of_mem (f := Nod.l) hm))]
        exact ⟨v, e1, e2.upd hD (.inl ⟨_, rfl⟩)⟩
      · have e : m = n := by simpa using hm
        subst e
        rw [if_pos rfl]
        exact ⟨_, rfl, hnd1.upd hD (.inl ⟨_, rfl⟩)⟩
  rintro H1 ⟨s1, kv, hD, hk, hkv⟩
  rw [← hul, List.take_length] at hk hkv
  have hl1 := s1 _ _ hl
  have hpr1 := paired_mono (fun _ _ h => NdAt.s s1 h) hpr
  walk_at "go"
  refine ⟨by show 1 ≤ sizeLine; decide, fun tl ntl => ?_⟩
  have s2 : Same H1 (upd H1 tl (.lst [.str en])) := Same.newo ntl _
  have htl : upd H1 tl (.lst [.str en]) tl = some (.lst [.str en]) := upd_same
  generalize eH2 : upd H1 tl (.lst [.str en]) = H2 at s2 htl ⊢
  walk_at "go"
  refine ⟨l, rfl, ⟨_, SqL.of (s2 _ _ hl1)⟩, for_list (xs := us) (fun i σ H' => (∃ z4 z5 z6 z7, σ = [some (.str en), some (.ref l), some (.ref D), some (.ref tl), z4, z5, z6, z7]) ∧ Same H1 H' ∧ ∃ ts : List Str, H' tl = some (.lst (ts.map V.str)) ∧ ts.length ≤ 1 + 2 * i ∧ ∀ t ∈ ts, t = "exit" ∨ t ∈ lbs ns)
    ⟨⟨_, _, _, _, rfl⟩, s2, [en], htl, by simp, fun t ht => by
      have : t = en := by simpa using ht
      rw [this]
      by_cases e : en = "exit"
      · exact .inl e
      · exact .inr (ok.en e)⟩ (fun i σ H' _ ⟨_, s3, _⟩ => SqL.of (s3 _ _ hl1)) ?_ ?_⟩
  · rintro i y σ H' hi ⟨⟨z4, z5, z6, z7, rfl⟩, s3, ts, hts, htl2, hall⟩
    obtain ⟨n, hn, hnd⟩ := paired_got hpr1 hi
    obtain ⟨pp, tt, dd, rfl, hpp, hdd, htt⟩ := hnd.s s3
    have hnm := List.mem_of_getElem? hn
    have h2 := ok.two' hnm
    have il : i < ns.length := (List.getElem?_eq_some_iff.mp hn).1
    walk_at "go"
    refine ⟨tl, tt, _, _, rfl, rfl, hts, htt.sqt, sz (by simp; omega), ?_⟩
    refine ⟨⟨_, _, _, _, rfl⟩, Same.mut s3 ntl _, ts ++ n.tg, by rw [upd_same, List.map_append], by simp; omega, fun t ht => ?_⟩
    rcases List.mem_append.mp ht with ht | ht
    · exact hall t ht
    · by_cases e : t = "exit"
      · exact .inl e
      · exact .inr (ok.cl n hnm t ht e)
  · rintro σ H' ⟨⟨z4, z5, z6, z7, rfl⟩, s3, ts, hts, htl2, hall⟩
    walk_at "go"
    refine ⟨tl, rfl, ⟨_, SqL.of hts⟩, for_list (xs := ts.map V.str) (fun i σ H4 => (∃ z6, σ = [some (.str en), some (.ref l), some (.ref D), some (.ref tl), z4, z5, z6, z7]) ∧ H4 = H') ⟨⟨_, rfl⟩, rfl⟩ (fun i σ H4 _ ⟨_, e⟩ => by rw [e]; exact SqL.of hts) ?_ ?_⟩
    · rintro i y σ H4 hi ⟨⟨z6', rfl⟩, rfl⟩
      obtain ⟨t, ht, rfl⟩ := map_str_get hi
      have htm := hall t (List.mem_of_getElem? ht)
      walk_at "go"
      refine r_if2 (fun hb => ?_) (fun hb => ?_)
      · have hne : t ≠ "exit" := fun e => by rw [e] at hb; simp at hb
        have htl3 : t ∈ lbs ns := by
          rcases htm with h | h
          · exact absurd h hne
          · exact h
        obtain ⟨n, hn, rfl⟩ := nod_of htl3
        obtain ⟨v, e1, _⟩ := hkv n hn
        walk_at "go"
        refine r_dgo (s3 _ _ hD) ?_
        rw [e1]
        walk_at "go"
        exact ⟨⟨_, rfl⟩, rfl⟩
      · walk_at "go"
        exact ⟨⟨_, rfl⟩, rfl⟩
    · rintro σ H4 ⟨⟨z6', rfl⟩, rfl⟩
      walk_at "go"
      exact q D kv H4 (Same.trans s1 s3) nD (s3 _ _ hD) hk fun n hn => by
        obtain ⟨v, a, b⟩ := hkv n hn
        exact ⟨v, a, b.s s3⟩
end
end K5
end

section
set_option linter.all false
set_option maxRecDepth 100000
/-! normalized, parse_source. -/
namespace K5
open PySem PySem.Spec PyProof.Rows L2 SX MG
/- steps -/
local macro_rules | `(tactic| walk_at "sm") => `(tactic| first | assumption | exact Same.refl _ | (refine Same.mut ?_ (by assumption) _; walk_at "sm") | (refine Same.trans ?_ (Same.newo (by assumption) _); walk_at "sm") | (refine Same.trans ?_ (by assumption); walk_at "sm"))
local macro_rules | `(tactic| walk_at "hp") => `(tactic| first | assumption | exact upd_same | (refine up_new ?_ (by assumption) _; walk_at "hp") | (refine Same.up ?_ (by assumption) (by assumption); walk_at "sm") | (refine Same.look (by assumption) ?_; walk_at "hp"))
local macro_rules | `(tactic| walk_at "rep") => `(tactic| first | assumption | exact str_rep | exact int_rep | exact non_rep | (refine' Rep.s ?s ?h; (case h => assumption); (case s => walk_at "sm")))
local macro_rules | `(tactic| walk_at "if") => `(tactic| first | ((with_reducible refine' r_ifT ?e ?_); (case e => decide +kernel)) | ((with_reducible refine' r_ifF ?e ?_); (case e => decide +kernel)))
local macro_rules | `(tactic| walk_at "sz") => `(tactic| first | omega | decide | (simp only [List.length_map, List.length_append, List.length_cons, List.length_nil, List.length_take]; omega))
local macro_rules | `(tactic| walk_at "s") => `(tactic| first
  | with_reducible refine r_seq ?_ | with_reducible refine r_set ?_ | with_reducible refine r_asg ?_ | with_reducible refine r_ret ?_ | with_reducible refine r_drop ?_ | with_reducible refine r_next ?_ | with_reducible refine r_cont ?_ | with_reducible refine r_brk ?_
  | with_reducible refine r_if ?_ | with_reducible refine r_test ?_ | with_reducible refine r_tB ?_ | with_reducible refine r_bl ?_ | with_reducible refine r_and ?_ | with_reducible refine r_or ?_ | with_reducible refine r_not ?_
  | ((with_reducible refine' r_var ?e ?_); (case e => rfl)) | with_reducible refine r_c ?_ | with_reducible refine r_op ?_ | with_reducible refine r_un ?_ | with_reducible refine r_ifx ?_ | with_reducible refine r_andV ?_ | with_reducible refine r_orV ?_ | with_reducible refine r_notV ?_
  | with_reducible refine r_nil ?_ | with_reducible refine r_cons ?_ | with_reducible refine r_cb ?_ | with_reducible refine r_bm ?_ | with_reducible refine r_bm0 ?_ | with_reducible refine r_lst ?_ | with_reducible refine r_tup ?_ | with_reducible refine r_call ?_
  | with_reducible refine r_lc ?_ | with_reducible refine r_dc ?_ | with_reducible refine r_for ?_ | with_reducible refine r_iTup ?_ | with_reducible refine r_iList ?_ | with_reducible refine r_iEnum ?_ | with_reducible refine r_iRng1 ?_
  | with_reducible refine r_sl ?_ | with_reducible refine r_part ?_ | with_reducible refine r_nop ?_ | with_reducible refine r_int ?_ | with_reducible refine r_then ?_ | with_reducible refine r_yes ?_
  | with_reducible refine r_gname ?_ | with_reducible refine r_gcons ?_ | with_reducible refine r_gnil ?_
  | ((with_reducible refine' r_eq ?e ?_); (case e => rfl)) | ((with_reducible refine' r_ne ?e ?_); (case e => rfl)) | with_reducible refine r_I0 ?_
  | ((with_reducible refine' r_ixT0 ?e ?f ?_); (case e => walk_at "hp"); (case f => rfl)) | ((with_reducible refine' r_ixT1 ?e ?f ?_); (case e => walk_at "hp"); (case f => rfl)) | ((with_reducible refine' r_ixT2 ?e ?f ?_); (case e => walk_at "hp"); (case f => rfl)) | ((with_reducible refine' r_ixT3 ?e ?f ?_); (case e => walk_at "hp"); (case f => rfl)) | ((with_reducible refine' r_ixT4 ?e ?f ?_); (case e => walk_at "hp"); (case f => rfl)) | ((with_reducible refine' r_ixL0 ?e ?f ?_); (case e => walk_at "hp"); (case f => rfl)) | ((with_reducible refine' r_ixL1 ?e ?f ?_); (case e => walk_at "hp"); (case f => rfl)) | ((with_reducible refine' r_ixL2 ?e ?f ?_); (case e => walk_at "hp"); (case f => rfl)) | ((with_reducible refine' r_ixL3 ?e ?f ?_); (case e => walk_at "hp"); (case f => rfl)) | ((with_reducible refine' r_ixL4 ?e ?f ?_); (case e => walk_at "hp"); (case f => rfl))
  | ((with_reducible refine' r_ixT ?e ?f ?_); (case e => walk_at "hp"); (case f => rfl)) | ((with_reducible refine' r_ixL ?e ?f ?_); (case e => walk_at "hp"); (case f => rfl))
  | ((with_reducible refine' r_append ?e ?f ?_); (case e => walk_at "hp"); (case f => walk_at "sz")) | ((with_reducible refine' r_extend ?e ?e2 ?f ?_); (case e => walk_at "hp"); (case e2 => walk_at "hp"); (case f => walk_at "sz"))
  | with_reducible refine r_fldE ?_ | with_reducible refine r_methE ?_ | with_reducible refine r_make ?_ | with_reducible refine r_sfld ?_ | with_reducible refine r_iEnumT ?_ | with_reducible refine r_inSg ?_ | with_reducible refine r_ninSg ?_ | with_reducible refine r_bmfE ?_ | with_reducible refine r_dget1 ?_ | with_reducible refine r_chain ?_ | with_reducible refine r_jcons ?_ | with_reducible refine r_jnil ?_ | with_reducible refine r_fmtE ?_ | with_reducible refine r_lockE ?_ | with_reducible refine r_iKeys ?_ | with_reducible refine r_tupFE ?_ | with_reducible refine r_m1E ?_ | with_reducible refine r_m0E ?_ | with_reducible refine r_sfa ?_ | with_reducible refine r_rAdd ?_
  | with_reducible refine r_dgetE ?_ | with_reducible refine r_dinE ?_ | with_reducible refine r_dninE ?_ | with_reducible refine r_dputE ?_ | with_reducible refine r_dnew ?_ | with_reducible refine r_neg ?_
  | ((with_reducible refine' r_truL ?e ?_); (case e => walk_at "hp"))
  | ((with_reducible refine' r_gtup ?e ?f ?_); (case e => walk_at "hp"); (case f => rfl))
  | ((with_reducible refine' r_tyL ?e ?_); (case e => walk_at "hp")) | walk_at "if")
local macro_rules | `(tactic| walk_at "go") => `(tactic| repeat walk_at "s")
/- steps end -/
theorem IsOrder.congr {en ex : Str} {tg tg' : Str → List Str} {o : List Str} (h : IsOrder en ex tg o) (e : ∀ l ∈ o, tg' l = tg l) : IsOrder en ex tg' o where
  nodup := h.nodup
  noex := h.noex
  empty := h.empty
  head := h.head
  closed := fun l hl t ht => h.closed l hl t (by rw [← e l hl]; exact ht)
  pred := fun xs ys m eo hne => by
    obtain ⟨p, hp, hm⟩ := h.pred xs ys m eo hne
    exact ⟨p, hp, by rw [e p (by rw [eo]; simp [hp])]; exact hm⟩
def nodOf (ns : List Nod) (l : Str) : Nod := (ns.find? fun n => decide (n.l = l)).getD ⟨"", "", [], []⟩
theorem nodOf_mem {ns : List Nod} (hn : (lbs ns).Nodup) {l : Str} (h : l ∈ lbs ns) : nodOf ns l ∈ ns ∧ (nodOf ns l).l = l := by
  obtain ⟨n, h1, rfl⟩ := nod_of h
  have : nodOf ns n.l = n := by unfold nodOf; rw [find_nod hn h1]; rfl
  rw [this]; exact ⟨h1, rfl⟩
theorem lbs_sel {ns : List Nod} (hn : (lbs ns).Nodup) : ∀ {o : List Str}, (∀ x ∈ o, x ∈ lbs ns) → lbs (o.map (nodOf ns)) = o
  | [], _ => rfl
  | a :: r, h => by
    have h1 := (nodOf_mem hn (h a (by simp))).2
    have h2 := lbs_sel hn (o := r) (fun x hx => h x (by simp [hx]))
    show (nodOf ns a).l :: lbs (r.map (nodOf ns)) = a :: r
    rw [h1, h2]
theorem tgOf_sel {ns : List Nod} (hn : (lbs ns).Nodup) {o : List Str} (ho : ∀ x ∈ o, x ∈ lbs ns) (nd : o.Nodup) {l : Str} (hl : l ∈ o) : tgOf (o.map (nodOf ns)) l = tgOf ns l := by
  have e := lbs_sel hn ho
  have h1 := nodOf_mem hn (ho l hl)
  have h2 : nodOf ns l ∈ o.map (nodOf ns) := List.mem_map_of_mem (f := nodOf ns) hl
  have h3 := tgOf_nod (ns := o.map (nodOf ns)) (by rw [e]; exact nd) h2
  rw [h1.2] at h3
  rw [h3]
  have h4 := tgOf_nod hn h1.1
  rw [h1.2] at h4
  exact h4.symm
theorem sel_ok {en : Str} {ns : List Nod} {o : List Str} (ok : NsOk en ns) (io : IsOrder en "exit" (tgOf ns) o) (ho : ∀ x ∈ o, x ∈ lbs ns) : NsOk en (o.map (nodOf ns)) ∧ Rch en (o.map (nodOf ns)) := by
  have e := lbs_sel ok.nd ho
  have hm : ∀ n ∈ o.map (nodOf ns), n ∈ ns := fun n hn => by
    obtain ⟨l, hl, rfl⟩ := List.mem_map.mp hn
    exact (nodOf_mem ok.nd (ho l hl)).1
  have hl8 : o.length ≤ 8 := by
    have := io.nodup.length_le_of_subset (fun x hx => ho x hx)
    have h8 := ok.len
    simp [lbs] at this; omega
  refine ⟨⟨by rw [e]; exact io.nodup, by rw [e]; exact io.noex, fun h => by rw [e]; exact io.entry h, ?_, by simp; exact hl8, fun n hn => ok.two n (hm n hn), fun n hn => ok.ok n (hm n hn)⟩, o, ?_, fun l hl => by rw [e] at hl; exact hl⟩
  · intro n hn t ht hne
    rw [e]
    obtain ⟨l, hl, rfl⟩ := List.mem_map.mp hn
    obtain ⟨h1, h2⟩ := nodOf_mem ok.nd (ho l hl)
    have h3 := tgOf_nod ok.nd h1
    rw [h2] at h3
    exact io.closed l hl t (by rw [h3]; exact ht) hne
  · exact IsOrder.congr io fun l hl => tgOf_sel ok.nd ho io.nodup hl
/-- normalized(entry, nodes) -/
def spNorm : Sp := fun vs H Q _ => ∃ (l : Addr) (us : List V) (ns : List Nod) (en : Str), vs = [.str en, .ref l] ∧ H l = some (.lst us) ∧ Paired (NdAt H) ns us ∧ NsOk en ns ∧
  ∀ p vs' ms H', Same H H' → H' p = some (.tup vs') → Paired (NdAt H') ms vs' → NsOk en ms → Rch en ms → (∀ m ∈ ms, m ∈ ns) → Q (.ref p) H'
section
variable {P : PySem.Program} {w : World} {K : PySem.W.Frag} {mg : Str → Option Value} {base : Heap}
theorem scNorm : FnScope ["entry", "nodes", "by_label", "order", "label"] ["entry", "nodes"] (defScope (top 52)) := ⟨rfl, rfl, rfl, by decide +kernel, rfl, by decide +kernel, by decide +kernel⟩
theorem norm_cal (T : Tx w K mg) : C8.Cal P w K mg base 3 "normalized" spNorm [] := by
  have c_check_targets : C8.Cal P w K mg base 1 "check_targets" spCT [] := ct_cal T
  have c_order_of : C8.Cal P w K mg base 2 "order_of" spOrder [] := order_cal T
  have m_len := T.free "len" (by decide +kernel)
  have m_tuple := T.free "tuple" (by decide +kernel)
  have g_MOST_NODES := gint T (x := "MOST_NODES") (z := 20) (by decide +kernel)
  refine cal T (i := 52) (by decide +kernel) scNorm (fun vs H Q E h => ?_) (fun _ _ _ _ _ _ us hl => match us, hl with | [_, _], _ => rfl) (fun cdv A outer s H vs Q E hr h => ?_)
  · obtain ⟨z, _, _, _, rfl, _⟩ := h
    rfl
  obtain ⟨l, us, ns, en, rfl, hl, hpr, ok, q⟩ := h
  have hu := hu_of hr
  have hlen := ok.len
  refine ⟨_, (pss_cons (ps_set (i := 2) scNorm.nd rfl (.inr rfl) (C8.pe_c c_check_targets hr (by omega) rfl (pa_cons (pv 0) (pa_cons (pv 1) pa_nil))))
(pss_cons (ps_set (i := 3) scNorm.nd rfl (.inl rfl) (C8.pe_c c_order_of hr (by omega) rfl (pa_cons (pe_tup (pa_cons (pv 0) (pa_cons (pe_lock (pe_dc (own := [("label", 4)]) (g := gName 4) (tt := tYes) (tk := tVar 4) (tv := tOp (rIxT K) (tDGet (tVar 2) (tVar 4)) (tC (.int 2))) rfl scNorm.nd (pi_keys (pv 2)) (blkOk_by (N := ["entry", "nodes", "by_label", "order", "label"]) (sc := defScope (top 52)) (by decide +kernel)) (fun _ _ _ _ _ => pg_name (i := 4) scNorm.nd rfl (.inl rfl)) (fun _ _ _ _ _ => pts_nil) (fun _ _ _ _ _ => pv 4) (fun _ _ _ _ _ => pe_ix ix_tup (pe_dget hu (pv 2) (pv 4) (fun _ _ => rfl)) pe_int (fun _ _ => rfl)))) pa_nil))) pa_nil)))
(pss_cons (ps_if (pt_cmpR op_gt (pe_callB call_len_seq rfl m_len PySem.boot_len (pa_cons (pv 3) pa_nil)) (C8.pe_gc rfl g_MOST_NODES) (nomark _))
(pss_one ps_never)
pss_nil)
(pss_one (ps_ret (pe_tupleOf rfl m_tuple (pe_lc (own := [("label", 4)]) (g := gName 4) (tt := tYes) (te := tDGet (tVar 2) (tVar 4)) rfl scNorm.nd (pi_tup (pv 3)) (blkOk_by (N := ["entry", "nodes", "by_label", "order", "label"]) (sc := defScope (top 52)) (by decide +kernel)) (fun _ _ _ _ _ => pg_name (i := 4) scNorm.nd rfl (.inl rfl)) (fun _ _ _ _ _ => pts_nil) (fun _ _ _ _ _ => pe_dget hu (pv 2) (pv 4) (fun _ _ => rfl))))))))), ?_⟩
  walk_at "go"
  refine ⟨l, us, ns, en, rfl, hl, hpr, ok, fun d kvs H1 s1 nd hd hk hkv => ?_⟩
  have hkl : kvs.length = ns.length := by have := congrArg List.length hk; simpa [lbs] using this
  walk_at "go"
  refine ⟨d, _, hd, trivial, fun od => ?_⟩
  have sL : Same H (upd H1 d (.frz od (.dK kvs))) := Same.mut s1 nd _
  have hdL : upd H1 d (.frz od (.dK kvs)) d = some (.frz od (.dK kvs)) := upd_same
  have hkvL : ∀ n ∈ ns, ∃ v, dv kvs n.l = some v ∧ NdAt (upd H1 d (.frz od (.dK kvs))) n v := fun n hn => by
    obtain ⟨v, a, b⟩ := hkv n hn
    exact ⟨v, a, b.upd hd (.inl ⟨_, rfl⟩)⟩
  have unl : ∀ {H' : Hp}, Same (upd H1 d (.frz od (.dK kvs))) H' → Same H1 (upd H' d (.dK kvs)) := fun {H'} s b o hb => by
    by_cases e : b = d
    · subst e; rw [upd_same, ← hd]; exact hb.symm ▸ rfl
    · rw [upd_ne e]; exact s b o (by rw [upd_ne e]; exact hb)
  generalize upd H1 d (.frz od (.dK kvs)) = HL at sL hdL hkvL unl ⊢
  walk_at "go"
  refine ⟨d, od, rfl, .inl ⟨kvs, hdL, ?_⟩⟩
  refine fun D nD => dc_keys (kv0 := kvs) (fun i H' => Same HL H' ∧ ∃ kv : List (Key × V), H' D = some (.dK kv) ∧ kv.map (·.1) = (lbs (ns.take i)).map Sum.inr ∧ ∀ n ∈ ns.take i, ∃ tt, dv kv n.l = some (.ref tt) ∧ TF H' tt (n.tg.map V.str))
    ⟨Same.newo nD _, [], upd_same, by simp, by simp⟩ (fun i H' _ ⟨s2, _⟩ => s2 _ _ hdL) ?_ ?_
  · rintro i k v H' hi ⟨s2, kv, hD, hk2, hkv2⟩
    have il : i < ns.length := by rw [← hkl]; exact (List.getElem?_eq_some_iff.mp hi).1
    obtain ⟨n, hn⟩ : ∃ n, ns[i]? = some n := ⟨_, List.getElem?_eq_getElem il⟩
    have ek : k = Sum.inr n.l := by
      have h1 : (kvs.map (·.1))[i]? = some k := by rw [List.getElem?_map, hi]; rfl
      rw [hk, List.getElem?_map, List.getElem?_map, hn] at h1
      simpa using h1.symm
    subst ek
    have hnt : n.l ∉ lbs (ns.take i) := by
      have := not_take (o := lbs ns) ok.nd (i := i) (l := n.l) (by rw [List.getElem?_map, hn]; rfl)
      rwa [← List.map_take] at this
    have hno := dv_keys hk2 hnt
    have hkl2 : kv.length = (ns.take i).length := by have := congrArg List.length hk2; simpa [lbs] using this
    obtain ⟨v', e1, e2⟩ := hkvL n (List.mem_of_getElem? hn)
    obtain ⟨pp, tt, dd, rfl, hpp, hdd, htt⟩ := e2.s s2
    walk_at "go"
    refine ⟨rfl, ?_⟩
    walk_at "go"
    refine ⟨d, .ref pp, rfl, .inl ⟨kvs, Sum.inr n.l, .inr ⟨od, s2 _ _ hdL⟩, rfl, e1.symm⟩, ?_⟩
    walk_at "go"
    refine ⟨kv, Sum.inr n.l, rfl, hD, szl (by rw [hkl2, List.length_take]; omega), Same.mut s2 nD _, _, upd_same, ?_, ?_⟩
    · rw [put_keys_new _ hno, List.map_append, hk2, take_snoc hn]
      simp [lbs]
    · intro m hm
      rw [dv_put]
      rw [take_snoc hn] at hm
      rcases List.mem_append.mp hm with hm | hm
      · obtain ⟨t2, e3, o2, e4, e5⟩ := hkv2 m hm
        rw [if_neg (fun e => hnt (by rw [← e]; exact List.mem_map_of_mem (f := Nod.l) hm))]
        exact ⟨t2, e3, o2, by rw [upd_ne (ne_of e4 hD (by intro z; cases z))]; exact e4, e5⟩
      · have e : m = n := by simpa using hm
        subst e
        rw [if_pos rfl]
        obtain ⟨o2, e4, e5⟩ := htt
        exact ⟨tt, rfl, o2, by rw [upd_ne (ne_of e4 hD (by intro z; cases z))]; exact e4, e5⟩
  · rintro H' ⟨s2, kv, hD, hk2, hkv2⟩
    rw [hkl, List.take_length] at hk2 hkv2
    have hdH' := s2 _ _ hdL
    have Dd : D ≠ d := ne_of hD hdH' (by intro z; cases z)
    refine ⟨hdH', ?_⟩
    have s3 := unl s2
    have hD3 : upd H' d (.dK kvs) D = some (.dK kv) := by rw [upd_ne Dd]; exact hD
    have hkv3 : ∀ n ∈ ns, ∃ tt, dv kv n.l = some (.ref tt) ∧ TF (upd H' d (.dK kvs)) tt (n.tg.map V.str) := fun n hn => by
      obtain ⟨t2, e3, o2, e4, e5⟩ := hkv2 n hn
      exact ⟨t2, e3, o2, by rw [upd_ne (ne_of e4 hdH' (by intro z; injection z with z1 z2; cases z2))]; exact e4, e5⟩
    generalize upd H' d (.dK kvs) = H3 at s3 hD3 hkv3 ⊢
    walk_at "go"
    refine ⟨by show 2 ≤ sizeLine; decide, fun g ng => ?_⟩
    have s4 : Same H3 (upd H3 g (.tup [.str en, .ref D])) := Same.newo ng _
    have hG : GrAt (upd H3 g (.tup [.str en, .ref D])) (.ref g) en (lbs ns) (tgOf ns) := by
      refine ⟨g, D, rfl, upd_same, kv, s4 _ _ hD3, hk2, fun z hz => ?_⟩
      obtain ⟨n, hn, rfl⟩ := nod_of hz
      obtain ⟨tt, e1, e2⟩ := hkv3 n hn
      rw [tgOf_nod ok.nd hn]
      exact ⟨tt, e1, e2.s s4⟩
    generalize upd H3 g (.tup [.str en, .ref D]) = H4 at s4 hG ⊢
    walk_at "go"
    refine ⟨.ref g, en, _, _, rfl, hG, ok.gr, fun p H5 o s5 hp io ho => ?_⟩
    have ol : o.length ≤ 8 := Nat.le_trans (io.nodup.length_le_of_subset fun x hx => ho x hx) (by simp [lbs]; omega)
    have s15 : Same H1 H5 := Same.trans s3 (Same.trans s4 s5)
    have hd5 := s15 _ _ hd
    walk_at "go"
    refine ⟨p, _, rfl, .inr (SqT.of hp), ?_⟩
    rw [List.length_map]
    walk_at "go"
    rw [decide_eq_false (by omega)]
    walk_at "go"
    refine ⟨p, rfl, ⟨_, SqT.of hp⟩, fun rl nrl => lc_tup (xs := o.map V.str) (fun i H' => Same H5 H' ∧ ∃ ys, H' rl = some (.lst ys) ∧ Paired (NdAt H') ((o.take i).map (nodOf ns)) ys)
      ⟨Same.newo nrl _, [], upd_same, by simpa using Paired.nil⟩ (fun i H' _ ⟨s6, _⟩ => SqT.of (s6 _ _ hp)) ?_ ?_⟩
    · rintro i y H' hi ⟨s6, ys, hys, hpy⟩
      obtain ⟨z, hz, rfl⟩ := map_str_get hi
      have hzo := List.mem_of_getElem? hz
      obtain ⟨m1, m2⟩ := nodOf_mem ok.nd (ho z hzo)
      obtain ⟨v, e1, e2⟩ := hkv _ m1
      rw [m2] at e1
      have hyl : ys.length ≤ 8 := by
        have := Paired.length hpy
        have h9 := List.length_take_le' i o
        simp at this; omega
      walk_at "go"
      refine ⟨rfl, ?_⟩
      walk_at "go"
      refine r_dg (s6 _ _ hd5) e1 ?_
      refine ⟨ys, hys, szl (by omega), Same.mut s6 nrl _, ys ++ [v], upd_same, ?_⟩
      rw [take_snoc hz, List.map_append]
      exact Paired.snoc (paired_mono (fun _ _ h => h.upd hys (.inr ⟨_, rfl⟩)) hpy) ((e2.s (Same.trans s15 s6)).upd hys (.inr ⟨_, rfl⟩))
    · rintro H' ⟨s6, ys, hys, hpy⟩
      rw [List.length_map, List.take_length] at hpy
      refine r_kTupL hys fun p9 n9 => ?_
      obtain ⟨k1, k2⟩ := sel_ok ok io ho
      have s9 : Same H' (upd H' p9 (.tup ys)) := Same.newo n9 _
      exact q p9 ys _ _ (Same.trans s1 (Same.trans s15 (Same.trans s6 s9))) upd_same (paired_mono (fun _ _ h => h.s s9) hpy) k1 k2 (fun m hm => by
        obtain ⟨l', hl', rfl⟩ := List.mem_map.mp hm
        exact (nodOf_mem ok.nd (ho l' hl')).1)
/-- parse_source(text) -/
def spPS : Sp := fun vs H Q _ => ∃ (x l0 : List Nat) (ls : List (List Nat)) (ns : List Pn), vs = [.str (S (srcT l0 ls))] ∧ SrcOk x l0 ls ns ∧ NsOk (S x) (ns.map Pn.nod) ∧
  ∀ q p vs' ms H', Same H H' → H' q = some (.tup [.str (S x), .ref p]) → H' p = some (.tup vs') → Paired (NdAt H') ms vs' → NsOk (S x) ms → Rch (S x) ms → (∀ m ∈ ms, m ∈ ns.map Pn.nod) → Q (.ref q) H'
theorem scPS : FnScope ["text", "entry", "nodes"] ["text"] (defScope (top 78)) := ⟨rfl, rfl, rfl, by decide +kernel, rfl, by decide +kernel, by decide +kernel⟩
theorem ps_cal (T : Tx w K mg) : C8.Cal P w K mg base 25 "parse_source" spPS [] := by
  have c_has_jumps : C8.Cal P w K mg base 2 "has_jumps" spHJ [] := hj_cal T
  have c_parse_jumps : C8.Cal P w K mg base 24 "parse_jumps" spPJ [] := pj_cal T
  have c_check_doubles : C8.Cal P w K mg base 2 "check_doubles" spCD [] := cd_cal T
  have c_normalized : C8.Cal P w K mg base 3 "normalized" spNorm [] := norm_cal T
  refine cal T (i := 78) (by decide +kernel) scPS (fun vs H Q E h => ?_) (fun _ _ _ _ _ _ us hl => match us, hl with | [_], _ => rfl) (fun cdv A outer s H vs Q E hr h => ?_)
  · obtain ⟨z, _, _, _, rfl, _⟩ := h
    rfl
  obtain ⟨x, l0, ls, ns, rfl, so, ok, q⟩ := h
  refine ⟨_, (pss_cons (ps_if (pt_val (C8.pe_c c_has_jumps hr (by omega) rfl (pa_cons (pv 0) pa_nil)))
(pss_cons (ps_asg (C8.pe_c c_parse_jumps hr (by omega) rfl (pa_cons (pv 0) pa_nil)) (pg_tup rfl (pgs_cons (pg_name (i := 1) scPS.nd rfl (.inl rfl)) (pgs_cons (pg_name (i := 2) scPS.nd rfl (.inl rfl)) pgs_nil))))
(pss_one (ps_expr (C8.pe_c c_check_doubles hr (by omega) rfl (pa_cons (pv 2) pa_nil)))))
(pss_one ps_never))
(pss_one (ps_ret (pe_tup (pa_cons (pv 1) (pa_cons (C8.pe_c c_normalized hr (by omega) rfl (pa_cons (pv 1) (pa_cons (pv 2) pa_nil))) pa_nil)))))), ?_⟩
  walk_at "go"
  refine ⟨x, l0, ls, ns, rfl, so, fun H1 s1 => ?_⟩
  walk_at "go"
  refine ⟨x, l0, ls, ns, rfl, so, fun q2 H2 nl us s2 hq2 hnl hpr => ?_⟩
  walk_at "go"
  refine ⟨nl, us, _, rfl, hnl, hpr, ok.nd, by have := ok.len; omega, fun H3 s3 => ?_⟩
  walk_at "go"
  refine ⟨nl, us, _, _, rfl, s3 _ _ hnl, paired_mono (fun _ _ h => h.s s3) hpr, ok, fun p vs' ms H4 s4 hp hpm k1 k2 k3 => ?_⟩
  walk_at "go"
  refine ⟨by show 2 ≤ sizeLine; decide, fun p9 n9 => ?_⟩
  have s9 : Same H4 (upd H4 p9 (.tup [.str (S x), .ref p])) := Same.newo n9 _
  exact q p9 p vs' ms _ (Same.trans s1 (Same.trans s2 (Same.trans s3 (Same.trans s4 s9)))) upd_same (s9 _ _ hp) (paired_mono (fun _ _ h => h.s s9) hpm) k1 k2 k3
end
end K5
end

section
set_option linter.all false
set_option maxRecDepth 100000
/-! text_at, expression_text. -/
namespace K5
open PySem PySem.Spec PyProof.Rows L2 SX
theorem lenA (x y : Str) : (x ++ y).length = x.length + y.length := by
  rw [TL.len_tl, TL.tl_append, List.length_append, ← TL.len_tl, ← TL.len_tl]
theorem r_jcons {t : TE} {ts : List TE} {acc : Str} {σ : L2.St} {H : Hp} {Q : Str → Hp → Prop} (h : t σ H fun x H1 => ∃ y : Str, x = .str y ∧ (acc ++ y).length ≤ sizeLine ∧ tJs ts (acc ++ y) σ H1 Q) : tJs (t :: ts) acc σ H Q := h
theorem r_jnil {acc : Str} {σ : L2.St} {H : Hp} {Q : Str → Hp → Prop} (h : Q acc H) : tJs [] acc σ H Q := h
theorem r_fmtE {te : TE} {σ : L2.St} {H : Hp} {Q : VK} (h : te σ H fun x H1 => (∃ y : Str, x = .str y ∧ y.length ≤ sizeLine ∧ Q (.str y) H1) ∨ ∃ i : Int, x = .int i ∧ i.natAbs.log2 < 1920 ∧ Q (.str (toString i)) H1) : tFmt te σ H Q := h
theorem r_fm {y : Str} {B : Str → Prop} {C : Int → Prop} (hl : y.length ≤ 100000) (h : B y) : (∃ y' : Str, V.str y = .str y' ∧ y'.length ≤ sizeLine ∧ B y') ∨ ∃ i : Int, V.str y = .int i ∧ i.natAbs.log2 < 1920 ∧ C i := .inl ⟨y, rfl, sz hl, h⟩
theorem r_jp {B : Str → Prop} {acc y : Str} (hl : acc.length + y.length ≤ 100000) (h : B y) : ∃ y' : Str, V.str y = .str y' ∧ (acc ++ y').length ≤ sizeLine ∧ B y' := ⟨y, rfl, by rw [lenA]; exact sz hl, h⟩
/-- str(x), x a whole number or a text -/
def rStrA : List V → Hp → VK → Prop := fun vs H Q => (∃ n : Nat, vs = [.int (n : Nat)] ∧ n ≤ 1000000 ∧ Q (.str (S (TL.numL n))) H) ∨ ∃ z, vs = [.str z] ∧ Q (.str z) H
theorem log_small {n : Nat} (h : n ≤ 1000000) : ((n : Nat) : Int).natAbs.log2 < 1920 := by
  rw [Int.natAbs_natCast]
  by_cases h0 : n = 0
  · subst h0; decide
  · exact (Nat.log2_lt h0).mpr (Nat.lt_of_le_of_lt h (Nat.lt_of_lt_of_le (by decide : 1000000 < 2 ^ 20) (Nat.pow_le_pow_right (by decide) (by decide))))
theorem call_strA {X : Cx} : CallR X (.type "str") rStrA := by
  intro pins s σ H xs us Q I r h
  rcases h with ⟨n, rfl, hn, q⟩ | ⟨z, rfl, q⟩
  · cases r with
    | cons ru rn =>
      cases rn
      obtain ⟨t, rfl⟩ := ru
      have e : (toString ((n : Nat) : Int) : Str) = S (TL.numL n) := num_S n
      exact PySem.P.str_of_int (log_small hn) ⟨.str _, H, I.tok _, ⟨_, rfl⟩, by rw [e]; exact q⟩
  · cases r with
    | cons ru rn =>
      cases rn
      obtain ⟨t, rfl⟩ := ru
      exact PySem.P.str_of_str ⟨.str z, H, I, ⟨t, rfl⟩, q⟩
theorem r_ixD {K : PySem.W.Frag} {w : World} {p : Addr} {z : Str} {v : V} {H : Hp} {Q : VK} (hd : KDct K w p z v) (h : Q v H) : rIxD K w (.ref p) (.str z) H Q := ⟨p, z, v, rfl, rfl, hd, h⟩
/- steps -/
local macro_rules | `(tactic| walk_at "sm") => `(tactic| first | assumption | exact Same.refl _ | (refine Same.mut ?_ (by assumption) _; walk_at "sm") | (refine Same.trans ?_ (Same.newo (by assumption) _); walk_at "sm") | (refine Same.trans ?_ (by assumption); walk_at "sm"))
local macro_rules | `(tactic| walk_at "hp") => `(tactic| first | assumption | exact upd_same | (refine up_new ?_ (by assumption) _; walk_at "hp") | (refine Same.up ?_ (by assumption) (by assumption); walk_at "sm") | (refine Same.look (by assumption) ?_; walk_at "hp"))
local macro_rules | `(tactic| walk_at "rep") => `(tactic| first | assumption | exact str_rep | exact int_rep | exact non_rep | (refine' Rep.s ?s ?h; (case h => assumption); (case s => walk_at "sm")))
local macro_rules | `(tactic| walk_at "if") => `(tactic| first | ((with_reducible refine' r_ifT ?e ?_); (case e => decide +kernel)) | ((with_reducible refine' r_ifF ?e ?_); (case e => decide +kernel)))
local macro_rules | `(tactic| walk_at "sz") => `(tactic| first | omega | decide | (simp only [List.length_map, List.length_append, List.length_cons, List.length_nil, List.length_take]; omega))
local macro_rules | `(tactic| walk_at "s") => `(tactic| first
  | with_reducible refine r_seq ?_ | with_reducible refine r_set ?_ | with_reducible refine r_asg ?_ | with_reducible refine r_ret ?_ | with_reducible refine r_drop ?_ | with_reducible refine r_next ?_ | with_reducible refine r_cont ?_ | with_reducible refine r_brk ?_
  | with_reducible refine r_if ?_ | with_reducible refine r_test ?_ | with_reducible refine r_tB ?_ | with_reducible refine r_bl ?_ | with_reducible refine r_and ?_ | with_reducible refine r_or ?_ | with_reducible refine r_not ?_
  | ((with_reducible refine' r_var ?e ?_); (case e => rfl)) | with_reducible refine r_c ?_ | with_reducible refine r_op ?_ | with_reducible refine r_un ?_ | with_reducible refine r_ifx ?_ | with_reducible refine r_andV ?_ | with_reducible refine r_orV ?_ | with_reducible refine r_notV ?_
  | with_reducible refine r_nil ?_ | with_reducible refine r_cons ?_ | with_reducible refine r_cb ?_ | with_reducible refine r_bm ?_ | with_reducible refine r_bm0 ?_ | with_reducible refine r_lst ?_ | with_reducible refine r_tup ?_ | with_reducible refine r_call ?_
  | with_reducible refine r_lc ?_ | with_reducible refine r_dc ?_ | with_reducible refine r_for ?_ | with_reducible refine r_iTup ?_ | with_reducible refine r_iList ?_ | with_reducible refine r_iEnum ?_ | with_reducible refine r_iRng1 ?_
  | with_reducible refine r_sl ?_ | with_reducible refine r_part ?_ | with_reducible refine r_nop ?_ | with_reducible refine r_int ?_ | with_reducible refine r_then ?_ | with_reducible refine r_yes ?_
  | with_reducible refine r_gname ?_ | with_reducible refine r_gcons ?_ | with_reducible refine r_gnil ?_
  | ((with_reducible refine' r_eq ?e ?_); (case e => rfl)) | ((with_reducible refine' r_ne ?e ?_); (case e => rfl)) | with_reducible refine r_I0 ?_
  | ((with_reducible refine' r_ixT0 ?e ?f ?_); (case e => walk_at "hp"); (case f => rfl)) | ((with_reducible refine' r_ixT1 ?e ?f ?_); (case e => walk_at "hp"); (case f => rfl)) | ((with_reducible refine' r_ixT2 ?e ?f ?_); (case e => walk_at "hp"); (case f => rfl)) | ((with_reducible refine' r_ixT3 ?e ?f ?_); (case e => walk_at "hp"); (case f => rfl)) | ((with_reducible refine' r_ixT4 ?e ?f ?_); (case e => walk_at "hp"); (case f => rfl)) | ((with_reducible refine' r_ixL0 ?e ?f ?_); (case e => walk_at "hp"); (case f => rfl)) | ((with_reducible refine' r_ixL1 ?e ?f ?_); (case e => walk_at "hp"); (case f => rfl)) | ((with_reducible refine' r_ixL2 ?e ?f ?_); (case e => walk_at "hp"); (case f => rfl)) | ((with_reducible refine' r_ixL3 ?e ?f ?_); (case e => walk_at "hp"); (case f => rfl)) | ((with_reducible refine' r_ixL4 ?e ?f ?_); (case e => walk_at "hp"); (case f => rfl))
  | ((with_reducible refine' r_ixT ?e ?f ?_); (case e => walk_at "hp"); (case f => rfl)) | ((with_reducible refine' r_ixL ?e ?f ?_); (case e => walk_at "hp"); (case f => rfl))
  | ((with_reducible refine' r_append ?e ?f ?_); (case e => walk_at "hp"); (case f => walk_at "sz")) | ((with_reducible refine' r_extend ?e ?e2 ?f ?_); (case e => walk_at "hp"); (case e2 => walk_at "hp"); (case f => walk_at "sz"))
  | with_reducible refine r_fldE ?_ | with_reducible refine r_methE ?_ | with_reducible refine r_make ?_ | with_reducible refine r_sfld ?_ | with_reducible refine r_iEnumT ?_ | with_reducible refine r_inSg ?_ | with_reducible refine r_ninSg ?_ | with_reducible refine r_bmfE ?_ | with_reducible refine r_dget1 ?_ | with_reducible refine r_chain ?_ | with_reducible refine r_jcons ?_ | with_reducible refine r_jnil ?_ | with_reducible refine r_fmtE ?_ | with_reducible refine r_lockE ?_ | with_reducible refine r_iKeys ?_ | with_reducible refine r_tupFE ?_ | with_reducible refine r_m1E ?_ | with_reducible refine r_m0E ?_ | with_reducible refine r_sfa ?_ | with_reducible refine r_rAdd ?_
  | with_reducible refine r_dgetE ?_ | with_reducible refine r_dinE ?_ | with_reducible refine r_dninE ?_ | with_reducible refine r_dputE ?_ | with_reducible refine r_dnew ?_ | with_reducible refine r_neg ?_
  | ((with_reducible refine' r_truL ?e ?_); (case e => walk_at "hp"))
  | ((with_reducible refine' r_gtup ?e ?f ?_); (case e => walk_at "hp"); (case f => rfl))
  | ((with_reducible refine' r_tyL ?e ?_); (case e => walk_at "hp")) | walk_at "if")
local macro_rules | `(tactic| walk_at "go") => `(tactic| repeat walk_at "s")
/- steps end -/
/-- a bound of a text's length -/
def xl : Xp → Nat
  | .var x => x.length
  | .num n => (TL.numL n).length
  | .op _ l r => xl l + xl r + 5
/-- numbers are small -/
def XNum : Xp → Prop
  | .var _ => True
  | .num n => n ≤ 1000000
  | .op _ l r => XNum l ∧ XNum r
def spText (n : Nat) : Sp := fun vs H Q _ => ∃ (ev : V) (e : Xp) (lv : Int), vs = [ev, .int lv] ∧ Rep H (xD e) ev ∧ XOk e ∧ XNum e ∧ hgt e ≤ n ∧ xl e ≤ 10000 ∧ ∀ z H', Same H H' → z.length ≤ xl e → Q (.str z) H'
def spEText : Sp := fun vs H Q _ => ∃ (ev : V) (e : Xp), vs = [ev] ∧ Rep H (xD e) ev ∧ XOk e ∧ XNum e ∧ hgt e ≤ 3 ∧ xl e ≤ 10000 ∧ ∀ z H', Same H H' → z.length ≤ xl e → Q (.str z) H'
section
variable {P : PySem.Program} {w : World} {K : PySem.W.Frag} {mg : Str → Option Value} {base : Heap}
theorem scText : FnScope ["expression", "level", "sign", "left", "right", "own", "first", "text"] ["expression", "level"] (defScope (top 41)) := ⟨rfl, rfl, rfl, by decide +kernel, rfl, by decide +kernel, by decide +kernel⟩
theorem text_step (T : Tx w K mg) (n : Nat) (c_text_at : C8.Cal P w K mg base n "text_at" (spText n) []) : C8.Cal P w K mg base (n + 1) "text_at" (spText (n + 1)) [] := by
  have g_LEVELS : ∃ u, mg "LEVELS" = some u ∧ RelV (.ref (He.ga K "LEVELS")) u := ⟨_, T.lv.1, rfl⟩
  have m_str := T.free "str" (by decide +kernel)
  refine cal T (i := 41) (by decide +kernel) scText (fun vs H Q E h => ?_) (fun _ _ _ _ _ _ us hl => match us, hl with | [_, _], _ => rfl) (fun cdv A outer s H vs Q E hr h => ?_)
  · obtain ⟨z, _, _, rfl, _⟩ := h
    rfl
  obtain ⟨ev, e, lv, rfl, he, hx, hxn, hh, hxl, q⟩ := h
  refine ⟨_, (pss_cons (ps_if (pt_cmpR op_in_seq (pe_ix ix_tup (pv 0) pe_int (fun _ _ => rfl)) (pe_tup (pa_cons pe_str (pa_cons pe_str pa_nil))) rfl)
(pss_one (ps_ret (pe_callTy call_strA rfl m_str PyProof.Rows.boot_str (pa_cons (pe_ix ix_tup (pv 0) pe_int (fun _ _ => rfl)) pa_nil))))
pss_nil)
(pss_cons (ps_asg (pv 0) (pg_tup rfl (pgs_cons (pg_name (i := 2) scText.nd rfl (.inl rfl)) (pgs_cons (pg_name (i := 3) scText.nd rfl (.inl rfl)) (pgs_cons (pg_name (i := 4) scText.nd rfl (.inl rfl)) pgs_nil)))))
(pss_cons (ps_set (i := 5) scText.nd rfl (.inl rfl) (pe_ix ix_kdict (C8.pe_gc rfl g_LEVELS) (pv 2) (fun _ _ => rfl)))
(pss_cons (ps_set (i := 6) scText.nd rfl (.inl rfl) (pe_ifExp (pt_cmpR op_eq (pv 5) pe_int (nomark _)) pe_int (pv 5)))
(pss_cons (ps_set (i := 7) scText.nd rfl (.inl rfl) (pe_joined (.cons (pe_fmt (C8.pe_c c_text_at hr (by omega) rfl (pa_cons (pv 3) (pa_cons (pv 6) pa_nil)))) (.cons pe_str (.cons (pe_fmt (pv 2)) (.cons pe_str (.cons (pe_fmt (C8.pe_c c_text_at hr (by omega) rfl (pa_cons (pv 4) (pa_cons (pe_op op_add (pv 5) pe_int) pa_nil)))) .nil)))))))
(pss_cons (ps_if (pt_cmpR op_lt (pv 5) (pv 1) (nomark _))
(pss_one (ps_ret (pe_op op_catS (pe_op op_catS pe_str (pv 7)) pe_str)))
pss_nil)
(pss_one (ps_ret (pv 7))))))))), ?_⟩
  cases e with
  | var x =>
    obtain ⟨p, xs, rfl, hp, hr⟩ := rep_tup he
    obtain ⟨x1, r1, rfl, h1, hr⟩ := cons_reps hr
    obtain ⟨x2, r2, rfl, h2, hr⟩ := cons_reps hr
    obtain rfl := nil_reps hr
    obtain rfl := rep_str h1
    obtain rfl := rep_str h2
    walk_at "go"
    refine ⟨by show 2 ≤ sizeLine; decide, fun p2 n2 => ?_⟩
    refine r_inTs (zs := ["number", "variable"]) upd_same ?_
    walk_at "go"
    refine .inr ⟨S x, rfl, ?_⟩
    exact q _ _ (Same.newo n2 _) (by rw [S_len]; exact Nat.le_refl _)
  | num k =>
    obtain ⟨p, xs, rfl, hp, hr⟩ := rep_tup he
    obtain ⟨x1, r1, rfl, h1, hr⟩ := cons_reps hr
    obtain ⟨x2, r2, rfl, h2, hr⟩ := cons_reps hr
    obtain rfl := nil_reps hr
    obtain rfl := rep_str h1
    obtain rfl := rep_int h2
    walk_at "go"
    refine ⟨by show 2 ≤ sizeLine; decide, fun p2 n2 => ?_⟩
    refine r_inTs (zs := ["number", "variable"]) upd_same ?_
    walk_at "go"
    refine .inl ⟨k, rfl, hxn, ?_⟩
    exact q _ _ (Same.newo n2 _) (by rw [S_len]; exact Nat.le_refl _)
  | op c l r =>
    obtain ⟨p, xs, rfl, hp, hr⟩ := rep_tup he
    obtain ⟨x1, r1, rfl, h1, hr⟩ := cons_reps hr
    obtain ⟨x2, r2, rfl, h2, hr⟩ := cons_reps hr
    obtain ⟨x3, r3, rfl, h3, hr⟩ := cons_reps hr
    obtain rfl := nil_reps hr
    obtain rfl := rep_str h1
    have hc := hx.1
    have hhl : hgt l ≤ n ∧ hgt r ≤ n := by simp only [hgt] at hh; omega
    have hxlr : xl l + xl r + 5 ≤ 10000 := hxl
    obtain ⟨i, hi, hi2⟩ : ∃ i : Int, KDct K w (He.ga K "LEVELS") (S [c]) (.int i) ∧ (S [c] : Str) ∉ (["number", "variable"] : List Str) := by
      have e1 : (S [43] : Str) = "+" := TL.ext_tl (by decide +kernel)
      have e2 : (S [45] : Str) = "-" := TL.ext_tl (by decide +kernel)
      have e3 : (S [42] : Str) = "*" := TL.ext_tl (by decide +kernel)
      have e4 : (S [61] : Str) = "=" := TL.ext_tl (by decide +kernel)
      have e5 : (S [60] : Str) = "<" := TL.ext_tl (by decide +kernel)
      rcases hc with rfl | rfl | rfl | rfl | rfl
      · rw [e1]; exact ⟨1, T.lv.2 ("+", 1) (by decide +kernel), by decide +kernel⟩
      · rw [e2]; exact ⟨1, T.lv.2 ("-", 1) (by decide +kernel), by decide +kernel⟩
      · rw [e3]; exact ⟨2, T.lv.2 ("*", 2) (by decide +kernel), by decide +kernel⟩
      · rw [e4]; exact ⟨0, T.lv.2 ("=", 0) (by decide +kernel), by decide +kernel⟩
      · rw [e5]; exact ⟨0, T.lv.2 ("<", 0) (by decide +kernel), by decide +kernel⟩
    walk_at "go"
    refine ⟨by show 2 ≤ sizeLine; decide, fun p2 n2 => ?_⟩
    refine r_inTs (zs := ["number", "variable"]) upd_same ?_
    rw [decide_eq_false hi2]
    have s2 : Same H (upd H p2 (.tup [.str "number", .str "variable"])) := Same.newo n2 _
    have hp2 := s2 _ _ hp
    generalize upd H p2 (.tup [.str "number", .str "variable"]) = H2 at s2 hp2 ⊢
    walk_at "go"
    refine r_ixD hi ?_
    have tail : ∀ lv1 : Int, tSeq (tAsg (fun σ H Q => tJs [tFmt (tCall (spText n) [] C8.E0 (tCons (tVar 3) (tCons (tVar 6) tNil))), tC (.str " "), tFmt (tVar 2), tC (.str " "), tFmt (tCall (spText n) [] C8.E0 (tCons (tVar 4) (tCons (tOp (rI0 fun i j => .int (i + j)) (tVar 5) (tC (.int 1))) tNil)))] Str.empty σ H fun out H1 => Q (.str out) H1) (gName 7))
        (tSeq (tIfS (tTest (tOp (rI0 fun i j => .bl (decide (i < j))) (tVar 5) (tVar 1))) (tRet (tOp rCatS (tOp rCatS (tC (.str "(")) (tVar 7)) (tC (.str ")")))) tNext) (tRet (tVar 7))) { nx := fun _ H' => Q .non H', rt := Q }
        [some (.ref p), some (.int lv), some (.str (S [c])), some x2, some x3, some (.int i), some (.int lv1), none] H2 := by
      intro lv1
      walk_at "go"
      refine ⟨x2, l, lv1, rfl, h2.s s2, hx.2.1, hxn.1, hhl.1, by omega, fun z1 H3 s3 hz1 => ?_⟩
      refine r_fm (y := z1) (by omega) ?_
      refine r_jp (Nat.le_trans (Nat.le_of_eq (Nat.zero_add _)) (by omega)) ?_
      have l1 : (Str.empty ++ z1).length = z1.length := by rw [lenA]; exact Nat.zero_add _
      generalize Str.empty ++ z1 = a1 at l1 ⊢
      walk_at "go"
      have k1 : (" " : Str).length = 1 := by decide +kernel
      refine r_jp (by omega) ?_
      have l2 : (a1 ++ (" " : Str)).length = a1.length + 1 := by rw [lenA, k1]
      generalize a1 ++ (" " : Str) = a2 at l2 ⊢
      walk_at "go"
      refine r_fm (by rw [S_len]; simp) ?_
      refine r_jp (acc := a2) (y := S [c]) (by have h9 : (S [c]).length = 1 := rfl; omega) ?_
      have l3 : (a2 ++ S [c]).length = a2.length + 1 := by rw [lenA, S_len]; rfl
      generalize a2 ++ S [c] = a3 at l3 ⊢
      walk_at "go"
      refine r_jp (by omega) ?_
      have l4 : (a3 ++ (" " : Str)).length = a3.length + 1 := by rw [lenA, k1]
      generalize a3 ++ (" " : Str) = a4 at l4 ⊢
      walk_at "go"
      refine ⟨x3, r, _, rfl, h3.s (Same.trans s2 s3), hx.2.2, hxn.2, hhl.2, by omega, fun z5 H5 s5 hz5 => ?_⟩
      refine r_fm (by omega) ?_
      refine r_jp (by omega) ?_
      have l5 : (a4 ++ z5).length = a4.length + z5.length := lenA _ _
      generalize a4 ++ z5 = a5 at l5 ⊢
      have s6 : Same H H5 := Same.trans s2 (Same.trans s3 s5)
      walk_at "go"
      have k2 : ("(" : Str).length = 1 := by decide +kernel
      have k3 : (")" : Str).length = 1 := by decide +kernel
      refine r_if2 (fun hb => ?_) (fun hb => ?_)
      · walk_at "go"
        refine r_catZ (by omega) ?_
        walk_at "go"
        refine r_catZ (by rw [lenA]; omega) ?_
        exact q _ _ s6 (by rw [lenA, lenA]; show _ ≤ xl l + xl r + 5; omega)
      · walk_at "go"
        exact q _ _ s6 (by show _ ≤ xl l + xl r + 5; omega)
    walk_at "go"
    refine r_if2 (fun hb => ?_) (fun hb => ?_)
    · exact tail 1
    · refine r_var rfl ?_
      exact tail i
theorem text_cal (T : Tx w K mg) : ∀ n : Nat, C8.Cal P w K mg base n "text_at" (spText n) []
  | 0 => cal_no T (i := 41) (ps := ["expression", "level"]) (by decide +kernel) (fun _ _ _ _ _ _ us hl => match us, hl with | [_, _], _ => rfl) fun vs H Q E h => by
    obtain ⟨_, e, _, _, _, _, _, h0, _⟩ := h
    have := hgt_pos e
    omega
  | n + 1 => text_step T n (text_cal T n)
theorem scEText : FnScope ["expression"] ["expression"] (defScope (top 42)) := ⟨rfl, rfl, rfl, by decide +kernel, rfl, by decide +kernel, by decide +kernel⟩
theorem etext_cal (T : Tx w K mg) : C8.Cal P w K mg base 4 "expression_text" spEText [] := by
  have c_text_at : C8.Cal P w K mg base 3 "text_at" (spText 3) [] := text_cal T 3
  refine cal T (i := 42) (by decide +kernel) scEText (fun vs H Q E h => ?_) (fun _ _ _ _ _ _ us hl => match us, hl with | [_], _ => rfl) (fun cdv A outer s H vs Q E hr h => ?_)
  · obtain ⟨z, _, rfl, _⟩ := h
    rfl
  obtain ⟨ev, e, rfl, he, hx, hxn, hh, hxl, q⟩ := h
  refine ⟨_, (pss_one (ps_ret (C8.pe_c c_text_at hr (by omega) rfl (pa_cons (pv 0) (pa_cons pe_int pa_nil))))), ?_⟩
  walk_at "go"
  exact ⟨ev, e, 0, rfl, he, hx, hxn, hh, hxl, q⟩
end
end K5
end

section
set_option linter.all false
set_option maxRecDepth 100000
/-! deed_text, node_text, jumps_text. -/
namespace K5
open PySem PySem.Spec PyProof.Rows L2 SX
/- steps -/
local macro_rules | `(tactic| walk_at "sm") => `(tactic| first | assumption | exact Same.refl _ | (refine Same.mut ?_ (by assumption) _; walk_at "sm") | (refine Same.trans ?_ (Same.newo (by assumption) _); walk_at "sm") | (refine Same.trans ?_ (by assumption); walk_at "sm"))
local macro_rules | `(tactic| walk_at "hp") => `(tactic| first | assumption | exact upd_same | (refine up_new ?_ (by assumption) _; walk_at "hp") | (refine Same.up ?_ (by assumption) (by assumption); walk_at "sm") | (refine Same.look (by assumption) ?_; walk_at "hp"))
local macro_rules | `(tactic| walk_at "rep") => `(tactic| first | assumption | exact str_rep | exact int_rep | exact non_rep | (refine' Rep.s ?s ?h; (case h => assumption); (case s => walk_at "sm")))
local macro_rules | `(tactic| walk_at "if") => `(tactic| first | ((with_reducible refine' r_ifT ?e ?_); (case e => decide +kernel)) | ((with_reducible refine' r_ifF ?e ?_); (case e => decide +kernel)))
local macro_rules | `(tactic| walk_at "sz") => `(tactic| first | omega | decide | (simp only [List.length_map, List.length_append, List.length_cons, List.length_nil, List.length_take]; omega))
local macro_rules | `(tactic| walk_at "s") => `(tactic| first
  | with_reducible refine r_seq ?_ | with_reducible refine r_set ?_ | with_reducible refine r_asg ?_ | with_reducible refine r_ret ?_ | with_reducible refine r_drop ?_ | with_reducible refine r_next ?_ | with_reducible refine r_cont ?_ | with_reducible refine r_brk ?_
  | with_reducible refine r_if ?_ | with_reducible refine r_test ?_ | with_reducible refine r_tB ?_ | with_reducible refine r_bl ?_ | with_reducible refine r_and ?_ | with_reducible refine r_or ?_ | with_reducible refine r_not ?_
  | ((with_reducible refine' r_var ?e ?_); (case e => rfl)) | with_reducible refine r_c ?_ | with_reducible refine r_op ?_ | with_reducible refine r_un ?_ | with_reducible refine r_ifx ?_ | with_reducible refine r_andV ?_ | with_reducible refine r_orV ?_ | with_reducible refine r_notV ?_
  | with_reducible refine r_nil ?_ | with_reducible refine r_cons ?_ | with_reducible refine r_cb ?_ | with_reducible refine r_bm ?_ | with_reducible refine r_bm0 ?_ | with_reducible refine r_lst ?_ | with_reducible refine r_tup ?_ | with_reducible refine r_call ?_
  | with_reducible refine r_lc ?_ | with_reducible refine r_dc ?_ | with_reducible refine r_for ?_ | with_reducible refine r_iTup ?_ | with_reducible refine r_iList ?_ | with_reducible refine r_iEnum ?_ | with_reducible refine r_iRng1 ?_
  | with_reducible refine r_sl ?_ | with_reducible refine r_part ?_ | with_reducible refine r_nop ?_ | with_reducible refine r_int ?_ | with_reducible refine r_then ?_ | with_reducible refine r_yes ?_
  | with_reducible refine r_gname ?_ | with_reducible refine r_gcons ?_ | with_reducible refine r_gnil ?_
  | ((with_reducible refine' r_eq ?e ?_); (case e => rfl)) | ((with_reducible refine' r_ne ?e ?_); (case e => rfl)) | with_reducible refine r_I0 ?_
  | ((with_reducible refine' r_ixT0 ?e ?f ?_); (case e => walk_at "hp"); (case f => rfl)) | ((with_reducible refine' r_ixT1 ?e ?f ?_); (case e => walk_at "hp"); (case f => rfl)) | ((with_reducible refine' r_ixT2 ?e ?f ?_); (case e => walk_at "hp"); (case f => rfl)) | ((with_reducible refine' r_ixT3 ?e ?f ?_); (case e => walk_at "hp"); (case f => rfl)) | ((with_reducible refine' r_ixT4 ?e ?f ?_); (case e => walk_at "hp"); (case f => rfl)) | ((with_reducible refine' r_ixL0 ?e ?f ?_); (case e => walk_at "hp"); (case f => rfl)) | ((with_reducible refine' r_ixL1 ?e ?f ?_); (case e => walk_at "hp"); (case f => rfl)) | ((with_reducible refine' r_ixL2 ?e ?f ?_); (case e => walk_at "hp"); (case f => rfl)) | ((with_reducible refine' r_ixL3 ?e ?f ?_); (case e => walk_at "hp"); (case f => rfl)) | ((with_reducible refine' r_ixL4 ?e ?f ?_); (case e => walk_at "hp"); (case f => rfl))
  | ((with_reducible refine' r_ixT ?e ?f ?_); (case e => walk_at "hp"); (case f => rfl)) | ((with_reducible refine' r_ixL ?e ?f ?_); (case e => walk_at "hp"); (case f => rfl))
  | ((with_reducible refine' r_append ?e ?f ?_); (case e => walk_at "hp"); (case f => walk_at "sz")) | ((with_reducible refine' r_extend ?e ?e2 ?f ?_); (case e => walk_at "hp"); (case e2 => walk_at "hp"); (case f => walk_at "sz"))
  | with_reducible refine r_fldE ?_ | with_reducible refine r_methE ?_ | with_reducible refine r_make ?_ | with_reducible refine r_sfld ?_ | with_reducible refine r_iEnumT ?_ | with_reducible refine r_inSg ?_ | with_reducible refine r_ninSg ?_ | with_reducible refine r_bmfE ?_ | with_reducible refine r_dget1 ?_ | with_reducible refine r_chain ?_ | with_reducible refine r_jcons ?_ | with_reducible refine r_jnil ?_ | with_reducible refine r_fmtE ?_ | with_reducible refine r_lockE ?_ | with_reducible refine r_iKeys ?_ | with_reducible refine r_tupFE ?_ | with_reducible refine r_m1E ?_ | with_reducible refine r_m0E ?_ | with_reducible refine r_sfa ?_ | with_reducible refine r_rAdd ?_
  | with_reducible refine r_dgetE ?_ | with_reducible refine r_dinE ?_ | with_reducible refine r_dninE ?_ | with_reducible refine r_dputE ?_ | with_reducible refine r_dnew ?_ | with_reducible refine r_neg ?_
  | ((with_reducible refine' r_truL ?e ?_); (case e => walk_at "hp"))
  | ((with_reducible refine' r_gtup ?e ?f ?_); (case e => walk_at "hp"); (case f => rfl))
  | ((with_reducible refine' r_tyL ?e ?_); (case e => walk_at "hp")) | walk_at "if")
local macro_rules | `(tactic| walk_at "go") => `(tactic| repeat walk_at "s")
/- steps end -/
/-- the node's text can be written -/
def TxOk (n : Nod) : Prop := ∃ d : Dd, n.k = d.k ∧ n.r = d.r ∧ DdOk d ∧ XNum d.x ∧ xl d.x ≤ 1000 ∧ (∀ x e, d = .set x e → x.length ≤ 100) ∧ n.l.length ≤ 100 ∧ (∀ t ∈ n.tg, t.length ≤ 100)
def spDText : Sp := fun vs H Q _ => ∃ (dv : V) (d : Dd), vs = [dv] ∧ Rep H (.tup (.str d.k :: d.r)) dv ∧ DdOk d ∧ XNum d.x ∧ xl d.x ≤ 1000 ∧ (∀ x e, d = .set x e → x.length ≤ 100) ∧ ∀ z H', Same H H' → z.length ≤ 1200 → Q (.str z) H'
def spNText : Sp := fun vs H Q _ => ∃ (v : V) (n : Nod), vs = [v] ∧ NdAt H n v ∧ TxOk n ∧ ((∃ t0 t1, n.tg = [t0, t1]) ∨ ∃ t0, n.tg = [t0]) ∧ ∀ z H', Same H H' → z.length ≤ 2000 → Q (.str z) H'
def spJText : Sp := fun vs H Q _ => ∃ (en : Str) (t : Addr) (ts : List V) (ns : List Nod), vs = [.str en, .ref t] ∧ H t = some (.tup ts) ∧ Paired (NdAt H) ns ts ∧ NsOk en ns ∧ (∀ n ∈ ns, TxOk n) ∧ en.length ≤ 100 ∧ ∀ z H', Same H H' → Q (.str z) H'
theorem le0 (z : Str) : (Str.empty ++ z).length = z.length := by rw [lenA]; exact Nat.zero_add _
section
variable {P : PySem.Program} {w : World} {K : PySem.W.Frag} {mg : Str → Option Value} {base : Heap}
theorem scDText : FnScope ["deed"] ["deed"] (defScope (top 54)) := ⟨rfl, rfl, rfl, by decide +kernel, rfl, by decide +kernel, by decide +kernel⟩
theorem dtext_cal (T : Tx w K mg) : C8.Cal P w K mg base 5 "deed_text" spDText [] := by
  have c_expression_text : C8.Cal P w K mg base 4 "expression_text" spEText [] := etext_cal T
  refine cal T (i := 54) (by decide +kernel) scDText (fun vs H Q E h => ?_) (fun _ _ _ _ _ _ us hl => match us, hl with | [_], _ => rfl) (fun cdv A outer s H vs Q E hr h => ?_)
  · obtain ⟨z, _, rfl, _⟩ := h
    rfl
  obtain ⟨dv, d, rfl, hd, ok, hxn, hxl, hxs, q⟩ := h
  refine ⟨_, (pss_cons (ps_if (pt_cmpR op_eq (pe_ix ix_tup (pv 0) pe_int (fun _ _ => rfl)) pe_str (nomark _))
(pss_one (ps_ret (pe_joined (.cons (pe_fmt (pe_ix ix_tup (pv 0) pe_int (fun _ _ => rfl))) (.cons pe_str (.cons (pe_fmt (C8.pe_c c_expression_text hr (by omega) rfl (pa_cons (pe_ix ix_tup (pv 0) pe_int (fun _ _ => rfl)) pa_nil))) .nil))))))
pss_nil)
(pss_one (ps_ret (pe_joined (.cons (pe_fmt (pe_ix ix_tup (pv 0) pe_int (fun _ _ => rfl))) (.cons pe_str (.cons (pe_fmt (C8.pe_c c_expression_text hr (by omega) rfl (pa_cons (pe_ix ix_tup (pv 0) pe_int (fun _ _ => rfl)) pa_nil))) .nil))))))), ?_⟩
  obtain ⟨p, xs, rfl, hp, ha0⟩ := rep_tup hd
  obtain ⟨x1, r1, rfl, h1, ha1⟩ := cons_reps ha0
  obtain rfl := rep_str h1
  cases d with
  | set x e =>
    obtain ⟨x2, r2, rfl, h2, ha2⟩ := cons_reps ha1
    obtain ⟨x3, r3, rfl, h3, ha3⟩ := cons_reps ha2
    obtain rfl := nil_reps ha3
    obtain rfl := rep_str h2
    replace hp : H p = some (.tup [.str "set", .str (S x), x3]) := hp
    have hx1 := hxs x e rfl
    replace hxl : xl e ≤ 1000 := hxl
    walk_at "go"
    refine r_fm (y := S x) (by rw [S_len]; omega) ?_
    refine r_jp (acc := Str.empty) (y := S x) (Nat.le_trans (Nat.le_of_eq (Nat.zero_add _)) (by rw [S_len]; omega)) ?_
    have l1 : (Str.empty ++ S x).length = x.length := by rw [le0, S_len]
    generalize Str.empty ++ S x = a1 at l1 ⊢
    have k1 : (" = " : Str).length = 3 := by decide +kernel
    walk_at "go"
    refine r_jp (acc := a1) (y := " = ") (by omega) ?_
    have l2 : (a1 ++ (" = " : Str)).length = a1.length + 3 := by rw [lenA, k1]
    generalize a1 ++ (" = " : Str) = a2 at l2 ⊢
    walk_at "go"
    refine ⟨x3, e, rfl, h3, ok.1, hxn, ok.2.1, by omega, fun z H1 s1 hz => ?_⟩
    refine r_fm (y := z) (by omega) ?_
    refine r_jp (acc := a2) (y := z) (by omega) ?_
    exact q _ H1 s1 (by rw [lenA]; omega)
  | prt e =>
    obtain ⟨x2, r2, rfl, h2, ha2⟩ := cons_reps ha1
    obtain rfl := nil_reps ha2
    replace hp : H p = some (.tup [.str "print", x2]) := hp
    replace hxl : xl e ≤ 1000 := hxl
    walk_at "go"
    refine r_fm (y := "print") (by decide +kernel) ?_
    refine r_jp (acc := Str.empty) (y := "print") (by decide +kernel) ?_
    have l1 : (Str.empty ++ ("print" : Str)).length = 5 := by rw [le0]; decide +kernel
    generalize Str.empty ++ ("print" : Str) = a1 at l1 ⊢
    have k1 : (" " : Str).length = 1 := by decide +kernel
    walk_at "go"
    refine r_jp (acc := a1) (y := " ") (by omega) ?_
    have l2 : (a1 ++ (" " : Str)).length = a1.length + 1 := by rw [lenA, k1]
    generalize a1 ++ (" " : Str) = a2 at l2 ⊢
    walk_at "go"
    refine ⟨x2, e, rfl, h2, ok.1, hxn, ok.2.1, by omega, fun z H1 s1 hz => ?_⟩
    refine r_fm (y := z) (by omega) ?_
    refine r_jp (acc := a2) (y := z) (by omega) ?_
    exact q _ H1 s1 (by rw [lenA]; omega)
  | iff e =>
    obtain ⟨x2, r2, rfl, h2, ha2⟩ := cons_reps ha1
    obtain rfl := nil_reps ha2
    replace hp : H p = some (.tup [.str "if", x2]) := hp
    replace hxl : xl e ≤ 1000 := hxl
    walk_at "go"
    refine r_fm (y := "if") (by decide +kernel) ?_
    refine r_jp (acc := Str.empty) (y := "if") (by decide +kernel) ?_
    have l1 : (Str.empty ++ ("if" : Str)).length = 2 := by rw [le0]; decide +kernel
    generalize Str.empty ++ ("if" : Str) = a1 at l1 ⊢
    have k1 : (" " : Str).length = 1 := by decide +kernel
    walk_at "go"
    refine r_jp (acc := a1) (y := " ") (by omega) ?_
    have l2 : (a1 ++ (" " : Str)).length = a1.length + 1 := by rw [lenA, k1]
    generalize a1 ++ (" " : Str) = a2 at l2 ⊢
    walk_at "go"
    refine ⟨x2, e, rfl, h2, ok.1, hxn, ok.2.1, by omega, fun z H1 s1 hz => ?_⟩
    refine r_fm (y := z) (by omega) ?_
    refine r_jp (acc := a2) (y := z) (by omega) ?_
    exact q _ H1 s1 (by rw [lenA]; omega)
theorem scNText : FnScope ["node", "label", "deed", "targets", "text"] ["node"] (defScope (top 55)) := ⟨rfl, rfl, rfl, by decide +kernel, rfl, by decide +kernel, by decide +kernel⟩
theorem ntext_cal (T : Tx w K mg) : C8.Cal P w K mg base 6 "node_text" spNText [] := by
  have c_deed_text : C8.Cal P w K mg base 5 "deed_text" spDText [] := dtext_cal T
  have m_len := T.free "len" (by decide +kernel)
  refine cal T (i := 55) (by decide +kernel) scNText (fun vs H Q E h => ?_) (fun _ _ _ _ _ _ us hl => match us, hl with | [_], _ => rfl) (fun cdv A outer s H vs Q E hr h => ?_)
  · obtain ⟨z, _, rfl, _⟩ := h
    rfl
  obtain ⟨v, n, rfl, hn, ⟨d, hk, hrr, ok, hxn, hxl, hxs, hll, htl⟩, hsh, q⟩ := h
  refine ⟨_, (pss_cons (ps_asg (pv 0) (pg_tup rfl (pgs_cons (pg_name (i := 1) scNText.nd rfl (.inl rfl)) (pgs_cons (pg_name (i := 2) scNText.nd rfl (.inl rfl)) (pgs_cons (pg_name (i := 3) scNText.nd rfl (.inl rfl)) pgs_nil)))))
(pss_cons (ps_set (i := 4) scNText.nd rfl (.inl rfl) (pe_joined (.cons (pe_fmt (pv 1)) (.cons pe_str (.cons (pe_fmt (C8.pe_c c_deed_text hr (by omega) rfl (pa_cons (pv 2) pa_nil))) (.cons pe_str (.cons (pe_fmt (pe_ix ix_tup (pv 3) pe_int (fun _ _ => rfl))) .nil)))))))
(pss_cons (ps_if (pt_cmpR op_eq (pe_callB call_len_seq rfl m_len PySem.boot_len (pa_cons (pv 3) pa_nil)) pe_int (nomark _))
(pss_one (ps_set (i := 4) scNText.nd rfl (.inl rfl) (pe_op op_catS (pv 4) (pe_joined (.cons pe_str (.cons (pe_fmt (pe_ix ix_tup (pv 3) pe_int (fun _ _ => rfl))) .nil))))))
pss_nil)
(pss_one (ps_ret (pv 4)))))), ?_⟩
  obtain ⟨p, tt, dv, rfl, hp, hd, ob, ht1, ht2⟩ := hn
  rw [hk, hrr] at hd
  obtain ⟨t0, rest, htg⟩ : ∃ t0 rest, n.tg = t0 :: rest := by
    rcases hsh with ⟨t0, t1, e⟩ | ⟨t0, e⟩ <;> exact ⟨_, _, e⟩
  have ht0 : t0.length ≤ 100 := htl t0 (by rw [htg]; simp)
  walk_at "go"
  refine r_fm (y := n.l) (by omega) ?_
  refine r_jp (acc := Str.empty) (y := n.l) (Nat.le_trans (Nat.le_of_eq (Nat.zero_add _)) (by omega)) ?_
  have l1 : (Str.empty ++ n.l).length = n.l.length := le0 _
  generalize Str.empty ++ n.l = a1 at l1 ⊢
  have k1 : (": " : Str).length = 2 := by decide +kernel
  walk_at "go"
  refine r_jp (acc := a1) (y := ": ") (by omega) ?_
  have l2 : (a1 ++ (": " : Str)).length = a1.length + 2 := by rw [lenA, k1]
  generalize a1 ++ (": " : Str) = a2 at l2 ⊢
  walk_at "go"
  refine ⟨dv, d, rfl, hd, ok, hxn, hxl, hxs, fun z H1 s1 hz => ?_⟩
  refine r_fm (y := z) (by omega) ?_
  refine r_jp (acc := a2) (y := z) (by omega) ?_
  have l3 : (a2 ++ z).length = a2.length + z.length := lenA _ _
  generalize a2 ++ z = a3 at l3 ⊢
  have k2 : (" goto " : Str).length = 6 := by decide +kernel
  walk_at "go"
  refine r_jp (acc := a3) (y := " goto ") (by omega) ?_
  have l4 : (a3 ++ (" goto " : Str)).length = a3.length + 6 := by rw [lenA, k2]
  generalize a3 ++ (" goto " : Str) = a4 at l4 ⊢
  have hsq : SqT K H1 tt (n.tg.map V.str) := .inl (.inr ⟨ob, s1 _ _ ht1⟩)
  walk_at "go"
  refine ⟨tt, _, 0, .str t0, rfl, rfl, hsq, atI_nat (j := 0) (by rw [htg]; rfl), ?_⟩
  refine r_fm (y := t0) (by omega) ?_
  refine r_jp (acc := a4) (y := t0) (by omega) ?_
  have l5 : (a4 ++ t0).length = a4.length + t0.length := lenA _ _
  generalize a4 ++ t0 = a5 at l5 ⊢
  walk_at "go"
  refine ⟨tt, _, rfl, .inr hsq, ?_⟩
  rw [List.length_map]
  walk_at "go"
  rcases hsh with ⟨t0', t1, e⟩ | ⟨t0', e⟩
  · have ht1' : t1.length ≤ 100 := htl t1 (by rw [e]; simp)
    rw [e, show ([t0', t1] : List Str).length = 2 from rfl]
    walk_at "go"
    have k3 : (" else " : Str).length = 6 := by decide +kernel
    refine r_jp (acc := Str.empty) (y := " else ") (by decide +kernel) ?_
    have l6 : (Str.empty ++ (" else " : Str)).length = 6 := by rw [le0, k3]
    generalize Str.empty ++ (" else " : Str) = b1 at l6 ⊢
    rw [e] at hsq
    walk_at "go"
    refine ⟨tt, _, 1, .str t1, rfl, rfl, hsq, atI_nat (j := 1) rfl, ?_⟩
    refine r_fm (y := t1) (by omega) ?_
    refine r_jp (acc := b1) (y := t1) (by omega) ?_
    have l7 : (b1 ++ t1).length = b1.length + t1.length := lenA _ _
    generalize b1 ++ t1 = b2 at l7 ⊢
    walk_at "go"
    refine r_catZ (by omega) ?_
    walk_at "go"
    exact q _ H1 s1 (by rw [lenA]; omega)
  · rw [e, show ([t0'] : List Str).length = 1 from rfl]
    walk_at "go"
    exact q a5 H1 s1 (by omega)
theorem scJText : FnScope ["entry", "nodes", "node"] ["entry", "nodes"] (defScope (top 56)) := ⟨rfl, rfl, rfl, by decide +kernel, rfl, by decide +kernel, by decide +kernel⟩
theorem sum_le_of {zs : List Str} (h : ∀ z ∈ zs, z.length ≤ 2000) : (zs.map (·.length)).sum ≤ 2000 * zs.length := by
  induction zs with
  | nil => simp
  | cons a r ih =>
    have h1 := h a (by simp)
    have h2 := ih (fun z hz => h z (by simp [hz]))
    simp only [List.map_cons, List.sum_cons, List.length_cons]; omega
theorem jtext_cal (T : Tx w K mg) : C8.Cal P w K mg base 7 "jumps_text" spJText [] := by
  have c_node_text : C8.Cal P w K mg base 6 "node_text" spNText [] := ntext_cal T
  refine cal T (i := 56) (by decide +kernel) scJText (fun vs H Q E h => ?_) (fun _ _ _ _ _ _ us hl => match us, hl with | [_, _], _ => rfl) (fun cdv A outer s H vs Q E hr h => ?_)
  · obtain ⟨z, _, _, _, rfl, _⟩ := h
    rfl
  obtain ⟨en, t, ts, ns, rfl, ht, hpr, ok, htx, hen, q⟩ := h
  have hlen := ok.len
  have hul := Paired.length hpr
  refine ⟨_, (pss_one (ps_ret (L2.pe_join pe_str (pe_op op_cat (pe_lst (pa_cons (pe_joined (.cons pe_str (.cons (pe_fmt (pv 0)) .nil))) pa_nil)) (pe_lc (own := [("node", 2)]) (g := gName 2) (tt := tYes) (te := tCall spNText [] C8.E0 (tCons (tVar 2) tNil)) rfl scJText.nd (pi_tup (pv 1)) (blkOk_by (N := ["entry", "nodes", "node"]) (sc := defScope (top 56)) (by decide +kernel)) (fun _ _ _ _ _ => pg_name (i := 2) scJText.nd rfl (.inl rfl)) (fun _ _ _ _ _ => pts_nil) (fun _ _ _ _ _ => C8.pe_c c_node_text hr (by omega) rfl (pa_cons (pv 2) pa_nil))))))), ?_⟩
  walk_at "go"
  refine ⟨⟨_, rfl⟩, ?_⟩
  walk_at "go"
  have k3 : ("entry " : Str).length = 6 := by decide +kernel
  refine r_jp (acc := Str.empty) (y := "entry ") (by decide +kernel) ?_
  have l6 : (Str.empty ++ ("entry " : Str)).length = 6 := by rw [le0, k3]
  generalize Str.empty ++ ("entry " : Str) = b1 at l6 ⊢
  walk_at "go"
  refine r_fm (y := en) (by omega) ?_
  refine r_jp (acc := b1) (y := en) (by omega) ?_
  have l7 : (b1 ++ en).length = b1.length + en.length := lenA _ _
  generalize b1 ++ en = b2 at l7 ⊢
  walk_at "go"
  refine ⟨by show 1 ≤ sizeLine; decide, fun p1 n1 => ?_⟩
  have s1 : Same H (upd H p1 (.lst [.str b2])) := Same.newo n1 _
  have hp1 : upd H p1 (.lst [.str b2]) p1 = some (.lst ([b2].map V.str)) := upd_same
  generalize upd H p1 (.lst [.str b2]) = H1 at s1 hp1 ⊢
  have ht1 := s1 _ _ ht
  walk_at "go"
  refine ⟨t, rfl, ⟨_, SqT.of ht1⟩, fun D nD => lc_tup (xs := ts) (fun i H' => Same H1 H' ∧ ∃ zs : List Str, H' D = some (.lst (zs.map V.str)) ∧ zs.length = i ∧ ∀ z ∈ zs, z.length ≤ 2000)
    ⟨Same.newo nD _, [], upd_same, rfl, by simp⟩ (fun i H' _ ⟨s2, _⟩ => SqT.of (s2 _ _ ht1)) ?_ ?_⟩
  · rintro i y H' hi ⟨s2, zs, hD, hzl, hz2⟩
    obtain ⟨n, hn, hnd⟩ := paired_got hpr hi
    have hnm := List.mem_of_getElem? hn
    have il : i < ns.length := (List.getElem?_eq_some_iff.mp hn).1
    walk_at "go"
    refine ⟨rfl, ?_⟩
    walk_at "go"
    refine ⟨y, n, rfl, hnd.s (Same.trans s1 s2), htx n hnm, ?_, fun z H2 s3 hz => ?_⟩
    · rcases ok.two n hnm with ⟨_, _, t1, t2, _, e⟩ | ⟨_, t1, e⟩
      · exact .inl ⟨t1, t2, e⟩
      · exact .inr ⟨t1, e⟩
    refine ⟨_, s3 _ _ hD, szl (by simp; omega), Same.mut (Same.trans s2 s3) nD _, zs ++ [z], by rw [upd_same, List.map_append]; rfl, by simp [hzl], fun z' hz' => ?_⟩
    rcases List.mem_append.mp hz' with h | h
    · exact hz2 z' h
    · rw [List.mem_singleton.mp h]; exact hz
  · rintro H' ⟨s2, zs, hD, hzl, hz2⟩
    refine r_cat (s2 _ _ hp1) hD (by simp; omega) fun p5 n5 => ?_
    have hsum := sum_le_of hz2
    refine ⟨"\n", p5, b2 :: zs, rfl, rfl, .inl (SqL.of (by rw [upd_same]; rfl)), ?_, ?_⟩
    · have k1 : ("\n" : Str).length = 1 := by decide +kernel
      simp only [List.map_cons, List.sum_cons, List.length_cons, k1]
      omega
    · exact q _ _ (Same.trans s1 (Same.trans s2 (Same.newo n5 _)))
end
end K5
end

section
set_option linter.all false
set_option maxRecDepth 100000
/-! Program: __init__, __iter__, parse. -/
namespace K5
open PySem PySem.Spec PyProof.Rows L2 SX
/- steps -/
local macro_rules | `(tactic| walk_at "sm") => `(tactic| first | assumption | exact Same.refl _ | (refine Same.mut ?_ (by assumption) _; walk_at "sm") | (refine Same.trans ?_ (Same.newo (by assumption) _); walk_at "sm") | (refine Same.trans ?_ (by assumption); walk_at "sm"))
local macro_rules | `(tactic| walk_at "hp") => `(tactic| first | assumption | exact upd_same | (refine up_new ?_ (by assumption) _; walk_at "hp") | (refine Same.up ?_ (by assumption) (by assumption); walk_at "sm") | (refine Same.look (by assumption) ?_; walk_at "hp"))
local macro_rules | `(tactic| walk_at "rep") => `(tactic| first | assumption | exact str_rep | exact int_rep | exact non_rep | (refine' Rep.s ?s ?h; (case h => assumption); (case s => walk_at "sm")))
local macro_rules | `(tactic| walk_at "if") => `(tactic| first | ((with_reducible refine' r_ifT ?e ?_); (case e => decide +kernel)) | ((with_reducible refine' r_ifF ?e ?_); (case e => decide +kernel)))
local macro_rules | `(tactic| walk_at "sz") => `(tactic| first | omega | decide | (simp only [List.length_map, List.length_append, List.length_cons, List.length_nil, List.length_take]; omega))
local macro_rules | `(tactic| walk_at "s") => `(tactic| first
  | with_reducible refine r_seq ?_ | with_reducible refine r_set ?_ | with_reducible refine r_asg ?_ | with_reducible refine r_ret ?_ | with_reducible refine r_drop ?_ | with_reducible refine r_next ?_ | with_reducible refine r_cont ?_ | with_reducible refine r_brk ?_
  | with_reducible refine r_if ?_ | with_reducible refine r_test ?_ | with_reducible refine r_tB ?_ | with_reducible refine r_bl ?_ | with_reducible refine r_and ?_ | with_reducible refine r_or ?_ | with_reducible refine r_not ?_
  | ((with_reducible refine' r_var ?e ?_); (case e => rfl)) | with_reducible refine r_c ?_ | with_reducible refine r_op ?_ | with_reducible refine r_un ?_ | with_reducible refine r_ifx ?_ | with_reducible refine r_andV ?_ | with_reducible refine r_orV ?_ | with_reducible refine r_notV ?_
  | with_reducible refine r_nil ?_ | with_reducible refine r_cons ?_ | with_reducible refine r_cb ?_ | with_reducible refine r_bm ?_ | with_reducible refine r_bm0 ?_ | with_reducible refine r_lst ?_ | with_reducible refine r_tup ?_ | with_reducible refine r_call ?_
  | with_reducible refine r_lc ?_ | with_reducible refine r_dc ?_ | with_reducible refine r_for ?_ | with_reducible refine r_iTup ?_ | with_reducible refine r_iList ?_ | with_reducible refine r_iEnum ?_ | with_reducible refine r_iRng1 ?_
  | with_reducible refine r_sl ?_ | with_reducible refine r_part ?_ | with_reducible refine r_nop ?_ | with_reducible refine r_int ?_ | with_reducible refine r_then ?_ | with_reducible refine r_yes ?_
  | with_reducible refine r_gname ?_ | with_reducible refine r_gcons ?_ | with_reducible refine r_gnil ?_
  | ((with_reducible refine' r_eq ?e ?_); (case e => rfl)) | ((with_reducible refine' r_ne ?e ?_); (case e => rfl)) | with_reducible refine r_I0 ?_
  | ((with_reducible refine' r_ixT0 ?e ?f ?_); (case e => walk_at "hp"); (case f => rfl)) | ((with_reducible refine' r_ixT1 ?e ?f ?_); (case e => walk_at "hp"); (case f => rfl)) | ((with_reducible refine' r_ixT2 ?e ?f ?_); (case e => walk_at "hp"); (case f => rfl)) | ((with_reducible refine' r_ixT3 ?e ?f ?_); (case e => walk_at "hp"); (case f => rfl)) | ((with_reducible refine' r_ixT4 ?e ?f ?_); (case e => walk_at "hp"); (case f => rfl)) | ((with_reducible refine' r_ixL0 ?e ?f ?_); (case e => walk_at "hp"); (case f => rfl)) | ((with_reducible refine' r_ixL1 ?e ?f ?_); (case e => walk_at "hp"); (case f => rfl)) | ((with_reducible refine' r_ixL2 ?e ?f ?_); (case e => walk_at "hp"); (case f => rfl)) | ((with_reducible refine' r_ixL3 ?e ?f ?_); (case e => walk_at "hp"); (case f => rfl)) | ((with_reducible refine' r_ixL4 ?e ?f ?_); (case e => walk_at "hp"); (case f => rfl))
  | ((with_reducible refine' r_ixT ?e ?f ?_); (case e => walk_at "hp"); (case f => rfl)) | ((with_reducible refine' r_ixL ?e ?f ?_); (case e => walk_at "hp"); (case f => rfl))
  | ((with_reducible refine' r_append ?e ?f ?_); (case e => walk_at "hp"); (case f => walk_at "sz")) | ((with_reducible refine' r_extend ?e ?e2 ?f ?_); (case e => walk_at "hp"); (case e2 => walk_at "hp"); (case f => walk_at "sz"))
  | with_reducible refine r_fldE ?_ | with_reducible refine r_methE ?_ | with_reducible refine r_make ?_ | with_reducible refine r_sfld ?_ | with_reducible refine r_iEnumT ?_ | with_reducible refine r_inSg ?_ | with_reducible refine r_ninSg ?_ | with_reducible refine r_bmfE ?_ | with_reducible refine r_dget1 ?_ | with_reducible refine r_chain ?_ | with_reducible refine r_sm ?_ | with_reducible refine r_jcons ?_ | with_reducible refine r_jnil ?_ | with_reducible refine r_fmtE ?_ | with_reducible refine r_lockE ?_ | with_reducible refine r_iKeys ?_ | with_reducible refine r_tupFE ?_ | with_reducible refine r_m1E ?_ | with_reducible refine r_m0E ?_ | with_reducible refine r_sfa ?_ | with_reducible refine r_rAdd ?_
  | with_reducible refine r_dgetE ?_ | with_reducible refine r_dinE ?_ | with_reducible refine r_dninE ?_ | with_reducible refine r_dputE ?_ | with_reducible refine r_dnew ?_ | with_reducible refine r_neg ?_
  | ((with_reducible refine' r_truL ?e ?_); (case e => walk_at "hp"))
  | ((with_reducible refine' r_gtup ?e ?f ?_); (case e => walk_at "hp"); (case f => rfl))
  | ((with_reducible refine' r_tyL ?e ?_); (case e => walk_at "hp")) | walk_at "if")
local macro_rules | `(tactic| walk_at "go") => `(tactic| repeat walk_at "s")
/- steps end -/
/-- Program(entry, nodes) -/
def spPInit (K : PySem.W.Frag) : Sp := fun vs H Q _ => ∃ (x dx t : Addr) (H0 : Hp) (en : Str) (ts : List V) (ns : List Nod), vs = [.ref x, .str en, .ref t] ∧ H0 x = none ∧ Same H0 H ∧ H x = some (.ins (He.ga K "Program") dx []) ∧
  H0 t = some (.tup ts) ∧ Paired (NdAt H0) ns ts ∧ NsOk en ns ∧ (∀ n ∈ ns, TxOk n) ∧ en.length ≤ 100 ∧ ∀ H', Same H0 H' → PrAt K H' x en ns → Q .non H'
/-- iter(program); a thing at n or behind it is there -/
def spIter (K : PySem.W.Frag) (n : Nat) : Sp := fun vs H Q _ => ∃ (a : Addr) (en : Str) (ns : List Nod) (b : Addr) (o : HO), vs = [.ref a] ∧ PrAt K H a en ns ∧ H b = some o ∧ n ≤ b ∧
  ∀ it lt, H it = none → n ≤ it → H lt = some (.tup ((lbs ns).map V.str)) → Q (.ref it) (upd H it (ITup lt it))
/-- Program.parse(text) -/
def spParse (K : PySem.W.Frag) : Sp := fun vs H Q _ => ∃ (x l0 : List Nat) (ls : List (List Nat)) (ns : List Pn), vs = [.str (S (srcT l0 ls))] ∧ SrcOk x l0 ls ns ∧ NsOk (S x) (ns.map Pn.nod) ∧ (∀ n ∈ ns.map Pn.nod, TxOk n) ∧ x.length ≤ 100 ∧
  ∀ a ms H', Same H H' → PrAt K H' a (S x) ms → NsOk (S x) ms → Rch (S x) ms → (∀ m ∈ ms, m ∈ ns.map Pn.nod) → Q (.ref a) H'
section
variable {P : PySem.Program} {w : World} {K : PySem.W.Frag} {mg : Str → Option Value} {base : Heap}
theorem scPInit : FnScope ["self", "entry", "nodes", "node"] ["self", "entry", "nodes"] (defScope (mth 79 4)) := ⟨rfl, rfl, rfl, by decide +kernel, rfl, by decide +kernel, by decide +kernel⟩
theorem pinit_mak (T : Tx w K mg) : C8.Mak P w K mg base 8 "Program" (He.ga K "Program") (spPInit K) [] := by
  have cP := prog_cls T
  have n1 := prog_no T (f := "entry") (by decide +kernel)
  have n2 := prog_no T (f := "nodes") (by decide +kernel)
  have n3 := prog_no T (f := "text") (by decide +kernel)
  have n4 := prog_no T (f := "by_label") (by decide +kernel)
  have n5 := prog_no T (f := "labels") (by decide +kernel)
  have c_jumps_text : C8.Cal P w K mg base 7 "jumps_text" spJText [] := jtext_cal T
  have m_tuple := T.free "tuple" (by decide +kernel)
  refine mak T (i := 79) (j := 4) (q := "Program.__init__") (by decide +kernel) (by decide +kernel) scPInit (fun vs H Q E h => ?_) (fun _ _ _ _ _ _ us hl => match us, hl with | [_, _, _], _ => rfl) (fun cdv A outer s H vs Q E hr h => ?_)
  · obtain ⟨x, _, _, _, _, _, _, rfl, _⟩ := h
    rfl
  obtain ⟨x, dx, t, H0, en, ts, ns, rfl, hx0, s00, hx, ht, hpr, ok, htx, hen, q⟩ := h
  have hu := hu_of hr
  have hlen := ok.len
  have hul := Paired.length hpr
  refine ⟨_, (pss_cons (ps_fld (pv 0) (pv 1) rfl)
(pss_cons (ps_fld (pv 0) (pv 2) rfl)
(pss_cons (ps_fld (pv 0) (C8.pe_c c_jumps_text hr (by omega) rfl (pa_cons (pv 1) (pa_cons (pv 2) pa_nil))) rfl)
(pss_cons (ps_fld (pv 0) (pe_dc (own := [("node", 3)]) (g := gName 3) (tt := tYes) (tk := tOp (rIxT K) (tVar 3) (tC (.int 0))) (tv := tVar 3) rfl scPInit.nd (pi_tup (pv 2)) (blkOk_by (N := ["self", "entry", "nodes", "node"]) (sc := defScope (mth 79 4)) (by decide +kernel)) (fun _ _ _ _ _ => pg_name (i := 3) scPInit.nd rfl (.inl rfl)) (fun _ _ _ _ _ => pts_nil) (fun _ _ _ _ _ => pe_ix ix_tup (pv 3) pe_int (fun _ _ => rfl)) (fun _ _ _ _ _ => pv 3)) rfl)
(pss_one (ps_fld (pv 0) (pe_tupleOf rfl m_tuple (pe_lc (own := [("node", 3)]) (g := gName 3) (tt := tYes) (te := tOp (rIxT K) (tVar 3) (tC (.int 0))) rfl scPInit.nd (pi_tup (pv 2)) (blkOk_by (N := ["self", "entry", "nodes", "node"]) (sc := defScope (mth 79 4)) (by decide +kernel)) (fun _ _ _ _ _ => pg_name (i := 3) scPInit.nd rfl (.inl rfl)) (fun _ _ _ _ _ => pts_nil) (fun _ _ _ _ _ => pe_ix ix_tup (pv 3) pe_int (fun _ _ => rfl)))) rfl)))))), ?_⟩
  walk_at "go"
  refine r_sfl hx cP n1 (by decide) ?_
  walk_at "go"
  refine r_sfl upd_same cP n2 (Nat.lt_of_le_of_lt (lp lp0) (by decide)) ?_
  have s02 : Same H0 (upd (upd H x (.ins (He.ga K "Program") dx (putF "entry" (.str en) []))) x (.ins (He.ga K "Program") dx (putF "nodes" (.ref t) (putF "entry" (.str en) [])))) := Same.mut (Same.mut s00 hx0 _) hx0 _
  have hx2 : upd (upd H x (.ins (He.ga K "Program") dx (putF "entry" (.str en) []))) x (.ins (He.ga K "Program") dx (putF "nodes" (.ref t) (putF "entry" (.str en) []))) x = some (.ins (He.ga K "Program") dx (putF "nodes" (.ref t) (putF "entry" (.str en) []))) := upd_same
  generalize upd (upd H x (.ins (He.ga K "Program") dx (putF "entry" (.str en) []))) x (.ins (He.ga K "Program") dx (putF "nodes" (.ref t) (putF "entry" (.str en) []))) = H2 at s02 hx2 ⊢
  walk_at "go"
  refine ⟨en, t, ts, ns, rfl, s02 _ _ ht, paired_mono (fun _ _ h => h.s s02) hpr, ok, htx, hen, fun z H3 s3 => ?_⟩
  walk_at "go"
  refine r_sfl (s3 _ _ hx2) cP n3 (Nat.lt_of_le_of_lt (lp (lp lp0)) (by decide)) ?_
  have s04 : Same H0 (upd H3 x (.ins (He.ga K "Program") dx (putF "text" (.str z) (putF "nodes" (.ref t) (putF "entry" (.str en) []))))) := Same.mut (Same.trans s02 s3) hx0 _
  have hx4 : upd H3 x (.ins (He.ga K "Program") dx (putF "text" (.str z) (putF "nodes" (.ref t) (putF "entry" (.str en) [])))) x = some (.ins (He.ga K "Program") dx (putF "text" (.str z) (putF "nodes" (.ref t) (putF "entry" (.str en) [])))) := upd_same
  generalize upd H3 x (.ins (He.ga K "Program") dx (putF "text" (.str z) (putF "nodes" (.ref t) (putF "entry" (.str en) [])))) = H4 at s04 hx4 ⊢
  have ht4 := s04 _ _ ht
  have hpr4 := paired_mono (fun _ _ h => NdAt.s s04 h) hpr
  walk_at "go"
  refine ⟨t, rfl, ⟨_, SqT.of ht4⟩, fun D nD => dc_tup (xs := ts) (fun i H' => Same H4 H' ∧ ∃ kvs : List (Key × V), H' D = some (.dK kvs) ∧ kvs.map (·.1) = (lbs (ns.take i)).map Sum.inr ∧ ∀ n ∈ ns.take i, ∃ v, dv kvs n.l = some v ∧ NdAt H' n v)
    ⟨Same.newo nD _, [], upd_same, by simp, by simp⟩ (fun i H' _ ⟨s1, _⟩ => SqT.of (s1 _ _ ht4)) ?_ ?_⟩
  · rintro i y H' hi ⟨s1, kv, hD, hk, hkv⟩
    obtain ⟨n, hn, hnd⟩ := paired_got hpr4 hi
    have hnd1 := hnd.s s1
    obtain ⟨pp, tt, dd, rfl, hpp, hdd, htt⟩ := id hnd1
    have il : i < ns.length := (List.getElem?_eq_some_iff.mp hn).1
    have hnt : n.l ∉ lbs (ns.take i) := by
      have := not_take (o := lbs ns) ok.nd (i := i) (l := n.l) (by rw [List.getElem?_map, hn]; rfl)
      rwa [← List.map_take] at this
    have hno := dv_keys hk hnt
    have hkl : kv.length = (ns.take i).length := by have := congrArg List.length hk; simpa [lbs] using this
    walk_at "go"
    refine ⟨rfl, ?_⟩
    walk_at "go"
    refine ⟨kv, Sum.inr n.l, rfl, hD, szl (by rw [hkl, List.length_take]; omega), Same.mut s1 nD _, _, upd_same, ?_, ?_⟩
    · rw [put_keys_new _ hno, List.map_append, hk, take_snoc hn]
      simp [lbs]
    · intro m hm
      rw [dv_put]
      rw [take_snoc hn] at hm
      rcases List.mem_append.mp hm with hm | hm
      · obtain ⟨v, e1, e2⟩ := hkv m hm
        rw [if_neg (fun e => hnt (by rw [← e]; exact List.mem_map_of_mem (f := Nod.l) hm))]
        exact ⟨v, e1, e2.upd hD (.inl ⟨_, rfl⟩)⟩
      · have e : m = n := by simpa using hm
        subst e
        rw [if_pos rfl]
        exact ⟨_, rfl, hnd1.upd hD (.inl ⟨_, rfl⟩)⟩
  rintro H5 ⟨s5, kv, hD, hk, hkv⟩
  rw [← hul, List.take_length] at hk hkv
  walk_at "go"
  refine r_sfl (s5 _ _ hx4) cP n4 (Nat.lt_of_le_of_lt (lp (lp (lp lp0))) (by decide)) ?_
  generalize efs : putF "by_label" (.ref D) (putF "text" (.str z) (putF "nodes" (.ref t) (putF "entry" (.str en) ([] : List (Str × V))))) = fs4
  have hx5 := s5 _ _ hx4
  have s06 : Same H0 (upd H5 x (.ins (He.ga K "Program") dx fs4)) := Same.mut (Same.trans s04 s5) hx0 _
  have hx6 : upd H5 x (.ins (He.ga K "Program") dx fs4) x = some (.ins (He.ga K "Program") dx fs4) := upd_same
  have n56 : Sn H5 (upd H5 x (.ins (He.ga K "Program") dx fs4)) := Sn.upd hx5 _
  have nd56 : ∀ {n : Nod} {v : V}, NdAt H5 n v → NdAt (upd H5 x (.ins (He.ga K "Program") dx fs4)) n v := fun h => h.te fun b u h1 _ _ e => n56 b u h1 e
  generalize upd H5 x (.ins (He.ga K "Program") dx fs4) = H6 at s06 hx6 n56 nd56 ⊢
  have hD6 := n56.dk hD
  have hkv6 : ∀ n ∈ ns, ∃ v, dv kv n.l = some v ∧ NdAt H6 n v := fun n hn => by
    obtain ⟨v, a, b⟩ := hkv n hn
    exact ⟨v, a, nd56 b⟩
  have ht6 := s06 _ _ ht
  have hpr6 := paired_mono (fun _ _ h => NdAt.s s06 h) hpr
  walk_at "go"
  refine ⟨t, rfl, ⟨_, SqT.of ht6⟩, fun L nL => lc_tup (xs := ts) (fun i H' => Same H6 H' ∧ H' L = some (.lst ((lbs (ns.take i)).map V.str))) ⟨Same.newo nL _, by simp [upd_same, lbs]⟩ (fun i H' _ ⟨s1, _⟩ => SqT.of (s1 _ _ ht6)) ?_ ?_⟩
  · rintro i y H' hi ⟨s1, hL⟩
    obtain ⟨n, hn, pp, tt, dd, rfl, hpp, _⟩ := paired_got hpr6 hi
    have hpp' := s1 _ _ hpp
    have il : i < ns.length := (List.getElem?_eq_some_iff.mp hn).1
    walk_at "go"
    refine ⟨rfl, ?_⟩
    walk_at "go"
    refine ⟨_, hL, szl (by simp [lbs]; omega), Same.mut s1 nL _, ?_⟩
    rw [upd_same, take_snoc hn]
    simp [lbs]
  rintro H7 ⟨s7, hL⟩
  rw [← hul, List.take_length] at hL
  refine r_kTupL hL fun lt nlt => ?_
  have s8 : Same H6 (upd H7 lt (.tup ((lbs ns).map V.str))) := Same.trans s7 (Same.newo nlt _)
  have hlt8 : upd H7 lt (.tup ((lbs ns).map V.str)) lt = some (.tup ((lbs ns).map V.str)) := upd_same
  generalize upd H7 lt (.tup ((lbs ns).map V.str)) = H8 at s8 hlt8 ⊢
  have hx8 := s8 _ _ hx6
  have l4 : fs4.length ≤ 4 := by rw [← efs]; exact lp (lp (lp (lp lp0)))
  walk_at "go"
  refine r_sfl hx8 cP n5 (Nat.lt_of_le_of_lt l4 (by decide)) ?_
  have n89 : Sn H8 (upd H8 x (.ins (He.ga K "Program") dx (putF "labels" (.ref lt) fs4))) := Sn.upd hx8 _
  have s09 : Same H0 (upd H8 x (.ins (He.ga K "Program") dx (putF "labels" (.ref lt) fs4))) := Same.mut (Same.trans s06 s8) hx0 _
  refine q _ s09 ⟨dx, putF "labels" (.ref lt) fs4, t, ts, D, kv, lt, upd_same, ?_, s09 _ _ ht, paired_mono (fun _ _ h => h.s s09) hpr, n89.dk (s8 _ _ hD6), fun n hn => ?_, n89.tup hlt8⟩
  · rw [← efs]; exact ⟨rfl, rfl, rfl, rfl, rfl, rfl⟩
  · obtain ⟨v, a, b⟩ := hkv6 n hn
    exact ⟨v, a, (b.s s8).te fun b u h1 _ _ e => n89 b u h1 e⟩
theorem scIter : FnScope ["self"] ["self"] (defScope (mth 79 7)) := ⟨rfl, rfl, rfl, by decide +kernel, rfl, by decide +kernel, by decide +kernel⟩
theorem iter_met (T : Tx w K mg) (n : Nat) : C8.Met P w K mg base 1 (He.ga K "Program") "__iter__" (spIter K n) [] := by
  have cP := prog_cls T
  have n1 := prog_no T (f := "labels") (by decide +kernel)
  have m_iter := T.free "iter" (by decide +kernel)
  refine met T (i := 79) (j := 7) (q := "Program.__iter__") (by decide +kernel) (by decide +kernel) scIter (fun vs H Q E h => ?_) (fun _ _ _ _ _ _ us hl => match us, hl with | [_], _ => rfl) (fun cdv A outer s H vs Q E hr h => ?_)
  · obtain ⟨a, _, _, _, _, rfl, _⟩ := h
    rfl
  obtain ⟨a, en, ns, b, o, rfl, hP, hb, hn, q⟩ := h
  obtain ⟨dx, fs, t, ts, d, kvs, lt, h1, ⟨f1, f2, f3, f4, f5, f6⟩, h3, h4, h5, h6, h7⟩ := hP
  refine ⟨_, (pss_one (ps_ret (pe_callB (call_iterT (n := n)) rfl m_iter (by rfl) (pa_cons (pe_fld (pv 0) rfl) pa_nil)))), ?_⟩
  walk_at "go"
  refine r_fl h1 cP n1 f4 ?_
  exact ⟨lt, _, b, o, rfl, SqT.of h7, hb, hn, fun it hit hn' => q it lt hit hn' h7⟩
/-- the def of parse -/
structure Px (K : PySem.W.Frag) (mg : Str → Option Value) (p f : Addr) : Prop where
  sm : SMet K (He.ga K "Program") "parse" p f
  fn : ∃ fd, FunD K "parse" "Program.parse" (defArgs (mth 79 11)) (defBody (mth 79 11)) (defScope (mth 79 11)) [] [] f fd
theorem scParse : FnScope ["text", "entry", "nodes"] ["text"] (defScope (mth 79 11)) := ⟨rfl, rfl, rfl, by decide +kernel, rfl, by decide +kernel, by decide +kernel⟩
theorem parse_fn (T : Tx w K mg) {p f : Addr} {fd : FuncData} (F : FunD K "parse" "Program.parse" (defArgs (mth 79 11)) (defBody (mth 79 11)) (defScope (mth 79 11)) [] [] f fd) : FnOk P w K mg base C8.CX0 26 f fd ["text"] (spParse K) := by
  have c_parse_source : C8.Cal P w K mg base 25 "parse_source" spPS [] := ps_cal T
  have k_Program : C8.Mak P w K mg base 8 "Program" (He.ga K "Program") (spPInit K) [] := pinit_mak T
  refine F.ok (k := 25) scParse (fun vs H Q E h => ?_) (fun cdv A outer s H vs Q E hr h => ?_)
  · obtain ⟨x, _, _, _, rfl, _⟩ := h
    rfl
  obtain ⟨x, l0, ls, ns, rfl, so, ok, htx, hx100, q⟩ := h
  refine ⟨_, (pss_cons (ps_asg (C8.pe_c c_parse_source hr (by omega) rfl (pa_cons (pv 0) pa_nil)) (pg_tup rfl (pgs_cons (pg_name (i := 1) scParse.nd rfl (.inl rfl)) (pgs_cons (pg_name (i := 2) scParse.nd rfl (.inl rfl)) pgs_nil))))
(pss_one (ps_ret (C8.pe_mk k_Program hr (by omega) rfl (pa_cons (pv 1) (pa_cons (pv 2) pa_nil)))))), ?_⟩
  walk_at "go"
  refine ⟨x, l0, ls, ns, rfl, so, ok, fun q2 t ts ms H1 s1 hq2 ht hpr k1 k2 k3 => ?_⟩
  walk_at "go"
  intro a dx na ndx hdx
  have s2 : Same H1 (upd (upd H1 dx (.own a)) a (.ins (He.ga K "Program") dx [])) := by
    refine Same.trans (Same.newo ndx (.own a)) (Same.newo ?_ _)
    rw [upd_ne hdx.symm]; exact na
  refine ⟨a, dx, t, H1, S x, ts, ms, rfl, na, s2, upd_same, ht, hpr, k1, fun m hm => htx m (k3 m hm), by rw [S_len]; exact hx100, fun H3 s3 hP => ⟨rfl, ?_⟩⟩
  exact q a ms H3 (Same.trans s1 s3) hP k1 k2 k3
end
end K5
end

section
set_option linter.all false
set_option maxRecDepth 100000
/-! The law's program: cells, draws, expressions. -/
namespace K5
open PySem PySem.Spec PyProof.Rows L2 SX
/- steps -/
local macro_rules | `(tactic| walk_at "sm") => `(tactic| first | assumption | exact Same.refl _ | (refine Same.mut ?_ (by assumption) _; walk_at "sm") | (refine Same.trans ?_ (Same.newo (by assumption) _); walk_at "sm") | (refine Same.trans ?_ (by assumption); walk_at "sm"))
local macro_rules | `(tactic| walk_at "hp") => `(tactic| first | assumption | exact upd_same | (refine up_new ?_ (by assumption) _; walk_at "hp") | (refine Same.up ?_ (by assumption) (by assumption); walk_at "sm") | (refine Same.look (by assumption) ?_; walk_at "hp"))
local macro_rules | `(tactic| walk_at "rep") => `(tactic| first | assumption | exact str_rep | exact int_rep | exact non_rep | (refine' Rep.s ?s ?h; (case h => assumption); (case s => walk_at "sm")))
local macro_rules | `(tactic| walk_at "if") => `(tactic| first | ((with_reducible refine' r_ifT ?e ?_); (case e => decide +kernel)) | ((with_reducible refine' r_ifF ?e ?_); (case e => decide +kernel)))
local macro_rules | `(tactic| walk_at "sz") => `(tactic| first | omega | decide | (simp only [List.length_map, List.length_append, List.length_cons, List.length_nil, List.length_take]; omega))
local macro_rules | `(tactic| walk_at "s") => `(tactic| first
  | with_reducible refine r_seq ?_ | with_reducible refine r_set ?_ | with_reducible refine r_asg ?_ | with_reducible refine r_ret ?_ | with_reducible refine r_drop ?_ | with_reducible refine r_next ?_ | with_reducible refine r_cont ?_ | with_reducible refine r_brk ?_
  | with_reducible refine r_if ?_ | with_reducible refine r_test ?_ | with_reducible refine r_tB ?_ | with_reducible refine r_bl ?_ | with_reducible refine r_and ?_ | with_reducible refine r_or ?_ | with_reducible refine r_not ?_
  | ((with_reducible refine' r_var ?e ?_); (case e => rfl)) | with_reducible refine r_c ?_ | with_reducible refine r_op ?_ | with_reducible refine r_un ?_ | with_reducible refine r_ifx ?_ | with_reducible refine r_andV ?_ | with_reducible refine r_orV ?_ | with_reducible refine r_notV ?_
  | with_reducible refine r_nil ?_ | with_reducible refine r_cons ?_ | with_reducible refine r_cb ?_ | with_reducible refine r_bm ?_ | with_reducible refine r_bm0 ?_ | with_reducible refine r_lst ?_ | with_reducible refine r_tup ?_ | with_reducible refine r_call ?_
  | with_reducible refine r_lc ?_ | with_reducible refine r_dc ?_ | with_reducible refine r_for ?_ | with_reducible refine r_iTup ?_ | with_reducible refine r_iList ?_ | with_reducible refine r_iEnum ?_ | with_reducible refine r_iRng1 ?_
  | with_reducible refine r_sl ?_ | with_reducible refine r_part ?_ | with_reducible refine r_nop ?_ | with_reducible refine r_int ?_ | with_reducible refine r_then ?_ | with_reducible refine r_yes ?_
  | with_reducible refine r_gname ?_ | with_reducible refine r_gcons ?_ | with_reducible refine r_gnil ?_
  | ((with_reducible refine' r_eq ?e ?_); (case e => rfl)) | ((with_reducible refine' r_ne ?e ?_); (case e => rfl)) | with_reducible refine r_I0 ?_
  | ((with_reducible refine' r_ixT0 ?e ?f ?_); (case e => walk_at "hp"); (case f => rfl)) | ((with_reducible refine' r_ixT1 ?e ?f ?_); (case e => walk_at "hp"); (case f => rfl)) | ((with_reducible refine' r_ixT2 ?e ?f ?_); (case e => walk_at "hp"); (case f => rfl)) | ((with_reducible refine' r_ixT3 ?e ?f ?_); (case e => walk_at "hp"); (case f => rfl)) | ((with_reducible refine' r_ixT4 ?e ?f ?_); (case e => walk_at "hp"); (case f => rfl)) | ((with_reducible refine' r_ixL0 ?e ?f ?_); (case e => walk_at "hp"); (case f => rfl)) | ((with_reducible refine' r_ixL1 ?e ?f ?_); (case e => walk_at "hp"); (case f => rfl)) | ((with_reducible refine' r_ixL2 ?e ?f ?_); (case e => walk_at "hp"); (case f => rfl)) | ((with_reducible refine' r_ixL3 ?e ?f ?_); (case e => walk_at "hp"); (case f => rfl)) | ((with_reducible refine' r_ixL4 ?e ?f ?_); (case e => walk_at "hp"); (case f => rfl))
  | ((with_reducible refine' r_ixT ?e ?f ?_); (case e => walk_at "hp"); (case f => rfl)) | ((with_reducible refine' r_ixL ?e ?f ?_); (case e => walk_at "hp"); (case f => rfl))
  | ((with_reducible refine' r_append ?e ?f ?_); (case e => walk_at "hp"); (case f => walk_at "sz")) | ((with_reducible refine' r_extend ?e ?e2 ?f ?_); (case e => walk_at "hp"); (case e2 => walk_at "hp"); (case f => walk_at "sz"))
  | with_reducible refine r_fldE ?_ | with_reducible refine r_methE ?_ | with_reducible refine r_make ?_ | with_reducible refine r_sfld ?_ | with_reducible refine r_iEnumT ?_ | with_reducible refine r_inSg ?_ | with_reducible refine r_ninSg ?_ | with_reducible refine r_bmfE ?_ | with_reducible refine r_dget1 ?_ | with_reducible refine r_chain ?_ | with_reducible refine r_sm ?_ | with_reducible refine r_jcons ?_ | with_reducible refine r_jnil ?_ | with_reducible refine r_fmtE ?_ | with_reducible refine r_lockE ?_ | with_reducible refine r_iKeys ?_ | with_reducible refine r_tupFE ?_ | with_reducible refine r_m1E ?_ | with_reducible refine r_m0E ?_ | with_reducible refine r_sfa ?_ | with_reducible refine r_rAdd ?_
  | with_reducible refine r_dgetE ?_ | with_reducible refine r_dinE ?_ | with_reducible refine r_dninE ?_ | with_reducible refine r_dputE ?_ | with_reducible refine r_dnew ?_ | with_reducible refine r_neg ?_
  | ((with_reducible refine' r_truL ?e ?_); (case e => walk_at "hp"))
  | ((with_reducible refine' r_gtup ?e ?f ?_); (case e => walk_at "hp"); (case f => rfl))
  | ((with_reducible refine' r_tyL ?e ?_); (case e => walk_at "hp")) | walk_at "if")
local macro_rules | `(tactic| walk_at "go") => `(tactic| repeat walk_at "s")
/- steps end -/
theorem mulR {i j : Int} (h1 : -(2 ^ 64) < j) (h2 : j < 2 ^ 64) : CMul i j := .inr ⟨h1, h2⟩
/-- the script -/
def spCell (K : PySem.W.Frag) : Sp := fun vs H Q _ => ∃ (a : Addr) (zs : List Int) (k : Nat), vs = [.ref a, .int (k : Nat)] ∧ SqL K H a (zs.map V.int) ∧ ∀ c : Int, Q (.int c) H
def spDraws : Sp := fun vs H Q _ => ∃ (c : Int), vs = [.int c, .int 14] ∧ ∀ l H' (ds : List Nat), Same H H' → H' l = some (.lst (ds.map fun d => .int (d : Nat))) → ds.length = 14 → Q (.ref l) H'
/-- expressions that the law makes -/
def XG : Xp → Prop
  | .var x => x = [120] ∨ x = [121] ∨ x = [122]
  | .num n => n ≤ 1000000
  | .op c l r => (c = 43 ∨ c = 45 ∨ c = 42 ∨ c = 61 ∨ c = 60) ∧ XG l ∧ XG r
def spLX : Nat → Sp
  | 0 => fun _ _ _ _ => False
  | n + 1 => fun vs H Q _ => ∃ (l : Addr) (ds : List Nat) (a : Nat), vs = [.ref l, .int (a : Nat), .int (n : Nat)] ∧ H l = some (.lst (ds.map fun d => .int (d : Nat))) ∧ ds.length = 14 ∧ ∀ v H' e, Same H H' → Rep H' (xD e) v → XG e → hgt e ≤ n + 1 → Q v H'
theorem draw_at {ds : List Nat} (h : ds.length = 14) (a : Nat) : ∃ d, (ds.map fun d => V.int (d : Nat))[a % 14]? = some (.int (d : Nat)) := by
  have : a % 14 < ds.length := by rw [h]; exact Nat.mod_lt _ (by decide)
  exact ⟨ds[a % 14], by rw [List.getElem?_map, List.getElem?_eq_getElem this]; rfl⟩
section
variable {P : PySem.Program} {w : World} {K : PySem.W.Frag} {mg : Str → Option Value} {base : Heap}
theorem scCell : FnScope ["_law_script", "_law_k"] ["_law_script", "_law_k"] (defScope (top 85)) := ⟨rfl, rfl, rfl, by decide +kernel, rfl, by decide +kernel, by decide +kernel⟩
theorem cell_cal (T : Tx w K mg) : C8.Cal P w K mg base 1 "_law_cell" (spCell K) [] := by
  have m_len := T.free "len" (by decide +kernel)
  refine cal T (i := 85) (by decide +kernel) scCell (fun vs H Q E h => ?_) (fun _ _ _ _ _ _ us hl => match us, hl with | [_, _], _ => rfl) (fun cdv A outer s H vs Q E hr h => ?_)
  · obtain ⟨a, _, _, rfl, _⟩ := h
    rfl
  obtain ⟨a, zs, k, rfl, hs, q⟩ := h
  refine ⟨_, (pss_cons (ps_if (pt_cmpR op_lt (pv 1) (pe_callB call_len_seq rfl m_len PySem.boot_len (pa_cons (pv 0) pa_nil)) (nomark _))
(pss_one (ps_ret (pe_ix ix_list (pv 0) (pv 1) (fun _ _ => rfl))))
pss_nil)
(pss_one (ps_ret pe_int))), ?_⟩
  walk_at "go"
  refine ⟨a, _, rfl, .inl hs, ?_⟩
  rw [List.length_map]
  walk_at "go"
  refine r_if2 (fun hb => ?_) (fun hb => ?_)
  · have hlt : k < zs.length := by have := of_decide_eq_true hb; omega
    walk_at "go"
    exact ⟨a, _, (k : Nat), .int zs[k], rfl, rfl, hs, atI_nat (by rw [List.getElem?_map, List.getElem?_eq_getElem hlt]; rfl), q _⟩
  · walk_at "go"
    exact q 0
theorem scDraws : FnScope ["_law_cell_here", "_law_count", "_law_result", "_law_rest", "_law_k", "_law_mixed"] ["_law_cell_here", "_law_count"] (defScope (top 86)) := ⟨rfl, rfl, rfl, by decide +kernel, rfl, by decide +kernel, by decide +kernel⟩
theorem draws_cal (T : Tx w K mg) : C8.Cal P w K mg base 1 "_law_draws" spDraws [] := by
  have m_int := T.free "int" (by decide +kernel)
  have m_range := T.free "range" (by decide +kernel)
  refine cal T (i := 86) (by decide +kernel) scDraws (fun vs H Q E h => ?_) (fun _ _ _ _ _ _ us hl => match us, hl with | [_, _], _ => rfl) (fun cdv A outer s H vs Q E hr h => ?_)
  · obtain ⟨c, rfl, _⟩ := h
    rfl
  obtain ⟨c, rfl, q⟩ := h
  refine ⟨_, (pss_cons (ps_set (i := 2) scDraws.nd rfl (.inl rfl) (pe_lst pa_nil))
(pss_cons (ps_set (i := 3) scDraws.nd rfl (.inl rfl) (pe_callTy call_int1 rfl m_int PyProof.Rows.boot_int (pa_cons (pv 0) pa_nil)))
(pss_cons (ps_for PassesOwn.never rfl (pi_range1 rfl m_range (pa_cons (pv 1) pa_nil)) (pg_name (i := 4) scDraws.nd rfl (.inl rfl))
(pss_cons (ps_set (i := 5) scDraws.nd rfl (.inl rfl) (pe_op op_mod (pe_callTy call_int1 rfl m_int PyProof.Rows.boot_int (pa_cons (pe_op op_add (pe_op op_add (pe_op op_mul (pv 0) pe_int) (pe_op op_mul (pv 4) pe_int)) pe_int) pa_nil)) pe_int))
(pss_one (ps_if (pt_cmpR op_ge (pv 0) (pe_op op_pow pe_int pe_int) (nomark _))
(pss_cons (ps_expr (pe_bm PySem.F.plainAttrs_list PySem.F.slot_list_append PySem.F.type_list_append mt_append (pv 2) (pa_cons (pe_op op_mod (pv 3) pe_int) pa_nil)))
(pss_one (ps_set (i := 3) scDraws.nd rfl (.inl rfl) (pe_op op_fdiv (pv 3) pe_int))))
(pss_one (ps_expr (pe_bm PySem.F.plainAttrs_list PySem.F.slot_list_append PySem.F.type_list_append mt_append (pv 2) (pa_cons (pe_op op_fdiv (pe_op op_mod (pe_callTy call_int1 rfl m_int PyProof.Rows.boot_int (pa_cons (pe_op op_add (pe_op op_mul (pv 5) (pv 5)) (pe_op op_mul (pv 5) pe_int)) pa_nil)) pe_int) pe_int) pa_nil))))))))
(pss_one (ps_ret (pv 2)))))), ?_⟩
  walk_at "go"
  refine ⟨Nat.zero_le _, fun l nl => ?_⟩
  walk_at "go"
  refine .inl ⟨c, rfl, ?_⟩
  walk_at "go"
  refine ⟨14, rfl, by decide, by decide, for_range (lo := 0) (n := 14) (fun i σ H' => Same H H' ∧ ∃ (ds : List Nat) (rest : Int) (z4 z5 : Option V), σ = [some (.int c), some (.int 14), some (.ref l), some (.int rest), z4, z5] ∧ H' l = some (.lst (ds.map fun d => .int (d : Nat))) ∧ ds.length = i)
    ⟨Same.newo nl _, [], c, _, _, rfl, upd_same, rfl⟩ ?_ ?_⟩
  · rintro i σ H' hi ⟨s1, ds, rest, z4, z5, rfl, hl, hdl⟩
    have fin : ∀ (x : Int) (rest' : Int) (z4 z5 : Option V), 0 ≤ x → Same H (upd H' l (.lst ((ds.map fun d => V.int (d : Nat)) ++ [.int x]))) ∧ ∃ (ds' : List Nat) (rest : Int) (y4 y5 : Option V), ([some (.int c), some (.int 14), some (.ref l), some (.int rest'), z4, z5] : L2.St) = [some (.int c), some (.int 14), some (.ref l), some (.int rest), y4, y5] ∧
        upd H' l (.lst ((ds.map fun d => V.int (d : Nat)) ++ [.int x])) l = some (.lst (ds'.map fun d => .int (d : Nat))) ∧ ds'.length = i + 1 := by
      intro x rest' z4 z5 hx
      obtain ⟨d, rfl⟩ := Int.eq_ofNat_of_zero_le hx
      exact ⟨Same.mut s1 nl _, ds ++ [d], rest', z4, z5, rfl, by rw [upd_same, List.map_append]; rfl, by simp [hdl]⟩
    walk_at "go"
    refine r_I (mulR (by decide) (by decide)) ?_
    walk_at "go"
    refine r_I (mulR (by decide) (by decide)) ?_
    walk_at "go"
    refine .inl ⟨_, rfl, ?_⟩
    walk_at "go"
    refine r_I (by decide) ?_
    generalize em : (c * 48271 + (0 + (i : Int)) * 69621 + 1) % 2147483647 = mix
    have hm0 : 0 ≤ mix := by rw [← em]; exact Int.emod_nonneg _ (by decide)
    have hm1 : mix < 2147483647 := by rw [← em]; exact Int.emod_lt_of_pos _ (by decide)
    walk_at "go"
    refine r_I ⟨by decide, by decide, by decide⟩ ?_
    walk_at "go"
    refine r_if2 (fun hb => ?_) (fun hb => ?_)
    · walk_at "go"
      refine r_I (by decide) ?_
      refine r_nil ?_
      refine r_append hl (by simp; omega) ?_
      have hl2 : upd H' l (.lst ((ds.map fun d => V.int (d : Nat)) ++ [.int (rest % 1009)])) l = some (.lst ((ds.map fun d => V.int (d : Nat)) ++ [.int (rest % 1009)])) := upd_same
      walk_at "go"
      refine r_I ⟨by decide, by decide⟩ ?_
      exact fin (rest % 1009) (rest / 1009) _ _ (Int.emod_nonneg _ (by decide))
    · walk_at "go"
      refine r_I (mulR (by omega) (by omega)) ?_
      walk_at "go"
      refine r_I (mulR (by decide) (by decide)) ?_
      walk_at "go"
      refine .inl ⟨_, rfl, ?_⟩
      walk_at "go"
      refine r_I (by decide) ?_
      walk_at "go"
      refine r_I ⟨by decide, by decide⟩ ?_
      refine r_nil ?_
      refine r_append hl (by simp; omega) ?_
      exact fin _ rest _ _ (Int.ediv_nonneg (Int.emod_nonneg _ (by decide)) (by decide))
  · rintro σ H' ⟨s1, ds, rest, z4, z5, rfl, hl, hdl⟩
    walk_at "go"
    exact q l H' ds s1 hl hdl
theorem scLX : FnScope ["_law_n", "_law_at", "_law_depth", "_law_kind", "_law_name", "_law_sign"] ["_law_n", "_law_at", "_law_depth"] (defScope (top 87)) := ⟨rfl, rfl, rfl, by decide +kernel, rfl, by decide +kernel, by decide +kernel⟩
theorem lx_step (T : Tx w K mg) (n : Nat) (c_law_expression : C8.Cal P w K mg base n "_law_expression" (spLX n) []) : C8.Cal P w K mg base (n + 1) "_law_expression" (spLX (n + 1)) [] := by
  have m_len := T.free "len" (by decide +kernel)
  refine cal T (i := 87) (by decide +kernel) scLX (fun vs H Q E h => ?_) (fun _ _ _ _ _ _ us hl => match us, hl with | [_, _, _], _ => rfl) (fun cdv A outer s H vs Q E hr h => ?_)
  · obtain ⟨l, _, _, rfl, _⟩ := h
    rfl
  obtain ⟨l, ds, a, rfl, hl, hds, q⟩ := h
  refine ⟨_, (pss_cons (ps_set (i := 3) scLX.nd rfl (.inl rfl) (pe_op op_mod (pe_ix ix_list (pv 0) (pe_op op_mod (pv 1) (pe_callB call_len_seq rfl m_len PySem.boot_len (pa_cons (pv 0) pa_nil))) (fun _ _ => rfl)) pe_int))
(pss_cons (ps_set (i := 4) scLX.nd rfl (.inl rfl) (pe_ix ix_str pe_str (pe_op op_mod (pe_ix ix_list (pv 0) (pe_op op_mod (pe_op op_add (pv 1) pe_int) (pe_callB call_len_seq rfl m_len PySem.boot_len (pa_cons (pv 0) pa_nil))) (fun _ _ => rfl)) pe_int) (fun _ _ => rfl)))
(pss_cons (ps_if (PW.pt (pw_or (pt_cmpR op_eq (pv 2) pe_int (nomark _)) (pw_or1 (pt_cmpR op_lt (pv 3) pe_int (nomark _)))))
(pss_one (ps_ret (pe_tup (pa_cons pe_str (pa_cons (pv 4) pa_nil)))))
pss_nil)
(pss_cons (ps_if (pt_cmpR op_eq (pv 3) pe_int (nomark _))
(pss_one (ps_ret (pe_tup (pa_cons pe_str (pa_cons (pe_op op_mod (pe_ix ix_list (pv 0) (pe_op op_mod (pe_op op_add (pv 1) pe_int) (pe_callB call_len_seq rfl m_len PySem.boot_len (pa_cons (pv 0) pa_nil))) (fun _ _ => rfl)) pe_int) pa_nil)))))
pss_nil)
(pss_cons (ps_if (pt_cmpR op_eq (pv 3) pe_int (nomark _))
(pss_one (ps_ret (pe_tup (pa_cons pe_str (pa_cons (pe_op op_add pe_int (pe_op op_mod (pe_ix ix_list (pv 0) (pe_op op_mod (pe_op op_add (pv 1) pe_int) (pe_callB call_len_seq rfl m_len PySem.boot_len (pa_cons (pv 0) pa_nil))) (fun _ _ => rfl)) pe_int)) pa_nil)))))
pss_nil)
(pss_cons (ps_set (i := 5) scLX.nd rfl (.inl rfl) (pe_ix ix_tup (pe_tup (pa_cons pe_str (pa_cons pe_str (pa_cons pe_str (pa_cons pe_str (pa_cons pe_str pa_nil)))))) (pe_op op_mod (pe_ix ix_list (pv 0) (pe_op op_mod (pe_op op_add (pv 1) pe_int) (pe_callB call_len_seq rfl m_len PySem.boot_len (pa_cons (pv 0) pa_nil))) (fun _ _ => rfl)) pe_int) (fun _ _ => rfl)))
(pss_one (ps_ret (pe_tup (pa_cons (pv 5) (pa_cons (C8.pe_c c_law_expression hr (by omega) rfl (pa_cons (pv 0) (pa_cons (pe_op op_add (pv 1) pe_int) (pa_cons (pe_op op_sub (pv 2) pe_int) pa_nil)))) (pa_cons (C8.pe_c c_law_expression hr (by omega) rfl (pa_cons (pv 0) (pa_cons (pe_op op_add (pv 1) pe_int) (pa_cons (pe_op op_sub (pv 2) pe_int) pa_nil)))) pa_nil)))))))))))), ?_⟩
  have hlen : (ds.map fun d => V.int (d : Nat)).length = 14 := by rw [List.length_map, hds]
  have m14 : ∀ a : Nat, ((a : Nat) : Int) % ((14 : Nat) : Int) = ((a % 14 : Nat) : Int) := fun a => by omega
  have c1 : ((a : Nat) : Int) + 1 = ((a + 1 : Nat) : Int) := by omega
  have c2 : ((a : Nat) : Int) + 2 = ((a + 2 : Nat) : Int) := by omega
  obtain ⟨d0, h0⟩ := draw_at hds a
  obtain ⟨d1, h1⟩ := draw_at hds (a + 1)
  obtain ⟨d2, h2⟩ := draw_at hds (a + 2)
  have e8 : ((d0 : Nat) : Int) % 8 = ((d0 % 8 : Nat) : Int) := by omega
  have e3 : ((d1 : Nat) : Int) % 3 = ((d1 % 3 : Nat) : Int) := by omega
  have e5 : ((d2 : Nat) : Int) % 5 = ((d2 % 5 : Nat) : Int) := by omega
  obtain ⟨cn, hcn, hcn2⟩ : ∃ cn, (TL.tl ("xyz" : Str))[d1 % 3]? = some cn ∧ (cn = 120 ∨ cn = 121 ∨ cn = 122) := by
    have ez : TL.tl ("xyz" : Str) = [120, 121, 122] := by decide +kernel
    rw [ez]
    have h3 : d1 % 3 = 0 ∨ d1 % 3 = 1 ∨ d1 % 3 = 2 := by omega
    rcases h3 with h | h | h <;> rw [h]
    · exact ⟨120, rfl, .inl rfl⟩
    · exact ⟨121, rfl, .inr (.inl rfl)⟩
    · exact ⟨122, rfl, .inr (.inr rfl)⟩
  obtain ⟨cs, hcs, hcs2⟩ : ∃ cs, ([.str "+", .str "-", .str "*", .str "=", .str "<"] : List V)[d2 % 5]? = some (.str (S [cs])) ∧ (cs = 43 ∨ cs = 45 ∨ cs = 42 ∨ cs = 61 ∨ cs = 60) := by
    have k1 : ("+" : Str) = S [43] := TL.ext_tl (by decide +kernel)
    have k2 : ("-" : Str) = S [45] := TL.ext_tl (by decide +kernel)
    have k3 : ("*" : Str) = S [42] := TL.ext_tl (by decide +kernel)
    have k4 : ("=" : Str) = S [61] := TL.ext_tl (by decide +kernel)
    have k5 : ("<" : Str) = S [60] := TL.ext_tl (by decide +kernel)
    have h5 : d2 % 5 = 0 ∨ d2 % 5 = 1 ∨ d2 % 5 = 2 ∨ d2 % 5 = 3 ∨ d2 % 5 = 4 := by omega
    rcases h5 with h | h | h | h | h <;> rw [h]
    · rw [k1]; exact ⟨43, rfl, by simp⟩
    · rw [k2]; exact ⟨45, rfl, by simp⟩
    · rw [k3]; exact ⟨42, rfl, by simp⟩
    · rw [k4]; exact ⟨61, rfl, by simp⟩
    · rw [k5]; exact ⟨60, rfl, by simp⟩
  walk_at "go"
  refine ⟨l, _, rfl, .inl (SqL.of hl), ?_⟩
  rw [hlen]
  refine r_I (by decide) ?_
  rw [m14]
  refine r_ixL (k := ((a % 14 : Nat) : Int)) hl (atI_nat h0) ?_
  walk_at "go"
  refine r_I (by decide) ?_
  rw [e8]
  walk_at "go"
  rw [c1]
  refine ⟨l, _, rfl, .inl (SqL.of hl), ?_⟩
  rw [hlen]
  refine r_I (by decide) ?_
  rw [m14]
  refine r_ixL (k := (((a + 1) % 14 : Nat) : Int)) hl (atI_nat h1) ?_
  walk_at "go"
  refine r_I (by decide) ?_
  rw [e3]
  refine ⟨"xyz", _, cn, rfl, rfl, by decide +kernel, atI_nat hcn, ?_⟩
  have hvar : ∀ p H', H p = none → H' = upd H p (.tup [.str "variable", .str (S [cn])]) → Q (.ref p) H' := fun p H' np e => by
    subst e
    exact q _ _ (.var [cn]) (Same.newo np _) (rep_new np (reps_cons str_rep (reps_cons str_rep reps_nil))) (by rcases hcn2 with h | h | h <;> simp [XG, h]) (by simp [hgt])
  walk_at "go"
  refine r_if2 (fun hb => ?_) (fun hb => ?_)
  · walk_at "go"
    exact ⟨by show 2 ≤ sizeLine; decide, fun p np => hvar p _ np rfl⟩
  walk_at "go"
  refine r_if2 (fun hb2 => ?_) (fun hb2 => ?_)
  · walk_at "go"
    exact ⟨by show 2 ≤ sizeLine; decide, fun p np => hvar p _ np rfl⟩
  walk_at "go"
  refine r_if2 (fun hb3 => ?_) (fun hb3 => ?_)
  · walk_at "go"
    rw [c2]
    refine ⟨l, _, rfl, .inl (SqL.of hl), ?_⟩
    rw [hlen]
    refine r_I (by decide) ?_
    rw [m14]
    refine r_ixL (k := (((a + 2) % 14 : Nat) : Int)) hl (atI_nat h2) ?_
    walk_at "go"
    refine r_I (by decide) ?_
    rw [show ((d2 : Nat) : Int) % 10 = ((d2 % 10 : Nat) : Int) by omega]
    walk_at "go"
    refine ⟨by show 2 ≤ sizeLine; decide, fun p np => ?_⟩
    exact q _ _ (.num (d2 % 10)) (Same.newo np _) (rep_new np (reps_cons str_rep (reps_cons int_rep reps_nil))) (by show d2 % 10 ≤ 1000000; omega) (by simp [hgt])
  walk_at "go"
  refine r_if2 (fun hb4 => ?_) (fun hb4 => ?_)
  · walk_at "go"
    rw [c2]
    refine ⟨l, _, rfl, .inl (SqL.of hl), ?_⟩
    rw [hlen]
    refine r_I (by decide) ?_
    rw [m14]
    refine r_ixL (k := (((a + 2) % 14 : Nat) : Int)) hl (atI_nat h2) ?_
    walk_at "go"
    refine r_I (by decide) ?_
    rw [show ((d2 : Nat) : Int) % 11 = ((d2 % 11 : Nat) : Int) by omega]
    walk_at "go"
    rw [show (999990 : Int) + ((d2 % 11 : Nat) : Int) = ((999990 + d2 % 11 : Nat) : Int) by omega]
    walk_at "go"
    refine ⟨by show 2 ≤ sizeLine; decide, fun p np => ?_⟩
    exact q _ _ (.num (999990 + d2 % 11)) (Same.newo np _) (rep_new np (reps_cons str_rep (reps_cons int_rep reps_nil))) (by show 999990 + d2 % 11 ≤ 1000000; omega) (by simp [hgt])
  walk_at "go"
  refine ⟨by show 5 ≤ sizeLine; decide, fun p np => ?_⟩
  have s1 : Same H (upd H p (.tup [.str "+", .str "-", .str "*", .str "=", .str "<"])) := Same.newo np _
  have hp1 : upd H p (.tup [.str "+", .str "-", .str "*", .str "=", .str "<"]) p = some (.tup [.str "+", .str "-", .str "*", .str "=", .str "<"]) := upd_same
  generalize upd H p (.tup [.str "+", .str "-", .str "*", .str "=", .str "<"]) = H1 at s1 hp1 ⊢
  have hl1 := s1 _ _ hl
  walk_at "go"
  rw [c2]
  refine ⟨l, _, rfl, .inl (SqL.of hl1), ?_⟩
  rw [hlen]
  refine r_I (by decide) ?_
  rw [m14]
  refine r_ixL (k := (((a + 2) % 14 : Nat) : Int)) hl1 (atI_nat h2) ?_
  walk_at "go"
  refine r_I (by decide) ?_
  rw [e5]
  refine r_ixT (k := ((d2 % 5 : Nat) : Int)) hp1 (atI_nat hcs) ?_
  cases n with
  | zero => exact absurd hb (by decide)
  | succ m =>
    have em : ((m + 1 : Nat) : Int) - 1 = ((m : Nat) : Int) := by omega
    walk_at "go"
    rw [show ((a : Nat) : Int) + 3 = ((a + 3 : Nat) : Int) by omega, em]
    refine ⟨l, ds, a + 3, rfl, hl1, hds, fun v2 H2 e2 s2 r2 x2 g2 => ?_⟩
    have hl2 := s2 _ _ hl1
    walk_at "go"
    rw [show ((a : Nat) : Int) + 5 = ((a + 5 : Nat) : Int) by omega, em]
    refine ⟨l, ds, a + 5, rfl, hl2, hds, fun v3 H3 e3' s3 r3 x3 g3 => ?_⟩
    walk_at "go"
    refine ⟨by show 3 ≤ sizeLine; decide, fun p4 n4 => ?_⟩
    exact q _ _ (.op cs e2 e3') (Same.trans s1 (Same.trans s2 (Same.trans s3 (Same.newo n4 _)))) (rep_new n4 (reps_cons str_rep (reps_cons (r2.s s3) (reps_cons r3 reps_nil)))) ⟨hcs2, x2, x3⟩ (by simp only [hgt]; omega)
theorem lx_cal (T : Tx w K mg) : ∀ n : Nat, C8.Cal P w K mg base n "_law_expression" (spLX n) []
  | 0 => cal_no T (i := 87) (ps := ["_law_n", "_law_at", "_law_depth"]) (by decide +kernel) (fun _ _ _ _ _ _ us hl => match us, hl with | [_, _, _], _ => rfl) fun vs H Q E h => h
  | n + 1 => lx_step T n (lx_cal T n)
end
end K5
end

section
set_option linter.all false
set_option maxRecDepth 100000
/-! The law's program: nodes. -/
namespace K5
open PySem PySem.Spec PyProof.Rows L2 SX
/- steps -/
local macro_rules | `(tactic| walk_at "sm") => `(tactic| first | assumption | exact Same.refl _ | (refine Same.mut ?_ (by assumption) _; walk_at "sm") | (refine Same.trans ?_ (Same.newo (by assumption) _); walk_at "sm") | (refine Same.trans ?_ (by assumption); walk_at "sm"))
local macro_rules | `(tactic| walk_at "hp") => `(tactic| first | assumption | exact upd_same | (refine up_new ?_ (by assumption) _; walk_at "hp") | (refine Same.up ?_ (by assumption) (by assumption); walk_at "sm") | (refine Same.look (by assumption) ?_; walk_at "hp"))
local macro_rules | `(tactic| walk_at "rep") => `(tactic| first | assumption | exact str_rep | exact int_rep | exact non_rep | (refine' Rep.s ?s ?h; (case h => assumption); (case s => walk_at "sm")))
local macro_rules | `(tactic| walk_at "if") => `(tactic| first | ((with_reducible refine' r_ifT ?e ?_); (case e => decide +kernel)) | ((with_reducible refine' r_ifF ?e ?_); (case e => decide +kernel)))
local macro_rules | `(tactic| walk_at "sz") => `(tactic| first | omega | decide | (simp only [List.length_map, List.length_append, List.length_cons, List.length_nil, List.length_take]; omega))
local macro_rules | `(tactic| walk_at "s") => `(tactic| first
  | with_reducible refine r_seq ?_ | with_reducible refine r_set ?_ | with_reducible refine r_asg ?_ | with_reducible refine r_ret ?_ | with_reducible refine r_drop ?_ | with_reducible refine r_next ?_ | with_reducible refine r_cont ?_ | with_reducible refine r_brk ?_
  | with_reducible refine r_if ?_ | with_reducible refine r_test ?_ | with_reducible refine r_tB ?_ | with_reducible refine r_bl ?_ | with_reducible refine r_and ?_ | with_reducible refine r_or ?_ | with_reducible refine r_not ?_
  | ((with_reducible refine' r_var ?e ?_); (case e => rfl)) | with_reducible refine r_c ?_ | with_reducible refine r_op ?_ | with_reducible refine r_un ?_ | with_reducible refine r_ifx ?_ | with_reducible refine r_andV ?_ | with_reducible refine r_orV ?_ | with_reducible refine r_notV ?_
  | with_reducible refine r_nil ?_ | with_reducible refine r_cons ?_ | with_reducible refine r_cb ?_ | with_reducible refine r_bm ?_ | with_reducible refine r_bm0 ?_ | with_reducible refine r_lst ?_ | with_reducible refine r_tup ?_ | with_reducible refine r_call ?_
  | with_reducible refine r_lc ?_ | with_reducible refine r_dc ?_ | with_reducible refine r_for ?_ | with_reducible refine r_iTup ?_ | with_reducible refine r_iList ?_ | with_reducible refine r_iEnum ?_ | with_reducible refine r_iRng1 ?_
  | with_reducible refine r_sl ?_ | with_reducible refine r_part ?_ | with_reducible refine r_nop ?_ | with_reducible refine r_int ?_ | with_reducible refine r_then ?_ | with_reducible refine r_yes ?_
  | with_reducible refine r_gname ?_ | with_reducible refine r_gcons ?_ | with_reducible refine r_gnil ?_
  | ((with_reducible refine' r_eq ?e ?_); (case e => rfl)) | ((with_reducible refine' r_ne ?e ?_); (case e => rfl)) | with_reducible refine r_I0 ?_
  | ((with_reducible refine' r_ixT0 ?e ?f ?_); (case e => walk_at "hp"); (case f => rfl)) | ((with_reducible refine' r_ixT1 ?e ?f ?_); (case e => walk_at "hp"); (case f => rfl)) | ((with_reducible refine' r_ixT2 ?e ?f ?_); (case e => walk_at "hp"); (case f => rfl)) | ((with_reducible refine' r_ixT3 ?e ?f ?_); (case e => walk_at "hp"); (case f => rfl)) | ((with_reducible refine' r_ixT4 ?e ?f ?_); (case e => walk_at "hp"); (case f => rfl)) | ((with_reducible refine' r_ixL0 ?e ?f ?_); (case e => walk_at "hp"); (case f => rfl)) | ((with_reducible refine' r_ixL1 ?e ?f ?_); (case e => walk_at "hp"); (case f => rfl)) | ((with_reducible refine' r_ixL2 ?e ?f ?_); (case e => walk_at "hp"); (case f => rfl)) | ((with_reducible refine' r_ixL3 ?e ?f ?_); (case e => walk_at "hp"); (case f => rfl)) | ((with_reducible refine' r_ixL4 ?e ?f ?_); (case e => walk_at "hp"); (case f => rfl))
  | ((with_reducible refine' r_ixT ?e ?f ?_); (case e => walk_at "hp"); (case f => rfl)) | ((with_reducible refine' r_ixL ?e ?f ?_); (case e => walk_at "hp"); (case f => rfl))
  | ((with_reducible refine' r_append ?e ?f ?_); (case e => walk_at "hp"); (case f => walk_at "sz")) | ((with_reducible refine' r_extend ?e ?e2 ?f ?_); (case e => walk_at "hp"); (case e2 => walk_at "hp"); (case f => walk_at "sz"))
  | with_reducible refine r_fldE ?_ | with_reducible refine r_methE ?_ | with_reducible refine r_make ?_ | with_reducible refine r_sfld ?_ | with_reducible refine r_iEnumT ?_ | with_reducible refine r_inSg ?_ | with_reducible refine r_ninSg ?_ | with_reducible refine r_bmfE ?_ | with_reducible refine r_dget1 ?_ | with_reducible refine r_chain ?_ | with_reducible refine r_sm ?_ | with_reducible refine r_jcons ?_ | with_reducible refine r_jnil ?_ | with_reducible refine r_fmtE ?_ | with_reducible refine r_lockE ?_ | with_reducible refine r_iKeys ?_ | with_reducible refine r_tupFE ?_ | with_reducible refine r_m1E ?_ | with_reducible refine r_m0E ?_ | with_reducible refine r_sfa ?_ | with_reducible refine r_rAdd ?_
  | with_reducible refine r_dgetE ?_ | with_reducible refine r_dinE ?_ | with_reducible refine r_dninE ?_ | with_reducible refine r_dputE ?_ | with_reducible refine r_dnew ?_ | with_reducible refine r_neg ?_
  | ((with_reducible refine' r_truL ?e ?_); (case e => walk_at "hp"))
  | ((with_reducible refine' r_gtup ?e ?f ?_); (case e => walk_at "hp"); (case f => rfl))
  | ((with_reducible refine' r_tyL ?e ?_); (case e => walk_at "hp")) | walk_at "if")
local macro_rules | `(tactic| walk_at "go") => `(tactic| repeat walk_at "s")
/- steps end -/
/-- the text of an expression -/
def xt : Xp → List Nat
  | .var x => x
  | .num n => TL.numL n
  | .op c l r => 40 :: (xt l ++ 32 :: c :: 32 :: (xt r ++ [41]))
theorem xt_le : ∀ {e : Xp} {n : Nat}, XG e → hgt e ≤ n + 1 → (xt e).length + 5 ≤ 12 * 2 ^ n
  | .var x, n, h, _ => by
    have : 1 ≤ 2 ^ n := Nat.one_le_two_pow
    rcases h with h | h | h <;> subst h <;> simp [xt] <;> omega
  | .num k, n, h, _ => by
    have : 1 ≤ 2 ^ n := Nat.one_le_two_pow
    have := numL_len7 (n := k) h
    simp [xt]; omega
  | .op c l r, 0, h, hh => by
    simp only [hgt] at hh
    have h1 := hgt_pos l
    omega
  | .op c l r, n + 1, h, hh => by
    simp only [hgt] at hh
    have h1 := xt_le (e := l) (n := n) h.2.1 (by omega)
    have h2 := xt_le (e := r) (n := n) h.2.2 (by omega)
    simp only [xt, List.length_cons, List.length_append, List.length_nil]
    rw [Nat.pow_succ]
    omega
def spXT (n : Nat) : Sp := fun vs H Q _ => ∃ (ev : V) (e : Xp), vs = [ev] ∧ Rep H (xD e) ev ∧ XG e ∧ hgt e ≤ n ∧ (xt e).length ≤ 10000 ∧ ∀ H', Same H H' → Q (.str (S (xt e))) H'
/-- what the law's labels are -/
def labA : List (List Nat) := [[97], [98], [99, 46, 50], [100], [101], [102, 46, 55], [103], [104]]
abbrev exitL : List Nat := [101, 120, 105, 116]
/-- a node of the law's program of m nodes -/
structure NG (m k : Nat) (n : Pn) : Prop where
  l : (labA.take m)[k]? = some n.l
  x : XG n.d.x
  h : hgt n.d.x ≤ 3
  s : ∀ x e, n.d = .set x e → x = [120] ∨ x = [121] ∨ x = [122]
  t0 : n.t0 ∈ labA.take m ++ [exitL]
  t1 : n.t1 ∈ labA.take m ++ [exitL]
def nD (n : Pn) : D := .tup [.str (S n.l), .tup (.str n.d.k :: n.d.r), .tup (n.tgs.map fun t => .str (S t))]
def spLN : Sp := fun vs H Q _ => ∃ (c : Int) (k m : Nat) (ll : Addr), vs = [.int c, .int (k : Nat), .ref ll] ∧ H ll = some (.lst (((labA.take m).map S).map V.str)) ∧ k < m ∧ m ≤ 8 ∧
  ∀ v H' n, Same H H' → Rep H' (nD n) v → NG m k n → Q v H'
section
variable {P : PySem.Program} {w : World} {K : PySem.W.Frag} {mg : Str → Option Value} {base : Heap}
theorem scXT : FnScope ["_law_expression_here", "_law_left"] ["_law_expression_here"] (defScope (top 88)) := ⟨rfl, rfl, rfl, by decide +kernel, rfl, by decide +kernel, by decide +kernel⟩
theorem xt_step (T : Tx w K mg) (n : Nat) (c_law_expression_text : C8.Cal P w K mg base n "_law_expression_text" (spXT n) []) : C8.Cal P w K mg base (n + 1) "_law_expression_text" (spXT (n + 1)) [] := by
  have m_str := T.free "str" (by decide +kernel)
  refine cal T (i := 88) (by decide +kernel) scXT (fun vs H Q E h => ?_) (fun _ _ _ _ _ _ us hl => match us, hl with | [_], _ => rfl) (fun cdv A outer s H vs Q E hr h => ?_)
  · obtain ⟨l, _, rfl, _⟩ := h
    rfl
  obtain ⟨ev, e, rfl, he, hx, hh, hlen, q⟩ := h
  refine ⟨_, (pss_cons (ps_if (PW.pt (pw_or (pt_cmpR op_eq (pe_ix ix_tup (pv 0) pe_int (fun _ _ => rfl)) pe_str (nomark _)) (pw_or1 (pt_cmpR op_eq (pe_ix ix_tup (pv 0) pe_int (fun _ _ => rfl)) pe_str (nomark _)))))
(pss_one (ps_ret (pe_callTy call_strA rfl m_str PyProof.Rows.boot_str (pa_cons (pe_ix ix_tup (pv 0) pe_int (fun _ _ => rfl)) pa_nil))))
pss_nil)
(pss_cons (ps_set (i := 1) scXT.nd rfl (.inl rfl) (C8.pe_c c_law_expression_text hr (by omega) rfl (pa_cons (pe_ix ix_tup (pv 0) pe_int (fun _ _ => rfl)) pa_nil)))
(pss_one (ps_ret (pe_op op_catS (pe_op op_catS (pe_op op_catS (pe_op op_catS (pe_op op_catS (pe_op op_catS pe_str (pv 1)) pe_str) (pe_ix ix_tup (pv 0) pe_int (fun _ _ => rfl))) pe_str) (C8.pe_c c_law_expression_text hr (by omega) rfl (pa_cons (pe_ix ix_tup (pv 0) pe_int (fun _ _ => rfl)) pa_nil))) pe_str))))), ?_⟩
  cases e with
  | var x =>
    obtain ⟨p, xs, rfl, hp, ha0⟩ := rep_tup he
    obtain ⟨x1, r1, rfl, h1, ha1⟩ := cons_reps ha0
    obtain ⟨x2, r2, rfl, h2, ha2⟩ := cons_reps ha1
    obtain rfl := nil_reps ha2
    obtain rfl := rep_str h1
    obtain rfl := rep_str h2
    walk_at "go"
    exact .inr ⟨S x, rfl, q H (Same.refl _)⟩
  | num k =>
    obtain ⟨p, xs, rfl, hp, ha0⟩ := rep_tup he
    obtain ⟨x1, r1, rfl, h1, ha1⟩ := cons_reps ha0
    obtain ⟨x2, r2, rfl, h2, ha2⟩ := cons_reps ha1
    obtain rfl := nil_reps ha2
    obtain rfl := rep_str h1
    obtain rfl := rep_int h2
    walk_at "go"
    exact .inl ⟨k, rfl, hx, q H (Same.refl _)⟩
  | op c l r =>
    obtain ⟨p, xs, rfl, hp, ha0⟩ := rep_tup he
    obtain ⟨x1, r1, rfl, h1, ha1⟩ := cons_reps ha0
    obtain ⟨x2, r2, rfl, h2, ha2⟩ := cons_reps ha1
    obtain ⟨x3, r3, rfl, h3, ha3⟩ := cons_reps ha2
    obtain rfl := nil_reps ha3
    obtain rfl := rep_str h1
    have hhl : hgt l ≤ n ∧ hgt r ≤ n := by simp only [hgt] at hh; omega
    have hll : (xt l).length + (xt r).length + 5 ≤ 10000 := by simp only [xt, List.length_cons, List.length_append, List.length_nil] at hlen; omega
    have hn1 : decide (V.str (S [c]) = V.str "number") = false := decide_eq_false fun z => by
      have := congrArg List.length (S_inj (a := [c]) (b := [110, 117, 109, 98, 101, 114]) ((V.str.inj z).trans (TL.ext_tl (by decide +kernel))))
      simp at this
    have hn2 : decide (V.str (S [c]) = V.str "variable") = false := decide_eq_false fun z => by
      have := congrArg List.length (S_inj (a := [c]) (b := [118, 97, 114, 105, 97, 98, 108, 101]) ((V.str.inj z).trans (TL.ext_tl (by decide +kernel))))
      simp at this
    walk_at "go"
    rw [hn1]
    walk_at "go"
    rw [hn2]
    walk_at "go"
    refine ⟨x2, l, rfl, h2, hx.2.1, hhl.1, by omega, fun H1 s1 => ?_⟩
    have hp1 := s1 _ _ hp
    have kp1 : ("(" : Str) = S [40] := TL.ext_tl (by decide +kernel)
    have kp2 : (" " : Str) = S [32] := TL.ext_tl (by decide +kernel)
    have kp3 : (")" : Str) = S [41] := TL.ext_tl (by decide +kernel)
    walk_at "go"
    rw [kp1]
    refine r_catS (by simp; omega) ?_
    walk_at "go"
    rw [kp2]
    refine r_catS (by simp; omega) ?_
    walk_at "go"
    refine r_catS (by simp; omega) ?_
    walk_at "go"
    refine r_catS (by simp; omega) ?_
    walk_at "go"
    refine ⟨x3, r, rfl, h3.s s1, hx.2.2, hhl.2, by omega, fun H2 s2 => ?_⟩
    refine r_catS (by simp; omega) ?_
    walk_at "go"
    rw [kp3]
    refine r_catS (by simp; omega) ?_
    have e : [40] ++ xt l ++ [32] ++ [c] ++ [32] ++ xt r ++ [41] = xt (.op c l r) := by simp [xt]
    rw [e]
    exact q H2 (Same.trans s1 s2)
theorem xt_cal (T : Tx w K mg) : ∀ n : Nat, C8.Cal P w K mg base n "_law_expression_text" (spXT n) []
  | 0 => cal_no T (i := 88) (ps := ["_law_expression_here"]) (by decide +kernel) (fun _ _ _ _ _ _ us hl => match us, hl with | [_], _ => rfl) fun vs H Q E h => by
    obtain ⟨_, e, _, _, _, h0, _⟩ := h
    have := hgt_pos e
    omega
  | n + 1 => xt_step T n (xt_cal T n)
theorem scLN : FnScope ["_law_cell_here", "_law_k", "_law_labels", "_law_n", "_law_expression_here", "_law_targets", "_law_first"] ["_law_cell_here", "_law_k", "_law_labels"] (defScope (top 89)) := ⟨rfl, rfl, rfl, by decide +kernel, rfl, by decide +kernel, by decide +kernel⟩
theorem ln_cal (T : Tx w K mg) : C8.Cal P w K mg base 5 "_law_node" spLN [] := by
  have m_len := T.free "len" (by decide +kernel)
  have c_law_draws : C8.Cal P w K mg base 1 "_law_draws" spDraws [] := draws_cal T
  have c_law_expression : C8.Cal P w K mg base 3 "_law_expression" (spLX 3) [] := lx_cal T 3
  refine cal T (i := 89) (by decide +kernel) scLN (fun vs H Q E h => ?_) (fun _ _ _ _ _ _ us hl => match us, hl with | [_, _, _], _ => rfl) (fun cdv A outer s H vs Q E hr h => ?_)
  · obtain ⟨l, _, _, _, rfl, _⟩ := h
    rfl
  obtain ⟨c, k, m, ll, rfl, hl, hkm, hm, q⟩ := h
  refine ⟨_, (pss_cons (ps_set (i := 3) scLN.nd rfl (.inl rfl) (C8.pe_c c_law_draws hr (by omega) rfl (pa_cons (pv 0) (pa_cons pe_int pa_nil))))
(pss_cons (ps_set (i := 4) scLN.nd rfl (.inl rfl) (C8.pe_c c_law_expression hr (by omega) rfl (pa_cons (pv 3) (pa_cons pe_int (pa_cons pe_int pa_nil)))))
(pss_cons (ps_set (i := 5) scLN.nd rfl (.inl rfl) (pe_op op_cat (pv 2) (pe_lst (pa_cons pe_str pa_nil))))
(pss_cons (ps_set (i := 6) scLN.nd rfl (.inl rfl) (pe_ix ix_list (pv 5) (pe_op op_mod (pe_ix ix_list (pv 3) pe_int (fun _ _ => rfl)) (pe_callB call_len_seq rfl m_len PySem.boot_len (pa_cons (pv 5) pa_nil))) (fun _ _ => rfl)))
(pss_cons (ps_if (pt_cmpR op_eq (pe_op op_mod (pe_ix ix_list (pv 3) pe_int (fun _ _ => rfl)) pe_int) pe_int (nomark _))
(pss_one (ps_ret (pe_tup (pa_cons (pe_ix ix_list (pv 2) (pv 1) (fun _ _ => rfl)) (pa_cons (pe_tup (pa_cons pe_str (pa_cons (pv 4) pa_nil))) (pa_cons (pe_tup (pa_cons (pv 6) (pa_cons (pe_ix ix_list (pv 5) (pe_op op_mod (pe_ix ix_list (pv 3) pe_int (fun _ _ => rfl)) (pe_callB call_len_seq rfl m_len PySem.boot_len (pa_cons (pv 5) pa_nil))) (fun _ _ => rfl)) pa_nil))) pa_nil))))))
pss_nil)
(pss_cons (ps_if (pt_cmpR op_eq (pe_op op_mod (pe_ix ix_list (pv 3) pe_int (fun _ _ => rfl)) pe_int) pe_int (nomark _))
(pss_one (ps_ret (pe_tup (pa_cons (pe_ix ix_list (pv 2) (pv 1) (fun _ _ => rfl)) (pa_cons (pe_tup (pa_cons pe_str (pa_cons (pv 4) pa_nil))) (pa_cons (pe_tup (pa_cons (pv 6) pa_nil)) pa_nil))))))
pss_nil)
(pss_one (ps_ret (pe_tup (pa_cons (pe_ix ix_list (pv 2) (pv 1) (fun _ _ => rfl)) (pa_cons (pe_tup (pa_cons pe_str (pa_cons (pe_ix ix_str pe_str (pe_op op_mod (pe_ix ix_list (pv 3) pe_int (fun _ _ => rfl)) pe_int) (fun _ _ => rfl)) (pa_cons (pv 4) pa_nil)))) (pa_cons (pe_tup (pa_cons (pv 6) pa_nil)) pa_nil)))))))))))), ?_⟩
  walk_at "go"
  refine ⟨c, rfl, fun dl H1 ds s1 hd hds => ?_⟩
  have hlm : (labA.take m).length = m := by rw [List.length_take]; exact Nat.min_eq_left hm
  obtain ⟨d0, h0⟩ := draw_at hds 0
  obtain ⟨d1, h1⟩ := draw_at hds 1
  obtain ⟨d2, h2⟩ := draw_at hds 2
  walk_at "go"
  refine ⟨dl, ds, 3, rfl, hd, hds, fun ev H2 e s2 he hx hh => ?_⟩
  have hd2 := s2 _ _ hd
  have hl2 := s2 _ _ (s1 _ _ hl)
  walk_at "go"
  refine ⟨by show 1 ≤ sizeLine; decide, fun p1 n1 => ?_⟩
  have kex : ("exit" : Str) = S exitL := TL.ext_tl (by decide +kernel)
  refine r_cat (up_new hl2 n1 _) upd_same (by simp; omega) fun p2 n2 => ?_
  have s3 : Same H2 (upd (upd H2 p1 (.lst [.str "exit"])) p2 (.lst (((labA.take m).map S).map V.str ++ [.str "exit"]))) := by walk_at "sm"
  have hp2 : upd (upd H2 p1 (.lst [.str "exit"])) p2 (.lst (((labA.take m).map S).map V.str ++ [.str "exit"])) p2 = some (.lst (((labA.take m ++ [exitL]).map S).map V.str)) := by
    rw [upd_same, kex]; simp
  generalize upd (upd H2 p1 (.lst [.str "exit"])) p2 (.lst (((labA.take m).map S).map V.str ++ [.str "exit"])) = H3 at s3 hp2 ⊢
  have hd3 := s3 _ _ hd2
  have hl3 := s3 _ _ hl2
  have he3 := he.s s3
  have tl : (((labA.take m ++ [exitL]).map S).map V.str).length = m + 1 := by rw [List.length_map, List.length_map, List.length_append, hlm]; rfl
  have tat : ∀ d : Nat, ∃ t, t ∈ labA.take m ++ [exitL] ∧ (((labA.take m ++ [exitL]).map S).map V.str)[d % (m + 1)]? = some (.str (S t)) := fun d => by
    have : d % (m + 1) < (labA.take m ++ [exitL]).length := by
      have := Nat.mod_lt d (Nat.succ_pos m)
      rw [List.length_append, hlm]; exact this
    exact ⟨_, List.getElem_mem this, by rw [List.getElem?_map, List.getElem?_map, List.getElem?_eq_getElem this]; rfl⟩
  have mm : ∀ d : Nat, ((d : Nat) : Int) % ((m + 1 : Nat) : Int) = ((d % (m + 1) : Nat) : Int) := fun d => Int.natCast_emod d (m + 1) |>.symm
  have hmp : (0 : Int) < ((m + 1 : Nat) : Int) := by omega
  obtain ⟨t0, ht0, hat0⟩ := tat d1
  obtain ⟨t1, ht1, hat1⟩ := tat d2
  obtain ⟨lk, hlk⟩ : ∃ lk, (labA.take m)[k]? = some lk := ⟨_, List.getElem?_eq_getElem (by omega)⟩
  have hlk2 : (((labA.take m).map S).map V.str)[k]? = some (.str (S lk)) := by rw [List.getElem?_map, List.getElem?_map, hlk]; rfl
  have e3 : ((d0 : Nat) : Int) % 3 = ((d0 % 3 : Nat) : Int) := by omega
  have ed2 : ((d2 : Nat) : Int) % 3 = ((d2 % 3 : Nat) : Int) := by omega
  walk_at "go"
  refine r_ixL1 hd3 h1 ?_
  walk_at "go"
  refine ⟨p2, _, rfl, .inl (SqL.of hp2), ?_⟩
  rw [tl]
  refine r_I hmp ?_
  rw [mm]
  refine r_ixL (k := ((d1 % (m + 1) : Nat) : Int)) hp2 (atI_nat hat0) ?_
  walk_at "go"
  refine r_ixL0 hd3 h0 ?_
  walk_at "go"
  refine r_I (by decide) ?_
  rw [e3]
  walk_at "go"
  refine r_if2 (fun hb => ?_) (fun hb => ?_)
  · walk_at "go"
    refine r_ixL (k := ((k : Nat) : Int)) hl3 (atI_nat hlk2) ?_
    walk_at "go"
    refine ⟨by show 2 ≤ sizeLine; decide, fun p3 n3 => ?_⟩
    have hd4 := up_new hd3 n3 (.tup [.str "if", ev])
    have hp4 := up_new hp2 n3 (.tup [.str "if", ev])
    walk_at "go"
    refine r_ixL2 hd4 h2 ?_
    walk_at "go"
    refine ⟨p2, _, rfl, .inl (SqL.of hp4), ?_⟩
    rw [tl]
    refine r_I hmp ?_
    rw [mm]
    refine r_ixL (k := ((d2 % (m + 1) : Nat) : Int)) hp4 (atI_nat hat1) ?_
    walk_at "go"
    refine ⟨by show 2 ≤ sizeLine; decide, fun p5 n5 => ?_⟩
    walk_at "go"
    refine ⟨by show 3 ≤ sizeLine; decide, fun p6 n6 => ?_⟩
    refine q _ _ ⟨lk, .iff e, t0, t1⟩ (by walk_at "sm") ?_ ⟨hlk, hx, hh, by simp, ht0, ht1⟩
    exact rep_new n6 (reps_cons str_rep (reps_cons (Rep.s (Same.newo n5 _) (rep_new n3 (reps_cons str_rep (reps_cons he3 reps_nil)))) (reps_cons (rep_new n5 (reps_cons str_rep (reps_cons str_rep reps_nil))) reps_nil)))
  walk_at "go"
  refine r_ixL0 hd3 h0 ?_
  walk_at "go"
  refine r_I (by decide) ?_
  rw [e3]
  walk_at "go"
  refine r_if2 (fun hb2 => ?_) (fun hb2 => ?_)
  · walk_at "go"
    refine r_ixL (k := ((k : Nat) : Int)) hl3 (atI_nat hlk2) ?_
    walk_at "go"
    refine ⟨by show 2 ≤ sizeLine; decide, fun p3 n3 => ?_⟩
    walk_at "go"
    refine ⟨by show 1 ≤ sizeLine; decide, fun p5 n5 => ?_⟩
    walk_at "go"
    refine ⟨by show 3 ≤ sizeLine; decide, fun p6 n6 => ?_⟩
    refine q _ _ ⟨lk, .prt e, t0, t0⟩ (by walk_at "sm") ?_ ⟨hlk, hx, hh, by simp, ht0, ht0⟩
    exact rep_new n6 (reps_cons str_rep (reps_cons (Rep.s (Same.newo n5 _) (rep_new n3 (reps_cons str_rep (reps_cons he3 reps_nil)))) (reps_cons (rep_new n5 (reps_cons str_rep reps_nil)) reps_nil)))
  obtain ⟨cn, hcn, hcn2⟩ : ∃ cn, (TL.tl ("xyz" : Str))[d2 % 3]? = some cn ∧ (cn = 120 ∨ cn = 121 ∨ cn = 122) := by
    have ez : TL.tl ("xyz" : Str) = [120, 121, 122] := by decide +kernel
    rw [ez]
    have h3 : d2 % 3 = 0 ∨ d2 % 3 = 1 ∨ d2 % 3 = 2 := by omega
    rcases h3 with h | h | h <;> rw [h]
    · exact ⟨120, rfl, .inl rfl⟩
    · exact ⟨121, rfl, .inr (.inl rfl)⟩
    · exact ⟨122, rfl, .inr (.inr rfl)⟩
  walk_at "go"
  refine r_ixL (k := ((k : Nat) : Int)) hl3 (atI_nat hlk2) ?_
  walk_at "go"
  refine r_ixL2 hd3 h2 ?_
  walk_at "go"
  refine r_I (by decide) ?_
  rw [ed2]
  refine ⟨"xyz", _, cn, rfl, rfl, by decide +kernel, atI_nat hcn, ?_⟩
  walk_at "go"
  refine ⟨by show 3 ≤ sizeLine; decide, fun p3 n3 => ?_⟩
  walk_at "go"
  refine ⟨by show 1 ≤ sizeLine; decide, fun p5 n5 => ?_⟩
  walk_at "go"
  refine ⟨by show 3 ≤ sizeLine; decide, fun p6 n6 => ?_⟩
  refine q _ _ ⟨lk, .set [cn] e, t0, t0⟩ (by walk_at "sm") ?_ ⟨hlk, hx, hh, ?_, ht0, ht0⟩
  · exact rep_new n6 (reps_cons str_rep (reps_cons (Rep.s (Same.newo n5 _) (rep_new n3 (reps_cons str_rep (reps_cons str_rep (reps_cons he3 reps_nil))))) (reps_cons (rep_new n5 (reps_cons str_rep reps_nil)) reps_nil)))
  · intro x e' hxe
    injection hxe with hxe1 hxe2
    rw [← hxe1]
    rcases hcn2 with h | h | h <;> simp [h]
end
end K5
end

section
set_option linter.all false
set_option maxRecDepth 100000
/-! The law's program: node text, text. -/
namespace K5
open PySem PySem.Spec PyProof.Rows L2 SX
/- steps -/
local macro_rules | `(tactic| walk_at "sm") => `(tactic| first | assumption | exact Same.refl _ | (refine Same.mut ?_ (by assumption) _; walk_at "sm") | (refine Same.trans ?_ (Same.newo (by assumption) _); walk_at "sm") | (refine Same.trans ?_ (by assumption); walk_at "sm"))
local macro_rules | `(tactic| walk_at "hp") => `(tactic| first | assumption | exact upd_same | (refine up_new ?_ (by assumption) _; walk_at "hp") | (refine Same.up ?_ (by assumption) (by assumption); walk_at "sm") | (refine Same.look (by assumption) ?_; walk_at "hp"))
local macro_rules | `(tactic| walk_at "rep") => `(tactic| first | assumption | exact str_rep | exact int_rep | exact non_rep | (refine' Rep.s ?s ?h; (case h => assumption); (case s => walk_at "sm")))
local macro_rules | `(tactic| walk_at "if") => `(tactic| first | ((with_reducible refine' r_ifT ?e ?_); (case e => decide +kernel)) | ((with_reducible refine' r_ifF ?e ?_); (case e => decide +kernel)))
local macro_rules | `(tactic| walk_at "sz") => `(tactic| first | omega | decide | (simp only [List.length_map, List.length_append, List.length_cons, List.length_nil, List.length_take]; omega))
local macro_rules | `(tactic| walk_at "s") => `(tactic| first
  | with_reducible refine r_seq ?_ | with_reducible refine r_set ?_ | with_reducible refine r_asg ?_ | with_reducible refine r_ret ?_ | with_reducible refine r_drop ?_ | with_reducible refine r_next ?_ | with_reducible refine r_cont ?_ | with_reducible refine r_brk ?_
  | with_reducible refine r_if ?_ | with_reducible refine r_test ?_ | with_reducible refine r_tB ?_ | with_reducible refine r_bl ?_ | with_reducible refine r_and ?_ | with_reducible refine r_or ?_ | with_reducible refine r_not ?_
  | ((with_reducible refine' r_var ?e ?_); (case e => rfl)) | with_reducible refine r_c ?_ | with_reducible refine r_op ?_ | with_reducible refine r_un ?_ | with_reducible refine r_ifx ?_ | with_reducible refine r_andV ?_ | with_reducible refine r_orV ?_ | with_reducible refine r_notV ?_
  | with_reducible refine r_nil ?_ | with_reducible refine r_cons ?_ | with_reducible refine r_cb ?_ | with_reducible refine r_bm ?_ | with_reducible refine r_bm0 ?_ | with_reducible refine r_lst ?_ | with_reducible refine r_tup ?_ | with_reducible refine r_call ?_
  | with_reducible refine r_lc ?_ | with_reducible refine r_dc ?_ | with_reducible refine r_for ?_ | with_reducible refine r_iTup ?_ | with_reducible refine r_iList ?_ | with_reducible refine r_iEnum ?_ | with_reducible refine r_iRng1 ?_
  | with_reducible refine r_sl ?_ | with_reducible refine r_part ?_ | with_reducible refine r_nop ?_ | with_reducible refine r_int ?_ | with_reducible refine r_then ?_ | with_reducible refine r_yes ?_
  | with_reducible refine r_gname ?_ | with_reducible refine r_gcons ?_ | with_reducible refine r_gnil ?_
  | ((with_reducible refine' r_eq ?e ?_); (case e => rfl)) | ((with_reducible refine' r_ne ?e ?_); (case e => rfl)) | with_reducible refine r_I0 ?_
  | ((with_reducible refine' r_ixT0 ?e ?f ?_); (case e => walk_at "hp"); (case f => rfl)) | ((with_reducible refine' r_ixT1 ?e ?f ?_); (case e => walk_at "hp"); (case f => rfl)) | ((with_reducible refine' r_ixT2 ?e ?f ?_); (case e => walk_at "hp"); (case f => rfl)) | ((with_reducible refine' r_ixT3 ?e ?f ?_); (case e => walk_at "hp"); (case f => rfl)) | ((with_reducible refine' r_ixT4 ?e ?f ?_); (case e => walk_at "hp"); (case f => rfl)) | ((with_reducible refine' r_ixL0 ?e ?f ?_); (case e => walk_at "hp"); (case f => rfl)) | ((with_reducible refine' r_ixL1 ?e ?f ?_); (case e => walk_at "hp"); (case f => rfl)) | ((with_reducible refine' r_ixL2 ?e ?f ?_); (case e => walk_at "hp"); (case f => rfl)) | ((with_reducible refine' r_ixL3 ?e ?f ?_); (case e => walk_at "hp"); (case f => rfl)) | ((with_reducible refine' r_ixL4 ?e ?f ?_); (case e => walk_at "hp"); (case f => rfl))
  | ((with_reducible refine' r_ixT ?e ?f ?_); (case e => walk_at "hp"); (case f => rfl)) | ((with_reducible refine' r_ixL ?e ?f ?_); (case e => walk_at "hp"); (case f => rfl))
  | ((with_reducible refine' r_append ?e ?f ?_); (case e => walk_at "hp"); (case f => walk_at "sz")) | ((with_reducible refine' r_extend ?e ?e2 ?f ?_); (case e => walk_at "hp"); (case e2 => walk_at "hp"); (case f => walk_at "sz"))
  | with_reducible refine r_fldE ?_ | with_reducible refine r_methE ?_ | with_reducible refine r_make ?_ | with_reducible refine r_sfld ?_ | with_reducible refine r_iEnumT ?_ | with_reducible refine r_inSg ?_ | with_reducible refine r_ninSg ?_ | with_reducible refine r_bmfE ?_ | with_reducible refine r_dget1 ?_ | with_reducible refine r_chain ?_ | with_reducible refine r_sm ?_ | with_reducible refine r_jcons ?_ | with_reducible refine r_jnil ?_ | with_reducible refine r_fmtE ?_ | with_reducible refine r_lockE ?_ | with_reducible refine r_iKeys ?_ | with_reducible refine r_tupFE ?_ | with_reducible refine r_m1E ?_ | with_reducible refine r_m0E ?_ | with_reducible refine r_sfa ?_ | with_reducible refine r_rAdd ?_
  | with_reducible refine r_dgetE ?_ | with_reducible refine r_dinE ?_ | with_reducible refine r_dninE ?_ | with_reducible refine r_dputE ?_ | with_reducible refine r_dnew ?_ | with_reducible refine r_neg ?_
  | ((with_reducible refine' r_truL ?e ?_); (case e => walk_at "hp"))
  | ((with_reducible refine' r_gtup ?e ?f ?_); (case e => walk_at "hp"); (case f => rfl))
  | ((with_reducible refine' r_tyL ?e ?_); (case e => walk_at "hp")) | walk_at "if")
local macro_rules | `(tactic| walk_at "go") => `(tactic| repeat walk_at "s")
/- steps end -/
/-- the text of a deed, of a node -/
def dt : Dd → List Nat
  | .set x e => x ++ [32, 61, 32] ++ xt e
  | .prt e => [112, 114, 105, 110, 116, 32] ++ xt e
  | .iff e => [105, 102, 32] ++ xt e
def nt (n : Pn) : List Nat := n.l ++ [58, 32] ++ dt n.d ++ [32, 103, 111, 116, 111, 32] ++ n.t0 ++ (match n.d with
  | .iff _ => [32, 101, 108, 115, 101, 32] ++ n.t1
  | _ => [])
def Dd.nm : Dd → List Nat
  | .set x _ => x
  | _ => []
structure NT (n : Pn) : Prop where
  x : XG n.d.x
  h : hgt n.d.x ≤ 3
  l : n.l.length ≤ 10
  l2 : n.d.nm.length ≤ 10
  t0 : n.t0.length ≤ 10
  t1 : n.t1.length ≤ 10
theorem nt_len {n : Pn} (h : NT n) : (nt n).length ≤ 200 := by
  obtain ⟨hx, hh, hl, hl2, h0, h1⟩ := h
  have hxt : (xt n.d.x).length + 5 ≤ 48 := xt_le (n := 2) hx hh
  obtain ⟨l, d, t0, t1⟩ := n
  cases d with
  | set x e =>
    replace hl2 : x.length ≤ 10 := hl2
    replace hxt : (xt e).length + 5 ≤ 48 := hxt
    simp [nt, dt] at *; omega
  | prt e =>
    replace hxt : (xt e).length + 5 ≤ 48 := hxt
    simp [nt, dt] at *; omega
  | iff e =>
    replace hxt : (xt e).length + 5 ≤ 48 := hxt
    simp [nt, dt] at *; omega
def spNTx : Sp := fun vs H Q _ => ∃ (v : V) (n : Pn), vs = [v] ∧ Rep H (nD n) v ∧ NT n ∧ ∀ H', Same H H' → Q (.str (S (nt n))) H'
def spTx (K : PySem.W.Frag) : Sp := fun vs H Q _ => ∃ (p l : Addr) (x : List Nat) (us : List V) (ns : List Pn), vs = [.ref p] ∧ H p = some (.tup [.str (S x), .ref l]) ∧ H l = some (.lst us) ∧ Paired (fun n v => Rep H (nD n) v) ns us ∧ (∀ n ∈ ns, NT n) ∧ ns.length ≤ 8 ∧ x.length ≤ 10 ∧
  ∀ H', Same H H' → Q (.str (S (srcT (ch "entry " ++ x) (ns.map nt)))) H'
section
variable {P : PySem.Program} {w : World} {K : PySem.W.Frag} {mg : Str → Option Value} {base : Heap}
theorem scNTx : FnScope ["_law_node_here", "_law_deed", "_law_text_here"] ["_law_node_here"] (defScope (top 91)) := ⟨rfl, rfl, rfl, by decide +kernel, rfl, by decide +kernel, by decide +kernel⟩
theorem ntx_cal (T : Tx w K mg) : C8.Cal P w K mg base 4 "_law_node_text" spNTx [] := by
  have m_len := T.free "len" (by decide +kernel)
  have c_law_expression_text : C8.Cal P w K mg base 3 "_law_expression_text" (spXT 3) [] := xt_cal T 3
  refine cal T (i := 91) (by decide +kernel) scNTx (fun vs H Q E h => ?_) (fun _ _ _ _ _ _ us hl => match us, hl with | [_], _ => rfl) (fun cdv A outer s H vs Q E hr h => ?_)
  · obtain ⟨l, _, rfl, _⟩ := h
    rfl
  obtain ⟨v, n, rfl, hv, ⟨hx, hh, hl, hl2, hl3, hl4⟩, q⟩ := h
  refine ⟨_, (pss_cons (ps_set (i := 1) scNTx.nd rfl (.inl rfl) (pe_ix ix_tup (pv 0) pe_int (fun _ _ => rfl)))
(pss_cons (ps_set (i := 2) scNTx.nd rfl (.inl rfl) (pe_op op_catS (pe_ix ix_tup (pv 0) pe_int (fun _ _ => rfl)) pe_str))
(pss_cons (ps_if (pt_cmpR op_eq (pe_ix ix_tup (pv 1) pe_int (fun _ _ => rfl)) pe_str (nomark _))
(pss_one (ps_set (i := 2) scNTx.nd rfl (.inl rfl) (pe_op op_catS (pe_op op_catS (pe_op op_catS (pv 2) (pe_ix ix_tup (pv 1) pe_int (fun _ _ => rfl))) pe_str) (C8.pe_c c_law_expression_text hr (by omega) rfl (pa_cons (pe_ix ix_tup (pv 1) pe_int (fun _ _ => rfl)) pa_nil)))))
(pss_one (ps_set (i := 2) scNTx.nd rfl (.inl rfl) (pe_op op_catS (pe_op op_catS (pe_op op_catS (pv 2) (pe_ix ix_tup (pv 1) pe_int (fun _ _ => rfl))) pe_str) (C8.pe_c c_law_expression_text hr (by omega) rfl (pa_cons (pe_ix ix_tup (pv 1) pe_int (fun _ _ => rfl)) pa_nil))))))
(pss_cons (ps_set (i := 2) scNTx.nd rfl (.inl rfl) (pe_op op_catS (pe_op op_catS (pv 2) pe_str) (pe_ix ix_tup (pe_ix ix_tup (pv 0) pe_int (fun _ _ => rfl)) pe_int (fun _ _ => rfl))))
(pss_cons (ps_if (pt_cmpR op_eq (pe_callB call_len_seq rfl m_len PySem.boot_len (pa_cons (pe_ix ix_tup (pv 0) pe_int (fun _ _ => rfl)) pa_nil)) pe_int (nomark _))
(pss_one (ps_set (i := 2) scNTx.nd rfl (.inl rfl) (pe_op op_catS (pe_op op_catS (pv 2) pe_str) (pe_ix ix_tup (pe_ix ix_tup (pv 0) pe_int (fun _ _ => rfl)) pe_int (fun _ _ => rfl)))))
pss_nil)
(pss_one (ps_ret (pv 2)))))))), ?_⟩
  have q1 : (": " : Str) = S [58, 32] := TL.ext_tl (by decide +kernel)
  have q2 : (" goto " : Str) = S [32, 103, 111, 116, 111, 32] := TL.ext_tl (by decide +kernel)
  have q3 : (" = " : Str) = S [32, 61, 32] := TL.ext_tl (by decide +kernel)
  have q4 : (" " : Str) = S [32] := TL.ext_tl (by decide +kernel)
  have q5 : ("print" : Str) = S [112, 114, 105, 110, 116] := TL.ext_tl (by decide +kernel)
  have q6 : ("if" : Str) = S [105, 102] := TL.ext_tl (by decide +kernel)
  have q7 : (" else " : Str) = S [32, 101, 108, 115, 101, 32] := TL.ext_tl (by decide +kernel)
  obtain ⟨l, d, t0, t1⟩ := n
  replace hl : l.length ≤ 10 := hl
  replace hl3 : t0.length ≤ 10 := hl3
  replace hl4 : t1.length ≤ 10 := hl4
  obtain ⟨p, xs, rfl, hp, ha0⟩ := rep_tup hv
  obtain ⟨x1, r1, rfl, h1, ha1⟩ := cons_reps ha0
  obtain ⟨x2, r2, rfl, h2, ha2⟩ := cons_reps ha1
  obtain ⟨x3, r3, rfl, h3, ha3⟩ := cons_reps ha2
  obtain rfl := nil_reps ha3
  obtain rfl := rep_str h1
  cases d with
  | set x e =>
    obtain ⟨pd, dxs, rfl, hpd, hds⟩ := rep_tup h2
    obtain ⟨y1, r4, rfl, g1, hb1⟩ := cons_reps hds
    obtain rfl := rep_str g1
    obtain ⟨y2, r5, rfl, g2, hb2⟩ := cons_reps hb1
    obtain ⟨y3, r7, rfl, g3, hb3⟩ := cons_reps hb2
    obtain rfl := nil_reps hb3
    obtain rfl := rep_str g2
    replace hl2 : x.length ≤ 10 := hl2
    replace hpd : H pd = some (.tup [.str "set", .str (S x), y3]) := hpd
    obtain ⟨pt, txs, rfl, hpt, hts⟩ := rep_tup h3
    obtain ⟨z1, r6, rfl, k1, hc1⟩ := cons_reps hts
    obtain rfl := rep_str k1
    obtain rfl := nil_reps hc1
    replace hpt : H pt = some (.tup [.str (S t0)]) := hpt
    have hxt : (xt e).length + 5 ≤ 48 := xt_le (n := 2) hx hh
    walk_at "go"
    rw [q1]
    refine r_catS (by show l.length + 2 ≤ _; omega) ?_
    walk_at "go"
    refine r_catS (by simp; omega) ?_
    walk_at "go"
    rw [q3]
    refine r_catS (by simp; omega) ?_
    walk_at "go"
    refine ⟨y3, e, rfl, g3, hx, hh, by omega, fun H1 s1 => ?_⟩
    refine r_catS (by simp; omega) ?_
    have hpt1 := s1 _ _ hpt
    have hp1 := s1 _ _ hp
    walk_at "go"
    rw [q2]
    refine r_catS (by simp; omega) ?_
    walk_at "go"
    refine r_catS (by simp; omega) ?_
    walk_at "go"
    refine ⟨pt, _, rfl, .inr (SqT.of hpt1), ?_⟩
    rw [show ([.str (S t0)] : List V).length = 1 from rfl]
    walk_at "go"
    have e : l ++ [58, 32] ++ x ++ [32, 61, 32] ++ xt e ++ [32, 103, 111, 116, 111, 32] ++ t0 = nt ⟨l, .set x e, t0, t1⟩ := by simp [nt, dt]
    rw [e]
    exact q H1 s1
  | prt e =>
    obtain ⟨pd, dxs, rfl, hpd, hds⟩ := rep_tup h2
    obtain ⟨y1, r4, rfl, g1, hb1⟩ := cons_reps hds
    obtain rfl := rep_str g1
    obtain ⟨y2, r5, rfl, g2, hb2⟩ := cons_reps hb1
    obtain rfl := nil_reps hb2
    replace hpd : H pd = some (.tup [.str "print", y2]) := hpd
    obtain ⟨pt, txs, rfl, hpt, hts⟩ := rep_tup h3
    obtain ⟨z1, r6, rfl, k1, hc1⟩ := cons_reps hts
    obtain rfl := rep_str k1
    obtain rfl := nil_reps hc1
    replace hpt : H pt = some (.tup [.str (S t0)]) := hpt
    have hxt : (xt e).length + 5 ≤ 48 := xt_le (n := 2) hx hh
    walk_at "go"
    rw [q1]
    refine r_catS (by show l.length + 2 ≤ _; omega) ?_
    walk_at "go"
    rw [q5]
    refine r_catS (by simp; omega) ?_
    walk_at "go"
    rw [q4]
    refine r_catS (by simp; omega) ?_
    walk_at "go"
    refine ⟨y2, e, rfl, g2, hx, hh, by omega, fun H1 s1 => ?_⟩
    refine r_catS (by simp; omega) ?_
    have hpt1 := s1 _ _ hpt
    have hp1 := s1 _ _ hp
    walk_at "go"
    rw [q2]
    refine r_catS (by simp; omega) ?_
    walk_at "go"
    refine r_catS (by simp; omega) ?_
    walk_at "go"
    refine ⟨pt, _, rfl, .inr (SqT.of hpt1), ?_⟩
    rw [show ([.str (S t0)] : List V).length = 1 from rfl]
    walk_at "go"
    have e : l ++ [58, 32] ++ [112, 114, 105, 110, 116] ++ [32] ++ xt e ++ [32, 103, 111, 116, 111, 32] ++ t0 = nt ⟨l, .prt e, t0, t1⟩ := by simp [nt, dt]
    rw [e]
    exact q H1 s1
  | iff e =>
    obtain ⟨pd, dxs, rfl, hpd, hds⟩ := rep_tup h2
    obtain ⟨y1, r4, rfl, g1, hb1⟩ := cons_reps hds
    obtain rfl := rep_str g1
    obtain ⟨y2, r5, rfl, g2, hb2⟩ := cons_reps hb1
    obtain rfl := nil_reps hb2
    replace hpd : H pd = some (.tup [.str "if", y2]) := hpd
    obtain ⟨pt, txs, rfl, hpt, hts⟩ := rep_tup h3
    obtain ⟨z1, r6, rfl, k1, hc1⟩ := cons_reps hts
    obtain rfl := rep_str k1
    obtain ⟨z2, r8, rfl, k2, hc2⟩ := cons_reps hc1
    obtain rfl := nil_reps hc2
    obtain rfl := rep_str k2
    replace hpt : H pt = some (.tup [.str (S t0), .str (S t1)]) := hpt
    have hxt : (xt e).length + 5 ≤ 48 := xt_le (n := 2) hx hh
    walk_at "go"
    rw [q1]
    refine r_catS (by show l.length + 2 ≤ _; omega) ?_
    walk_at "go"
    rw [q6]
    refine r_catS (by simp; omega) ?_
    walk_at "go"
    rw [q4]
    refine r_catS (by simp; omega) ?_
    walk_at "go"
    refine ⟨y2, e, rfl, g2, hx, hh, by omega, fun H1 s1 => ?_⟩
    refine r_catS (by simp; omega) ?_
    have hpt1 := s1 _ _ hpt
    have hp1 := s1 _ _ hp
    walk_at "go"
    rw [q2]
    refine r_catS (by simp; omega) ?_
    walk_at "go"
    refine r_catS (by simp; omega) ?_
    walk_at "go"
    refine ⟨pt, _, rfl, .inr (SqT.of hpt1), ?_⟩
    rw [show ([.str (S t0), .str (S t1)] : List V).length = 2 from rfl]
    walk_at "go"
    rw [q7]
    refine r_catS (by simp; omega) ?_
    walk_at "go"
    refine r_catS (by simp; omega) ?_
    have e : l ++ [58, 32] ++ [105, 102] ++ [32] ++ xt e ++ [32, 103, 111, 116, 111, 32] ++ t0 ++ [32, 101, 108, 115, 101, 32] ++ t1 = nt ⟨l, .iff e, t0, t1⟩ := by simp [nt, dt]
    rw [e]
    walk_at "go"
    exact q H1 s1
theorem scTxt : FnScope ["_law_program_here", "_law_node_here"] ["_law_program_here"] (defScope (top 92)) := ⟨rfl, rfl, rfl, by decide +kernel, rfl, by decide +kernel, by decide +kernel⟩
theorem tx_cal (T : Tx w K mg) : C8.Cal P w K mg base 5 "_law_text" (spTx K) [] := by
  have c_law_node_text : C8.Cal P w K mg base 4 "_law_node_text" spNTx [] := ntx_cal T
  refine cal T (i := 92) (by decide +kernel) scTxt (fun vs H Q E h => ?_) (fun _ _ _ _ _ _ us hl => match us, hl with | [_], _ => rfl) (fun cdv A outer s H vs Q E hr h => ?_)
  · obtain ⟨l, _, _, _, _, rfl, _⟩ := h
    rfl
  obtain ⟨p, l, x, us, ns, rfl, hp, hl, hpr, hns, hn8, hx, q⟩ := h
  have hul := Paired.length hpr
  refine ⟨_, (pss_one (ps_ret (L2.pe_join pe_str (pe_op op_cat (pe_lst (pa_cons (pe_op op_catS pe_str (pe_ix ix_tup (pv 0) pe_int (fun _ _ => rfl))) pa_nil)) (pe_lc (own := [("_law_node_here", 1)]) (g := gName 1) (tt := tYes) (te := tCall spNTx [] C8.E0 (tCons (tVar 1) tNil)) rfl scTxt.nd (pi_list (pe_ix ix_tup (pv 0) pe_int (fun _ _ => rfl))) (blkOk_by (N := ["_law_program_here", "_law_node_here"]) (sc := defScope (top 92)) (by decide +kernel)) (fun _ _ _ _ _ => pg_name (i := 1) scTxt.nd rfl (.inl rfl)) (fun _ _ _ _ _ => pts_nil) (fun _ _ _ _ _ => C8.pe_c c_law_node_text hr (by omega) rfl (pa_cons (pv 1) pa_nil))))))), ?_⟩
  have k3 : ("entry " : Str) = S (ch "entry ") := (S_ch _).symm
  have k4 : (ch "entry ").length = 6 := by decide +kernel
  walk_at "go"
  refine ⟨⟨_, rfl⟩, ?_⟩
  walk_at "go"
  rw [k3]
  refine r_catS (by omega) ?_
  walk_at "go"
  refine ⟨by show 1 ≤ sizeLine; decide, fun p1 n1 => ?_⟩
  have s1 : Same H (upd H p1 (.lst [.str (S (ch "entry " ++ x))])) := Same.newo n1 _
  have hp1 : upd H p1 (.lst [.str (S (ch "entry " ++ x))]) p1 = some (.lst ([S (ch "entry " ++ x)].map V.str)) := upd_same
  generalize upd H p1 (.lst [.str (S (ch "entry " ++ x))]) = H1 at s1 hp1 ⊢
  have hp2 := s1 _ _ hp
  have hl1 := s1 _ _ hl
  walk_at "go"
  refine ⟨l, rfl, ⟨_, SqL.of hl1⟩, fun D nD0 => lc_list (xs := us) (fun i H' => Same H1 H' ∧ H' D = some (.lst (((ns.take i).map fun n => S (nt n)).map V.str)))
    ⟨Same.newo nD0 _, upd_same⟩ (fun i H' _ ⟨s2, _⟩ => SqL.of (s2 _ _ hl1)) ?_ ?_⟩
  · rintro i y H' hi ⟨s2, hD⟩
    obtain ⟨n, hn, hnd⟩ := paired_got hpr hi
    have hnm := List.mem_of_getElem? hn
    walk_at "go"
    refine ⟨rfl, ?_⟩
    walk_at "go"
    refine ⟨y, n, rfl, hnd.s (Same.trans s1 s2), hns n hnm, fun H2 s3 => ?_⟩
    refine ⟨_, s3 _ _ hD, szl (by simp; omega), Same.mut (Same.trans s2 s3) nD0 _, ?_⟩
    rw [upd_same, List.take_add_one, hn]; simp
  · rintro H' ⟨s2, hD⟩
    rw [← hul, List.take_length] at hD
    refine r_cat (s2 _ _ hp1) hD (by simp; omega) fun p5 n5 => ?_
    have hsum : ((ns.map fun n => S (nt n)).map (·.length)).sum ≤ 2000 * (ns.map fun n => S (nt n)).length := sum_le_of fun z hz => by
      obtain ⟨n, hn, rfl⟩ := List.mem_map.mp hz
      rw [S_len]
      exact Nat.le_trans (nt_len (hns n hn)) (by decide)
    rw [List.length_map] at hsum
    refine ⟨"\n", p5, S (ch "entry " ++ x) :: ns.map fun n => S (nt n), rfl, rfl, .inl (SqL.of (by rw [upd_same]; rfl)), ?_, ?_⟩
    · have k1 : ("\n" : Str).length = 1 := by decide +kernel
      have k5 : (S (ch "entry " ++ x)).length = 6 + x.length := by rw [S_len, List.length_append, k4]
      simp only [List.map_cons, List.sum_cons, List.length_cons, k1, k5]
      simp only [List.map_map, List.length_map] at hsum ⊢
      generalize hss : (List.map ((fun x : Str => x.length) ∘ fun n => S (nt n)) ns).sum = ss at hsum ⊢
      show _ ≤ sizeLine
      exact sz (by omega)
    · have e : Txt.join "\n" (S (ch "entry " ++ x) :: ns.map fun n => S (nt n)) = S (srcT (ch "entry " ++ x) (ns.map nt)) := by
        rw [show ("\n" : Str) = S [10] from TL.ext_tl (by decide +kernel), show (S (ch "entry " ++ x) :: ns.map fun n => S (nt n)) = ((ch "entry " ++ x) :: ns.map nt).map S by rw [List.map_cons, List.map_map]; rfl]
        exact join_S _ _
      rw [e]
      exact q _ (Same.trans s1 (Same.trans s2 (Same.newo n5 _)))
end
end K5
end

section
set_option linter.all false
set_option maxRecDepth 100000
/-! The law's program. -/
namespace K5
open PySem PySem.Spec PyProof.Rows L2 SX
/- steps -/
local macro_rules | `(tactic| walk_at "sm") => `(tactic| first | assumption | exact Same.refl _ | (refine Same.mut ?_ (by assumption) _; walk_at "sm") | (refine Same.trans ?_ (Same.newo (by assumption) _); walk_at "sm") | (refine Same.trans ?_ (by assumption); walk_at "sm"))
local macro_rules | `(tactic| walk_at "hp") => `(tactic| first | assumption | exact upd_same | (refine up_new ?_ (by assumption) _; walk_at "hp") | (refine Same.up ?_ (by assumption) (by assumption); walk_at "sm") | (refine Same.look (by assumption) ?_; walk_at "hp"))
local macro_rules | `(tactic| walk_at "rep") => `(tactic| first | assumption | exact str_rep | exact int_rep | exact non_rep | (refine' Rep.s ?s ?h; (case h => assumption); (case s => walk_at "sm")))
local macro_rules | `(tactic| walk_at "if") => `(tactic| first | ((with_reducible refine' r_ifT ?e ?_); (case e => decide +kernel)) | ((with_reducible refine' r_ifF ?e ?_); (case e => decide +kernel)))
local macro_rules | `(tactic| walk_at "sz") => `(tactic| first | omega | decide | (simp only [List.length_map, List.length_append, List.length_cons, List.length_nil, List.length_take]; omega))
local macro_rules | `(tactic| walk_at "s") => `(tactic| first
  | with_reducible refine r_seq ?_ | with_reducible refine r_set ?_ | with_reducible refine r_asg ?_ | with_reducible refine r_ret ?_ | with_reducible refine r_drop ?_ | with_reducible refine r_next ?_ | with_reducible refine r_cont ?_ | with_reducible refine r_brk ?_
  | with_reducible refine r_if ?_ | with_reducible refine r_test ?_ | with_reducible refine r_tB ?_ | with_reducible refine r_bl ?_ | with_reducible refine r_and ?_ | with_reducible refine r_or ?_ | with_reducible refine r_not ?_
  | ((with_reducible refine' r_var ?e ?_); (case e => rfl)) | with_reducible refine r_c ?_ | with_reducible refine r_op ?_ | with_reducible refine r_un ?_ | with_reducible refine r_ifx ?_ | with_reducible refine r_andV ?_ | with_reducible refine r_orV ?_ | with_reducible refine r_notV ?_
  | with_reducible refine r_nil ?_ | with_reducible refine r_cons ?_ | with_reducible refine r_cb ?_ | with_reducible refine r_bm ?_ | with_reducible refine r_bm0 ?_ | with_reducible refine r_lst ?_ | with_reducible refine r_tup ?_ | with_reducible refine r_call ?_
  | with_reducible refine r_lc ?_ | with_reducible refine r_dc ?_ | with_reducible refine r_for ?_ | with_reducible refine r_iTup ?_ | with_reducible refine r_iList ?_ | with_reducible refine r_iEnum ?_ | with_reducible refine r_iRng1 ?_
  | with_reducible refine r_sl ?_ | with_reducible refine r_part ?_ | with_reducible refine r_nop ?_ | with_reducible refine r_int ?_ | with_reducible refine r_then ?_ | with_reducible refine r_yes ?_
  | with_reducible refine r_gname ?_ | with_reducible refine r_gcons ?_ | with_reducible refine r_gnil ?_
  | ((with_reducible refine' r_eq ?e ?_); (case e => rfl)) | ((with_reducible refine' r_ne ?e ?_); (case e => rfl)) | with_reducible refine r_I0 ?_
  | ((with_reducible refine' r_ixT0 ?e ?f ?_); (case e => walk_at "hp"); (case f => rfl)) | ((with_reducible refine' r_ixT1 ?e ?f ?_); (case e => walk_at "hp"); (case f => rfl)) | ((with_reducible refine' r_ixT2 ?e ?f ?_); (case e => walk_at "hp"); (case f => rfl)) | ((with_reducible refine' r_ixT3 ?e ?f ?_); (case e => walk_at "hp"); (case f => rfl)) | ((with_reducible refine' r_ixT4 ?e ?f ?_); (case e => walk_at "hp"); (case f => rfl)) | ((with_reducible refine' r_ixL0 ?e ?f ?_); (case e => walk_at "hp"); (case f => rfl)) | ((with_reducible refine' r_ixL1 ?e ?f ?_); (case e => walk_at "hp"); (case f => rfl)) | ((with_reducible refine' r_ixL2 ?e ?f ?_); (case e => walk_at "hp"); (case f => rfl)) | ((with_reducible refine' r_ixL3 ?e ?f ?_); (case e => walk_at "hp"); (case f => rfl)) | ((with_reducible refine' r_ixL4 ?e ?f ?_); (case e => walk_at "hp"); (case f => rfl))
  | ((with_reducible refine' r_ixT ?e ?f ?_); (case e => walk_at "hp"); (case f => rfl)) | ((with_reducible refine' r_ixL ?e ?f ?_); (case e => walk_at "hp"); (case f => rfl))
  | ((with_reducible refine' r_append ?e ?f ?_); (case e => walk_at "hp"); (case f => walk_at "sz")) | ((with_reducible refine' r_extend ?e ?e2 ?f ?_); (case e => walk_at "hp"); (case e2 => walk_at "hp"); (case f => walk_at "sz"))
  | with_reducible refine r_fldE ?_ | with_reducible refine r_methE ?_ | with_reducible refine r_make ?_ | with_reducible refine r_sfld ?_ | with_reducible refine r_iEnumT ?_ | with_reducible refine r_inSg ?_ | with_reducible refine r_ninSg ?_ | with_reducible refine r_bmfE ?_ | with_reducible refine r_dget1 ?_ | with_reducible refine r_chain ?_ | with_reducible refine r_sm ?_ | with_reducible refine r_jcons ?_ | with_reducible refine r_jnil ?_ | with_reducible refine r_fmtE ?_ | with_reducible refine r_lockE ?_ | with_reducible refine r_iKeys ?_ | with_reducible refine r_tupFE ?_ | with_reducible refine r_m1E ?_ | with_reducible refine r_m0E ?_ | with_reducible refine r_sfa ?_ | with_reducible refine r_rAdd ?_
  | with_reducible refine r_dgetE ?_ | with_reducible refine r_dinE ?_ | with_reducible refine r_dninE ?_ | with_reducible refine r_dputE ?_ | with_reducible refine r_dnew ?_ | with_reducible refine r_neg ?_
  | ((with_reducible refine' r_truL ?e ?_); (case e => walk_at "hp"))
  | ((with_reducible refine' r_gtup ?e ?f ?_); (case e => walk_at "hp"); (case f => rfl))
  | ((with_reducible refine' r_tyL ?e ?_); (case e => walk_at "hp")) | walk_at "if")
local macro_rules | `(tactic| walk_at "go") => `(tactic| repeat walk_at "s")
/- steps end -/
theorem r_slL {p : Addr} {xs : List V} {n : Nat} {K : PySem.W.Frag} {H : Hp} {Q : VK} (hp : H p = some (.lst xs)) (hn : n ≤ xs.length) (h : ∀ q, H q = none → Q (.ref q) (upd H q (.lst (xs.take n)))) : rSlL K (.ref p) none (some (n : Int)) H Q := by
  have e1 : HT.sIx xs.length xs.length (some (n : Int)) = n := by rw [HT.sIx_nat]; omega
  have e2 : HT.sIx xs.length 0 none = 0 := rfl
  refine ⟨p, xs, rfl, SqL.of hp, fun q hq => ?_⟩
  have e : cutV xs none (some (n : Int)) = xs.take n := by
    unfold cutV
    rw [e1, e2]; simp
  rw [e]
  exact h q hq
/-- what the law's program is -/
def LPg (x : List Nat) (ns : List Pn) : Prop := ∃ m, m ≤ 8 ∧ ns.length = m ∧ x ∈ labA.take m ++ [exitL] ∧ ∀ k n, ns[k]? = some n → NG m k n
def spLP (K : PySem.W.Frag) : Sp := fun vs H Q _ => ∃ (a : Addr) (zs : List Int), vs = [.ref a, .int 0] ∧ SqL K H a (zs.map V.int) ∧
  ∀ q l H' x us ns, Same H H' → H' q = some (.tup [.str (S x), .ref l]) → H' l = some (.lst us) → Paired (fun n v => Rep H' (nD n) v) ns us → LPg x ns → Q (.ref q) H'
theorem sqL_sm {K : PySem.W.Frag} {H H' : Hp} {a : Addr} {xs : List V} (h : SqL K H a xs) (s : Same H H') : SqL K H' a xs := by
  rcases h with (h | ⟨o, h⟩) | h
  · exact .inl (.inl (s _ _ h))
  · exact .inl (.inr ⟨o, s _ _ h⟩)
  · exact .inr h
section
variable {P : PySem.Program} {w : World} {K : PySem.W.Frag} {mg : Str → Option Value} {base : Heap}
theorem scLP : FnScope ["_law_script", "_law_first", "_law_count", "_law_labels", "_law_nodes", "_law_k", "_law_entry"] ["_law_script", "_law_first"] (defScope (top 90)) := ⟨rfl, rfl, rfl, by decide +kernel, rfl, by decide +kernel, by decide +kernel⟩
theorem lp_cal (T : Tx w K mg) : C8.Cal P w K mg base 6 "_law_program" (spLP K) [] := by
  have m_int := T.free "int" (by decide +kernel)
  have m_range := T.free "range" (by decide +kernel)
  have c_law_cell : C8.Cal P w K mg base 1 "_law_cell" (spCell K) [] := cell_cal T
  have c_law_node : C8.Cal P w K mg base 5 "_law_node" spLN [] := ln_cal T
  refine cal T (i := 90) (by decide +kernel) scLP (fun vs H Q E h => ?_) (fun _ _ _ _ _ _ us hl => match us, hl with | [_, _], _ => rfl) (fun cdv A outer s H vs Q E hr h => ?_)
  · obtain ⟨l, _, rfl, _⟩ := h
    rfl
  obtain ⟨a, zs, rfl, ha, q⟩ := h
  refine ⟨_, (pss_cons (ps_set (i := 2) scLP.nd rfl (.inl rfl) (pe_op op_mod (pe_callTy call_int1 rfl m_int PyProof.Rows.boot_int (pa_cons (C8.pe_c c_law_cell hr (by omega) rfl (pa_cons (pv 0) (pa_cons (pv 1) pa_nil))) pa_nil)) pe_int))
(pss_cons (ps_set (i := 3) scLP.nd rfl (.inr rfl) (pe_slice sl_list (pe_lst (pa_cons pe_str (pa_cons pe_str (pa_cons pe_str (pa_cons pe_str (pa_cons pe_str (pa_cons pe_str (pa_cons pe_str (pa_cons pe_str pa_nil))))))))) po_none (po_some (pv 2))))
(pss_cons (ps_setLc (i := 4) (own := [("_law_k", 5)]) (g := gName 5) (tt := tYes) (te := tCall spLN [] C8.E0 (tCons (tCall (spCell K) [] C8.E0 (tCons (tVar 0) (tCons (tOp (rI0 fun i j => .int (i + j)) (tOp (rI0 fun i j => .int (i + j)) (tVar 1) (tC (.int 1))) (tVar 5)) tNil))) (tCons (tVar 5) (tCons (tVar 3) tNil)))) rfl scLP.nd rfl rfl (sw_true rfl rfl rfl (by decide +kernel)) (pi_range1 rfl m_range (pa_cons (pv 2) pa_nil)) (blkOk_by (N := ["_law_script", "_law_first", "_law_count", "_law_labels", "_law_nodes", "_law_k", "_law_entry"]) (sc := defScope (top 90)) (by decide +kernel)) (fun _ _ _ _ _ => pg_name (i := 5) scLP.nd rfl (.inl rfl)) (fun _ _ _ _ _ => pts_nil) (fun _ _ _ _ _ => C8.pe_c c_law_node hr (by omega) rfl (pa_cons (C8.pe_c c_law_cell hr (by omega) rfl (pa_cons (pv 0) (pa_cons (pe_op op_add (pe_op op_add (pv 1) pe_int) (pv 5)) pa_nil))) (pa_cons (pv 5) (pa_cons (pv 3) pa_nil)))))
(pss_cons (ps_set (i := 6) scLP.nd rfl (.inl rfl) pe_str)
(pss_cons (ps_if (PW.pt (pw_and (pt_cmpR op_gt (pv 2) pe_int (nomark _)) (pw_and1 (pt_cmpR op_gt (pe_op op_mod (pe_op op_fdiv (pe_callTy call_int1 rfl m_int PyProof.Rows.boot_int (pa_cons (C8.pe_c c_law_cell hr (by omega) rfl (pa_cons (pv 0) (pa_cons (pv 1) pa_nil))) pa_nil)) pe_int) pe_int) pe_int (nomark _)))))
(pss_one (ps_set (i := 6) scLP.nd rfl (.inl rfl) (pe_ix ix_list (pv 3) (pe_op op_mod (pe_op op_fdiv (pe_callTy call_int1 rfl m_int PyProof.Rows.boot_int (pa_cons (C8.pe_c c_law_cell hr (by omega) rfl (pa_cons (pv 0) (pa_cons (pv 1) pa_nil))) pa_nil)) pe_int) (pv 2)) (fun _ _ => rfl))))
pss_nil)
(pss_one (ps_ret (pe_tup (pa_cons (pv 6) (pa_cons (pv 4) pa_nil)))))))))), ?_⟩
  walk_at "go"
  refine ⟨a, zs, 0, rfl, ha, fun c => ?_⟩
  refine .inl ⟨c, rfl, ?_⟩
  walk_at "go"
  refine r_I (by decide) ?_
  obtain ⟨m, hm, hm8⟩ : ∃ m : Nat, c % 9 = (m : Int) ∧ m ≤ 8 := by
    obtain ⟨m, hm⟩ := Int.eq_ofNat_of_zero_le (Int.emod_nonneg c (by decide : (9 : Int) ≠ 0))
    have := Int.emod_lt_of_pos c (by decide : (0 : Int) < 9)
    exact ⟨m, hm, by omega⟩
  rw [hm]
  walk_at "go"
  refine ⟨by show 8 ≤ sizeLine; decide, fun p1 n1 => ?_⟩
  walk_at "go"
  refine r_slL upd_same hm8 fun ll nl => ?_
  have hll : upd (upd H p1 (.lst [.str "a", .str "b", .str "c.2", .str "d", .str "e", .str "f.7", .str "g", .str "h"])) ll (.lst (([.str "a", .str "b", .str "c.2", .str "d", .str "e", .str "f.7", .str "g", .str "h"] : List V).take m)) ll = some (.lst (((labA.take m).map S).map V.str)) := by
    rw [upd_same, List.map_take, List.map_take]
    have e : ([.str "a", .str "b", .str "c.2", .str "d", .str "e", .str "f.7", .str "g", .str "h"] : List V) = (labA.map S).map V.str := by
      rw [show ("a" : Str) = S [97] from TL.ext_tl (by decide +kernel), show ("b" : Str) = S [98] from TL.ext_tl (by decide +kernel), show ("c.2" : Str) = S [99, 46, 50] from TL.ext_tl (by decide +kernel), show ("d" : Str) = S [100] from TL.ext_tl (by decide +kernel), show ("e" : Str) = S [101] from TL.ext_tl (by decide +kernel), show ("f.7" : Str) = S [102, 46, 55] from TL.ext_tl (by decide +kernel), show ("g" : Str) = S [103] from TL.ext_tl (by decide +kernel), show ("h" : Str) = S [104] from TL.ext_tl (by decide +kernel)]
      rfl
    rw [e]
  have s1 : Same H (upd (upd H p1 (.lst [.str "a", .str "b", .str "c.2", .str "d", .str "e", .str "f.7", .str "g", .str "h"])) ll (.lst (([.str "a", .str "b", .str "c.2", .str "d", .str "e", .str "f.7", .str "g", .str "h"] : List V).take m))) := by walk_at "sm"
  generalize upd (upd H p1 (.lst [.str "a", .str "b", .str "c.2", .str "d", .str "e", .str "f.7", .str "g", .str "h"])) ll (.lst (([.str "a", .str "b", .str "c.2", .str "d", .str "e", .str "f.7", .str "g", .str "h"] : List V).take m)) = H1 at s1 hll ⊢
  have ha1 := sqL_sm ha s1
  walk_at "go"
  refine ⟨m, rfl, by omega, by omega, fun D nD0 => lc_range (lo := 0) (n := m) (fun i H' => Same H1 H' ∧ ∃ us ns, H' D = some (.lst us) ∧ Paired (fun n v => Rep H' (nD n) v) ns us ∧ ns.length = i ∧ ∀ k n, ns[k]? = some n → NG m k n)
    ⟨Same.newo nD0 _, [], [], upd_same, .nil, rfl, fun k n h => by simp at h⟩ ?_ ?_⟩
  · rintro i H2 hi ⟨s2, us, ns, hD, hpr, hlen, hng⟩
    have hul := Paired.length hpr
    have ha2 := sqL_sm ha1 s2
    have hll2 := s2 _ _ hll
    walk_at "go"
    refine ⟨rfl, ?_⟩
    walk_at "go"
    refine ⟨a, zs, 0 + 1 + i, by simp, ha2, fun c2 => ?_⟩
    walk_at "go"
    refine ⟨c2, i, m, ll, by simp, hll2, hi, hm8, fun v H3 n s3 hv hn => ?_⟩
    have s4 : Same H1 (upd H3 D (.lst (us ++ [v]))) := Same.mut (Same.trans s2 s3) nD0 _
    have te : TE_ H3 (upd H3 D (.lst (us ++ [v]))) := te_mutL (s3 _ _ hD)
    refine ⟨_, s3 _ _ hD, szl (by omega), s4, us ++ [v], ns ++ [n], upd_same, ?_, by simp [hlen], fun k n' h => ?_⟩
    · exact Paired.snoc (paired_mono (fun _ _ h => (h.s s3).mono te) hpr) (hv.mono te)
    · rcases Nat.lt_or_ge k ns.length with hk | hk
      · rw [List.getElem?_append_left hk] at h
        exact hng k n' h
      · rw [List.getElem?_append_right hk] at h
        have hk0 : k = i := by
          have := (List.getElem?_eq_some_iff.mp h).1
          simp at this; omega
        subst hk0
        rw [hlen, Nat.sub_self] at h
        cases h
        exact hn
  · rintro H2 ⟨s2, us, ns, hD, hpr, hlen, hng⟩
    have hll2 := s2 _ _ hll
    have ha2 := sqL_sm ha1 s2
    have fin : ∀ x : List Nat, x ∈ labA.take m ++ [exitL] → ∀ q1, H2 q1 = none → Q (.ref q1) (upd H2 q1 (.tup [.str (S x), .ref D])) := fun x hx q1 nq => by
      refine q q1 D _ x us ns (Same.trans s1 (Same.trans s2 (Same.newo nq _))) upd_same (up_new hD nq _) ?_ ⟨m, hm8, hlen, hx, hng⟩
      exact paired_mono (fun n v h => h.s (Same.newo nq _)) hpr
    have kex : ("exit" : Str) = S exitL := TL.ext_tl (by decide +kernel)
    walk_at "go"
    refine r_if2 (fun hb => ?_) (fun hb => ?_)
    · have hm0 : 0 < m := by have := of_decide_eq_true hb; omega
      have hmi : (0 : Int) < (m : Int) := by omega
      walk_at "go"
      refine ⟨a, zs, 0, rfl, ha2, fun c3 => ?_⟩
      refine .inl ⟨c3, rfl, ?_⟩
      walk_at "go"
      refine r_I ⟨by decide, by decide⟩ ?_
      walk_at "go"
      refine r_I (by decide) ?_
      walk_at "go"
      refine r_if2 (fun hb => ?_) (fun hb => ?_)
      · walk_at "go"
        refine ⟨a, zs, 0, rfl, ha2, fun c4 => ?_⟩
        refine .inl ⟨c4, rfl, ?_⟩
        walk_at "go"
        refine r_I ⟨by decide, by decide⟩ ?_
        walk_at "go"
        refine r_I hmi ?_
        obtain ⟨j, hj⟩ := Int.eq_ofNat_of_zero_le (Int.emod_nonneg (c4 / 72) (by omega : (m : Int) ≠ 0))
        have hj2 := Int.emod_lt_of_pos (c4 / 72) hmi
        have hjm : j < m := by omega
        have hlm : (labA.take m).length = m := by rw [List.length_take]; exact Nat.min_eq_left hm8
        rw [hj]
        obtain ⟨lk, hlk⟩ : ∃ lk, (labA.take m)[j]? = some lk := ⟨_, List.getElem?_eq_getElem (by omega)⟩
        have hlk2 : (((labA.take m).map S).map V.str)[j]? = some (.str (S lk)) := by rw [List.getElem?_map, List.getElem?_map, hlk]; rfl
        refine r_ixL (k := ((j : Nat) : Int)) hll2 (atI_nat hlk2) ?_
        walk_at "go"
        exact ⟨by show 2 ≤ sizeLine; decide, fun q1 nq => fin lk (List.mem_append_left _ (List.mem_of_getElem? hlk)) q1 nq⟩
      · walk_at "go"
        rw [kex]
        exact ⟨by show 2 ≤ sizeLine; decide, fun q1 nq => fin exitL (by simp) q1 nq⟩
    · walk_at "go"
      rw [kex]
      exact ⟨by show 2 ≤ sizeLine; decide, fun q1 nq => fin exitL (by simp) q1 nq⟩
end
end K5
end

section
set_option linter.all false
set_option maxRecDepth 100000
/-! What the law's text is: plain facts. -/
namespace K5
open PySem PySem.Spec PyProof.Rows L2 SX
/-- a word with, perhaps, a dot and a number -/
def WF (y : List Nat) : Prop := ∃ a b, y = a ++ b ∧ a ≠ [] ∧ (∀ c ∈ a, c ∈ TL.tl lettersZ) ∧ a.length ≤ 8 ∧ (b = [] ∨ ∃ n, 2 ≤ n ∧ n ≤ 99 ∧ b = 46 :: TL.numL n)
def EndC (r : List Nat) : Prop := ∀ c, r.head? = some c → c = 32 ∨ c = 58 ∨ c = 41
theorem lexW {y r : List Nat} {ts : List Tk} (h : WF y) (hr : EndC r) (t : Lex r ts) : Lex (y ++ r) (.w y :: ts) := by
  obtain ⟨a, b, rfl, h0, hl, h8, hb⟩ := h
  have sl : ∀ c, c = 32 ∨ c = 58 ∨ c = 41 → c ∉ TL.tl lettersZ ∧ c ≠ 46 := by
    rintro c (rfl | rfl | rfl) <;> decide +kernel
  have sd : ∀ c, c = 32 ∨ c = 58 ∨ c = 41 → c ∉ TL.tl digitsZ := by
    rintro c (rfl | rfl | rfl) <;> decide +kernel
  rw [List.append_assoc]
  rcases hb with rfl | ⟨n, h2, h99, rfl⟩
  · exact .wd h0 hl h8 (.inl ⟨rfl, fun c hc => sl c (hr c hc)⟩) t
  · exact .wd h0 hl h8 (.inr ⟨n, h2, h99, rfl, fun c hc => sd c (hr c hc)⟩) t
theorem lexX : ∀ {e : Xp} {r : List Nat} {ts : List Tk}, XG e → EndC r → Lex r ts → Lex (xt e ++ r) (toks e ++ ts)
  | .var x, r, ts, h, hr, t => by
    refine lexW ?_ hr t
    rcases h with rfl | rfl | rfl
    · exact ⟨[120], [], rfl, by simp, by decide +kernel, by decide, .inl rfl⟩
    · exact ⟨[121], [], rfl, by simp, by decide +kernel, by decide, .inl rfl⟩
    · exact ⟨[122], [], rfl, by simp, by decide +kernel, by decide, .inl rfl⟩
  | .num n, r, ts, h, hr, t => by
    refine .nm h (fun c hc => ?_) t
    rcases hr c hc with rfl | rfl | rfl <;> decide +kernel
  | .op c l r0, r, ts, h, hr, t => by
    have hc : c ∈ TL.tl symbolsZ := by
      rcases h.1 with rfl | rfl | rfl | rfl | rfl <;> decide +kernel
    have e1 : xt (.op c l r0) ++ r = 40 :: (xt l ++ (32 :: c :: 32 :: (xt r0 ++ (41 :: r)))) := by simp [xt]
    have e2 : toks (.op c l r0) ++ ts = .s 40 :: (toks l ++ (.s c :: (toks r0 ++ (.s 41 :: ts)))) := by simp [toks]
    rw [e1, e2]
    refine .sy (by decide +kernel) (lexX h.2.1 (fun c hc => by simp at hc; exact .inl hc.symm) (.sp (.sy hc (.sp (lexX h.2.2 (fun c hc => by simp at hc; exact .inr (.inr hc.symm)) (.sy (by decide +kernel) t))))))
theorem lexD {d : Dd} {r : List Nat} {ts : List Tk} (h : XG d.x) (hs : ∀ x e, d = .set x e → x = [120] ∨ x = [121] ∨ x = [122]) (hr : EndC r) (t : Lex r ts) : Lex (dt d ++ r) (d.tk ++ ts) := by
  have sp : ∀ x : List Nat, EndC (32 :: x) := fun x c hc => by simp at hc; exact .inl hc.symm
  cases d with
  | set x e =>
    have e1 : dt (.set x e) ++ r = x ++ (32 :: 61 :: 32 :: (xt e ++ r)) := by simp [dt]
    rw [e1]
    refine lexW ?_ (sp _) (.sp (.sy (by decide +kernel) (.sp (lexX h hr t))))
    rcases hs x e rfl with rfl | rfl | rfl
    · exact ⟨[120], [], rfl, by simp, by decide +kernel, by decide, .inl rfl⟩
    · exact ⟨[121], [], rfl, by simp, by decide +kernel, by decide, .inl rfl⟩
    · exact ⟨[122], [], rfl, by simp, by decide +kernel, by decide, .inl rfl⟩
  | prt e =>
    have e1 : dt (.prt e) ++ r = ch "print" ++ (32 :: (xt e ++ r)) := by
      rw [show ch "print" = [112, 114, 105, 110, 116] by decide +kernel]; simp [dt]
    rw [e1]
    exact lexW ⟨ch "print", [], by simp, by decide +kernel, by decide +kernel, by decide +kernel, .inl rfl⟩ (sp _) (.sp (lexX h hr t))
  | iff e =>
    have e1 : dt (.iff e) ++ r = ch "if" ++ (32 :: (xt e ++ r)) := by
      rw [show ch "if" = [105, 102] by decide +kernel]; simp [dt]
    rw [e1]
    exact lexW ⟨ch "if", [], by simp, by decide +kernel, by decide +kernel, by decide +kernel, .inl rfl⟩ (sp _) (.sp (lexX h hr t))
abbrev labX : List (List Nat) := labA ++ [exitL]
theorem wf_lab : ∀ y ∈ labX, WF y := by
  intro y hy
  have n2 : TL.numL 2 = [50] := TL.numL_lt (by decide)
  have n7 : TL.numL 7 = [55] := TL.numL_lt (by decide)
  simp only [labX, labA, exitL, List.cons_append, List.nil_append, List.mem_cons, List.not_mem_nil, or_false] at hy
  rcases hy with rfl | rfl | rfl | rfl | rfl | rfl | rfl | rfl | rfl
  · exact ⟨[97], [], rfl, by simp, by decide +kernel, by decide, .inl rfl⟩
  · exact ⟨[98], [], rfl, by simp, by decide +kernel, by decide, .inl rfl⟩
  · exact ⟨[99], [46, 50], rfl, by simp, by decide +kernel, by decide, .inr ⟨2, by decide, by decide, by rw [n2]⟩⟩
  · exact ⟨[100], [], rfl, by simp, by decide +kernel, by decide, .inl rfl⟩
  · exact ⟨[101], [], rfl, by simp, by decide +kernel, by decide, .inl rfl⟩
  · exact ⟨[102], [46, 55], rfl, by simp, by decide +kernel, by decide, .inr ⟨7, by decide, by decide, by rw [n7]⟩⟩
  · exact ⟨[103], [], rfl, by simp, by decide +kernel, by decide, .inl rfl⟩
  · exact ⟨[104], [], rfl, by simp, by decide +kernel, by decide, .inl rfl⟩
  · exact ⟨exitL, [], rfl, by simp, by decide +kernel, by decide, .inl rfl⟩
theorem lab_len : ∀ y ∈ labX, y.length ≤ 10 := by decide +kernel
theorem lab_ok : ∀ y ∈ labX, PyData.strOk (S y) = true := by decide +kernel
theorem lab_hd : ∀ y ∈ labX, ∃ c r, y = c :: r ∧ c ≠ 32 := by
  intro y hy
  obtain ⟨a, b, rfl, h0, hl, _, _⟩ := wf_lab y hy
  cases a with
  | nil => exact absurd rfl h0
  | cons c a => exact ⟨c, _, rfl, fun z => by
      have := hl c (by simp)
      rw [z] at this
      exact absurd this (by decide +kernel)⟩
theorem lab_lb : ∀ y ∈ labA, LbOk y := by
  intro y hy
  simp only [labA, List.mem_cons, List.not_mem_nil, or_false] at hy
  rcases hy with rfl | rfl | rfl | rfl | rfl | rfl | rfl | rfl
  · exact ⟨by decide, [97], [], rfl, ⟨by decide +kernel, by decide +kernel⟩, .inl rfl⟩
  · exact ⟨by decide, [98], [], rfl, ⟨by decide +kernel, by decide +kernel⟩, .inl rfl⟩
  · exact ⟨by decide, [99], [46, 50], rfl, ⟨by decide +kernel, by decide +kernel⟩, .inr ⟨[50], rfl, by decide⟩⟩
  · exact ⟨by decide, [100], [], rfl, ⟨by decide +kernel, by decide +kernel⟩, .inl rfl⟩
  · exact ⟨by decide, [101], [], rfl, ⟨by decide +kernel, by decide +kernel⟩, .inl rfl⟩
  · exact ⟨by decide, [102], [46, 55], rfl, ⟨by decide +kernel, by decide +kernel⟩, .inr ⟨[55], rfl, by decide⟩⟩
  · exact ⟨by decide, [103], [], rfl, ⟨by decide +kernel, by decide +kernel⟩, .inl rfl⟩
  · exact ⟨by decide, [104], [], rfl, ⟨by decide +kernel, by decide +kernel⟩, .inl rfl⟩
theorem kexit : ("exit" : Str) = S exitL := TL.ext_tl (by decide +kernel)
theorem lab_nex : ∀ y ∈ labA, S y ≠ ("exit" : Str) := by
  intro y hy e
  rw [kexit] at e
  have := S_inj e
  subst this
  exact absurd hy (by decide +kernel)
theorem lab_tg : ∀ y ∈ labX, TgOk y := by
  intro y hy
  rcases List.mem_append.mp hy with h | h
  · exact .inr ⟨lab_nex y h, lab_lb y h⟩
  · rw [List.mem_singleton.mp h]; exact .inl kexit.symm
theorem lab_nd : labA.Nodup := by decide +kernel
theorem lexN {n : Pn} {m k : Nat} (h : NG m k n) : Lex (nt n) n.tk := by
  have sub : ∀ {y}, y ∈ labA.take m ++ [exitL] → y ∈ labX := fun {y} hy => by
    rcases List.mem_append.mp hy with h | h
    · exact List.mem_append_left _ (List.mem_of_mem_take h)
    · exact List.mem_append_right _ h
  have hl : n.l ∈ labX := List.mem_append_left _ (List.mem_of_mem_take (List.mem_of_getElem? h.l))
  have h0 := sub h.t0
  have h1 := sub h.t1
  obtain ⟨_, hx, hh, hs, _, _⟩ := h
  obtain ⟨l, d, t0, t1⟩ := n
  replace hx : XG d.x := hx
  replace h0 : t0 ∈ labX := h0
  replace h1 : t1 ∈ labX := h1
  replace hl : l ∈ labX := hl
  have sp : ∀ x : List Nat, EndC (32 :: x) := fun x c hc => by simp at hc; exact .inl hc.symm
  have en : EndC [] := fun c hc => by simp at hc
  have wg : WF (ch "goto") := ⟨ch "goto", [], by simp, by decide +kernel, by decide +kernel, by decide +kernel, .inl rfl⟩
  have we : WF (ch "else") := ⟨ch "else", [], by simp, by decide +kernel, by decide +kernel, by decide +kernel, .inl rfl⟩
  have gg : ch "goto" = [103, 111, 116, 111] := by decide +kernel
  have ge : ch "else" = [101, 108, 115, 101] := by decide +kernel
  have pre : ∀ (tl : List Nat) (tt : List Tk), EndC tl → Lex tl tt → Lex (l ++ (58 :: 32 :: (dt d ++ (32 :: (ch "goto" ++ (32 :: (t0 ++ tl))))))) (.w l :: .s 58 :: (d.tk ++ (.w (ch "goto") :: .w t0 :: tt))) := fun tl tt htl t =>
    lexW (wf_lab l hl) (fun c hc => by simp at hc; exact .inr (.inl hc.symm)) (.sy (by decide +kernel) (.sp (lexD hx hs (sp _) (.sp (lexW wg (sp _) (.sp (lexW (wf_lab t0 h0) htl t)))))))
  cases d with
  | set x e =>
    have e1 : nt ⟨l, .set x e, t0, t1⟩ = l ++ (58 :: 32 :: (dt (.set x e) ++ (32 :: (ch "goto" ++ (32 :: (t0 ++ [])))))) := by rw [gg]; simp [nt]
    rw [e1]
    exact pre [] [] en .nil
  | prt e =>
    have e1 : nt ⟨l, .prt e, t0, t1⟩ = l ++ (58 :: 32 :: (dt (.prt e) ++ (32 :: (ch "goto" ++ (32 :: (t0 ++ [])))))) := by rw [gg]; simp [nt]
    rw [e1]
    exact pre [] [] en .nil
  | iff e =>
    have e1 : nt ⟨l, .iff e, t0, t1⟩ = l ++ (58 :: 32 :: (dt (.iff e) ++ (32 :: (ch "goto" ++ (32 :: (t0 ++ (32 :: (ch "else" ++ (32 :: (t1 ++ []))))))))))  := by rw [gg, ge]; simp [nt]
    rw [e1]
    exact pre _ _ (sp _) (.sp (lexW we (sp _) (.sp (lexW (wf_lab t1 h1) en .nil))))
end K5
end

section
set_option linter.all false
set_option maxRecDepth 100000
/-! The law's text can be parsed: plain facts. -/
namespace K5
open PySem PySem.Spec PyProof.Rows L2 SX
theorem numL_no10 (n : Nat) : 10 ∉ TL.numL n := TL.numL_free (by omega)
theorem lex_no10 {l : List Nat} {ts : List Tk} (h : Lex l ts) : 10 ∉ l := by
  induction h with
  | nil => simp
  | sp _ ih => simp [ih]
  | @sy c r ts hc _ ih =>
    intro z
    rcases List.mem_cons.mp z with e | e
    · rw [← e] at hc; exact absurd hc (by decide +kernel)
    · exact ih e
  | @wd x y r ts _ hx _ hy _ ih =>
    intro z
    rcases List.mem_append.mp z with e | e
    · exact absurd (hx 10 e) (by decide +kernel)
    rcases List.mem_append.mp e with e | e
    · rcases hy with ⟨rfl, _⟩ | ⟨n, _, _, rfl, _⟩
      · simp at e
      · rcases List.mem_cons.mp e with e | e
        · exact absurd e (by decide)
        · exact numL_no10 n e
    · exact ih e
  | @nm n r ts _ _ _ ih =>
    intro z
    rcases List.mem_append.mp z with e | e
    · exact numL_no10 n e
    · exact ih e
theorem ok_var {x : List Nat} (h : x = [120] ∨ x = [121] ∨ x = [122]) : ok2 (Tk.w x).at ∧ NmOk (S x) := by
  rcases h with rfl | rfl | rfl <;> exact ⟨by decide +kernel, by decide +kernel, by decide +kernel⟩
theorem xg_ok : ∀ {e : Xp}, XG e → XOk e ∧ XNum e ∧ xl e = (xt e).length ∧ ∀ t ∈ toks e, ok2 t.at
  | .var x, h => ⟨(ok_var h).2, trivial, rfl, fun t ht => by
    simp only [toks, List.mem_singleton] at ht
    rw [ht]; exact (ok_var h).1⟩
  | .num n, h => ⟨trivial, h, rfl, fun t ht => by
    simp only [toks, List.mem_singleton] at ht
    rw [ht]; exact ⟨by show PyData.strOk "number" = true; decide +kernel, rfl⟩⟩
  | .op c l r, h => by
    obtain ⟨a1, a2, a3, a4⟩ := xg_ok (e := l) h.2.1
    obtain ⟨b1, b2, b3, b4⟩ := xg_ok (e := r) h.2.2
    refine ⟨⟨h.1, a1, b1⟩, ⟨a2, b2⟩, by simp only [xl, xt, List.length_cons, List.length_append, List.length_nil, a3, b3]; omega, fun t ht => ?_⟩
    simp only [toks, List.mem_cons, List.mem_append, List.not_mem_nil, or_false] at ht
    rcases ht with rfl | ht | rfl | ht | rfl
    · decide +kernel
    · exact a4 t ht
    · rcases h.1 with rfl | rfl | rfl | rfl | rfl <;> decide +kernel
    · exact b4 t ht
    · decide +kernel
theorem ok_w {y : List Nat} (h : PyData.strOk (S y) = true) : ok2 (Tk.w y).at := ⟨by show PyData.strOk "word" = true; decide +kernel, h⟩
/-- one node of the law -/
structure NL (n : Pn) : Prop where
  l : n.l ∈ labA
  t0 : n.t0 ∈ labX
  t1 : n.t1 ∈ labX
  x : XG n.d.x
  h : hgt n.d.x ≤ 3
  s : ∀ x e, n.d = .set x e → x = [120] ∨ x = [121] ∨ x = [122]
  lx : Lex (nt n) n.tk
theorem ng_nl {m k : Nat} {n : Pn} (h : NG m k n) : NL n := by
  have sub : ∀ {y}, y ∈ labA.take m ++ [exitL] → y ∈ labX := fun {y} hy => by
    rcases List.mem_append.mp hy with h | h
    · exact List.mem_append_left _ (List.mem_of_mem_take h)
    · exact List.mem_append_right _ h
  exact ⟨List.mem_of_mem_take (List.mem_of_getElem? h.l), sub h.t0, sub h.t1, h.x, h.h, h.s, lexN h⟩
theorem NL.nt {n : Pn} (h : NL n) : NT n := by
  refine ⟨h.x, h.h, lab_len _ (List.mem_append_left _ h.l), ?_, lab_len _ h.t0, lab_len _ h.t1⟩
  obtain ⟨l, d, t0, t1⟩ := n
  cases d with
  | set x e =>
    show x.length ≤ 10
    rcases h.s x e rfl with rfl | rfl | rfl <;> decide
  | prt e => exact Nat.zero_le _
  | iff e => exact Nat.zero_le _
theorem NL.ddok {n : Pn} (h : NL n) : DdOk n.d := ⟨(xg_ok h.x).1, h.h, fun x e he => (ok_var (h.s x e he)).2⟩
theorem NL.ok {n : Pn} (h : NL n) : PnOk n := ⟨lab_lb _ h.l, h.ddok, lab_tg _ h.t0, lab_tg _ h.t1⟩
theorem NL.oks {n : Pn} (h : NL n) : ∀ t ∈ n.tk, ok2 t.at := by
  have hl := ok_w (lab_ok _ (List.mem_append_left _ h.l : n.l ∈ labX))
  have h0 := ok_w (lab_ok _ h.t0)
  have h1 := ok_w (lab_ok _ h.t1)
  have hx := (xg_ok h.x).2.2.2
  have hs := h.s
  clear h
  obtain ⟨l, d, t0, t1⟩ := n
  intro t ht
  cases d with
  | set x e =>
    simp only [Pn.tk, Dd.tk, List.mem_cons, List.mem_append, List.not_mem_nil, or_false] at ht
    rcases ht with rfl | rfl | (rfl | rfl | ht) | rfl | rfl
    · exact hl
    · decide +kernel
    · exact (ok_var (hs x e rfl)).1
    · decide +kernel
    · exact hx t ht
    · decide +kernel
    · exact h0
  | prt e =>
    simp only [Pn.tk, Dd.tk, List.mem_cons, List.mem_append, List.not_mem_nil, or_false] at ht
    rcases ht with rfl | rfl | (rfl | ht) | rfl | rfl
    · exact hl
    · decide +kernel
    · decide +kernel
    · exact hx t ht
    · decide +kernel
    · exact h0
  | iff e =>
    simp only [Pn.tk, Dd.tk, List.mem_cons, List.mem_append, List.not_mem_nil, or_false] at ht
    rcases ht with rfl | rfl | (rfl | ht) | rfl | rfl | rfl | rfl
    · exact hl
    · decide +kernel
    · decide +kernel
    · exact hx t ht
    · decide +kernel
    · exact h0
    · decide +kernel
    · exact h1
theorem NL.ln {n : Pn} (h : NL n) : LnOk (K5.nt n) n := by
  refine ⟨h.lx, Nat.le_trans (nt_len h.nt) (by decide), h.oks, h.ok, ?_, lex_no10 h.lx⟩
  obtain ⟨c, r, e, hc⟩ := lab_hd n.l (List.mem_append_left _ h.l)
  exact ⟨c, _, by simp only [K5.nt, e, List.cons_append]; rfl, hc⟩
theorem NL.tx {n : Pn} (h : NL n) : TxOk n.nod := by
  have hx := xg_ok h.x
  have hxt : (xt n.d.x).length + 5 ≤ 48 := xt_le (n := 2) h.x h.h
  refine ⟨n.d, rfl, rfl, h.ddok, hx.2.1, by rw [hx.2.2.1]; omega, fun x e he => ?_, ?_, fun t ht => ?_⟩
  · rcases h.s x e he with rfl | rfl | rfl <;> decide
  · show (S n.l).length ≤ 100
    rw [S_len]; exact Nat.le_trans (lab_len _ (List.mem_append_left _ h.l)) (by decide)
  · have k0 := lab_len _ h.t0
    have k1 := lab_len _ h.t1
    obtain ⟨y, hy, rfl⟩ := List.mem_map.mp ht
    rw [S_len]
    have : y = n.t0 ∨ y = n.t1 := by
      obtain ⟨l, d, t0, t1⟩ := n
      cases d with
      | set x e => exact .inl (List.mem_singleton.mp hy)
      | prt e => exact .inl (List.mem_singleton.mp hy)
      | iff e => rcases List.mem_cons.mp hy with e | e; exact .inl e; exact .inr (List.mem_singleton.mp e)
    rcases this with rfl | rfl <;> omega
theorem join_len : ∀ (ps : List (List Nat)), (∀ p ∈ ps, p.length ≤ 200) → (TL.joinL [10] ps).length ≤ 201 * ps.length
  | [], _ => by simp [TL.joinL]
  | [p], h => by
    have := h p (by simp)
    simp [TL.joinL]; omega
  | p :: q :: r, h => by
    have h1 := h p (by simp)
    have h2 := join_len (q :: r) (fun z hz => h z (by simp [hz]))
    simp only [TL.joinL, List.length_append, List.length_cons, List.length_nil] at h2 ⊢
    omega
theorem lbs_eq {m : Nat} (hm : m ≤ 8) : ∀ {ns : List Pn}, ns.length = m → (∀ k n, ns[k]? = some n → NG m k n) → ns.map Pn.l = labA.take m := by
  intro ns hlen h
  refine List.ext_getElem? fun k => ?_
  rcases Nat.lt_or_ge k ns.length with hk | hk
  · rw [List.getElem?_map, List.getElem?_eq_getElem hk]
    exact (h k _ (List.getElem?_eq_getElem hk)).l.symm
  · rw [List.getElem?_eq_none (by simpa using hk), List.getElem?_eq_none (by rw [List.length_take]; exact Nat.le_trans (Nat.min_le_left _ _) (by omega))]
theorem lp_ok {x : List Nat} {ns : List Pn} (h : LPg x ns) : SrcOk x (ch "entry " ++ x) (ns.map nt) ns ∧ NsOk (S x) (ns.map Pn.nod) ∧ (∀ n ∈ ns, NL n) ∧ ns.length ≤ 8 ∧ x.length ≤ 10 := by
  obtain ⟨m, hm, hlen, hx, hg⟩ := h
  have sub : ∀ {y}, y ∈ labA.take m ++ [exitL] → y ∈ labX := fun {y} hy => by
    rcases List.mem_append.mp hy with h | h
    · exact List.mem_append_left _ (List.mem_of_mem_take h)
    · exact List.mem_append_right _ h
  have nl : ∀ n ∈ ns, NL n := fun n hn => by
    obtain ⟨k, hk, e⟩ := List.mem_iff_getElem.mp hn
    exact ng_nl (hg k n (by rw [List.getElem?_eq_getElem hk, e]))
  have hxx := sub hx
  have ge : ch "entry " = ch "entry" ++ [32] := by decide +kernel
  have lx0 : Lex (ch "entry " ++ x) [.w (ch "entry"), .w x] := by
    have e : ch "entry " ++ x = ch "entry" ++ (32 :: (x ++ [])) := by rw [ge]; simp
    rw [e]
    exact lexW ⟨ch "entry", [], by simp, by decide +kernel, by decide +kernel, by decide +kernel, .inl rfl⟩ (fun c hc => by simp at hc; exact .inl hc.symm) (.sp (lexW (wf_lab x hxx) (fun c hc => by simp at hc) .nil))
  have l0l : (ch "entry " ++ x).length ≤ 16 := by
    have k4 : (ch "entry ").length = 6 := by decide +kernel
    have := lab_len x hxx
    rw [List.length_append, k4]; omega
  have elb := lbs_eq hm hlen hg
  have elb2 : lbs (ns.map Pn.nod) = (labA.take m).map S := by
    rw [← elb]; simp [lbs, Pn.nod]
  refine ⟨⟨rfl, lx0, by omega, lab_tg x hxx, lab_ok x hxx, lex_no10 lx0, ?_, ?_, by simp; omega⟩, ⟨?_, ?_, ?_, ?_, by simp; omega, ?_, ?_⟩, nl, by omega, lab_len x hxx⟩
  · clear hlen hg elb elb2
    induction ns with
    | nil => exact .nil
    | cons n r ih => exact .cons (nl n (by simp)).ln (ih fun z hz => nl z (by simp [hz]))
  · have := join_len ((ch "entry " ++ x) :: ns.map nt) (fun p hp => by
      rcases List.mem_cons.mp hp with rfl | hp
      · omega
      · obtain ⟨n, hn, rfl⟩ := List.mem_map.mp hp
        exact nt_len (nl n hn).nt)
    simp only [List.length_cons, List.length_map] at this
    omega
  · rw [elb2]
    exact List.Pairwise.map S (fun a b hab e => hab (S_inj e)) (lab_nd.sublist (List.take_sublist _ _))
  · rw [elb2]
    intro z
    obtain ⟨y, hy, e⟩ := List.mem_map.mp z
    exact lab_nex y (List.mem_of_mem_take hy) e
  · intro hne
    rw [elb2]
    rcases List.mem_append.mp hx with h | h
    · exact List.mem_map_of_mem h
    · rw [List.mem_singleton.mp h] at hne
      exact absurd kexit.symm hne
  · intro n' hn' t ht hne
    obtain ⟨n, hn, rfl⟩ := List.mem_map.mp hn'
    obtain ⟨y, hy, rfl⟩ := List.mem_map.mp ht
    obtain ⟨k, hk, e⟩ := List.mem_iff_getElem.mp hn
    have g := hg k n (by rw [List.getElem?_eq_getElem hk, e])
    rw [elb2]
    have hyx : y ∈ labA.take m ++ [exitL] := by
      have g0 := g.t0
      have g1 := g.t1
      have : y = n.t0 ∨ y = n.t1 := by
        clear g g0 g1 e hn ht hn' hne
        obtain ⟨l, d, t0, t1⟩ := n
        cases d with
        | set x e => exact .inl (List.mem_singleton.mp hy)
        | prt e => exact .inl (List.mem_singleton.mp hy)
        | iff e => rcases List.mem_cons.mp hy with e | e; exact .inl e; exact .inr (List.mem_singleton.mp e)
      rcases this with rfl | rfl
      · exact g0
      · exact g1
    rcases List.mem_append.mp hyx with h | h
    · exact List.mem_map_of_mem h
    · rw [List.mem_singleton.mp h] at hne
      exact absurd kexit.symm hne
  · intro n' hn'
    obtain ⟨n, hn, rfl⟩ := List.mem_map.mp hn'
    obtain ⟨l, d, t0, t1⟩ := n
    cases d with
    | set x e => exact .inr ⟨by show ("set" : Str) ≠ "if"; decide +kernel, S t0, rfl⟩
    | prt e => exact .inr ⟨by show ("print" : Str) ≠ "if"; decide +kernel, S t0, rfl⟩
    | iff e => exact .inl ⟨rfl, xD e, S t0, S t1, rfl, rfl⟩
  · intro n' hn'
    obtain ⟨n, hn, rfl⟩ := List.mem_map.mp hn'
    exact lab_ok _ (List.mem_append_left _ (nl n hn).l)
end K5
end

section
set_option linter.all false
set_option maxRecDepth 100000
/-! The law. -/
namespace K5
open PySem PySem.Spec PyProof.Rows L2 SX MT ItX
theorem r_iown {K : PySem.W.Frag} {n : Nat} {C : Addr} {sp : Sp} {ta : TE} {σ : L2.St} {H : Hp} {R : It → Hp → Prop} (h : ta σ H fun x H1 => ∃ a dx fs, x = .ref a ∧ H1 a = some (.ins C dx fs) ∧ sp [.ref a] H1 (fun v H2 => ∃ it t, v = .ref it ∧ H2 it = some (ITup t it) ∧ n ≤ it ∧ R (Itt K t) (dropH H2 it)) C8.E0) : iOwn K n C sp ta σ H R := h
theorem r_callS {sp : Sp} {E : L2.St → XK} {ta : TA} {σ : L2.St} {H : Hp} {Q : VK} (h : ta σ H fun vs H1 => sp vs H1 Q (E σ)) : tCallS sp E ta σ H Q := h
/- steps -/
local macro_rules | `(tactic| walk_at "sm") => `(tactic| first | assumption | exact Same.refl _ | (refine Same.mut ?_ (by assumption) _; walk_at "sm") | (refine Same.trans ?_ (Same.newo (by assumption) _); walk_at "sm") | (refine Same.trans ?_ (by assumption); walk_at "sm"))
local macro_rules | `(tactic| walk_at "hp") => `(tactic| first | assumption | exact upd_same | (refine up_new ?_ (by assumption) _; walk_at "hp") | (refine Same.up ?_ (by assumption) (by assumption); walk_at "sm") | (refine Same.look (by assumption) ?_; walk_at "hp"))
local macro_rules | `(tactic| walk_at "rep") => `(tactic| first | assumption | exact str_rep | exact int_rep | exact non_rep | (refine' Rep.s ?s ?h; (case h => assumption); (case s => walk_at "sm")))
local macro_rules | `(tactic| walk_at "if") => `(tactic| first | ((with_reducible refine' r_ifT ?e ?_); (case e => decide +kernel)) | ((with_reducible refine' r_ifF ?e ?_); (case e => decide +kernel)))
local macro_rules | `(tactic| walk_at "sz") => `(tactic| first | omega | decide | (simp only [List.length_map, List.length_append, List.length_cons, List.length_nil, List.length_take]; omega))
local macro_rules | `(tactic| walk_at "s") => `(tactic| first
  | with_reducible refine r_seq ?_ | with_reducible refine r_set ?_ | with_reducible refine r_asg ?_ | with_reducible refine r_ret ?_ | with_reducible refine r_drop ?_ | with_reducible refine r_next ?_ | with_reducible refine r_cont ?_ | with_reducible refine r_brk ?_
  | with_reducible refine r_if ?_ | with_reducible refine r_test ?_ | with_reducible refine r_tB ?_ | with_reducible refine r_bl ?_ | with_reducible refine r_and ?_ | with_reducible refine r_or ?_ | with_reducible refine r_not ?_
  | ((with_reducible refine' r_var ?e ?_); (case e => rfl)) | with_reducible refine r_c ?_ | with_reducible refine r_op ?_ | with_reducible refine r_un ?_ | with_reducible refine r_ifx ?_ | with_reducible refine r_andV ?_ | with_reducible refine r_orV ?_ | with_reducible refine r_notV ?_
  | with_reducible refine r_nil ?_ | with_reducible refine r_cons ?_ | with_reducible refine r_cb ?_ | with_reducible refine r_bm ?_ | with_reducible refine r_bm0 ?_ | with_reducible refine r_lst ?_ | with_reducible refine r_tup ?_ | with_reducible refine r_call ?_
  | with_reducible refine r_lc ?_ | with_reducible refine r_dc ?_ | with_reducible refine r_for ?_ | with_reducible refine r_iTup ?_ | with_reducible refine r_iList ?_ | with_reducible refine r_iEnum ?_ | with_reducible refine r_iRng1 ?_
  | with_reducible refine r_sl ?_ | with_reducible refine r_part ?_ | with_reducible refine r_nop ?_ | with_reducible refine r_int ?_ | with_reducible refine r_then ?_ | with_reducible refine r_yes ?_
  | with_reducible refine r_gname ?_ | with_reducible refine r_gcons ?_ | with_reducible refine r_gnil ?_
  | ((with_reducible refine' r_eq ?e ?_); (case e => rfl)) | ((with_reducible refine' r_ne ?e ?_); (case e => rfl)) | with_reducible refine r_I0 ?_
  | ((with_reducible refine' r_ixT0 ?e ?f ?_); (case e => walk_at "hp"); (case f => rfl)) | ((with_reducible refine' r_ixT1 ?e ?f ?_); (case e => walk_at "hp"); (case f => rfl)) | ((with_reducible refine' r_ixT2 ?e ?f ?_); (case e => walk_at "hp"); (case f => rfl)) | ((with_reducible refine' r_ixT3 ?e ?f ?_); (case e => walk_at "hp"); (case f => rfl)) | ((with_reducible refine' r_ixT4 ?e ?f ?_); (case e => walk_at "hp"); (case f => rfl)) | ((with_reducible refine' r_ixL0 ?e ?f ?_); (case e => walk_at "hp"); (case f => rfl)) | ((with_reducible refine' r_ixL1 ?e ?f ?_); (case e => walk_at "hp"); (case f => rfl)) | ((with_reducible refine' r_ixL2 ?e ?f ?_); (case e => walk_at "hp"); (case f => rfl)) | ((with_reducible refine' r_ixL3 ?e ?f ?_); (case e => walk_at "hp"); (case f => rfl)) | ((with_reducible refine' r_ixL4 ?e ?f ?_); (case e => walk_at "hp"); (case f => rfl))
  | ((with_reducible refine' r_ixT ?e ?f ?_); (case e => walk_at "hp"); (case f => rfl)) | ((with_reducible refine' r_ixL ?e ?f ?_); (case e => walk_at "hp"); (case f => rfl))
  | ((with_reducible refine' r_append ?e ?f ?_); (case e => walk_at "hp"); (case f => walk_at "sz")) | ((with_reducible refine' r_extend ?e ?e2 ?f ?_); (case e => walk_at "hp"); (case e2 => walk_at "hp"); (case f => walk_at "sz"))
  | with_reducible refine r_fldE ?_ | with_reducible refine r_methE ?_ | with_reducible refine r_make ?_ | with_reducible refine r_sfld ?_ | with_reducible refine r_iEnumT ?_ | with_reducible refine r_inSg ?_ | with_reducible refine r_ninSg ?_ | with_reducible refine r_bmfE ?_ | with_reducible refine r_dget1 ?_ | with_reducible refine r_chain ?_ | with_reducible refine r_sm ?_ | with_reducible refine r_jcons ?_ | with_reducible refine r_jnil ?_ | with_reducible refine r_fmtE ?_ | with_reducible refine r_lockE ?_ | with_reducible refine r_iKeys ?_ | with_reducible refine r_tupFE ?_ | with_reducible refine r_m1E ?_ | with_reducible refine r_m0E ?_ | with_reducible refine r_sfa ?_ | with_reducible refine r_rAdd ?_
  | with_reducible refine r_dgetE ?_ | with_reducible refine r_dinE ?_ | with_reducible refine r_dninE ?_ | with_reducible refine r_dputE ?_ | with_reducible refine r_dnew ?_ | with_reducible refine r_neg ?_
  | ((with_reducible refine' r_truL ?e ?_); (case e => walk_at "hp"))
  | ((with_reducible refine' r_gtup ?e ?f ?_); (case e => walk_at "hp"); (case f => rfl))
  | ((with_reducible refine' r_tyL ?e ?_); (case e => walk_at "hp")) | walk_at "if")
local macro_rules | `(tactic| walk_at "go") => `(tactic| repeat walk_at "s")
/- steps end -/
theorem okS_mem {b : List Sm} {s : Sm} (h : s ∈ b) (ok : okB b = true) : okS s = true := by
  induction b with
  | nil => simp at h
  | cons t r ih =>
    simp only [okB, Bool.and_eq_true] at ok
    rcases List.mem_cons.mp h with e | e
    · rw [e]; exact ok.1
    · exact ih e ok.2
theorem okS_inner {s : Sm} {c : List Sm} {k : Nat × Str} (hk : hd s = some k) (hi : c ∈ inner s) (ok : okS s = true) : PyData.strOk k.2 = true ∧ okB c = true := by
  cases s with
  | cond l e p q =>
    simp only [okS, Bool.and_eq_true] at ok
    simp only [hd, Option.some.injEq] at hk
    subst hk
    simp only [inner, List.mem_cons, List.not_mem_nil, or_false] at hi
    rcases hi with rfl | rfl
    · exact ⟨ok.1, ok.2.1⟩
    · exact ⟨ok.1, ok.2.2⟩
  | wrap kb n p =>
    simp only [okS, Bool.and_eq_true] at ok
    simp only [hd, Option.some.injEq] at hk
    subst hk
    simp only [inner, List.mem_singleton] at hi
    subst hi
    exact ok
  | node _ _ => simp [hd] at hk
  | jump _ _ => simp [hd] at hk
  | exit => simp [hd] at hk
theorem way_ok {b : List Sm} {l : Str} {w : List (Nat × Str)} (h : Way b l w) : okB b = true → ∀ k ∈ w, PyData.strOk k.2 = true := by
  induction h with
  | node _ => intro _ k hk; simp at hk
  | here _ => intro _ k hk; simp at hk
  | into h hk hi _ ih =>
    intro ok k' hk'
    obtain ⟨o1, o2⟩ := okS_inner hk hi (okS_mem h ok)
    rcases List.mem_cons.mp hk' with e | e
    · rw [e]; exact o1
    · exact ih o2 k' e
theorem hd_ok {H : Hp} {K : PySem.W.Frag} {ws : List (Nat × Str)} {v : V} (h : Rep H (.tup (ws.map hdD)) v) (ok : ∀ k ∈ ws, PyData.strOk k.2 = true) : Dp K H v (.tuple ((ws.map fun k => (Atm.str (kName k.1), Atm.str k.2)).map prP)) ∧ SeqAt.shaped (.tuple ((ws.map fun k => (Atm.str (kName k.1), Atm.str k.2)).map prP)) = true := by
  obtain ⟨p, xs, rfl, hp, hr⟩ := rep_tup h
  have hz : PrsAt H xs (ws.map fun k => (Atm.str (kName k.1), Atm.str k.2)) := by
    clear h hp
    induction ws generalizing xs with
    | nil => rw [nil_reps hr]; exact .nil
    | cons k r ih =>
      obtain ⟨x, q, rfl, h1, h2⟩ := cons_reps hr
      obtain ⟨a, ys, rfl, ha, hy⟩ := rep_tup h1
      obtain ⟨y1, r1, rfl, g1, hy⟩ := cons_reps hy
      obtain ⟨y2, r2, rfl, g2, hy⟩ := cons_reps hy
      obtain rfl := nil_reps hy
      obtain rfl := rep_str g1
      obtain rfl := rep_str g2
      exact .cons ⟨a, rfl, ha⟩ (ih (fun k hk => ok k (by simp [hk])) _ h2)
  have ko : ∀ z ∈ ws.map fun k => (Atm.str (kName k.1), Atm.str k.2), ok2 z := fun z hz => by
    obtain ⟨k, hk, rfl⟩ := List.mem_map.mp hz
    refine ⟨?_, ok k hk⟩
    show PyData.strOk (kName k.1) = true
    unfold kName
    split
    · decide +kernel
    · split <;> decide +kernel
  exact ⟨.tup (SqT.of hp) hz.dp, (prPs_shaped _ ko).2⟩
theorem eqv_self (zs : List (Atm × Atm)) : PyData.eqv (.tuple (zs.map prP)) (.tuple (zs.map prP)) = true := by
  have e : PyData.eqvAll (zs.map prP) (zs.map prP) = true := by
    induction zs with
    | nil => rfl
    | cons a r ih =>
      simp only [List.map_cons, PyData.eqvAll, ih, prP_eqv, decide_true, Bool.and_true]
  simp only [PyData.eqv, e]
theorem r_neH {H : Hp} {K : PySem.W.Frag} {ws : List (Nat × Str)} {v u : V} {Q : VK} (h : Rep H (.tup (ws.map hdD)) v) (h' : Rep H (.tup (ws.map hdD)) u) (ok : ∀ k ∈ ws, PyData.strOk k.2 = true) (q : Q (.bl false) H) : rNeD K v u H Q := by
  obtain ⟨a1, a2⟩ := hd_ok (K := K) h ok
  obtain ⟨b1, b2⟩ := hd_ok (K := K) h' ok
  exact ⟨_, _, a1, b1, a2, b2, by rw [eqv_self]; exact q⟩
def spLaw (K : PySem.W.Frag) : Sp := fun vs H Q _ => ∃ (a : Addr) (zs : List Int), vs = [.ref a] ∧ SqL K H a (zs.map V.int) ∧ ∀ H', Q (.bl true) H'
section
variable {P : PySem.Program} {w : World} {K : PySem.W.Frag} {mg : Str → Option Value} {base : Heap}
theorem scLaw : FnScope ["_law_script", "_law_program_here", "_law_body", "_law_found", "_law_label"] ["_law_script"] (defScope (top 94)) := ⟨rfl, rfl, rfl, by decide +kernel, rfl, by decide +kernel, by decide +kernel⟩
theorem law_fn (T : Tx w K mg) (X : Ex K mg) {p f : Addr} (Y : Px K mg p f) {fd : FuncData} (F : FunD K "law" "law" (defArgs (top 94)) (defBody (top 94)) (defScope (top 94)) [] [] (He.ga K "law") fd) : FnOk P w K mg base C8.CX0 203 (He.ga K "law") fd ["_law_script"] (spLaw K) := by
  have cP := prog_cls T
  have g_Program : ∃ u, mg "Program" = some u ∧ RelV (.ref (He.ga K "Program")) u := ⟨_, (T.cls "Program" (by decide +kernel)).1, rfl⟩
  have c_law_program : C8.Cal P w K mg base 6 "_law_program" (spLP K) [] := lp_cal T
  have c_law_text : C8.Cal P w K mg base 5 "_law_text" (spTx K) [] := tx_cal T
  have c_law_scopes : C8.Cal P w K mg base 95 "_law_scopes" (spLS 95) [] := ls_cal T 95
  have c_scopes_of : C8.Cal P w K mg base 202 "scopes_of" spScopes [] := scopes_cal T
  obtain ⟨gS, fdS, FS⟩ := T.gdef (83, "structured") (by decide +kernel)
  have FS' : FnOk P w K mg base (L2.CX P w) 138 (He.ga K "structured") fdS ["program"] (spStruct K) := struct_fn T X FS
  have bS : Binds K fdS ["program"] [] := FS.bindsN fun _ _ _ _ _ _ us hl => match us, hl with | [_], _ => rfl
  obtain ⟨fdP, FP⟩ := Y.fn
  have FP' : FnOk P w K mg base C8.CX0 26 f fdP ["text"] (spParse K) := parse_fn (p := p) T FP
  have bP : Binds K fdP ["text"] [] := FP.bindsN fun _ _ _ _ _ _ us hl => match us, hl with | [_], _ => rfl
  refine F.ok (k := 202) scLaw (fun vs H Q E h => ?_) (fun cdv A outer s H vs Q E hr h => ?_)
  · obtain ⟨l, _, rfl, _⟩ := h
    rfl
  obtain ⟨a, zs, rfl, ha, q⟩ := h
  have m_iter : C8.Met P w K mg base 1 (He.ga K "Program") "__iter__" (spIter K s.heap.objs.size) [] := iter_met T s.heap.objs.size
  have hr138 : Room 138 (A.deeper (envOfC "law" (defScope (top 94)) s.heap.objs.size (He.ga K "law") cdv)) := hr.mono (by decide)
  have hr26 : Room 26 (A.deeper (envOfC "law" (defScope (top 94)) s.heap.objs.size (He.ga K "law") cdv)) := hr.mono (by decide)
  have hr1 : Room 1 (A.deeper (envOfC "law" (defScope (top 94)) s.heap.objs.size (He.ga K "law") cdv)) := hr.mono (by decide)
  have hu := hu_of hr
  refine ⟨_, PSs.nox (pss_cons (ps_set (i := 1) scLaw.nd rfl (.inl rfl) (pe_smeth (E := C8.E0) (pl := L2.plainOf _ _) (C8.pe_gc rfl g_Program) Y.sm FP' bP hr26 C8.pass0 (pa_cons (C8.pe_c c_law_text hr (by omega) rfl (pa_cons (C8.pe_c c_law_program hr (by omega) rfl (pa_cons (pv 0) (pa_cons pe_int pa_nil))) pa_nil)) pa_nil)))
(pss_cons (ps_try_only (tb := fun W => tAsg (tCallS (spStruct K) (WE W) (tCons (tVar 1) tNil)) (gName 2)) (ts := fun _ _ _ => tRet (tC (.bl true))) (Wout := fun _ _ _ _ => False) rfl rfl ⟨rfl, by decide, .inl X.g⟩ takes0 (fun W pn xe tk _ => pss_one (ps_set (i := 2) scLaw.nd rfl (.inl rfl) (pe_callS FS' hr138 rfl gS FS.kp bS (fun σ => passAt tk σ) (pa_cons (pv 1) pa_nil)))) (fun a oe cls d pn _ _ => pss_one (ps_ret pe_bl)))
(pss_cons (ps_set (i := 3) scLaw.nd rfl (.inl rfl) pe_dnewN)
(pss_cons (ps_expr (C8.pe_c c_law_scopes hr (by omega) rfl (pa_cons (pv 2) (pa_cons (pe_tup pa_nil) (pa_cons (pv 3) pa_nil)))))
(pss_cons (ps_for PassesOwn.never rfl (pi_own m_iter hr1 (pv 1)) (pg_name (i := 4) scLaw.nd rfl (.inl rfl))
(pss_one (ps_if (pt_cmpR (op_neD (hu64 hr)) (C8.pe_c c_scopes_of hr (by omega) rfl (pa_cons (pv 2) (pa_cons (pv 4) pa_nil))) (pe_dget hu (pv 3) (pv 4) (fun _ _ => rfl)) (nomark _))
(pss_one (ps_ret pe_bl))
pss_nil)))
(pss_one (ps_ret (pe_cmpR (op_eqD (hu64 hr)) (C8.pe_c c_scopes_of hr (by omega) rfl (pa_cons (pv 2) (pa_cons pe_str pa_nil))) (pe_tup pa_nil) (nomark _))))))))), ?_⟩
  walk_at "go"
  refine ⟨rfl, ?_⟩
  walk_at "go"
  refine ⟨a, zs, rfl, ha, fun q1 l H1 x us ns s1 hq1 hl1 hpr hlp => ?_⟩
  obtain ⟨so, nso, nl, n8, x10⟩ := lp_ok hlp
  walk_at "go"
  refine ⟨q1, l, x, us, ns, rfl, hq1, hl1, hpr, fun n hn => (nl n hn).nt, n8, x10, fun H2 s2 => ?_⟩
  walk_at "go"
  refine ⟨x, _, _, ns, rfl, so, nso, fun n hn => ?_, by omega, fun pa ms H3 s3 hP ok hre hsub => ?_⟩
  · obtain ⟨n', hn', rfl⟩ := List.mem_map.mp hn
    exact (nl n' hn').tx
  have s03 : Same H H3 := Same.trans s1 (Same.trans s2 s3)
  walk_at "go"
  refine r_callS ?_
  walk_at "go"
  refine ⟨pa, S x, ms, rfl, hP, ok, hre, fun H4 s4 => ⟨true, X.exm, fun _ a' ha' => ?_, fun z => nomatch z⟩, fun bv H4 b s4 hb ndb hlb hdb okb => ?_⟩
  · exact q _
  have hP4 := hP.s s4
  walk_at "go"
  intro fd' nfd hfd'
  have s5 : Same H4 (upd H4 fd' (.dK [])) := Same.newo nfd _
  have hf5 : upd H4 fd' (.dK []) fd' = some (.dK []) := upd_same
  generalize upd H4 fd' (.dK []) = H5 at s5 hf5 ⊢
  have hb5 := hb.s s5
  have hlen : (labs b).length ≤ 8 := by
    have h1 : (labs b).length ≤ (lbs ms).length := ndb.length_le_of_subset fun x hx => (hlb x).mp hx
    have h2 := ok.len
    rw [List.length_map] at h1
    omega
  walk_at "go"
  refine ⟨by show 0 ≤ sizeLine; decide, fun p6 n6 => ?_⟩
  have s6 : Same H5 (upd H5 p6 (.tup [])) := Same.newo n6 _
  have hp6 : Rep (upd H5 p6 (.tup [])) (.tup (([] : List (Nat × Str)).map hdD)) (.ref p6) := rep_new n6 reps_nil
  generalize upd H5 p6 (.tup []) = H6 at s6 hp6 ⊢
  walk_at "go"
  refine ⟨bv, .ref p6, fd', b, [], [], rfl, hb5.s s6, hp6, s6 _ _ hf5, by omega, ndb, by simp; omega, by simp; omega, fun H7 kvs b7 hf7 hL7 hk7 => ?_⟩
  have s47 : Same H4 H7 := ((But.of (Same.trans s5 s6)).trans b7).same nfd
  have hb7 := hb.s s47
  have hP7 := hP4.s s47
  obtain ⟨dx7, fs7, _, _, _, _, _, hpa7, _⟩ := id hP7
  walk_at "go"
  refine r_iown ?_
  walk_at "go"
  refine ⟨pa, dx7, fs7, rfl, hpa7, pa, S x, ms, fd', _, rfl, hP7, hf7, hfd', fun it lt hit hn hlt => ⟨it, lt, rfl, upd_same, hn, ?_⟩⟩
  rw [dropH_upd hit]
  refine for_tup (xs := (lbs ms).map V.str) (fun i σ H' => (∃ z, σ = [some (.ref a), some (.ref pa), some bv, some (.ref fd'), z]) ∧ Same H7 H') ⟨⟨_, rfl⟩, Same.refl _⟩ (fun i σ H' _ ⟨_, s8⟩ => SqT.of (s8 _ _ hlt)) ?_ ?_
  · rintro i y σ H8 hi ⟨⟨z, rfl⟩, s8⟩
    rw [List.getElem?_map] at hi
    obtain ⟨lb, hlb2, rfl⟩ := Option.map_eq_some_iff.mp hi
    have hmem : lb ∈ labs b := (hlb lb).mpr (List.mem_of_getElem? hlb2)
    walk_at "go"
    refine ⟨bv, lb, b, rfl, hb7.s s8, by omega, by omega, fun v9 H9 r s9 harr hv9 => ?_⟩
    have s79 : Same H7 H9 := Same.trans s8 s9
    obtain ⟨u, w1, hw1, hdv, hrep⟩ := (hL7 lb).1 hmem
    obtain ⟨w2, hw2, hmap⟩ := harr.way hmem
    have hww : w2 = w1 := Way.one hw2 ndb hw1
    subst hww
    have er : r.map (fun s => hdD ((hd s).getD (0, ""))) = w2.map hdD := by
      have := congrArg (List.map fun o : Option (Nat × Str) => hdD (o.getD (0, ""))) hmap
      rw [List.map_map, List.map_map] at this
      exact this
    rw [er] at hv9
    walk_at "go"
    refine r_dg (s79 _ _ hf7) hdv ?_
    rw [List.nil_append] at hrep
    refine r_neH hv9 (hrep.s s79) (way_ok hw2 okb) ?_
    walk_at "go"
    exact ⟨⟨_, rfl⟩, s79⟩
  · rintro σ H8 ⟨⟨z, rfl⟩, s8⟩
    walk_at "go"
    refine ⟨bv, "q", b, rfl, hb7.s s8, by omega, by omega, fun v9 H9 r s9 harr hv9 => ?_⟩
    have hq : ("q" : Str) ∉ labs b := fun z => by
      have h1 := (hlb _).mp z
      obtain ⟨m, hm, e1⟩ := List.mem_map.mp h1
      obtain ⟨n, hn, e2⟩ := List.mem_map.mp (hsub m hm)
      subst e2
      have h2 := (nl n hn).l
      have h3 : n.l = [113] := S_inj (e1.trans (TL.ext_tl (by decide +kernel)))
      rw [h3] at h2
      exact absurd h2 (by decide +kernel)
    have er := harr.nil hq
    subst er
    walk_at "go"
    refine ⟨by show 0 ≤ sizeLine; decide, fun p10 n10 => ?_⟩
    have hv10 : Rep (upd H9 p10 (.tup [])) (.tup (([] : List (Nat × Str)).map hdD)) v9 := Rep.s (Same.newo n10 _) hv9
    have hp10 : Rep (upd H9 p10 (.tup [])) (.tup (([] : List (Nat × Str)).map hdD)) (.ref p10) := rep_new n10 reps_nil
    obtain ⟨a1, a2⟩ := hd_ok (K := K) hv10 (fun k hk => by simp at hk)
    obtain ⟨b1, b2⟩ := hd_ok (K := K) hp10 (fun k hk => by simp at hk)
    exact ⟨_, _, a1, b1, a2, b2, q _⟩
end
end K5
end

section
set_option linter.all false
set_option maxRecDepth 100000
/-! The head: the facts. -/
namespace K5
open PySem PySem.Spec PyProof.Rows L2
theorem fD {K : PySem.W.Frag} {w : World} (c : obsK K = valK w) : He.SaysT hfa hfn hts w K := congrArg (fun z : AlK => z.1) c
theorem fE {K : PySem.W.Frag} {w : World} (c : obsK K = valK w) : hex K = true := congrArg (fun z : AlK => z.2.1) c
theorem fF {K : PySem.W.Frag} {w : World} (c : obsK K = valK w) : fnA K (fA K) = (some (("parse" : Str), ("Program.parse" : Str), defArgs (mth 79 11), .stmts (defBody (mth 79 11)), defScope (mth 79 11), mainGlobals, [], builtinsNs) : He.FnW) := congrArg (fun z : AlK => z.2.2) c
theorem funA {K : PySem.W.Frag} {f : Addr} {x q : Str} {ps : Arguments} {b : List Stmt} {sc : Scope} (e : fnA K f = (some (x, q, ps, .stmts b, sc, mainGlobals, [], builtinsNs) : He.FnW)) (c : okA K f q = true) : ∃ fd, FunD K x q ps b sc [] [] f fd := by
  obtain ⟨kp, c2⟩ := He.ba c
  unfold fnA at e
  cases lk : K.lookup f with
  | none =>
    rw [lk] at c2
    cases c2
  | some o =>
    obtain ⟨oc, od, dt, osl⟩ := o
    rw [lk] at c2 e
    cases dt with
    | func fd =>
      obtain ⟨n1, n2, n3, n4, n5, n6, n7, n8, n9, n10, n11, n12, n13, n14, n15⟩ := fd
      have e2 : (some (n1, n2, n3, n4, n5, n6, n7, n15) : He.FnW) = some (x, q, ps, .stmts b, sc, mainGlobals, [], builtinsNs) := e
      simp only [Option.some.injEq, Prod.mk.injEq] at e2
      obtain ⟨h1, h2, h3, h4, h5, h6, h7, h8⟩ := e2
      subst h1 h2 h3 h4 h5 h6 h7 h8
      have c3 : (PySem.W.codeIn K n13 n2 && (He.dflB K n8 [] && He.kwdB K n9 [])) = true := c2
      obtain ⟨k1, k2⟩ := He.ba c3
      obtain ⟨k3, k4⟩ := He.ba k2
      exact ⟨_, ⟨oc, od, n8, n9, n10, n11, n12, n13, n14, osl, rfl, lk, k1, He.dflB_ok k3, He.kwdB_ok k4⟩, kp⟩
    | _ => cases c2
theorem smet_of {K : PySem.W.Frag} {C p f : Addr} {m : Str} (h : smB K C p f m = true) (kp : PySem.W.keepIn K (.ref f) = true) : SMet K C m p f := by
  unfold smB at h
  obtain ⟨h1, h⟩ := He.ba h
  obtain ⟨h2, h⟩ := He.ba h
  obtain ⟨h3, h4⟩ := He.ba h
  refine ⟨⟨.type "type", ⟨h1, He.eqO_ok h2⟩, ?_⟩, ?_, kp⟩
  · split at h3
    · rename_i g a n c e
      obtain ⟨q1, h3⟩ := He.ba h3
      obtain ⟨q2, h3⟩ := He.ba h3
      obtain ⟨q3, q4⟩ := He.ba h3
      rw [e, of_decide_eq_true q1, of_decide_eq_true q2, of_decide_eq_true q3, of_decide_eq_true q4]
    · cases h3
  · split at h4
    · rename_i f' rest e
      exact ⟨rest, by rw [e, of_decide_eq_true h4]⟩
    · cases h4
theorem hts0 : hts[0]? = some (fun K => He.ga K "LEVELS", levels.map (·.1)) := rfl
section
variable {K : PySem.W.Frag} {w : World} {h : Heap} {mg : Str → Option Value}
theorem hfa_mem {f : He.Fa} (hf : f ∈ hfa) (c : obsK K = valK w) : f.ok K = true := He.SaysD.facts (fD c).d hf
theorem hfn_mem {d : He.DefD} (hd : d ∈ hfn) (c : obsK K = valK w) : ∃ fd, FunD K d.name d.qual d.params d.body d.scope (d.dvs K) (d.kws K) (He.fAd K d.at_) fd := He.SaysD.defs (fD c).d hd
theorem tx_of (X : K.In h) (G : h.Ns mainGlobals mg) (c : obsK K = valK w) : Tx w K mg := by
  have L : ∀ {a b : List He.Fa} {f : He.Fa}, f ∈ a → f ∈ a ++ b := fun h => List.mem_append_left _ h
  have Rr : ∀ {a b : List He.Fa} {f : He.Fa}, f ∈ b → f ∈ a ++ b := fun h => List.mem_append_right _ h
  have M : ∀ {α : Type} {g : α → He.Fa} {l : List α} {x : α}, x ∈ l → g x ∈ l.map g := fun h => List.mem_map_of_mem h
  refine ⟨fun q hq => ⟨He.glo_ok X G (hfa_mem (L (List.mem_map_of_mem (f := fun q : Nat × Str => He.Fa.glo q.2) hq)) c), ?_⟩, fun q hq => ⟨He.meth_ok (hfa_mem (Rr (L (List.mem_map_of_mem (f := fun q : Nat × Nat × Str × Str × Str => He.Fa.meth q.2.2.1 q.2.2.2.1) hq))) c), ?_⟩, fun x hx => ⟨?_, ?_, ?_⟩, fun q hq => ?_, fun x hx => ?_, fun q hq => ?_, fun q hq => ?_, ⟨?_, fun H => ?_⟩, ⟨?_, fun q hq => ?_⟩⟩
  · exact hfn_mem (d := dG q) (List.mem_append_left _ (List.mem_map_of_mem hq)) c
  · exact hfn_mem (d := dM q) (List.mem_append_right _ (List.mem_map_of_mem hq)) c
  · exact He.glo_ok X G (hfa_mem (Rr (Rr (L (M (g := He.Fa.glo) hx)))) c)
  · exact He.cls_ok (hfa_mem (Rr (Rr (Rr (L (M (g := He.Fa.cls) hx))))) c)
  · exact He.mkr_ok (hfa_mem (Rr (Rr (Rr (Rr (L (M (g := He.Fa.mkr) hx)))))) c)
  · exact He.noat_ok (hfa_mem (Rr (Rr (Rr (Rr (Rr (L (List.mem_map_of_mem (f := fun q : Str × Str => He.Fa.noat q.1 q.2) hq))))))) c)
  · exact He.free_ok X G (hfa_mem (Rr (Rr (Rr (Rr (Rr (Rr (L (M (g := He.Fa.free) hx)))))))) c)
  · exact He.int_ok X G (hfa_mem (Rr (Rr (Rr (Rr (Rr (Rr (Rr (L (List.mem_map_of_mem (f := fun q : Str × Int => He.Fa.int q.1 q.2) hq))))))))) c)
  · exact He.str_ok X G (hfa_mem (Rr (Rr (Rr (Rr (Rr (Rr (Rr (Rr (L (List.mem_map_of_mem (f := fun q : Str × Str => He.Fa.str q.1 q.2) hq)))))))))) c)
  · exact He.glo_ok X G (hfa_mem (Rr (Rr (Rr (Rr (Rr (Rr (Rr (Rr (Rr (by simp)))))))))) c)
  · obtain ⟨_, h2⟩ := He.ba (fE c)
    obtain ⟨h3, _⟩ := He.ba h2
    have := He.tupB_ok h3 H
    rw [List.map_map] at this
    exact this
  · exact He.glo_ok X G (hfa_mem (Rr (Rr (Rr (Rr (Rr (Rr (Rr (Rr (Rr (by simp)))))))))) c)
  · obtain ⟨es, n, kd⟩ := (fD c).tab 0 hts0
    obtain ⟨h1, _⟩ := He.ba (fE c)
    obtain ⟨u, hu1, hu2⟩ := He.valsB_ok h1 (List.mem_map_of_mem (f := fun q : Str × Int => (q.1, He.Dv.int q.2)) hq)
    exact ⟨es, n, u, kd.1, kd.2, hu1, hu2⟩
theorem ex_of (X : K.In h) (G : h.Ns mainGlobals mg) (c : obsK K = valK w) : Ex K mg := by
  have Rr : ∀ {a b : List He.Fa} {f : He.Fa}, f ∈ b → f ∈ a ++ b := fun h => List.mem_append_right _ h
  obtain ⟨e1, e2, e3, e4⟩ := He.exc_ok (hfa_mem (f := .exc "NotReducible") (Rr (Rr (Rr (Rr (Rr (Rr (Rr (Rr (Rr (by simp)))))))))) c)
  exact ⟨He.glo_ok X G (hfa_mem (Rr (Rr (Rr (Rr (Rr (Rr (Rr (Rr (Rr (by simp)))))))))) c), e1, e2, e3, e4, He.exm_ok (hfa_mem (f := .exm "NotReducible" "NotReducible" true) (Rr (Rr (Rr (Rr (Rr (Rr (Rr (Rr (Rr (by simp)))))))))) c)⟩
theorem px_of (c : obsK K = valK w) : Px K mg (pA K) (fA K) := by
  obtain ⟨_, h2⟩ := He.ba (fE c)
  obtain ⟨_, h3⟩ := He.ba h2
  obtain ⟨h4, h5⟩ := He.ba h3
  exact ⟨smet_of h4 (He.ba h5).1, funA (fF c) h5⟩
theorem facts {P : PySem.Program} {f : Addr} (X : K.In h) (G : h.Ns mainGlobals mg) (hfa : mg ("law" : Str) = some (.ref f)) (c : obsK K = valK w) :
    ∃ fd : FuncData, (∀ (s : Shared) (v : Value), BindsTo s fd ⟨[v], []⟩ [("_law_script", v)]) ∧ ∀ base : Heap, K.In base → base.Ns mainGlobals mg → FnOk P w K mg base C8.CX0 203 f fd ["_law_script"] (spLaw K) := by
  have T := tx_of X G c
  obtain ⟨g, fd, F⟩ := T.gdef (94, "law") (by decide +kernel)
  have e := hfa.symm.trans g
  cases e
  have b := FunD.bindsA (ps := ["_law_script"]) F fun _ _ _ _ _ _ us hl => match us, hl with | [_], _ => rfl
  exact ⟨fd, fun s v => b s [v] rfl, fun base _ _ => law_fn T (ex_of X G c) (px_of c) F⟩
end
end K5
end

section
set_option linter.all false
set_option maxRecDepth 100000
theorem PySem.Challenge.cw_restruct_k53_scopes_holds : PySem.Challenge.rw_restruct_k53_scopes.Holds := by
  exact K5.holds_of K5.spLaw (fun K H a ns hS => ⟨a, ns, rfl, hS, fun _ => rfl⟩) (fun K w h mg f X G e c => K5.facts X G e c)
end
