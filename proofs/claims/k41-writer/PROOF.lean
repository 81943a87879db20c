import PyProof.Rows.All
import Wide.All
import OpenK.AllK
import Wide.FinOn
import KE.KStateDown
import HandS.ForMost
import HandS.Exc
import HandS.ExcOwn
import HandS.ExcInit
import HandS.ExcField
import HandS.TryOnly
import HandS.WordsExc
import HandS.Defaults
import HandS.MakeKw
import HandS.Sort
import HandS.SortOrd
import HandS.SortRule
import HandS.SortInts
import HandS.More
import HandS.IsInst
import HandS.Wide
import HandS.Flow
import HandS.DictComp
import HandS.Conv
import HandS.Head0
import HandS.Head1
import HandS.Head2
import HandS.HeadEnd
import HandS.HeadHook1
import HandS.HeadHook2
import HandS.HeadHook3
import HandS.HeadHook4
import HandS.SortKw
import KE.GoesMore
import PySem.Challenge.RW_manylanes_k41_whole_writer_by_places
set_option Elab.async false
set_option linter.all false
set_option maxRecDepth 100000
set_option maxHeartbeats 0
/-! the text by places; the defs as data -/
namespace K41
open PySem PySem.Spec PyProof.Rows L2
def top (i : Nat) : Stmt := PySem.Challenge.pw_manylanes_k41_whole_writer_by_places.main.body.getD i (.Pass ⟨0, 0, 0, 0⟩)
abbrev sEnded : Stmt := inClass (top 5) 0
abbrev sIsWhole : Stmt := top 8
abbrev sIsNumber : Stmt := top 9
abbrev sIsPair : Stmt := top 11
abbrev sPairOf : Stmt := top 12
abbrev sMerged : Stmt := top 13
abbrev sRInit : Stmt := inClass (top 14) 0
abbrev sRLen : Stmt := inClass (top 14) 1
abbrev sRRows : Stmt := inClass (top 14) 4
abbrev sRMany : Stmt := inClass (top 14) 5
abbrev sRAdded : Stmt := inClass (top 14) 8
abbrev sRWithout : Stmt := inClass (top 14) 9
abbrev sRLacking : Stmt := inClass (top 14) 12
abbrev sWInit : Stmt := inClass (top 16) 0
abbrev sWWrite : Stmt := inClass (top 16) 1
abbrev sWFinish : Stmt := inClass (top 16) 2
abbrev sWRaise : Stmt := inClass (top 16) 3
abbrev sWDue : Stmt := inClass (top 16) 4
abbrev sWCut : Stmt := inClass (top 16) 5
abbrev sWWould : Stmt := inClass (top 16) 6
abbrev sWCheck : Stmt := inClass (top 16) 7
abbrev sWGot : Stmt := inClass (top 16) 8
abbrev sWMissed : Stmt := inClass (top 16) 9
abbrev sWLetters : Stmt := inClass (top 16) 11
abbrev sWUpto : Stmt := inClass (top 16) 12
abbrev sWSent : Stmt := inClass (top 16) 13
abbrev sWGotP : Stmt := inClass (top 16) 14
abbrev sWMissedP : Stmt := inClass (top 16) 15
abbrev sWState : Stmt := inClass (top 16) 16
abbrev sWStored : Stmt := inClass (top 16) 17
abbrev sWriterOf : Stmt := top 17
abbrev sCell : Stmt := top 19
abbrev sMix : Stmt := top 20
abbrev sLetters : Stmt := top 21
abbrev sRows : Stmt := top 22
abbrev sDue : Stmt := top 23
abbrev sState : Stmt := top 24
abbrev sStands : Stmt := top 25
abbrev sWould : Stmt := top 26
abbrev sBounds : Stmt := top 27
abbrev sCut : Stmt := top 28
abbrev sAfter : Stmt := top 29
abbrev sRefused : Stmt := top 30
abbrev sTold : Stmt := top 31
abbrev sOne : Stmt := top 32
abbrev sPlain : Stmt := top 33
abbrev sApart : Stmt := top 34
abbrev sLaw : Stmt := top 35
/-- a def of the module, a method -/
abbrev dG (x : Str) (st : Stmt) : He.DefD := ⟨(x, none), x, x, defArgs st, defBody st, defScope st, [], []⟩
abbrev dM (C m q : Str) (st : Stmt) (dfl : List He.Dv := []) (kwd : List (Str × He.Dv) := []) : He.DefD := ⟨(C, some m), m, q, defArgs st, defBody st, defScope st, dfl, kwd⟩
def fn : List He.DefD := [
  dM "Ended" "__init__" "Ended.__init__" sEnded,
  dG "is_whole" sIsWhole, dG "is_number" sIsNumber, dG "is_pair" sIsPair, dG "pair_of" sPairOf, dG "merged" sMerged,
  dM "Ranges" "__init__" "Ranges.__init__" sRInit [.adr (He.dflAt ("Ranges", some "__init__") 0)],
  dM "Ranges" "__len__" "Ranges.__len__" sRLen, dM "Ranges" "rows" "Ranges.rows" sRRows, dM "Ranges" "many" "Ranges.many" sRMany,
  dM "Ranges" "added" "Ranges.added" sRAdded [.non], dM "Ranges" "without" "Ranges.without" sRWithout [.non], dM "Ranges" "lacking" "Ranges.lacking" sRLacking,
  dM "Writer" "__init__" "Writer.__init__" sWInit, dM "Writer" "write" "Writer.write" sWWrite, dM "Writer" "finish" "Writer.finish" sWFinish, dM "Writer" "raise_to" "Writer.raise_to" sWRaise,
  dM "Writer" "due_piece" "Writer.due_piece" sWDue, dM "Writer" "cut" "Writer.cut" sWCut [] [("fresh", .non)], dM "Writer" "would" "Writer.would" sWWould [] [("fresh", .non)], dM "Writer" "check_sent" "Writer.check_sent" sWCheck,
  dM "Writer" "got" "Writer.got" sWGot [.bl false], dM "Writer" "missed" "Writer.missed" sWMissed [.bl false],
  dM "Writer" "letters" "Writer.letters" sWLetters, dM "Writer" "upto" "Writer.upto" sWUpto, dM "Writer" "sent" "Writer.sent" sWSent, dM "Writer" "got_places" "Writer.got_places" sWGotP, dM "Writer" "missed_places" "Writer.missed_places" sWMissedP,
  dM "Writer" "state" "Writer.state" sWState, dM "Writer" "stored" "Writer.stored" sWStored,
  dG "writer_of" sWriterOf, dG "_law_cell" sCell, dG "_law_mix" sMix, dG "_law_letters" sLetters, dG "_law_rows" sRows, dG "_law_due" sDue, dG "_law_state" sState, dG "_law_stands" sStands, dG "_law_would" sWould,
  dG "_law_bounds" sBounds, dG "_law_cut" sCut, dG "_law_after_cut" sAfter, dG "_law_refused" sRefused, dG "_law_told" sTold, dG "_law_one" sOne, dG "_law_plain" sPlain, dG "_law_apart" sApart, dG "law" sLaw]
/-- names of the module that are objects; names that are not the module's -/
def globs : List Str := ["Ended", "is_whole", "is_number", "is_pair", "pair_of", "merged", "Ranges", "Writer", "writer_of", "_law_cell", "_law_mix", "_law_letters", "_law_rows", "_law_due", "_law_state", "_law_stands", "_law_would", "_law_bounds", "_law_cut", "_law_after_cut", "_law_refused", "_law_told", "_law_one", "_law_plain", "_law_apart", "law"]
def frees : List Str := ["isinstance", "int", "bool", "str", "tuple", "list", "len", "sorted", "max", "min", "sum", "enumerate", "range", "all"]
def noatR : List Str := ["spans"]
def noatW : List Str := ["lane", "text", "limit", "edge", "safe", "holes", "mood", "tail"]
def methR : List Str := ["__len__", "rows", "many", "added", "without", "lacking"]
def methW : List Str := ["write", "finish", "raise_to", "due_piece", "cut", "would", "check_sent", "got", "missed", "letters", "upto", "sent", "got_places", "missed_places", "state", "stored"]
def fa : List He.Fa := globs.map .glo ++ frees.map .free ++ noatR.map (.noat "Ranges") ++ noatW.map (.noat "Writer") ++ methR.map (.meth "Ranges") ++ methW.map (.meth "Writer") ++
  [.int "MOST" 1000000000000, .cls "Ranges", .cls "Writer", .mkr "Ranges", .mkr "Writer", .exm "Ended" "Ended" true, .noat "Ended" "lane"]
/-- the default rows of a Ranges: an empty tuple of the top -/
def rows0 (K : PySem.W.Frag) : Addr := He.dflAt ("Ranges", some "__init__") 0 K
def emptyTupB (K : PySem.W.Frag) (a : Addr) : Bool := match K.lookup a with
  | some ⟨.type c, _, .seq its _, _⟩ => decide (c = "tuple") && its.isEmpty
  | _ => false
/-- an own exception class over ValueError -/
def oexB (K : PySem.W.Frag) (C : Addr) : Bool := match K.lookup C with
  | some ⟨.type "type", _, .cls cd, sl⟩ => (match cd.mro, sl.toList with
    | .ref C' :: bm, [_, _, _, _, some (.builtin n), _] => C' == C && n == "ValueError.__new__" && !cd.hasDel && cd.hasDict && PySem.HandSPX.refsVE bm
    | _, _ => false)
  | _ => false
def ex (K : PySem.W.Frag) : Bool :=
  emptyTupB K (rows0 K) && (oexB K (He.ga K "Ended") && (xfB K (He.ga K "Ended") &&
  (decide (PySem.W.findIn K (.ref (He.ga K "Ended")) "__setattr__" = some (some (.builtin "object.__setattr__"))) && (decide (PySem.W.typeIn K (.ref (He.ga K "Ended")) = some (.type "type")) && (PySem.W.keepIn K (.ref (He.ga K "Ended")) &&
  (decide (PySem.W.findIn K (.ref (He.ga K "Ended")) "__init__" = some (some (.ref (He.ma K (He.ga K "Ended") "__init__")))) && (decide (PySem.W.typeIn K (.ref (He.ma K (He.ga K "Ended") "__init__")) = some (.type "function")) &&
  (!(He.ga K "Ranges" == He.ga K "Writer")))))))))
end K41

/-! rows of whole numbers: plain Lean -/
namespace K41
abbrev Rows := List (Int × Int)
def Mem (r : Rows) (n : Int) : Prop := ∃ p, p ∈ r ∧ p.1 ≤ n ∧ n ≤ p.2
/-- canonical: rising, no two touch -/
structure Can (r : Rows) : Prop where
  le : ∀ p, p ∈ r → p.1 ≤ p.2
  up : r.Pairwise fun p q => p.2 + 1 < q.1
theorem mem_nil {n : Int} : ¬ Mem [] n := by
  rintro ⟨p, h, _⟩
  simp at h
theorem mem_cons {p : Int × Int} {r : Rows} {n : Int} : Mem (p :: r) n ↔ (p.1 ≤ n ∧ n ≤ p.2) ∨ Mem r n := by
  constructor
  · rintro ⟨q, h, a, b⟩
    rcases List.mem_cons.mp h with e | h
    · subst e
      exact .inl ⟨a, b⟩
    · exact .inr ⟨q, h, a, b⟩
  · rintro (⟨a, b⟩ | ⟨q, h, a, b⟩)
    · exact ⟨p, List.mem_cons_self, a, b⟩
    · exact ⟨q, List.mem_cons_of_mem _ h, a, b⟩
theorem mem_append {r s : Rows} {n : Int} : Mem (r ++ s) n ↔ Mem r n ∨ Mem s n := by
  constructor
  · rintro ⟨q, h, a, b⟩
    rcases List.mem_append.mp h with h | h
    · exact .inl ⟨q, h, a, b⟩
    · exact .inr ⟨q, h, a, b⟩
  · rintro (⟨q, h, a, b⟩ | ⟨q, h, a, b⟩)
    · exact ⟨q, List.mem_append.mpr (.inl h), a, b⟩
    · exact ⟨q, List.mem_append.mpr (.inr h), a, b⟩
theorem mem_one {p : Int × Int} {n : Int} : Mem [p] n ↔ p.1 ≤ n ∧ n ≤ p.2 := by
  rw [mem_cons]
  constructor
  · rintro (h | h)
    · exact h
    · exact (mem_nil h).elim
  · exact .inl
theorem can_nil : Can [] := ⟨fun p h => by simp at h, List.Pairwise.nil⟩
theorem can_cons {p : Int × Int} {r : Rows} : Can (p :: r) ↔ p.1 ≤ p.2 ∧ (∀ q, q ∈ r → p.2 + 1 < q.1) ∧ Can r := by
  constructor
  · rintro ⟨h1, h2⟩
    obtain ⟨h3, h4⟩ := List.pairwise_cons.mp h2
    exact ⟨h1 p List.mem_cons_self, h3, ⟨fun q hq => h1 q (List.mem_cons_of_mem _ hq), h4⟩⟩
  · rintro ⟨h1, h2, h3, h4⟩
    refine ⟨fun q hq => ?_, List.pairwise_cons.mpr ⟨h2, h4⟩⟩
    rcases List.mem_cons.mp hq with e | hq
    · subst e
      exact h1
    · exact h3 q hq
theorem mem_gt {p : Int × Int} {r : Rows} (h : Can (p :: r)) {n : Int} (m : Mem r n) : p.2 + 1 < n := by
  obtain ⟨q, hq, a, b⟩ := m
  have := (can_cons.mp h).2.1 q hq
  omega
theorem can_uniq : ∀ {r s : Rows}, Can r → Can s → (∀ n, Mem r n ↔ Mem s n) → r = s
  | [], [], _, _, _ => rfl
  | [], q :: s, _, hs, h => by
    have z := (h q.1).mpr (mem_cons.mpr (.inl ⟨Int.le_refl _, (can_cons.mp hs).1⟩))
    exact (mem_nil z).elim
  | p :: r, [], hr, _, h => by
    have z := (h p.1).mp (mem_cons.mpr (.inl ⟨Int.le_refl _, (can_cons.mp hr).1⟩))
    exact (mem_nil z).elim
  | p :: r, q :: s, hr, hs, h => by
    have hp := (can_cons.mp hr).1
    have hq := (can_cons.mp hs).1
    have lo : ∀ {a : Int × Int} {t : Rows} {n : Int}, Can (a :: t) → Mem (a :: t) n → a.1 ≤ n := fun {a t n} c m => by
      rcases mem_cons.mp m with m | m
      · exact m.1
      · have := mem_gt c m
        have := (can_cons.mp c).1
        omega
    have e1 : p.1 = q.1 := by
      have a := lo hs ((h p.1).mp (mem_cons.mpr (.inl ⟨Int.le_refl _, hp⟩)))
      have b := lo hr ((h q.1).mpr (mem_cons.mpr (.inl ⟨Int.le_refl _, hq⟩)))
      omega
    have le2 : ∀ {a b : Int × Int} {t u : Rows}, Can (a :: t) → Can (b :: u) → a.1 = b.1 → (∀ n, Mem (b :: u) n → Mem (a :: t) n) → b.2 ≤ a.2 := fun {a b t u} ca cb e k => by
      by_cases c : b.2 ≤ a.2
      · exact c
      · have ha := (can_cons.mp ca).1
        have m := k (a.2 + 1) (mem_cons.mpr (.inl ⟨by omega, by omega⟩))
        rcases mem_cons.mp m with m | m
        · omega
        · have := mem_gt ca m
          omega
    have e2 : p.2 = q.2 := by
      have a := le2 hr hs e1 fun n m => (h n).mpr m
      have b := le2 hs hr e1.symm fun n m => (h n).mp m
      omega
    have e : p = q := Prod.ext e1 e2
    subst e
    refine congrArg (p :: ·) (can_uniq (can_cons.mp hr).2.2 (can_cons.mp hs).2.2 fun n => ⟨fun m => ?_, fun m => ?_⟩)
    · have g := mem_gt hr m
      rcases mem_cons.mp ((h n).mp (mem_cons.mpr (.inr m))) with z | z
      · omega
      · exact z
    · have g := mem_gt hs m
      rcases mem_cons.mp ((h n).mpr (mem_cons.mpr (.inr m))) with z | z
      · omega
      · exact z
/-- of canonical rows first and last belong to the set -/
theorem mem_ends {r : Rows} (h : Can r) {p : Int × Int} (hp : p ∈ r) : Mem r p.1 ∧ Mem r p.2 :=
  ⟨⟨p, hp, Int.le_refl _, h.le p hp⟩, ⟨p, hp, h.le p hp, Int.le_refl _⟩⟩

/-! ### one step of the merging loop -/
/-- what stands after the list acc was told one more row; l the last row so far -/
theorem can_snoc {acc : Rows} {p : Int × Int} (h : Can acc) (hp : p.1 ≤ p.2) (k : ∀ q, q ∈ acc → q.2 + 1 < p.1) : Can (acc ++ [p]) := by
  refine ⟨fun q hq => ?_, List.pairwise_append.mpr ⟨h.up, List.pairwise_singleton _ _, fun a ha b hb => ?_⟩⟩
  · rcases List.mem_append.mp hq with hq | hq
    · exact h.le q hq
    · rw [List.mem_singleton.mp hq]
      exact hp
  · rw [List.mem_singleton.mp hb]
    exact k a ha
theorem can_init {acc : Rows} {l : Int × Int} (h : Can (acc ++ [l])) : Can acc ∧ l.1 ≤ l.2 ∧ ∀ q, q ∈ acc → q.2 + 1 < l.1 := by
  obtain ⟨a, b, c⟩ := List.pairwise_append.mp h.up
  exact ⟨⟨fun q hq => h.le q (List.mem_append.mpr (.inl hq)), a⟩, h.le l (List.mem_append.mpr (.inr (List.mem_singleton.mpr rfl))), fun q hq => c q hq l (List.mem_singleton.mpr rfl)⟩
/-- the invariant of the merging: acc is canonical, its set that of pre, no first behind b -/
structure Mg (acc pre : Rows) (b : Int) : Prop where
  can : Can acc
  set : ∀ n, Mem acc n ↔ Mem pre n
  lo : ∀ q, q ∈ acc → q.1 ≤ b
theorem Mg.nil {b : Int} : Mg [] [] b := ⟨can_nil, fun n => Iff.rfl, fun q h => by simp at h⟩
/-- a row that touches the last one -/
theorem Mg.touch {acc pre : Rows} {l p : Int × Int} {b : Int} (h : Mg (acc ++ [l]) pre b) (hp : p.1 ≤ p.2) (hb : b ≤ p.1) (c : p.1 ≤ l.2 + 1) :
    Mg (acc ++ [(l.1, max l.2 p.2)]) (pre ++ [p]) p.1 := by
  obtain ⟨h1, h2, h3⟩ := can_init h.can
  have hl : l.1 ≤ b := h.lo l (List.mem_append.mpr (.inr (List.mem_singleton.mpr rfl)))
  refine ⟨can_snoc h1 (by show l.1 ≤ max l.2 p.2; omega) h3, fun n => ?_, fun q hq => ?_⟩
  · rw [mem_append, mem_append, ← h.set n, mem_append, mem_one, mem_one, mem_one]
    show Mem acc n ∨ (l.1 ≤ n ∧ n ≤ max l.2 p.2) ↔ _
    constructor
    · rintro (m | ⟨m1, m2⟩)
      · exact .inl (.inl m)
      · by_cases z : n ≤ l.2
        · exact .inl (.inr ⟨m1, z⟩)
        · exact .inr ⟨by omega, by omega⟩
    · rintro ((m | ⟨m1, m2⟩) | ⟨m1, m2⟩)
      · exact .inl m
      · exact .inr ⟨m1, by omega⟩
      · exact .inr ⟨by omega, by omega⟩
  · rcases List.mem_append.mp hq with hq | hq
    · have := h.lo q (List.mem_append.mpr (.inl hq))
      omega
    · rw [List.mem_singleton.mp hq]
      show l.1 ≤ p.1
      omega
/-- a row that does not: the first, or behind a gap -/
theorem Mg.apart {acc pre : Rows} {p : Int × Int} {b : Int} (h : Mg acc pre b) (hp : p.1 ≤ p.2) (hb : b ≤ p.1) (c : acc = [] ∨ ∃ a l, acc = a ++ [l] ∧ ¬ p.1 ≤ l.2 + 1) :
    Mg (acc ++ [p]) (pre ++ [p]) p.1 := by
  refine ⟨can_snoc h.can hp fun q hq => ?_, fun n => ?_, fun q hq => ?_⟩
  · rcases c with rfl | ⟨a, l, rfl, c⟩
    · simp at hq
    · obtain ⟨h1, h2, h3⟩ := can_init h.can
      rcases List.mem_append.mp hq with hq | hq
      · have := h3 q hq
        omega
      · rw [List.mem_singleton.mp hq]
        omega
  · rw [mem_append, mem_append, h.set n]
  · rcases List.mem_append.mp hq with hq | hq
    · have := h.lo q hq
      omega
    · rw [List.mem_singleton.mp hq]
      exact Int.le_refl _
theorem mem_perm {r s : Rows} (h : r.Perm s) (n : Int) : Mem r n ↔ Mem s n := by
  constructor
  · rintro ⟨p, hp, a⟩
    exact ⟨p, h.mem_iff.mp hp, a⟩
  · rintro ⟨p, hp, a⟩
    exact ⟨p, h.mem_iff.mpr hp, a⟩

/-! ### without -/
theorem mem_cutlo {r : Rows} {a n : Int} : Mem ((r.filter fun p => decide (p.1 < a)).map fun p => (p.1, min p.2 (a - 1))) n ↔ Mem r n ∧ n < a := by
  constructor
  · rintro ⟨q, hq, h1, h2⟩
    obtain ⟨p, hp, rfl⟩ := List.mem_map.mp hq
    obtain ⟨hp, hc⟩ := List.mem_filter.mp hp
    have hc := of_decide_eq_true hc
    have h1 : p.1 ≤ n := h1
    have h2 : n ≤ min p.2 (a - 1) := h2
    exact ⟨⟨p, hp, h1, by omega⟩, by omega⟩
  · rintro ⟨⟨p, hp, h1, h2⟩, h3⟩
    exact ⟨(p.1, min p.2 (a - 1)), List.mem_map.mpr ⟨p, List.mem_filter.mpr ⟨hp, decide_eq_true (by omega)⟩, rfl⟩, h1, (by show n ≤ min p.2 (a - 1); omega)⟩
theorem mem_cuthi {r : Rows} {b n : Int} : Mem ((r.filter fun p => decide (b < p.2)).map fun p => (max p.1 (b + 1), p.2)) n ↔ Mem r n ∧ b < n := by
  constructor
  · rintro ⟨q, hq, h1, h2⟩
    obtain ⟨p, hp, rfl⟩ := List.mem_map.mp hq
    obtain ⟨hp, hc⟩ := List.mem_filter.mp hp
    have hc := of_decide_eq_true hc
    have h1 : max p.1 (b + 1) ≤ n := h1
    have h2 : n ≤ p.2 := h2
    exact ⟨⟨p, hp, by omega, h2⟩, by omega⟩
  · rintro ⟨⟨p, hp, h1, h2⟩, h3⟩
    exact ⟨(max p.1 (b + 1), p.2), List.mem_map.mpr ⟨p, List.mem_filter.mpr ⟨hp, decide_eq_true (by omega)⟩, rfl⟩, (by show max p.1 (b + 1) ≤ n; omega), h2⟩

/-! ### lacking -/
/-- the invariant of the loop: behind the rows pre, ahead of rest -/
structure Lk (first last at_ : Int) (rows pre rest : Rows) : Prop where
  set : ∀ n, Mem rows n ↔ (first ≤ n ∧ n ≤ last ∧ n < at_ ∧ ¬ Mem pre n)
  before : ∀ q, q ∈ pre → q.2 < at_
  fst : first ≤ at_
  behind : at_ = first ∨ ∀ q, q ∈ rest → at_ < q.1
  wf : ∀ q, q ∈ rows → q.1 ≤ q.2
  len : rows.length ≤ pre.length
theorem Lk.start {first last : Int} {spans : Rows} : Lk first last first [] [] spans :=
  ⟨fun n => ⟨fun m => (mem_nil m).elim, fun ⟨a, _, b, _⟩ => by omega⟩, fun q h => by simp at h, Int.le_refl _, .inl rfl, fun q h => by simp at h, Nat.le_refl _⟩
theorem Lk.step {first last at_ : Int} {rows pre rest : Rows} {p : Int × Int} (h : Lk first last at_ rows pre (p :: rest)) (c : Can (p :: rest)) (cp : ∀ q, q ∈ pre → q.2 + 1 < p.1) :
    (at_ < p.1 ∧ at_ ≤ last → Lk first last (max at_ (p.2 + 1)) (rows ++ [(at_, min (p.1 - 1) last)]) (pre ++ [p]) rest) ∧
    (¬ (at_ < p.1 ∧ at_ ≤ last) → Lk first last (max at_ (p.2 + 1)) rows (pre ++ [p]) rest) := by
  obtain ⟨c1, c2, c3⟩ := can_cons.mp c
  have hrest : max at_ (p.2 + 1) = first ∨ ∀ q, q ∈ rest → max at_ (p.2 + 1) < q.1 := by
    by_cases z : p.2 + 1 ≤ at_
    · rcases h.behind with e | e
      · exact .inl (by omega)
      · have := e p List.mem_cons_self
        omega
    · refine .inr fun q hq => ?_
      have := c2 q hq
      omega
  have hpre : ∀ q, q ∈ pre ++ [p] → q.2 < max at_ (p.2 + 1) := fun q hq => by
    rcases List.mem_append.mp hq with hq | hq
    · have := h.before q hq
      omega
    · rw [List.mem_singleton.mp hq]
      omega
  have nopre : ∀ n, at_ ≤ n → ¬ Mem pre n := fun n hn ⟨q, hq, a, b⟩ => by
    have := h.before q hq
    omega
  have hf := h.fst
  have inp : ∀ n, first ≤ n → n < at_ → p.1 ≤ n → ¬ n ≤ p.2 ∨ False := fun n h1 h2 h3 => by
    rcases h.behind with e | e
    · omega
    · have := e p List.mem_cons_self
      omega
  refine ⟨fun ⟨k1, k2⟩ => ⟨fun n => ?_, hpre, by omega, hrest, fun q hq => ?_, ?_⟩, fun k => ⟨fun n => ?_, hpre, by omega, hrest, h.wf, ?_⟩⟩
  · rw [mem_append, mem_append, mem_one, mem_one, h.set n]
    show (first ≤ n ∧ n ≤ last ∧ n < at_ ∧ ¬ Mem pre n) ∨ (at_ ≤ n ∧ n ≤ min (p.1 - 1) last) ↔ _
    constructor
    · rintro (⟨a1, a2, a3, a4⟩ | ⟨a1, a2⟩)
      · refine ⟨a1, a2, by omega, fun m => ?_⟩
        rcases m with m | ⟨m1, m2⟩
        · exact a4 m
        · rcases inp n a1 a3 m1 with z | z
          · exact z m2
          · exact z
      · refine ⟨by omega, by omega, by omega, fun m => ?_⟩
        rcases m with m | ⟨m1, m2⟩
        · exact nopre n a1 m
        · omega
    · rintro ⟨a1, a2, a3, a4⟩
      by_cases z : n < at_
      · exact .inl ⟨a1, a2, z, fun m => a4 (.inl m)⟩
      · refine .inr ⟨by omega, ?_⟩
        by_cases y : p.1 ≤ n
        · exact (a4 (.inr ⟨y, by omega⟩)).elim
        · omega
  · rcases List.mem_append.mp hq with hq | hq
    · exact h.wf q hq
    · rw [List.mem_singleton.mp hq]
      show at_ ≤ min (p.1 - 1) last
      omega
  · have := h.len
    simp only [List.length_append, List.length_singleton]
    omega
  · rw [mem_append, mem_one, h.set n]
    constructor
    · rintro ⟨a1, a2, a3, a4⟩
      refine ⟨a1, a2, by omega, fun m => ?_⟩
      rcases m with m | ⟨m1, m2⟩
      · exact a4 m
      · rcases inp n a1 a3 m1 with z | z
        · exact z m2
        · exact z
    · rintro ⟨a1, a2, a3, a4⟩
      refine ⟨a1, a2, ?_, fun m => a4 (.inl m)⟩
      by_cases z : n < at_
      · exact z
      · exfalso
        by_cases y : p.1 ≤ n
        · exact a4 (.inr ⟨y, by omega⟩)
        · exact k ⟨by omega, by omega⟩
  · have := h.len
    simp only [List.length_append, List.length_singleton]
    omega
/-- behind the loop -/
theorem Lk.done {first last at_ : Int} {rows pre : Rows} (h : Lk first last at_ rows pre []) :
    (at_ ≤ last → (∀ n, Mem (rows ++ [(at_, last)]) n ↔ (first ≤ n ∧ n ≤ last ∧ ¬ Mem pre n)) ∧ ∀ q, q ∈ rows ++ [(at_, last)] → q.1 ≤ q.2) ∧
    (¬ at_ ≤ last → (∀ n, Mem rows n ↔ (first ≤ n ∧ n ≤ last ∧ ¬ Mem pre n)) ∧ ∀ q, q ∈ rows → q.1 ≤ q.2) := by
  have nopre : ∀ n, at_ ≤ n → ¬ Mem pre n := fun n hn ⟨q, hq, a, b⟩ => by
    have := h.before q hq
    omega
  have hf := h.fst
  refine ⟨fun k => ⟨fun n => ?_, fun q hq => ?_⟩, fun k => ⟨fun n => ?_, h.wf⟩⟩
  · rw [mem_append, mem_one, h.set n]
    show (first ≤ n ∧ n ≤ last ∧ n < at_ ∧ ¬ Mem pre n) ∨ (at_ ≤ n ∧ n ≤ last) ↔ _
    constructor
    · rintro (⟨a1, a2, a3, a4⟩ | ⟨a1, a2⟩)
      · exact ⟨a1, a2, a4⟩
      · exact ⟨by omega, a2, nopre n a1⟩
    · rintro ⟨a1, a2, a3⟩
      by_cases z : n < at_
      · exact .inl ⟨a1, a2, z, a3⟩
      · exact .inr ⟨by omega, a2⟩
  · rcases List.mem_append.mp hq with hq | hq
    · exact h.wf q hq
    · rw [List.mem_singleton.mp hq]
      exact k
  · rw [h.set n]
    constructor
    · rintro ⟨a1, a2, a3, a4⟩
      exact ⟨a1, a2, a4⟩
    · rintro ⟨a1, a2, a3⟩
      exact ⟨a1, a2, by omega, a3⟩

/-! ### how many -/
def cnt (r : Rows) : Int := (r.map fun p => p.2 - p.1 + 1).sum
/-- the numbers of a row -/
def nums (a : Int) : Nat → List Int
  | 0 => []
  | k + 1 => a :: nums (a + 1) k
theorem mem_nums : ∀ {k : Nat} {a n : Int}, n ∈ nums a k ↔ a ≤ n ∧ n < a + k
  | 0, a, n => by
    constructor
    · intro h
      simp [nums] at h
    · rintro ⟨h1, h2⟩
      omega
  | k + 1, a, n => by
    unfold nums
    rw [List.mem_cons, mem_nums]
    constructor
    · rintro (h | h) <;> omega
    · rintro ⟨h1, h2⟩
      by_cases c : n = a
      · exact .inl c
      · exact .inr ⟨by omega, by omega⟩
theorem nums_nodup : ∀ {k : Nat} {a : Int}, (nums a k).Nodup
  | 0, a => List.nodup_nil
  | k + 1, a => List.nodup_cons.mpr ⟨fun h => by have := (mem_nums.mp h).1; omega, nums_nodup⟩
theorem nums_length : ∀ {k : Nat} {a : Int}, (nums a k).length = k
  | 0, a => rfl
  | k + 1, a => by
    unfold nums
    rw [List.length_cons, nums_length]
def spread : Rows → List Int
  | [] => []
  | p :: r => nums p.1 (p.2 - p.1 + 1).toNat ++ spread r
theorem mem_spread : ∀ {r : Rows} {n : Int}, n ∈ spread r ↔ Mem r n
  | [], n => by
    constructor
    · intro h
      simp [spread] at h
    · intro h
      exact (mem_nil h).elim
  | p :: r, n => by
    unfold spread
    rw [List.mem_append, mem_spread, mem_nums, mem_cons]
    constructor
    · rintro (h | h)
      · exact .inl (by omega)
      · exact .inr h
    · rintro (h | h)
      · exact .inl (by omega)
      · exact .inr h
theorem spread_nodup : ∀ {r : Rows}, Can r → (spread r).Nodup
  | [], _ => List.nodup_nil
  | p :: r, h => by
    unfold spread
    refine List.nodup_append.mpr ⟨nums_nodup, spread_nodup (can_cons.mp h).2.2, fun a ha b hb e => ?_⟩
    subst e
    have g := mem_gt h (mem_spread.mp hb)
    have q := mem_nums.mp ha
    omega
theorem spread_length : ∀ {r : Rows}, Can r → ((spread r).length : Int) = cnt r
  | [], _ => rfl
  | p :: r, h => by
    have ih := spread_length (can_cons.mp h).2.2
    have hp := (can_cons.mp h).1
    unfold spread
    rw [List.length_append, nums_length]
    have e : cnt (p :: r) = (p.2 - p.1 + 1) + cnt r := by
      unfold cnt
      rw [List.map_cons, List.sum_cons]
    rw [e]
    omega
theorem len_le_of_sub : ∀ {l m : List Int}, l.Nodup → (∀ n, n ∈ l → n ∈ m) → l.length ≤ m.length
  | [], m, _, _ => Nat.zero_le _
  | a :: l, m, hn, h => by
    obtain ⟨h1, h2⟩ := List.nodup_cons.mp hn
    have ha := h a List.mem_cons_self
    have z : l.length ≤ (m.erase a).length := len_le_of_sub h2 fun n hl => by
      have hm := h n (List.mem_cons_of_mem _ hl)
      have ne : n ≠ a := fun e => by
        subst e
        exact h1 hl
      exact (List.mem_erase_of_ne ne).mpr hm
    have e := List.length_erase_of_mem ha
    have pos : 0 < m.length := List.length_pos_of_mem ha
    rw [List.length_cons]
    omega
theorem cnt_eq {r : Rows} {ks : List Int} (h : Can r) (hn : ks.Nodup) (hs : ∀ n, n ∈ ks ↔ Mem r n) : cnt r = (ks.length : Int) := by
  rw [← spread_length h]
  have a := len_le_of_sub (spread_nodup h) fun n m => (hs n).mpr (mem_spread.mp m)
  have b := len_le_of_sub hn fun n m => mem_spread.mpr ((hs n).mp m)
  omega

/-! ### the least run -/
/-- a and m: the least number and how many there are in a row -/
structure Run (S : Int → Prop) (a m : Int) : Prop where
  pos : 1 ≤ m
  least : ∀ n, S n → a ≤ n
  row : ∀ n, a ≤ n → n < a + m → S n
  stop : ¬ S (a + m)
theorem Run.uniq {S : Int → Prop} {a m b k : Int} (x : Run S a m) (y : Run S b k) : a = b ∧ m = k := by
  have h1 := x.pos
  have h2 := y.pos
  have e : a = b := by
    have := x.least b (y.row b (Int.le_refl _) (by omega))
    have := y.least a (x.row a (Int.le_refl _) (by omega))
    omega
  subst e
  refine ⟨rfl, ?_⟩
  by_cases c : m < k
  · exact (x.stop (y.row (a + m) (by omega) (by omega))).elim
  · by_cases d : k < m
    · exact (y.stop (x.row (a + k) (by omega) (by omega))).elim
    · omega
theorem run_of_can {p : Int × Int} {r : Rows} (h : Can (p :: r)) : Run (Mem (p :: r)) p.1 (p.2 - p.1 + 1) := by
  have hp := (can_cons.mp h).1
  refine ⟨by omega, fun n m => ?_, fun n a b => mem_cons.mpr (.inl ⟨a, by omega⟩), fun m => ?_⟩
  · rcases mem_cons.mp m with m | m
    · exact m.1
    · have := mem_gt h m
      omega
  · rcases mem_cons.mp m with m | m
    · omega
    · have := mem_gt h m
      omega
/-- the run that a state tells: none, or the least -/
def RunOf (S : Int → Prop) : Option (Int × Int) → Prop
  | none => ∀ n, ¬ S n
  | some p => Run S p.1 p.2
theorem RunOf.uniq {S : Int → Prop} : ∀ {x y : Option (Int × Int)}, RunOf S x → RunOf S y → x = y
  | none, none, _, _ => rfl
  | none, some p, h, k => ((h p.1) (k.row p.1 (Int.le_refl _) (by have := k.pos; omega))).elim
  | some p, none, h, k => ((k p.1) (h.row p.1 (Int.le_refl _) (by have := h.pos; omega))).elim
  | some p, some q, h, k => by
    obtain ⟨e1, e2⟩ := Run.uniq h k
    exact congrArg some (Prod.ext e1 e2)
theorem Run.congr {S S' : Int → Prop} (e : ∀ n, S n ↔ S' n) {a m : Int} (h : Run S a m) : Run S' a m :=
  ⟨h.pos, fun n z => h.least n ((e n).mpr z), fun n h1 h2 => (e n).mp (h.row n h1 h2), fun z => h.stop ((e _).mpr z)⟩
theorem RunOf.congr {S S' : Int → Prop} (e : ∀ n, S n ↔ S' n) : ∀ {x : Option (Int × Int)}, RunOf S x → RunOf S' x
  | none, h => fun n z => h n ((e n).mpr z)
  | some _, h => Run.congr e h
end K41

/-! rules that the layer lacks, 1: short words; a method with keywords; defs that run in an except suite too; len of an own instance; sum(xs, start=0) -/
namespace K41
open PySem PySem.Spec PyProof.Rows L2
section
variable {P : Program} {w : World} {K : PySem.W.Frag} {mg : Str → Option Value} {base : Heap} {x qual : Str} {params : Arguments} {body : List Stmt} {scope : Scope} {dvs : List V} {kws : List (Str × V)} {f : Addr} {fd : FuncData}
/-- a def out of which nothing is raised -/
theorem ok0 {N ps : List Str} {k : Nat} {sp : Sp} (F : FunD K x qual params body scope dvs kws f fd) (S : FnScope N ps scope) (len : ∀ vs H Q E, sp vs H Q E → vs.length = ps.length)
    (hbody : ∀ (cdv : Value) (A : Around) (outer : List Env) (s : Shared) (H : Hp) (vs : List V) (Q : VK) (E : XK), Room k (A.deeper (envOfC qual scope s.heap.objs.size f cdv)) → sp vs H Q E →
      ∃ t, PSs (cxOf CX0 P w K mg base N qual scope f cdv A outer s H E).nox body t ∧ t { nx := fun _ H' => Q .non H', rt := Q } (start N vs) H) : FnOk P w K mg base CX0 (k + 1) f fd ps sp :=
  F.ok S len fun cdv A outer s H vs Q E hr h => by
    obtain ⟨t, h1, h2⟩ := hbody cdv A outer s H vs Q E hr h
    exact ⟨t, h1.nox, h2⟩
end
/-! ### o.m(e, k = v) -/
def tMethN (C : Addr) (m : Str) (n j : Nat) (sp : Sp) (gV : List V → List V → List V) (E : XK) (ta : TE) (t tk : TA) : TE := fun σ H Q => ta σ H fun x H1 => ∃ a dx fs, x = .ref a ∧ H1 a = some (.ins C dx fs) ∧ fs.lookup m = none ∧
  t σ H1 fun vs H2 => tk σ H2 fun zs H3 => (x :: vs).length = n ∧ zs.length = j ∧ sp (gV (x :: vs) zs) H3 Q E
section
variable {X : Cx} {CX : CXT} {k n : Nat} {f C : Addr} {fd : FuncData} {ps ks : List Str} {sp : Sp} {E : XK} {m : Str} {p pos apos : Pos} {e o : Expr} {es : List Expr} {kws : List Keyword} {ta : TE} {t tk : TA} {g : List Value → List Value → List Value} {gV : List V → List V → List V}
theorem pe_methN {pl : Sem Bool} (he : PE X o ta) (c : Cls X.K C) (hm : Meth X.K C m f) (F : FnOk X.prog X.w X.K X.mg X.base CX k f fd ps sp) (hr : Room k X.A) (hb : KBn X.K fd ps n ks g gV) (hx : Passes CX X E)
    (ha : PA X (e :: es) t) (hkw : PK X kws tk) (hall : (backToKw pos (keywordEach kws X.env)).all (·.1.isSome) = true := by rfl) (hks : (backToKw pos (keywordEach kws X.env)).filterMap (·.1) = ks := by rfl)
    (hst : starEach (e :: es) X.env = (false, eval e X.env) :: starEach es X.env := by rfl)
    (hpl : ((backTo pos (starEach (e :: es) X.env)).any (·.1) || (backToKw pos (keywordEach kws X.env)).any (·.1.isNone)) = false := by rfl)
    (ht : eval (.Call (.Attribute o m apos) (e :: es) kws pos) X.env = (do
      let ov ← eval o X.env
      standAt apos.atName
      let (f, first) ← holding [ov] (getMethod ov m pl)
      callWith pos f first (backTo pos (starEach (e :: es) X.env)) (backToKw pos (keywordEach kws X.env))) := by rfl) :
    PE X (.Call (.Attribute o m apos) (e :: es) kws pos) (tMethN C m n ks.length sp gV E ta t tk) := by
  refine ⟨fun pins s σ H Q I h => ?_⟩
  refine PySem.W.methodCall_KW (pl := pl) (thn (he.run pins s σ H _ I h) fun u s1 ⟨x, H1, I1, rx, a, dx, fs, ex, ea, l, q⟩ => ?_) ht
  subst ex
  obtain rfl : u = Value.ref a := rx
  refine getmeth_ok I1 ea c hm l ?_
  refine PySem.W.callWith_KW (first := [.ref a]) (h₀ := X.base) I.ok.mod.kin hm.kp hall (thn (ha.run pos pins s1 σ H1 _ I1 q) fun us s2 ⟨vs, H2, I2, r, q2⟩ => ?_) hpl hst
  refine thn (hkw.run pos pins s2 σ H2 _ I2 q2) fun ws s3 ⟨zs, H3, I3, rz, l1, l2, q3⟩ => ⟨I3.kIn, ?_⟩
  rw [hks]
  exact run_fnN (us := .ref a :: us) (vs := .ref a :: vs) F hr hb hx I3 (.cons rfl r) rz l1 l2 q3
end
/-! ### defs that run where an exception is handled, too -/
structure RoomA (k : Nat) (A : Around) : Prop where
  dp : A.depth + 3 * k + 5 < recursionLimit
  un : A.units + 16 * k + 200 < cLine
theorem RoomA.mono {j k : Nat} {A : Around} (r : RoomA k A) (h : j ≤ k) : RoomA j A := ⟨by have := r.dp; omega, by have := r.un; omega⟩
theorem RoomA.deeper {k : Nat} {A : Around} (r : RoomA (k + 1) A) (env : Env) : RoomA k (A.deeper env) :=
  ⟨by have := r.dp; show A.depth + 1 + 3 * k + 5 < _; omega, by have := r.un; show A.units + 3 + 16 * k + 200 < _; omega⟩
theorem RoomA.depth {k : Nat} {A : Around} (r : RoomA k A) : A.depth < recursionLimit := by have := r.dp; omega
theorem roomA_of {k : Nat} {A : Around} (r : Room k A) : RoomA k A := ⟨r.dp, r.un⟩
theorem RoomA.mark {k : Nat} {A : Around} (r : RoomA k A) (v : Option Value) : RoomA k (A.mark v) := ⟨r.dp, r.un⟩
theorem RoomA.units {k : Nat} {A : Around} (r : RoomA k A) : A.units + 64 < cLine := by have := r.un; omega
structure FnA (P : Program) (w : World) (K : PySem.W.Frag) (mg : Str → Option Value) (base : Heap) (k : Nat) (f : Addr) (fd : FuncData) (ps : List Str) (sp : Sp) : Prop where
  len : ∀ vs H Q E, sp vs H Q E → vs.length = ps.length
  run : ∀ (A : Around) (outer : List Env) (s : Shared) (H : Hp) (args : Args) (us : List Value) (vs : List V) (Q : VK) (E : XK), RoomA k A → Env0 P w K mg base A outer s H → BindsTo s fd args (ps.zip us) → Vals vs us → sp vs H Q E →
    codeAny (model P w) A (.call (.ref f) args) (CR CX0 outer P w H s Q E) s
theorem FnA.ok {P : Program} {w : World} {K : PySem.W.Frag} {mg : Str → Option Value} {base : Heap} {k : Nat} {f : Addr} {fd : FuncData} {ps : List Str} {sp : Sp} (F : FnA P w K mg base k f fd ps sp) : FnOk P w K mg base CX0 k f fd ps sp :=
  ⟨F.len, fun A outer s H args us vs Q E hr => F.run A outer s H args us vs Q E (roomA_of hr)⟩
def cxA (P : Program) (w : World) (K : PySem.W.Frag) (mg : Str → Option Value) (base : Heap) (N : List Str) (qual : Str) (scope : Scope) (f : Addr) (cd : Value) (A : Around) (outer : List Env) (s : Shared) (H : Hp) (E : XK) : Cx :=
  { cxOf CX0 P w K mg base N qual scope f cd A outer s H E with calm := false }
theorem inv_startA {P : Program} {w : World} {K : PySem.W.Frag} {mg : Str → Option Value} {base : Heap} {N ps : List Str} {qual : Str} {scope : Scope} {f : Addr} {cd : Value} {A : Around} {outer : List Env} {s s1 : Shared} {H : Hp} {E : XK} {us : List Value} {vs : List V}
    (S : FnScope N ps scope) (e0 : Env0 P w K mg base A outer s H) (hl : vs.length = ps.length) (r : Vals vs us)
    (x : InCallC s s.heap.objs.size (bindL (envOfC qual scope s.heap.objs.size f cd).kindOf (ps.zip us) fun _ => none) (cellsFrom (s.heap.objs.size + 1) scope.names []) (bindC (envOfC qual scope s.heap.objs.size f cd).kindOf (ps.zip us) fun _ => none) s1) :
    Inv (cxA P w K mg base N qual scope f cd A outer s H E) [] (start N vs) H s1 := by
  have hpl : ps.length ≤ N.length := by have := congrArg List.length S.pre; rw [List.length_take] at this; omega
  obtain ⟨h1, tk, rfl, hk⟩ := x.done
  have noA : ∀ b : Addr, b ∉ (cxA P w K mg base N qual scope f cd A outer s H E).ex := fun b z => absurd (show b ∈ ([] : List Addr) from z) (by simp)
  refine ⟨⟨e0.mod, S.kind, rfl, rfl, Nat.le_refl _, fun y z c h1 h2 => ?_, fun y hy => ?_, fun y c _ h => ?_, (fun z => Bool.noConfusion (show false = true from z)), Around.frames_deeper e0.frames, .inr ⟨rfl, rfl⟩, fun b z => absurd z (noA b), e0.bs, e0.bsz, fun b _ _ => noA b, fun b z => absurd z (noA b), e0.funs, e0.frf⟩,
    rfl, e0.bare, Un.kept hk, ⟨_, x.toInCall.ns, fun i y v h1 h2 h3 => ?_⟩, fun y c h => ⟨_, x.cell y c h⟩, e0.hok.fresh (Nat.le_refl _), fun y c h => ?_, fun p hp => absurd (show p ∈ ([] : List (Addr × Obj)) from hp) (by simp), e0.hok.kept hk, ?_⟩
  · exact name_of_addr x.apart (PySem.mem_of_lookup h1) (PySem.mem_of_lookup h2)
  · have hy : scope.names.lookup y = some .cell ∨ scope.names.lookup y = some .free := hy
    rcases hy with hy | hy
    · exact cell_has hy
    · exact absurd rfl (S.nofree _ (PySem.mem_of_lookup hy))
  · exact Nat.le_of_lt (x.above y c (PySem.mem_of_lookup h))
  · have hi : i < vs.length := by
      unfold L2.start at h2
      by_cases hi : i < vs.length
      · exact hi
      · rw [List.getElem?_append_right (by simpa using hi)] at h2
        rw [List.getElem?_replicate] at h2
        split at h2 <;> cases h2
    have ha : vs[i]? = some v := by
      unfold L2.start at h2
      rw [List.getElem?_append_left (by simpa using hi), List.getElem?_map] at h2
      cases e : vs[i]? with
      | none => rw [e] at h2; cases h2
      | some a => rw [e] at h2; cases h2; rfl
    obtain ⟨u, hu, rv⟩ := r.get ha
    have hp : ps[i]? = some y := by
      rw [← S.pre, List.getElem?_take_of_lt (by omega)]; exact h1
    have ndP : ps.Nodup := by rw [← S.pre]; exact S.nd.sublist (List.take_sublist _ _)
    refine ⟨u, rv, ?_⟩
    rcases S.par y (List.mem_of_getElem? hp) with k | k
    · exact .inl ⟨k, bindL_get ndP hp hu k⟩
    · obtain ⟨c, e⟩ := cell_has (n := s.heap.objs.size + 1) k
      refine .inr ⟨.inl k, c, e, ?_⟩
      have q := x.cell y c e
      rw [bindC_get ndP hp hu (by show scope.names.lookup y ≠ _; rw [k]; decide)] at q
      exact q
  · exact e0.hok.fresh (Nat.le_of_lt (x.above y c (PySem.mem_of_lookup h)))
  · unfold L2.start
    show _ = N.length
    rw [List.length_append, List.length_map, List.length_replicate]
    omega
theorem okA {P : Program} {w : World} {K : PySem.W.Frag} {mg : Str → Option Value} {base : Heap} {x qual : Str} {params : Arguments} {body : List Stmt} {scope : Scope} {dvs : List V} {kws : List (Str × V)} {f : Addr} {fd : FuncData} {N ps : List Str} {k : Nat} {sp : Sp}
    (F : FunD K x qual params body scope dvs kws f fd) (S : FnScope N ps scope) (len : ∀ vs H Q E, sp vs H Q E → vs.length = ps.length)
    (hbody : ∀ (cdv : Value) (A : Around) (outer : List Env) (s : Shared) (H : Hp) (vs : List V) (Q : VK) (E : XK), RoomA k (A.deeper (envOfC qual scope s.heap.objs.size f cdv)) → sp vs H Q E →
      ∃ t, PSs (cxA P w K mg base N qual scope f cdv A outer s H E).nox body t ∧ t { nx := fun _ H' => Q .non H', rt := Q } (start N vs) H) : FnA P w K mg base (k + 1) f fd ps sp := by
  obtain ⟨oc, od, dV, kV, doc, pm, an, cdv, ct, osl, rfl, lk, hcd, _, _⟩ := F.ex
  refine ⟨len, fun A outer s H args us vs Q E hr e0 hb r hsp => ?_⟩
  have hl := len _ _ _ _ hsp
  have KX : K.In s.heap := e0.mod.kin.keeps fun b o e => (e0.bs b o e).1
  have lim : s.heap.NoLimit := e0.mod.nolimit.keeps fun b o e => (e0.bs b o e).1
  have hkind : ∀ y ∈ ps.zip us, scope.names.lookup y.1 = some .local ∨ (scope.names.lookup y.1 = some .cell ∧ ((cellsFrom (s.heap.objs.size + 1) scope.names []).lookup y.1).isSome = true) := fun ⟨n, v⟩ hy => by
    rcases S.par n (List.of_mem_zip hy).1 with q | q
    · exact .inl q
    · exact .inr ⟨q, PySem.W.cellsFrom_some _ _ _ (.inl q)⟩
  refine codeAny_call_function hr.depth (KX _ _ lk) rfl S.co S.gen rfl (PySem.W.codeRec_of KX hcd) (hb _ _ _ _ ?_)
  refine wpAny_newFunctionEnv_cells S.kind hkind fun env he s1 y => ?_
  subst he
  refine ⟨lim.keeps y.toInCall.keep, codeAny_func ?_⟩
  obtain ⟨t, ht, hq⟩ := hbody cdv A outer s H vs Q E (hr.deeper _) hsp
  have I : Inv (cxA P w K mg base N qual scope f cdv A outer s H E) [] (start N vs) H s1 := inv_startA S e0 hl r y
  refine wpAny_mono (ht.nox.run [] s1 (start N vs) H _ I hq) (fun fl s' hs => ?_) fun e s' hs => hs
  have fin : ∀ {σ' : L2.St} {H' : Hp} {v : V} {u : Value}, Inv (cxA P w K mg base N qual scope f cdv A outer s H E) [] σ' H' s' → RelV v u → Q v H' → CE outer P w H s Q u s' :=
    fun {σ' H' v u} J rv q => ⟨v, H', J.os, J.bare, J.base, J.hok, rv, q⟩
  cases fl with
  | ret u =>
    obtain ⟨v, σ', H', J, rv, q⟩ := hs
    exact fin J rv q
  | next =>
    obtain ⟨σ', H', J, q⟩ := hs
    exact fin (v := V.non) (u := Value.none) J rfl q
  | brk =>
    obtain ⟨_, _, _, q⟩ := hs
    exact False.elim q
  | cont =>
    obtain ⟨_, _, _, q⟩ := hs
    exact False.elim q
section
variable {X : Cx} {k : Nat} {f C : Addr} {fd : FuncData} {ps : List Str} {sp : Sp} {m : Str} {pos apos : Pos} {e o : Expr} {es : List Expr} {ta : TE} {t : TA}
theorem run_fnA {pins : List (Addr × Obj)} {σ : L2.St} {H : Hp} {s : Shared} {Q : VK} {us : List Value} {vs : List V} (F : FnA X.prog X.w X.K X.mg X.base k f fd ps sp) (hr : RoomA k X.A) (hb : Binds X.K fd ps [])
    (I : Inv X pins σ H s) (r : Vals vs us) (h : sp vs H Q E0) : wpAny (model X.prog X.w) X.A (call (.ref f) us) (EP X pins σ Q) X.xe s := by
  have hl : (us ++ []).length = ps.length := by rw [List.append_nil, ← r.length]; exact F.len _ _ _ _ h
  have b := hb s us I.kIn hl
  rw [List.append_nil] at b
  refine wpAny_call (codeAny_mono (F.run X.A X.stack s H ⟨us, []⟩ us vs Q E0 hr I.env0 b r h) fun r s' hq => ?_)
  cases r with
  | error e => exact hq.elim
  | ok fl =>
    cases fl with
    | ret u => exact I.after hq
    | next => exact False.elim hq
    | brk => exact False.elim hq
    | cont => exact False.elim hq
/-- o.m() of such a def -/
theorem pe_methA0 {pl : Sem Bool} (he : PE X o ta) (c : Cls X.K C) (hm : Meth X.K C m f) (F : FnA X.prog X.w X.K X.mg X.base k f fd ps sp) (hr : RoomA k X.A) (hb : Binds X.K fd ps [])
    (ht : eval (.Call (.Attribute o m apos) [] [] pos) X.env = (do
      let ov ← eval o X.env
      standAt apos.atName
      let (f, first) ← holding [ov] (getMethod ov m pl)
      callWith pos f first (backTo pos (starEach [] X.env)) (backToKw pos (keywordEach [] X.env))) := by rfl) :
    PE X (.Call (.Attribute o m apos) [] [] pos) (tMeth C m sp [] E0 ta tNil) := by
  refine ⟨fun pins s σ H Q I h => ?_⟩
  refine PySem.W.methodCall_KW (pl := pl) (thn (he.run pins s σ H _ I h) fun u s1 ⟨x, H1, I1, rx, a, dx, fs, ex, ea, l, q⟩ => ?_) ht
  subst ex
  obtain rfl : u = Value.ref a := rx
  refine getmeth_ok I1 ea c hm l ?_
  exact PySem.W.callWith_K0 (first := [.ref a]) I1.kIn hm.kp (run_fnA (us := [.ref a]) (vs := [.ref a]) F hr hb I1 (.cons rfl .nil) q)
end
/-! ### len of an own instance -/
section
variable {X : Cx} {k : Nat} {f C : Addr} {fd : FuncData} {ps : List Str} {sp : Sp}
theorem call_lenOwn (F : FnOk X.prog X.w X.K X.mg X.base CX0 (k + 1) f fd ps sp) (hr : Room (k + 2) X.A) (hb : Binds X.K fd ps []) (hm : Meth X.K C "__len__" f) :
    CallR X (.builtin "len") (fun xs H Q => ∃ a dx fs, xs = [V.ref a] ∧ H a = some (.ins C dx fs) ∧ sp [V.ref a] H (fun v H' => ∃ n : Int, v = .int n ∧ 0 ≤ n ∧ n < 2 ^ 63 ∧ Q (.int n) H') E0) := by
  intro pins s σ H xs us Q I r h
  obtain ⟨a, dx, fs, rfl, ha, q⟩ := h
  obtain ⟨u, rfl, ru⟩ := vals1 r
  obtain rfl : u = Value.ref a := ru
  obtain ⟨mA, O, _⟩ := ins_get I.hok ha
  obtain ⟨od, J, _⟩ := O.look
  obtain ⟨m, fr⟩ := I.fr
  refine PySem.W.len_K fr I.ok.mod.kin J hm.at_ hm.fn ?_
  have hl : ([Value.ref a] ++ []).length = ps.length := (F.len _ _ _ _ q : [V.ref a].length = ps.length)
  have b := hb s [Value.ref a] I.kIn hl
  rw [List.append_nil] at b
  refine wpAny_call (codeAny_mono (F.run X.A.in1 X.stack s H ⟨[.ref a], []⟩ [.ref a] [.ref a] _ E0 hr.in1 I.env0.in1 b (.cons rfl .nil) q) fun r s' hq => ?_)
  cases r with
  | error e => exact hq.elim
  | ok fl =>
    cases fl with
    | ret u =>
      obtain ⟨v, H', I', rv, n, rfl, h0, h1, q'⟩ := I.after hq
      obtain ⟨t, rfl⟩ := rv
      exact ⟨⟨h0, h1⟩, .int n, H', I'.tok _, ⟨_, rfl⟩, q'⟩
    | next => exact False.elim hq
    | brk => exact False.elim hq
    | cont => exact False.elim hq
end
end K41

/-! rules that the layer lacks, 2: sum(xs, start=0); a dict beside {}; a text times a number; xs.extend(a tuple) -/
namespace PySem
namespace F
theorem args_sum_start (a b : Value) : argsOk "sum" ⟨[a], [(Str.ofString "start", b)]⟩ := by unfold argsOk; kernel_rfl
end F
section
variable {prog : Program} {w : World} {A : Around} {E : Value → Shared → Prop} {s : Shared}
theorem call_function_tree_kw {id : String} {b : Builtin} {args : List Value} {kw : List (Str × Value)} {Q : Value → Shared → Prop} (hk : builtinKind id = none) (hp : plainId id = true)
    (hb : entryFor table id = some b) (ha : argsOk id ⟨args, kw⟩)
    (hc : wpAny (model prog w) A.in1 (b ⟨args, kw⟩) (fun fin s' => match fin with
      | .done f => (match (Except.ok f : Result) with | .ok (.ret v) => Q v s' | .ok _ => False | .error e => E e s')
      | .again c' => c'.quiet = true ∧ codeAny (model prog w) A c' (fun r s' => match r with | .ok (.ret v) => Q v s' | .ok _ => False | .error e => E e s') s') E s) :
    wpAny (model prog w) A (call (.builtin id) args kw) Q E s := by
  refine wpAny_call (codeAny_call_builtin hp hb ?_)
  simp only [checkBuiltinCall, hk]
  cases hsig : Manifest.signature? id with
  | none => exact wpAny_pure hc
  | some sig =>
    simp only [argsOk, hsig] at ha
    have h2 : Bind.checkArgs id sig ⟨args, kw⟩ = pure () := ha
    show wpAny _ A.in1 (Bind.checkArgs id sig ⟨args, kw⟩) _ _ s
    rw [h2]; exact wpAny_pure hc
theorem call_sum_walkG0 {x : Value} {tt : Tok} {Q : Value → Shared → Prop}
    (h : wpAny (model prog w) A.in1 (pyIter x) (fun it s₂ => ∃ I fp wr n P St val, it = .ref I ∧ Walks prog w A.in1 I fp wr n P St ∧ St 0 s₂.heap ∧ (∀ b ∈ fp, b < s₂.heap.objs.size) ∧
      (∀ i v, P i v → ∃ t, v = .int (val i) t) ∧
      ∀ h' tk t', (∀ b o, b ∉ wr → s₂.heap.get? b = some o → h'.get? b = some o) → Q (.int (preSum val n) t') { s₂ with heap := h', toks := tk }) E s) :
    wpAny (model prog w) A (call (.builtin "sum") [x] [(Str.ofString "start", .int 0 tt)]) Q E s := by
  refine call_function_tree_kw F.kind_sum F.plain_sum F.entry_sum (F.args_sum_start _ _) ?_
  unfold Builtin.«sum»
  simp only [List.length_cons, List.length_nil]
  rw [if_neg (by decide)]
  refine wpAny_bind (wpAny_of_eq (show Builtin.Builtins.bindParams "sum" ["start"] 0 ⟨[], [(Str.ofString "start", .int 0 tt)]⟩ = pure [some (.int 0 tt)] from by kernel_rfl) ?_)
  refine wpAny_bind (wpAny_mono h (fun it s₂ h₂ => ?_) fun _ _ e => e)
  obtain ⟨I, fp, wr, n, P, St, val, rfl, W, hst, hfp, hval, hQ⟩ := h₂
  refine wpAny_bind ?_
  have fin : ∀ (t0 : Tok) (k0 : Nat) (stage : Int), (stage = 0 ∨ stage = 2) → wpAny (model prog w) A.in1 (do
      for x in ([("str", "strings", "''"), ("bytes", "bytes", "b''"), ("bytearray", "bytearray", "b''")] : List (String × String × String)) do
        match x with
        | (ty, what, hint) => if (← isInstance (Value.int 0 t0) (.type ty)) = true then
            rule "sum.start-refused"
            raiseError "TypeError" s!"sum() can't sum {what} [use {hint}.join(seq) instead]"
      again (.builtin "sum.loop" ⟨[.ref I, ← newList [Value.int 0 t0], rawInt stage, rawInt 0], []⟩)) (fun fin s' => match fin with
      | .done f => (match (Except.ok f : Result) with | .ok (.ret v) => Q v s' | .ok _ => False | .error e => E e s')
      | .again c' => c'.quiet = true ∧ codeAny (model prog w) A c' (fun r s' => match r with | .ok (.ret v) => Q v s' | .ok _ => False | .error e => E e s') s') E { s₂ with toks := k0 } := fun t0 k0 stage hs => by
    simp only [List.forIn_cons, List.forIn_nil]
    refine wpAny_bind (wpAny_bind (wpAny_bind (wpAny_isInstance (T := "int") (b := false) (typeIs_int _ _ _) sub_int_str ?_)))
    simp only [Bool.false_eq_true, if_false]
    refine wpAny_pure (wpAny_bind (wpAny_bind (wpAny_isInstance (T := "int") (b := false) (typeIs_int _ _ _) sub_int_bytes ?_)))
    simp only [Bool.false_eq_true, if_false]
    refine wpAny_pure (wpAny_bind (wpAny_bind (wpAny_isInstance (T := "int") (b := false) (typeIs_int _ _ _) sub_int_bytearray ?_)))
    simp only [Bool.false_eq_true, if_false]
    refine wpAny_pure (wpAny_pure ?_)
    refine wpAny_bind (wpAny_newObj_type ?_)
    have hSf : s₂.heap.objs.size ∉ fp := fun hm => Nat.lt_irrefl _ (hfp _ hm)
    refine wpAny_pure ⟨plainId_quiet F.plain_sum_loop _, codeAny_sum_loopG W val hval s₂.heap.objs.size hSf n 0 _ t0 0 stage hs rfl (Nat.zero_le _)
      (W.frame _ _ _ hst fun b _ o e => Heap.get?_push_of_some _ e) (Heap.get?_push_size _ rfl) fun h' tk t' hk => ?_⟩
    exact hQ h' tk t' fun b o hbw e => hk b o hbw (Nat.ne_of_lt (Heap.lt_size e)) (Heap.get?_push_of_some _ e)
  refine wpAny_rule (wpAny_bind (wpAny_mkInt (wpAny_bind (wpAny_pure ?_))))
  exact fin s₂.toks (s₂.toks + 1) 0 (.inl rfl)
theorem list_extend_tup (l : Addr) (items : Array Value) (n : Nat) (b : Addr) (ob : Obj) (items2 : Array Value) (n2 : Nat) (hc : ob.cls = .type "tuple") (hd : ob.data = .seq items2 n2)
    (hs0 : ¬(!items.isEmpty && Builtin.List.listTooLong (items.size + items2.size)) = true) (hs1 : items.size ≤ sizeLine) (hs2 : items.size + items2.size ≤ sizeLine + 1) :
    Meets (Builtin.«list.extend» ⟨[.ref l, .ref b], []⟩) (fun _ R s => s.heap.get? l = some { cls := .type "list", dict := none, data := .seq items n, slots := #[] } ∧ s.heap.get? b = some ob ∧ R (.ok (.ret Value.none)) { s with heap := s.heap.update l (Obj.mapSeq fun x => x ++ items2), toks := s.toks }) :=
  .of_wp fun prog w A R s h => by
    obtain ⟨hl, hb, h⟩ := h
    have hz' : (items ++ items2).size ≤ sizeLine + 1 := by rw [Array.size_append]; exact hs2
    show wpAny _ _ (Builtin.List.listExtendWith (.ref l) (.ref b) .none) _ _ s
    unfold Builtin.List.listExtendWith
    refine wpAny_bind (wpAny_typeOf ⟨ob, hb, hc⟩ ?_)
    have h1 : (Builtin.List.listSameRef (.ref l) (.ref b) || Value.type "tuple" == Value.type "list" || Value.type "tuple" == Value.type "tuple") = true := by simp
    simp only [h1, if_true]
    refine wpAny_bind ?_
    unfold Builtin.List.listItems
    refine wpAny_bind (wpAny_seqItems hb hd (wpAny_pure ?_))
    refine wpAny_bind ?_
    refine wpAny_bind (wpAny_seqItems hl rfl (wpAny_pure ?_))
    rw [if_neg hs0]
    show wpAny _ _ (updateSeq l (· ++ items2) >>= fun _ => ret Value.none) _ _ s
    refine wpAny_bind (wpAny_updateSeq hl rfl (hz := hs1) (_hz' := hz') ?_)
    exact wpAny_pure ⟨_, rfl, h⟩
end
end PySem
namespace K41
open PySem PySem.Spec PyProof.Rows L2
section
variable {X : Cx}
/-- sum(xs, start=0) of a list of ints -/
def rSum0 (K : PySem.W.Frag) : List V → List V → Hp → VK → Prop := fun vs zs H Q => ∃ (a : Addr) (ns : List Int), vs = [V.ref a] ∧ zs = [V.int 0] ∧ SqL K H a (ns.map V.int) ∧ Q (.int ns.sum) H
theorem cr_sum0 (hc : X.calm = true) : CallRK X (.builtin "sum") [Str.ofString "start"] (rSum0 X.K) := by
  intro pins s σ H vs zs us ws Q I r rz h
  obtain ⟨a, ns, rfl, rfl, hs, q⟩ := h
  obtain ⟨its, rv, hl0, _⟩ := I.list hs
  rw [Vals.ref1 r]
  obtain ⟨u0, rfl, t0, rfl⟩ := vals1 rz
  have hl := hl0.isList
  obtain ⟨xs, e⟩ := rv.ints.allInts.items
  have hn : numsOf (intItems xs).toList = ns := by rw [← e]; exact rv.ints.numsOf
  rw [nums_intItems] at hn
  rw [e] at hl
  refine PySem.call_sum_walkG0 (iter_intList hl fun s₂ es st hfp hlI => ?_)
  subst es
  refine ⟨_, _, _, _, _, _, numAt xs, rfl, Walks.list (A := X.A.in1) (I.ok.hd hc) _ a hlI (intItems xs), st, hfp, (fun _ _ => intItems_at), fun h' tk t' hk => ?_⟩
  refine ⟨.int ns.sum, H, I.kept (old_kept hk), ⟨t', ?_⟩, q⟩
  have hz : (intItems xs).size = xs.size := by simp [intItems]
  rw [hz, preSum_eq, List.take_of_length_le (by simp), hn]
/-- a dict with keys, or the empty one, beside an empty one -/
theorem op_ne_nil (hu : X.A.units < cLine) : OpR X (compareOp .NotEq) (fun x y H Q => ∃ a b kvs, x = .ref a ∧ y = .ref b ∧ H a = some (.dK kvs) ∧ H b = some (.dK []) ∧ Q (.bl (!kvs.isEmpty)) H) := by
  intro pins s σ H x y v u Q I rx ry h
  obtain ⟨a, b, kvs, rfl, rfl, ea, eb, q⟩ := h
  obtain rfl : v = Value.ref a := rx
  obtain rfl : u = Value.ref b := ry
  obtain ⟨_, ya, va, ra, da⟩ := (show ObjOk X.prog X.w H s.heap a (.dK kvs) from I.hok a _ ea)
  obtain ⟨_, yb, vb, rb, db⟩ := (show ObjOk X.prog X.w H s.heap b (.dK []) from I.hok b _ eb)
  cases rb
  have hl : kvs.length = va.length := ra.length
  refine PySem.W.keq_ne (knd := mixKind X.prog X.w) (r := true) ya yb da db hu (fun e => ?_) (fin_bl I q ?_)
  · have e0 : va = [] := List.length_eq_zero_iff.mp e
    subst e0
    exact .nil
  · cases kvs with
    | nil =>
      have e0 : va = [] := List.length_eq_zero_iff.mp hl.symm
      subst e0
      rfl
    | cons p r =>
      cases va with
      | nil => cases hl
      | cons q r' => rfl
/-- a text times 0 or 1 -/
theorem op_mul_str01 : OpR X (binaryOp .Mult) (fun x y H Q => ∃ z b, x = .str z ∧ y = .int (if b = true then 1 else 0) ∧ Q (.str (if b = true then z else Str.empty)) H) := by
  intro pins s σ H x y v u Q I rx ry h
  obtain ⟨z, b, rfl, rfl, q⟩ := h
  obtain ⟨t, rfl⟩ := rx
  obtain ⟨t', rfl⟩ := ry
  cases b with
  | true =>
    refine PySem.SB.mul (n := 1) ⟨by decide, fun _ e => ?_, fun _ e => ?_⟩ fun t' k => ⟨.str z, H, I.tok _, ⟨t', ?_⟩, q⟩
    · exact absurd e (by simp)
    · exact absurd e (by simp)
    · unfold Txt.mul
      rw [if_neg (by decide), if_pos (by simp)]
  | false =>
    refine PySem.SB.mul (n := 0) ⟨by decide, fun e => absurd (by decide) e, fun e => absurd (by decide) e⟩ fun t' k => ⟨.str Str.empty, H, I.tok _, ⟨t', ?_⟩, q⟩
    unfold Txt.mul
    rw [if_pos (by decide)]
/-- xs.extend(a tuple) -/
theorem mt_extendT : MtM X "list.extend" (fun x vs H Q => ∃ l b xs zs, x = .ref l ∧ vs = [.ref b] ∧ H l = some (.lst xs) ∧ SqT X.K H b zs ∧ xs.length + zs.length ≤ sizeLine ∧ Q .non (upd H l (.lst (xs ++ zs)))) := by
  intro pins s σ H x vs v us Q I rx rv h
  obtain ⟨l, b, xs, zs, rfl, rfl, hH, hB, hz, q⟩ := h
  cases rx
  obtain ⟨u, rfl, ru⟩ := rv.one
  cases ru
  obtain ⟨z, its, n, r, hl, e⟩ := I.lstM hH
  obtain ⟨its2, r2, ⟨ob, e2, hc2, n2, hd2⟩, z2⟩ := I.tuple hB
  have hl2 := r2.length
  have hsz : its.toArray.size + its2.toArray.size ≤ sizeLine := by rw [List.size_toArray, List.size_toArray]; omega
  have hlong : ¬ (!its.toArray.isEmpty && Builtin.List.listTooLong (its.toArray.size + its2.toArray.size)) = true := by
    rw [notLongL hsz, Bool.and_false]
    exact Bool.false_ne_true
  refine call_meets F.slot_list_extend ⟨_, e, rfl⟩ F.entry_list_extend (F.args_list_extend_2 _ _)
    (PySem.list_extend_tup l its.toArray n b ob its2.toArray n2 hc2 hd2 hlong (by rw [List.size_toArray]; omega) (by omega)) ⟨e, e2, ?_⟩
  refine ⟨.non, _, I.lset (its' := its ++ its2) hH e (by simp) (r.append r2) ?_, rfl, q⟩
  rw [List.length_append]
  omega
end
end K41

/-! rules that the layer lacks, 3: sorted of a dict of ints (any number), of a tuple of pairs; min of a dict of ints; enumerate of a tuple -/
namespace K41
open PySem PySem.Spec PyProof.Rows L2
section
variable {X : Cx}
/-- sorted(d) of a dict whose keys are ints, any number of them -/
theorem call_sortedDA (hcalm : X.calm = true) : CallR X (.builtin "sorted") (fun xs H Q => ∃ (a : Addr) (kvs : List (Key × V)) (ks : List Int), xs = [.ref a] ∧ Rd H a (.dK kvs) ∧ kvs.map (·.1) = ks.map Sum.inl ∧
    ∀ (ys : List Int) (p : Addr), ys.Perm ks → ys.Pairwise (· ≤ ·) → H p = none → Q (.ref p) (upd H p (.lst (ys.map V.int)))) := by
  intro pins s σ H xs us Q I r q
  obtain ⟨a, kvs, ks, ex, hd, hks, q⟩ := q
  subst ex
  obtain ⟨u, eu, rx⟩ := vals1 r
  subst eu
  cases rx
  obtain ⟨z, lo, vs, rel, dd⟩ := dk_rd I.hok hd
  obtain ⟨ep, hat⟩ := dd.dictAt
  have hkeys : vs.map (·.1) = ks.map Sum.inl := rel.keys.symm.trans hks
  have hl : vs.length = ks.length := by
    have e := congrArg List.length hkeys
    rw [List.length_map, List.length_map] at e
    exact e
  have h16 : vs.length ≤ sizeLine := by
    have e := Paired.length rel
    omega
  refine Calls.call_function_entry PyProof.Rows.kind_sorted PyProof.Rows.plain_sorted PyProof.Rows.entry_sorted (PyProof.Rows.args_sorted1 _) ?_
  unfold Builtin.«sorted»
  refine wpAny_bind (m := checkCount "sorted" 1 1 _) (wpAny_pure ?_)
  refine wpAny_bind (PySem.W.kdu_collect (A := X.A.in1) (PySem.W.kdl_dict (knd := mixKind X.prog X.w) (kvs := vs) (ep := ep) lo) (I.ok.hd hcalm) hat h16 fun h' tk acc hk hacc => ?_)
  have hal : acc.toList.length = ks.length := by rw [Array.length_toList, hacc.1, hl]
  have hS : IntsAre acc.toList ks := ints_each hal fun j v e => by
    obtain ⟨k, x, e1, e2⟩ := hacc.2 j v (by rw [← Array.getElem?_toList]; exact e)
    have e3 : (vs.map (·.1))[j]? = some k := by rw [List.getElem?_map, e1]; rfl
    rw [hkeys, List.getElem?_map] at e3
    cases e4 : ks[j]? with
    | none => rw [e4] at e3; cases e3
    | some y =>
      rw [e4] at e3
      have e5 : Sum.inl y = k := Option.some.inj e3
      subst e5
      rcases keyIs_shape (show keyIs (Sum.inl y) v = true from e2) with ⟨i, t, ek, ev⟩ | ⟨z, t, ek, ev⟩
      · cases ek
        exact ⟨y, t, rfl, ev⟩
      · cases ek
  have I1 : Inv X pins σ H { s with heap := h', toks := tk } := I.kept hk
  have hzz : acc.toList.length ≤ sizeLine := by rw [hal, ← hl]; exact h16
  refine wpAny_bind (wpAny_newList ?_ hzz)
  have hoL : (h'.push (seqObj "list" acc.toList.toArray 0)).get? h'.objs.size = some (seqObj "list" acc.toList.toArray 0) := Heap.get?_push_size _ rfl
  show wpAny _ _ _ _ _ { s with heap := h'.push (seqObj "list" acc.toList.toArray 0), toks := tk }
  refine wpAny_bind (wpAny_holding (wpAny_call_entry PyProof.Rows.slot_list_sort ⟨_, hoL, rfl⟩ PyProof.Rows.entry_list_sort
    (SrtO.list_sort_ord (s := { s with heap := h'.push (seqObj "list" acc.toList.toArray 0), toks := tk }) SrtO.swo_int hoL hzz (fun h2 => SrtO.ints_sortable hS h2) fun out g1 g2 => ⟨_, rfl, ?_⟩) (PyProof.Rows.args_list_sort _)))
  obtain ⟨k1, k2, k3⟩ := SrtO.ints_out hS g1 g2
  obtain ⟨e', he'⟩ := PyProof.Rows.sortedHeap_at (vs := acc.toList) (out := out.toArray) hoL
  have hlen : ((out.map SrtO.iv).map V.int).length ≤ sizeLine := by
    rw [List.length_map, k2.length_eq, ← hl]
    exact h16
  refine wpAny_pure ⟨_, rfl, .ref h'.objs.size, upd H h'.objs.size (.lst ((out.map SrtO.iv).map V.int)), I1.laid (t' := tk) (fun b u e => ?_) (Nat.le_refl _)
    (show ObjOk X.prog X.w _ _ _ (.lst ((out.map SrtO.iv).map V.int)) from ⟨hlen, out, e', vals_of_ints k1, he'⟩), rfl, q _ _ k2 k3 (I1.hok.fresh (Nat.le_refl _))⟩
  have hb : b < h'.objs.size := Heap.lt_size e
  rw [PyProof.Rows.sortedHeap_old (Nat.ne_of_lt hb) (by rw [size_push']; exact Nat.lt_succ_of_lt hb)]
  exact Heap.get?_push_of_some _ e
/-- sorted(t) of a tuple of pairs of ints -/
def rSortedPT (K : PySem.W.Frag) : List V → Hp → VK → Prop := fun vs H Q => ∃ (a : Addr) (xs : List V) (k : V → Int × Int), vs = [V.ref a] ∧ SqT K H a xs ∧ (∀ x ∈ xs, ∃ t, x = V.ref t ∧ H t = some (.tup [.int (k x).1, .int (k x).2])) ∧
  ∀ ys p, SrtO.Srtd (ltP k) ys → SrtO.Stb (ltP k) ys xs → H p = none → Q (.ref p) (upd H p (.lst ys))
theorem cr_sortedPT : CallR X (.builtin "sorted") (rSortedPT X.K) := by
  intro pins s σ H vs us Q I r h
  obtain ⟨a, xs, k, rfl, hs, hx, q⟩ := h
  obtain ⟨its, rv, ⟨ob, hob, hoc, on, hod⟩, hz⟩ := I.tuple hs
  obtain ⟨u, rfl, ru⟩ := vals1 r
  obtain rfl : u = Value.ref a := ru
  obtain ⟨e1, e2⟩ := refs_back rv fun x m => by
    obtain ⟨t, e, _⟩ := hx x m
    exact ⟨t, e⟩
  have hlen0 : its.length ≤ sizeLine := by rw [← rv.length]; exact hz
  have hp : ∀ v ∈ its, Srt.IsPair s.heap v (k (backV v)).1 (k (backV v)).2 := fun v hv => by
    obtain ⟨t, rfl⟩ := e2 v hv
    have hm : V.ref t ∈ xs := by rw [e1]; exact List.mem_map.mpr ⟨_, hv, rfl⟩
    obtain ⟨t', e, ht⟩ := hx _ hm
    cases e
    obtain ⟨_, its2, r2, o, ho, hc, n, hd⟩ := I.hok _ _ ht
    obtain ⟨u1, u2, rfl, ri, rj⟩ := vals2 r2
    obtain ⟨t1, rfl⟩ := ri
    obtain ⟨t2, rfl⟩ := rj
    exact ⟨t, o, t1, t2, n, rfl, ho, hc, hd⟩
  refine Calls.call_function_entry PyProof.Rows.kind_sorted PyProof.Rows.plain_sorted PyProof.Rows.entry_sorted (PyProof.Rows.args_sorted1 _) ?_
  unfold Builtin.«sorted»
  refine wpAny_bind (m := checkCount "sorted" 1 1 _) (wpAny_pure ?_)
  refine wpAny_bind (PySem.wpAny_collect_seq a (.inr rfl) hob hoc hod (fun h' hk => ?_) (by rw [List.size_toArray]; exact hlen0))
  have I1 : Inv X pins σ H { s with heap := h' } := I.kept (t' := s.toks) hk
  show wpAny _ _ (newList its >>= _) _ _ _
  refine wpAny_bind (wpAny_newList ?_ hlen0)
  have hoL : (h'.push (seqObj "list" its.toArray 0)).get? h'.objs.size = some (seqObj "list" its.toArray 0) := Heap.get?_push_size _ rfl
  show wpAny _ _ _ _ _ { s with heap := h'.push (seqObj "list" its.toArray 0) }
  have kk : ∀ b o, s.heap.get? b = some o → (h'.push (seqObj "list" its.toArray 0)).get? b = some o := fun b o e => Heap.get?_push_of_some _ (hk b o e)
  refine wpAny_bind (wpAny_holding (wpAny_call_entry PyProof.Rows.slot_list_sort ⟨_, hoL, rfl⟩ PyProof.Rows.entry_list_sort
    (SrtO.list_sort_ord (s := { s with heap := h'.push (seqObj "list" its.toArray 0) }) (SrtO.swo_lex fun u => k (backV u)) hoL hlen0 (fun h2 => SrtO.pairs_sortableO (by omega) (fun v hm => (hp v hm).keeps fun b o e _ => kk b o e) fun o e => ?_) fun out g1 g2 => ⟨_, rfl, ?_⟩) (PyProof.Rows.args_list_sort _)))
  · have e' : some o = some (seqObj "list" its.toArray 0) := e.symm.trans hoL
    cases e'
    intro c
    exact absurd (Value.type.inj c) (by decide)
  obtain ⟨ep, he'⟩ := PyProof.Rows.sortedHeap_at (vs := its) (out := out.toArray) hoL
  have h3 : ∀ u ∈ out, ∃ a, u = Value.ref a := fun u hu => e2 u (g2.perm.mem_iff.mp hu)
  have hb : SrtO.Stb (ltP k) (out.map backV) xs := by
    rw [e1]
    exact SrtO.Stb.map (ltP_swo k) backV g2
  have hlen : (out.map backV).length ≤ sizeLine := by
    rw [hb.len]
    exact hz
  refine wpAny_pure ⟨_, rfl, .ref h'.objs.size, upd H h'.objs.size (.lst (out.map backV)), I1.laid (t' := s.toks) (fun b u e => ?_) (Nat.le_refl _)
    (show ObjOk X.prog X.w _ _ _ (.lst (out.map backV)) from ⟨hlen, out, ep, vals_back h3, he'⟩), rfl, q _ _ (SrtO.srtd_map g1) hb (I1.hok.fresh (Nat.le_refl _))⟩
  have hb : b < h'.objs.size := Heap.lt_size e
  rw [PyProof.Rows.sortedHeap_old (Nat.ne_of_lt hb) (by rw [size_push']; exact Nat.lt_succ_of_lt hb)]
  exact Heap.get?_push_of_some _ e
/-- min(d) of a dict whose keys are ints, one at least -/
theorem call_minD (hc : X.calm = true) : CallR X (.builtin "min") (fun xs H Q => ∃ (a : Addr) (kvs : List (Key × V)) (ks : List Int), xs = [.ref a] ∧ H a = some (.dK kvs) ∧ kvs.map (·.1) = ks.map Sum.inl ∧ ks ≠ [] ∧
    ∀ m, m ∈ ks → (∀ j ∈ ks, m ≤ j) → Q (.int m) H) := by
  intro pins s σ H xs us Q I r h
  obtain ⟨a, kvs, ks, rfl, ha, hks, hne, q⟩ := h
  obtain ⟨u, rfl, ru⟩ := vals1 r
  obtain rfl : u = Value.ref a := ru
  obtain ⟨_, hsys, vs, rel, dof⟩ := dk_of I.hok ha
  obtain ⟨ep, dat⟩ := dof.dictAt
  have hkeys : vs.map (·.1) = ks.map Sum.inl := rel.keys.symm.trans hks
  have hlv : vs.length = ks.length := by
    have e := congrArg List.length hkeys
    rw [List.length_map, List.length_map] at e
    exact e
  have hlen : 0 < vs.length := by
    rw [hlv]
    exact List.length_pos_iff.mpr hne
  have hval : ∀ (i : Nat) (v : Value), (∃ k x, vs[i]? = some (k, x) ∧ (mixKind X.prog X.w).is k v = true) → ∃ t, v = Value.int (ks.getD i 0) t := fun i v ⟨k, x, hk, hi⟩ => by
    have e3 : (vs.map (·.1))[i]? = some k := by rw [List.getElem?_map, hk]; rfl
    rw [hkeys, List.getElem?_map] at e3
    obtain ⟨j, hj, e2⟩ := Option.map_eq_some_iff.mp e3
    subst e2
    rcases keyIs_shape (show keyIs (Sum.inl j) v = true from hi) with ⟨i', t, ek, ev⟩ | ⟨z, t, ek, ev⟩
    · cases ek
      refine ⟨t, ?_⟩
      rw [ev, List.getD_eq_getElem?_getD, hj] <;> rfl
    · cases ek
  refine call_min_walk (wpAny_pyIter_dict hsys dat ?_)
  have hlt : a < s.heap.objs.size := dat.lt_size
  refine ⟨_, _, _, _, _, _, _, rfl, Walks.dictKeys (knd := mixKind X.prog X.w) (A := X.A.in1) (I.ok.hd hc) s.heap.objs.size a (Nat.ne_of_lt hlt) vs ep,
    ⟨⟨_, Heap.get?_push_size _ rfl, rfl, rfl⟩, dat.keep fun b u e => Heap.get?_push_of_some _ e⟩, fun b hb => ?_, hlen, CmpOf.ints_lt (fun i => ks.getD i 0) hval, fun v h' tk hP hk => ?_⟩
  · show b < (s.heap.push _).objs.size
    rw [Heap.size_push]
    rcases List.mem_cons.mp hb with e | hb
    · rw [e]
      exact Nat.lt_succ_self _
    · have e : b = a := List.mem_singleton.mp hb
      rw [e]
      exact Nat.lt_succ_of_lt hlt
  · obtain ⟨t, rfl⟩ := hval _ v hP
    obtain ⟨b1, b2⟩ := argBest_lt (fun i => ks.getD i 0) (vs.length - 1)
    refine ⟨.int _, H, I.kept (t' := tk) fun b u e => hk b u (fun hmem => ?_) (Heap.get?_push_of_some _ e), ⟨t, rfl⟩, q _ ?_ fun j hj => ?_⟩
    · have e1 : b = s.heap.objs.size := List.mem_singleton.mp hmem
      have e2 := Heap.lt_size e
      rw [e1] at e2
      exact absurd e2 (Nat.lt_irrefl _)
    · have hb : argBest (fun i j => decide (ks.getD i 0 < ks.getD j 0)) (vs.length - 1) < ks.length := by omega
      rw [List.getD_eq_getElem?_getD, List.getElem?_eq_getElem hb]
      exact List.getElem_mem hb
    · obtain ⟨i, hi, e⟩ := List.mem_iff_getElem.mp hj
      have e2 : ks.getD i 0 = j := by rw [List.getD_eq_getElem?_getD, List.getElem?_eq_getElem hi, ← e] <;> rfl
      rw [← e2]
      exact b2 i (by omega)
end
/-! ### enumerate(tuple) -/
def IteT (K : PySem.W.Frag) (a : Addr) : It :=
  ⟨fun i H => ∃ (xs : List V) (x : V), SqT K H a xs ∧ xs[i]? = some x, fun i H v H' => ∃ T x, v = .ref T ∧ H T = none ∧ H' = upd H T (.tup [.int (i : Nat), x]) ∧ ∀ xs, SqT K H a xs → xs[i]? = some x, fun i H => ∃ xs : List V, SqT K H a xs ∧ xs.length ≤ i⟩
theorem turn_enumT {P : Program} {w : World} {K : PySem.W.Frag} {elts : List Expr} {kk : Nat} {tpos : Pos} (a e it : Addr) :
    Turn P w K (.Tuple elts kk tpos) (IteT K a) [e, it] e (fun i h => (∃ old, IsEnum h e it ((i : Nat) : Int) old) ∧ h.IsTupleIter it a i ∧ e ≠ it ∧ a ≠ it ∧ a ≠ e) where
  mem := by simp
  obj := fun i h st b hb => by
    obtain ⟨⟨old, he⟩, ⟨o, ho, hc, hd⟩, _⟩ := st
    have e' : b = e ∨ b = it := by simpa using hb
    rcases e' with z | z
    · rw [z]; exact ⟨_, he, fun v q => nomatch q⟩
    · rw [z]; exact ⟨o, ho, fun v q => by rw [hd] at q; cases q⟩
  keep := fun i h h' st k => let ⟨⟨old, he⟩, hi, hne⟩ := st; ⟨⟨old, k e (by simp) _ he⟩, hi.at fun o q => k it (by simp) o q, hne⟩
  item := by
    intro X hP hw hK hc i pins s σ H E I hf st hg
    subst hP hw hK
    obtain ⟨⟨old, he⟩, hit, hne, hai, hae⟩ := st
    obtain ⟨xs, x, hq, hx⟩ := hg
    obtain ⟨its, rv, p, hz⟩ := I.tuple hq
    obtain ⟨u, hu, ru⟩ := rv.get hx
    have hel : e < s.heap.objs.size := Heap.lt_size he
    have hil : it < s.heap.objs.size := by obtain ⟨_, q, _⟩ := hit; exact Heap.lt_size q
    have hlt : i < its.toArray.size := by rw [List.size_toArray]; exact (List.getElem?_eq_some_iff.mp hu).1
    refine wpAny_pyNext_enum_itemD (Draws.tuple (A := X.A.in1) (I.ok.hd hc) it a hai its.toArray) he ⟨hit, p⟩ hlt hne (by simp [hne, Ne.symm hae]) fun y h' tk hy ho hst' hT hsz hk => ?_
    have ey : y = u := by
      have h1 : its.toArray[i]? = some y := hy
      rw [List.getElem?_toArray, hu] at h1
      exact (Option.some.inj h1).symm
    subst ey
    refine ⟨_, rfl, wpAny_letOwnedTupleGo_enum (s := { s with heap := h', toks := tk + 1 }) ho fun h'' he' sb => ?_⟩
    have hT2 : h''.get? s.heap.objs.size = some { cls := .type "tuple", data := .seq #[.int i tk, y] } := (sb.2 _ (Nat.ne_of_gt hel)).trans hT
    have new : ObjOk X.prog X.w (upd H s.heap.objs.size (.tup [.int (i : Nat), x])) h'' s.heap.objs.size (.tup [.int (i : Nat), x]) :=
      ⟨by show 2 ≤ sizeLine; decide, [.int i tk, y], .cons ⟨_, rfl⟩ (.cons ru .nil), ⟨_, hT2, rfl, _, rfl⟩⟩
    have I1 : Inv X pins σ (upd H s.heap.objs.size (.tup [.int (i : Nat), x])) { s with heap := h'', toks := tk + 1 } :=
      I.turnedNew (ch := [e, it]) (fun b ob hb q => (sb.2 b (fun z => hb (by simp [z]))).trans (hk b ob (fun z => hb (by simp [z])) (fun z => hb (by simp [z])) q)) hf (Nat.le_refl _) new
    refine ⟨.ref s.heap.objs.size, _, I1, rfl, ⟨_, x, rfl, I.hok.fresh (Nat.le_refl _), rfl, fun ys hy => by rw [I.tuple_inj hy hq]; exact hx⟩, ⟨⟨y, ?_⟩, hst'.1.at fun o q => (sb.2 it (Ne.symm hne)).trans q, hne, hai, hae⟩, fun b hb => ?_⟩
    · have e1 : ((i + 1 : Nat) : Int) = (i : Int) + 1 := by omega
      rw [e1]; exact he'
    · have hb' : b < s.heap.objs.size := by
        have e' : b = e ∨ b = it := by simpa using hb
        rcases e' with z | z
        · rw [z]; exact hel
        · rw [z]; exact hil
      rw [upd_ne (Nat.ne_of_lt hb')]
      exact (hf b hb).1
  done := by
    intro X hP hw hK hc i pins s σ H E I hf st hg
    subst hP hw hK
    obtain ⟨⟨old, he⟩, hit, hne, hai, hae⟩ := st
    obtain ⟨xs, hq, hx⟩ := hg
    obtain ⟨its, rv, p, hz⟩ := I.tuple hq
    obtain ⟨f0, f1, f2, f3, f4, f5⟩ := hf it (by simp)
    have hl := rv.length
    have hend : (its.toArray)[i]? = none := by simp; omega
    have hT : s.TypeIs (.ref e) "enumerate" := ⟨_, he, rfl⟩
    unfold pyNext
    refine wpAny_bind (wpAny_attempt (wpAny_callSpecial?_slot (name := Str.ofString "__next__") hT F.slot_enumerate_next
      (wpAny_call_entry F.slot_enumerate_next hT F.entry_enumerate_next ?_ (F.args_enumerate_next_1 _))))
    show wpAny _ _ (field (.ref e) 2 >>= _) _ _ _
    refine wpAny_bind (wpAny_field he rfl (x := .ref it) rfl ?_)
    refine wpAny_bind (wpAny_nextOf_tuple_end (I.ok.hd hc) hit p hend fun h' x he' hx' => ?_)
    obtain ⟨o, ho, hco⟩ := hx'
    refine wpAny_bind (wpAny_isInstance (T := "StopIteration") (b := true) ⟨o, ho, hco⟩ isSubtype_stop ?_)
    exact wpAny_pure ⟨rfl, I.turned (t' := s.toks) (fun b o hb q => he' b o hb q) f0 f1 f3 f4 f5⟩
  self := fun A i s Q E st h => let ⟨⟨_, he⟩, _⟩ := st; wpAny_pyIter_enum he h
def iEnumT (K : PySem.W.Frag) (ta : TA) : TI := fun σ H R => ta σ H fun vs H1 => ∃ a xs, vs = [.ref a] ∧ SqT K H1 a xs ∧ R (IteT K a) H1
set_option maxHeartbeats 1000000 in
theorem meets_enumerate_newT (a : Addr) (items : Array Value) :
    Meets (Builtin.«enumerate.__new__» ⟨[.type "enumerate", .ref a], []⟩) (fun _ R s => s.heap.IsTuple a items ∧
      R (.ok (.ret (.ref (s.heap.push { cls := .type "tuple_iterator", data := .fields #[.ref a, .int 0 0] }).objs.size)))
        { s with heap := (s.heap.push { cls := .type "tuple_iterator", data := .fields #[.ref a, .int 0 0] }).push { cls := .type "enumerate", data := .fields #[.none, .bool false, .ref s.heap.objs.size, rawInt 0, .none, .none] } }) :=
  .of_wp fun prog w A R s h => by
    obtain ⟨hp, g, d, tk, os⟩ := s; obtain ⟨hT, h⟩ := h
    have hsub := sub_enumerate
    have q1 : ∀ {A' : Around} {E : Value → Shared → Prop} {Q : Value → Shared → Prop}, Q (.ref hp.objs.size) ⟨hp.push { cls := .type "tuple_iterator", data := .fields #[.ref a, .int 0 0] }, g, d, tk, os⟩ → wpAny (model prog w) A' (pyIter (.ref a)) Q E ⟨hp, g, d, tk, os⟩ :=
      fun q => wpAny_pyIter_tuple hT q
    wp_walk using q1
    refine wpAny_stack_any fun st => wpAny_pure ?_
    split
    · rename_i c _ _ _ _ _
      cases (c == Value.type "enumerate")
      · wp_walk using q1
        exact ⟨_, rfl, h⟩
      · wp_walk using q1
        exact ⟨_, rfl, h⟩
    · wp_walk using q1
      exact ⟨_, rfl, h⟩
theorem pi_enumT {X : Cx} {e : Expr} {ta : TA} {p pos tpos : Pos} {elts : List Expr} {kk : Nat} (hg : Gl X "enumerate") (hm : X.mg "enumerate" = none) (ha : PA X [e] ta) (hs : starEach [e] X.env = [(false, eval e X.env)] := by rfl) :
    PI X (.Tuple elts kk tpos) (.Call (.Name "enumerate" p) [e] [] pos) (iEnumT X.K ta) := by
  refine ⟨fun pins s σ H R I h => ?_⟩
  refine Call_ (ld_blt I hg hm boot_enumerate (PyProof.Rows.callWith_type1 (thn (ha.run pos pins s σ H _ I h) fun us s1 ⟨vs, H1, I1, r1, q1⟩ => ?_) hs rfl))
  obtain ⟨a, xs, ex, hq, q⟩ := q1
  subst ex
  cases r1 with
  | cons r rr =>
    cases rr
    cases r
    obtain ⟨its, rv, p', hz⟩ := I1.tuple hq
    have hlt : a < s1.heap.objs.size := p'.lt
    refine callType_new F.called_enumerate (by decide) (F.typeCall_enumerate_1 _) (F.newCall_enumerate_1 _) (fun obj => F.args_object_init_2 obj _) F.entry_enumerate_new
      (meets_enumerate_newT a its.toArray) ⟨show s1.heap.IsTuple a its.toArray from p', ?_⟩
    have hz2 : (s1.heap.push { cls := .type "tuple_iterator", data := .fields #[.ref a, .int 0 0] }).objs.size = s1.heap.objs.size + 1 := Heap.size_push ..
    show _ ∧ _
    rw [hz2]
    have he : IsEnum ((s1.heap.push { cls := .type "tuple_iterator", data := .fields #[.ref a, .int 0 0] }).push
        { cls := .type "enumerate", data := .fields #[.none, .bool false, .ref s1.heap.objs.size, rawInt 0, .none, .none] }) (s1.heap.objs.size + 1) s1.heap.objs.size 0 .none := by
      have := Heap.get?_push_size (s1.heap.push { cls := .type "tuple_iterator", data := .fields #[.ref a, .int 0 0] })
        (o := { cls := .type "enumerate", data := .fields #[.none, .bool false, .ref s1.heap.objs.size, rawInt 0, .none, .none] }) rfl
      rw [hz2] at this; exact this
    refine ⟨⟨_, he, rfl⟩, wpAny_pyIter_enum he ?_⟩
    have hk : ∀ b o, s1.heap.get? b = some o → ((s1.heap.push { cls := .type "tuple_iterator", data := .fields #[.ref a, .int 0 0] }).push
        { cls := .type "enumerate", data := .fields #[.none, .bool false, .ref s1.heap.objs.size, rawInt 0, .none, .none] }).get? b = some o := fun b o x => Heap.get?_push_of_some _ (Heap.get?_push_of_some _ x)
    have I2 := I1.kept (t' := s1.toks) hk
    refine ⟨s1.heap.objs.size + 1, [s1.heap.objs.size + 1, s1.heap.objs.size], _, _, H1, rfl, I2, turn_enumT a (s1.heap.objs.size + 1) s1.heap.objs.size, ⟨⟨.none, he⟩, ⟨_, Heap.get?_push_of_some _ (Heap.get?_push_size _ rfl), rfl, rfl⟩, Nat.succ_ne_self _, Nat.ne_of_lt hlt, Nat.ne_of_lt (Nat.lt_succ_of_lt hlt)⟩, fun b hb => ?_, q⟩
    have e' : b = s1.heap.objs.size + 1 ∨ b = s1.heap.objs.size := by simpa using hb
    have hle : s1.heap.objs.size ≤ b := by
      rcases e' with z | z
      · rw [z]; exact Nat.le_add_right _ _
      · rw [z]; exact Nat.le_refl _
    exact I1.fpOk hle (I1.hok.fresh hle)
/-- over a tuple that the body leaves as it is, by enumerate -/
theorem for_enumT {K : PySem.W.Frag} {a : Addr} {xs : List V} {g : TG} {tb : TS} {D : Ends} {σ : L2.St} {H : Hp} (Pv : Nat → L2.St → Hp → Prop) (h0 : Pv 0 σ H) (hl : ∀ i σ H, i ≤ xs.length → Pv i σ H → SqT K H a xs)
    (hs : ∀ (i : Nat) x σ H T, xs[i]? = some x → Pv i σ H → H T = none → g (.ref T) σ (upd H T (.tup [.int (i : Int), x])) fun σ2 H2 => tb { D with nx := Pv (i + 1), ct := Pv (i + 1), bk := D.nx } σ2 H2) (hd : ∀ σ H, Pv xs.length σ H → D.nx σ H) :
    ∃ W : Nat → Nat → L2.St → Hp → Prop, (∃ m, W 0 m σ H) ∧ ∀ i m σ H, W i m σ H →
      ((IteT K a).stop i H ∧ D.nx σ H) ∨ ((IteT K a).go i H ∧ ∃ N : L2.St → Hp → Prop, (∀ σ' H', N σ' H' → ∃ m', m' < m ∧ W (i + 1) m' σ' H') ∧ ∀ x H', (IteT K a).yld i H x H' → g x σ H' fun σ2 H2 => tb { D with nx := N, ct := N, bk := D.nx } σ2 H2) := by
  refine ⟨fun i m σ H => m = xs.length - i ∧ i ≤ xs.length ∧ Pv i σ H, ⟨xs.length, by simp, Nat.zero_le _, h0⟩, ?_⟩
  rintro i m σ H ⟨rfl, hi, p⟩
  have q := hl i σ H hi p
  by_cases hlt : i < xs.length
  · refine .inr ⟨⟨xs, xs[i], q, by simp [hlt]⟩, Pv (i + 1), fun σ' H' p' => ⟨xs.length - (i + 1), by omega, rfl, hlt, p'⟩, fun x H' y => ?_⟩
    obtain ⟨T, z, e1, e2, e3, y⟩ := y
    subst e1 e3
    exact hs i z σ H T (y xs q) p e2
  · have e : i = xs.length := by omega
    subst e
    exact .inl ⟨⟨xs, q, Nat.le_refl _⟩, hd σ H p⟩
end K41

/-! what stands in the heap: rows, Ranges, a Writer, the law's own state; the mirror -/
namespace K41
open PySem PySem.Spec PyProof.Rows L2
/-! ### what the top has left -/
structure Tx (K : PySem.W.Frag) (mg : Str → Option Value) : Prop where
  d : He.SaysD fa fn K
  ex : ex K = true
  glo : ∀ x, globs.contains x = true → mg x = some (.ref (He.ga K x))
  fre : ∀ x, frees.contains x = true → mg x = none
  most : ∃ t, mg "MOST" = some (.int 1000000000000 t)
abbrev cR (K : PySem.W.Frag) : Addr := He.ga K "Ranges"
abbrev cW (K : PySem.W.Frag) : Addr := He.ga K "Writer"
abbrev cE (K : PySem.W.Frag) : Addr := He.ga K "Ended"
theorem oex_ok {K : PySem.W.Frag} {C : Addr} (h : oexB K C = true) :
    ∃ nm q N bs bm sn sub ab col dd k0 k1 k2 k3 k5, K.lookup C = some (excClassObj nm q C N bs bm true sn sub ab col dd k0 k1 k2 k3 k5 "ValueError.__new__") ∧ PySem.HandSPX.refsVE bm = true := by
  unfold oexB at h
  split at h
  · rename_i dd cd sl ho
    split at h
    · rename_i C' bm k0 k1 k2 k3 n k5 hm hs
      simp only [Bool.and_eq_true, beq_iff_eq, Bool.not_eq_true'] at h
      obtain ⟨⟨⟨⟨rfl, rfl⟩, hdel⟩, hdct⟩, hr⟩ := h
      obtain ⟨nm, bs, mro, ns, qn, hd, sn, sub, ab, col, del⟩ := cd
      dsimp only at hm hdel hdct
      subst hm hdel hdct
      have hsl : sl = #[k0, k1, k2, k3, some (.builtin "ValueError.__new__"), k5] := by
        obtain ⟨l⟩ := sl
        simp only at hs
        rw [hs]
      subst hsl
      exact ⟨nm, qn, ns, bs, bm, sn, sub, ab, col, dd, k0, k1, k2, k3, k5, ho, hr⟩
    · cases h
  · cases h
section
variable {K : PySem.W.Frag} {mg : Str → Option Value} (T : Tx K mg)
include T
theorem Tx.g {x : Str} (h : globs.contains x = true := by decide +kernel) : mg x = some (.ref (He.ga K x)) := T.glo x h
theorem Tx.f {x : Str} (h : frees.contains x = true := by decide +kernel) : mg x = none := T.fre x h
theorem Tx.kR : Cls K (cR K) := He.cls_ok (T.d.fact 72)
theorem Tx.kW : Cls K (cW K) := He.cls_ok (T.d.fact 73)
theorem Tx.mkR : Mk K (cR K) (He.ma K (cR K) "__init__") := He.mkr_ok (T.d.fact 74)
theorem Tx.mkW : Mk K (cW K) (He.ma K (cW K) "__init__") := He.mkr_ok (T.d.fact 75)
theorem Tx.exm : PySem.W.exmOne K (.ref (cE K)) (.ref (cE K)) = some true := He.exm_ok (T.d.fact 76)
theorem Tx.noE : PySem.W.findIn K (.ref (cE K)) "lane" = some none := He.noat_ok (T.d.fact 77)
theorem Tx.nSpans : NoAttr K (cR K) "spans" := He.noat_ok (T.d.fact 40)
theorem Tx.nLane : NoAttr K (cW K) "lane" := He.noat_ok (T.d.fact 41)
theorem Tx.nText : NoAttr K (cW K) "text" := He.noat_ok (T.d.fact 42)
theorem Tx.nLimit : NoAttr K (cW K) "limit" := He.noat_ok (T.d.fact 43)
theorem Tx.nEdge : NoAttr K (cW K) "edge" := He.noat_ok (T.d.fact 44)
theorem Tx.nSafe : NoAttr K (cW K) "safe" := He.noat_ok (T.d.fact 45)
theorem Tx.nHoles : NoAttr K (cW K) "holes" := He.noat_ok (T.d.fact 46)
theorem Tx.nMood : NoAttr K (cW K) "mood" := He.noat_ok (T.d.fact 47)
theorem Tx.nTail : NoAttr K (cW K) "tail" := He.noat_ok (T.d.fact 48)
theorem Tx.mR {m : Str} (i : Nat) (h : fa[i]? = some (.meth "Ranges" m) := by rfl) : Meth K (cR K) m (He.ma K (cR K) m) := He.meth_ok (T.d.fact i h)
theorem Tx.mW {m : Str} (i : Nat) (h : fa[i]? = some (.meth "Writer" m) := by rfl) : Meth K (cW K) m (He.ma K (cW K) m) := He.meth_ok (T.d.fact i h)
theorem Tx.def_ (i : Nat) {d : He.DefD} (h : fn[i]? = some d := by rfl) : ∃ fd, FunD K d.name d.qual d.params d.body d.scope (d.dvs K) (d.kws K) (He.fAd K d.at_) fd := T.d.def_ i h
theorem Tx.e0 : emptyTupB K (rows0 K) = true := (He.ba T.ex).1
theorem Tx.ne : cR K ≠ cW K := fun e => by
  have h := T.ex
  simp only [K41.ex, Bool.and_eq_true, Bool.not_eq_true', beq_eq_false_iff_ne] at h
  exact h.2.2.2.2.2.2.2.2 e
theorem Tx.oex : OexC K (cE K) := by
  have h := T.ex
  simp only [K41.ex, Bool.and_eq_true, decide_eq_true_eq] at h
  obtain ⟨_, h1, h2, h3, h4, h5, _⟩ := h
  exact ⟨oex_ok h1, h3, (xfB_ok h2).exC, h4, h5⟩
theorem Tx.xf : XfC K (cE K) := by
  have h := T.ex
  simp only [K41.ex, Bool.and_eq_true, decide_eq_true_eq] at h
  exact xfB_ok h.2.2.1
theorem Tx.initE : PySem.W.findIn K (.ref (cE K)) "__init__" = some (some (.ref (He.ma K (cE K) "__init__"))) ∧ PySem.W.typeIn K (.ref (He.ma K (cE K) "__init__")) = some (.type "function") := by
  have h := T.ex
  simp only [K41.ex, Bool.and_eq_true, decide_eq_true_eq] at h
  exact ⟨h.2.2.2.2.2.2.1, h.2.2.2.2.2.2.2.1⟩
/-- the default rows: an empty tuple -/
theorem Tx.empty (H : Hp) : SqT K H (rows0 K) [] := by
  have h := T.e0
  unfold emptyTupB at h
  split at h
  · rename_i c dd its n sl ho
    obtain ⟨h1, h2⟩ := He.ba h
    have e : its = #[] := Array.isEmpty_iff.mp h2
    subst e
    exact .inr ⟨_, #[], n, ho, congrArg Value.type (of_decide_eq_true h1), rfl, Nat.zero_le _, .nil⟩
  · cases h
end
/-! ### frames -/
/-- all that stood, but for what stands at m, is as it was -/
def Kp (m : List Addr) (H H' : Hp) : Prop := ∀ b o, b ∉ m → H b = some o → H' b = some o
section
variable {m m' : List Addr} {H H1 H2 H' : Hp} {a p : Addr} {o : HO}
theorem Kp.refl : Kp m H H := fun _ _ _ h => h
theorem Kp.trans (x : Kp m H H1) (y : Kp m H1 H2) : Kp m H H2 := fun b o hb h => y b o hb (x b o hb h)
theorem Kp.mono (x : Kp m H H1) (h : ∀ b, b ∈ m → b ∈ m') : Kp m' H H1 := fun b o hb e => x b o (fun z => hb (h b z)) e
theorem Kp.new (h : H p = none) : Kp m H (upd H p o) := fun b u _ e => by
  rw [upd_ne (ne_of_none e h)]
  exact e
theorem Kp.put (h : p ∈ m) : Kp m H (upd H p o) := fun b u hb e => by
  rw [upd_ne (fun z => hb (by rw [z]; exact h))]
  exact e
theorem Kp.same (x : Kp [] H H1) : Same H H1 := fun b o e => x b o (by simp) e
theorem Kp.of (x : Same H H1) : Kp m H H1 := fun b o _ e => x b o e
/-- what was not there before may change -/
theorem Kp.old (x : Kp m H H1) (h : ∀ b, b ∈ m → b ∈ m' ∨ H b = none) : Kp m' H H1 := fun b o hb e => x b o (fun z => by
  rcases h b z with k | k
  · exact hb k
  · rw [k] at e
    cases e) e
theorem Kp.free (x : Kp m H H1) (hm : a ∉ m) (h : H1 a = none) : H a = none := by
  cases q : H a with
  | none => rfl
  | some o =>
    rw [x a o hm q] at h
    cases h
end
/-! ### rows in the heap -/
def RowAt (H : Hp) (v : V) (p : Int × Int) : Prop := ∃ t, v = .ref t ∧ H t = some (.tup [.int p.1, .int p.2])
abbrev RowsAt (H : Hp) (ts : List V) (rs : Rows) : Prop := Paired (RowAt H) ts rs
theorem RowsAt.keep {H H' : Hp} {ts : List V} {rs : Rows} (h : RowsAt H ts rs) (k : ∀ t xs, H t = some (.tup xs) → H' t = some (.tup xs)) : RowsAt H' ts rs :=
  Paired.mono (fun v p ⟨t, e, ht⟩ => ⟨t, e, k _ _ ht⟩) h
/-- a Ranges at r of the rows rs -/
def RgAt (K : PySem.W.Frag) (H : Hp) (r : Addr) (rs : Rows) : Prop := ∃ dx l ts, H r = some (.ins (cR K) dx [(("spans" : Str), V.ref l)]) ∧ H l = some (.lst ts) ∧ RowsAt H ts rs
/-- a Ranges at r of the numbers of S -/
def RgS (K : PySem.W.Frag) (H : Hp) (r : Addr) (S : Int → Prop) : Prop := ∃ rs, RgAt K H r rs ∧ Can rs ∧ ∀ n, Mem rs n ↔ S n
theorem RgS.congr {K : PySem.W.Frag} {H : Hp} {r : Addr} {S S' : Int → Prop} (h : RgS K H r S) (e : ∀ n, S n ↔ S' n) : RgS K H r S' := by
  obtain ⟨rs, a, b, c⟩ := h
  exact ⟨rs, a, b, fun n => (c n).trans (e n)⟩
/-- what stands at m is a Writer, or a dict -/
def Hot (K : PySem.W.Frag) (H : Hp) (m : List Addr) : Prop := ∀ a, a ∈ m → (∃ dx fs, H a = some (.ins (cW K) dx fs)) ∨ ∃ kvs, H a = some (.dK kvs)
theorem Hot.nil {K : PySem.W.Frag} {H : Hp} : Hot K H [] := fun a h => by simp at h
section
variable {K : PySem.W.Frag} {mg : Str → Option Value} {m : List Addr} {H H' : Hp} {r a : Addr} {rs : Rows} {S : Int → Prop} {xs : List V} {ts : List V}
theorem Kp.lst (k : Kp m H H') (h : Hot K H m) (e : H a = some (.lst xs)) : H' a = some (.lst xs) := k a _ (fun z => by
  rcases h a z with ⟨_, _, q⟩ | ⟨_, q⟩ <;> (rw [e] at q; cases q)) e
theorem Kp.tup (k : Kp m H H') (h : Hot K H m) (e : H a = some (.tup xs)) : H' a = some (.tup xs) := k a _ (fun z => by
  rcases h a z with ⟨_, _, q⟩ | ⟨_, q⟩ <;> (rw [e] at q; cases q)) e
theorem RgAt.keep (T : Tx K mg) (x : RgAt K H r rs) (k : Kp m H H') (h : Hot K H m) : RgAt K H' r rs := by
  obtain ⟨dx, l, ts, h1, h2, h3⟩ := x
  refine ⟨dx, l, ts, k r _ (fun z => ?_) h1, k.lst h h2, h3.keep fun t xs e => k.tup h e⟩
  rcases h r z with ⟨_, _, q⟩ | ⟨_, q⟩
  · rw [h1] at q
    injection q with q
    injection q with q1 _ _
    exact T.ne q1
  · rw [h1] at q
    cases q
theorem RgS.keep (T : Tx K mg) (x : RgS K H r S) (k : Kp m H H') (h : Hot K H m) : RgS K H' r S := by
  obtain ⟨rs, a, b⟩ := x
  exact ⟨rs, a.keep T k h, b⟩
theorem RgAt.same (x : RgAt K H r rs) (k : Same H H') : RgAt K H' r rs := by
  obtain ⟨dx, l, ts, h1, h2, h3⟩ := x
  exact ⟨dx, l, ts, k _ _ h1, k _ _ h2, h3.keep fun t xs e => k _ _ e⟩
theorem RgS.same (x : RgS K H r S) (k : Same H H') : RgS K H' r S := by
  obtain ⟨rs, a, b⟩ := x
  exact ⟨rs, a.same k, b⟩
end
/-! ### the state: the program's Writer and the law's own -/
inductive Tl where
  | un | sent | got | mis
  deriving DecidableEq
def Tl.s : Tl → Str
  | .un => "unsent"
  | .sent => "sent"
  | .got => "got"
  | .mis => "missed"
def moodS : Bool → Str
  | true => "finished"
  | false => "open"
structure WS where
  lane : Int
  text : Str
  limit : Int
  edge : Int
  safe : Int → Prop
  holes : Int → Prop
  fin : Bool
  tail : Tl
/-- a text of code points -/
def Tok (z : Str) : Prop := ∀ c, c ∈ z.cps.toList → c < 1114112
structure Gd (s : WS) : Prop where
  e0 : 0 ≤ s.edge
  el : s.edge ≤ (s.text.length : Int)
  sf : ∀ n, s.safe n → 0 ≤ n ∧ n < s.edge
  hf : ∀ n, s.holes n → 0 ≤ n ∧ n < s.edge
  tok : Tok s.text
  len : s.text.length ≤ 100000
/-! ### a Writer in the heap -/
def wf (lane : Int) (text : Str) (limit edge : Int) (rs rh : Addr) (mood tail : Str) : List (Str × V) :=
  [("lane", .int lane), ("text", .str text), ("limit", .int limit), ("edge", .int edge), ("safe", .ref rs), ("holes", .ref rh), ("mood", .str mood), ("tail", .str tail)]
section
variable {lane limit edge i : Int} {text mood tail z : Str} {rs rh r : Addr}
theorem wf_lane : (wf lane text limit edge rs rh mood tail).lookup ("lane" : Str) = some (.int lane) := by kernel_rfl
theorem wf_text : (wf lane text limit edge rs rh mood tail).lookup ("text" : Str) = some (.str text) := by kernel_rfl
theorem wf_limit : (wf lane text limit edge rs rh mood tail).lookup ("limit" : Str) = some (.int limit) := by kernel_rfl
theorem wf_edge : (wf lane text limit edge rs rh mood tail).lookup ("edge" : Str) = some (.int edge) := by kernel_rfl
theorem wf_safe : (wf lane text limit edge rs rh mood tail).lookup ("safe" : Str) = some (.ref rs) := by kernel_rfl
theorem wf_holes : (wf lane text limit edge rs rh mood tail).lookup ("holes" : Str) = some (.ref rh) := by kernel_rfl
theorem wf_mood : (wf lane text limit edge rs rh mood tail).lookup ("mood" : Str) = some (.str mood) := by kernel_rfl
theorem wf_tail : (wf lane text limit edge rs rh mood tail).lookup ("tail" : Str) = some (.str tail) := by kernel_rfl
theorem wf_len : (wf lane text limit edge rs rh mood tail).length < 1000 := by show 8 < 1000; decide
theorem put_text : putF "text" (.str z) (wf lane text limit edge rs rh mood tail) = wf lane z limit edge rs rh mood tail := by kernel_rfl
theorem put_limit : putF "limit" (.int i) (wf lane text limit edge rs rh mood tail) = wf lane text i edge rs rh mood tail := by kernel_rfl
theorem put_edge : putF "edge" (.int i) (wf lane text limit edge rs rh mood tail) = wf lane text limit i rs rh mood tail := by kernel_rfl
theorem put_safe : putF "safe" (.ref r) (wf lane text limit edge rs rh mood tail) = wf lane text limit edge r rh mood tail := by kernel_rfl
theorem put_holes : putF "holes" (.ref r) (wf lane text limit edge rs rh mood tail) = wf lane text limit edge rs r mood tail := by kernel_rfl
theorem put_mood : putF "mood" (.str z) (wf lane text limit edge rs rh mood tail) = wf lane text limit edge rs rh z tail := by kernel_rfl
theorem put_tail : putF "tail" (.str z) (wf lane text limit edge rs rh mood tail) = wf lane text limit edge rs rh mood z := by kernel_rfl
end
abbrev wfs (s : WS) (rs rh : Addr) : List (Str × V) := wf s.lane s.text s.limit s.edge rs rh (moodS s.fin) s.tail.s
structure WIn (K : PySem.W.Frag) (H : Hp) (w dx rs rh : Addr) (s : WS) : Prop where
  at_ : H w = some (.ins (cW K) dx (wfs s rs rh))
  safe : RgS K H rs s.safe
  holes : RgS K H rh s.holes
def WAt (K : PySem.W.Frag) (H : Hp) (w : Addr) (s : WS) : Prop := ∃ dx rs rh, WIn K H w dx rs rh s
section
variable {K : PySem.W.Frag} {mg : Str → Option Value} {m : List Addr} {H H' : Hp} {w dx rs rh : Addr} {s : WS}
theorem WIn.hot (x : WIn K H w dx rs rh s) : Hot K H [w] := fun a h => by
  rw [List.mem_singleton.mp h]
  exact .inl ⟨_, _, x.at_⟩
theorem WIn.keep (T : Tx K mg) (x : WIn K H w dx rs rh s) (k : Kp m H H') (h : Hot K H m) (hw : w ∉ m) : WIn K H' w dx rs rh s := ⟨k _ _ hw x.at_, x.safe.keep T k h, x.holes.keep T k h⟩
theorem WIn.same (x : WIn K H w dx rs rh s) (k : Same H H') : WIn K H' w dx rs rh s := ⟨k _ _ x.at_, x.safe.same k, x.holes.same k⟩
theorem WAt.keep (T : Tx K mg) (x : WAt K H w s) (k : Kp m H H') (h : Hot K H m) (hw : w ∉ m) : WAt K H' w s := by
  obtain ⟨dx, rs, rh, y⟩ := x
  exact ⟨dx, rs, rh, y.keep T k h hw⟩
theorem WAt.same (x : WAt K H w s) (k : Same H H') : WAt K H' w s := by
  obtain ⟨dx, rs, rh, y⟩ := x
  exact ⟨dx, rs, rh, y.same k⟩
theorem WAt.hot (x : WAt K H w s) : Hot K H [w] := by
  obtain ⟨dx, rs, rh, y⟩ := x
  exact y.hot
/-- the Writer at w is stored to, its Ranges stay -/
theorem WIn.put (T : Tx K mg) {s' : WS} {rs' rh' : Addr} (x : WIn K H w dx rs rh s) (h1 : RgS K H rs' s'.safe) (h2 : RgS K H rh' s'.holes) : WIn K (upd H w (.ins (cW K) dx (wfs s' rs' rh'))) w dx rs' rh' s' :=
  ⟨upd_same, h1.keep T (Kp.put (List.mem_singleton.mpr rfl)) x.hot, h2.keep T (Kp.put (List.mem_singleton.mpr rfl)) x.hot⟩
end
/-! ### the law's own state -/
def pk (ks : List Int) : List (Key × V) := ks.map fun k => (Sum.inl k, V.bl true)
def hkv (s : WS) (g m : Addr) : List (Key × V) :=
  [(.inr "text", .str s.text), (.inr "upto", .int s.limit), (.inr "sent", .int s.edge), (.inr "got", .ref g), (.inr "missed", .ref m), (.inr "mood", .str (moodS s.fin)), (.inr "end", .str s.tail.s), (.inr "lane", .int s.lane)]
def DS (H : Hp) (d : Addr) (S : Int → Prop) : Prop := ∃ ks : List Int, H d = some (.dK (pk ks)) ∧ ks.Nodup ∧ ∀ n, n ∈ ks ↔ S n
structure LIn (H : Hp) (h g m : Addr) (s : WS) : Prop where
  at_ : H h = some (.dK (hkv s g m))
  hg : h ≠ g
  hm : h ≠ m
  gm : g ≠ m
  got : DS H g s.safe
  mis : DS H m s.holes
theorem DS.congr {H : Hp} {d : Addr} {S S' : Int → Prop} (x : DS H d S) (e : ∀ n, S n ↔ S' n) : DS H d S' := by
  obtain ⟨ks, a, b, c⟩ := x
  exact ⟨ks, a, b, fun n => (c n).trans (e n)⟩
theorem DS.keep {H H' : Hp} {m : List Addr} {d : Addr} {S : Int → Prop} (x : DS H d S) (k : Kp m H H') (h : d ∉ m) : DS H' d S := by
  obtain ⟨ks, a, b⟩ := x
  exact ⟨ks, k _ _ h a, b⟩
theorem LIn.keep {H H' : Hp} {ms : List Addr} {h g m : Addr} {s : WS} (x : LIn H h g m s) (k : Kp ms H H') (h1 : h ∉ ms) (h2 : g ∉ ms) (h3 : m ∉ ms) : LIn H' h g m s :=
  ⟨k _ _ h1 x.at_, x.hg, x.hm, x.gm, x.got.keep k h2, x.mis.keep k h3⟩
theorem LIn.same {H H' : Hp} {h g m : Addr} {s : WS} (x : LIn H h g m s) (k : Same H H') : LIn H' h g m s := x.keep (ms := []) (Kp.of k) (by simp) (by simp) (by simp)
/-! ### the mirror: what is due -/
def amF (s : WS) (run : Option (Int × Int)) (most : Int) (bound : Option Int) : Int × Int :=
  let m1 := match bound with
    | none => min (s.text.length : Int) s.limit - s.edge
    | some b => min (min (s.text.length : Int) s.limit - s.edge) b
  match run with
  | none => (s.edge, m1)
  | some p => if most > 0 then p else (s.edge, m1)
def manyF (s : WS) (run : Option (Int × Int)) (most : Int) (bound : Option Int) : Int := max 0 (min (amF s run most bound).2 most)
def due (s : WS) (run : Option (Int × Int)) (most : Int) (bound : Option Int) : Option (Int × Str × Bool) :=
  if manyF s run most bound > 0 then
    some ((amF s run most bound).1, cutS s.text (some (amF s run most bound).1) (some ((amF s run most bound).1 + manyF s run most bound)), s.fin && decide ((amF s run most bound).1 + manyF s run most bound = (s.text.length : Int)))
  else if (s.fin && (decide (s.edge = (s.text.length : Int)) && (decide (s.tail = .un) || decide (s.tail = .mis)))) = true then some ((s.text.length : Int), Str.empty, true) else none
def cutF (s : WS) : Option (Int × Str × Bool) → WS
  | none => s
  | some (a, z, l) => { s with holes := fun n => s.holes n ∧ ¬ (a ≤ n ∧ n < a + (z.length : Int)), edge := max s.edge (a + (z.length : Int)), tail := if (l && !decide (s.tail = .got)) = true then .sent else s.tail }
def gotF (s : WS) (a k : Int) (l : Bool) : WS := { s with safe := fun n => s.safe n ∨ (a ≤ n ∧ n < a + k), holes := fun n => s.holes n ∧ ¬ (a ≤ n ∧ n < a + k), tail := if l = true then .got else s.tail }
def misF (s : WS) (a k : Int) (l : Bool) : WS := { s with holes := fun n => s.holes n ∨ ((a ≤ n ∧ n < a + k) ∧ ¬ s.safe n), tail := if (l && !decide (s.tail = .got)) = true then .mis else s.tail }
def writeF (s : WS) (z : Str) : WS := { s with text := s.text ++ z }
def finF (s : WS) : WS := { s with fin := true }
def raiseF (s : WS) (u : Int) : WS := { s with limit := max s.limit u }
theorem tok_cut {z : Str} {lo hi : Option Int} (h : Tok z) : Tok (cutS z lo hi) := fun c hc => by
  have hc : c ∈ (((z.cps.toList.drop (HT.sIx z.length 0 lo)).take (HT.sIx z.length z.length hi - HT.sIx z.length 0 lo)).toArray).toList := hc
  rw [List.toList_toArray] at hc
  exact h c (List.mem_of_mem_drop (List.mem_of_mem_take hc))
theorem cutS_len {z : Str} {a k : Int} (h0 : 0 ≤ a) (hk : 0 ≤ k) (h : a + k ≤ (z.length : Int)) : ((cutS z (some a) (some (a + k))).length : Int) = k := by
  obtain ⟨i, rfl⟩ := Int.eq_ofNat_of_zero_le h0
  obtain ⟨j, rfl⟩ := Int.eq_ofNat_of_zero_le hk
  have e : ((i : Int) + (j : Int)) = ((i + j : Nat) : Int) := by omega
  rw [e]
  show ((((z.cps.toList.drop (HT.sIx z.length 0 (some (i : Int)))).take (HT.sIx z.length z.length (some ((i + j : Nat) : Int)) - HT.sIx z.length 0 (some (i : Int)))).toArray).size : Int) = _
  rw [HT.sIx_nat, HT.sIx_nat, List.size_toArray, List.length_take, List.length_drop, Array.length_toList]
  have hz : z.cps.size = z.length := rfl
  omega
theorem str_len0 {z : Str} (h : z.length = 0) : z = Str.empty := by
  obtain ⟨c⟩ := z
  have h : c.size = 0 := h
  rw [Array.size_eq_zero_iff.mp h] <;> rfl
/-- the bounds of what is due -/
structure DueOk (s : WS) (most : Int) (a : Int) (z : Str) (l : Bool) : Prop where
  a0 : 0 ≤ a
  up : a + (z.length : Int) ≤ (s.text.length : Int)
  tok : Tok z
  fin : l = true → s.fin = true
theorem am_ok {s : WS} (g : Gd s) {run : Option (Int × Int)} (r : RunOf s.holes run) (most : Int) (bound : Option Int) :
    0 ≤ (amF s run most bound).1 ∧ (0 < (amF s run most bound).2 → (amF s run most bound).1 + (amF s run most bound).2 ≤ (s.text.length : Int)) := by
  have h1 := g.e0
  have h2 := g.el
  have base : ∀ m1 : Int, m1 ≤ min (s.text.length : Int) s.limit - s.edge → 0 ≤ s.edge ∧ (0 < m1 → s.edge + m1 ≤ (s.text.length : Int)) := fun m1 h => ⟨h1, fun _ => by omega⟩
  have base2 : ∀ b : Option Int, (match b with
    | none => min (s.text.length : Int) s.limit - s.edge
    | some b => min (min (s.text.length : Int) s.limit - s.edge) b) ≤ min (s.text.length : Int) s.limit - s.edge := fun b => by
    cases b with
    | none => exact Int.le_refl _
    | some b => exact Int.min_le_left _ _
  unfold amF
  cases run with
  | none => exact base _ (base2 bound)
  | some p =>
    show 0 ≤ (if most > 0 then p else _).1 ∧ (0 < (if most > 0 then p else _).2 → (if most > 0 then p else _).1 + (if most > 0 then p else _).2 ≤ _)
    by_cases c : most > 0
    · rw [if_pos c]
      have hr : Run s.holes p.1 p.2 := r
      have hp := hr.pos
      have q := g.hf _ (hr.row p.1 (Int.le_refl _) (by omega))
      have q2 := g.hf _ (hr.row (p.1 + p.2 - 1) (by omega) (by omega))
      exact ⟨q.1, fun _ => by omega⟩
    · rw [if_neg c]
      exact base _ (base2 bound)
theorem many_ok {s : WS} (g : Gd s) {run : Option (Int × Int)} (r : RunOf s.holes run) (most : Int) (bound : Option Int) (h : manyF s run most bound > 0) :
    (amF s run most bound).1 + manyF s run most bound ≤ (s.text.length : Int) := by
  have a := am_ok g r most bound
  unfold manyF at h ⊢
  have := a.2 (by omega)
  omega
theorem due_ok {s : WS} (g : Gd s) {run : Option (Int × Int)} (r : RunOf s.holes run) {most : Int} {bound : Option Int} {a : Int} {z : Str} {l : Bool} (h : due s run most bound = some (a, z, l)) : DueOk s most a z l := by
  unfold due at h
  by_cases c : manyF s run most bound > 0
  · rw [if_pos c] at h
    have e := Option.some.inj h
    obtain ⟨e1, e2⟩ := Prod.mk.inj e
    obtain ⟨e3, e4⟩ := Prod.mk.inj e2
    have h0 := (am_ok g r most bound).1
    have hu := many_ok g r most bound c
    have hl := cutS_len h0 (by omega) hu
    rw [e3] at hl
    refine ⟨by omega, by omega, by rw [← e3]; exact tok_cut g.tok, fun hl => ?_⟩
    rw [← e4] at hl
    exact (Bool.and_eq_true_iff.mp hl).1
  · rw [if_neg c] at h
    by_cases d : (s.fin && (decide (s.edge = (s.text.length : Int)) && (decide (s.tail = .un) || decide (s.tail = .mis)))) = true
    · rw [if_pos d] at h
      have e := Option.some.inj h
      obtain ⟨e1, e2⟩ := Prod.mk.inj e
      obtain ⟨e3, e4⟩ := Prod.mk.inj e2
      subst e1 e3 e4
      refine ⟨by omega, ?_, fun c hc => ?_, fun _ => (Bool.and_eq_true_iff.mp d).1⟩
      · show (s.text.length : Int) + ((0 : Nat) : Int) ≤ _
        omega
      · have hc : c ∈ ([] : List Nat) := hc
        simp at hc
    · rw [if_neg d] at h
      cases h
theorem Gd.cut {s : WS} (g : Gd s) {most : Int} {d : Option (Int × Str × Bool)} (h : ∀ a z l, d = some (a, z, l) → DueOk s most a z l) : Gd (cutF s d) := by
  cases d with
  | none => exact g
  | some q =>
    obtain ⟨a, z, l⟩ := q
    have q := h a z l rfl
    have h1 := g.e0
    have h2 := g.el
    have h3 := q.up
    have h4 := q.a0
    refine ⟨?_, ?_, fun n hn => ?_, fun n hn => ?_, g.tok, g.len⟩
    · show 0 ≤ max s.edge (a + (z.length : Int))
      omega
    · show max s.edge (a + (z.length : Int)) ≤ (s.text.length : Int)
      omega
    · have := g.sf n hn
      show 0 ≤ n ∧ n < max s.edge (a + (z.length : Int))
      omega
    · have := g.hf n hn.1
      show 0 ≤ n ∧ n < max s.edge (a + (z.length : Int))
      omega
theorem Gd.gotF {s : WS} (g : Gd s) {a k : Int} {l : Bool} (h0 : 0 ≤ a) (hk : 0 ≤ k) (h : a + k ≤ s.edge) : Gd (gotF s a k l) :=
  ⟨g.e0, g.el, fun n hn => by
    rcases hn with hn | hn
    · exact g.sf n hn
    · exact ⟨by omega, by show n < s.edge; omega⟩, fun n hn => g.hf n hn.1, g.tok, g.len⟩
theorem Gd.misF {s : WS} (g : Gd s) {a k : Int} {l : Bool} (h0 : 0 ≤ a) (hk : 0 ≤ k) (h : a + k ≤ s.edge) : Gd (misF s a k l) :=
  ⟨g.e0, g.el, g.sf, fun n hn => by
    rcases hn with hn | hn
    · exact g.hf n hn
    · exact ⟨by omega, by show n < s.edge; omega⟩, g.tok, g.len⟩
theorem app_len (a b : Str) : (a ++ b).length = a.length + b.length := by
  show (a.cps ++ b.cps).size = _
  rw [Array.size_append] <;> rfl
theorem tok_app {a b : Str} (h : Tok a) (k : Tok b) : Tok (a ++ b) := fun c hc => by
  have hc : c ∈ (a.cps ++ b.cps).toList := hc
  rw [Array.toList_append] at hc
  rcases List.mem_append.mp hc with q | q
  · exact h c q
  · exact k c q
theorem Gd.write {s : WS} (g : Gd s) {z : Str} (h : Tok z) (hl : s.text.length + z.length ≤ 100000) : Gd (writeF s z) :=
  ⟨g.e0, by
    have := g.el
    show s.edge ≤ ((s.text ++ z).length : Int)
    rw [app_len]
    omega, g.sf, g.hf, tok_app g.tok h, by
    show (s.text ++ z).length ≤ 100000
    rw [app_len]
    exact hl⟩
theorem Gd.finF {s : WS} (g : Gd s) : Gd (finF s) := ⟨g.e0, g.el, g.sf, g.hf, g.tok, g.len⟩
theorem Gd.raiseF {s : WS} (g : Gd s) {u : Int} : Gd (raiseF s u) := ⟨g.e0, g.el, g.sf, g.hf, g.tok, g.len⟩
end K41

/-! small tools: data that is compared, rows sorted, walks over a list or a tuple -/
namespace K41
open PySem PySem.Spec PyProof.Rows L2
/-- a def that callers may use: it keeps its promise, and how it is bound -/
structure Do (P : Program) (w : World) (K : PySem.W.Frag) (mg : Str → Option Value) (base : Heap) (k : Nat) (f : Addr) (ps : List Str) (dvs : List V) (sp : Sp) (fd : FuncData) (ds : List Value) : Prop where
  ok : FnOk P w K mg base CX0 k f fd ps sp
  b : Binds K fd ps ds
  v : Vals dvs ds
  kp : PySem.W.keepIn K (.ref f) = true
theorem piOr {X : Cx} {tg it : Expr} {w1 w2 : TI} (h1 : PI X tg it w1) (h2 : PI X tg it w2) : PI X tg it (fun σ H R => w1 σ H R ∨ w2 σ H R) :=
  ⟨fun pins s σ H R I h => h.elim (h1.run pins s σ H R I) (h2.run pins s σ H R I)⟩
theorem qb {Q : VK} {H : Hp} {b : Bool} (e : b = true) (k : Q (.bl true) H) : Q (.bl b) H := by rw [e]; exact k
theorem qf {Q : VK} {H : Hp} {b : Bool} (e : b = false) (k : Q (.bl false) H) : Q (.bl b) H := by rw [e]; exact k
theorem iteD {p : Prop} [Decidable p] {A B : Prop} (h : p) (a : A) : if decide p = true then A else B := by
  rw [decide_eq_true h]
  exact iteT a
theorem iteDF {p : Prop} [Decidable p] {A B : Prop} (h : ¬ p) (b : B) : if decide p = true then A else B := by
  rw [decide_eq_false h]
  exact iteF b
theorem iteB {c : Bool} {A B : Prop} (h1 : c = true → A) (h2 : c = false → B) : if c = true then A else B := by
  cases c with
  | true => exact iteT (h1 rfl)
  | false => exact iteF (h2 rfl)
theorem iteE {c d : Bool} {A B : Prop} (e : c = d) (h : if d = true then A else B) : if c = true then A else B := by rw [e]; exact h
/-! ### data that may be compared -/
structure Fine (n : Nat) (d : PyData) : Prop where
  lay : d.canLay0 = true
  deep : d.depth ≤ n
structure FineAll (n : Nat) (ds : List PyData) : Prop where
  lay : PyData.canLayAll0 ds = true
  deep : PyData.depthAll ds ≤ n
theorem Fine.shaped {n : Nat} {d : PyData} (h : Fine n d) (hn : n ≤ 64) : SeqAt.shaped d = true := Bool.and_eq_true_iff.mpr ⟨h.lay, decide_eq_true (by have := h.deep; omega)⟩
theorem Fine.refl {n : Nat} {d : PyData} (h : Fine n d) : PyData.eqv d d = true := SeqAt.eqv_refl d h.lay
theorem FineAll.nil {n : Nat} : FineAll n [] := ⟨rfl, by show 0 ≤ n; omega⟩
theorem FineAll.cons {n : Nat} {d : PyData} {ds : List PyData} (h : Fine n d) (t : FineAll n ds) : FineAll n (d :: ds) :=
  ⟨by rw [PyData.canLayAll0, h.lay, t.lay] <;> rfl, by
    rw [PyData.depthAll]
    exact Nat.max_le.mpr ⟨h.deep, t.deep⟩⟩
theorem FineAll.of {n : Nat} : ∀ {ds : List PyData}, (∀ d, d ∈ ds → Fine n d) → FineAll n ds
  | [], _ => .nil
  | d :: ds, h => .cons (h d (List.mem_cons_self ..)) (FineAll.of fun e m => h e (List.mem_cons_of_mem _ m))
theorem Fine.tup {n : Nat} {ds : List PyData} (h : FineAll n ds) : Fine (n + 1) (.tuple ds) := ⟨by rw [PyData.canLay0]; exact h.lay, by rw [PyData.depth]; exact Nat.succ_le_succ h.deep⟩
theorem Fine.lst {n : Nat} {ds : List PyData} (h : FineAll n ds) : Fine (n + 1) (.list ds) := ⟨by rw [PyData.canLay0]; exact h.lay, by rw [PyData.depth]; exact Nat.succ_le_succ h.deep⟩
theorem Fine.int {n : Nat} (i : Int) : Fine n (.int i) := ⟨rfl, Nat.zero_le _⟩
theorem Fine.non {n : Nat} : Fine n .none := ⟨rfl, Nat.zero_le _⟩
theorem Fine.bl {n : Nat} (b : Bool) : Fine n (.bool b) := ⟨rfl, Nat.zero_le _⟩
theorem Fine.str {n : Nat} {z : Str} (h : Tok z) : Fine n (.str z) := ⟨by
  rw [PyData.canLay0]
  show z.cps.all (· < 0x110000) = true
  rw [← Array.all_toList, List.all_eq_true]
  exact fun c hc => decide_eq_true (h c hc), Nat.zero_le _⟩
theorem Fine.mono {n m : Nat} {d : PyData} (h : Fine n d) (k : n ≤ m) : Fine m d := ⟨h.lay, Nat.le_trans h.deep k⟩
def rowD (p : Int × Int) : PyData := .tuple [.int p.1, .int p.2]
def rowsL (rs : Rows) : PyData := .list (rs.map rowD)
def rowsT (rs : Rows) : PyData := .tuple (rs.map rowD)
theorem fine_row (p : Int × Int) : Fine 1 (rowD p) := Fine.tup (n := 0) (.cons (.int _) (.cons (.int _) .nil))
theorem fine_rows (rs : Rows) : FineAll 1 (rs.map rowD) := .of fun d h => by
  obtain ⟨p, _, rfl⟩ := List.mem_map.mp h
  exact fine_row p
theorem fine_rowsL (rs : Rows) : Fine 2 (rowsL rs) := .lst (fine_rows rs)
theorem fine_rowsT (rs : Rows) : Fine 2 (rowsT rs) := .tup (fine_rows rs)
section
variable {K : PySem.W.Frag} {H H' : Hp}
theorem dp_rows : ∀ {ts : List V} {rs : Rows}, RowsAt H ts rs → DpAll K H ts (rs.map rowD)
  | _, _, .nil => .nil
  | _, _, .cons ⟨t, e, h⟩ r => by
    rw [e]
    exact .cons (.tup (SqT.of h) (.cons (.int _) (.cons (.int _) .nil))) (dp_rows r)
theorem eqv_nil (ds : List PyData) : PyData.eqv (.list ds) (.list []) = ds.isEmpty := by
  cases ds with
  | nil => rw [PyData.eqv, PyData.eqvAll] <;> rfl
  | cons d ds => rw [PyData.eqv, PyData.eqvAll] <;> rfl
/-! ### rows that were sorted -/
def rk (H : Hp) (v : V) : Int × Int := match v with
  | .ref t => (match H t with
    | some (.tup [.int a, .int b]) => (a, b)
    | _ => (0, 0))
  | _ => (0, 0)
theorem rk_of {v : V} {p : Int × Int} (h : RowAt H v p) : rk H v = p := by
  obtain ⟨t, rfl, e⟩ := h
  unfold rk
  simp only [e]
theorem rk_map : ∀ {ts : List V} {rs : Rows}, RowsAt H ts rs → rs = ts.map (rk H)
  | _, _, .nil => rfl
  | _, _, .cons h r => by
    rw [List.map_cons, rk_of h, ← rk_map r]
theorem rk_all : ∀ {ts : List V} {rs : Rows}, RowsAt H ts rs → ∀ x ∈ ts, RowAt H x (rk H x)
  | _, _, .nil, x, hx => by simp at hx
  | _, _, .cons h r, x, hx => by
    rcases List.mem_cons.mp hx with e | hx
    · rw [e, rk_of h]
      exact h
    · exact rk_all r x hx
theorem rows_of : ∀ {ts : List V}, (∀ x ∈ ts, RowAt H x (rk H x)) → RowsAt H ts (ts.map (rk H))
  | [], _ => .nil
  | t :: ts, h => .cons (h t (List.mem_cons_self ..)) (rows_of fun x hx => h x (List.mem_cons_of_mem _ hx))
theorem rk_sorted {ts ys : List V} {rs : Rows} (h : RowsAt H ts rs) (s : SrtO.Srtd (ltP (rk H)) ys) (b : SrtO.Stb (ltP (rk H)) ys ts) :
    ∃ qs : Rows, RowsAt H ys qs ∧ qs.Perm rs ∧ qs.Pairwise fun p q => p.1 ≤ q.1 := by
  refine ⟨ys.map (rk H), rows_of fun x hx => rk_all h x (b.perm.mem_iff.mp hx), ?_, ?_⟩
  · rw [rk_map h]
    exact b.perm.map _
  · refine List.pairwise_map.mpr (List.Pairwise.imp (fun {x y} q => ?_) s)
    have q : SrtO.lexB (rk H y) (rk H x) = false := q
    have q := SrtO.lexB_no.mp q
    omega
theorem RowsAt.at_ : ∀ {ts : List V} {rs : Rows} {i : Nat} {v : V}, RowsAt H ts rs → ts[i]? = some v → ∃ p, rs[i]? = some p ∧ RowAt H v p
  | _, _, _, _, .nil, h => by simp at h
  | _, _, 0, _, .cons h r, e => by
    simp only [List.getElem?_cons_zero, Option.some.injEq] at e
    subst e
    exact ⟨_, rfl, h⟩
  | _, _, i + 1, _, .cons h r, e => by
    simp only [List.getElem?_cons_succ] at e ⊢
    exact RowsAt.at_ r e
theorem RowsAt.len {ts : List V} {rs : Rows} (h : RowsAt H ts rs) : ts.length = rs.length := Paired.length h
theorem RowsAt.app : ∀ {ts us : List V} {rs qs : Rows}, RowsAt H ts rs → RowsAt H us qs → RowsAt H (ts ++ us) (rs ++ qs)
  | _, _, _, _, .nil, h => h
  | _, _, _, _, .cons h r, k => .cons h (RowsAt.app r k)
theorem RowsAt.one {t : Addr} {p : Int × Int} (h : H t = some (.tup [.int p.1, .int p.2])) : RowsAt H [.ref t] [p] := .cons ⟨t, rfl, h⟩ .nil
theorem RowsAt.same {ts : List V} {rs : Rows} (h : RowsAt H ts rs) (k : Same H H') : RowsAt H' ts rs := h.keep fun t xs e => k _ _ e
theorem RowsAt.snoc {ts : List V} {v : V} {qs : Rows} (h : RowsAt H (ts ++ [v]) qs) : ∃ rs p, qs = rs ++ [p] ∧ RowsAt H ts rs ∧ RowAt H v p := by
  have key : ∀ (us : List V) (qs : Rows), RowsAt H us qs → ∀ (ts : List V), us = ts ++ [v] → ∃ rs p, qs = rs ++ [p] ∧ RowsAt H ts rs ∧ RowAt H v p := by
    clear h
    intro us qs h
    induction h with
    | nil =>
      intro ts e
      simp at e
    | @cons a b l1 l2 h1 r ih =>
      intro ts e
      cases ts with
      | nil =>
        obtain ⟨e1, e2⟩ := List.cons.inj e
        subst e1 e2
        cases r
        exact ⟨[], b, rfl, .nil, h1⟩
      | cons t ts =>
        obtain ⟨e1, e2⟩ := List.cons.inj e
        obtain ⟨rs, p, e3, h3, h2⟩ := ih ts e2
        subst e1 e3
        exact ⟨b :: rs, p, rfl, .cons h1 h3, h2⟩
  exact key _ _ h _ rfl
end
/-! ### a list or a tuple -/
def SqS (K : PySem.W.Frag) (H : Hp) (a : Addr) (xs : List V) : Prop := SqL K H a xs ∨ SqT K H a xs
theorem sqT_same {K : PySem.W.Frag} {H H' : Hp} {a : Addr} {xs : List V} (e : Same H H') (h : SqT K H a xs) : SqT K H' a xs := by
  rcases h with (h | ⟨o, h⟩) | h
  · exact .inl (.inl (e _ _ h))
  · exact .inl (.inr ⟨o, e _ _ h⟩)
  · exact .inr h
theorem SqS.same {K : PySem.W.Frag} {H H' : Hp} {a : Addr} {xs : List V} (h : SqS K H a xs) (e : Same H H') : SqS K H' a xs := h.elim (fun h => .inl (e.seq h)) fun h => .inr (sqT_same e h)
theorem for_enumL {K : PySem.W.Frag} {a : Addr} {xs : List V} {g : TG} {tb : TS} {D : Ends} {σ : L2.St} {H : Hp} (Pv : Nat → L2.St → Hp → Prop) (h0 : Pv 0 σ H) (hl : ∀ i σ H, i ≤ xs.length → Pv i σ H → SqL K H a xs)
    (hs : ∀ (i : Nat) x σ H T, xs[i]? = some x → Pv i σ H → H T = none → g (.ref T) σ (upd H T (.tup [.int (i : Int), x])) fun σ2 H2 => tb { D with nx := Pv (i + 1), ct := Pv (i + 1), bk := D.nx } σ2 H2) (hd : ∀ σ H, Pv xs.length σ H → D.nx σ H) :
    ∃ W : Nat → Nat → L2.St → Hp → Prop, (∃ m, W 0 m σ H) ∧ ∀ i m σ H, W i m σ H →
      ((Ite K a).stop i H ∧ D.nx σ H) ∨ ((Ite K a).go i H ∧ ∃ N : L2.St → Hp → Prop, (∀ σ' H', N σ' H' → ∃ m', m' < m ∧ W (i + 1) m' σ' H') ∧ ∀ x H', (Ite K a).yld i H x H' → g x σ H' fun σ2 H2 => tb { D with nx := N, ct := N, bk := D.nx } σ2 H2) := by
  refine ⟨fun i m σ H => m = xs.length - i ∧ i ≤ xs.length ∧ Pv i σ H, ⟨xs.length, by simp, Nat.zero_le _, h0⟩, ?_⟩
  rintro i m σ H ⟨rfl, hi, p⟩
  have q := hl i σ H hi p
  by_cases hlt : i < xs.length
  · refine .inr ⟨⟨xs, xs[i], q, by simp [hlt]⟩, Pv (i + 1), fun σ' H' p' => ⟨xs.length - (i + 1), by omega, rfl, hlt, p'⟩, fun x H' y => ?_⟩
    obtain ⟨T, z, e1, e2, e3, y⟩ := y
    subst e1 e3
    exact hs i z σ H T (y xs q) p e2
  · have e : i = xs.length := by omega
    subst e
    exact .inl ⟨⟨xs, q, Nat.le_refl _⟩, hd σ H p⟩
theorem for_enumS {K : PySem.W.Frag} {a : Addr} {xs : List V} {g : TG} {tb : TS} {D : Ends} {σ : L2.St} {H : Hp} (h : SqS K H a xs) (Pv : Nat → L2.St → Hp → Prop) (h0 : Pv 0 σ H) (hl : ∀ i σ H', Pv i σ H' → Same H H')
    (hs : ∀ (i : Nat) x σ H T, xs[i]? = some x → Pv i σ H → H T = none → g (.ref T) σ (upd H T (.tup [.int (i : Int), x])) fun σ2 H2 => tb { D with nx := Pv (i + 1), ct := Pv (i + 1), bk := D.nx } σ2 H2) (hd : ∀ σ H, Pv xs.length σ H → D.nx σ H) :
    (SqL K H a xs ∧ ∃ W : Nat → Nat → L2.St → Hp → Prop, (∃ m, W 0 m σ H) ∧ ∀ i m σ H, W i m σ H →
      ((Ite K a).stop i H ∧ D.nx σ H) ∨ ((Ite K a).go i H ∧ ∃ N : L2.St → Hp → Prop, (∀ σ' H', N σ' H' → ∃ m', m' < m ∧ W (i + 1) m' σ' H') ∧ ∀ x H', (Ite K a).yld i H x H' → g x σ H' fun σ2 H2 => tb { D with nx := N, ct := N, bk := D.nx } σ2 H2)) ∨
    (SqT K H a xs ∧ ∃ W : Nat → Nat → L2.St → Hp → Prop, (∃ m, W 0 m σ H) ∧ ∀ i m σ H, W i m σ H →
      ((IteT K a).stop i H ∧ D.nx σ H) ∨ ((IteT K a).go i H ∧ ∃ N : L2.St → Hp → Prop, (∀ σ' H', N σ' H' → ∃ m', m' < m ∧ W (i + 1) m' σ' H') ∧ ∀ x H', (IteT K a).yld i H x H' → g x σ H' fun σ2 H2 => tb { D with nx := N, ct := N, bk := D.nx } σ2 H2)) := by
  rcases h with h | h
  · exact .inl ⟨h, for_enumL Pv h0 (fun i σ H' _ p => (hl i σ H' p).seq h) hs hd⟩
  · exact .inr ⟨h, for_enumT Pv h0 (fun i σ H' _ p => sqT_same (hl i σ H' p) h) hs hd⟩
/-- a canonical list within bounds is short -/
theorem rows_short {rs : Rows} (c : Can rs) {m : Nat} (h : ∀ n, Mem rs n → 0 ≤ n ∧ n < (m : Int)) : rs.length ≤ m := by
  have h1 : ((rs.length : Nat) : Int) ≤ cnt rs := by
    clear h
    induction rs with
    | nil => show (0 : Int) ≤ 0; omega
    | cons p r ih =>
      have := ih (can_cons.mp c).2.2
      have hp := (can_cons.mp c).1
      show ((r.length + 1 : Nat) : Int) ≤ (p.2 - p.1 + 1) + cnt r
      omega
  have h2 := len_le_of_sub (m := nums 0 m) (spread_nodup c) fun n hn => mem_nums.mpr (by have := h n (mem_spread.mp hn); omega)
  rw [nums_length] at h2
  have h3 := spread_length c
  omega
/-- the list of the Ranges at r was not there before -/
def Fr (K : PySem.W.Frag) (H H' : Hp) (r : Addr) : Prop := ∀ dx l, H' r = some (.ins (cR K) dx [(("spans" : Str), .ref l)]) → H l = none
theorem line_big {n : Nat} (h : n ≤ 1000000) : n ≤ sizeLine := by rw [sizeLine_eq]; omega
theorem line_lt {n : Nat} (h : n ≤ 1000000) : n < sizeLine := by rw [sizeLine_eq]; omega
end K41

/-! defs 1 to 5: is_whole, is_number, is_pair, pair_of, merged -/
namespace K41
open PySem PySem.Spec PyProof.Rows L2
section
variable {P : Program} {w : World} {K : PySem.W.Frag} {mg : Str → Option Value} {base : Heap}
/-! ### is_whole -/
theorem scIsWhole : FnScope ["thing"] ["thing"] (defScope sIsWhole) := ⟨rfl, rfl, rfl, by decide +kernel, rfl, by decide +kernel, by decide +kernel⟩
def spIsWhole : Sp := fun vs H Q _ => ∃ i : Int, vs = [.int i] ∧ Q (.bl true) H
theorem do_isWhole (T : Tx K mg) : ∃ fd ds, Do P w K mg base 1 (He.ga K "is_whole") ["thing"] [] spIsWhole fd ds := by
  obtain ⟨fd, F⟩ := T.def_ 1
  refine ⟨fd, [], ok0 F scIsWhole (fun vs H Q E h => ?_) (fun cdv A outer s H vs Q E hr h => ?_), F.bindsN fun _ _ _ _ _ _ us hl => match us, hl with | [_], _ => rfl, .nil, F.kp⟩
  · obtain ⟨i, rfl, _⟩ := h
    rfl
  · obtain ⟨i, rfl, k⟩ := h
    refine ⟨_, pss_one (ps_ret (pe_and (pe_callB call_isi (by rfl) T.f (by decide +kernel) (pa_cons (pv 0) (pa_cons (pe_bltn (v := .ty "int") (by rfl) T.f (by decide +kernel) rfl) pa_nil)))
      (pe_one (pe_not (pe_callB call_isi (by rfl) T.f (by decide +kernel) (pa_cons (pv 0) (pa_cons (pe_bltn (v := .ty "bool") (by rfl) T.f (by decide +kernel) rfl) pa_nil))))))), ?_⟩
    refine ⟨_, rfl, _, _, _, _, _, rfl, .ty "int", .base (.int i), kit_ty (by decide +kernel), true, rfl, ?_⟩
    refine ⟨_, rfl, _, _, _, _, _, rfl, .ty "bool", .base (.int i), kit_ty (r := false) (by decide +kernel), _, rfl, k⟩
/-! ### is_number -/
theorem scIsNumber : FnScope ["thing"] ["thing"] (defScope sIsNumber) := ⟨rfl, rfl, rfl, by decide +kernel, rfl, by decide +kernel, by decide +kernel⟩
def Nb (i : Int) : Prop := 0 ≤ i ∧ i ≤ 1000000000000
def spIsNumber : Sp := fun vs H Q _ => ∃ i : Int, vs = [.int i] ∧ Nb i ∧ Q (.bl true) H
theorem do_isNumber (T : Tx K mg) : ∃ fd ds, Do P w K mg base 2 (He.ga K "is_number") ["thing"] [] spIsNumber fd ds := by
  obtain ⟨fd, F⟩ := T.def_ 2
  obtain ⟨_, _, G⟩ := do_isWhole (P := P) (w := w) (base := base) T
  refine ⟨fd, [], ok0 F scIsNumber (fun vs H Q E h => ?_) (fun cdv A outer s H vs Q E hr h => ?_), F.bindsN fun _ _ _ _ _ _ us hl => match us, hl with | [_], _ => rfl, .nil, F.kp⟩
  · obtain ⟨i, rfl, _⟩ := h
    rfl
  · obtain ⟨i, rfl, n, k⟩ := h
    obtain ⟨_, mm⟩ := T.most
    refine ⟨_, pss_one (ps_ret (pe_and (pe_call G.ok hr (by rfl) T.g G.kp G.b G.v pass0 (pa_cons (pv 0) pa_nil)) (pe_one (pe_chain op_le op_le pe_int (pv 0) (pe_glob (v := .int 1000000000000) rfl mm ⟨_, rfl⟩))))), ?_⟩
    refine ⟨_, rfl, i, rfl, true, rfl, ?_⟩
    refine ⟨_, rfl, _, _, rfl, rfl, _, rfl, ?_⟩
    exact iteD n.1 ⟨_, _, rfl, rfl, qb (decide_eq_true n.2) k⟩
/-! ### is_pair -/
theorem scIsPair : FnScope ["row"] ["row"] (defScope sIsPair) := ⟨rfl, rfl, rfl, by decide +kernel, rfl, by decide +kernel, by decide +kernel⟩
/-- a row that a Ranges takes -/
structure Pr (p : Int × Int) : Prop where
  lo : 0 ≤ p.1
  le : p.1 ≤ p.2
  hi : p.2 ≤ 1000000000000
def spIsPair : Sp := fun vs H Q _ => ∃ (v : V) (p : Int × Int), vs = [v] ∧ RowAt H v p ∧ Pr p ∧ Q (.bl true) H
theorem do_isPair (T : Tx K mg) : ∃ fd ds, Do P w K mg base 3 (He.ga K "is_pair") ["row"] [] spIsPair fd ds := by
  obtain ⟨fd, F⟩ := T.def_ 3
  obtain ⟨_, _, G⟩ := do_isNumber (P := P) (w := w) (base := base) T
  refine ⟨fd, [], ok0 F scIsPair (fun vs H Q E h => ?_) (fun cdv A outer s H vs Q E hr h => ?_), F.bindsN fun _ _ _ _ _ _ us hl => match us, hl with | [_], _ => rfl, .nil, F.kp⟩
  · obtain ⟨v, p, rfl, _⟩ := h
    rfl
  · obtain ⟨v, p, rfl, ⟨t, rfl, ht⟩, hp, k⟩ := h
    refine ⟨_, pss_cons (ps_if (PW.pt (pw_or (pt_not (pt_val (pe_callB call_isi (by rfl) T.f (by decide +kernel) (pa_cons (pv 0) (pa_cons (pe_bltn (v := .ty "tuple") (by rfl) T.f (by decide +kernel) rfl) pa_nil)))))
      (pw_or (pt_cmpR op_ne (pe_callB call_len_seq (by rfl) T.f PySem.boot_len (pa_cons (pv 0) pa_nil)) pe_int (nomark _))
      (pw_or (pt_not (pt_val (pe_call G.ok hr (by rfl) T.g G.kp G.b G.v pass0 (pa_cons (pe_ix ix_tup (pv 0) pe_int (fun _ _ => rfl)) pa_nil))))
      (pw_or1 (pt_not (pt_val (pe_call G.ok hr (by rfl) T.g G.kp G.b G.v pass0 (pa_cons (pe_ix ix_tup (pv 0) pe_int (fun _ _ => rfl)) pa_nil)))))))))
      (pss_one (ps_ret pe_bl)) pss_nil)
      (pss_one (ps_ret (pe_cmpR op_le (pe_ix ix_tup (pv 0) pe_int (fun _ _ => rfl)) (pe_ix ix_tup (pv 0) pe_int (fun _ _ => rfl)) (nomark _)))), ?_⟩
    refine ⟨_, rfl, _, _, _, _, _, rfl, .ty "tuple", .base (.tup ht), kit_ty (by decide +kernel), true, rfl, ?_⟩
    refine iteF ?_
    refine ⟨_, rfl, t, _, rfl, .inr (SqT.of ht), rfl, _, rfl, iteF ?_⟩
    refine ⟨_, rfl, t, _, _, _, rfl, rfl, SqT.of ht, rfl, p.1, rfl, ⟨hp.lo, Int.le_trans hp.le hp.hi⟩, true, rfl, iteF ?_⟩
    refine ⟨_, rfl, t, _, _, _, rfl, rfl, SqT.of ht, rfl, p.2, rfl, ⟨Int.le_trans hp.lo hp.le, hp.hi⟩, true, rfl, iteF ?_⟩
    refine ⟨_, rfl, t, _, _, _, rfl, rfl, SqT.of ht, rfl, _, rfl, t, _, _, _, rfl, rfl, SqT.of ht, rfl, _, _, rfl, rfl, qb (decide_eq_true hp.le) k⟩
/-! ### pair_of -/
theorem scPairOf : FnScope ["first", "last"] ["first", "last"] (defScope sPairOf) := ⟨rfl, rfl, rfl, by decide +kernel, rfl, by decide +kernel, by decide +kernel⟩
def spPairOf : Sp := fun vs H Q _ => ∃ p : Int × Int, vs = [.int p.1, .int p.2] ∧ Pr p ∧ ∀ H' t, Same H H' → H' t = some (.tup [.int p.1, .int p.2]) → Q (.ref t) H'
theorem Same.new {H : Hp} {p : Addr} {o : HO} (h : H p = none) : Same H (upd H p o) := fun b u e => by
  rw [upd_ne (ne_of_none e h)]
  exact e
theorem do_pairOf (T : Tx K mg) : ∃ fd ds, Do P w K mg base 4 (He.ga K "pair_of") ["first", "last"] [] spPairOf fd ds := by
  obtain ⟨fd, F⟩ := T.def_ 4
  obtain ⟨_, _, G⟩ := do_isPair (P := P) (w := w) (base := base) T
  refine ⟨fd, [], ok0 F scPairOf (fun vs H Q E h => ?_) (fun cdv A outer s H vs Q E hr h => ?_), F.bindsN fun _ _ _ _ _ _ us hl => match us, hl with | [_, _], _ => rfl, .nil, F.kp⟩
  · obtain ⟨p, rfl, _⟩ := h
    rfl
  · obtain ⟨p, rfl, hp, k⟩ := h
    refine ⟨_, pss_cons (ps_if (pt_cmpR op_isN (pv 1) pe_non (nomark _)) (pss_one (ps_set (i := 1) scPairOf.nd rfl (.inl rfl) (pv 0))) pss_nil)
      (pss_cons (ps_if (pt_not (pt_val (pe_call G.ok hr (by rfl) T.g G.kp G.b G.v pass0 (pa_cons (pe_tup (pa_cons (pv 0) (pa_cons (pv 1) pa_nil))) pa_nil)))) (pss_one ps_never) pss_nil)
      (pss_one (ps_ret (pe_tup (pa_cons (pv 0) (pa_cons (pv 1) pa_nil)))))), ?_⟩
    refine ⟨_, rfl, rfl, _, rfl, iteF ?_⟩
    refine ⟨_, rfl, _, rfl, (by show 2 ≤ sizeLine; decide), fun t ht => ?_⟩
    refine ⟨.ref t, p, rfl, ⟨t, rfl, upd_same⟩, hp, true, rfl, iteF ?_⟩
    refine ⟨_, rfl, _, rfl, (by show 2 ≤ sizeLine; decide), fun t2 ht2 => ?_⟩
    exact k _ t2 ((Same.new ht).trans (Same.new ht2)) upd_same
end
end K41

/-! merged -/
namespace K41
open PySem PySem.Spec PyProof.Rows L2
theorem drop_at {α : Type} {l : List α} {i : Nat} {x : α} (h : l[i]? = some x) : l.drop i = x :: l.drop (i + 1) := by
  obtain ⟨hi, e⟩ := List.getElem?_eq_some_iff.mp h
  rw [List.drop_eq_getElem_cons hi, e]
theorem take_at {α : Type} {l : List α} {i : Nat} {x : α} (h : l[i]? = some x) : l.take (i + 1) = l.take i ++ [x] := by
  rw [List.take_succ, h] <;> rfl
theorem ixN_last {n : Nat} : ixN (n + 1) (-1) = some n := by
  unfold ixN
  rw [if_neg (by omega), if_pos (by omega)]
  exact congrArg some (by omega)
theorem set_last {α : Type} {x y : α} : ∀ (l : List α), (l ++ [x]).set l.length y = l ++ [y]
  | [] => rfl
  | a :: l => congrArg (a :: ·) (set_last l)
section
variable {P : Program} {w : World} {K : PySem.W.Frag} {mg : Str → Option Value} {base : Heap}
theorem cr_sortedSq {X : Cx} : CallR X (.builtin "sorted") (fun vs H Q => ∃ (a : Addr) (xs : List V) (k : V → Int × Int), vs = [V.ref a] ∧ SqS X.K H a xs ∧ (∀ x ∈ xs, ∃ t, x = V.ref t ∧ H t = some (.tup [.int (k x).1, .int (k x).2])) ∧
    ∀ ys p, SrtO.Srtd (ltP k) ys → SrtO.Stb (ltP k) ys xs → H p = none → Q (.ref p) (upd H p (.lst ys))) := by
  intro pins s σ H vs us Q I r h
  obtain ⟨a, xs, k, e, hs | hs, h1, h2⟩ := h
  · exact cr_sortedPO pins s σ H vs us Q I r ⟨a, xs, k, e, hs, h1, h2⟩
  · exact cr_sortedPT pins s σ H vs us Q I r ⟨a, xs, k, e, hs, h1, h2⟩
theorem scMerged : FnScope ["rows", "found", "first", "last"] ["rows"] (defScope sMerged) := ⟨rfl, rfl, rfl, by decide +kernel, rfl, by decide +kernel, by decide +kernel⟩
def spMerged (K : PySem.W.Frag) : Sp := fun vs H Q _ => ∃ (a : Addr) (ts : List V) (rs : Rows), vs = [.ref a] ∧ SqS K H a ts ∧ RowsAt H ts rs ∧ (∀ p ∈ rs, Pr p) ∧ ts.length ≤ 1000000 ∧
  ∀ H' l ts' rs', Same H H' → H l = none → H' l = some (.lst ts') → RowsAt H' ts' rs' → Can rs' → (∀ n, Mem rs' n ↔ Mem rs n) → Q (.ref l) H'
theorem do_merged (T : Tx K mg) : ∃ fd ds, Do P w K mg base 1 (He.ga K "merged") ["rows"] [] (spMerged K) fd ds := by
  obtain ⟨fd, F⟩ := T.def_ 5
  refine ⟨fd, [], ok0 F scMerged (fun vs H Q E h => ?_) (fun cdv A outer s H vs Q E hr h => ?_), F.bindsN fun _ _ _ _ _ _ us hl => match us, hl with | [_], _ => rfl, .nil, F.kp⟩
  · obtain ⟨a, ts, rs, rfl, _⟩ := h
    rfl
  · obtain ⟨a, ts, rs, rfl, hs, hrs, hp, hsz0, k⟩ := h
    refine ⟨_, pss_cons (ps_set (i := 1) scMerged.nd rfl (.inl rfl) (pe_lst pa_nil))
      (pss_cons (ps_for PassesOwn.never rfl (pi_list (pe_callB cr_sortedSq (by rfl) T.f (by decide +kernel) (pa_cons (pv 0) pa_nil)))
        (pg_tup rfl (pgs_cons (pg_name (i := 2) scMerged.nd rfl (.inl rfl)) (pgs_cons (pg_name (i := 3) scMerged.nd rfl (.inl rfl)) pgs_nil)))
        (pss_one (ps_if (PW.pt (pw_and (pt_cmpR (op_neD hr.units) (pv 1) (pe_lst pa_nil) (nomark _))
            (pw_and1 (pt_cmpR op_le (pv 2) (pe_op op_add (pe_ix ix_tup (pe_ix ix_list (pv 1) (pe_un un_neg pe_int) (fun _ _ => rfl)) pe_int (fun _ _ => rfl)) pe_int) (nomark _)))))
          (pss_one (ps_asg (pe_tup (pa_cons (pe_ix ix_tup (pe_ix ix_list (pv 1) (pe_un un_neg pe_int) (fun _ _ => rfl)) pe_int (fun _ _ => rfl))
              (pa_cons (pe_callB (call_max2 rfl) (by rfl) T.f (by decide +kernel) (pa_cons (pe_ix ix_tup (pe_ix ix_list (pv 1) (pe_un un_neg pe_int) (fun _ _ => rfl)) pe_int (fun _ _ => rfl)) (pa_cons (pv 3) pa_nil))) pa_nil)))
            (pg_sub (pv 1) (pe_un un_neg pe_int) set_list)))
          (pss_one (ps_expr (pe_bm PySem.F.plainAttrs_list PySem.F.slot_list_append PySem.F.type_list_append mt_append (pv 1) (pa_cons (pe_tup (pa_cons (pv 2) (pa_cons (pv 3) pa_nil))) pa_nil)))))))
      (pss_one (ps_ret (pv 1)))), ?_⟩
    refine ⟨Nat.zero_le _, fun fl hfl => ?_⟩
    have s1 : Same H (upd H fl (.lst [])) := Same.new hfl
    have hrs1 := hrs.same s1
    refine ⟨_, rfl, ?_⟩
    refine ⟨a, ts, rk (upd H fl (.lst [])), rfl, hs.same s1, fun x hx => rk_all hrs1 x hx, fun ys p srt stb hpn => ?_⟩
    obtain ⟨qs, hq, hperm, hup⟩ := rk_sorted hrs1 srt stb
    have hqp : ∀ q ∈ qs, Pr q := fun q m => hp q (hperm.mem_iff.mp m)
    have s2 : Same (upd H fl (.lst [])) (upd (upd H fl (.lst [])) p (.lst ys)) := Same.new hpn
    have hq2 := hq.same s2
    have nfp : fl ≠ p := ne_of_none upd_same hpn
    refine ⟨p, rfl, ⟨_, SqL.of upd_same⟩, for_list (K := K) (a := p) (xs := ys) (fun i σ H' => ∃ (acc : Rows) (us : List V) (b : Int) (v2 v3 : Option V), σ = [some (.ref a), some (.ref fl), v2, v3] ∧
      Kp [fl] (upd (upd H fl (.lst [])) p (.lst ys)) H' ∧ H' fl = some (.lst us) ∧ RowsAt H' us acc ∧ Mg acc (qs.take i) b ∧ (∀ q ∈ qs.drop i, b ≤ q.1) ∧ us.length ≤ i)
      ⟨[], [], 0, none, none, rfl, Kp.refl, by rw [upd_ne nfp]; exact upd_same, .nil, .nil, fun q m => (hqp q m).lo, Nat.le_refl _⟩ ?_ ?_ ?_⟩
    · rintro i σ H' _ ⟨_, _, _, _, _, _, kp, _⟩
      exact SqL.of (kp _ _ (by simpa using nfp.symm) upd_same)
    · rintro i x σ H' hx ⟨acc, us, b, v2, v3, rfl, kp, hf, hu, mg_, hb, hlen⟩
      obtain ⟨q, hqi, hrow⟩ := hq2.at_ hx
      obtain ⟨t, rfl, ht⟩ := hrow
      have ht' : H' t = some (.tup [.int q.1, .int q.2]) := kp _ _ (by
        have : t ≠ fl := ne_of ht (by rw [upd_ne nfp]; exact upd_same) (by intro z; cases z)
        simpa using this) ht
      have hd := drop_at hqi
      have htk := take_at hqi
      have pq := hqp q (List.mem_of_getElem? hqi)
      have hbq : b ≤ q.1 := hb q (by rw [hd]; exact List.mem_cons_self ..)
      have hnext : ∀ r ∈ qs.drop (i + 1), q.1 ≤ r.1 := by
        have z := hup.sublist (List.drop_sublist i qs)
        rw [hd] at z
        exact (List.pairwise_cons.mp z).1
      refine ⟨t, _, rfl, SqT.of ht', rfl, _, _, rfl, _, _, rfl, rfl, ?_⟩
      have hlq : qs.length = ys.length := (hq.len).symm
      -- found != []
      refine ⟨_, rfl, Nat.zero_le _, fun e he => ?_⟩
      have se : Same H' (upd H' e (.lst [])) := Same.new he
      have nfe : fl ≠ e := ne_of_none hf he
      have hf2 : upd H' e (.lst []) fl = some (.lst us) := se _ _ hf
      have hu2 := hu.same se
      refine ⟨_, _, .lst (SqL.of hf2) (dp_rows hu2), .lst (SqL.of upd_same) .nil, (fine_rowsL acc).shaped (by decide), (Fine.lst (n := 0) .nil).shaped (by decide), _, rfl, ?_⟩
      have e_nil : PyData.eqv (.list (acc.map rowD)) (.list []) = acc.isEmpty := by
        rw [eqv_nil]
        cases acc <;> rfl
      rw [e_nil]
      -- the else's way: found.append((first, last))
      have more : ∀ H3, Same (upd H' e (.lst [])) H3 → (acc = [] ∨ ∃ a l, acc = a ++ [l] ∧ ¬ q.1 ≤ l.2 + 1) → ∀ t3, H3 t3 = none →
          Kp [fl] (upd (upd H fl (.lst [])) p (.lst ys)) (upd (upd H3 t3 (.tup [.int q.1, .int q.2])) fl (.lst (us ++ [.ref t3]))) ∧ upd (upd H3 t3 (.tup [.int q.1, .int q.2])) fl (.lst (us ++ [.ref t3])) fl = some (.lst (us ++ [.ref t3])) ∧
          RowsAt (upd (upd H3 t3 (.tup [.int q.1, .int q.2])) fl (.lst (us ++ [.ref t3]))) (us ++ [.ref t3]) (acc ++ [q]) ∧ Mg (acc ++ [q]) (qs.take (i + 1)) q.1 ∧ (∀ r ∈ qs.drop (i + 1), q.1 ≤ r.1) ∧ (us ++ [V.ref t3]).length ≤ i + 1 := fun H3 s3 hc t3 ht3 => by
        have s4 : Same H' (upd H3 t3 (.tup [.int q.1, .int q.2])) := (se.trans s3).trans (Same.new ht3)
        have hf4 := s4 _ _ hf
        refine ⟨(kp.trans (Kp.of s4)).trans (Kp.put (by simp)), upd_same, ?_, ?_, hnext, by rw [List.length_append]; show us.length + 1 ≤ i + 1; omega⟩
        · refine RowsAt.keep (RowsAt.app (hu.same s4) (RowsAt.one upd_same)) fun c xs hc => ?_
          rw [upd_ne (ne_of hc hf4 (by intro z; cases z))]
          exact hc
        · rw [htk]
          exact mg_.apart pq.le hbq hc
      have hsz : us.length < sizeLine := line_lt (by
        have h1 := (List.getElem?_eq_some_iff.mp hx).1
        have h2 := hperm.length_eq
        have h3 := hrs.len
        omega)
      refine iteB (fun hne => ?_) (fun hem => ?_)
      · -- the last row
        rcases List.eq_nil_or_concat acc with e0 | ⟨ini, l, e0⟩
        · rw [e0] at hne
          cases hne
        · rw [List.concat_eq_append] at e0
          subst e0
          obtain ⟨us0, v, rfl⟩ : ∃ us0 v, us = us0 ++ [v] := by
            rcases List.eq_nil_or_concat us with z | ⟨us0, v, z⟩
            · rw [z] at hu
              have := hu.len
              simp at this
            · exact ⟨us0, v, by rw [z, List.concat_eq_append]⟩
          obtain ⟨ini', l', e1, hu0, hv⟩ := hu2.snoc
          obtain ⟨z1, z2⟩ := List.append_inj' e1 rfl
          subst z1
          obtain rfl : l = l' := (List.cons.inj z2).1
          obtain ⟨tl, rfl, htl⟩ := hv
          refine ⟨_, rfl, _, rfl, _, rfl, fl, _, _, _, rfl, rfl, SqL.of hf2, atI_last _ _, tl, _, _, _, rfl, rfl, SqT.of htl, rfl, _, _, rfl, rfl, _, _, rfl, rfl, _, rfl, ?_⟩
          refine ite2 (fun c => ?_) (fun c => ?_)
          · -- found[-1] = (found[-1][0], max(found[-1][1], last))
            refine ⟨_, rfl, _, rfl, fl, _, _, _, rfl, rfl, SqL.of hf2, atI_last _ _, tl, _, _, _, rfl, rfl, SqT.of htl, rfl, ?_⟩
            refine ⟨_, rfl, _, rfl, fl, _, _, _, rfl, rfl, SqL.of hf2, atI_last _ _, tl, _, _, _, rfl, rfl, SqT.of htl, rfl, ?_⟩
            refine ⟨_, rfl, _, _, rfl, (by show 2 ≤ sizeLine; decide), fun t3 ht3 => ?_⟩
            have hf3 := (Same.new (o := HO.tup [.int l.1, .int (if q.2 > l.2 then q.2 else l.2)]) ht3) _ _ hf2
            refine ⟨_, rfl, _, rfl, fl, _, _, us0.length, rfl, rfl, hf3, ?_, ?_⟩
            · rw [List.length_append]
              exact ixN_last
            · have emax : (if q.2 > l.2 then q.2 else l.2) = max l.2 q.2 := by split <;> omega
              rw [set_last, emax]
              rw [emax] at hf3
              have s4 : Same H' (upd (upd H' e (.lst [])) t3 (.tup [.int l.1, .int (max l.2 q.2)])) := se.trans (Same.new ht3)
              have hf4 := s4 _ _ hf
              refine ⟨ini ++ [(l.1, max l.2 q.2)], us0 ++ [.ref t3], q.1, _, _, rfl, (kp.trans (Kp.of s4)).trans (Kp.put (by simp)), upd_same, ?_, ?_, hnext, ?_⟩
              · refine RowsAt.keep (RowsAt.app (hu0.same (Same.new ht3)) (RowsAt.one (p := (l.1, max l.2 q.2)) upd_same)) fun c xs hc => ?_
                rw [upd_ne (ne_of hc hf4 (by intro z; cases z))]
                exact hc
              · rw [htk]
                exact mg_.touch pq.le hbq (of_decide_eq_true c)
              · rw [List.length_append] at hlen ⊢
                exact Nat.le_succ_of_le hlen
          · -- found.append((first, last))
            refine ⟨_, rfl, .inl ⟨rfl, _, SqL.of hf2⟩, _, rfl, _, rfl, (by show 2 ≤ sizeLine; decide), fun t3 ht3 => ?_⟩
            have z := more _ (Same.refl _) (.inr ⟨ini, l, rfl, fun z => c (decide_eq_true z)⟩) t3 ht3
            exact ⟨fl, _, _, rfl, rfl, Same.new ht3 _ _ hf2, hsz, _, _, q.1, _, _, rfl, z⟩
      · have z0 : acc = [] := by
          cases acc with
          | nil => rfl
          | cons r acc => cases hem
        refine ⟨_, rfl, .inl ⟨rfl, _, SqL.of hf2⟩, _, rfl, _, rfl, (by show 2 ≤ sizeLine; decide), fun t3 ht3 => ?_⟩
        have z := more _ (Same.refl _) (.inl z0) t3 ht3
        exact ⟨fl, _, _, rfl, rfl, Same.new ht3 _ _ hf2, hsz, _, _, q.1, _, _, rfl, z⟩
    · rintro σ H' ⟨acc, us, b, v2, v3, rfl, kp, hf, hu, mg_, hb, hlen⟩
      refine ⟨_, rfl, ?_⟩
      have hlq : qs.length = ys.length := (hq.len).symm
      rw [← hlq, List.take_length] at mg_
      refine k H' fl us acc (fun c o hc => kp c o ?_ ?_) hfl hf hu mg_.can fun n => (mg_.set n).trans (mem_perm hperm n)
      · have : c ≠ fl := ne_of_none hc hfl
        simpa using this
      · exact s2 _ _ (s1 _ _ hc)
end
end K41

/-! the class Ranges -/
namespace K41
open PySem PySem.Spec PyProof.Rows L2
section
variable {P : Program} {w : World} {K : PySem.W.Frag} {mg : Str → Option Value} {base : Heap}
/-! ### __init__ -/
theorem scRInit : FnScope ["self", "rows", "at", "row"] ["self", "rows"] (defScope sRInit) := ⟨rfl, rfl, rfl, by decide +kernel, rfl, by decide +kernel, by decide +kernel⟩
def spRInit (K : PySem.W.Frag) : Sp := fun vs H Q _ => ∃ (p dx a : Addr) (ts : List V) (rs : Rows), vs = [.ref p, .ref a] ∧ H p = some (.ins (cR K) dx []) ∧ SqS K H a ts ∧ RowsAt H ts rs ∧ (∀ q ∈ rs, Pr q) ∧ ts.length ≤ 1000000 ∧
  ∀ H', Kp [p] H H' → RgS K H' p (Mem rs) → Fr K H H' p → Q .non H'
theorem do_rInit (T : Tx K mg) : ∃ fd ds, Do P w K mg base 4 (He.ma K (cR K) "__init__") ["self", "rows"] [] (spRInit K) fd [] ∧ Do P w K mg base 4 (He.ma K (cR K) "__init__") ["self", "rows"] [.ref (rows0 K)] (spRInit K) fd ds := by
  obtain ⟨fd, F⟩ := T.def_ 6
  obtain ⟨_, _, G⟩ := do_isPair (P := P) (w := w) (base := base) T
  obtain ⟨_, _, Gm⟩ := do_merged (P := P) (w := w) (base := base) T
  have ok : FnOk P w K mg base CX0 4 (He.ma K (cR K) "__init__") fd ["self", "rows"] (spRInit K) := by
    refine ok0 F scRInit (fun vs H Q E h => ?_) (fun cdv A outer s H vs Q E hr h => ?_)
    · obtain ⟨p, dx, a, ts, rs, rfl, _⟩ := h
      rfl
    · obtain ⟨p, dx, a, ts, rs, rfl, hp, hs, hrs, hpr, hsz, k⟩ := h
      refine ⟨_, pss_cons (ps_for PassesOwn.never rfl (piOr (pi_enum (by rfl) T.f (pa_cons (pv 1) pa_nil)) (pi_enumT (by rfl) T.f (pa_cons (pv 1) pa_nil)))
          (pg_tup rfl (pgs_cons (pg_name (i := 2) scRInit.nd rfl (.inl rfl)) (pgs_cons (pg_name (i := 3) scRInit.nd rfl (.inl rfl)) pgs_nil)))
          (pss_one (ps_if (pt_not (pt_val (pe_call G.ok hr (by rfl) T.g G.kp G.b G.v pass0 (pa_cons (pv 3) pa_nil)))) (pss_one ps_never) pss_nil)))
        (pss_one (ps_fld (pv 0) (pe_call Gm.ok (hr.mono (by decide)) (by rfl) T.g Gm.kp Gm.b Gm.v pass0 (pa_cons (pv 1) pa_nil)) rfl)), ?_⟩
      have turn : ∀ {i : Nat} {x : V} {H' : Hp} {t : Addr}, ts[i]? = some x → Same H H' → H' t = none → ∃ q, RowAt (upd H' t (.tup [.int (i : Int), x])) x q ∧ Pr q ∧ Same H (upd H' t (.tup [.int (i : Int), x])) := fun {i x H' t} hx sm ht => by
        obtain ⟨q, hq, t1, e1, e2⟩ := hrs.at_ hx
        have s2 := sm.trans (Same.new (o := HO.tup [.int (i : Int), x]) ht)
        exact ⟨q, ⟨t1, e1, s2 _ _ e2⟩, hpr q (List.mem_of_getElem? hq), s2⟩
      refine Or.imp (fun ⟨h, W⟩ => ⟨_, rfl, a, ts, rfl, h, W⟩) (fun ⟨h, W⟩ => ⟨_, rfl, a, ts, rfl, h, W⟩)
        (for_enumS hs (fun i σ H' => ∃ v2 v3 : Option V, σ = [some (.ref p), some (.ref a), v2, v3] ∧ Same H H') ⟨none, none, rfl, Same.refl _⟩ (fun _ _ _ ⟨_, _, _, h⟩ => h) ?_ ?_)
      · rintro i x σ H' t hx ⟨v2, v3, rfl, sm⟩ ht
        obtain ⟨q, hq, pq, s2⟩ := turn hx sm ht
        refine ⟨t, _, rfl, SqT.of upd_same, rfl, _, _, rfl, _, _, rfl, rfl, ?_⟩
        exact ⟨_, rfl, x, q, rfl, hq, pq, true, rfl, iteF ⟨_, _, rfl, s2⟩⟩
      · rintro σ H' ⟨v2, v3, rfl, sm⟩
        refine ⟨_, rfl, a, ts, rs, rfl, hs.same sm, hrs.same sm, hpr, hsz, fun H1 l ts' rs' s1 nl hl hr' hc hm => ?_⟩
        have s3 := sm.trans s1
        refine ⟨_, rfl, p, cR K, dx, [], rfl, s3 _ _ hp, T.kR, T.nSpans, (by show 0 < 1000; decide), ?_⟩
        have nlp : l ≠ p := ne_of hl (s3 _ _ hp) (by intro z; cases z)
        refine k _ ((Kp.of s3).trans (Kp.put (by simp))) ⟨rs', ⟨dx, l, ts', upd_same, by rw [upd_ne nlp]; exact hl, hr'.keep fun c xs hc2 => ?_⟩, hc, hm⟩ fun dx' l' e => ?_
        · rw [upd_ne (ne_of hc2 (s3 _ _ hp) (by intro z; cases z))]
          exact hc2
        · rw [upd_same] at e
          obtain rfl : l = l' := by
            injection e with e
            injection e with _ _ e
            injection e with e _
            injection e with _ e
            injection e with e
          exact sm.free nl
  obtain ⟨ds, hv, hb⟩ := F.binds1 (ps := ["self", "rows"]) 1 0 (by intro z; cases z) rfl fun T kV doc pm an cdv ct us its h1 h2 => match us, its, h1, h2 with
    | [_], [_], _, _ => ⟨_, rfl, rfl⟩
  obtain ⟨ds0, hv0, hb0⟩ := F.binds1 (ps := ["self", "rows"]) 2 1 (by intro z; cases z) rfl fun T kV doc pm an cdv ct us its h1 h2 => match us, its, h1, h2 with
    | [_, _], [_], _, _ => ⟨_, rfl, rfl⟩
  obtain rfl : ds0 = [] := by cases hv0; rfl
  exact ⟨fd, ds, ⟨ok, hb0, .nil, F.kp⟩, ⟨ok, hb, hv, F.kp⟩⟩
/-- Ranges(rows) -/
theorem mk_rg {H : Hp} {a : Addr} {ts : List V} {rs : Rows} {Q : VK} {E : XK} (hs : SqS K H a ts) (hrs : RowsAt H ts rs) (hpr : ∀ q ∈ rs, Pr q) (hsz : ts.length ≤ 1000000) (k : ∀ H2 x, Same H H2 → H x = none → RgS K H2 x (Mem rs) → Fr K H H2 x → Q (.ref x) H2) :
    ∀ x dx, H x = none → H dx = none → dx ≠ x → spRInit K [.ref x, .ref a] (upd (upd H dx (.own x)) x (.ins (cR K) dx [])) (fun v H2 => v = .non ∧ Q (.ref x) H2) E := fun x dx nx ndx nex => by
  have s1 : Same H (upd (upd H dx (.own x)) x (.ins (cR K) dx [])) := (Same.new ndx).trans (Same.new (by rw [upd_ne nex.symm]; exact nx))
  refine ⟨x, dx, a, ts, rs, rfl, upd_same, hs.same s1, hrs.same s1, hpr, hsz, fun H' kp hr fr => ⟨rfl, k H' x (fun c o hc => ?_) nx hr fun dx' l e => s1.free (fr dx' l e)⟩⟩
  exact kp _ _ (by simpa using ne_of_none hc nx) (s1 _ _ hc)
theorem mk_rgI {H : Hp} {a x dx : Addr} {ts : List V} {rs : Rows} {Q : VK} {E : XK} (nx : H x = none) (ndx : H dx = none) (nex : dx ≠ x) (hs : SqS K H a ts) (hrs : RowsAt H ts rs) (hpr : ∀ q ∈ rs, Pr q) (hsz : ts.length ≤ 1000000)
    (k : ∀ H2, Same H H2 → RgS K H2 x (Mem rs) → Q .non H2) : spRInit K [.ref x, .ref a] (upd (upd H dx (.own x)) x (.ins (cR K) dx [])) Q E := by
  have s1 : Same H (upd (upd H dx (.own x)) x (.ins (cR K) dx [])) := (Same.new ndx).trans (Same.new (by rw [upd_ne nex.symm]; exact nx))
  refine ⟨x, dx, a, ts, rs, rfl, upd_same, hs.same s1, hrs.same s1, hpr, hsz, fun H' kp hr _ => k H' (fun c o hc => ?_) hr⟩
  exact kp _ _ (by simpa using ne_of_none hc nx) (s1 _ _ hc)
end
end K41

/-! the methods of Ranges -/
namespace K41
open PySem PySem.Spec PyProof.Rows L2
theorem spans_at {l : Addr} : ([(("spans" : Str), V.ref l)] : List (Str × V)).lookup ("spans" : Str) = some (.ref l) := by kernel_rfl
/-- a promise kept anywhere: an except suite's, too -/
structure DoA (P : Program) (w : World) (K : PySem.W.Frag) (mg : Str → Option Value) (base : Heap) (k : Nat) (f : Addr) (ps : List Str) (sp : Sp) (fd : FuncData) : Prop where
  a : FnA P w K mg base k f fd ps sp
  b : Binds K fd ps []
  kp : PySem.W.keepIn K (.ref f) = true
theorem DoA.ok {P : Program} {w : World} {K : PySem.W.Frag} {mg : Str → Option Value} {base : Heap} {k : Nat} {f : Addr} {ps : List Str} {sp : Sp} {fd : FuncData} (d : DoA P w K mg base k f ps sp fd) : Do P w K mg base k f ps [] sp fd [] :=
  ⟨d.a.ok, d.b, .nil, d.kp⟩
/-- the numbers of a Ranges that the law tells of -/
def Bd (S : Int → Prop) : Prop := ∀ n, S n → 0 ≤ n ∧ n < 100000
section
variable {P : Program} {w : World} {K : PySem.W.Frag} {mg : Str → Option Value} {base : Heap}
/-! ### __len__, rows -/
theorem scRLen : FnScope ["self"] ["self"] (defScope sRLen) := ⟨rfl, rfl, rfl, by decide +kernel, rfl, by decide +kernel, by decide +kernel⟩
def spRLen (K : PySem.W.Frag) : Sp := fun vs H Q _ => ∃ (r : Addr) (rs : Rows), vs = [.ref r] ∧ RgAt K H r rs ∧ Q (.int rs.length) H
theorem do_rLen (T : Tx K mg) : ∃ fd, Do P w K mg base 1 (He.ma K (cR K) "__len__") ["self"] [] (spRLen K) fd [] := by
  obtain ⟨fd, F⟩ := T.def_ 7
  refine ⟨fd, ok0 F scRLen (fun vs H Q E h => ?_) (fun cdv A outer s H vs Q E hr h => ?_), F.bindsN fun _ _ _ _ _ _ us hl => match us, hl with | [_], _ => rfl, .nil, F.kp⟩
  · obtain ⟨r, rs, rfl, _⟩ := h
    rfl
  · obtain ⟨r, rs, rfl, ⟨dx, l, ts, h1, h2, h3⟩, k⟩ := h
    refine ⟨_, pss_one (ps_ret (pe_callB call_len_seq (by rfl) T.f PySem.boot_len (pa_cons (pe_fld (pv 0) rfl) pa_nil))), ?_⟩
    refine ⟨_, rfl, r, cR K, dx, _, _, rfl, h1, T.kR, T.nSpans, spans_at, l, _, rfl, .inl (SqL.of h2), ?_⟩
    rw [h3.len]
    exact k
theorem scRRows : FnScope ["self"] ["self"] (defScope sRRows) := ⟨rfl, rfl, rfl, by decide +kernel, rfl, by decide +kernel, by decide +kernel⟩
def spRRows (K : PySem.W.Frag) : Sp := fun vs H Q _ => ∃ (r : Addr) (rs : Rows), vs = [.ref r] ∧ RgAt K H r rs ∧ ∀ H' l ts, Same H H' → H l = none → H' l = some (.lst ts) → RowsAt H' ts rs → Q (.ref l) H'
theorem do_rRows (T : Tx K mg) : ∃ fd, DoA P w K mg base 1 (He.ma K (cR K) "rows") ["self"] (spRRows K) fd := by
  obtain ⟨fd, F⟩ := T.def_ 8
  refine ⟨fd, okA F scRRows (fun vs H Q E h => ?_) (fun cdv A outer s H vs Q E hr h => ?_), F.bindsN fun _ _ _ _ _ _ us hl => match us, hl with | [_], _ => rfl, F.kp⟩
  · obtain ⟨r, rs, rfl, _⟩ := h
    rfl
  · obtain ⟨r, rs, rfl, ⟨dx, l, ts, h1, h2, h3⟩, k⟩ := h
    refine ⟨_, pss_one (ps_ret (pe_callTy call_list_of (by rfl) T.f (by decide +kernel) (pa_cons (pe_fld (pv 0) rfl) pa_nil))), ?_⟩
    refine ⟨_, rfl, r, cR K, dx, _, _, rfl, h1, T.kR, T.nSpans, spans_at, l, _, rfl, .inl (SqL.of h2), fun l2 hl2 => ?_⟩
    exact k _ l2 ts (Same.new hl2) hl2 upd_same (h3.same (Same.new hl2))
/-! ### many -/
theorem scRMany : FnScope ["self", "first", "last"] ["self"] (defScope sRMany) := ⟨rfl, rfl, rfl, by decide +kernel, rfl, by decide +kernel, by decide +kernel⟩
def spRMany (K : PySem.W.Frag) : Sp := fun vs H Q _ => ∃ (r : Addr) (rs : Rows), vs = [.ref r] ∧ RgAt K H r rs ∧ rs.length ≤ 1000000 ∧ ∀ H', Same H H' → Q (.int (cnt rs)) H'
theorem do_rMany (T : Tx K mg) : ∃ fd, Do P w K mg base 1 (He.ma K (cR K) "many") ["self"] [] (spRMany K) fd [] := by
  obtain ⟨fd, F⟩ := T.def_ 9
  refine ⟨fd, ok0 F scRMany (fun vs H Q E h => ?_) (fun cdv A outer s H vs Q E hr h => ?_), F.bindsN fun _ _ _ _ _ _ us hl => match us, hl with | [_], _ => rfl, .nil, F.kp⟩
  · obtain ⟨r, rs, rfl, _⟩ := h
    rfl
  · obtain ⟨r, rs, rfl, ⟨dx, l, ts, h1, h2, h3⟩, hsz, k⟩ := h
    refine ⟨_, pss_one (ps_ret (pe_callBK (cr_sum0 rfl) (by rfl) T.f (by decide +kernel) (pa_cons (pe_lc (own := [("first", 1), ("last", 2)]) (g := gTup K 2 (gCons (gName 1) (gCons (gName 2) gNil))) (tt := tYes) rfl scRMany.nd (pi_list (pe_fld (pv 0) rfl))
      (blkOk_by (own := [("first", 1), ("last", 2)]) (N := ["self", "first", "last"]) (sc := defScope sRMany) (by decide +kernel))
      (fun _ _ _ _ _ => pg_tup rfl (pgs_cons (pg_name (i := 1) scRMany.nd rfl (.inl rfl)) (pgs_cons (pg_name (i := 2) scRMany.nd rfl (.inl rfl)) pgs_nil)))
      (fun _ _ _ _ _ => pts_nil) (fun _ _ _ _ _ => pe_op op_add (pe_op op_sub (pv 2) (pv 1)) pe_int)) pa_nil) (pk_cons pe_int pk_nil))), ?_⟩
    refine ⟨_, rfl, r, cR K, dx, _, _, rfl, h1, T.kR, T.nSpans, spans_at, l, rfl, ⟨_, SqL.of h2⟩, fun D hD => ?_⟩
    refine lc_list (K := K) (a := l) (xs := ts) (fun i H' => Kp [D] (upd H D (.lst [])) H' ∧ H' D = some (.lst ((rs.take i).map fun p => V.int (p.2 - p.1 + 1)))) ⟨Kp.refl, upd_same⟩ ?_ ?_ ?_
    · rintro i H' _ ⟨kp, _⟩
      have nl : l ≠ D := ne_of_none h2 hD
      exact SqL.of (kp _ _ (by simpa using nl) (by rw [upd_ne nl]; exact h2))
    · rintro i x H' hx ⟨kp, hd⟩
      obtain ⟨q, hq, t, rfl, ht⟩ := h3.at_ hx
      have nt : t ≠ D := ne_of_none ht hD
      have ht' : H' t = _ := kp _ _ (by simpa using nt) (by rw [upd_ne nt]; exact ht)
      refine ⟨t, _, rfl, SqT.of ht', rfl, _, _, rfl, _, _, rfl, rfl, rfl, ?_⟩
      refine ⟨_, rfl, _, rfl, _, _, rfl, rfl, _, _, rfl, rfl, _, hd, ?_, kp.trans (Kp.put (by simp)), ?_⟩
      · rw [List.length_map, List.length_take]
        exact line_lt (by omega)
      · rw [upd_same, take_at hq, List.map_append]
        rfl
    · rintro H' ⟨kp, hd⟩
      rw [h3.len, List.take_length] at hd
      refine ⟨D, rs.map (fun p => p.2 - p.1 + 1), rfl, rfl, SqL.of ?_, ?_⟩
      · rw [hd, List.map_map]
        rfl
      · refine k _ fun c o hc => kp _ _ ?_ (by rw [upd_ne (ne_of_none hc hD)]; exact hc)
        simpa using ne_of_none hc hD
end
end K41

/-! Ranges: added, without, lacking -/
namespace K41
open PySem PySem.Spec PyProof.Rows L2
theorem rows_bd {rs : Rows} {S : Int → Prop} (c : Can rs) (h : ∀ n, Mem rs n ↔ S n) (b : Bd S) : ∀ q ∈ rs, 0 ≤ q.1 ∧ q.1 ≤ q.2 ∧ q.2 < 100000 := fun q hq => by
  have h1 := b _ ((h _).mp (mem_ends c hq).1)
  have h2 := b _ ((h _).mp (mem_ends c hq).2)
  exact ⟨h1.1, c.le q hq, h2.2⟩
theorem rows_len {rs : Rows} {S : Int → Prop} (c : Can rs) (h : ∀ n, Mem rs n ↔ S n) (b : Bd S) : rs.length ≤ 100000 := rows_short (m := 100000) c fun n hn => b n ((h n).mp hn)
theorem rows_pr {rs : Rows} {S : Int → Prop} (c : Can rs) (h : ∀ n, Mem rs n ↔ S n) (b : Bd S) : ∀ q ∈ rs, Pr q := fun q hq => by
  have := rows_bd c h b q hq
  exact ⟨this.1, this.2.1, by omega⟩
section
variable {P : Program} {w : World} {K : PySem.W.Frag} {mg : Str → Option Value} {base : Heap}
/-! ### added -/
theorem scRAdded : FnScope ["self", "first", "last"] ["self", "first", "last"] (defScope sRAdded) := ⟨rfl, rfl, rfl, by decide +kernel, rfl, by decide +kernel, by decide +kernel⟩
def spRAdded (K : PySem.W.Frag) : Sp := fun vs H Q _ => ∃ (r : Addr) (S : Int → Prop) (a b : Int), vs = [.ref r, .int a, .int b] ∧ RgS K H r S ∧ Bd S ∧ 0 ≤ a ∧ a ≤ b ∧ b < 100000 ∧
  ∀ H' x, Same H H' → RgS K H' x (fun n => S n ∨ (a ≤ n ∧ n ≤ b)) → Q (.ref x) H'
theorem do_rAdded (T : Tx K mg) : ∃ fd, Do P w K mg base 6 (He.ma K (cR K) "added") ["self", "first", "last"] [] (spRAdded K) fd [] := by
  obtain ⟨fd, F⟩ := T.def_ 10
  obtain ⟨_, _, Gp⟩ := do_pairOf (P := P) (w := w) (base := base) T
  obtain ⟨_, _, Gi, _⟩ := do_rInit (P := P) (w := w) (base := base) T
  obtain ⟨ds0, hv0, hb0⟩ := F.binds1 (ps := ["self", "first", "last"]) 3 1 (by intro z; cases z) rfl fun T kV doc pm an cdv ct us its h1 h2 => match us, its, h1, h2 with
    | [_, _, _], [_], _, _ => ⟨_, rfl, rfl⟩
  obtain rfl : ds0 = [] := by cases hv0; rfl
  refine ⟨fd, ok0 F scRAdded (fun vs H Q E h => ?_) (fun cdv A outer s H vs Q E hr h => ?_), hb0, .nil, F.kp⟩
  · obtain ⟨r, S, a, b, rfl, _⟩ := h
    rfl
  · obtain ⟨r, S, a, b, rfl, ⟨rs, ⟨dx, l, ts, h1, h2, h3⟩, hc, hm⟩, hb, ha0, hab, hbn, k⟩ := h
    refine ⟨_, pss_one (ps_ret (pe_make T.mkR Gi.ok hr (by rfl) T.g Gi.b Gi.v pass0 (pa_cons (pe_op op_cat (pe_fld (pv 0) rfl)
      (pe_lst (pa_cons (pe_call Gp.ok (hr.mono (by decide)) (by rfl) T.g Gp.kp Gp.b Gp.v pass0 (pa_cons (pv 1) (pa_cons (pv 2) pa_nil))) pa_nil))) pa_nil))), ?_⟩
    refine ⟨_, rfl, r, cR K, dx, _, _, rfl, h1, T.kR, T.nSpans, spans_at, _, rfl, _, rfl, (a, b), rfl, ⟨ha0, hab, by show b ≤ _; omega⟩, fun H1 t s1 ht => ?_⟩
    refine ⟨(by show 1 ≤ sizeLine; decide), fun l2 hl2 => ?_⟩
    have s2 := s1.trans (Same.new (o := HO.lst [.ref t]) hl2)
    have hlen : ts.length ≤ 100000 := by
      rw [h3.len]
      exact rows_len hc hm hb
    refine ⟨l, l2, _, _, rfl, rfl, s2 _ _ h2, upd_same, line_big (by show ts.length + 1 ≤ 1000000; omega), fun p hp => ?_⟩
    have s3 := Same.new (o := HO.lst (ts ++ [.ref t])) hp
    refine mk_rg (rs := rs ++ [(a, b)]) (.inl (SqL.of upd_same)) (RowsAt.app (h3.same (s2.trans s3)) (RowsAt.one (s3 _ _ (Same.new hl2 _ _ ht)))) (fun q hq => ?_) (by rw [List.length_append]; show ts.length + 1 ≤ 1000000; omega) fun H2 x s4 hx hrg _ => ?_
    · rcases List.mem_append.mp hq with hq | hq
      · exact rows_pr hc hm hb q hq
      · rw [List.mem_singleton.mp hq]
        exact ⟨ha0, hab, by show b ≤ _; omega⟩
    · refine k H2 x ((s2.trans s3).trans s4) (hrg.congr fun n => ?_)
      rw [mem_append, mem_one, hm]
/-! ### without -/
theorem scRWithout : FnScope ["self", "first", "last", "rows", "low", "high"] ["self", "first", "last"] (defScope sRWithout) := ⟨rfl, rfl, rfl, by decide +kernel, rfl, by decide +kernel, by decide +kernel⟩
def spRWithout (K : PySem.W.Frag) : Sp := fun vs H Q _ => ∃ (r : Addr) (S : Int → Prop) (a b : Int), vs = [.ref r, .int a, .int b] ∧ RgS K H r S ∧ Bd S ∧ 0 ≤ a ∧ a ≤ b ∧ b < 100000 ∧
  ∀ H' x, Same H H' → RgS K H' x (fun n => S n ∧ ¬ (a ≤ n ∧ n ≤ b)) → Fr K H H' x → Q (.ref x) H'
def cutLo (a : Int) (rs : Rows) : Rows := (rs.filter fun p => decide (p.1 < a)).map fun p => (p.1, min p.2 (a - 1))
def cutHi (b : Int) (rs : Rows) : Rows := (rs.filter fun p => decide (b < p.2)).map fun p => (max p.1 (b + 1), p.2)
theorem cutLo_snoc {a : Int} {rs : Rows} {p : Int × Int} : cutLo a (rs ++ [p]) = if p.1 < a then cutLo a rs ++ [(p.1, min p.2 (a - 1))] else cutLo a rs := by
  unfold cutLo
  rw [List.filter_append, List.map_append]
  by_cases h : p.1 < a
  · rw [if_pos h, List.filter_cons_of_pos (by simpa using h)]
    rfl
  · rw [if_neg h, List.filter_cons_of_neg (by simpa using h)]
    exact List.append_nil _
theorem cutHi_snoc {b : Int} {rs : Rows} {p : Int × Int} : cutHi b (rs ++ [p]) = if b < p.2 then cutHi b rs ++ [(max p.1 (b + 1), p.2)] else cutHi b rs := by
  unfold cutHi
  rw [List.filter_append, List.map_append]
  by_cases h : b < p.2
  · rw [if_pos h, List.filter_cons_of_pos (by simpa using h)]
    rfl
  · rw [if_neg h, List.filter_cons_of_neg (by simpa using h)]
    exact List.append_nil _
theorem do_rWithout (T : Tx K mg) : ∃ fd, Do P w K mg base 6 (He.ma K (cR K) "without") ["self", "first", "last"] [] (spRWithout K) fd [] := by
  obtain ⟨fd, F⟩ := T.def_ 11
  obtain ⟨_, _, Gp⟩ := do_pairOf (P := P) (w := w) (base := base) T
  obtain ⟨_, _, Gi, _⟩ := do_rInit (P := P) (w := w) (base := base) T
  obtain ⟨ds0, hv0, hb0⟩ := F.binds1 (ps := ["self", "first", "last"]) 3 1 (by intro z; cases z) rfl fun T kV doc pm an cdv ct us its h1 h2 => match us, its, h1, h2 with
    | [_, _, _], [_], _, _ => ⟨_, rfl, rfl⟩
  obtain rfl : ds0 = [] := by cases hv0; rfl
  refine ⟨fd, ok0 F scRWithout (fun vs H Q E h => ?_) (fun cdv A outer s H vs Q E hr h => ?_), hb0, .nil, F.kp⟩
  · obtain ⟨r, S, a, b, rfl, _⟩ := h
    rfl
  · obtain ⟨r, S, a, b, rfl, ⟨rs, ⟨dx, l, ts, h1, h2, h3⟩, hc, hm⟩, hb, ha0, hab, hbn, k⟩ := h
    refine ⟨_, pss_cons (ps_asg (pe_call Gp.ok (hr.mono (by decide)) (by rfl) T.g Gp.kp Gp.b Gp.v pass0 (pa_cons (pv 1) (pa_cons (pv 2) pa_nil)))
        (pg_tup rfl (pgs_cons (pg_name (i := 1) scRWithout.nd rfl (.inr rfl)) (pgs_cons (pg_name (i := 2) scRWithout.nd rfl (.inr rfl)) pgs_nil))))
      (pss_cons (ps_setLc (i := 3) (own := [("low", 4), ("high", 5)]) (g := gTup K 2 (gCons (gName 4) (gCons (gName 5) gNil))) rfl scRWithout.nd rfl rfl (sw_true rfl rfl rfl (by decide +kernel)) (pi_list (pe_fld (pv 0) rfl))
          (blkOk_by (own := [("low", 4), ("high", 5)]) (N := ["self", "first", "last", "rows", "low", "high"]) (sc := defScope sRWithout) (by decide +kernel))
          (fun _ _ _ _ _ => pg_tup rfl (pgs_cons (pg_name (i := 4) scRWithout.nd rfl (.inl rfl)) (pgs_cons (pg_name (i := 5) scRWithout.nd rfl (.inl rfl)) pgs_nil)))
          (fun _ _ _ _ _ => pts_one (pt_cmpR op_lt (pv 4) (pv 1) (nomark _)))
          (fun _ _ _ _ _ => pe_tup (pa_cons (pv 4) (pa_cons (pe_callB (call_min2 rfl) (by rfl) T.f (by decide +kernel) (pa_cons (pv 5) (pa_cons (pe_op op_sub (pv 1) pe_int) pa_nil))) pa_nil))))
      (pss_one (ps_ret (pe_make T.mkR Gi.ok hr (by rfl) T.g Gi.b Gi.v pass0 (pa_cons (pe_op op_cat (pv 3)
        (pe_lc (own := [("low", 4), ("high", 5)]) (g := gTup K 2 (gCons (gName 4) (gCons (gName 5) gNil))) rfl scRWithout.nd (pi_list (pe_fld (pv 0) rfl))
          (blkOk_by (own := [("low", 4), ("high", 5)]) (N := ["self", "first", "last", "rows", "low", "high"]) (sc := defScope sRWithout) (by decide +kernel))
          (fun _ _ _ _ _ => pg_tup rfl (pgs_cons (pg_name (i := 4) scRWithout.nd rfl (.inl rfl)) (pgs_cons (pg_name (i := 5) scRWithout.nd rfl (.inl rfl)) pgs_nil)))
          (fun _ _ _ _ _ => pts_one (pt_cmpR op_gt (pv 5) (pv 2) (nomark _)))
          (fun _ _ _ _ _ => pe_tup (pa_cons (pe_callB (call_max2 rfl) (by rfl) T.f (by decide +kernel) (pa_cons (pv 4) (pa_cons (pe_op op_add (pv 2) pe_int) pa_nil))) (pa_cons (pv 5) pa_nil))))) pa_nil))))), ?_⟩
    refine ⟨_, rfl, _, rfl, (a, b), rfl, ⟨ha0, hab, by show b ≤ _; omega⟩, fun H1 t s1 ht => ?_⟩
    refine ⟨t, _, rfl, SqT.of ht, rfl, _, _, rfl, _, _, rfl, rfl, ?_⟩
    have h1' := s1 _ _ h1
    have h2' := s1 _ _ h2
    have h3' := h3.same s1
    have hlen : rs.length ≤ 100000 := rows_len hc hm hb
    have hsz : ∀ {us : List V} {qs : Rows}, us.length ≤ rs.length → us.length < sizeLine := fun h => line_lt (by omega)
    refine ⟨_, rfl, r, cR K, dx, _, _, rfl, h1', T.kR, T.nSpans, spans_at, l, rfl, ⟨_, SqL.of h2'⟩, fun D hD => ?_⟩
    have sD : Same H1 (upd H1 D (.lst [])) := Same.new hD
    refine lc_list (K := K) (a := l) (xs := ts) (fun i H' => Kp [D] (upd H1 D (.lst [])) H' ∧ ∃ us, H' D = some (.lst us) ∧ RowsAt H' us (cutLo a (rs.take i)) ∧ us.length ≤ i) ⟨Kp.refl, [], upd_same, .nil, Nat.le_refl _⟩ ?_ ?_ ?_
    · rintro i H' _ ⟨kp, _⟩
      exact SqL.of (kp _ _ (by simpa using ne_of_none h2' hD) (sD _ _ h2'))
    · rintro i x H' hx ⟨kp, us, hd, hu, hul⟩
      obtain ⟨q, hq, t2, rfl, ht2⟩ := h3'.at_ hx
      have ht' : H' t2 = _ := kp _ _ (by simpa using ne_of_none ht2 hD) (sD _ _ ht2)
      refine ⟨t2, _, rfl, SqT.of ht', rfl, _, _, rfl, _, _, rfl, rfl, rfl, ?_⟩
      have hi : i < rs.length := (List.getElem?_eq_some_iff.mp hq).1
      refine ⟨_, rfl, _, rfl, _, _, rfl, rfl, _, rfl, ?_⟩
      refine ite2 (fun c => ?_) (fun c => ?_)
      · have c := of_decide_eq_true c
        refine ⟨_, rfl, _, rfl, _, rfl, _, _, rfl, rfl, _, _, rfl, (by show 2 ≤ sizeLine; decide), fun t3 ht3 => ?_⟩
        have emin : (if a - 1 < q.2 then a - 1 else q.2) = min q.2 (a - 1) := by split <;> omega
        rw [emin]
        have s3 := Same.new (o := HO.tup [.int q.1, .int (min q.2 (a - 1))]) ht3
        have hd3 := s3 _ _ hd
        refine ⟨_, hd3, line_lt (by omega), (kp.trans (Kp.of s3)).trans (Kp.put (by simp)), _, upd_same, ?_, by rw [List.length_append]; exact Nat.succ_le_succ hul⟩
        rw [take_at hq, cutLo_snoc, if_pos c]
        refine RowsAt.keep (RowsAt.app (hu.same s3) (RowsAt.one (p := (q.1, min q.2 (a - 1))) upd_same)) fun d xs hd4 => ?_
        rw [upd_ne (ne_of hd4 hd3 (by intro z; cases z))]
        exact hd4
      · refine ⟨kp, us, hd, ?_, Nat.le_succ_of_le hul⟩
        rw [take_at hq, cutLo_snoc, if_neg fun z => c (decide_eq_true z)]
        exact hu
    · rintro H2 ⟨kp, us, hd, hu, hul⟩
      have s2 : Same H1 H2 := fun c o hc => kp _ _ (by simpa using ne_of_none hc hD) (sD _ _ hc)
      rw [h3.len, List.take_length] at hu
      rw [h3.len] at hul
      refine ⟨_, rfl, _, rfl, r, cR K, dx, _, _, rfl, s2 _ _ h1', T.kR, T.nSpans, spans_at, l, rfl, ⟨_, SqL.of (s2 _ _ h2')⟩, fun D2 hD2 => ?_⟩
      have h3'' := h3'.same s2
      have sD2 : Same H2 (upd H2 D2 (.lst [])) := Same.new hD2
      refine lc_list (K := K) (a := l) (xs := ts) (fun i H' => Kp [D2] (upd H2 D2 (.lst [])) H' ∧ ∃ us, H' D2 = some (.lst us) ∧ RowsAt H' us (cutHi b (rs.take i)) ∧ us.length ≤ i) ⟨Kp.refl, [], upd_same, .nil, Nat.le_refl _⟩ ?_ ?_ ?_
      · rintro i H' _ ⟨kp, _⟩
        exact SqL.of (kp _ _ (by simpa using ne_of_none (s2 _ _ h2') hD2) (sD2 _ _ (s2 _ _ h2')))
      · rintro i x H' hx ⟨kp, us, hd, hu, hul⟩
        obtain ⟨q, hq, t2, rfl, ht2⟩ := h3''.at_ hx
        have ht' : H' t2 = _ := kp _ _ (by simpa using ne_of_none ht2 hD2) (sD2 _ _ ht2)
        refine ⟨t2, _, rfl, SqT.of ht', rfl, _, _, rfl, _, _, rfl, rfl, rfl, ?_⟩
        have hi : i < rs.length := (List.getElem?_eq_some_iff.mp hq).1
        refine ⟨_, rfl, _, rfl, _, _, rfl, rfl, _, rfl, ?_⟩
        refine ite2 (fun c => ?_) (fun c => ?_)
        · have c := of_decide_eq_true c
          refine ⟨_, rfl, _, rfl, _, _, rfl, rfl, _, _, rfl, _, rfl, (by show 2 ≤ sizeLine; decide), fun t3 ht3 => ?_⟩
          have emax : (if b + 1 > q.1 then b + 1 else q.1) = max q.1 (b + 1) := by split <;> omega
          rw [emax]
          have s3 := Same.new (o := HO.tup [.int (max q.1 (b + 1)), .int q.2]) ht3
          have hd3 := s3 _ _ hd
          refine ⟨_, hd3, line_lt (by omega), (kp.trans (Kp.of s3)).trans (Kp.put (by simp)), _, upd_same, ?_, by rw [List.length_append]; exact Nat.succ_le_succ hul⟩
          rw [take_at hq, cutHi_snoc, if_pos c]
          refine RowsAt.keep (RowsAt.app (hu.same s3) (RowsAt.one (p := (max q.1 (b + 1), q.2)) upd_same)) fun d xs hd4 => ?_
          rw [upd_ne (ne_of hd4 hd3 (by intro z; cases z))]
          exact hd4
        · refine ⟨kp, us, hd, ?_, Nat.le_succ_of_le hul⟩
          rw [take_at hq, cutHi_snoc, if_neg fun z => c (decide_eq_true z)]
          exact hu
      · rintro H3 ⟨kp2, us2, hd2, hu2, hul2⟩
        have s3 : Same H2 H3 := fun c o hc => kp2 _ _ (by simpa using ne_of_none hc hD2) (sD2 _ _ hc)
        rw [h3.len, List.take_length] at hu2
        rw [h3.len] at hul2
        refine ⟨D, D2, us, us2, rfl, rfl, s3 _ _ hd, hd2, line_big (by omega), fun p hp => ?_⟩
        have s4 := Same.new (o := HO.lst (us ++ us2)) hp
        refine mk_rg (rs := cutLo a rs ++ cutHi b rs) (.inl (SqL.of upd_same)) (RowsAt.app (hu.same (s3.trans s4)) (hu2.same s4)) (fun q hq => ?_) (by rw [List.length_append]; omega) fun H4 x s5 hx hrg fr => ?_
        · rcases List.mem_append.mp hq with hq | hq
          · obtain ⟨z, hz, rfl⟩ := List.mem_map.mp hq
            obtain ⟨hz1, hz2⟩ := List.mem_filter.mp hz
            have := rows_bd hc hm hb z hz1
            have hz2 := of_decide_eq_true hz2
            exact ⟨this.1, by show z.1 ≤ min z.2 (a - 1); omega, by show min z.2 (a - 1) ≤ _; omega⟩
          · obtain ⟨z, hz, rfl⟩ := List.mem_map.mp hq
            obtain ⟨hz1, hz2⟩ := List.mem_filter.mp hz
            have := rows_bd hc hm hb z hz1
            have hz2 := of_decide_eq_true hz2
            exact ⟨by show 0 ≤ max z.1 (b + 1); omega, by show max z.1 (b + 1) ≤ z.2; omega, by show z.2 ≤ _; omega⟩
        · refine k H4 x ((((s1.trans s2).trans s3).trans s4).trans s5) (hrg.congr fun n => ?_) fun dx' l' e => (((s1.trans s2).trans s3).trans s4).free (fr dx' l' e)
          rw [mem_append]
          unfold cutLo cutHi
          rw [mem_cutlo, mem_cuthi, hm]
          constructor
          · rintro (⟨h, h'⟩ | ⟨h, h'⟩)
            · exact ⟨h, by omega⟩
            · exact ⟨h, by omega⟩
          · rintro ⟨h, h'⟩
            by_cases c : n < a
            · exact .inl ⟨h, c⟩
            · exact .inr ⟨h, by omega⟩
end
end K41

/-! Ranges.lacking -/
namespace K41
open PySem PySem.Spec PyProof.Rows L2
section
variable {P : Program} {w : World} {K : PySem.W.Frag} {mg : Str → Option Value} {base : Heap}
theorem scRLacking : FnScope ["self", "first", "last", "rows", "at", "low", "high"] ["self", "first", "last"] (defScope sRLacking) := ⟨rfl, rfl, rfl, by decide +kernel, rfl, by decide +kernel, by decide +kernel⟩
def spRLacking (K : PySem.W.Frag) : Sp := fun vs H Q _ => ∃ (r : Addr) (S : Int → Prop) (a b : Int), vs = [.ref r, .int a, .int b] ∧ RgS K H r S ∧ Bd S ∧
  ∀ H' l ts qs, Same H H' → H l = none → H' l = some (.lst ts) → RowsAt H' ts qs → (∀ q ∈ qs, q.1 ≤ q.2) → (∀ n, Mem qs n ↔ (a ≤ n ∧ n ≤ b ∧ ¬ S n)) → Q (.ref l) H'
theorem do_rLacking (T : Tx K mg) : ∃ fd, Do P w K mg base 1 (He.ma K (cR K) "lacking") ["self", "first", "last"] [] (spRLacking K) fd [] := by
  obtain ⟨fd, F⟩ := T.def_ 12
  refine ⟨fd, ok0 F scRLacking (fun vs H Q E h => ?_) (fun cdv A outer s H vs Q E hr h => ?_), F.bindsN fun _ _ _ _ _ _ us hl => match us, hl with | [_, _, _], _ => rfl, .nil, F.kp⟩
  · obtain ⟨r, S, a, b, rfl, _⟩ := h
    rfl
  · obtain ⟨r, S, a, b, rfl, ⟨rs, ⟨dx, l, ts, h1, h2, h3⟩, hc, hm⟩, hb, k⟩ := h
    have hlen : rs.length ≤ 100000 := rows_len hc hm hb
    refine ⟨_, pss_cons (ps_set (i := 3) scRLacking.nd rfl (.inl rfl) (pe_lst pa_nil)) (pss_cons (ps_set (i := 4) scRLacking.nd rfl (.inl rfl) (pv 1))
      (pss_cons (ps_for PassesOwn.never rfl (pi_list (pe_fld (pv 0) rfl)) (pg_tup rfl (pgs_cons (pg_name (i := 5) scRLacking.nd rfl (.inl rfl)) (pgs_cons (pg_name (i := 6) scRLacking.nd rfl (.inl rfl)) pgs_nil)))
        (pss_cons (ps_if (PW.pt (pw_and (pt_cmpR op_lt (pv 4) (pv 5) (nomark _)) (pw_and1 (pt_cmpR op_le (pv 4) (pv 2) (nomark _)))))
            (pss_one (ps_expr (pe_bm PySem.F.plainAttrs_list PySem.F.slot_list_append PySem.F.type_list_append mt_append (pv 3)
              (pa_cons (pe_tup (pa_cons (pv 4) (pa_cons (pe_callB (call_min2 rfl) (by rfl) T.f (by decide +kernel) (pa_cons (pe_op op_sub (pv 5) pe_int) (pa_cons (pv 2) pa_nil))) pa_nil))) pa_nil)))) pss_nil)
        (pss_one (ps_set (i := 4) scRLacking.nd rfl (.inl rfl) (pe_callB (call_max2 rfl) (by rfl) T.f (by decide +kernel) (pa_cons (pv 4) (pa_cons (pe_op op_add (pv 6) pe_int) pa_nil)))))))
      (pss_cons (ps_if (pt_cmpR op_le (pv 4) (pv 2) (nomark _)) (pss_one (ps_expr (pe_bm PySem.F.plainAttrs_list PySem.F.slot_list_append PySem.F.type_list_append mt_append (pv 3)
              (pa_cons (pe_tup (pa_cons (pv 4) (pa_cons (pv 2) pa_nil))) pa_nil)))) pss_nil)
      (pss_one (ps_ret (pv 3)))))), ?_⟩
    refine ⟨Nat.zero_le _, fun D hD => ?_⟩
    have sD : Same H (upd H D (.lst [])) := Same.new hD
    refine ⟨_, rfl, _, rfl, r, cR K, dx, _, _, rfl, sD _ _ h1, T.kR, T.nSpans, spans_at, l, rfl, ⟨_, SqL.of (sD _ _ h2)⟩, ?_⟩
    refine for_list (K := K) (a := l) (xs := ts) (fun i σ H' => ∃ (qs : Rows) (us : List V) (at_ : Int) (v5 v6 : Option V), σ = [some (.ref r), some (.int a), some (.int b), some (.ref D), some (.int at_), v5, v6] ∧
      Kp [D] (upd H D (.lst [])) H' ∧ H' D = some (.lst us) ∧ RowsAt H' us qs ∧ Lk a b at_ qs (rs.take i) (rs.drop i) ∧ us.length ≤ i)
      ⟨[], [], a, none, none, rfl, Kp.refl, upd_same, .nil, Lk.start, Nat.le_refl _⟩ ?_ ?_ ?_
    · rintro i σ H' _ ⟨_, _, _, _, _, _, kp, _⟩
      exact SqL.of (kp _ _ (by simpa using ne_of_none h2 hD) (sD _ _ h2))
    · rintro i x σ H' hx ⟨qs, us, at_, v5, v6, rfl, kp, hd, hu, lk, hul⟩
      obtain ⟨q, hq, t, rfl, ht⟩ := h3.at_ hx
      have ht' : H' t = _ := kp _ _ (by simpa using ne_of_none ht hD) (sD _ _ ht)
      have hi : i < rs.length := (List.getElem?_eq_some_iff.mp hq).1
      refine ⟨t, _, rfl, SqT.of ht', rfl, _, _, rfl, _, _, rfl, rfl, ?_⟩
      rw [drop_at hq] at lk
      have hsplit : rs = rs.take i ++ q :: rs.drop (i + 1) := by rw [← drop_at hq, List.take_append_drop]
      have cpw := hc.up
      rw [hsplit] at cpw
      obtain ⟨_, c2, c3⟩ := List.pairwise_append.mp cpw
      obtain ⟨st1, st2⟩ := lk.step ⟨fun p hp => hc.le p (by rw [hsplit]; exact List.mem_append.mpr (.inr hp)), c2⟩ fun p hp => c3 p hp q (List.mem_cons_self ..)
      rw [← take_at hq] at st1 st2
      have emax : (if q.2 + 1 > at_ then q.2 + 1 else at_) = max at_ (q.2 + 1) := by split <;> omega
      refine ⟨_, rfl, _, rfl, _, _, rfl, rfl, _, rfl, ?_⟩
      refine ite2 (fun c1 => ?_) (fun c1 => ?_)
      · have c1 := of_decide_eq_true c1
        refine ⟨_, rfl, _, rfl, _, _, rfl, rfl, _, rfl, ?_⟩
        refine ite2 (fun c4 => ?_) (fun c4 => ?_)
        · have c4 := of_decide_eq_true c4
          refine ⟨_, rfl, .inl ⟨rfl, _, SqL.of hd⟩, _, rfl, _, rfl, _, _, rfl, rfl, _, rfl, _, _, rfl, (by show 2 ≤ sizeLine; decide), fun t3 ht3 => ?_⟩
          have emin : (if b < q.1 - 1 then b else q.1 - 1) = min (q.1 - 1) b := by split <;> omega
          rw [emin]
          have s3 := Same.new (o := HO.tup [.int at_, .int (min (q.1 - 1) b)]) ht3
          have hd3 := s3 _ _ hd
          refine ⟨D, _, _, rfl, rfl, hd3, line_lt (by omega), ?_⟩
          refine ⟨_, rfl, _, rfl, _, _, rfl, rfl, _, _, rfl, ?_⟩
          rw [emax]
          refine ⟨_, us ++ [.ref t3], _, _, _, rfl, (kp.trans (Kp.of s3)).trans (Kp.put (by simp)), upd_same, ?_, st1 ⟨c1, c4⟩, by rw [List.length_append]; exact Nat.succ_le_succ hul⟩
          refine RowsAt.keep (RowsAt.app (hu.same s3) (RowsAt.one (p := (at_, min (q.1 - 1) b)) upd_same)) fun d xs hd4 => ?_
          rw [upd_ne (ne_of hd4 hd3 (by intro z; cases z))]
          exact hd4
        · refine ⟨_, rfl, _, rfl, _, _, rfl, rfl, _, _, rfl, ?_⟩
          rw [emax]
          exact ⟨_, us, _, _, _, rfl, kp, hd, hu, st2 fun z => c4 (decide_eq_true z.2), Nat.le_succ_of_le hul⟩
      · refine ⟨_, rfl, _, rfl, _, _, rfl, rfl, _, _, rfl, ?_⟩
        rw [emax]
        exact ⟨_, us, _, _, _, rfl, kp, hd, hu, st2 fun z => c1 (decide_eq_true z.1), Nat.le_succ_of_le hul⟩
    · rintro σ H' ⟨qs, us, at_, v5, v6, rfl, kp, hd, hu, lk, hul⟩
      have s2 : Same H H' := fun c o hc => kp _ _ (by simpa using ne_of_none hc hD) (sD _ _ hc)
      rw [h3.len] at lk hul
      rw [List.take_length, List.drop_length] at lk
      refine ⟨_, rfl, _, rfl, _, _, rfl, rfl, _, rfl, ?_⟩
      refine ite2 (fun c1 => ?_) (fun c1 => ?_)
      · have c1 := of_decide_eq_true c1
        obtain ⟨z1, z2⟩ := lk.done.1 c1
        refine ⟨_, rfl, .inl ⟨rfl, _, SqL.of hd⟩, _, rfl, _, rfl, (by show 2 ≤ sizeLine; decide), fun t3 ht3 => ?_⟩
        have s3 := Same.new (o := HO.tup [.int at_, .int b]) ht3
        have hd3 := s3 _ _ hd
        refine ⟨D, _, _, rfl, rfl, hd3, line_lt (by omega), ?_⟩
        refine ⟨_, rfl, k _ D (us ++ [.ref t3]) (qs ++ [(at_, b)]) (fun c o hc => ?_) hD upd_same ?_ z2 fun n => (z1 n).trans (by rw [hm])⟩
        · rw [upd_ne (ne_of_none hc hD)]
          exact s3 _ _ (s2 _ _ hc)
        · refine RowsAt.keep (RowsAt.app (hu.same s3) (RowsAt.one (p := (at_, b)) upd_same)) fun d xs hd4 => ?_
          rw [upd_ne (ne_of hd4 hd3 (by intro z; cases z))]
          exact hd4
      · obtain ⟨z1, z2⟩ := lk.done.2 fun z => c1 (decide_eq_true z)
        exact ⟨_, rfl, k _ D us qs s2 hD hd hu z2 fun n => (z1 n).trans (by rw [hm])⟩
end
end K41

/-! the class Writer: made, written to, finished, asked -/
namespace K41
open PySem PySem.Spec PyProof.Rows L2
section
variable {lane limit edge i : Int} {text mood tail z : Str} {rs rh r : Addr}
theorem wn_write : (wf lane text limit edge rs rh mood tail).lookup ("write" : Str) = none := by kernel_rfl
theorem wn_finish : (wf lane text limit edge rs rh mood tail).lookup ("finish" : Str) = none := by kernel_rfl
theorem wn_raise_to : (wf lane text limit edge rs rh mood tail).lookup ("raise_to" : Str) = none := by kernel_rfl
theorem wn_due_piece : (wf lane text limit edge rs rh mood tail).lookup ("due_piece" : Str) = none := by kernel_rfl
theorem wn_cut : (wf lane text limit edge rs rh mood tail).lookup ("cut" : Str) = none := by kernel_rfl
theorem wn_would : (wf lane text limit edge rs rh mood tail).lookup ("would" : Str) = none := by kernel_rfl
theorem wn_check_sent : (wf lane text limit edge rs rh mood tail).lookup ("check_sent" : Str) = none := by kernel_rfl
theorem wn_got : (wf lane text limit edge rs rh mood tail).lookup ("got" : Str) = none := by kernel_rfl
theorem wn_missed : (wf lane text limit edge rs rh mood tail).lookup ("missed" : Str) = none := by kernel_rfl
theorem wn_letters : (wf lane text limit edge rs rh mood tail).lookup ("letters" : Str) = none := by kernel_rfl
theorem wn_upto : (wf lane text limit edge rs rh mood tail).lookup ("upto" : Str) = none := by kernel_rfl
theorem wn_sent : (wf lane text limit edge rs rh mood tail).lookup ("sent" : Str) = none := by kernel_rfl
theorem wn_got_places : (wf lane text limit edge rs rh mood tail).lookup ("got_places" : Str) = none := by kernel_rfl
theorem wn_missed_places : (wf lane text limit edge rs rh mood tail).lookup ("missed_places" : Str) = none := by kernel_rfl
theorem wn_state : (wf lane text limit edge rs rh mood tail).lookup ("state" : Str) = none := by kernel_rfl
theorem wn_stored : (wf lane text limit edge rs rh mood tail).lookup ("stored" : Str) = none := by kernel_rfl
theorem sn_rows : ([(("spans" : Str), V.ref r)] : List (Str × V)).lookup ("rows" : Str) = none := by kernel_rfl
theorem sn_many : ([(("spans" : Str), V.ref r)] : List (Str × V)).lookup ("many" : Str) = none := by kernel_rfl
theorem sn_added : ([(("spans" : Str), V.ref r)] : List (Str × V)).lookup ("added" : Str) = none := by kernel_rfl
theorem sn_without : ([(("spans" : Str), V.ref r)] : List (Str × V)).lookup ("without" : Str) = none := by kernel_rfl
theorem sn_lacking : ([(("spans" : Str), V.ref r)] : List (Str × V)).lookup ("lacking" : Str) = none := by kernel_rfl
theorem wf_made : putF "tail" (.str tail) (putF "mood" (.str mood) (putF "holes" (.ref rh) (putF "safe" (.ref rs) (putF "edge" (.int edge) (putF "limit" (.int limit) (putF "text" (.str text) (putF "lane" (.int lane) []))))))) = wf lane text limit edge rs rh mood tail := by kernel_rfl
end
/-- a new Writer -/
def WS.new (lane limit : Int) : WS := ⟨lane, Str.empty, limit, 0, fun _ => False, fun _ => False, false, .un⟩
/-! ### the own error -/
section
variable {P : Program} {w : World} {K : PySem.W.Frag} {mg : Str → Option Value} {base : Heap}
theorem scEnded : FnScope ["self", "lane"] ["self", "lane"] (defScope sEnded) := ⟨rfl, rfl, rfl, by decide +kernel, rfl, by decide +kernel, by decide +kernel⟩
def spEnded (K : PySem.W.Frag) : Sp := fun vs H Q _ => ∃ (a : Addr) (v : V), vs = [.ref a, v] ∧ H a = some (exo a (cE K) none) ∧ ∀ dx, H dx = none → dx ≠ a → Q .non (upd (upd H dx (exd dx [(("lane" : Str), v)])) a (exo a (cE K) (some dx)))
theorem do_ended (T : Tx K mg) : ∃ fd, Do P w K mg base 1 (He.ma K (cE K) "__init__") ["self", "lane"] [] (spEnded K) fd [] := by
  obtain ⟨fd, F⟩ := T.def_ 0
  refine ⟨fd, ok0 F scEnded (fun vs H Q E h => ?_) (fun cdv A outer s H vs Q E hr h => ?_), F.bindsN fun _ _ _ _ _ _ us hl => match us, hl with | [_, _], _ => rfl, .nil, F.kp⟩
  · obtain ⟨a, v, rfl, _⟩ := h
    rfl
  · obtain ⟨a, v, rfl, ha, k⟩ := h
    refine ⟨_, pss_one (ps_ost (pv 0) (pv 1)), ?_⟩
    exact ⟨_, rfl, _, rfl, a, cE K, rfl, T.oex, T.noE, .inl ⟨ha, fun dx h1 h2 => k dx h1 h2⟩⟩
theorem passX0 {P : Program} {w : World} {X : Cx} : Passes (L2.CX P w) X E0 := fun _ _ _ _ _ _ _ ⟨_, _, _, _, _, _, _, _, _, _, _, _, h⟩ => h.elim
/-- refused: the own error with the lane -/
def Ref (K : PySem.W.Frag) (H : Hp) (lane : Int) (E : XK) : Prop := ∀ H' d, Same H H' → H d = none → H' d = some (.xd [(("lane" : Str), .int lane)]) → E (.ref (cE K)) (some d) H'
theorem ended_up {H : Hp} {lane : Int} {E : XK} (k : Ref K H lane E) :
    ∀ a, H a = none → spEnded K (.ref a :: ([V.int lane] ++ [])) (upd H a (exo a (cE K) none))
      (fun v H2 => v = .non ∧ ∃ (d : Addr) (fs : List (Str × V)), H2 a = some (exo a (cE K) (some d)) ∧ H2 d = some (exd d fs) ∧ H d = none ∧ E (.ref (cE K)) (some d) (upd (del H2 a) d (.xd fs))) (fun _ _ _ => False) := fun a ha => by
  refine ⟨a, _, rfl, upd_same, fun dx h1 h2 => ⟨rfl, dx, _, upd_same, by rw [upd_ne h2]; exact upd_same, ?_, ?_⟩⟩
  · rw [upd_ne h2] at h1
    exact h1
  · have hd : H dx = none := by
      rw [upd_ne h2] at h1
      exact h1
    refine k _ dx (fun b o hb => ?_) hd upd_same
    have n1 := ne_of_none hb hd
    have n2 := ne_of_none hb ha
    rw [upd_ne n1, del_ne n2, upd_ne n2, upd_ne n1, upd_ne n2]
    exact hb
/-! ### Writer.__init__ -/
theorem scWInit : FnScope ["self", "lane", "upto"] ["self", "lane", "upto"] (defScope sWInit) := ⟨rfl, rfl, rfl, by decide +kernel, rfl, by decide +kernel, by decide +kernel⟩
def spWInit (K : PySem.W.Frag) : Sp := fun vs H Q _ => ∃ (p dx : Addr) (lane limit : Int), vs = [.ref p, .int lane, .int limit] ∧ H p = some (.ins (cW K) dx []) ∧ ∀ H', Kp [p] H H' → WAt K H' p (WS.new lane limit) → Q .non H'
theorem do_wInit (T : Tx K mg) : ∃ fd, Do P w K mg base 6 (He.ma K (cW K) "__init__") ["self", "lane", "upto"] [] (spWInit K) fd [] := by
  obtain ⟨fd, F⟩ := T.def_ 13
  obtain ⟨_, _, _, G⟩ := do_rInit (P := P) (w := w) (base := base) T
  refine ⟨fd, ok0 F scWInit (fun vs H Q E h => ?_) (fun cdv A outer s H vs Q E hr h => ?_), F.bindsN fun _ _ _ _ _ _ us hl => match us, hl with | [_, _, _], _ => rfl, .nil, F.kp⟩
  · obtain ⟨p, dx, lane, limit, rfl, _⟩ := h
    rfl
  · obtain ⟨p, dx, lane, limit, rfl, hp, k⟩ := h
    refine ⟨_, pss_cons (ps_fld (pv 0) (pv 1) rfl) (pss_cons (ps_fld (pv 0) pe_str rfl) (pss_cons (ps_fld (pv 0) (pv 2) rfl) (pss_cons (ps_fld (pv 0) pe_int rfl)
      (pss_cons (ps_fld (pv 0) (pe_make0 T.mkR G.ok hr (by rfl) T.g G.b G.v pass0) rfl) (pss_cons (ps_fld (pv 0) (pe_make0 T.mkR G.ok hr (by rfl) T.g G.b G.v pass0) rfl)
      (pss_cons (ps_fld (pv 0) pe_str rfl) (pss_one (ps_fld (pv 0) pe_str rfl)))))))), ?_⟩
    refine ⟨_, rfl, _, rfl, p, cW K, dx, _, rfl, hp, T.kW, T.nLane, (by show 0 < 1000; decide), ?_⟩
    refine ⟨_, rfl, p, cW K, dx, _, rfl, upd_same, T.kW, T.nText, (by show 1 < 1000; decide), ?_⟩
    refine ⟨_, rfl, _, rfl, p, cW K, dx, _, rfl, upd_same, T.kW, T.nLimit, (by show 2 < 1000; decide), ?_⟩
    refine ⟨_, rfl, p, cW K, dx, _, rfl, upd_same, T.kW, T.nEdge, (by show 3 < 1000; decide), ?_⟩
    simp only [upd_upd]
    have kp1 : ∀ {o : HO}, Kp [p] H (upd H p o) := Kp.put (by simp)
    intro x1 d1 nx1 nd1 ne1
    refine mk_rgI nx1 nd1 ne1 (rs := []) (.inr (T.empty _)) .nil (fun q m => by simp at m) (Nat.zero_le _) fun H1 s1 g1 => ⟨rfl, ?_⟩
    have hp1 := s1 _ _ upd_same
    refine ⟨_, rfl, p, cW K, dx, _, rfl, hp1, T.kW, T.nSafe, (by show 4 < 1000; decide), ?_⟩
    intro x2 d2 nx2 nd2 ne2
    refine mk_rgI nx2 nd2 ne2 (rs := []) (.inr (T.empty _)) .nil (fun q m => by simp at m) (Nat.zero_le _) fun H2 s2 g2 => ⟨rfl, ?_⟩
    have hp2 := s2 _ _ upd_same
    refine ⟨_, rfl, p, cW K, dx, _, rfl, hp2, T.kW, T.nHoles, (by show 5 < 1000; decide), ?_⟩
    refine ⟨_, rfl, p, cW K, dx, _, rfl, upd_same, T.kW, T.nMood, (by show 6 < 1000; decide), ?_⟩
    refine ⟨_, rfl, p, cW K, dx, _, rfl, upd_same, T.kW, T.nTail, (by show 7 < 1000; decide), ?_⟩
    simp only [upd_upd]
    have hot : ∀ {H : Hp} {fs : List (Str × V)}, H p = some (.ins (cW K) dx fs) → Hot K H [p] := fun h a ha => by
      rw [List.mem_singleton.mp ha]
      exact .inl ⟨_, _, h⟩
    rw [wf_made]
    refine k _ ((((kp1.trans (Kp.of s1)).trans (Kp.put (by simp))).trans (Kp.of s2)).trans (Kp.put (by simp))) ⟨dx, x1, x2, upd_same, ?_, ?_⟩
    · exact ((((g1.keep T (Kp.put (by simp)) (hot hp1)).same s2).keep T (Kp.put (by simp)) (hot hp2))).congr fun n => iff_of_false mem_nil id
    · exact (g2.keep T (Kp.put (by simp)) (hot hp2)).congr fun n => iff_of_false mem_nil id
end
end K41

/-! Writer: write, finish, raise_to, the getters, state, stored -/
namespace K41
open PySem PySem.Spec PyProof.Rows L2
theorem mood_open (b : Bool) : decide (V.str (moodS b) = V.str ("open" : Str)) = !b := by cases b <;> decide +kernel
theorem mood_fin (b : Bool) : decide (V.str (moodS b) = V.str ("finished" : Str)) = b := by cases b <;> decide +kernel
theorem mood_broken (b : Bool) : decide (V.str (moodS b) = V.str ("broken" : Str)) = false := by cases b <;> decide +kernel
theorem tl_got (t : Tl) : decide (V.str t.s = V.str ("got" : Str)) = decide (t = .got) := by cases t <;> decide +kernel
theorem tl_un (t : Tl) : decide (V.str t.s = V.str ("unsent" : Str)) = decide (t = .un) := by cases t <;> decide +kernel
theorem Gd.bdS {s : WS} (g : Gd s) : Bd s.safe := fun n h => by
  have := g.sf n h
  have := g.el
  have := g.len
  omega
theorem Gd.bdH {s : WS} (g : Gd s) : Bd s.holes := fun n h => by
  have := g.hf n h
  have := g.el
  have := g.len
  omega
section
variable {P : Program} {w : World} {K : PySem.W.Frag} {mg : Str → Option Value} {base : Heap}
/-- as Do, of a def that may refuse -/
structure DoX (P : Program) (w : World) (K : PySem.W.Frag) (mg : Str → Option Value) (base : Heap) (k : Nat) (f : Addr) (ps : List Str) (sp : Sp) (fd : FuncData) : Prop where
  ok : FnOk P w K mg base (L2.CX P w) k f fd ps sp
  b : Binds K fd ps []
  kp : PySem.W.keepIn K (.ref f) = true
/-! ### write, finish -/
theorem scWWrite : FnScope ["self", "letters"] ["self", "letters"] (defScope sWWrite) := ⟨rfl, rfl, rfl, by decide +kernel, rfl, by decide +kernel, by decide +kernel⟩
def spWWrite (K : PySem.W.Frag) : Sp := fun vs H Q E => ∃ (p : Addr) (z : Str) (s : WS), vs = [.ref p, .str z] ∧ WAt K H p s ∧ s.text.length + z.length ≤ 1000000 ∧
  (s.fin = false → ∀ H', Kp [p] H H' → WAt K H' p (writeF s z) → Q .non H') ∧ (s.fin = true → Ref K H s.lane E)
theorem do_wWrite (T : Tx K mg) : ∃ fd, DoX P w K mg base 3 (He.ma K (cW K) "write") ["self", "letters"] (spWWrite K) fd := by
  obtain ⟨fd, F⟩ := T.def_ 14
  obtain ⟨_, G⟩ := do_ended (P := P) (w := w) (base := base) T
  refine ⟨fd, F.ok scWWrite (fun vs H Q E h => ?_) (fun cdv A outer s0 H vs Q E hr h => ?_), F.bindsN fun _ _ _ _ _ _ us hl => match us, hl with | [_, _], _ => rfl, F.kp⟩
  · obtain ⟨p, z, s, rfl, _⟩ := h
    rfl
  · obtain ⟨p, z, s, rfl, ⟨dx, rs, rh, x⟩, hz, k1, k2⟩ := h
    refine ⟨_, pss_cons (ps_if (pt_cmpR op_ne (pe_fld (pv 0) rfl) pe_str (nomark _)) (pss_one (ps_raise rfl (takes_of rfl rfl rfl rfl)
        (pmk_oex T.oex T.initE.1 T.initE.2 G.ok hr G.b G.v pass0 rfl T.g (pa_cons (pe_fld (pv 0) rfl) pa_nil)))) pss_nil)
      (pss_one (ps_fld (pv 0) (pe_op op_add_str (pe_fld (pv 0) rfl) (pv 1)) rfl)), ?_⟩
    refine ⟨_, rfl, p, cW K, dx, _, _, rfl, x.at_, T.kW, T.nMood, wf_mood, rfl, _, rfl, ?_⟩
    refine iteE (congrArg (! ·) (mood_open s.fin)) (iteB (fun c => ?_) (fun c => ?_))
    · have c : s.fin = true := by
        cases e : s.fin with
        | true => rfl
        | false => rw [e] at c; cases c
      refine ⟨_, rfl, p, cW K, dx, _, _, rfl, x.at_, T.kW, T.nLane, wf_lane, (by show 1 ≤ 1000; decide), ended_up (k2 c)⟩
    · have c : s.fin = false := by
        cases e : s.fin with
        | false => rfl
        | true => rw [e] at c; cases c
      refine ⟨_, rfl, p, cW K, dx, _, _, rfl, x.at_, T.kW, T.nText, wf_text, _, rfl, _, _, rfl, rfl, line_big hz, _, rfl, p, cW K, dx, _, rfl, x.at_, T.kW, T.nText, wf_len, ?_⟩
      rw [put_text]
      exact k1 c _ (Kp.put (by simp)) ⟨dx, rs, rh, x.put T (s' := writeF s z) x.safe x.holes⟩
theorem scWFinish : FnScope ["self"] ["self"] (defScope sWFinish) := ⟨rfl, rfl, rfl, by decide +kernel, rfl, by decide +kernel, by decide +kernel⟩
def spWFinish (K : PySem.W.Frag) : Sp := fun vs H Q E => ∃ (p : Addr) (s : WS), vs = [.ref p] ∧ WAt K H p s ∧
  (s.fin = false → ∀ H', Kp [p] H H' → WAt K H' p (finF s) → Q .non H') ∧ (s.fin = true → Ref K H s.lane E)
theorem do_wFinish (T : Tx K mg) : ∃ fd, DoX P w K mg base 3 (He.ma K (cW K) "finish") ["self"] (spWFinish K) fd := by
  obtain ⟨fd, F⟩ := T.def_ 15
  obtain ⟨_, G⟩ := do_ended (P := P) (w := w) (base := base) T
  refine ⟨fd, F.ok scWFinish (fun vs H Q E h => ?_) (fun cdv A outer s0 H vs Q E hr h => ?_), F.bindsN fun _ _ _ _ _ _ us hl => match us, hl with | [_], _ => rfl, F.kp⟩
  · obtain ⟨p, s, rfl, _⟩ := h
    rfl
  · obtain ⟨p, s, rfl, ⟨dx, rs, rh, x⟩, k1, k2⟩ := h
    refine ⟨_, pss_cons (ps_if (pt_cmpR op_ne (pe_fld (pv 0) rfl) pe_str (nomark _)) (pss_one (ps_raise rfl (takes_of rfl rfl rfl rfl)
        (pmk_oex T.oex T.initE.1 T.initE.2 G.ok hr G.b G.v pass0 rfl T.g (pa_cons (pe_fld (pv 0) rfl) pa_nil)))) pss_nil)
      (pss_one (ps_fld (pv 0) pe_str rfl)), ?_⟩
    refine ⟨_, rfl, p, cW K, dx, _, _, rfl, x.at_, T.kW, T.nMood, wf_mood, rfl, _, rfl, ?_⟩
    refine iteE (congrArg (! ·) (mood_open s.fin)) (iteB (fun c => ?_) (fun c => ?_))
    · have c : s.fin = true := by
        cases e : s.fin with
        | true => rfl
        | false => rw [e] at c; cases c
      refine ⟨_, rfl, p, cW K, dx, _, _, rfl, x.at_, T.kW, T.nLane, wf_lane, (by show 1 ≤ 1000; decide), ended_up (k2 c)⟩
    · have c : s.fin = false := by
        cases e : s.fin with
        | false => rfl
        | true => rw [e] at c; cases c
      refine ⟨_, rfl, p, cW K, dx, _, rfl, x.at_, T.kW, T.nMood, wf_len, ?_⟩
      rw [put_mood]
      exact k1 c _ (Kp.put (by simp)) ⟨dx, rs, rh, x.put T (s' := finF s) x.safe x.holes⟩
/-! ### raise_to -/
theorem scWRaise : FnScope ["self", "upto"] ["self", "upto"] (defScope sWRaise) := ⟨rfl, rfl, rfl, by decide +kernel, rfl, by decide +kernel, by decide +kernel⟩
def spWRaise (K : PySem.W.Frag) : Sp := fun vs H Q _ => ∃ (p : Addr) (u : Int) (s : WS), vs = [.ref p, .int u] ∧ WAt K H p s ∧ ∀ H', Kp [p] H H' → WAt K H' p (raiseF s u) → Q .non H'
theorem do_wRaise (T : Tx K mg) : ∃ fd, Do P w K mg base 1 (He.ma K (cW K) "raise_to") ["self", "upto"] [] (spWRaise K) fd [] := by
  obtain ⟨fd, F⟩ := T.def_ 16
  refine ⟨fd, ok0 F scWRaise (fun vs H Q E h => ?_) (fun cdv A outer s0 H vs Q E hr h => ?_), F.bindsN fun _ _ _ _ _ _ us hl => match us, hl with | [_, _], _ => rfl, .nil, F.kp⟩
  · obtain ⟨p, u, s, rfl, _⟩ := h
    rfl
  · obtain ⟨p, u, s, rfl, ⟨dx, rs, rh, x⟩, k⟩ := h
    refine ⟨_, pss_one (ps_fld (pv 0) (pe_callB (call_max2 rfl) (by rfl) T.f (by decide +kernel) (pa_cons (pe_fld (pv 0) rfl) (pa_cons (pv 1) pa_nil))) rfl), ?_⟩
    refine ⟨_, rfl, p, cW K, dx, _, _, rfl, x.at_, T.kW, T.nLimit, wf_limit, _, rfl, _, _, rfl, _, rfl, p, cW K, dx, _, rfl, x.at_, T.kW, T.nLimit, wf_len, ?_⟩
    have e : (if u > s.limit then u else s.limit) = max s.limit u := by split <;> omega
    rw [e, put_limit]
    exact k _ (Kp.put (by simp)) ⟨dx, rs, rh, x.put T (s' := raiseF s u) x.safe x.holes⟩
/-! ### the getters -/
theorem scWLetters : FnScope ["self"] ["self"] (defScope sWLetters) := ⟨rfl, rfl, rfl, by decide +kernel, rfl, by decide +kernel, by decide +kernel⟩
def spGet (K : PySem.W.Frag) (g : WS → Addr → Addr → V) : Sp := fun vs H Q _ => ∃ (p dx rs rh : Addr) (s : WS), vs = [.ref p] ∧ WIn K H p dx rs rh s ∧ Q (g s rs rh) H
theorem len_get {g : WS → Addr → Addr → V} {vs : List V} {H : Hp} {Q : VK} {E : XK} (h : spGet K g vs H Q E) : vs.length = 1 := by
  obtain ⟨p, dx, rs, rh, s, rfl, _⟩ := h
  rfl
theorem do_wLetters (T : Tx K mg) : ∃ fd, Do P w K mg base 1 (He.ma K (cW K) "letters") ["self"] [] (spGet K fun s _ _ => .str s.text) fd [] := by
  obtain ⟨fd, F⟩ := T.def_ 23
  refine ⟨fd, ok0 F scWLetters (fun vs H Q E h => len_get h) (fun cdv A outer s0 H vs Q E hr h => ?_), F.bindsN fun _ _ _ _ _ _ us hl => match us, hl with | [_], _ => rfl, .nil, F.kp⟩
  obtain ⟨p, dx, rs, rh, s, rfl, x, k⟩ := h
  exact ⟨_, pss_one (ps_ret (pe_fld (pv 0) rfl)), _, rfl, p, cW K, dx, _, _, rfl, x.at_, T.kW, T.nText, wf_text, k⟩
theorem scWUpto : FnScope ["self"] ["self"] (defScope sWUpto) := ⟨rfl, rfl, rfl, by decide +kernel, rfl, by decide +kernel, by decide +kernel⟩
theorem do_wUpto (T : Tx K mg) : ∃ fd, Do P w K mg base 1 (He.ma K (cW K) "upto") ["self"] [] (spGet K fun s _ _ => .int s.limit) fd [] := by
  obtain ⟨fd, F⟩ := T.def_ 24
  refine ⟨fd, ok0 F scWUpto (fun vs H Q E h => len_get h) (fun cdv A outer s0 H vs Q E hr h => ?_), F.bindsN fun _ _ _ _ _ _ us hl => match us, hl with | [_], _ => rfl, .nil, F.kp⟩
  obtain ⟨p, dx, rs, rh, s, rfl, x, k⟩ := h
  exact ⟨_, pss_one (ps_ret (pe_fld (pv 0) rfl)), _, rfl, p, cW K, dx, _, _, rfl, x.at_, T.kW, T.nLimit, wf_limit, k⟩
theorem scWSent : FnScope ["self"] ["self"] (defScope sWSent) := ⟨rfl, rfl, rfl, by decide +kernel, rfl, by decide +kernel, by decide +kernel⟩
theorem do_wSent (T : Tx K mg) : ∃ fd, Do P w K mg base 1 (He.ma K (cW K) "sent") ["self"] [] (spGet K fun s _ _ => .int s.edge) fd [] := by
  obtain ⟨fd, F⟩ := T.def_ 25
  refine ⟨fd, ok0 F scWSent (fun vs H Q E h => len_get h) (fun cdv A outer s0 H vs Q E hr h => ?_), F.bindsN fun _ _ _ _ _ _ us hl => match us, hl with | [_], _ => rfl, .nil, F.kp⟩
  obtain ⟨p, dx, rs, rh, s, rfl, x, k⟩ := h
  exact ⟨_, pss_one (ps_ret (pe_fld (pv 0) rfl)), _, rfl, p, cW K, dx, _, _, rfl, x.at_, T.kW, T.nEdge, wf_edge, k⟩
theorem scWGotP : FnScope ["self"] ["self"] (defScope sWGotP) := ⟨rfl, rfl, rfl, by decide +kernel, rfl, by decide +kernel, by decide +kernel⟩
theorem do_wGotP (T : Tx K mg) : ∃ fd, Do P w K mg base 1 (He.ma K (cW K) "got_places") ["self"] [] (spGet K fun _ rs _ => .ref rs) fd [] := by
  obtain ⟨fd, F⟩ := T.def_ 26
  refine ⟨fd, ok0 F scWGotP (fun vs H Q E h => len_get h) (fun cdv A outer s0 H vs Q E hr h => ?_), F.bindsN fun _ _ _ _ _ _ us hl => match us, hl with | [_], _ => rfl, .nil, F.kp⟩
  obtain ⟨p, dx, rs, rh, s, rfl, x, k⟩ := h
  exact ⟨_, pss_one (ps_ret (pe_fld (pv 0) rfl)), _, rfl, p, cW K, dx, _, _, rfl, x.at_, T.kW, T.nSafe, wf_safe, k⟩
theorem scWMissedP : FnScope ["self"] ["self"] (defScope sWMissedP) := ⟨rfl, rfl, rfl, by decide +kernel, rfl, by decide +kernel, by decide +kernel⟩
theorem do_wMissedP (T : Tx K mg) : ∃ fd, Do P w K mg base 1 (He.ma K (cW K) "missed_places") ["self"] [] (spGet K fun _ _ rh => .ref rh) fd [] := by
  obtain ⟨fd, F⟩ := T.def_ 27
  refine ⟨fd, ok0 F scWMissedP (fun vs H Q E h => len_get h) (fun cdv A outer s0 H vs Q E hr h => ?_), F.bindsN fun _ _ _ _ _ _ us hl => match us, hl with | [_], _ => rfl, .nil, F.kp⟩
  obtain ⟨p, dx, rs, rh, s, rfl, x, k⟩ := h
  exact ⟨_, pss_one (ps_ret (pe_fld (pv 0) rfl)), _, rfl, p, cW K, dx, _, _, rfl, x.at_, T.kW, T.nHoles, wf_holes, k⟩
/-! ### state -/
def stateS (s : WS) (c : Int) : Str := if (s.fin && (decide (s.tail = .got) && decide (c = (s.text.length : Int)))) = true then "got" else moodS s.fin
theorem scWState : FnScope ["self"] ["self"] (defScope sWState) := ⟨rfl, rfl, rfl, by decide +kernel, rfl, by decide +kernel, by decide +kernel⟩
def spWState (K : PySem.W.Frag) : Sp := fun vs H Q _ => ∃ (p : Addr) (s : WS), vs = [.ref p] ∧ WAt K H p s ∧ Gd s ∧ ∀ H' rows, Same H H' → Can rows → (∀ n, Mem rows n ↔ s.safe n) → Q (.str (stateS s (cnt rows))) H'
theorem do_wState (T : Tx K mg) : ∃ fd, Do P w K mg base 2 (He.ma K (cW K) "state") ["self"] [] (spWState K) fd [] := by
  obtain ⟨fd, F⟩ := T.def_ 28
  obtain ⟨_, G⟩ := do_rMany (P := P) (w := w) (base := base) T
  refine ⟨fd, ok0 F scWState (fun vs H Q E h => ?_) (fun cdv A outer s0 H vs Q E hr h => ?_), F.bindsN fun _ _ _ _ _ _ us hl => match us, hl with | [_], _ => rfl, .nil, F.kp⟩
  · obtain ⟨p, s, rfl, _⟩ := h
    rfl
  · obtain ⟨p, s, rfl, ⟨dx, rs, rh, x⟩, g, k⟩ := h
    refine ⟨_, pss_cons (ps_if (PW.pt (pw_and (pt_cmpR op_eq (pe_fld (pv 0) rfl) pe_str (nomark _)) (pw_and (pt_cmpR op_eq (pe_fld (pv 0) rfl) pe_str (nomark _))
        (pw_and1 (pt_cmpR op_eq (pe_meth0 (pe_fld (pv 0) rfl) T.kR (T.mR 51) G.ok hr G.b G.v pass0) (pe_callB call_len_str (by rfl) T.f PySem.boot_len (pa_cons (pe_fld (pv 0) rfl) pa_nil)) (nomark _))))))
        (pss_one (ps_ret pe_str)) pss_nil)
      (pss_one (ps_ret (pe_fld (pv 0) rfl))), ?_⟩
    have hlen : s.text.length ≤ sizeLine := line_big (by have := g.len; omega)
    obtain ⟨rows, hrg, hc, hm⟩ := x.safe
    have fin : ∀ H1, Same H H1 → stateS s (cnt rows) = moodS s.fin → ∃ v, [some (V.ref p)][0]? = some (some v) ∧ ∃ a C dx fs u, v = .ref a ∧ H1 a = some (.ins C dx fs) ∧ Cls K C ∧ NoAttr K C "mood" ∧ fs.lookup ("mood" : Str) = some u ∧ Q u H1 := fun H1 s1 e =>
      ⟨_, rfl, p, cW K, dx, _, _, rfl, s1 _ _ x.at_, T.kW, T.nMood, wf_mood, by rw [← e]; exact k H1 rows s1 hc hm⟩
    refine ⟨_, rfl, p, cW K, dx, _, _, rfl, x.at_, T.kW, T.nMood, wf_mood, rfl, _, rfl, ?_⟩
    refine iteE (mood_fin s.fin) (iteB (fun c1 => ?_) (fun c1 => fin H (Same.refl _) (by unfold stateS; rw [c1]; rfl)))
    refine ⟨_, rfl, p, cW K, dx, _, _, rfl, x.at_, T.kW, T.nTail, wf_tail, rfl, _, rfl, ?_⟩
    refine iteE (tl_got s.tail) (iteB (fun c2 => ?_) (fun c2 => fin H (Same.refl _) (by unfold stateS; rw [c1, c2]; rfl)))
    obtain ⟨dr, l, ts, hr1, hr2, hr3⟩ := id hrg
    refine ⟨_, rfl, p, cW K, dx, _, _, rfl, x.at_, T.kW, T.nSafe, wf_safe, rs, dr, _, rfl, hr1, sn_many, rs, rows, rfl, hrg, ?_, fun H1 s1 => ?_⟩
    · have := rows_len hc hm g.bdS
      omega
    refine ⟨_, rfl, p, cW K, dx, _, _, rfl, s1 _ _ x.at_, T.kW, T.nText, wf_text, _, rfl, hlen, rfl, _, rfl, ?_⟩
    have e : decide (V.int (cnt rows) = V.int (s.text.length : Int)) = decide (cnt rows = (s.text.length : Int)) := by
      rw [dec_int]
      rfl
    refine iteE e (iteB (fun c3 => ?_) (fun c3 => fin H1 s1 (by unfold stateS; rw [c1, c2, c3]; rfl)))
    have e2 : stateS s (cnt rows) = "got" := by
      unfold stateS
      rw [c1, c2, c3]
      rfl
    have := k H1 rows s1 hc hm
    rw [e2] at this
    exact this
end
end K41

/-! Writer: stored, due_piece -/
namespace K41
open PySem PySem.Spec PyProof.Rows L2
/-! ### what is stored -/
structure StIn (H : Hp) (p : Addr) (s : WS) (r1 r2 : Rows) : Prop where
  at_ : ∃ t t1 t2 us1 us2, H p = some (.tup [.int s.lane, .str s.text, .int s.limit, .int s.edge, .ref t, .str (moodS s.fin), .str s.tail.s]) ∧ H t = some (.tup [.ref t1, .ref t2]) ∧ H t1 = some (.tup us1) ∧ H t2 = some (.tup us2) ∧ RowsAt H us1 r1 ∧ RowsAt H us2 r2
  c1 : Can r1
  m1 : ∀ n, Mem r1 n ↔ s.safe n
  c2 : Can r2
  m2 : ∀ n, Mem r2 n ↔ s.holes n
def StAt (H : Hp) (p : Addr) (s : WS) : Prop := ∃ r1 r2, StIn H p s r1 r2
def stD (s : WS) (r1 r2 : Rows) : PyData := .tuple [.int s.lane, .str s.text, .int s.limit, .int s.edge, .tuple [rowsT r1, rowsT r2], .str (moodS s.fin), .str s.tail.s]
theorem tok_mood (b : Bool) : Tok (moodS b) := by
  cases b
  · have h : ∀ c ∈ (moodS false).cps.toList, c < 1114112 := by decide +kernel
    exact h
  · have h : ∀ c ∈ (moodS true).cps.toList, c < 1114112 := by decide +kernel
    exact h
theorem tok_tail (t : Tl) : Tok t.s := by
  cases t
  · have h : ∀ c ∈ (Tl.un).s.cps.toList, c < 1114112 := by decide +kernel
    exact h
  · have h : ∀ c ∈ (Tl.sent).s.cps.toList, c < 1114112 := by decide +kernel
    exact h
  · have h : ∀ c ∈ (Tl.got).s.cps.toList, c < 1114112 := by decide +kernel
    exact h
  · have h : ∀ c ∈ (Tl.mis).s.cps.toList, c < 1114112 := by decide +kernel
    exact h
theorem fine_st {s : WS} (g : Tok s.text) (r1 r2 : Rows) : Fine 4 (stD s r1 r2) :=
  .tup (.cons (.int _) (.cons (.str g) (.cons (.int _) (.cons (.int _) (.cons (.tup (n := 2) (.cons (fine_rowsT _) (.cons (fine_rowsT _) .nil))) (.cons (.str (tok_mood _)) (.cons (.str (tok_tail _)) .nil)))))))
theorem dp_st {K : PySem.W.Frag} {H : Hp} {p : Addr} {s : WS} {r1 r2 : Rows} (x : StIn H p s r1 r2) : Dp K H (.ref p) (stD s r1 r2) := by
  obtain ⟨t, t1, t2, us1, us2, h, h1, h2, h3, h4, h5⟩ := x.at_
  exact .tup (SqT.of h) (.cons (.int _) (.cons (.str _) (.cons (.int _) (.cons (.int _) (.cons (.tup (SqT.of h1) (.cons (.tup (SqT.of h2) (dp_rows h4)) (.cons (.tup (SqT.of h3) (dp_rows h5)) .nil))) (.cons (.str _) (.cons (.str _) .nil)))))))
/-- the same is stored -/
theorem st_eq {K : PySem.W.Frag} {H : Hp} {p q : Addr} {s : WS} (g : Tok s.text) (x : StAt H p s) (y : StAt H q s) : ∃ d, Dp K H (.ref p) d ∧ Dp K H (.ref q) d ∧ SeqAt.shaped d = true ∧ PyData.eqv d d = true := by
  obtain ⟨r1, r2, x⟩ := x
  obtain ⟨q1, q2, y⟩ := y
  obtain rfl := can_uniq x.c1 y.c1 fun n => (x.m1 n).trans (y.m1 n).symm
  obtain rfl := can_uniq x.c2 y.c2 fun n => (x.m2 n).trans (y.m2 n).symm
  exact ⟨_, dp_st x, dp_st y, (fine_st g r1 r2).shaped (by decide), (fine_st g r1 r2).refl⟩
theorem StAt.keepT {H H' : Hp} {p : Addr} {s : WS} (x : StAt H p s) (k : ∀ t xs, H t = some (.tup xs) → H' t = some (.tup xs)) : StAt H' p s := by
  obtain ⟨r1, r2, ⟨t, t1, t2, us1, us2, h, h1, h2, h3, h4, h5⟩, c1, m1, c2, m2⟩ := x
  exact ⟨r1, r2, ⟨t, t1, t2, us1, us2, k _ _ h, k _ _ h1, k _ _ h2, k _ _ h3, h4.keep k, h5.keep k⟩, c1, m1, c2, m2⟩
theorem StAt.same {H H' : Hp} {p : Addr} {s : WS} (x : StAt H p s) (k : Same H H') : StAt H' p s := x.keepT fun _ _ h => k _ _ h
theorem StAt.keep {K : PySem.W.Frag} {m : List Addr} {H H' : Hp} {p : Addr} {s : WS} (x : StAt H p s) (k : Kp m H H') (h : Hot K H m) : StAt H' p s := x.keepT fun _ _ e => k.tup h e
section
variable {P : Program} {w : World} {K : PySem.W.Frag} {mg : Str → Option Value} {base : Heap}
theorem scWStored : FnScope ["self", "rows"] ["self"] (defScope sWStored) := ⟨rfl, rfl, rfl, by decide +kernel, rfl, by decide +kernel, by decide +kernel⟩
def spWStored (K : PySem.W.Frag) : Sp := fun vs H Q _ => ∃ (p : Addr) (s : WS), vs = [.ref p] ∧ WAt K H p s ∧ ∀ H' q, Same H H' → StAt H' q s → Q (.ref q) H'
theorem do_wStored (T : Tx K mg) : ∃ fd, DoA P w K mg base 2 (He.ma K (cW K) "stored") ["self"] (spWStored K) fd := by
  obtain ⟨fd, F⟩ := T.def_ 29
  obtain ⟨_, G⟩ := do_rRows (P := P) (w := w) (base := base) T
  refine ⟨fd, okA F scWStored (fun vs H Q E h => ?_) (fun cdv A outer s0 H vs Q E hr h => ?_), F.bindsN fun _ _ _ _ _ _ us hl => match us, hl with | [_], _ => rfl, F.kp⟩
  · obtain ⟨p, s, rfl, _⟩ := h
    rfl
  · obtain ⟨p, s, rfl, ⟨dx, rs, rh, x⟩, k⟩ := h
    refine ⟨_, pss_cons (ps_set (i := 1) scWStored.nd rfl (.inl rfl) (pe_tup (pa_cons (pe_callTy call_tuple_of (by rfl) T.f (by decide +kernel) (pa_cons (pe_methA0 (pe_fld (pv 0) rfl) T.kR (T.mR 50) G.a hr G.b) pa_nil))
        (pa_cons (pe_callTy call_tuple_of (by rfl) T.f (by decide +kernel) (pa_cons (pe_methA0 (pe_fld (pv 0) rfl) T.kR (T.mR 50) G.a hr G.b) pa_nil)) pa_nil))))
      (pss_one (ps_ret (pe_tup (pa_cons (pe_fld (pv 0) rfl) (pa_cons (pe_fld (pv 0) rfl) (pa_cons (pe_fld (pv 0) rfl) (pa_cons (pe_fld (pv 0) rfl) (pa_cons (pv 1) (pa_cons (pe_fld (pv 0) rfl) (pa_cons (pe_fld (pv 0) rfl) pa_nil)))))))))), ?_⟩
    obtain ⟨r1, g1, c1, m1⟩ := x.safe
    obtain ⟨r2, g2, c2, m2⟩ := x.holes
    obtain ⟨d1, l1, ts1, ha1, ha2, ha3⟩ := id g1
    obtain ⟨d2, l2, ts2, hb1, hb2, hb3⟩ := id g2
    refine ⟨_, rfl, p, cW K, dx, _, _, rfl, x.at_, T.kW, T.nSafe, wf_safe, rs, d1, _, rfl, ha1, sn_rows, rs, r1, rfl, g1, fun H1 q1 us1 s1 _ hq1 hu1 => ?_⟩
    refine ⟨q1, us1, rfl, .inl ⟨SqL.of hq1, fun t1 ht1 => ?_⟩⟩
    have s2 := s1.trans (Same.new (o := HO.tup us1) ht1)
    refine ⟨_, rfl, p, cW K, dx, _, _, rfl, s2 _ _ x.at_, T.kW, T.nHoles, wf_holes, rh, d2, _, rfl, s2 _ _ hb1, sn_rows, rh, r2, rfl, g2.same s2, fun H2 q2 us2 s3 _ hq2 hu2 => ?_⟩
    refine ⟨q2, us2, rfl, .inl ⟨SqL.of hq2, fun t2 ht2 => ?_⟩⟩
    have s4 := s3.trans (Same.new (o := HO.tup us2) ht2)
    refine ⟨(by show 2 ≤ sizeLine; decide), fun t ht => ?_⟩
    have s5 := s4.trans (Same.new (o := HO.tup [.ref t1, .ref t2]) ht)
    have xa := s5 _ _ (s2 _ _ x.at_)
    refine ⟨_, rfl, p, cW K, dx, _, _, rfl, xa, T.kW, T.nLane, wf_lane, _, rfl, p, cW K, dx, _, _, rfl, xa, T.kW, T.nText, wf_text, _, rfl, p, cW K, dx, _, _, rfl, xa, T.kW, T.nLimit, wf_limit, _, rfl, p, cW K, dx, _, _, rfl, xa, T.kW, T.nEdge, wf_edge,
      _, rfl, _, rfl, p, cW K, dx, _, _, rfl, xa, T.kW, T.nMood, wf_mood, _, rfl, p, cW K, dx, _, _, rfl, xa, T.kW, T.nTail, wf_tail, (by show 7 ≤ sizeLine; decide), fun q hq => ?_⟩
    have s6 := Same.new (o := HO.tup [.int s.lane, .str s.text, .int s.limit, .int s.edge, .ref t, .str (moodS s.fin), .str s.tail.s]) hq
    refine k _ q ((s2.trans s5).trans s6) ⟨r1, r2, ⟨t, t1, t2, us1, us2, upd_same, s6 _ _ upd_same, s6 _ _ (s5 _ _ upd_same), s6 _ _ (Same.new ht _ _ upd_same), ?_, ?_⟩, c1, m1, c2, m2⟩
    · exact hu1.same (((Same.new ht1).trans s5).trans s6)
    · exact hu2.same (((Same.new ht2).trans (Same.new ht)).trans s6)
end
end K41

/-! Writer.due_piece -/
namespace K41
open PySem PySem.Spec PyProof.Rows L2
/-! ### a statement whose end is said first: the rest is answered once -/
def tCut (t : TS) : TS := fun D σ H => ∃ C : L2.St → Hp → Prop, (∀ σ' H', C σ' H' → D.nx σ' H') ∧ t { D with nx := C } σ H
theorem sp_mono {X : Cx} {pins : List (Addr × Obj)} {D : Ends} {C : L2.St → Hp → Prop} {f : Flow} {s' : Shared} (h : ∀ σ' H', C σ' H' → D.nx σ' H') (q : SP X pins { D with nx := C } f s') : SP X pins D f s' := by
  cases f with
  | next =>
    obtain ⟨σ', H', I, c⟩ := q
    exact ⟨σ', H', I, h _ _ c⟩
  | brk => exact q
  | cont => exact q
  | ret u => exact q
theorem ps_cut {X : Cx} {st : Stmt} {t : TS} (h : PS X st t) : PS X st (tCut t) :=
  ⟨fun pins s σ H D I ⟨C, h1, h2⟩ => wpAny_mono (h.run pins s σ H { D with nx := C } I h2) (fun f s' q => sp_mono h1 q) fun _ _ e => e⟩
def tCutE (t : TE) : TE := fun σ H Q => ∃ C : VK, (∀ v H', C v H' → Q v H') ∧ t σ H C
theorem pe_cut {X : Cx} {e : Expr} {t : TE} (h : PE X e t) : PE X e (tCutE t) :=
  ⟨fun pins s σ H Q I ⟨C, h1, h2⟩ => wpAny_mono (h.run pins s σ H C I h2) (fun u s' ⟨v, H', J, r, q⟩ => ⟨v, H', J, r, h1 _ _ q⟩) fun _ _ e => e⟩
def capF (s : WS) : Option Int → Int
  | none => min (s.text.length : Int) s.limit - s.edge
  | some b => min (min (s.text.length : Int) s.limit - s.edge) b
theorem am_none {s : WS} {most : Int} {b : Option Int} : amF s none most b = (s.edge, capF s b) := by cases b <;> rfl
theorem am_some {s : WS} {p : Int × Int} {most : Int} {b : Option Int} (c : most > 0) : amF s (some p) most b = p := if_pos c
theorem am_some0 {s : WS} {p : Int × Int} {most : Int} {b : Option Int} (c : ¬ most > 0) : amF s (some p) most b = (s.edge, capF s b) := (if_neg c).trans (by cases b <;> rfl)
section
variable {P : Program} {w : World} {K : PySem.W.Frag} {mg : Str → Option Value} {base : Heap}
theorem scWDue : FnScope ["self", "most", "fresh", "at", "many", "behind", "finished"] ["self", "most", "fresh"] (defScope sWDue) := ⟨rfl, rfl, rfl, by decide +kernel, rfl, by decide +kernel, by decide +kernel⟩
/-- a bound as it is handed in -/
def bv : Option Int → V
  | none => .non
  | some b => .int b
/-- what a piece is told by -/
def PieceAt (H : Hp) (v : V) : Option (Int × Str × Bool) → Prop
  | none => v = .non
  | some (a, z, l) => ∃ t, v = .ref t ∧ H t = some (.tup [.int a, .str z, .bl l])
def spWDue (K : PySem.W.Frag) : Sp := fun vs H Q _ => ∃ (p : Addr) (most : Int) (b : Option Int) (s : WS), vs = [.ref p, .int most, bv b] ∧ WAt K H p s ∧ Gd s ∧
  ∀ H' run v, Same H H' → RunOf s.holes run → PieceAt H' v (due s run most b) → Q v H'
theorem tl_in (t : Tl) : inV (V.str t.s) [V.str ("unsent" : Str), V.str ("missed" : Str)] = (decide (t = .un) || decide (t = .mis)) := by cases t <;> decide +kernel
theorem do_wDue (T : Tx K mg) : ∃ fd, Do P w K mg base 3 (He.ma K (cW K) "due_piece") ["self", "most", "fresh"] [] (spWDue K) fd [] := by
  obtain ⟨fd, F⟩ := T.def_ 17
  obtain ⟨_, GL⟩ := do_rLen (P := P) (w := w) (base := base) T
  obtain ⟨_, GR⟩ := do_rRows (P := P) (w := w) (base := base) T
  refine ⟨fd, ok0 F scWDue (fun vs H Q E h => ?_) (fun cdv A outer s0 H vs Q E hr h => ?_), F.bindsN fun _ _ _ _ _ _ us hl => match us, hl with | [_, _, _], _ => rfl, .nil, F.kp⟩
  · obtain ⟨p, most, b, s, rfl, _⟩ := h
    rfl
  · obtain ⟨p, most, b, s, rfl, ⟨dx, rs, rh, x⟩, g, k⟩ := h
    refine ⟨_, pss_cons (ps_if (pt_cmpR op_eq (pe_fld (pv 0) rfl) pe_str (nomark _)) (pss_one (ps_ret pe_non)) pss_nil)
      (pss_cons (ps_set (i := 3) scWDue.nd rfl (.inl rfl) (pe_fld (pv 0) rfl))
      (pss_cons (ps_set (i := 4) scWDue.nd rfl (.inl rfl) (pe_op op_sub (pe_callB (call_min2 rfl) (by rfl) T.f (by decide +kernel) (pa_cons (pe_callB call_len_str (by rfl) T.f PySem.boot_len (pa_cons (pe_fld (pv 0) rfl) pa_nil)) (pa_cons (pe_fld (pv 0) rfl) pa_nil))) (pv 3)))
      (pss_cons (ps_cut (ps_if (pt_cmpR op_notN (pv 2) pe_non (nomark _)) (pss_one (ps_set (i := 4) scWDue.nd rfl (.inl rfl) (pe_callB (call_min2 rfl) (by rfl) T.f (by decide +kernel) (pa_cons (pv 4) (pa_cons (pv 2) pa_nil))))) pss_nil))
      (pss_cons (ps_cut (ps_if (PW.pt (pw_and (pt_cmpR op_gt (pe_callB (call_lenOwn GL.ok (hr.mono (by decide)) GL.b (T.mR 49)) (by rfl) T.f PySem.boot_len (pa_cons (pe_fld (pv 0) rfl) pa_nil)) pe_int (nomark _)) (pw_and1 (pt_cmpR op_gt (pv 1) pe_int (nomark _)))))
          (pss_cons (ps_asg (pe_ix ix_list (pe_meth0 (pe_fld (pv 0) rfl) T.kR (T.mR 50) GR.ok.ok (hr.mono (by decide)) GR.b .nil pass0) pe_int (fun _ _ => rfl)) (pg_tup rfl (pgs_cons (pg_name (i := 3) scWDue.nd rfl (.inl rfl)) (pgs_cons (pg_name (i := 5) scWDue.nd rfl (.inl rfl)) pgs_nil))))
            (pss_one (ps_set (i := 4) scWDue.nd rfl (.inl rfl) (pe_op op_add (pe_op op_sub (pv 5) (pv 3)) pe_int)))) pss_nil))
      (pss_cons (ps_set (i := 4) scWDue.nd rfl (.inl rfl) (pe_callB (call_max2 rfl) (by rfl) T.f (by decide +kernel) (pa_cons pe_int (pa_cons (pe_callB (call_min2 rfl) (by rfl) T.f (by decide +kernel) (pa_cons (pv 4) (pa_cons (pv 1) pa_nil))) pa_nil))))
      (pss_cons (ps_set (i := 6) scWDue.nd rfl (.inl rfl) (pe_cmpR op_eq (pe_fld (pv 0) rfl) pe_str (nomark _)))
      (pss_cons (ps_if (pt_cmpR op_gt (pv 4) pe_int (nomark _)) (pss_one (ps_ret (pe_tup (pa_cons (pv 3) (pa_cons (pe_slice sl_str (pe_fld (pv 0) rfl) (po_some (pv 3)) (po_some (pe_op op_add (pv 3) (pv 4))))
          (pa_cons (pe_cut (pe_and (pv 6) (pe_one (pe_cmpR op_eq (pe_op op_add (pv 3) (pv 4)) (pe_callB call_len_str (by rfl) T.f PySem.boot_len (pa_cons (pe_fld (pv 0) rfl) pa_nil)) (nomark _))))) pa_nil)))))) pss_nil)
      (pss_cons (ps_if (PW.pt (pw_and (pt_val (pv 6)) (pw_and (pt_cmpR op_eq (pe_fld (pv 0) rfl) (pe_callB call_len_str (by rfl) T.f PySem.boot_len (pa_cons (pe_fld (pv 0) rfl) pa_nil)) (nomark _))
          (pw_and1 (pt_cmpR op_in_seq (pe_fld (pv 0) rfl) (pe_tup (pa_cons pe_str (pa_cons pe_str pa_nil))) (by rfl))))))
          (pss_one (ps_ret (pe_tup (pa_cons (pe_callB call_len_str (by rfl) T.f PySem.boot_len (pa_cons (pe_fld (pv 0) rfl) pa_nil)) (pa_cons pe_str (pa_cons pe_bl pa_nil)))))) pss_nil)
      (pss_one (ps_ret pe_non)))))))))), ?_⟩
    have hlen : s.text.length ≤ sizeLine := line_big (by have := g.len; omega)
    obtain ⟨rows, hrg, hc, hm⟩ := x.holes
    obtain ⟨dr, l, ts, hr1, hr2, hr3⟩ := id hrg
    -- self.mood == 'broken'
    refine ⟨_, rfl, p, cW K, dx, _, _, rfl, x.at_, T.kW, T.nMood, wf_mood, rfl, _, rfl, iteE (mood_broken _) (iteF ?_)⟩
    refine ⟨_, rfl, p, cW K, dx, _, _, rfl, x.at_, T.kW, T.nEdge, wf_edge, ?_⟩
    refine ⟨_, rfl, p, cW K, dx, _, _, rfl, x.at_, T.kW, T.nText, wf_text, _, rfl, hlen, _, rfl, p, cW K, dx, _, _, rfl, x.at_, T.kW, T.nLimit, wf_limit, _, _, rfl, _, rfl, _, _, rfl, rfl, ?_⟩
    have emin : (if s.limit < (s.text.length : Int) then s.limit else (s.text.length : Int)) = min (s.text.length : Int) s.limit := by split <;> omega
    rw [emin]
    -- fresh
    refine ⟨fun σ H' => H' = H ∧ σ = [some (.ref p), some (.int most), some (bv b), some (.int s.edge), some (.int (capF s b)), none, none], ?_, ?_⟩
    case refine_2 =>
      refine ⟨_, rfl, rfl, _, rfl, ?_⟩
      cases b with
      | none => exact iteF ⟨rfl, rfl⟩
      | some b =>
        refine iteT ⟨_, rfl, _, rfl, _, _, rfl, rfl, ?_⟩
        have e : (if b < min (s.text.length : Int) s.limit - s.edge then b else min (s.text.length : Int) s.limit - s.edge) = min (min (s.text.length : Int) s.limit - s.edge) b := by split <;> omega
        rw [e]
        rfl
    rintro σ' H' ⟨rfl, rfl⟩
    -- the least run
    refine ⟨fun σ H2 => ∃ run v5, Same H' H2 ∧ RunOf s.holes run ∧ σ = [some (.ref p), some (.int most), some (bv b), some (.int (amF s run most b).1), some (.int (amF s run most b).2), v5, none], ?_, ?_⟩
    case refine_2 =>
      refine ⟨_, rfl, p, cW K, dx, _, _, rfl, x.at_, T.kW, T.nHoles, wf_holes, rh, dr, _, rfl, hr1, rh, rows, rfl, hrg, _, rfl, by omega, ?_, ?_⟩
      · have := rows_len hc hm g.bdH
        omega
      refine ⟨_, _, rfl, rfl, _, rfl, ?_⟩
      cases rows with
      | nil =>
        refine iteDF (by show ¬ (0 < ((0 : Nat) : Int)); omega) ⟨none, none, Same.refl _, fun n hn => mem_nil ((hm n).mpr hn), ?_⟩
        rw [am_none]
      | cons q rows =>
        have hrun : RunOf s.holes (some (q.1, q.2 - q.1 + 1)) := RunOf.congr hm (x := some (q.1, q.2 - q.1 + 1)) (run_of_can hc)
        refine iteD (by show (0 : Int) < ((rows.length + 1 : Nat) : Int); omega) ?_
        refine ⟨_, rfl, _, _, rfl, rfl, _, rfl, ?_⟩
        refine ite2 (fun c => ?_) (fun c => ?_)
        · have c := of_decide_eq_true c
          refine ⟨_, rfl, p, cW K, dx, _, _, rfl, x.at_, T.kW, T.nHoles, wf_holes, rh, dr, _, rfl, hr1, sn_rows, rh, q :: rows, rfl, hrg, fun H2 l2 ts2 s2 _ hl2 hts2 => ?_⟩
          cases hts2 with
          | @cons v _ us _ hv hus =>
            obtain ⟨t, rfl, ht⟩ := hv
            refine ⟨l2, _, _, _, rfl, rfl, SqL.of hl2, atI_nat (j := 0) rfl, t, _, rfl, SqT.of ht, rfl, _, _, rfl, _, _, rfl, rfl, ?_⟩
            refine ⟨_, rfl, _, rfl, _, _, rfl, rfl, _, _, rfl, rfl, some (q.1, q.2 - q.1 + 1), some (.int q.2), s2, hrun, ?_⟩
            rw [am_some c]
            rfl
        · have c : ¬ most > 0 := fun z => c (decide_eq_true z)
          refine ⟨some (q.1, q.2 - q.1 + 1), none, Same.refl _, hrun, ?_⟩
          rw [am_some0 c]
    rintro σ' H2 ⟨run, v5, s2, hrun, rfl⟩
    have x2 := s2 _ _ x.at_
    refine ⟨_, rfl, _, rfl, _, _, rfl, _, _, rfl, ?_⟩
    have emany : (if (if most < (amF s run most b).2 then most else (amF s run most b).2) > 0 then (if most < (amF s run most b).2 then most else (amF s run most b).2) else 0) = manyF s run most b := by
      unfold manyF
      split <;> split <;> omega
    rw [emany]
    refine ⟨_, rfl, p, cW K, dx, _, _, rfl, x2, T.kW, T.nMood, wf_mood, rfl, ?_⟩
    rw [mood_fin]
    refine ⟨_, rfl, _, _, rfl, rfl, _, rfl, ?_⟩
    refine ite2 (fun c => ?_) (fun c => ?_)
    · have c := of_decide_eq_true c
      have hdue : due s run most b = some ((amF s run most b).1, cutS s.text (some (amF s run most b).1) (some ((amF s run most b).1 + manyF s run most b)), s.fin && decide ((amF s run most b).1 + manyF s run most b = (s.text.length : Int))) := by
        unfold due
        rw [if_pos c]
      refine ⟨_, rfl, _, rfl, p, cW K, dx, _, _, rfl, x2, T.kW, T.nText, wf_text, _, rfl, _, rfl, _, rfl, _, rfl, _, _, rfl, rfl, _, rfl, _, rfl, hlen, ?_⟩
      refine ⟨fun v H3 => H3 = H2 ∧ v = .bl (s.fin && decide ((amF s run most b).1 + manyF s run most b = (s.text.length : Int))), ?_, ?_⟩
      case refine_2 =>
        refine ⟨_, rfl, _, rfl, ?_⟩
        cases e : s.fin with
        | false => exact ⟨rfl, rfl⟩
        | true =>
          refine ⟨_, rfl, _, rfl, _, _, rfl, rfl, _, rfl, p, cW K, dx, _, _, rfl, x2, T.kW, T.nText, wf_text, _, rfl, hlen, rfl, rfl, ?_⟩
          rw [dec_int]
          rfl
      rintro v H3 ⟨rfl, rfl⟩
      refine ⟨(by show 3 ≤ sizeLine; decide), fun t ht => k _ run _ (s2.trans (Same.new ht)) hrun ?_⟩
      rw [hdue]
      exact ⟨t, rfl, upd_same⟩
    · have c : ¬ manyF s run most b > 0 := fun z => c (decide_eq_true z)
      have none_ : (s.fin && (decide (s.edge = (s.text.length : Int)) && (decide (s.tail = .un) || decide (s.tail = .mis)))) = false → due s run most b = none := fun h => by
        unfold due
        rw [if_neg c, h]
        rfl
      refine ⟨_, rfl, _, rfl, ?_⟩
      refine iteB (fun c1 => ?_) (fun c1 => k _ run _ s2 hrun (by rw [none_ (by rw [c1]; rfl)]; rfl))
      refine ⟨_, rfl, p, cW K, dx, _, _, rfl, x2, T.kW, T.nEdge, wf_edge, _, rfl, p, cW K, dx, _, _, rfl, x2, T.kW, T.nText, wf_text, _, rfl, hlen, rfl, _, rfl, ?_⟩
      have e2 : decide (V.int s.edge = V.int (s.text.length : Int)) = decide (s.edge = (s.text.length : Int)) := by
        rw [dec_int]
        rfl
      refine iteE e2 (iteB (fun c2 => ?_) (fun c2 => k _ run _ s2 hrun (by rw [none_ (by rw [c1, c2]; rfl)]; rfl)))
      refine ⟨_, rfl, p, cW K, dx, _, _, rfl, x2, T.kW, T.nTail, wf_tail, (by show 2 ≤ sizeLine; decide), fun e he => ?_⟩
      have s3 := s2.trans (Same.new (o := HO.tup [.str ("unsent" : Str), .str ("missed" : Str)]) he)
      have x3 := s3 _ _ x.at_
      refine ⟨e, _, rfl, .inr (SqT.of upd_same), rfl, rfl, _, rfl, ?_⟩
      refine iteE (tl_in s.tail) (iteB (fun c3 => ?_) (fun c3 => k _ run _ s3 hrun (by rw [none_ (by rw [c1, c2, c3]; rfl)]; rfl)))
      refine ⟨_, rfl, p, cW K, dx, _, _, rfl, x3, T.kW, T.nText, wf_text, _, rfl, hlen, (by show 3 ≤ sizeLine; decide), fun t ht => k _ run _ (s3.trans (Same.new ht)) hrun ?_⟩
      have hd : due s run most b = some ((s.text.length : Int), Str.empty, true) := by
        unfold due
        rw [if_neg c, if_pos (by rw [c1, c2, c3]; rfl)]
      rw [hd]
      exact ⟨t, rfl, upd_same⟩
end
end K41

/-! Writer: cut, would -/
namespace K41
open PySem PySem.Spec PyProof.Rows L2
/-- o.m(e, .., k = v) of a def without positional defaults, all keywords written -/
theorem kb0 {K : PySem.W.Frag} {x qual : Str} {params : Arguments} {body : List Stmt} {scope : Scope} {kws : List (Str × V)} {f : Addr} {fd : FuncData} {ps : List Str} (F : FunD K x qual params body scope [] kws f fd) (n : Nat) (ks : List Str)
    (h : ∀ (kV doc pm : Value) (an : Option Addr) (cdv ct : Value) (us ws : List Value), us.length = n → ws.length = ks.length → bindArgs (PySem.W.fnOf x qual params body scope .none kV doc pm an cdv ct) ⟨us, ks.zip ws⟩ = pure (ps.zip (us ++ ws))) :
    KBn K fd ps n ks (fun us ws => us ++ ws) (fun vs zs => vs ++ zs) := by
  obtain ⟨oc, od, dV, kV, doc, pm, an, cdv, ct, osl, rfl, lk, hcd, hD, hK⟩ := F.ex
  rcases hD with ⟨_, rfl⟩ | ⟨e, _⟩
  · exact ⟨fun s us ws X l1 l2 => .of_eq (h kV doc pm an cdv ct us ws l1 l2), fun r1 r2 => r1.append r2⟩
  · exact absurd rfl e
section
variable {P : Program} {w : World} {K : PySem.W.Frag} {mg : Str → Option Value} {base : Heap}
/-- as Do, of a method with the keyword fresh -/
structure DoK (P : Program) (w : World) (K : PySem.W.Frag) (mg : Str → Option Value) (base : Heap) (k : Nat) (f : Addr) (sp : Sp) (fd : FuncData) (ds : List Value) : Prop where
  ok : FnOk P w K mg base CX0 k f fd ["self", "most", "fresh"] sp
  b : Binds K fd ["self", "most", "fresh"] ds
  v : Vals [V.non] ds
  kb : KBn K fd ["self", "most", "fresh"] 2 ["fresh"] (fun us ws => us ++ ws) (fun vs zs => vs ++ zs)
theorem scWCut : FnScope ["self", "most", "fresh", "piece", "at", "letters", "last"] ["self", "most", "fresh"] (defScope sWCut) := ⟨rfl, rfl, rfl, by decide +kernel, rfl, by decide +kernel, by decide +kernel⟩
def spWCut (K : PySem.W.Frag) : Sp := fun vs H Q _ => ∃ (p dx rs rh : Addr) (most : Int) (b : Option Int) (s : WS), vs = [.ref p, .int most, bv b] ∧ WIn K H p dx rs rh s ∧ Gd s ∧
  ∀ H' run v rh', Kp [p] H H' → RunOf s.holes run → PieceAt H' v (due s run most b) → WIn K H' p dx rs rh' (cutF s (due s run most b)) → (rh' = rh ∨ Fr K H H' rh') → Q v H'
theorem WAt.congr {K : PySem.W.Frag} {H : Hp} {p : Addr} {s s' : WS} (x : WAt K H p s) (h1 : s'.lane = s.lane) (h2 : s'.text = s.text) (h3 : s'.limit = s.limit) (h4 : s'.edge = s.edge) (h5 : ∀ n, s.safe n ↔ s'.safe n) (h6 : ∀ n, s.holes n ↔ s'.holes n) (h7 : s'.fin = s.fin) (h8 : s'.tail = s.tail) : WAt K H p s' := by
  obtain ⟨dx, rs, rh, a, b, c⟩ := x
  refine ⟨dx, rs, rh, ?_, b.congr h5, c.congr h6⟩
  show H p = some (.ins (cW K) dx (wf s'.lane s'.text s'.limit s'.edge rs rh (moodS s'.fin) s'.tail.s))
  rw [h1, h2, h3, h4, h7, h8]
  exact a
theorem str_empty {z : Str} : decide (V.str z = V.str ("" : Str)) = decide (z.length = 0) := by
  rw [dec_str]
  cases h : decide (z.length = 0) with
  | true =>
    rw [str_len0 (of_decide_eq_true h)]
    decide +kernel
  | false =>
    refine beq_eq_false_iff_ne.mpr fun e => ?_
    rw [e] at h
    have h : decide ((("" : Str)).length = 0) = false := h
    revert h
    decide +kernel
theorem do_wCut (T : Tx K mg) : ∃ fd ds, DoK P w K mg base 7 (He.ma K (cW K) "cut") (spWCut K) fd ds := by
  obtain ⟨fd, F⟩ := T.def_ 18
  obtain ⟨_, GD⟩ := do_wDue (P := P) (w := w) (base := base) T
  obtain ⟨_, GW⟩ := do_rWithout (P := P) (w := w) (base := base) T
  obtain ⟨ds, hv, hb⟩ := F.binds0 (ps := ["self", "most", "fresh"]) 2 (by intro z; cases z) rfl fun D doc pm an cdv ct us ks h1 h2 => match us, ks, h1, h2 with
    | [_, _], [_], _, _ => ⟨_, _, _, _, _, _, rfl, rfl, rfl⟩
  refine ⟨fd, ds, ok0 F scWCut (fun vs H Q E h => ?_) (fun cdv A outer s0 H vs Q E hr h => ?_), hb, hv, kb0 F 2 ["fresh"] fun kV doc pm an cdv ct us ws h1 h2 => match us, ws, h1, h2 with
    | [_, _], [_], _, _ => rfl⟩
  · obtain ⟨p, dx, rs, rh, most, b, s, rfl, _⟩ := h
    rfl
  · obtain ⟨p, dx, rs, rh, most, b, s, rfl, x, g, k⟩ := h
    refine ⟨_, pss_cons (ps_set (i := 3) scWCut.nd rfl (.inl rfl) (pe_meth (pv 0) T.kW (T.mW 58) GD.ok (hr.mono (by decide)) GD.b GD.v pass0 (pa_cons (pv 1) (pa_cons (pv 2) pa_nil))))
      (pss_cons (ps_if (pt_cmpR op_notN (pv 3) pe_non (nomark _))
        (pss_cons (ps_asg (pv 3) (pg_tup rfl (pgs_cons (pg_name (i := 4) scWCut.nd rfl (.inl rfl)) (pgs_cons (pg_name (i := 5) scWCut.nd rfl (.inl rfl)) (pgs_cons (pg_name (i := 6) scWCut.nd rfl (.inl rfl)) pgs_nil)))))
        (pss_cons (ps_cut (ps_if (pt_cmpR op_ne (pv 5) pe_str (nomark _))
          (pss_one (ps_fld (pv 0) (pe_meth (pe_fld (pv 0) rfl) T.kR (T.mR 53) GW.ok hr GW.b GW.v pass0 (pa_cons (pv 4) (pa_cons (pe_op op_sub (pe_op op_add (pv 4) (pe_callB call_len_str (by rfl) T.f PySem.boot_len (pa_cons (pv 5) pa_nil))) pe_int) pa_nil))) rfl)) pss_nil))
        (pss_cons (ps_fld (pv 0) (pe_callB (call_max2 rfl) (by rfl) T.f (by decide +kernel) (pa_cons (pe_fld (pv 0) rfl) (pa_cons (pe_op op_add (pv 4) (pe_callB call_len_str (by rfl) T.f PySem.boot_len (pa_cons (pv 5) pa_nil))) pa_nil))) rfl)
        (pss_one (ps_if (PW.pt (pw_and (pt_val (pv 6)) (pw_and1 (pt_cmpR op_ne (pe_fld (pv 0) rfl) pe_str (nomark _))))) (pss_one (ps_fld (pv 0) pe_str rfl)) pss_nil))))) pss_nil)
      (pss_one (ps_ret (pv 3)))), ?_⟩
    refine ⟨_, rfl, p, dx, _, rfl, x.at_, wn_due_piece, _, rfl, _, rfl, p, most, b, s, rfl, ⟨dx, rs, rh, x⟩, g, fun H1 run v s1 hrun hpc => ?_⟩
    have x1 := x.same s1
    refine ⟨_, rfl, rfl, _, rfl, ?_⟩
    cases hd : due s run most b with
    | none =>
      rw [hd] at hpc
      obtain rfl : v = .non := hpc
      refine iteF ⟨_, rfl, k H1 run _ rh (Kp.of s1) hrun (by rw [hd]; rfl) (by rw [hd]; exact x1) (.inl rfl)⟩
    | some q =>
      obtain ⟨a, z, last⟩ := q
      rw [hd] at hpc
      obtain ⟨t, rfl, ht⟩ := hpc
      have ok := due_ok g hrun hd
      have h0 := ok.a0
      have hu := ok.up
      have hn := g.len
      have hz : z.length ≤ sizeLine := line_big (by omega)
      refine iteT ⟨_, rfl, t, _, rfl, SqT.of ht, rfl, _, _, rfl, _, _, rfl, _, _, rfl, rfl, ?_⟩
      -- the holes
      refine ⟨fun σ' H' => σ' = [some (.ref p), some (.int most), some (bv b), some (.ref t), some (.int a), some (.str z), some (.bl last)] ∧ Kp [p] H1 H' ∧
        ∃ rh', WIn K H' p dx rs rh' { s with holes := fun n => s.holes n ∧ ¬ (a ≤ n ∧ n < a + (z.length : Int)) } ∧ (rh' = rh ∨ Fr K H1 H' rh'), ?_, ?_⟩
      case refine_2 =>
        refine ⟨_, rfl, rfl, _, rfl, ?_⟩
        rw [str_empty]
        by_cases hz0 : z.length = 0
        · rw [decide_eq_true hz0]
          refine iteF ⟨rfl, Kp.refl, rh, ⟨x1.at_, x1.safe, x1.holes.congr fun n => ?_⟩, .inl rfl⟩
          show s.holes n ↔ s.holes n ∧ ¬ (a ≤ n ∧ n < a + (z.length : Int))
          rw [hz0]
          constructor
          · exact fun h => ⟨h, by omega⟩
          · exact fun h => h.1
        · rw [decide_eq_false hz0]
          obtain ⟨rows, ⟨dr, l, ts, hr1, hr2, hr3⟩, hc, hm⟩ := x1.holes
          refine iteT ⟨_, rfl, p, cW K, dx, _, _, rfl, x1.at_, T.kW, T.nHoles, wf_holes, rh, dr, _, rfl, hr1, sn_without, _, rfl, _, rfl, _, rfl, _, rfl, hz, _, _, rfl, rfl, _, _, rfl, rfl, rh, s.holes, a, a + (z.length : Int) - 1, rfl, x1.holes, g.bdH, h0, by omega, by omega, fun H2 r2 s2 g2 fr => ?_⟩
          have x2 := x1.same s2
          refine ⟨_, rfl, p, cW K, dx, _, rfl, x2.at_, T.kW, T.nHoles, wf_len, ?_⟩
          rw [put_holes]
          refine ⟨rfl, (Kp.of s2).trans (Kp.put (by simp)), r2, x2.put T (s' := { s with holes := fun n => s.holes n ∧ ¬ (a ≤ n ∧ n < a + (z.length : Int)) }) x2.safe (g2.congr fun n => ?_), .inr fun dx' l' e => fr dx' l' ?_⟩
          · show s.holes n ∧ _ ↔ s.holes n ∧ _
            constructor
            · exact fun ⟨h, h'⟩ => ⟨h, by omega⟩
            · exact fun ⟨h, h'⟩ => ⟨h, by omega⟩
          · obtain ⟨_, ⟨_, _, _, hz, _⟩, _⟩ := g2
            rw [upd_ne (ne_of hz x2.at_ (by
              intro q
              injection q with q1 _ _
              exact T.ne q1))] at e
            exact e
      rintro σ' H2 ⟨rfl, k2, rh2, x2, fr2⟩
      refine ⟨_, rfl, p, cW K, dx, _, _, rfl, x2.at_, T.kW, T.nEdge, wf_edge, _, rfl, _, rfl, _, rfl, hz, _, _, rfl, rfl, _, _, rfl, ?_⟩
      have emax : (if a + (z.length : Int) > s.edge then a + (z.length : Int) else s.edge) = max s.edge (a + (z.length : Int)) := by split <;> omega
      refine ⟨_, rfl, p, cW K, dx, _, rfl, x2.at_, T.kW, T.nEdge, wf_len, ?_⟩
      rw [put_edge]
      have emax2 : (if a + (z.length : Int) > ({ s with holes := fun n => s.holes n ∧ ¬ (a ≤ n ∧ n < a + (z.length : Int)) } : WS).edge then a + (z.length : Int) else ({ s with holes := fun n => s.holes n ∧ ¬ (a ≤ n ∧ n < a + (z.length : Int)) } : WS).edge) = max s.edge (a + (z.length : Int)) := emax
      rw [emax2]
      have x3 := x2.put T (s' := { s with holes := fun n => s.holes n ∧ ¬ (a ≤ n ∧ n < a + (z.length : Int)), edge := max s.edge (a + (z.length : Int)) }) x2.safe x2.holes
      have k3 := (k2.trans (Kp.put (o := .ins (cW K) dx (wfs { s with holes := fun n => s.holes n ∧ ¬ (a ≤ n ∧ n < a + (z.length : Int)), edge := max s.edge (a + (z.length : Int)) } rs rh2)) (List.mem_singleton.mpr rfl)))
      have frK : ∀ {H3 : Hp}, Kp [p] H2 H3 → (rh2 = rh ∨ Fr K H H3 rh2) := fun {H3} kk => fr2.imp id fun f dx' l' e => s1.free (f dx' l' (by
        obtain ⟨_, ⟨dz, lz, _, hz1, _⟩, _⟩ := x2.holes
        have hnp : rh2 ≠ p := ne_of hz1 x2.at_ (by
          intro q
          injection q with q1 _ _
          exact T.ne q1)
        have h3 := kk _ _ (by simpa using hnp) hz1
        rw [h3] at e
        rw [hz1]
        exact e))
      have fin : ∀ H3, Kp [p] H1 H3 → Kp [p] H2 H3 → WIn K H3 p dx rs rh2 (cutF s (some (a, z, last))) → Q (.ref t) H3 := fun H3 k4 k5 x4 => k H3 run _ rh2 ((Kp.of s1).trans k4) hrun (by rw [hd]; exact ⟨t, rfl, k4.tup x1.hot ht⟩) (by rw [hd]; exact x4) (frK k5)
      refine ⟨_, rfl, last, rfl, ?_⟩
      cases last with
      | false =>
        refine iteF ⟨_, rfl, fin _ k3 (Kp.put (by simp)) x3⟩
      | true =>
        refine iteT ⟨_, rfl, p, cW K, dx, _, _, rfl, x3.at_, T.kW, T.nTail, wf_tail, rfl, _, rfl, ?_⟩
        refine iteE (congrArg (! ·) (tl_got s.tail)) ?_
        cases ht2 : decide (s.tail = .got) with
        | true =>
          refine iteF ⟨_, rfl, fin _ k3 (Kp.put (by simp)) ?_⟩
          have e : (cutF s (some (a, z, true))) = { s with holes := fun n => s.holes n ∧ ¬ (a ≤ n ∧ n < a + (z.length : Int)), edge := max s.edge (a + (z.length : Int)) } := by
            unfold cutF
            simp only [ht2, Bool.not_true, Bool.and_false, Bool.false_eq_true, if_false]
          rw [e]
          exact x3
        | false =>
          refine iteT ⟨_, rfl, p, cW K, dx, _, rfl, x3.at_, T.kW, T.nTail, wf_len, ?_⟩
          rw [put_tail]
          refine ⟨_, rfl, fin _ (k3.trans (Kp.put (by simp))) ((Kp.put (by simp)).trans (Kp.put (by simp))) ?_⟩
          have e : (cutF s (some (a, z, true))) = { s with holes := fun n => s.holes n ∧ ¬ (a ≤ n ∧ n < a + (z.length : Int)), edge := max s.edge (a + (z.length : Int)), tail := .sent } := by
            unfold cutF
            simp only [ht2, Bool.not_false, Bool.and_true, if_true]
          rw [e]
          exact x3.put T (s' := { s with holes := fun n => s.holes n ∧ ¬ (a ≤ n ∧ n < a + (z.length : Int)), edge := max s.edge (a + (z.length : Int)), tail := .sent }) x3.safe x3.holes
/-! ### would -/
theorem scWWould : FnScope ["self", "most", "fresh"] ["self", "most", "fresh"] (defScope sWWould) := ⟨rfl, rfl, rfl, by decide +kernel, rfl, by decide +kernel, by decide +kernel⟩
def spWWould (K : PySem.W.Frag) : Sp := fun vs H Q _ => ∃ (p : Addr) (most : Int) (b : Option Int) (s : WS), vs = [.ref p, .int most, bv b] ∧ WAt K H p s ∧ Gd s ∧
  ∀ H' run, Same H H' → RunOf s.holes run → Q (.bl (due s run most b).isSome) H'
theorem do_wWould (T : Tx K mg) : ∃ fd ds, DoK P w K mg base 4 (He.ma K (cW K) "would") (spWWould K) fd ds := by
  obtain ⟨fd, F⟩ := T.def_ 19
  obtain ⟨_, GD⟩ := do_wDue (P := P) (w := w) (base := base) T
  obtain ⟨ds, hv, hb⟩ := F.binds0 (ps := ["self", "most", "fresh"]) 2 (by intro z; cases z) rfl fun D doc pm an cdv ct us ks h1 h2 => match us, ks, h1, h2 with
    | [_, _], [_], _, _ => ⟨_, _, _, _, _, _, rfl, rfl, rfl⟩
  refine ⟨fd, ds, ok0 F scWWould (fun vs H Q E h => ?_) (fun cdv A outer s0 H vs Q E hr h => ?_), hb, hv, kb0 F 2 ["fresh"] fun kV doc pm an cdv ct us ws h1 h2 => match us, ws, h1, h2 with
    | [_, _], [_], _, _ => rfl⟩
  · obtain ⟨p, most, b, s, rfl, _⟩ := h
    rfl
  · obtain ⟨p, most, b, s, rfl, ⟨dx, rs, rh, x⟩, g, k⟩ := h
    refine ⟨_, pss_one (ps_ret (pe_cmpR op_notN (pe_meth (pv 0) T.kW (T.mW 58) GD.ok (hr.mono (by decide)) GD.b GD.v pass0 (pa_cons (pv 1) (pa_cons (pv 2) pa_nil))) pe_non (nomark _))), ?_⟩
    refine ⟨_, rfl, p, dx, _, rfl, x.at_, wn_due_piece, _, rfl, _, rfl, p, most, b, s, rfl, ⟨dx, rs, rh, x⟩, g, fun H1 run v s1 hrun hpc => ⟨rfl, ?_⟩⟩
    have kk := k H1 run s1 hrun
    cases hd : due s run most b with
    | none =>
      rw [hd] at hpc kk
      obtain rfl : v = .non := hpc
      exact kk
    | some q =>
      obtain ⟨a, z, last⟩ := q
      rw [hd] at hpc kk
      obtain ⟨t, rfl, ht⟩ := hpc
      exact kk
end
end K41

/-! Writer: check_sent, got, missed -/
namespace K41
open PySem PySem.Spec PyProof.Rows L2
section
variable {P : Program} {w : World} {K : PySem.W.Frag} {mg : Str → Option Value} {base : Heap}
/-- places that were sent -/
structure Snt (s : WS) (a k : Int) (l : Bool) : Prop where
  a0 : 0 ≤ a
  k0 : 0 ≤ k
  up : a + k ≤ s.edge
  un : l = true → s.tail ≠ .un
theorem scWCheck : FnScope ["self", "at", "many", "last"] ["self", "at", "many", "last"] (defScope sWCheck) := ⟨rfl, rfl, rfl, by decide +kernel, rfl, by decide +kernel, by decide +kernel⟩
def spWCheck (K : PySem.W.Frag) : Sp := fun vs H Q _ => ∃ (p : Addr) (a k : Int) (l : Bool) (s : WS), vs = [.ref p, .int a, .int k, .bl l] ∧ WAt K H p s ∧ Snt s a k l ∧ Q .non H
theorem do_wCheck (T : Tx K mg) : ∃ fd, Do P w K mg base 1 (He.ma K (cW K) "check_sent") ["self", "at", "many", "last"] [] (spWCheck K) fd [] := by
  obtain ⟨fd, F⟩ := T.def_ 20
  refine ⟨fd, ok0 F scWCheck (fun vs H Q E h => ?_) (fun cdv A outer s0 H vs Q E hr h => ?_), F.bindsN fun _ _ _ _ _ _ us hl => match us, hl with | [_, _, _, _], _ => rfl, .nil, F.kp⟩
  · obtain ⟨p, a, k, l, s, rfl, _⟩ := h
    rfl
  · obtain ⟨p, a, k, l, s, rfl, ⟨dx, rs, rh, x⟩, sn, q⟩ := h
    refine ⟨_, pss_one (ps_if (PW.pt (pw_or (pt_cmpR op_gt (pe_op op_add (pv 1) (pv 2)) (pe_fld (pv 0) rfl) (nomark _)) (pw_or1 (PW.pt (pw_and (pt_val (pv 3)) (pw_and1 (pt_cmpR op_eq (pe_fld (pv 0) rfl) pe_str (nomark _)))))))) (pss_one ps_never) pss_nil), ?_⟩
    refine ⟨_, rfl, _, rfl, _, _, rfl, rfl, _, rfl, p, cW K, dx, _, _, rfl, x.at_, T.kW, T.nEdge, wf_edge, _, _, rfl, rfl, _, rfl, ?_⟩
    refine iteDF (by have := sn.up; omega) ⟨_, rfl, l, rfl, ?_⟩
    cases l with
    | false => exact iteF (iteF q)
    | true =>
      refine iteT ⟨_, rfl, p, cW K, dx, _, _, rfl, x.at_, T.kW, T.nTail, wf_tail, rfl, _, rfl, ?_⟩
      rw [tl_un, decide_eq_false (sn.un rfl)]
      exact iteF q
/-! ### got -/
theorem scWGot : FnScope ["self", "at", "many", "last"] ["self", "at", "many", "last"] (defScope sWGot) := ⟨rfl, rfl, rfl, by decide +kernel, rfl, by decide +kernel, by decide +kernel⟩
def spWGot (K : PySem.W.Frag) : Sp := fun vs H Q _ => ∃ (p : Addr) (a k : Int) (l : Bool) (s : WS), vs = [.ref p, .int a, .int k, .bl l] ∧ WAt K H p s ∧ Gd s ∧ Snt s a k l ∧ ∀ H', Kp [p] H H' → WAt K H' p (gotF s a k l) → Q .non H'
theorem do_wGot (T : Tx K mg) : ∃ fd ds, Do P w K mg base 7 (He.ma K (cW K) "got") ["self", "at", "many", "last"] [] (spWGot K) fd [] ∧ Do P w K mg base 7 (He.ma K (cW K) "got") ["self", "at", "many", "last"] [.bl false] (spWGot K) fd ds := by
  obtain ⟨fd, F⟩ := T.def_ 21
  obtain ⟨_, GC⟩ := do_wCheck (P := P) (w := w) (base := base) T
  obtain ⟨_, GA⟩ := do_rAdded (P := P) (w := w) (base := base) T
  obtain ⟨_, GW⟩ := do_rWithout (P := P) (w := w) (base := base) T
  have ok : FnOk P w K mg base CX0 7 (He.ma K (cW K) "got") fd ["self", "at", "many", "last"] (spWGot K) := by
    refine ok0 F scWGot (fun vs H Q E h => ?_) (fun cdv A outer s0 H vs Q E hr h => ?_)
    · obtain ⟨p, a, k, l, s, rfl, _⟩ := h
      rfl
    · obtain ⟨p, a, k, l, s, rfl, ⟨dx, rs, rh, x⟩, g, sn, q⟩ := h
      refine ⟨_, pss_cons (ps_expr (pe_meth (pv 0) T.kW (T.mW 61) GC.ok (hr.mono (by decide)) GC.b GC.v pass0 (pa_cons (pv 1) (pa_cons (pv 2) (pa_cons (pv 3) pa_nil)))))
        (pss_cons (ps_cut (ps_if (pt_cmpR op_gt (pv 2) pe_int (nomark _))
          (pss_cons (ps_fld (pv 0) (pe_meth (pe_fld (pv 0) rfl) T.kR (T.mR 52) GA.ok hr GA.b GA.v pass0 (pa_cons (pv 1) (pa_cons (pe_op op_sub (pe_op op_add (pv 1) (pv 2)) pe_int) pa_nil))) rfl)
          (pss_one (ps_fld (pv 0) (pe_meth (pe_fld (pv 0) rfl) T.kR (T.mR 53) GW.ok hr GW.b GW.v pass0 (pa_cons (pv 1) (pa_cons (pe_op op_sub (pe_op op_add (pv 1) (pv 2)) pe_int) pa_nil))) rfl))) pss_nil))
        (pss_one (ps_if (pt_val (pv 3)) (pss_one (ps_fld (pv 0) pe_str rfl)) pss_nil))), ?_⟩
      have h1 := sn.a0
      have h2 := sn.k0
      have h3 := sn.up
      have h4 := g.el
      have h5 := g.len
      refine ⟨_, rfl, p, dx, _, rfl, x.at_, wn_check_sent, _, rfl, _, rfl, _, rfl, p, a, k, l, s, rfl, ⟨dx, rs, rh, x⟩, sn, ?_⟩
      refine ⟨fun σ' H' => σ' = [some (.ref p), some (.int a), some (.int k), some (.bl l)] ∧ Kp [p] H H' ∧ ∃ rs' rh', WIn K H' p dx rs' rh' (gotF s a k false), ?_, ?_⟩
      case refine_2 =>
        refine ⟨_, rfl, _, _, rfl, rfl, _, rfl, ?_⟩
        by_cases c : 0 < k
        · obtain ⟨rows, ⟨dr, ll, ts, hr1, hr2, hr3⟩, hc, hm⟩ := x.safe
          refine iteD c ⟨_, rfl, p, cW K, dx, _, _, rfl, x.at_, T.kW, T.nSafe, wf_safe, rs, dr, _, rfl, hr1, sn_added, _, rfl, _, rfl, _, rfl, _, _, rfl, rfl, _, _, rfl, rfl, rs, s.safe, a, a + k - 1, rfl, x.safe, g.bdS, h1, by omega, by omega, fun H2 r2 s2 g2 => ?_⟩
          have x2 := x.same s2
          refine ⟨_, rfl, p, cW K, dx, _, rfl, x2.at_, T.kW, T.nSafe, wf_len, ?_⟩
          rw [put_safe]
          have x3 := x2.put T (s' := { s with safe := fun n => s.safe n ∨ (a ≤ n ∧ n < a + k) }) (g2.congr fun n => by
            show s.safe n ∨ _ ↔ s.safe n ∨ _
            constructor
            · rintro (h | h)
              · exact .inl h
              · exact .inr (by omega)
            · rintro (h | h)
              · exact .inl h
              · exact .inr (by omega)) x2.holes
          obtain ⟨rows', ⟨dr', ll', ts', hs1, hs2, hs3⟩, hc', hm'⟩ := x3.holes
          refine ⟨_, rfl, p, cW K, dx, _, _, rfl, x3.at_, T.kW, T.nHoles, wf_holes, rh, dr', _, rfl, hs1, sn_without, _, rfl, _, rfl, _, rfl, _, _, rfl, rfl, _, _, rfl, rfl, rh, s.holes, a, a + k - 1, rfl, x3.holes, g.bdH, h1, by omega, by omega, fun H3 r3 s3 g3 _ => ?_⟩
          have x4 := x3.same s3
          refine ⟨_, rfl, p, cW K, dx, _, rfl, x4.at_, T.kW, T.nHoles, wf_len, ?_⟩
          rw [put_holes]
          refine ⟨rfl, (((Kp.of s2).trans (Kp.put (by simp))).trans (Kp.of s3)).trans (Kp.put (by simp)), r2, r3, x4.put T (s' := gotF s a k false) x4.safe (g3.congr fun n => ?_)⟩
          show s.holes n ∧ _ ↔ s.holes n ∧ _
          constructor
          · exact fun ⟨h, h'⟩ => ⟨h, by omega⟩
          · exact fun ⟨h, h'⟩ => ⟨h, by omega⟩
        · refine iteDF c ⟨rfl, Kp.refl, rs, rh, x.at_, x.safe.congr fun n => ?_, x.holes.congr fun n => ?_⟩
          · show s.safe n ↔ s.safe n ∨ (a ≤ n ∧ n < a + k)
            exact ⟨.inl, fun h => h.elim id fun h => by omega⟩
          · show s.holes n ↔ s.holes n ∧ ¬ (a ≤ n ∧ n < a + k)
            exact ⟨fun h => ⟨h, by omega⟩, fun h => h.1⟩
      rintro σ' H2 ⟨rfl, k2, rs2, rh2, x2⟩
      refine ⟨_, rfl, l, rfl, ?_⟩
      cases l with
      | false => exact iteF (q _ k2 ⟨dx, rs2, rh2, x2⟩)
      | true =>
        refine iteT ⟨_, rfl, p, cW K, dx, _, rfl, x2.at_, T.kW, T.nTail, wf_len, ?_⟩
        rw [put_tail]
        exact q _ (k2.trans (Kp.put (by simp))) ⟨dx, rs2, rh2, x2.put T (s' := gotF s a k true) x2.safe x2.holes⟩
  obtain ⟨ds, hv, hb⟩ := F.binds1 (ps := ["self", "at", "many", "last"]) 3 0 (by intro z; cases z) rfl fun T kV doc pm an cdv ct us its h1 h2 => match us, its, h1, h2 with
    | [_, _, _], [_], _, _ => ⟨_, rfl, rfl⟩
  obtain ⟨ds0, hv0, hb0⟩ := F.binds1 (ps := ["self", "at", "many", "last"]) 4 1 (by intro z; cases z) rfl fun T kV doc pm an cdv ct us its h1 h2 => match us, its, h1, h2 with
    | [_, _, _, _], [_], _, _ => ⟨_, rfl, rfl⟩
  obtain rfl : ds0 = [] := by cases hv0; rfl
  exact ⟨fd, ds, ⟨ok, hb0, .nil, F.kp⟩, ⟨ok, hb, hv, F.kp⟩⟩
/-! ### missed -/
theorem scWMissed : FnScope ["self", "at", "many", "last", "first", "behind"] ["self", "at", "many", "last"] (defScope sWMissed) := ⟨rfl, rfl, rfl, by decide +kernel, rfl, by decide +kernel, by decide +kernel⟩
def spWMissed (K : PySem.W.Frag) : Sp := fun vs H Q _ => ∃ (p : Addr) (a k : Int) (l : Bool) (s : WS), vs = [.ref p, .int a, .int k, .bl l] ∧ WAt K H p s ∧ Gd s ∧ Snt s a k l ∧ ∀ H', Kp [p] H H' → WAt K H' p (misF s a k l) → Q .non H'
theorem do_wMissed (T : Tx K mg) : ∃ fd, Do P w K mg base 7 (He.ma K (cW K) "missed") ["self", "at", "many", "last"] [] (spWMissed K) fd [] := by
  obtain ⟨fd, F⟩ := T.def_ 22
  obtain ⟨_, GC⟩ := do_wCheck (P := P) (w := w) (base := base) T
  obtain ⟨_, GA⟩ := do_rAdded (P := P) (w := w) (base := base) T
  obtain ⟨_, GL⟩ := do_rLacking (P := P) (w := w) (base := base) T
  obtain ⟨ds0, hv0, hb0⟩ := F.binds1 (ps := ["self", "at", "many", "last"]) 4 1 (by intro z; cases z) rfl fun T kV doc pm an cdv ct us its h1 h2 => match us, its, h1, h2 with
    | [_, _, _, _], [_], _, _ => ⟨_, rfl, rfl⟩
  obtain rfl : ds0 = [] := by cases hv0; rfl
  refine ⟨fd, ok0 F scWMissed (fun vs H Q E h => ?_) (fun cdv A outer s0 H vs Q E hr h => ?_), hb0, .nil, F.kp⟩
  · obtain ⟨p, a, k, l, s, rfl, _⟩ := h
    rfl
  · obtain ⟨p, a, k, l, s, rfl, ⟨dx, rs, rh, x⟩, g, sn, q⟩ := h
    refine ⟨_, pss_cons (ps_expr (pe_meth (pv 0) T.kW (T.mW 61) GC.ok (hr.mono (by decide)) GC.b GC.v pass0 (pa_cons (pv 1) (pa_cons (pv 2) (pa_cons (pv 3) pa_nil)))))
      (pss_cons (ps_if (pt_cmpR op_eq (pe_fld (pv 0) rfl) pe_str (nomark _)) (pss_one ps_retN) pss_nil)
      (pss_cons (ps_cut (ps_if (pt_cmpR op_gt (pv 2) pe_int (nomark _))
        (pss_one (ps_for PassesOwn.never rfl (pi_list (pe_meth (pe_fld (pv 0) rfl) T.kR (T.mR 54) GL.ok (hr.mono (by decide)) GL.b GL.v pass0 (pa_cons (pv 1) (pa_cons (pe_op op_sub (pe_op op_add (pv 1) (pv 2)) pe_int) pa_nil))))
          (pg_tup rfl (pgs_cons (pg_name (i := 4) scWMissed.nd rfl (.inl rfl)) (pgs_cons (pg_name (i := 5) scWMissed.nd rfl (.inl rfl)) pgs_nil)))
          (pss_one (ps_fld (pv 0) (pe_meth (pe_fld (pv 0) rfl) T.kR (T.mR 52) GA.ok hr GA.b GA.v pass0 (pa_cons (pv 4) (pa_cons (pv 5) pa_nil))) rfl)))) pss_nil))
      (pss_one (ps_if (PW.pt (pw_and (pt_val (pv 3)) (pw_and1 (pt_cmpR op_ne (pe_fld (pv 0) rfl) pe_str (nomark _))))) (pss_one (ps_fld (pv 0) pe_str rfl)) pss_nil)))), ?_⟩
    have h1 := sn.a0
    have h2 := sn.k0
    have h3 := sn.up
    have h4 := g.el
    have h5 := g.len
    refine ⟨_, rfl, p, dx, _, rfl, x.at_, wn_check_sent, _, rfl, _, rfl, _, rfl, p, a, k, l, s, rfl, ⟨dx, rs, rh, x⟩, sn, ?_⟩
    refine ⟨_, rfl, p, cW K, dx, _, _, rfl, x.at_, T.kW, T.nMood, wf_mood, rfl, _, rfl, iteE (mood_broken _) (iteF ?_)⟩
    refine ⟨fun σ' H' => ∃ v4 v5, σ' = [some (.ref p), some (.int a), some (.int k), some (.bl l), v4, v5] ∧ Kp [p] H H' ∧ ∃ rh', WIn K H' p dx rs rh' (misF s a k false), ?_, ?_⟩
    case refine_2 =>
      refine ⟨_, rfl, _, _, rfl, rfl, _, rfl, ?_⟩
      by_cases c : 0 < k
      · obtain ⟨rows, ⟨dr, ll, ts, hr1, hr2, hr3⟩, hc, hm⟩ := x.safe
        refine iteD c ⟨_, rfl, p, cW K, dx, _, _, rfl, x.at_, T.kW, T.nSafe, wf_safe, rs, dr, _, rfl, hr1, sn_lacking, _, rfl, _, rfl, _, rfl, _, _, rfl, rfl, _, _, rfl, rfl, rs, s.safe, a, a + k - 1, rfl, x.safe, g.bdS, fun H2 l2 ts2 qs s2 nl2 hl2 hq2 hle hmq => ?_⟩
        have x2 := x.same s2
        have bq : ∀ q ∈ qs, a ≤ q.1 ∧ q.1 ≤ q.2 ∧ q.2 ≤ a + k - 1 := fun q hq => by
          have z1 := (hmq q.1).mp ⟨q, hq, Int.le_refl _, hle q hq⟩
          have z2 := (hmq q.2).mp ⟨q, hq, hle q hq, Int.le_refl _⟩
          exact ⟨z1.1, hle q hq, z2.2.1⟩
        refine ⟨l2, rfl, ⟨_, SqL.of hl2⟩, for_list (K := K) (a := l2) (xs := ts2) (fun i σ' H' => ∃ v4 v5, σ' = [some (.ref p), some (.int a), some (.int k), some (.bl l), v4, v5] ∧ Kp [p] H2 H' ∧ ∃ rh', WIn K H' p dx rs rh' { s with holes := fun n => s.holes n ∨ Mem (qs.take i) n })
          ⟨none, none, rfl, Kp.refl, rh, x2.at_, x2.safe, x2.holes.congr fun n => ⟨.inl, fun h => h.elim id fun h => (mem_nil h).elim⟩⟩ ?_ ?_ ?_⟩
        · rintro i σ' H' _ ⟨_, _, _, kp, _⟩
          exact SqL.of (kp.lst x2.hot hl2)
        · rintro i y σ' H' hy ⟨v4, v5, rfl, kp, rh', y'⟩
          obtain ⟨r, hr0, t, rfl, ht⟩ := hq2.at_ hy
          have br := bq r (List.mem_of_getElem? hr0)
          refine ⟨t, _, rfl, SqT.of (kp.tup x2.hot ht), rfl, _, _, rfl, _, _, rfl, rfl, ?_⟩
          obtain ⟨rows', ⟨dr', ll', ts', hs1, hs2, hs3⟩, hc', hm'⟩ := y'.holes
          refine ⟨_, rfl, p, cW K, dx, _, _, rfl, y'.at_, T.kW, T.nHoles, wf_holes, rh', dr', _, rfl, hs1, sn_added, _, rfl, _, rfl, rh', _, r.1, r.2, rfl, y'.holes, ?_, by omega, by omega, by omega, fun H3 r3 s3 g3 => ?_⟩
          · rintro n (h | ⟨z, hz, h⟩)
            · exact g.bdH n h
            · have := bq z (List.mem_of_mem_take hz)
              omega
          have y3 := y'.same s3
          refine ⟨_, rfl, p, cW K, dx, _, rfl, y3.at_, T.kW, T.nHoles, wf_len, ?_⟩
          rw [put_holes]
          refine ⟨_, _, rfl, (kp.trans (Kp.of s3)).trans (Kp.put (by simp)), r3, y3.put T (s' := { s with holes := fun n => s.holes n ∨ Mem (qs.take (i + 1)) n }) y3.safe (g3.congr fun n => ?_)⟩
          show (s.holes n ∨ Mem (qs.take i) n) ∨ (r.1 ≤ n ∧ n ≤ r.2) ↔ s.holes n ∨ Mem (qs.take (i + 1)) n
          rw [take_at hr0, mem_append, mem_one, or_assoc]
        · rintro σ' H' ⟨v4, v5, rfl, kp, rh', y'⟩
          refine ⟨v4, v5, rfl, (Kp.of s2).trans kp, rh', y'.at_, y'.safe, y'.holes.congr fun n => ?_⟩
          show s.holes n ∨ Mem (qs.take ts2.length) n ↔ s.holes n ∨ ((a ≤ n ∧ n < a + k) ∧ ¬ s.safe n)
          rw [hq2.len, List.take_length, hmq]
          constructor
          · rintro (h | h)
            · exact .inl h
            · exact .inr ⟨by omega, h.2.2⟩
          · rintro (h | h)
            · exact .inl h
            · exact .inr ⟨by omega, by omega, h.2⟩
      · refine iteDF c ⟨none, none, rfl, Kp.refl, rh, x.at_, x.safe, x.holes.congr fun n => ?_⟩
        show s.holes n ↔ s.holes n ∨ ((a ≤ n ∧ n < a + k) ∧ ¬ s.safe n)
        exact ⟨.inl, fun h => h.elim id fun h => by omega⟩
    rintro σ' H2 ⟨v4, v5, rfl, k2, rh2, x2⟩
    refine ⟨_, rfl, l, rfl, ?_⟩
    cases l with
    | false => exact iteF (q _ k2 ⟨dx, rs, rh2, x2⟩)
    | true =>
      refine iteT ⟨_, rfl, p, cW K, dx, _, _, rfl, x2.at_, T.kW, T.nTail, wf_tail, rfl, _, rfl, ?_⟩
      refine iteE (congrArg (! ·) (tl_got s.tail)) ?_
      cases ht2 : decide (s.tail = .got) with
      | true =>
        refine iteF (q _ k2 ⟨dx, rs, rh2, ?_⟩)
        have e : misF s a k true = misF s a k false := by
          unfold misF
          simp only [ht2, Bool.not_true, Bool.and_false, Bool.false_and]
        rw [e]
        exact x2
      | false =>
        refine iteT ⟨_, rfl, p, cW K, dx, _, rfl, x2.at_, T.kW, T.nTail, wf_len, ?_⟩
        rw [put_tail]
        refine q _ (k2.trans (Kp.put (by simp))) ⟨dx, rs, rh2, ?_⟩
        have e : misF s a k true = { misF s a k false with tail := .mis } := by
          unfold misF
          simp only [ht2, Bool.not_false, Bool.and_true, if_true]
        rw [e]
        exact x2.put T (s' := { misF s a k false with tail := .mis }) x2.safe x2.holes
end
end K41

/-! writer_of -/
namespace K41
open PySem PySem.Spec PyProof.Rows L2
section
variable {P : Program} {w : World} {K : PySem.W.Frag} {mg : Str → Option Value} {base : Heap}
theorem mk_wI {H : Hp} {x dx : Addr} {lane limit : Int} {Q : VK} {E : XK} (nx : H x = none) (ndx : H dx = none) (nex : dx ≠ x) (k : ∀ H2, Same H H2 → WAt K H2 x (WS.new lane limit) → Q .non H2) :
    spWInit K [.ref x, .int lane, .int limit] (upd (upd H dx (.own x)) x (.ins (cW K) dx [])) Q E := by
  have s1 : Same H (upd (upd H dx (.own x)) x (.ins (cW K) dx [])) := (Same.new ndx).trans (Same.new (by rw [upd_ne nex.symm]; exact nx))
  refine ⟨x, dx, lane, limit, rfl, upd_same, fun H' kp hr => k H' (fun c o hc => ?_) hr⟩
  exact kp _ _ (by simpa using ne_of_none hc nx) (s1 _ _ hc)
theorem scWriterOf : FnScope ["stored", "lane", "text", "limit", "edge", "rows", "mood", "tail", "writer"] ["stored"] (defScope sWriterOf) := ⟨rfl, rfl, rfl, by decide +kernel, rfl, by decide +kernel, by decide +kernel⟩
def spWriterOf (K : PySem.W.Frag) : Sp := fun vs H Q _ => ∃ (q : Addr) (s : WS), vs = [.ref q] ∧ StAt H q s ∧ Gd s ∧ ∀ H' p, Same H H' → H p = none → WAt K H' p s → Q (.ref p) H'
theorem do_writerOf (T : Tx K mg) : ∃ fd, Do P w K mg base 8 (He.ga K "writer_of") ["stored"] [] (spWriterOf K) fd [] := by
  obtain ⟨fd, F⟩ := T.def_ 30
  obtain ⟨_, GI⟩ := do_wInit (P := P) (w := w) (base := base) T
  obtain ⟨_, _, GR, _⟩ := do_rInit (P := P) (w := w) (base := base) T
  refine ⟨fd, ok0 F scWriterOf (fun vs H Q E h => ?_) (fun cdv A outer s0 H vs Q E hr h => ?_), F.bindsN fun _ _ _ _ _ _ us hl => match us, hl with | [_], _ => rfl, .nil, F.kp⟩
  · obtain ⟨q, s, rfl, _⟩ := h
    rfl
  · obtain ⟨q, s, rfl, ⟨r1, r2, ⟨t, t1, t2, us1, us2, h0, ht, ht1, ht2, hu1, hu2⟩, c1, m1, c2, m2⟩, g, k⟩ := h
    refine ⟨_, pss_cons (ps_asg (pv 0) (pg_tup rfl (pgs_cons (pg_name (i := 1) scWriterOf.nd rfl (.inl rfl)) (pgs_cons (pg_name (i := 2) scWriterOf.nd rfl (.inl rfl)) (pgs_cons (pg_name (i := 3) scWriterOf.nd rfl (.inl rfl))
        (pgs_cons (pg_name (i := 4) scWriterOf.nd rfl (.inl rfl)) (pgs_cons (pg_name (i := 5) scWriterOf.nd rfl (.inl rfl)) (pgs_cons (pg_name (i := 6) scWriterOf.nd rfl (.inl rfl)) (pgs_cons (pg_name (i := 7) scWriterOf.nd rfl (.inl rfl)) pgs_nil)))))))))
      (pss_cons (ps_set (i := 8) scWriterOf.nd rfl (.inl rfl) (pe_make T.mkW GI.ok hr (by rfl) T.g GI.b GI.v pass0 (pa_cons (pv 1) (pa_cons (pv 3) pa_nil))))
      (pss_cons (ps_fld (pv 8) (pv 2) rfl) (pss_cons (ps_fld (pv 8) (pv 4) rfl)
      (pss_cons (ps_fld (pv 8) (pe_make T.mkR GR.ok (hr.mono (by decide)) (by rfl) T.g GR.b GR.v pass0 (pa_cons (pe_ix ix_tup (pv 5) pe_int (fun _ _ => rfl)) pa_nil)) rfl)
      (pss_cons (ps_fld (pv 8) (pe_make T.mkR GR.ok (hr.mono (by decide)) (by rfl) T.g GR.b GR.v pass0 (pa_cons (pe_ix ix_tup (pv 5) pe_int (fun _ _ => rfl)) pa_nil)) rfl)
      (pss_cons (ps_fld (pv 8) (pv 6) rfl) (pss_cons (ps_fld (pv 8) (pv 7) rfl) (pss_one (ps_ret (pv 8)))))))))), ?_⟩
    refine ⟨_, rfl, q, _, rfl, SqT.of h0, rfl, _, _, rfl, _, _, rfl, _, _, rfl, _, _, rfl, _, _, rfl, _, _, rfl, _, _, rfl, rfl, ?_⟩
    refine ⟨_, rfl, _, rfl, ?_⟩
    intro p px np npx nep
    refine mk_wI np npx nep fun H1 s1 w1 => ⟨rfl, ?_⟩
    obtain ⟨dx, rs, rh, x1⟩ := w1
    refine ⟨_, rfl, _, rfl, p, cW K, dx, _, rfl, x1.at_, T.kW, T.nText, wf_len, ?_⟩
    rw [put_text]
    have x2 := x1.put T (s' := { WS.new s.lane s.limit with text := s.text }) x1.safe x1.holes
    have k2 : Kp [p] H1 _ := Kp.put (o := .ins (cW K) dx (wfs { WS.new s.lane s.limit with text := s.text } rs rh)) (List.mem_singleton.mpr rfl)
    refine ⟨_, rfl, _, rfl, p, cW K, dx, _, rfl, x2.at_, T.kW, T.nEdge, wf_len, ?_⟩
    rw [put_edge]
    have x3 := x2.put T (s' := { WS.new s.lane s.limit with text := s.text, edge := s.edge }) x2.safe x2.holes
    have k3 := k2.trans (Kp.put (o := .ins (cW K) dx (wfs { WS.new s.lane s.limit with text := s.text, edge := s.edge } rs rh)) (List.mem_singleton.mpr rfl))
    have old : ∀ {H2 : Hp}, Kp [p] H1 H2 → Same H H2 := fun kk c o hc => kk _ _ (by simpa using ne_of_none hc np) (s1 _ _ hc)
    have S3 := old k3
    refine ⟨_, rfl, t, _, _, _, rfl, rfl, SqT.of (S3 _ _ ht), rfl, ?_⟩
    intro y1 e1 ny1 ne1 nn1
    have len1 : us1.length ≤ 1000000 := by
      have := rows_len c1 m1 g.bdS
      have := hu1.len
      omega
    have len2 : us2.length ≤ 1000000 := by
      have := rows_len c2 m2 g.bdH
      have := hu2.len
      omega
    refine mk_rgI ny1 ne1 nn1 (.inr (SqT.of (S3 _ _ ht1))) (hu1.same S3) (rows_pr c1 m1 g.bdS) len1 fun H4 s4 g4 => ⟨rfl, ?_⟩
    have x4 := x3.same s4
    refine ⟨_, rfl, p, cW K, dx, _, rfl, x4.at_, T.kW, T.nSafe, wf_len, ?_⟩
    rw [put_safe]
    have x5 := x4.put T (s' := { WS.new s.lane s.limit with text := s.text, edge := s.edge, safe := s.safe }) (g4.congr m1) x4.holes
    have k5 := (k3.trans (Kp.of s4)).trans (Kp.put (o := .ins (cW K) dx (wfs { WS.new s.lane s.limit with text := s.text, edge := s.edge, safe := s.safe } y1 rh)) (List.mem_singleton.mpr rfl))
    have S5 := old k5
    refine ⟨_, rfl, t, _, _, _, rfl, rfl, SqT.of (S5 _ _ ht), rfl, ?_⟩
    intro y2 e2 ny2 ne2 nn2
    refine mk_rgI ny2 ne2 nn2 (.inr (SqT.of (S5 _ _ ht2))) (hu2.same S5) (rows_pr c2 m2 g.bdH) len2 fun H6 s6 g6 => ⟨rfl, ?_⟩
    have x6 := x5.same s6
    refine ⟨_, rfl, p, cW K, dx, _, rfl, x6.at_, T.kW, T.nHoles, wf_len, ?_⟩
    rw [put_holes]
    have x7 := x6.put T (s' := { WS.new s.lane s.limit with text := s.text, edge := s.edge, safe := s.safe, holes := s.holes }) x6.safe (g6.congr m2)
    have k7 := (k5.trans (Kp.of s6)).trans (Kp.put (o := .ins (cW K) dx (wfs { WS.new s.lane s.limit with text := s.text, edge := s.edge, safe := s.safe, holes := s.holes } y1 y2)) (List.mem_singleton.mpr rfl))
    refine ⟨_, rfl, _, rfl, p, cW K, dx, _, rfl, x7.at_, T.kW, T.nMood, wf_len, ?_⟩
    rw [put_mood]
    have x8 := x7.put T (s' := { WS.new s.lane s.limit with text := s.text, edge := s.edge, safe := s.safe, holes := s.holes, fin := s.fin }) x7.safe x7.holes
    have k8 := k7.trans (Kp.put (o := .ins (cW K) dx (wfs { WS.new s.lane s.limit with text := s.text, edge := s.edge, safe := s.safe, holes := s.holes, fin := s.fin } y1 y2)) (List.mem_singleton.mpr rfl))
    refine ⟨_, rfl, _, rfl, p, cW K, dx, _, rfl, x8.at_, T.kW, T.nTail, wf_len, ?_⟩
    rw [put_tail]
    have x9 := x8.put T (s' := s) x8.safe x8.holes
    have k9 := k8.trans (Kp.put (o := .ins (cW K) dx (wfs s y1 y2)) (List.mem_singleton.mpr rfl))
    exact ⟨_, rfl, k _ p (old k9) np ⟨dx, y1, y2, x9⟩⟩
end
end K41

/-! the law's own: cells, mixed numbers, letters -/
namespace K41
open PySem PySem.Spec PyProof.Rows L2
section
variable {P : Program} {w : World} {K : PySem.W.Frag} {mg : Str → Option Value} {base : Heap}
theorem scCell : FnScope ["_law_script", "_law_k"] ["_law_script", "_law_k"] (defScope sCell) := ⟨rfl, rfl, rfl, by decide +kernel, rfl, by decide +kernel, by decide +kernel⟩
def spCell (K : PySem.W.Frag) : Sp := fun vs H Q _ => ∃ (a : Addr) (ns : List Int) (k : Int), vs = [.ref a, .int k] ∧ SqL K H a (ns.map V.int) ∧ 0 ≤ k ∧ k ≤ 1000 ∧ ∀ c : Int, Q (.int c) H
theorem do_cell (T : Tx K mg) : ∃ fd, Do P w K mg base 1 (He.ga K "_law_cell") ["_law_script", "_law_k"] [] (spCell K) fd [] := by
  obtain ⟨fd, F⟩ := T.def_ 31
  refine ⟨fd, ok0 F scCell (fun vs H Q E h => ?_) (fun cdv A outer s0 H vs Q E hr h => ?_), F.bindsN fun _ _ _ _ _ _ us hl => match us, hl with | [_, _], _ => rfl, .nil, F.kp⟩
  · obtain ⟨a, ns, k, rfl, _⟩ := h
    rfl
  · obtain ⟨a, ns, k, rfl, hs, h0, h1, q⟩ := h
    refine ⟨_, pss_cons (ps_if (pt_cmpR op_lt (pv 1) (pe_callB call_len_seq (by rfl) T.f PySem.boot_len (pa_cons (pv 0) pa_nil)) (nomark _)) (pss_one (ps_ret (pe_ix ix_list (pv 0) (pv 1) (fun _ _ => rfl)))) pss_nil)
      (pss_one (ps_ret (pe_op op_add pe_int (pe_op op_mul pe_int (pv 1))))), ?_⟩
    refine ⟨_, rfl, _, rfl, a, _, rfl, .inl hs, _, _, rfl, rfl, _, rfl, ?_⟩
    by_cases c : k < ((ns.map V.int).length : Int)
    · obtain ⟨j, rfl⟩ := Int.eq_ofNat_of_zero_le h0
      have hj : j < (ns.map V.int).length := Int.ofNat_lt.mp c
      have hj' : j < ns.length := by rw [List.length_map] at hj; exact hj
      refine iteD c ⟨_, rfl, _, rfl, a, _, _, _, rfl, rfl, hs, atI_nat (j := j) (List.getElem?_eq_getElem hj), ?_⟩
      rw [List.getElem_map]
      exact q _
    · refine iteDF c ⟨_, rfl, _, _, rfl, rfl, .inl ⟨by decide, by decide⟩, _, _, rfl, rfl, q _⟩
/-! ### mix -/
theorem scMix : FnScope ["_law_cell_here", "_law_k", "_law_number", "_law_j"] ["_law_cell_here", "_law_k"] (defScope sMix) := ⟨rfl, rfl, rfl, by decide +kernel, rfl, by decide +kernel, by decide +kernel⟩
def spMix : Sp := fun vs H Q _ => ∃ (c k : Int), vs = [.int c, .int k] ∧ 0 ≤ k ∧ k ≤ 1000000 ∧ ∀ m : Int, 0 ≤ m → m < 1000000 → Q (.int m) H
theorem modlt {a b : Int} (h : 0 < b) : 0 ≤ a % b ∧ a % b < b := ⟨Int.emod_nonneg _ (by omega), Int.emod_lt_of_pos _ h⟩
theorem pow63 : ((10 : Int) ^ 63).natAbs < 2 ^ 210 := by decide +kernel
theorem do_mix (T : Tx K mg) : ∃ fd, Do P w K mg base 1 (He.ga K "_law_mix") ["_law_cell_here", "_law_k"] [] spMix fd [] := by
  obtain ⟨fd, F⟩ := T.def_ 32
  refine ⟨fd, ok0 F scMix (fun vs H Q E h => ?_) (fun cdv A outer s0 H vs Q E hr h => ?_), F.bindsN fun _ _ _ _ _ _ us hl => match us, hl with | [_, _], _ => rfl, .nil, F.kp⟩
  · obtain ⟨c, k, rfl, _⟩ := h
    rfl
  · obtain ⟨c, k, rfl, h0, h1, q⟩ := h
    refine ⟨_, pss_cons (ps_cut (ps_if (pt_cmpR op_ge (pv 0) (pe_op op_pow pe_int pe_int) (nomark _))
        (pss_cons (ps_set (i := 2) scMix.nd rfl (.inl rfl) (pe_op op_mod (pv 0) (pe_op op_mulW (pe_op op_mulW (pe_op op_mulW (pe_op op_mulW (pe_op op_mulW (pe_op op_pow pe_int pe_int) (pe_op op_pow pe_int pe_int)) (pe_op op_pow pe_int pe_int)) (pe_op op_pow pe_int pe_int)) (pe_op op_pow pe_int pe_int)) (pe_op op_pow pe_int pe_int))))
        (pss_cons (ps_for PassesOwn.never rfl (pi_range1 (by rfl) T.f (pa_cons (pe_op op_mod (pv 1) pe_int) pa_nil)) (pg_name (i := 3) scMix.nd rfl (.inl rfl))
          (pss_one (ps_set (i := 2) scMix.nd rfl (.inl rfl) (pe_op op_fdiv (pv 2) pe_int))))
        (pss_one (ps_if (pt_cmpR op_gt (pv 2) pe_int (nomark _)) (pss_one (ps_ret (pe_op op_mod (pv 2) pe_int))) pss_nil)))) pss_nil))
      (pss_cons (ps_set (i := 2) scMix.nd rfl (.inl rfl) (pe_op op_mod (pe_op op_mul (pe_op op_add (pv 0) pe_int) pe_int) pe_int))
      (pss_cons (ps_set (i := 2) scMix.nd rfl (.inl rfl) (pe_op op_mod (pe_op op_add (pv 2) (pe_op op_mul (pe_op op_add (pv 1) pe_int) pe_int)) pe_int))
      (pss_cons (ps_set (i := 2) scMix.nd rfl (.inl rfl) (pe_op op_mod (pe_op op_mul (pv 2) (pv 2)) pe_int))
      (pss_cons (ps_set (i := 2) scMix.nd rfl (.inl rfl) (pe_op op_mod (pe_op op_mul (pe_op op_add (pv 2) pe_int) (pe_op op_add (pe_op op_fdiv (pv 2) pe_int) pe_int)) pe_int))
      (pss_one (ps_ret (pe_op op_mod (pe_op op_fdiv (pv 2) pe_int) pe_int))))))), ?_⟩
    refine ⟨fun σ' H' => H' = H ∧ ∃ v2 v3, σ' = [some (.int c), some (.int k), v2, v3], ?_, ?_⟩
    case refine_2 =>
      refine ⟨_, rfl, _, _, rfl, rfl, ⟨by decide, by decide, by decide⟩, _, _, rfl, rfl, _, rfl, ?_⟩
      refine ite2 (fun _ => ?_) (fun _ => ⟨rfl, none, none, rfl⟩)
      refine ⟨_, rfl, _, _, rfl, rfl, ⟨by decide, by decide, by decide⟩, _, _, rfl, rfl, ⟨by decide, by decide, by decide⟩, _, _, rfl, rfl, wide_mul (a := 210) (b := 210) (by decide +kernel) (by decide +kernel) (by decide) (by decide) (by decide), ?_⟩
      refine ⟨_, _, rfl, rfl, ⟨by decide, by decide, by decide⟩, _, _, rfl, rfl, wide_mul (a := 420) (b := 210) (by decide +kernel) (by decide +kernel) (by decide) (by decide) (by decide), ?_⟩
      refine ⟨_, _, rfl, rfl, ⟨by decide, by decide, by decide⟩, _, _, rfl, rfl, wide_mul (a := 630) (b := 210) (by decide +kernel) (by decide +kernel) (by decide) (by decide) (by decide), ?_⟩
      refine ⟨_, _, rfl, rfl, ⟨by decide, by decide, by decide⟩, _, _, rfl, rfl, wide_mul (a := 840) (b := 210) (by decide +kernel) (by decide +kernel) (by decide) (by decide) (by decide), ?_⟩
      refine ⟨_, _, rfl, rfl, ⟨by decide, by decide, by decide⟩, _, _, rfl, rfl, wide_mul (a := 1050) (b := 210) (by decide +kernel) (by decide +kernel) (by decide) (by decide) (by decide), ?_⟩
      refine ⟨_, _, rfl, rfl, (show (0 : Int) < 10 ^ Int.toNat 63 * 10 ^ Int.toNat 63 * 10 ^ Int.toNat 63 * 10 ^ Int.toNat 63 * 10 ^ Int.toNat 63 * 10 ^ Int.toNat 51 from by decide +kernel), ?_⟩
      refine ⟨_, rfl, _, _, rfl, rfl, (by show (0 : Int) < 60; decide), k % 60, rfl, ?_, ?_, for_range (lo := 0) (n := (k % 60).toNat) (fun i σ' H' => H' = H ∧ ∃ n v3, σ' = [some (.int c), some (.int k), some (.int n), v3]) ⟨rfl, _, none, rfl⟩ ?_ ?_⟩
      · have := modlt (a := k) (b := 60) (by decide)
        omega
      · have := modlt (a := k) (b := 60) (by decide)
        omega
      · rintro i σ' H' _ ⟨rfl, n, v3, rfl⟩
        exact ⟨_, rfl, _, _, rfl, rfl, ⟨by decide, by decide⟩, rfl, _, _, rfl⟩
      · rintro σ' H' ⟨rfl, n, v3, rfl⟩
        refine ⟨_, rfl, _, _, rfl, rfl, _, rfl, ?_⟩
        refine ite2 (fun _ => ?_) (fun _ => ⟨rfl, _, _, rfl⟩)
        have := modlt (a := n) (b := 1000000) (by decide)
        exact ⟨_, rfl, _, _, rfl, rfl, (by show (0 : Int) < 1000000; decide), q _ this.1 this.2⟩
    rintro σ' H' ⟨rfl, v2, v3, rfl⟩
    refine ⟨_, rfl, _, _, rfl, rfl, _, _, rfl, rfl, .inr ⟨by decide, by decide⟩, _, _, rfl, rfl, (by show (0 : Int) < 2305843009213693951; decide), ?_⟩
    refine ⟨_, rfl, _, rfl, _, _, rfl, rfl, _, _, rfl, rfl, .inr ⟨by decide, by decide⟩, _, _, rfl, rfl, _, _, rfl, rfl, (by show (0 : Int) < 2305843009213693951; decide), ?_⟩
    have b2 := modlt (a := ((c + 3) * 1181783497276652981 % 2305843009213693951 + (k + 1) * 614889782588491411)) (b := 2305843009213693951) (by decide)
    refine ⟨_, rfl, _, rfl, _, _, rfl, rfl, .inl ⟨by omega, by omega⟩, _, _, rfl, rfl, (by show (0 : Int) < 999999999999999989; decide), ?_⟩
    have b3 := modlt (a := ((((c + 3) * 1181783497276652981 % 2305843009213693951 + (k + 1) * 614889782588491411) % 2305843009213693951) * (((c + 3) * 1181783497276652981 % 2305843009213693951 + (k + 1) * 614889782588491411) % 2305843009213693951))) (b := 999999999999999989) (by decide)
    refine ⟨_, rfl, _, _, rfl, rfl, _, rfl, _, _, rfl, rfl, ⟨by decide, by decide⟩, _, _, rfl, rfl, _, _, rfl, rfl, .inl ⟨by omega, by omega⟩, _, _, rfl, rfl, (by show (0 : Int) < 2305843009213693951; decide), ?_⟩
    refine ⟨_, rfl, _, _, rfl, rfl, ⟨by decide, by decide⟩, _, _, rfl, rfl, (by show (0 : Int) < 999983; decide), q _ (modlt (by decide)).1 (Int.lt_of_lt_of_le (modlt (by decide)).2 (by decide))⟩
end
end K41

/-! the law's own letters -/
namespace K41
open PySem PySem.Spec PyProof.Rows L2
def signs : Str := "abcdexyz ,:;~0A"
theorem signs_len : signs.cps.toList.length = 15 := by decide +kernel
theorem signs_tok : ∀ c ∈ signs.cps.toList, c < 1114112 := by decide +kernel
theorem join_ok : ∀ ys : List Str, (∀ y ∈ ys, y.length = 1 ∧ Tok y) → (Str.join ("" : Str) ys).length = ys.length ∧ Tok (Str.join ("" : Str) ys)
  | [], _ => ⟨rfl, fun c hc => by
    have hc : c ∈ ([] : List Nat) := hc
    simp at hc⟩
  | [y], h => ⟨(h y (List.mem_singleton.mpr rfl)).1, (h y (List.mem_singleton.mpr rfl)).2⟩
  | y :: z :: r, h => by
    obtain ⟨h1, h2⟩ := h y (List.mem_cons_self ..)
    obtain ⟨h3, h4⟩ := join_ok (z :: r) fun x hx => h x (List.mem_cons_of_mem _ hx)
    have e : Str.join ("" : Str) (y :: z :: r) = y ++ ("" : Str) ++ Str.join ("" : Str) (z :: r) := rfl
    rw [e]
    refine ⟨?_, tok_app (tok_app h2 fun c hc => ?_) h4⟩
    · rw [app_len, app_len, h1, h3]
      show 1 + 0 + (r.length + 1) = r.length + 1 + 1
      omega
    · have hc : c ∈ ([] : List Nat) := hc
      simp at hc
theorem sum_ones : ∀ ys : List Str, (∀ y ∈ ys, y.length = 1) → (ys.map (·.length)).sum = ys.length
  | [], _ => rfl
  | y :: ys, h => by
    rw [List.map_cons, List.sum_cons, h y (List.mem_cons_self ..), sum_ones ys fun x hx => h x (List.mem_cons_of_mem _ hx), List.length_cons]
    omega
section
variable {P : Program} {w : World} {K : PySem.W.Frag} {mg : Str → Option Value} {base : Heap}
theorem scLetters : FnScope ["_law_cell_here", "_law_at", "_law_many", "_law_signs", "_law_k"] ["_law_cell_here", "_law_at", "_law_many"] (defScope sLetters) := ⟨rfl, rfl, rfl, by decide +kernel, rfl, by decide +kernel, by decide +kernel⟩
def spLetters : Sp := fun vs H Q _ => ∃ (c a : Int) (n : Nat), vs = [.int c, .int a, .int n] ∧ 0 ≤ a ∧ a ≤ 1000 ∧ n ≤ 64 ∧ ∀ H' z, Same H H' → z.length ≤ 64 → Tok z → Q (.str z) H'
theorem do_letters (T : Tx K mg) : ∃ fd, Do P w K mg base 2 (He.ga K "_law_letters") ["_law_cell_here", "_law_at", "_law_many"] [] spLetters fd [] := by
  obtain ⟨fd, F⟩ := T.def_ 33
  obtain ⟨_, G⟩ := do_mix (P := P) (w := w) (base := base) T
  refine ⟨fd, ok0 F scLetters (fun vs H Q E h => ?_) (fun cdv A outer s0 H vs Q E hr h => ?_), F.bindsN fun _ _ _ _ _ _ us hl => match us, hl with | [_, _, _], _ => rfl, .nil, F.kp⟩
  · obtain ⟨c, a, n, rfl, _⟩ := h
    rfl
  · obtain ⟨c, a, n, rfl, h0, h1, hn, q⟩ := h
    refine ⟨_, pss_cons (ps_set (i := 3) scLetters.nd rfl (.inr rfl) pe_str)
      (pss_one (ps_ret (pe_join pe_str (pe_lc (own := [("_law_k", 4)]) (g := gName 4) (tt := tYes) rfl scLetters.nd (pi_range1 (by rfl) T.f (pa_cons (pv 2) pa_nil))
        (blkOk_by (own := [("_law_k", 4)]) (N := ["_law_cell_here", "_law_at", "_law_many", "_law_signs", "_law_k"]) (sc := defScope sLetters) (by decide +kernel))
        (fun _ _ _ _ _ => pg_name (i := 4) scLetters.nd rfl (.inl rfl)) (fun _ _ _ _ _ => pts_nil)
        (fun _ _ _ _ _ => pe_ix ix_str (pv 3) (pe_op op_mod (pe_op op_fdiv (pe_call G.ok hr (by rfl) T.g G.kp G.b G.v pass0 (pa_cons (pv 0) (pa_cons (pe_op op_add (pv 1) (pe_op op_mod (pv 4) pe_int)) pa_nil)))
          (pe_op op_add pe_int (pe_op op_fdiv (pv 4) pe_int))) pe_int) (fun _ _ => rfl)))))), ?_⟩
    refine ⟨⟨_, rfl⟩, _, rfl, (n : Int), rfl, by omega, by omega, fun D hD => ?_⟩
    refine lc_range (lo := 0) (n := (n : Int).toNat) (fun i H' => Kp [D] (upd H D (.lst [])) H' ∧ ∃ ys : List Str, H' D = some (.lst (ys.map V.str)) ∧ ys.length = i ∧ ∀ y ∈ ys, y.length = 1 ∧ Tok y) ⟨Kp.refl, [], upd_same, rfl, fun y hy => by simp at hy⟩ ?_ ?_
    · rintro i H' hi ⟨kp, ys, hd, hl, hy⟩
      have hi : i < n := by simpa using hi
      have m40 := modlt (a := (0 + (i : Int))) (b := 40) (by decide)
      refine ⟨rfl, _, rfl, _, rfl, _, rfl, _, rfl, _, _, rfl, rfl, (by show (0 : Int) < 40; decide), _, _, rfl, rfl, c, _, rfl, by omega, by omega, fun m hm0 hm1 => ?_⟩
      have d40 : 0 ≤ (0 + (i : Int)) / 40 ∧ (0 + (i : Int)) / 40 < 100 := ⟨by omega, by omega⟩
      refine ⟨_, rfl, _, _, rfl, rfl, ⟨by decide, by decide⟩, _, _, rfl, rfl, _, _, rfl, rfl, ⟨by omega, by omega⟩, _, _, rfl, rfl, (by show (0 : Int) < 15; decide), ?_⟩
      have m15 := modlt (a := m / (1 + (0 + (i : Int)) / 40)) (b := 15) (by decide)
      obtain ⟨j, hj⟩ := Int.eq_ofNat_of_zero_le m15.1
      rw [hj] at m15
      have hjl : j < signs.cps.toList.length := by rw [signs_len]; omega
      refine ⟨signs, _, _, rfl, rfl, ?_, (show atI signs.cps.toList (m / (1 + (0 + (i : Int)) / 40) % 15) = some signs.cps.toList[j] from by rw [hj]; exact atI_nat (j := j) (List.getElem?_eq_getElem hjl)), ?_⟩
      · have : signs.length = 15 := by decide +kernel
        rw [this, sizeLine_eq]
        decide
      · refine ⟨_, hd, by rw [List.length_map]; exact line_lt (by omega), kp.trans (Kp.put (by simp)), ys ++ [⟨#[signs.cps.toList[j]]⟩], ?_, by rw [List.length_append, hl]; rfl, fun y hy' => ?_⟩
        · rw [upd_same, List.map_append]
          rfl
        · rcases List.mem_append.mp hy' with hy' | hy'
          · exact hy y hy'
          · rw [List.mem_singleton.mp hy']
            refine ⟨rfl, fun c hc => ?_⟩
            have hc : c ∈ [signs.cps.toList[j]] := hc
            rw [List.mem_singleton.mp hc]
            exact signs_tok _ (List.getElem_mem hjl)
    · rintro H' ⟨kp, ys, hd, hl, hy⟩
      obtain ⟨j1, j2⟩ := join_ok ys hy
      have hl : ys.length = n := by simpa using hl
      have ej : Txt.join ("" : Str) ys = Str.join ("" : Str) ys := StrLaws.glued_eq_join _ _
      rw [← ej] at j1 j2
      refine ⟨_, D, ys, rfl, rfl, .inl (SqL.of hd), ?_, q H' _ (fun c o hc => kp _ _ ?_ (Same.new hD _ _ hc)) ?_ j2⟩
      · rw [sum_ones ys fun y hy' => (hy y hy').1]
        show ys.length + ys.length * 0 ≤ 16777216
        omega
      · simpa using ne_of_none hc hD
      · rw [j1]
        omega
end
end K41

/-! the law's own rows, due, state -/
namespace K41
open PySem PySem.Spec PyProof.Rows L2
/-! ### the law's dicts read -/
theorem pk_keys (ks : List Int) : (pk ks).map (·.1) = ks.map Sum.inl := by
  unfold pk
  rw [List.map_map]
  rfl
theorem pk_len (ks : List Int) : (pk ks).length = ks.length := List.length_map ..
theorem pk_val (n : Int) : ∀ ks : List Int, (valV (pk ks) (Sum.inl n)).isSome = decide (n ∈ ks)
  | [] => rfl
  | k :: ks => by
    show (valV ((Sum.inl k, V.bl true) :: pk ks) (Sum.inl n)).isSome = _
    by_cases e : k = n
    · rw [valV_pos (p := ((Sum.inl k : Key), V.bl true)) (congrArg Sum.inl e), decide_eq_true (by rw [e]; exact List.mem_cons_self ..)]
      rfl
    · rw [valV_neg (p := ((Sum.inl k : Key), V.bl true)) fun z => e (Sum.inl.inj z), pk_val n ks]
      have : (n ∈ k :: ks) ↔ n ∈ ks := ⟨fun h => (List.mem_cons.mp h).elim (fun z => (e z.symm).elim) id, List.mem_cons_of_mem _⟩
      by_cases h : n ∈ ks
      · rw [decide_eq_true h, decide_eq_true (this.mpr h)]
      · rw [decide_eq_false h, decide_eq_false fun z => h (this.mp z)]
section
variable {s : WS} {g m : Addr}
theorem hk_text : valV (hkv s g m) (.inr "text") = some (.str s.text) := by kernel_rfl
theorem hk_upto : valV (hkv s g m) (.inr "upto") = some (.int s.limit) := by kernel_rfl
theorem hk_sent : valV (hkv s g m) (.inr "sent") = some (.int s.edge) := by kernel_rfl
theorem hk_got : valV (hkv s g m) (.inr "got") = some (.ref g) := by kernel_rfl
theorem hk_missed : valV (hkv s g m) (.inr "missed") = some (.ref m) := by kernel_rfl
theorem hk_mood : valV (hkv s g m) (.inr "mood") = some (.str (moodS s.fin)) := by kernel_rfl
theorem hk_end : valV (hkv s g m) (.inr "end") = some (.str s.tail.s) := by kernel_rfl
theorem hk_lane : valV (hkv s g m) (.inr "lane") = some (.int s.lane) := by kernel_rfl
end
/-- a field of the law's state is read -/
theorem hget {H : Hp} {h g m : Addr} {s : WS} {k : Str} {v : V} (x : H h = some (.dK (hkv s g m))) (e : valV (hkv s g m) (.inr k) = some v) : DGet H h (.str k) (some v) := by
  rw [← e]
  exact DGet.k (k := Sum.inr k) x
theorem ds_len {H : Hp} {d : Addr} {S : Int → Prop} {ks : List Int} (nd : ks.Nodup) (hm : ∀ n, n ∈ ks ↔ S n) (b : Bd S) : ks.length ≤ 100000 := by
  have h2 := len_le_of_sub (m := nums 0 100000) nd fun n hn => mem_nums.mpr (by have := b n ((hm n).mp hn); exact ⟨this.1, by omega⟩)
  rw [nums_length] at h2
  exact h2
def dbl (y : Int) : Int × Int := (y, y)
theorem mem_dbl {ys : List Int} {n : Int} : Mem (ys.map dbl) n ↔ n ∈ ys := by
  constructor
  · rintro ⟨p, hp, h1, h2⟩
    obtain ⟨y, hy, rfl⟩ := List.mem_map.mp hp
    have h1 : y ≤ n := h1
    have h2 : n ≤ y := h2
    rw [show n = y by omega]
    exact hy
  · intro h
    exact ⟨dbl n, List.mem_map.mpr ⟨n, h, rfl⟩, Int.le_refl _, Int.le_refl _⟩
section
variable {P : Program} {w : World} {K : PySem.W.Frag} {mg : Str → Option Value} {base : Heap}
theorem scRows : FnScope ["_law_places", "_law_rows_here", "_law_place"] ["_law_places"] (defScope sRows) := ⟨rfl, rfl, rfl, by decide +kernel, rfl, by decide +kernel, by decide +kernel⟩
def spRows : Sp := fun vs H Q _ => ∃ (d : Addr) (S : Int → Prop), vs = [.ref d] ∧ DS H d S ∧ Bd S ∧
  ∀ H' l ts rs, Same H H' → H' l = some (.lst ts) → RowsAt H' ts rs → Can rs → (∀ n, Mem rs n ↔ S n) → Q (.ref l) H'
theorem do_rows (T : Tx K mg) : ∃ fd, Do P w K mg base 1 (He.ga K "_law_rows") ["_law_places"] [] spRows fd [] := by
  obtain ⟨fd, F⟩ := T.def_ 34
  refine ⟨fd, ok0 F scRows (fun vs H Q E h => ?_) (fun cdv A outer s0 H vs Q E hr h => ?_), F.bindsN fun _ _ _ _ _ _ us hl => match us, hl with | [_], _ => rfl, .nil, F.kp⟩
  · obtain ⟨d, S, rfl, _⟩ := h
    rfl
  · obtain ⟨d, S, rfl, ⟨ks, hd, nd, hm⟩, hb, q⟩ := h
    refine ⟨_, pss_cons (ps_set (i := 1) scRows.nd rfl (.inl rfl) (pe_lst pa_nil))
      (pss_cons (ps_for PassesOwn.never rfl (pi_list (pe_callB (call_sortedDA rfl) (by rfl) T.f (by decide +kernel) (pa_cons (pv 0) pa_nil))) (pg_name (i := 2) scRows.nd rfl (.inl rfl))
        (pss_one (ps_if (PW.pt (pw_and (pt_cmpR (op_neD hr.units) (pv 1) (pe_lst pa_nil) (nomark _))
            (pw_and1 (pt_cmpR op_eq (pe_ix ix_tup (pe_ix ix_list (pv 1) (pe_un un_neg pe_int) (fun _ _ => rfl)) pe_int (fun _ _ => rfl)) (pe_op op_sub (pv 2) pe_int) (nomark _)))))
          (pss_one (ps_asg (pe_tup (pa_cons (pe_ix ix_tup (pe_ix ix_list (pv 1) (pe_un un_neg pe_int) (fun _ _ => rfl)) pe_int (fun _ _ => rfl)) (pa_cons (pv 2) pa_nil)))
            (pg_sub (pv 1) (pe_un un_neg pe_int) set_list)))
          (pss_one (ps_expr (pe_bm PySem.F.plainAttrs_list PySem.F.slot_list_append PySem.F.type_list_append mt_append (pv 1) (pa_cons (pe_tup (pa_cons (pv 2) (pa_cons (pv 2) pa_nil))) pa_nil)))))))
      (pss_one (ps_ret (pv 1)))), ?_⟩
    refine ⟨Nat.zero_le _, fun fl hfl => ?_⟩
    have s1 : Same H (upd H fl (.lst [])) := Same.new hfl
    refine ⟨_, rfl, d, pk ks, ks, rfl, .inl (s1 _ _ hd), pk_keys ks, fun ys p perm srt hpn => ?_⟩
    have s2 : Same (upd H fl (.lst [])) (upd (upd H fl (.lst [])) p (.lst (ys.map V.int))) := Same.new hpn
    have nfp : fl ≠ p := ne_of_none upd_same hpn
    have ndy : ys.Nodup := perm.nodup_iff.mpr nd
    have ylen : ys.length ≤ 100000 := by
      rw [perm.length_eq]
      exact ds_len (H := H) (d := d) nd hm hb
    refine ⟨p, rfl, ⟨_, SqL.of upd_same⟩, for_list (K := K) (a := p) (xs := ys.map V.int) (fun i σ H' => ∃ (acc : Rows) (us : List V) (b : Int) (v2 : Option V), σ = [some (.ref d), some (.ref fl), v2] ∧
      Kp [fl] (upd (upd H fl (.lst [])) p (.lst (ys.map V.int))) H' ∧ H' fl = some (.lst us) ∧ RowsAt H' us acc ∧ Mg acc ((ys.take i).map dbl) b ∧ (∀ y ∈ ys.drop i, b ≤ y) ∧ us.length ≤ i)
      ⟨[], [], 0, none, rfl, Kp.refl, by rw [upd_ne nfp]; exact upd_same, .nil, .nil, fun y m => (hb y ((hm y).mp (perm.mem_iff.mp m))).1, Nat.le_refl _⟩ ?_ ?_ ?_⟩
    · rintro i σ H' _ ⟨_, _, _, _, _, kp, _⟩
      exact SqL.of (kp _ _ (by simpa using nfp.symm) upd_same)
    · rintro i x σ H' hx ⟨acc, us, b, v2, rfl, kp, hf, hu, mg_, hby, hlen⟩
      obtain ⟨y, hyi, rfl⟩ : ∃ y, ys[i]? = some y ∧ x = V.int y := by
        rw [List.getElem?_map] at hx
        cases e : ys[i]? with
        | none => rw [e] at hx; cases hx
        | some y => rw [e] at hx; exact ⟨y, rfl, (Option.some.inj hx).symm⟩
      have hd' := drop_at hyi
      have htk : (ys.take (i + 1)).map dbl = (ys.take i).map dbl ++ [dbl y] := by
        rw [take_at hyi, List.map_append]
        rfl
      have hbq : b ≤ (dbl y).1 := hby y (by rw [hd']; exact List.mem_cons_self ..)
      have hsplit : ys = ys.take i ++ y :: ys.drop (i + 1) := by rw [← hd', List.take_append_drop]
      have hlt : ∀ z ∈ ys.take i, z < y := fun z hz => by
        have c1 := srt
        rw [hsplit] at c1
        have c2 := ndy
        rw [hsplit] at c2
        have z1 := (List.pairwise_append.mp c1).2.2 z hz y (List.mem_cons_self ..)
        have z2 := (List.nodup_append.mp c2).2.2 z hz y (List.mem_cons_self ..)
        omega
      have hnext : ∀ r ∈ ys.drop (i + 1), (dbl y).1 ≤ r := by
        have z := srt.sublist (List.drop_sublist i ys)
        rw [hd'] at z
        exact (List.pairwise_cons.mp z).1
      have hi : i < ys.length := (List.getElem?_eq_some_iff.mp hyi).1
      have hsz : us.length < sizeLine := line_lt (by omega)
      refine ⟨_, rfl, Nat.zero_le _, fun e he => ?_⟩
      have se : Same H' (upd H' e (.lst [])) := Same.new he
      have hf2 : upd H' e (.lst []) fl = some (.lst us) := se _ _ hf
      have hu2 := hu.same se
      refine ⟨_, _, .lst (SqL.of hf2) (dp_rows hu2), .lst (SqL.of upd_same) .nil, (fine_rowsL acc).shaped (by decide), (Fine.lst (n := 0) .nil).shaped (by decide), _, rfl, ?_⟩
      have e_nil : PyData.eqv (.list (acc.map rowD)) (.list []) = acc.isEmpty := by
        rw [eqv_nil]
        cases acc <;> rfl
      rw [e_nil]
      have more : (acc = [] ∨ ∃ a l, acc = a ++ [l] ∧ ¬ (dbl y).1 ≤ l.2 + 1) → ∀ t3, upd H' e (.lst []) t3 = none →
          Kp [fl] (upd (upd H fl (.lst [])) p (.lst (ys.map V.int))) (upd (upd (upd H' e (.lst [])) t3 (.tup [.int y, .int y])) fl (.lst (us ++ [.ref t3]))) ∧ upd (upd (upd H' e (.lst [])) t3 (.tup [.int y, .int y])) fl (.lst (us ++ [.ref t3])) fl = some (.lst (us ++ [.ref t3])) ∧
          RowsAt (upd (upd (upd H' e (.lst [])) t3 (.tup [.int y, .int y])) fl (.lst (us ++ [.ref t3]))) (us ++ [.ref t3]) (acc ++ [dbl y]) ∧ Mg (acc ++ [dbl y]) ((ys.take (i + 1)).map dbl) (dbl y).1 ∧ (∀ r ∈ ys.drop (i + 1), (dbl y).1 ≤ r) ∧ (us ++ [V.ref t3]).length ≤ i + 1 := fun hc t3 ht3 => by
        have s4 : Same H' (upd (upd H' e (.lst [])) t3 (.tup [.int y, .int y])) := se.trans (Same.new ht3)
        have hf4 := s4 _ _ hf
        refine ⟨(kp.trans (Kp.of s4)).trans (Kp.put (by simp)), upd_same, ?_, ?_, hnext, by rw [List.length_append]; show us.length + 1 ≤ i + 1; omega⟩
        · refine RowsAt.keep (RowsAt.app (hu.same s4) (RowsAt.one (p := dbl y) upd_same)) fun c xs hc => ?_
          rw [upd_ne (ne_of hc hf4 (by intro z; cases z))]
          exact hc
        · rw [htk]
          exact mg_.apart (Int.le_refl _) hbq hc
      refine iteB (fun hne => ?_) (fun hem => ?_)
      · rcases List.eq_nil_or_concat acc with e0 | ⟨ini, l, e0⟩
        · rw [e0] at hne
          cases hne
        · rw [List.concat_eq_append] at e0
          subst e0
          obtain ⟨us0, v, rfl⟩ : ∃ us0 v, us = us0 ++ [v] := by
            rcases List.eq_nil_or_concat us with z | ⟨us0, v, z⟩
            · rw [z] at hu
              have := hu.len
              simp at this
            · exact ⟨us0, v, by rw [z, List.concat_eq_append]⟩
          obtain ⟨ini', l', e1, hu0, hv⟩ := hu2.snoc
          obtain ⟨z1, z2⟩ := List.append_inj' e1 rfl
          subst z1
          obtain rfl : l = l' := (List.cons.inj z2).1
          obtain ⟨tl, rfl, htl⟩ := hv
          have hl2 : l.2 < y := hlt l.2 (mem_dbl.mp ((mg_.set l.2).mp ⟨l, List.mem_append.mpr (.inr (List.mem_singleton.mpr rfl)), (can_init mg_.can).2.1, Int.le_refl _⟩))
          refine ⟨_, rfl, _, rfl, fl, _, _, _, rfl, rfl, SqL.of hf2, atI_last _ _, tl, _, _, _, rfl, rfl, SqT.of htl, rfl, _, rfl, _, _, rfl, rfl, rfl, _, rfl, ?_⟩
          have edec : decide (V.int l.2 = V.int (y - 1)) = decide (l.2 = y - 1) := by
            rw [dec_int]
            rfl
          refine iteE edec (iteB (fun c => ?_) (fun c => ?_))
          · have c := of_decide_eq_true c
            refine ⟨_, rfl, _, rfl, fl, _, _, _, rfl, rfl, SqL.of hf2, atI_last _ _, tl, _, _, _, rfl, rfl, SqT.of htl, rfl, ?_⟩
            refine ⟨_, rfl, (by show 2 ≤ sizeLine; decide), fun t3 ht3 => ?_⟩
            have hf3 := (Same.new (o := HO.tup [.int l.1, .int y]) ht3) _ _ hf2
            refine ⟨_, rfl, _, rfl, fl, _, _, us0.length, rfl, rfl, hf3, ?_, ?_⟩
            · rw [List.length_append]
              exact ixN_last
            · have emax : y = max l.2 (dbl y).2 := by show y = max l.2 y; omega
              rw [set_last]
              have s4 : Same H' (upd (upd H' e (.lst [])) t3 (.tup [.int l.1, .int y])) := se.trans (Same.new ht3)
              have hf4 := s4 _ _ hf
              refine ⟨ini ++ [(l.1, y)], us0 ++ [.ref t3], (dbl y).1, _, rfl, (kp.trans (Kp.of s4)).trans (Kp.put (by simp)), upd_same, ?_, ?_, hnext, ?_⟩
              · refine RowsAt.keep (RowsAt.app (hu0.same (Same.new ht3)) (RowsAt.one (p := (l.1, y)) upd_same)) fun c xs hc => ?_
                rw [upd_ne (ne_of hc hf4 (by intro z; cases z))]
                exact hc
              · rw [htk]
                have z := mg_.touch (p := dbl y) (Int.le_refl _) hbq (by show y ≤ l.2 + 1; omega)
                rw [← emax] at z
                exact z
              · rw [List.length_append] at hlen ⊢
                exact Nat.le_succ_of_le hlen
          · have c := of_decide_eq_false c
            refine ⟨_, rfl, .inl ⟨rfl, _, SqL.of hf2⟩, _, rfl, _, rfl, (by show 2 ≤ sizeLine; decide), fun t3 ht3 => ?_⟩
            have z := more (.inr ⟨ini, l, rfl, fun z => by
              have z : y ≤ l.2 + 1 := z
              omega⟩) t3 ht3
            exact ⟨fl, _, _, rfl, rfl, Same.new ht3 _ _ hf2, hsz, _, _, (dbl y).1, _, rfl, z⟩
      · have z0 : acc = [] := by
          cases acc with
          | nil => rfl
          | cons r acc => cases hem
        refine ⟨_, rfl, .inl ⟨rfl, _, SqL.of hf2⟩, _, rfl, _, rfl, (by show 2 ≤ sizeLine; decide), fun t3 ht3 => ?_⟩
        have z := more (.inl z0) t3 ht3
        exact ⟨fl, _, _, rfl, rfl, Same.new ht3 _ _ hf2, hsz, _, _, (dbl y).1, _, rfl, z⟩
    · rintro σ H' ⟨acc, us, b, v2, rfl, kp, hf, hu, mg_, hb', hlen⟩
      refine ⟨_, rfl, ?_⟩
      rw [List.length_map, List.take_length] at mg_
      refine q H' fl us acc (fun c o hc => kp c o ?_ ?_) hf hu mg_.can fun n => (mg_.set n).trans (mem_dbl.trans (perm.mem_iff.trans (hm n)))
      · have : c ≠ fl := ne_of_none hc hfl
        simpa using this
      · exact s2 _ _ (s1 _ _ hc)
end
end K41

/-! the law's own due, state -/
namespace K41
open PySem PySem.Spec PyProof.Rows L2
theorem least_aux {S : Int → Prop} (hb : ∀ n, S n → 0 ≤ n) : ∀ (k : Nat) (n : Int), S n → n ≤ (k : Int) → ∃ a, S a ∧ ∀ j, S j → a ≤ j
  | 0, n, h, hk => ⟨n, h, fun j hj => by
    have := hb j hj
    have := hb n h
    omega⟩
  | k + 1, n, h, hk => by
    by_cases c : ∃ j, S j ∧ j < n
    · obtain ⟨j, hj, hl⟩ := c
      exact least_aux hb k j hj (by omega)
    · exact ⟨n, h, fun j hj => by
        have : ¬ j < n := fun z => c ⟨j, hj, z⟩
        omega⟩
theorem least_of {S : Int → Prop} (hb : ∀ n, S n → 0 ≤ n) {n : Int} (h : S n) : ∃ a, S a ∧ ∀ j, S j → a ≤ j := least_aux hb n.toNat n h (by have := hb n h; omega)
theorem run_ex {S : Int → Prop} (b : Bd S) : ∃ run, RunOf S run := by
  by_cases c : ∃ n, S n
  · obtain ⟨n, hn⟩ := c
    obtain ⟨a, ha, hl⟩ := least_of (fun n h => (b n h).1) hn
    obtain ⟨m, ⟨hm1, hm2⟩, hm3⟩ := least_of (S := fun m => 1 ≤ m ∧ ¬ S (a + m)) (fun n h => by have := h.1; omega) (n := 100000) ⟨by omega, fun z => by
      have h1 := b _ z
      have h2 := b _ ha
      omega⟩
    refine ⟨some (a, m), hm1, hl, fun j h1 h2 => ?_, hm2⟩
    by_cases e : j = a
    · rw [e]
      exact ha
    · by_cases q : S j
      · exact q
      · have h1 : a ≤ j := h1
        have h2 : j < a + m := h2
        have := hm3 (j - a) ⟨by omega, by rw [show a + (j - a) = j by omega]; exact q⟩
        omega
  · exact ⟨none, fun n hn => c ⟨n, hn⟩⟩
section
variable {P : Program} {w : World} {K : PySem.W.Frag} {mg : Str → Option Value} {base : Heap}
theorem scDue : FnScope ["_law_here", "_law_most", "_law_bound", "_law_at", "_law_many", "_law_finished"] ["_law_here", "_law_most", "_law_bound"] (defScope sDue) := ⟨rfl, rfl, rfl, by decide +kernel, rfl, by decide +kernel, by decide +kernel⟩
def spDue : Sp := fun vs H Q _ => ∃ (h g m : Addr) (most : Int) (b : Option Int) (s : WS), vs = [.ref h, .int most, bv b] ∧ LIn H h g m s ∧ Gd s ∧
  ∀ H' run v, Same H H' → RunOf s.holes run → PieceAt H' v (due s run most b) → Q v H'
theorem do_due (T : Tx K mg) : ∃ fd, Do P w K mg base 1 (He.ga K "_law_due") ["_law_here", "_law_most", "_law_bound"] [] spDue fd [] := by
  obtain ⟨fd, F⟩ := T.def_ 35
  refine ⟨fd, ok0 F scDue (fun vs H Q E h => ?_) (fun cdv A outer s0 H vs Q E hr h => ?_), F.bindsN fun _ _ _ _ _ _ us hl => match us, hl with | [_, _, _], _ => rfl, .nil, F.kp⟩
  · obtain ⟨p, g, m, most, b, s, rfl, _⟩ := h
    rfl
  · obtain ⟨p, ga, ma, most, b, s, rfl, x, g, k⟩ := h
    have hu := hu_of hr
    refine ⟨_, pss_cons (ps_set (i := 3) scDue.nd rfl (.inl rfl) (pe_dget hu (pv 0) pe_str (fun _ _ => rfl)))
      (pss_cons (ps_set (i := 4) scDue.nd rfl (.inl rfl) (pe_op op_sub (pe_callB (call_min2 rfl) (by rfl) T.f (by decide +kernel) (pa_cons (pe_callB call_len_str (by rfl) T.f PySem.boot_len (pa_cons (pe_dget hu (pv 0) pe_str (fun _ _ => rfl)) pa_nil)) (pa_cons (pe_dget hu (pv 0) pe_str (fun _ _ => rfl)) pa_nil))) (pv 3)))
      (pss_cons (ps_cut (ps_if (pt_cmpR op_notN (pv 2) pe_non (nomark _)) (pss_one (ps_set (i := 4) scDue.nd rfl (.inl rfl) (pe_callB (call_min2 rfl) (by rfl) T.f (by decide +kernel) (pa_cons (pv 4) (pa_cons (pv 2) pa_nil))))) pss_nil))
      (pss_cons (ps_cut (ps_if (PW.pt (pw_and (pt_cmpR (op_ne_nil hr.units0) (pe_dget hu (pv 0) pe_str (fun _ _ => rfl)) pe_dnewK (nomark _)) (pw_and1 (pt_cmpR op_gt (pv 1) pe_int (nomark _)))))
          (pss_cons (ps_set (i := 3) scDue.nd rfl (.inl rfl) (pe_callB (call_minD rfl) (by rfl) T.f (by decide +kernel) (pa_cons (pe_dget hu (pv 0) pe_str (fun _ _ => rfl)) pa_nil)))
          (pss_cons (ps_set (i := 4) scDue.nd rfl (.inl rfl) pe_int)
          (pss_one (ps_while PassesOwn.never (pt_cmp (pc_din hu (pe_op op_add (pv 3) (pv 4)) (pe_dget hu (pv 0) pe_str (fun _ _ => rfl))))
            (pss_one (ps_set (i := 4) scDue.nd rfl (.inl rfl) (pe_op op_add (pv 4) pe_int))))))) pss_nil))
      (pss_cons (ps_set (i := 4) scDue.nd rfl (.inl rfl) (pe_callB (call_max2 rfl) (by rfl) T.f (by decide +kernel) (pa_cons pe_int (pa_cons (pe_callB (call_min2 rfl) (by rfl) T.f (by decide +kernel) (pa_cons (pv 4) (pa_cons (pv 1) pa_nil))) pa_nil))))
      (pss_cons (ps_set (i := 5) scDue.nd rfl (.inl rfl) (pe_cmpR op_eq (pe_dget hu (pv 0) pe_str (fun _ _ => rfl)) pe_str (nomark _)))
      (pss_cons (ps_if (pt_cmpR op_gt (pv 4) pe_int (nomark _)) (pss_one (ps_ret (pe_tup (pa_cons (pv 3) (pa_cons (pe_slice sl_str (pe_dget hu (pv 0) pe_str (fun _ _ => rfl)) (po_some (pv 3)) (po_some (pe_op op_add (pv 3) (pv 4))))
          (pa_cons (pe_cut (pe_and (pv 5) (pe_one (pe_cmpR op_eq (pe_op op_add (pv 3) (pv 4)) (pe_callB call_len_str (by rfl) T.f PySem.boot_len (pa_cons (pe_dget hu (pv 0) pe_str (fun _ _ => rfl)) pa_nil)) (nomark _))))) pa_nil)))))) pss_nil)
      (pss_cons (ps_if (PW.pt (pw_and (pt_val (pv 5)) (pw_and (pt_cmpR op_eq (pe_dget hu (pv 0) pe_str (fun _ _ => rfl)) (pe_callB call_len_str (by rfl) T.f PySem.boot_len (pa_cons (pe_dget hu (pv 0) pe_str (fun _ _ => rfl)) pa_nil)) (nomark _))
          (pw_and1 (pt_cmpR op_in_seq (pe_dget hu (pv 0) pe_str (fun _ _ => rfl)) (pe_tup (pa_cons pe_str (pa_cons pe_str pa_nil))) (by rfl))))))
          (pss_one (ps_ret (pe_tup (pa_cons (pe_callB call_len_str (by rfl) T.f PySem.boot_len (pa_cons (pe_dget hu (pv 0) pe_str (fun _ _ => rfl)) pa_nil)) (pa_cons pe_str (pa_cons pe_bl pa_nil)))))) pss_nil)
      (pss_one (ps_ret pe_non))))))))), ?_⟩
    have hlen : s.text.length ≤ sizeLine := line_big (by have := g.len; omega)
    obtain ⟨ks, hks, nd, hm⟩ := x.mis
    refine ⟨_, rfl, p, _, rfl, hget x.at_ hk_sent, ?_⟩
    refine ⟨_, rfl, p, _, rfl, hget x.at_ hk_text, _, rfl, hlen, _, rfl, p, _, rfl, hget x.at_ hk_upto, _, _, rfl, _, rfl, _, _, rfl, rfl, ?_⟩
    have emin : (if s.limit < (s.text.length : Int) then s.limit else (s.text.length : Int)) = min (s.text.length : Int) s.limit := by split <;> omega
    rw [emin]
    refine ⟨fun σ H' => H' = H ∧ σ = [some (.ref p), some (.int most), some (bv b), some (.int s.edge), some (.int (capF s b)), none], ?_, ?_⟩
    case refine_2 =>
      refine ⟨_, rfl, rfl, _, rfl, ?_⟩
      cases b with
      | none => exact iteF ⟨rfl, rfl⟩
      | some b =>
        refine iteT ⟨_, rfl, _, rfl, _, _, rfl, rfl, ?_⟩
        have e : (if b < min (s.text.length : Int) s.limit - s.edge then b else min (s.text.length : Int) s.limit - s.edge) = min (min (s.text.length : Int) s.limit - s.edge) b := by split <;> omega
        rw [e]
        rfl
    rintro σ' H' ⟨rfl, rfl⟩
    -- the least run
    refine ⟨fun σ H2 => ∃ run, Same H' H2 ∧ RunOf s.holes run ∧ σ = [some (.ref p), some (.int most), some (bv b), some (.int (amF s run most b).1), some (.int (amF s run most b).2), none], ?_, ?_⟩
    case refine_2 =>
      refine ⟨_, rfl, p, _, rfl, hget x.at_ hk_missed, fun e he => ?_⟩
      have se : Same H' (upd H' e (.dK [])) := Same.new he
      have x2 := x.same se
      have hks2 := se _ _ hks
      refine ⟨ma, e, pk ks, rfl, rfl, hks2, upd_same, _, rfl, ?_⟩
      have e1 : (pk ks).isEmpty = ks.isEmpty := by cases ks <;> rfl
      rw [e1]
      cases ks with
      | nil =>
        refine iteF ⟨none, se, fun n hn => ?_, ?_⟩
        · have := (hm n).mpr hn
          simp at this
        · rw [am_none]
      | cons k0 ks0 =>
        refine iteT ⟨_, rfl, _, _, rfl, rfl, _, rfl, ?_⟩
        refine ite2 (fun c => ?_) (fun c => ?_)
        · have c : most > 0 := of_decide_eq_true c
          refine ⟨_, rfl, p, _, rfl, hget x2.at_ hk_missed, ma, _, k0 :: ks0, rfl, hks2, pk_keys _, (by intro z; cases z), fun a ha hle => ?_⟩
          refine while_by (fun σ H2 => ∃ n : Int, 1 ≤ n ∧ H2 = upd H' e (.dK []) ∧ (∀ j, a ≤ j → j < a + n → s.holes j) ∧ σ = [some (.ref p), some (.int most), some (bv b), some (.int a), some (.int n), none])
            (fun σ _ => match σ with
              | [_, _, _, _, some (.int n), _] => (200000 - n).toNat
              | _ => 0) ⟨1, by omega, rfl, fun j h1 h2 => ?_, rfl⟩ ?_ ?_
          · rw [show j = a by omega]
            exact (hm a).mp ha
          · rintro σ H2 ⟨n, hn, rfl, hrow, rfl⟩
            refine ⟨_, rfl, _, rfl, _, _, rfl, rfl, _, rfl, p, _, rfl, hget x2.at_ hk_missed, ma, _, rfl, DGet.k (k := Sum.inl (a + n)) hks2, _, rfl, ?_⟩
            rw [pk_val]
            refine ite2 (fun c1 => ?_) (fun c1 => ?_)
            · have c1 := of_decide_eq_true c1
              refine ⟨_, rfl, _, _, rfl, rfl, ⟨n + 1, by omega, rfl, fun j h1 h2 => ?_, rfl⟩, ?_⟩
              · by_cases cj : j < a + n
                · exact hrow j h1 cj
                · rw [show j = a + n by omega]
                  exact (hm _).mp c1
              · have := g.bdH (a + n) ((hm _).mp c1)
                have := g.bdH a ((hm _).mp ha)
                show (200000 - (n + 1)).toNat < (200000 - n).toNat
                omega
            · have c1 : a + n ∉ k0 :: ks0 := fun z => c1 (decide_eq_true z)
              have hrun : RunOf s.holes (some (a, n)) := by
                refine ⟨hn, fun j hj => hle j ((hm j).mpr hj), hrow, fun z => c1 ((hm _).mpr z)⟩
              refine ⟨some (a, n), se, hrun, ?_⟩
              rw [am_some c]
          · intro σ H Q Q' hq h
            obtain ⟨y, e1, y2, e2, i, j, e3, e4, v0, e5, p0, v1, e6, e7, a1, o1, e8, e9, k1, e10, e11⟩ := h
            exact ⟨y, e1, y2, e2, i, j, e3, e4, v0, e5, p0, v1, e6, e7, a1, o1, e8, e9, k1, e10, hq _ _ e11⟩
        · have c : ¬ most > 0 := fun z => c (decide_eq_true z)
          obtain ⟨run, hrun⟩ := run_ex g.bdH
          refine ⟨run, se, hrun, ?_⟩
          cases run with
          | none => rw [am_none]
          | some q => rw [am_some0 c]
    rintro σ' H2 ⟨run, s2, hrun, rfl⟩
    have x2 := x.same s2
    refine ⟨_, rfl, _, rfl, _, _, rfl, _, _, rfl, ?_⟩
    have emany : (if (if most < (amF s run most b).2 then most else (amF s run most b).2) > 0 then (if most < (amF s run most b).2 then most else (amF s run most b).2) else 0) = manyF s run most b := by
      unfold manyF
      split <;> split <;> omega
    rw [emany]
    refine ⟨_, rfl, p, _, rfl, hget x2.at_ hk_mood, rfl, ?_⟩
    rw [mood_fin]
    refine ⟨_, rfl, _, _, rfl, rfl, _, rfl, ?_⟩
    refine ite2 (fun c => ?_) (fun c => ?_)
    · have c := of_decide_eq_true c
      have hdue : due s run most b = some ((amF s run most b).1, cutS s.text (some (amF s run most b).1) (some ((amF s run most b).1 + manyF s run most b)), s.fin && decide ((amF s run most b).1 + manyF s run most b = (s.text.length : Int))) := by
        unfold due
        rw [if_pos c]
      refine ⟨_, rfl, _, rfl, p, _, rfl, hget x2.at_ hk_text, _, rfl, _, rfl, _, rfl, _, rfl, _, _, rfl, rfl, _, rfl, _, rfl, hlen, ?_⟩
      refine ⟨fun v H3 => H3 = H2 ∧ v = .bl (s.fin && decide ((amF s run most b).1 + manyF s run most b = (s.text.length : Int))), ?_, ?_⟩
      case refine_2 =>
        refine ⟨_, rfl, _, rfl, ?_⟩
        cases e : s.fin with
        | false => exact ⟨rfl, rfl⟩
        | true =>
          refine ⟨_, rfl, _, rfl, _, _, rfl, rfl, _, rfl, p, _, rfl, hget x2.at_ hk_text, _, rfl, hlen, rfl, rfl, ?_⟩
          rw [dec_int]
          rfl
      rintro v H3 ⟨rfl, rfl⟩
      refine ⟨(by show 3 ≤ sizeLine; decide), fun t ht => k _ run _ (s2.trans (Same.new ht)) hrun ?_⟩
      rw [hdue]
      exact ⟨t, rfl, upd_same⟩
    · have c : ¬ manyF s run most b > 0 := fun z => c (decide_eq_true z)
      have none_ : (s.fin && (decide (s.edge = (s.text.length : Int)) && (decide (s.tail = .un) || decide (s.tail = .mis)))) = false → due s run most b = none := fun h => by
        unfold due
        rw [if_neg c, h]
        rfl
      refine ⟨_, rfl, _, rfl, ?_⟩
      refine iteB (fun c1 => ?_) (fun c1 => k _ run _ s2 hrun (by rw [none_ (by rw [c1]; rfl)]; rfl))
      refine ⟨_, rfl, p, _, rfl, hget x2.at_ hk_sent, _, rfl, p, _, rfl, hget x2.at_ hk_text, _, rfl, hlen, rfl, _, rfl, ?_⟩
      have e2 : decide (V.int s.edge = V.int (s.text.length : Int)) = decide (s.edge = (s.text.length : Int)) := by
        rw [dec_int]
        rfl
      refine iteE e2 (iteB (fun c2 => ?_) (fun c2 => k _ run _ s2 hrun (by rw [none_ (by rw [c1, c2]; rfl)]; rfl)))
      refine ⟨_, rfl, p, _, rfl, hget x2.at_ hk_end, (by show 2 ≤ sizeLine; decide), fun e he => ?_⟩
      have s3 := s2.trans (Same.new (o := HO.tup [.str ("unsent" : Str), .str ("missed" : Str)]) he)
      have x3 := x.same s3
      refine ⟨e, _, rfl, .inr (SqT.of upd_same), rfl, rfl, _, rfl, ?_⟩
      refine iteE (tl_in s.tail) (iteB (fun c3 => ?_) (fun c3 => k _ run _ s3 hrun (by rw [none_ (by rw [c1, c2, c3]; rfl)]; rfl)))
      refine ⟨_, rfl, p, _, rfl, hget x3.at_ hk_text, _, rfl, hlen, (by show 3 ≤ sizeLine; decide), fun t ht => k _ run _ (s3.trans (Same.new ht)) hrun ?_⟩
      have hd : due s run most b = some ((s.text.length : Int), Str.empty, true) := by
        unfold due
        rw [if_neg c, if_pos (by rw [c1, c2, c3]; rfl)]
      rw [hd]
      exact ⟨t, rfl, upd_same⟩
/-! ### state -/
theorem scState : FnScope ["_law_here"] ["_law_here"] (defScope sState) := ⟨rfl, rfl, rfl, by decide +kernel, rfl, by decide +kernel, by decide +kernel⟩
def spState : Sp := fun vs H Q _ => ∃ (h g m : Addr) (s : WS), vs = [.ref h] ∧ LIn H h g m s ∧ Gd s ∧ ∀ ks : List Int, ks.Nodup → (∀ n, n ∈ ks ↔ s.safe n) → Q (.str (stateS s (ks.length : Int))) H
theorem do_state (T : Tx K mg) : ∃ fd, Do P w K mg base 1 (He.ga K "_law_state") ["_law_here"] [] spState fd [] := by
  obtain ⟨fd, F⟩ := T.def_ 36
  refine ⟨fd, ok0 F scState (fun vs H Q E h => ?_) (fun cdv A outer s0 H vs Q E hr h => ?_), F.bindsN fun _ _ _ _ _ _ us hl => match us, hl with | [_], _ => rfl, .nil, F.kp⟩
  · obtain ⟨p, g, m, s, rfl, _⟩ := h
    rfl
  · obtain ⟨p, ga, ma, s, rfl, x, g, k⟩ := h
    have hu := hu_of hr
    refine ⟨_, pss_cons (ps_if (PW.pt (pw_and (pt_cmpR op_eq (pe_dget hu (pv 0) pe_str (fun _ _ => rfl)) pe_str (nomark _)) (pw_and (pt_cmpR op_eq (pe_dget hu (pv 0) pe_str (fun _ _ => rfl)) pe_str (nomark _))
        (pw_and1 (pt_cmpR op_eq (pe_callB call_lenD (by rfl) T.f PySem.boot_len (pa_cons (pe_dget hu (pv 0) pe_str (fun _ _ => rfl)) pa_nil)) (pe_callB call_len_str (by rfl) T.f PySem.boot_len (pa_cons (pe_dget hu (pv 0) pe_str (fun _ _ => rfl)) pa_nil)) (nomark _))))))
        (pss_one (ps_ret pe_str)) pss_nil)
      (pss_one (ps_ret (pe_dget hu (pv 0) pe_str (fun _ _ => rfl)))), ?_⟩
    have hlen : s.text.length ≤ sizeLine := line_big (by have := g.len; omega)
    obtain ⟨ks, hks, nd, hm⟩ := x.got
    have kk := k ks nd hm
    refine ⟨_, rfl, p, _, rfl, hget x.at_ hk_mood, rfl, _, rfl, ?_⟩
    refine iteE (mood_fin s.fin) (iteB (fun c1 => ?_) (fun c1 => ⟨_, rfl, p, _, rfl, hget x.at_ hk_mood, ?_⟩))
    · refine ⟨_, rfl, p, _, rfl, hget x.at_ hk_end, rfl, _, rfl, ?_⟩
      refine iteE (tl_got s.tail) (iteB (fun c2 => ?_) (fun c2 => ⟨_, rfl, p, _, rfl, hget x.at_ hk_mood, ?_⟩))
      · refine ⟨_, rfl, p, _, rfl, hget x.at_ hk_got, ga, _, rfl, hks, _, rfl, p, _, rfl, hget x.at_ hk_text, _, rfl, hlen, rfl, _, rfl, ?_⟩
        have e : decide (V.int ((pk ks).length : Int) = V.int (s.text.length : Int)) = decide ((ks.length : Int) = (s.text.length : Int)) := by
          rw [dec_int, pk_len]
          rfl
        refine iteE e (iteB (fun c3 => ?_) (fun c3 => ⟨_, rfl, p, _, rfl, hget x.at_ hk_mood, ?_⟩))
        · have e2 : stateS s (ks.length : Int) = "got" := by
            unfold stateS
            rw [c1, c2, c3]
            rfl
          rw [e2] at kk
          exact kk
        · have e2 : stateS s (ks.length : Int) = moodS s.fin := by
            unfold stateS
            rw [c1, c2, c3]
            rfl
          rw [e2] at kk
          exact kk
      · have e2 : stateS s (ks.length : Int) = moodS s.fin := by
          unfold stateS
          rw [c1, c2]
          rfl
        rw [e2] at kk
        exact kk
    · have e2 : stateS s (ks.length : Int) = moodS s.fin := by
        unfold stateS
        rw [c1]
        rfl
      rw [e2] at kk
      exact kk
end
end K41

/-! the law's own: bounds, would, cut -/
namespace K41
open PySem PySem.Spec PyProof.Rows L2
theorem at2 {x y : V} (b : Bool) : atI [x, y] (if b = true then 1 else 0) = some (if b = true then y else x) := by
  cases b with
  | true => exact atI_nat (xs := [x, y]) (j := 1) rfl
  | false => exact atI_nat (xs := [x, y]) (j := 0) rfl
theorem bv_non (b : Option Int) : decide (bv b = V.non) = b.isNone := by
  cases b with
  | none => exact decide_eq_true rfl
  | some b => exact decide_eq_false fun z => by cases z
def pieceD : Option (Int × Str × Bool) → PyData
  | none => .none
  | some (a, z, l) => .tuple [.int a, .str z, .bool l]
theorem dp_piece {K : PySem.W.Frag} {H : Hp} {v : V} {d : Option (Int × Str × Bool)} (h : PieceAt H v d) : Dp K H v (pieceD d) := by
  cases d with
  | none =>
    obtain rfl : v = .non := h
    exact .non
  | some q =>
    obtain ⟨a, z, l⟩ := q
    obtain ⟨t, rfl, ht⟩ := h
    exact .tup (SqT.of ht) (.cons (.int _) (.cons (.str _) (.cons (.bl _) .nil)))
theorem fine_piece {s : WS} (g : Gd s) {run : Option (Int × Int)} (r : RunOf s.holes run) {most : Int} {b : Option Int} : Fine 1 (pieceD (due s run most b)) := by
  cases h : due s run most b with
  | none => exact .non
  | some q =>
    obtain ⟨a, z, l⟩ := q
    exact .tup (n := 0) (.cons (.int _) (.cons (.str (due_ok g r h).tok) (.cons (.bl _) .nil)))
section
variable {P : Program} {w : World} {K : PySem.W.Frag} {mg : Str → Option Value} {base : Heap}
/-! ### bounds -/
theorem scBounds : FnScope ["_law_cell_here", "_law_one_here", "_law_two"] ["_law_cell_here"] (defScope sBounds) := ⟨rfl, rfl, rfl, by decide +kernel, rfl, by decide +kernel, by decide +kernel⟩
def spBounds : Sp := fun vs H Q _ => ∃ c : Int, vs = [.int c] ∧ ∀ H' t most b, Same H H' → H' t = some (.tup [.int most, bv b]) → Q (.ref t) H'
theorem do_bounds (T : Tx K mg) : ∃ fd, Do P w K mg base 2 (He.ga K "_law_bounds") ["_law_cell_here"] [] spBounds fd [] := by
  obtain ⟨fd, F⟩ := T.def_ 39
  obtain ⟨_, G⟩ := do_mix (P := P) (w := w) (base := base) T
  refine ⟨fd, ok0 F scBounds (fun vs H Q E h => ?_) (fun cdv A outer s0 H vs Q E hr h => ?_), F.bindsN fun _ _ _ _ _ _ us hl => match us, hl with | [_], _ => rfl, .nil, F.kp⟩
  · obtain ⟨c, rfl, _⟩ := h
    rfl
  · obtain ⟨c, rfl, q⟩ := h
    refine ⟨_, pss_cons (ps_par (i := 1) (j := 2) (by rfl) scBounds.nd rfl rfl (by decide) rfl rfl (pa_cons (pe_call G.ok hr (by rfl) T.g G.kp G.b G.v pass0 (pa_cons (pv 0) (pa_cons pe_int pa_nil))) (pa_cons (pe_call G.ok hr (by rfl) T.g G.kp G.b G.v pass0 (pa_cons (pv 0) (pa_cons pe_int pa_nil))) pa_nil)) (by rfl))
      (pss_one (ps_ret (pe_tup (pa_cons (pe_ix ix_list (pe_lst (pa_cons (pe_op op_mod (pv 1) pe_int) (pa_cons (pe_op op_mod (pe_op op_fdiv (pv 1) pe_int) pe_int) pa_nil)))
          (pe_callTy call_int1 (by rfl) T.f (by decide +kernel) (pa_cons (pe_cmpR op_eq (pe_op op_mod (pe_op op_fdiv (pv 2) pe_int) pe_int) pe_int (nomark _)) pa_nil)) (fun _ _ => rfl))
        (pa_cons (pe_ix ix_list (pe_lst (pa_cons pe_non (pa_cons (pe_op op_mod (pe_op op_fdiv (pv 2) pe_int) pe_int) pa_nil))) (pe_op op_mod (pv 2) pe_int) (fun _ _ => rfl)) pa_nil))))), ?_⟩
    refine ⟨_, rfl, c, _, rfl, by omega, by omega, fun m1 h1 h1' => ⟨_, rfl, c, _, rfl, by omega, by omega, fun m2 h2 h2' => ?_⟩⟩
    refine ⟨_, _, rfl, ?_⟩
    refine ⟨_, rfl, _, _, rfl, rfl, (by show (0 : Int) < 10; decide), _, rfl, _, _, rfl, rfl, ⟨by decide, by decide⟩, _, _, rfl, rfl, (by show (0 : Int) < 70; decide), (by show 2 ≤ sizeLine; decide), fun l1 hl1 => ?_⟩
    refine ⟨_, rfl, _, _, rfl, rfl, ⟨by decide, by decide⟩, _, _, rfl, rfl, (by show (0 : Int) < 4; decide), rfl, .inr ⟨_, rfl, l1, _, _, _, rfl, rfl, SqL.of upd_same, at2 _, ?_⟩⟩
    refine ⟨_, rfl, _, _, rfl, rfl, ⟨by decide, by decide⟩, _, _, rfl, rfl, (by show (0 : Int) < 7; decide), (by show 2 ≤ sizeLine; decide), fun l2 hl2 => ?_⟩
    have s2 : Same H _ := (Same.new (o := HO.lst [.int (m1 % 10), .int (m1 / 10 % 70)]) hl1).trans (Same.new (o := HO.lst [.non, .int (m2 / 2 % 7)]) hl2)
    have hm : m2 % 2 = 0 ∨ m2 % 2 = 1 := by omega
    refine ⟨_, rfl, _, _, rfl, rfl, (by show (0 : Int) < 2; decide), l2, _, _, if decide (m2 % 2 = 1) = true then .int (m2 / 2 % 7) else .non, rfl, rfl, SqL.of upd_same, ?_, (by show 2 ≤ sizeLine; decide), fun t ht => ?_⟩
    · rcases hm with e | e
      · rw [e]
        exact atI_nat (xs := [V.non, _]) (j := 0) rfl
      · rw [e]
        exact atI_nat (xs := [V.non, _]) (j := 1) rfl
    · have e1 : (if decide (V.int (m2 / 14 % 4) = V.int 0) = true then V.int (m1 / 10 % 70) else V.int (m1 % 10)) = V.int (if decide (V.int (m2 / 14 % 4) = V.int 0) = true then m1 / 10 % 70 else m1 % 10) := by split <;> rfl
      have e2 : (if decide (m2 % 2 = 1) = true then V.int (m2 / 2 % 7) else V.non) = bv (if decide (m2 % 2 = 1) = true then some (m2 / 2 % 7) else none) := by split <;> rfl
      refine q _ t (if decide (V.int (m2 / 14 % 4) = V.int 0) = true then m1 / 10 % 70 else m1 % 10) (if decide (m2 % 2 = 1) = true then some (m2 / 2 % 7) else none) (s2.trans (Same.new ht)) ?_
      rw [← e1, ← e2]
      exact upd_same
/-! ### would -/
theorem scLWould : FnScope ["_law_writer", "_law_here", "_law_most", "_law_bound", "_law_kept", "_law_told_here"] ["_law_writer", "_law_here", "_law_most", "_law_bound"] (defScope sWould) := ⟨rfl, rfl, rfl, by decide +kernel, rfl, by decide +kernel, by decide +kernel⟩
def spLWould (K : PySem.W.Frag) : Sp := fun vs H Q _ => ∃ (p h g m : Addr) (most : Int) (b : Option Int) (s : WS), vs = [.ref p, .ref h, .int most, bv b] ∧ WAt K H p s ∧ LIn H h g m s ∧ Gd s ∧ ∀ H', Same H H' → Q (.bl true) H'
theorem do_lWould (T : Tx K mg) : ∃ fd, Do P w K mg base 5 (He.ga K "_law_would") ["_law_writer", "_law_here", "_law_most", "_law_bound"] [] (spLWould K) fd [] := by
  obtain ⟨fd, F⟩ := T.def_ 38
  obtain ⟨_, GS⟩ := do_wStored (P := P) (w := w) (base := base) T
  obtain ⟨_, _, GW⟩ := do_wWould (P := P) (w := w) (base := base) T
  obtain ⟨_, GD⟩ := do_due (P := P) (w := w) (base := base) T
  refine ⟨fd, ok0 F scLWould (fun vs H Q E h => ?_) (fun cdv A outer s0 H vs Q E hr h => ?_), F.bindsN fun _ _ _ _ _ _ us hl => match us, hl with | [_, _, _, _], _ => rfl, .nil, F.kp⟩
  · obtain ⟨p, h, g, m, most, b, s, rfl, _⟩ := h
    rfl
  · obtain ⟨p, hh, ga, ma, most, b, s, rfl, x, lx, g, q⟩ := h
    refine ⟨_, pss_cons (ps_set (i := 4) scLWould.nd rfl (.inl rfl) (pe_meth0 (pv 0) T.kW (T.mW 70) GS.ok.ok (hr.mono (by decide)) GS.b .nil pass0))
      (pss_cons (ps_set (i := 5) scLWould.nd rfl (.inl rfl) (pe_methN (pv 0) T.kW (T.mW 60) GW.ok (hr.mono (by decide)) GW.kb pass0 (pa_cons (pv 2) pa_nil) (pk_cons (pv 3) pk_nil)))
      (pss_cons (ps_if (PW.pt (pw_or (pt_not (pt_val (pe_callB call_isi (by rfl) T.f (by decide +kernel) (pa_cons (pv 5) (pa_cons (pe_bltn (v := .ty "bool") (by rfl) T.f (by decide +kernel) rfl) pa_nil)))))
          (pw_or (pt_cmpR op_ne (pv 5) (pe_cmpR op_notN (pe_call GD.ok (hr.mono (by decide)) (by rfl) T.g GD.kp GD.b GD.v pass0 (pa_cons (pv 1) (pa_cons (pv 2) (pa_cons (pv 3) pa_nil)))) pe_non (nomark _)) (nomark _))
          (pw_or1 (pt_cmpR (op_neD hr.units) (pe_meth0 (pv 0) T.kW (T.mW 70) GS.ok.ok (hr.mono (by decide)) GS.b .nil pass0) (pv 4) (nomark _))))))
          (pss_one (ps_ret pe_bl)) pss_nil)
      (pss_one (ps_ret (pe_or (pe_cmpR op_notN (pv 3) pe_non (nomark _)) (pe_one (pe_cmpR op_eq (pe_meth (pv 0) T.kW (T.mW 60) GW.ok (hr.mono (by decide)) GW.b GW.v pass0 (pa_cons (pv 2) pa_nil)) (pv 5) (nomark _)))))))), ?_⟩
    obtain ⟨dx, rs, rh, xi⟩ := id x
    refine ⟨_, rfl, p, dx, _, rfl, xi.at_, wn_stored, p, s, rfl, x, fun H1 k1 s1 st1 => ?_⟩
    have x1 := x.same s1
    refine ⟨_, rfl, p, dx, _, rfl, s1 _ _ xi.at_, wn_would, _, rfl, _, rfl, rfl, rfl, p, most, b, s, rfl, x1, g, fun H2 run s2 hrun => ?_⟩
    have s12 := s1.trans s2
    refine ⟨_, rfl, _, _, _, _, _, rfl, .ty "bool", .base (.bl _), kit_ty (by decide +kernel), true, rfl, iteF ?_⟩
    refine ⟨_, rfl, _, rfl, _, rfl, _, rfl, hh, ga, ma, most, b, s, rfl, lx.same s12, g, fun H3 run' v s3 hrun' hp => ⟨rfl, ?_⟩⟩
    obtain rfl := RunOf.uniq hrun hrun'
    have hv : (!decide (v = V.non)) = (due s run most b).isSome := by
      cases hd : due s run most b with
      | none =>
        rw [hd] at hp
        obtain rfl : v = .non := hp
        rfl
      | some q =>
        obtain ⟨a, z, l⟩ := q
        rw [hd] at hp
        obtain ⟨t, rfl, _⟩ := hp
        rfl
    rw [hv]
    refine ⟨rfl, _, rfl, iteNS rfl ?_⟩
    have s123 := s12.trans s3
    refine ⟨_, rfl, p, dx, _, rfl, s123 _ _ xi.at_, wn_stored, p, s, rfl, x.same s123, fun H4 k4 s4 st4 => ?_⟩
    obtain ⟨d, hd1, hd2, hd3, hd4⟩ := st_eq (K := K) g.tok st4 ((st1.same s2).same (s3.trans s4))
    refine ⟨_, rfl, d, d, hd1, hd2, hd3, hd3, _, rfl, ?_⟩
    rw [hd4]
    refine iteF ?_
    have s14 := s123.trans s4
    refine ⟨_, rfl, rfl, _, rfl, ?_⟩
    rw [bv_non]
    cases b with
    | some b => exact q _ s14
    | none =>
      refine ⟨_, rfl, p, dx, _, rfl, s14 _ _ xi.at_, wn_would, _, rfl, p, most, none, s, rfl, x.same s14, g, fun H5 run5 s5 hrun5 => ?_⟩
      obtain rfl := RunOf.uniq hrun hrun5
      exact ⟨_, rfl, rfl, qb (decide_eq_true rfl) (q _ (s14.trans s5))⟩
/-! ### cut -/
theorem scLCut : FnScope ["_law_writer", "_law_here", "_law_most", "_law_bound", "_law_asked", "_law_due_here", "_law_found"] ["_law_writer", "_law_here", "_law_most", "_law_bound", "_law_asked"] (defScope sCut) := ⟨rfl, rfl, rfl, by decide +kernel, rfl, by decide +kernel, by decide +kernel⟩
def spLCut (K : PySem.W.Frag) : Sp := fun vs H Q _ => ∃ (p h g m dx rs rh : Addr) (most : Int) (b : Option Int) (asked : Bool) (s : WS), vs = [.ref p, .ref h, .int most, bv b, .bl asked] ∧ WIn K H p dx rs rh s ∧ LIn H h g m s ∧ Gd s ∧
  ∀ H' run rh', Kp [p] H H' → RunOf s.holes run → WIn K H' p dx rs rh' (cutF s (due s run most b)) → (rh' = rh ∨ Fr K H H' rh') → Q (.bl true) H'
theorem do_lCut (T : Tx K mg) : ∃ fd, Do P w K mg base 8 (He.ga K "_law_cut") ["_law_writer", "_law_here", "_law_most", "_law_bound", "_law_asked"] [] (spLCut K) fd [] := by
  obtain ⟨fd, F⟩ := T.def_ 40
  obtain ⟨_, GW⟩ := do_lWould (P := P) (w := w) (base := base) T
  obtain ⟨_, _, GC⟩ := do_wCut (P := P) (w := w) (base := base) T
  obtain ⟨_, GD⟩ := do_due (P := P) (w := w) (base := base) T
  refine ⟨fd, ok0 F scLCut (fun vs H Q E h => ?_) (fun cdv A outer s0 H vs Q E hr h => ?_), F.bindsN fun _ _ _ _ _ _ us hl => match us, hl with | [_, _, _, _, _], _ => rfl, .nil, F.kp⟩
  · obtain ⟨p, h, g, m, dx, rs, rh, most, b, asked, s, rfl, _⟩ := h
    rfl
  · obtain ⟨p, hh, ga, ma, dx, rs, rh, most, b, asked, s, rfl, xi0, lx, g, q⟩ := h
    have x : WAt K H p s := ⟨dx, rs, rh, xi0⟩
    refine ⟨_, pss_cons (ps_set (i := 5) scLCut.nd rfl (.inl rfl) (pe_call GD.ok (hr.mono (by decide)) (by rfl) T.g GD.kp GD.b GD.v pass0 (pa_cons (pv 1) (pa_cons (pv 2) (pa_cons (pv 3) pa_nil)))))
      (pss_cons (ps_cut (ps_if (PW.pt (pw_and (pt_val (pv 4)) (pw_and1 (pt_not (pt_val (pe_call GW.ok (hr.mono (by decide)) (by rfl) T.g GW.kp GW.b GW.v pass0 (pa_cons (pv 0) (pa_cons (pv 1) (pa_cons (pv 2) (pa_cons (pv 3) pa_nil)))))))))) (pss_one (ps_ret pe_bl)) pss_nil))
      (pss_cons (ps_set (i := 6) scLCut.nd rfl (.inl rfl) (pe_cut (pe_ifExp (pt_cmpR op_notN (pv 3) pe_non (nomark _)) (pe_methN (pv 0) T.kW (T.mW 59) GC.ok hr GC.kb pass0 (pa_cons (pv 2) pa_nil) (pk_cons (pv 3) pk_nil)) (pe_meth (pv 0) T.kW (T.mW 59) GC.ok hr GC.b GC.v pass0 (pa_cons (pv 2) pa_nil)))))
      (pss_cons (ps_if (PW.pt (pw_or (pt_cmpR (op_neD hr.units) (pv 6) (pv 5) (nomark _)) (pw_or1 (PW.pt (pw_and (pt_cmpR op_notN (pv 5) pe_non (nomark _))
          (pw_and1 (pt_not (pt_val (pe_callB call_isi (by rfl) T.f (by decide +kernel) (pa_cons (pe_ix ix_tup (pv 6) pe_int (fun _ _ => rfl)) (pa_cons (pe_bltn (v := .ty "bool") (by rfl) T.f (by decide +kernel) rfl) pa_nil))))))))))) (pss_one (ps_ret pe_bl)) pss_nil)
      (pss_one (ps_ret pe_bl))))), ?_⟩
    refine ⟨_, rfl, _, rfl, _, rfl, hh, ga, ma, most, b, s, rfl, lx, g, fun H1 run v s1 hrun hp => ?_⟩
    refine ⟨fun σ' H' => σ' = [some (.ref p), some (.ref hh), some (.int most), some (bv b), some (.bl asked), some v, none] ∧ Same H1 H', ?_, ?_⟩
    case refine_2 =>
      refine ⟨_, rfl, asked, rfl, ?_⟩
      cases asked with
      | false => exact iteF ⟨rfl, Same.refl _⟩
      | true => exact iteT ⟨_, rfl, _, rfl, _, rfl, _, rfl, p, hh, ga, ma, most, b, s, rfl, x.same s1, lx.same s1, g, fun H' s' => ⟨true, rfl, iteF ⟨rfl, s'⟩⟩⟩
    rintro σ' H2 ⟨rfl, s2⟩
    have s12 := s1.trans s2
    have x2 := x.same s12
    have hp2 : PieceAt H2 v (due s run most b) := by
      cases hd : due s run most b with
      | none => rw [hd] at hp; exact hp
      | some q =>
        obtain ⟨a, z, l⟩ := q
        rw [hd] at hp
        obtain ⟨t, e, ht⟩ := hp
        exact ⟨t, e, s2 _ _ ht⟩
    have xi := xi0.same s12
    refine ⟨fun v' H' => Kp [p] H2 H' ∧ PieceAt H' v' (due s run most b) ∧ ∃ rh', WIn K H' p dx rs rh' (cutF s (due s run most b)) ∧ (rh' = rh ∨ Fr K H2 H' rh'), ?_, ?_⟩
    case refine_2 =>
      refine ⟨_, rfl, rfl, _, rfl, ?_⟩
      rw [bv_non]
      cases b with
      | some b =>
        refine iteT ⟨_, rfl, p, dx, _, rfl, xi.at_, wn_cut, _, rfl, _, rfl, rfl, rfl, p, dx, rs, rh, most, some b, s, rfl, xi, g, fun H3 run3 v3 rh3 kp hrun3 hp3 hw3 fr3 => ?_⟩
        obtain rfl := RunOf.uniq hrun hrun3
        exact ⟨kp, hp3, rh3, hw3, fr3⟩
      | none =>
        refine iteF ⟨_, rfl, p, dx, _, rfl, xi.at_, wn_cut, _, rfl, p, dx, rs, rh, most, none, s, rfl, xi, g, fun H3 run3 v3 rh3 kp hrun3 hp3 hw3 fr3 => ?_⟩
        obtain rfl := RunOf.uniq hrun hrun3
        exact ⟨kp, hp3, rh3, hw3, fr3⟩
    rintro v3 H3 ⟨kp, hp3, rh3, hw3, fr3⟩
    have hp3' : PieceAt H3 v (due s run most b) := by
      cases hd : due s run most b with
      | none => rw [hd] at hp2; exact hp2
      | some q =>
        obtain ⟨a, z, l⟩ := q
        rw [hd] at hp2
        obtain ⟨t, e, ht⟩ := hp2
        exact ⟨t, e, kp.tup x2.hot ht⟩
    have fp := fine_piece g hrun (most := most) (b := b)
    refine ⟨_, rfl, _, rfl, _, _, dp_piece hp3, dp_piece hp3', fp.shaped (by decide), fp.shaped (by decide), _, rfl, ?_⟩
    rw [fp.refl]
    refine iteF ⟨_, rfl, rfl, _, rfl, ?_⟩
    have fin : Q (.bl true) H3 := q H3 run rh3 ((Kp.of s12).trans kp) hrun hw3 (fr3.imp id fun f dx' l' e => s12.free (f dx' l' e))
    cases hd : due s run most b with
    | none =>
      rw [hd] at hp3'
      obtain rfl : v = .non := hp3'
      exact iteF (iteF fin)
    | some q =>
      obtain ⟨a, z, l⟩ := q
      rw [hd] at hp3 hp3'
      obtain ⟨t', rfl, ht'⟩ := hp3'
      obtain ⟨t, rfl, ht⟩ := hp3
      refine iteT ⟨_, rfl, t, _, _, _, rfl, rfl, SqT.of ht, atI_nat (j := 2) rfl, _, _, _, _, _, rfl, .ty "bool", .base (.bl _), kit_ty (by decide +kernel), true, rfl, iteF fin⟩
end
end K41

/-! the law's own: after a cut, told -/
namespace K41
open PySem PySem.Spec PyProof.Rows L2
/-! ### stores to the law's dicts -/
section
variable {s : WS} {g m : Addr} {z : Str} {i : Int}
theorem hp_text : putK (hkv s g m) (.inr "text") (.str z) = hkv { s with text := z } g m := by kernel_rfl
theorem hp_upto : putK (hkv s g m) (.inr "upto") (.int i) = hkv { s with limit := i } g m := by kernel_rfl
theorem hp_sent : putK (hkv s g m) (.inr "sent") (.int i) = hkv { s with edge := i } g m := by kernel_rfl
theorem hp_mood {b : Bool} : putK (hkv s g m) (.inr "mood") (.str (moodS b)) = hkv { s with fin := b } g m := by kernel_rfl
theorem hp_end {t : Tl} : putK (hkv s g m) (.inr "end") (.str t.s) = hkv { s with tail := t } g m := by kernel_rfl
end
theorem pk_put (ks : List Int) (n : Int) : putK (pk ks) (Sum.inl n) (.bl true) = pk (if n ∈ ks then ks else ks ++ [n]) := by
  unfold putK
  have e : ((pk ks).any fun kv => decide (kv.1 = Sum.inl n)) = decide (n ∈ ks) := by rw [valV_any, pk_val]
  rw [e]
  by_cases h : n ∈ ks
  · rw [if_pos (decide_eq_true h), if_pos h]
    unfold pk
    rw [List.map_map]
    refine List.map_congr_left fun k _ => ?_
    show (if (Sum.inl k : Key) = Sum.inl n then ((Sum.inl k : Key), V.bl true) else (Sum.inl k, V.bl true)) = (Sum.inl k, V.bl true)
    split <;> rfl
  · rw [if_neg (by simpa using h), if_neg h]
    unfold pk
    rw [List.map_append]
    rfl
theorem pk_drop (ks : List Int) (n : Int) : dropK (pk ks) (Sum.inl n) = pk (ks.filter fun k => decide (k ≠ n)) := by
  unfold dropK pk
  rw [List.filter_map]
  congr 1
  refine List.filter_congr fun k _ => ?_
  show decide ((Sum.inl k : Key) ≠ Sum.inl n) = decide (k ≠ n)
  by_cases h : k = n
  · subst h
    simp
  · have h2 : (Sum.inl k : Key) ≠ Sum.inl n := fun z => h (Sum.inl.inj z)
    simp [h, h2]
theorem ds_put {H : Hp} {d : Addr} {S : Int → Prop} {ks : List Int} {n : Int} (nd : ks.Nodup) (hm : ∀ j, j ∈ ks ↔ S j) : DS (upd H d (.dK (putK (pk ks) (Sum.inl n) (.bl true)))) d (fun j => S j ∨ j = n) := by
  refine ⟨_, by rw [upd_same, pk_put], ?_, fun j => ?_⟩
  · split
    · exact nd
    · rename_i h
      refine List.nodup_append.mpr ⟨nd, List.pairwise_singleton _ _, fun a ha b hb => ?_⟩
      rw [List.mem_singleton.mp hb]
      exact fun z => h (z ▸ ha)
  · split
    · rename_i h
      rw [hm]
      exact ⟨.inl, fun z => z.elim id fun e => by rw [e]; exact (hm n).mp h⟩
    · rw [List.mem_append, List.mem_singleton, hm]
theorem ds_drop {H : Hp} {d : Addr} {S : Int → Prop} {ks : List Int} {n : Int} (nd : ks.Nodup) (hm : ∀ j, j ∈ ks ↔ S j) : DS (upd H d (.dK (dropK (pk ks) (Sum.inl n)))) d (fun j => S j ∧ j ≠ n) := by
  refine ⟨_, by rw [upd_same, pk_drop], nd.sublist List.filter_sublist, fun j => ?_⟩
  rw [List.mem_filter, hm, decide_eq_true_iff]
section
variable {H : Hp} {h g m : Addr} {s s' : WS}
theorem LIn.setH (x : LIn H h g m s) (e1 : s'.safe = s.safe) (e2 : s'.holes = s.holes) : LIn (upd H h (.dK (hkv s' g m))) h g m s' := by
  refine ⟨upd_same, x.hg, x.hm, x.gm, ?_, ?_⟩
  · rw [e1]
    exact x.got.keep (Kp.put (m := [h]) (by simp)) (by simpa using x.hg.symm)
  · rw [e2]
    exact x.mis.keep (Kp.put (m := [h]) (by simp)) (by simpa using x.hm.symm)
theorem LIn.setM (x : LIn H h g m s) {kvs : List (Key × V)} {S : Int → Prop} (d : DS (upd H m (.dK kvs)) m S) : LIn (upd H m (.dK kvs)) h g m { s with holes := S } :=
  ⟨by rw [upd_ne x.hm]; exact x.at_, x.hg, x.hm, x.gm, x.got.keep (Kp.put (m := [m]) (by simp)) (by simpa using x.gm), d⟩
theorem LIn.setG (x : LIn H h g m s) {kvs : List (Key × V)} {S : Int → Prop} (d : DS (upd H g (.dK kvs)) g S) : LIn (upd H g (.dK kvs)) h g m { s with safe := S } :=
  ⟨by rw [upd_ne x.hg]; exact x.at_, x.hg, x.hm, x.gm, d, x.mis.keep (Kp.put (m := [g]) (by simp)) (by simpa using x.gm.symm)⟩
theorem LIn.congr (x : LIn H h g m s) (h1 : s'.lane = s.lane) (h2 : s'.text = s.text) (h3 : s'.limit = s.limit) (h4 : s'.edge = s.edge) (h5 : ∀ n, s.safe n ↔ s'.safe n) (h6 : ∀ n, s.holes n ↔ s'.holes n) (h7 : s'.fin = s.fin) (h8 : s'.tail = s.tail) : LIn H h g m s' := by
  refine ⟨?_, x.hg, x.hm, x.gm, x.got.congr h5, x.mis.congr h6⟩
  have e : hkv s' g m = hkv s g m := by
    unfold hkv
    rw [h1, h2, h3, h4, h7, h8]
  rw [e]
  exact x.at_
theorem LIn.hot {K : PySem.W.Frag} (x : LIn H h g m s) : Hot K H [h, g, m] := fun a ha => by
  obtain ⟨ks1, k1, _⟩ := x.got
  obtain ⟨ks2, k2, _⟩ := x.mis
  rcases List.mem_cons.mp ha with e | ha
  · exact .inr ⟨_, by rw [e]; exact x.at_⟩
  · rcases List.mem_cons.mp ha with e | ha
    · exact .inr ⟨_, by rw [e]; exact k1⟩
    · rw [List.mem_singleton.mp ha]
      exact .inr ⟨_, k2⟩
end
section
variable {P : Program} {w : World} {K : PySem.W.Frag} {mg : Str → Option Value} {base : Heap}
/-! ### after a cut -/
theorem scAfter : FnScope ["_law_here", "_law_most", "_law_bound", "_law_due_here", "_law_at", "_law_letters_here", "_law_last", "_law_place"] ["_law_here", "_law_most", "_law_bound"] (defScope sAfter) := ⟨rfl, rfl, rfl, by decide +kernel, rfl, by decide +kernel, by decide +kernel⟩
def spAfter : Sp := fun vs H Q _ => ∃ (h g m : Addr) (most : Int) (b : Option Int) (s : WS), vs = [.ref h, .int most, bv b] ∧ LIn H h g m s ∧ Gd s ∧
  ∀ H' run, Kp [h, g, m] H H' → RunOf s.holes run → LIn H' h g m (cutF s (due s run most b)) → Q .non H'
theorem do_after (T : Tx K mg) : ∃ fd, Do P w K mg base 2 (He.ga K "_law_after_cut") ["_law_here", "_law_most", "_law_bound"] [] spAfter fd [] := by
  obtain ⟨fd, F⟩ := T.def_ 41
  obtain ⟨_, GD⟩ := do_due (P := P) (w := w) (base := base) T
  refine ⟨fd, ok0 F scAfter (fun vs H Q E h => ?_) (fun cdv A outer s0 H vs Q E hr h => ?_), F.bindsN fun _ _ _ _ _ _ us hl => match us, hl with | [_, _, _], _ => rfl, .nil, F.kp⟩
  · obtain ⟨p, g, m, most, b, s, rfl, _⟩ := h
    rfl
  · obtain ⟨p, ga, ma, most, b, s, rfl, x, g, q⟩ := h
    have hu := hu_of hr
    refine ⟨_, pss_cons (ps_set (i := 3) scAfter.nd rfl (.inl rfl) (pe_call GD.ok hr (by rfl) T.g GD.kp GD.b GD.v pass0 (pa_cons (pv 0) (pa_cons (pv 1) (pa_cons (pv 2) pa_nil)))))
      (pss_one (ps_if (pt_cmpR op_notN (pv 3) pe_non (nomark _))
        (pss_cons (ps_asg (pv 3) (pg_tup rfl (pgs_cons (pg_name (i := 4) scAfter.nd rfl (.inl rfl)) (pgs_cons (pg_name (i := 5) scAfter.nd rfl (.inl rfl)) (pgs_cons (pg_name (i := 6) scAfter.nd rfl (.inl rfl)) pgs_nil)))))
        (pss_cons (ps_for PassesOwn.never rfl (pi_range2 (by rfl) T.f (pa_cons (pv 4) (pa_cons (pe_op op_add (pv 4) (pe_callB call_len_str (by rfl) T.f PySem.boot_len (pa_cons (pv 5) pa_nil))) pa_nil))) (pg_name (i := 7) scAfter.nd rfl (.inl rfl))
          (pss_one (ps_expr (pe_dpop2 (pe_dget hu (pv 0) pe_str (fun _ _ => rfl)) (pv 7) pe_non ⟨rfl, rfl, rfl, rfl⟩))))
        (pss_cons (ps_dput hu (pv 0) pe_str (pe_callB (call_max2 rfl) (by rfl) T.f (by decide +kernel) (pa_cons (pe_dget hu (pv 0) pe_str (fun _ _ => rfl)) (pa_cons (pe_op op_add (pv 4) (pe_callB call_len_str (by rfl) T.f PySem.boot_len (pa_cons (pv 5) pa_nil))) pa_nil))) rfl)
        (pss_one (ps_if (PW.pt (pw_and (pt_val (pv 6)) (pw_and1 (pt_cmpR op_ne (pe_dget hu (pv 0) pe_str (fun _ _ => rfl)) pe_str (nomark _))))) (pss_one (ps_dput hu (pv 0) pe_str pe_str rfl)) pss_nil))))) pss_nil)), ?_⟩
    refine ⟨_, rfl, _, rfl, _, rfl, p, ga, ma, most, b, s, rfl, x, g, fun H1 run v s1 hrun hp => ?_⟩
    have x1 := x.same s1
    refine ⟨_, rfl, rfl, _, rfl, ?_⟩
    cases hd : due s run most b with
    | none =>
      rw [hd] at hp
      obtain rfl : v = .non := hp
      exact iteF (q H1 run (Kp.of s1) hrun (by rw [hd]; exact x1))
    | some d =>
      obtain ⟨a, z, last⟩ := d
      rw [hd] at hp
      obtain ⟨t, rfl, ht⟩ := hp
      have ok := due_ok g hrun hd
      have h0 := ok.a0
      have hup := ok.up
      have hn := g.len
      have hz : z.length ≤ sizeLine := line_big (by omega)
      refine iteT ⟨_, rfl, t, _, rfl, SqT.of ht, rfl, _, _, rfl, _, _, rfl, _, _, rfl, rfl, ?_⟩
      refine ⟨_, rfl, _, rfl, _, rfl, _, rfl, hz, _, _, rfl, rfl, a, a + (z.length : Int), rfl, ⟨by omega, by omega, by omega, by omega⟩, ?_⟩
      have en : (a + (z.length : Int) - a).toNat = z.length := by omega
      rw [en]
      refine for_range (lo := a) (n := z.length) (fun i σ' H' => ∃ v7, σ' = [some (.ref p), some (.int most), some (bv b), some (.ref t), some (.int a), some (.str z), some (.bl last), v7] ∧ Kp [p, ga, ma] H1 H' ∧
        LIn H' p ga ma { s with holes := fun n => s.holes n ∧ ¬ (a ≤ n ∧ n < a + (i : Int)) }) ⟨none, rfl, Kp.refl, x1.congr rfl rfl rfl rfl (fun n => Iff.rfl) (fun n => ?_) rfl rfl⟩ ?_ ?_
      · show s.holes n ↔ s.holes n ∧ ¬ (a ≤ n ∧ n < a + ((0 : Nat) : Int))
        exact ⟨fun h => ⟨h, by omega⟩, fun h => h.1⟩
      · rintro i σ' H' hi ⟨v7, rfl, kp, y⟩
        obtain ⟨ks, hks, nd, hm⟩ := y.mis
        refine ⟨_, rfl, p, _, rfl, hget y.at_ hk_missed, ma, rfl, .inl ⟨_, .inl hks⟩, _, rfl, pk ks, Sum.inl (a + (i : Int)), hks, rfl, fun v hv => ?_, fun hv => ?_⟩
        · refine ⟨_, rfl, kp.trans (Kp.put (by simp)), (y.setM (ds_drop nd hm)).congr rfl rfl rfl rfl (fun n => Iff.rfl) (fun n => ?_) rfl rfl⟩
          show (s.holes n ∧ ¬ (a ≤ n ∧ n < a + (i : Int))) ∧ n ≠ a + (i : Int) ↔ s.holes n ∧ ¬ (a ≤ n ∧ n < a + ((i + 1 : Nat) : Int))
          constructor
          · exact fun ⟨⟨h1, h2⟩, h3⟩ => ⟨h1, by omega⟩
          · exact fun ⟨h1, h2⟩ => ⟨⟨h1, by omega⟩, by omega⟩
        · refine ⟨_, rfl, kp, y.congr rfl rfl rfl rfl (fun n => Iff.rfl) (fun n => ?_) rfl rfl⟩
          have hno : ¬ (a + (i : Int)) ∈ ks := fun z => by
            have e := pk_val (a + (i : Int)) ks
            rw [hv, decide_eq_true z] at e
            cases e
          show s.holes n ∧ ¬ (a ≤ n ∧ n < a + (i : Int)) ↔ s.holes n ∧ ¬ (a ≤ n ∧ n < a + ((i + 1 : Nat) : Int))
          constructor
          · refine fun ⟨h1, h2⟩ => ⟨h1, fun h3 => hno ?_⟩
            have e : n = a + (i : Int) := by omega
            rw [← e]
            exact (hm n).mpr ⟨h1, h2⟩
          · exact fun ⟨h1, h2⟩ => ⟨h1, by omega⟩
      · rintro σ' H2 ⟨v7, rfl, kp, y⟩
        refine ⟨_, rfl, p, _, rfl, hget y.at_ hk_sent, _, rfl, _, rfl, _, rfl, hz, _, _, rfl, rfl, _, _, rfl, ?_⟩
        have emax : (if a + (z.length : Int) > s.edge then a + (z.length : Int) else s.edge) = max s.edge (a + (z.length : Int)) := by split <;> omega
        refine ⟨_, rfl, p, _, rfl, DPut.k (k := Sum.inr "sent") y.at_ (by show 8 < sizeLine; decide), ?_⟩
        rw [hp_sent]
        have emax2 : (if a + (z.length : Int) > ({ s with holes := fun n => s.holes n ∧ ¬ (a ≤ n ∧ n < a + (z.length : Int)) } : WS).edge then a + (z.length : Int) else ({ s with holes := fun n => s.holes n ∧ ¬ (a ≤ n ∧ n < a + (z.length : Int)) } : WS).edge) = max s.edge (a + (z.length : Int)) := emax
        rw [emax2]
        have y2 := y.setH (s' := { s with holes := fun n => s.holes n ∧ ¬ (a ≤ n ∧ n < a + (z.length : Int)), edge := max s.edge (a + (z.length : Int)) }) rfl rfl
        have k2 := kp.trans (Kp.put (m := [p, ga, ma]) (o := .dK (hkv { s with holes := fun n => s.holes n ∧ ¬ (a ≤ n ∧ n < a + (z.length : Int)), edge := max s.edge (a + (z.length : Int)) } ga ma)) (p := p) (by simp))
        have fin : ∀ H3, Kp [p, ga, ma] H1 H3 → LIn H3 p ga ma (cutF s (some (a, z, last))) → Q .non H3 := fun H3 k4 x4 => q H3 run ((Kp.of s1).trans k4) hrun (by rw [hd]; exact x4)
        refine ⟨_, rfl, last, rfl, ?_⟩
        cases last with
        | false => exact iteF (fin _ k2 y2)
        | true =>
          refine iteT ⟨_, rfl, p, _, rfl, hget y2.at_ hk_end, rfl, _, rfl, ?_⟩
          refine iteE (congrArg (! ·) (tl_got s.tail)) ?_
          cases ht2 : decide (s.tail = .got) with
          | true =>
            refine iteF (fin _ k2 ?_)
            have e : (cutF s (some (a, z, true))) = { s with holes := fun n => s.holes n ∧ ¬ (a ≤ n ∧ n < a + (z.length : Int)), edge := max s.edge (a + (z.length : Int)) } := by
              unfold cutF
              simp only [ht2, Bool.not_true, Bool.and_false, Bool.false_eq_true, if_false]
            rw [e]
            exact y2
          | false =>
            refine iteT ⟨_, rfl, p, _, rfl, DPut.k (k := Sum.inr "end") y2.at_ (by show 8 < sizeLine; decide), ?_⟩
            have e3 : putK (hkv { s with holes := fun n => s.holes n ∧ ¬ (a ≤ n ∧ n < a + (z.length : Int)), edge := max s.edge (a + (z.length : Int)) } ga ma) (Sum.inr "end") (V.str ("sent" : Str)) = _ := hp_end (t := .sent)
            rw [e3]
            refine fin _ (k2.trans (Kp.put (by simp))) ?_
            have e : (cutF s (some (a, z, true))) = { s with holes := fun n => s.holes n ∧ ¬ (a ≤ n ∧ n < a + (z.length : Int)), edge := max s.edge (a + (z.length : Int)), tail := .sent } := by
              unfold cutF
              simp only [ht2, Bool.not_false, Bool.and_true, if_true]
            rw [e]
            exact y2.setH rfl rfl
/-! ### told -/
theorem scTold : FnScope ["_law_here", "_law_at", "_law_many", "_law_last", "_law_got", "_law_place"] ["_law_here", "_law_at", "_law_many", "_law_last", "_law_got"] (defScope sTold) := ⟨rfl, rfl, rfl, by decide +kernel, rfl, by decide +kernel, by decide +kernel⟩
def toldF (s : WS) (a k : Int) (l got : Bool) : WS := if got = true then gotF s a k l else misF s a k l
def spTold : Sp := fun vs H Q _ => ∃ (h g m : Addr) (a k : Int) (l got : Bool) (s : WS), vs = [.ref h, .int a, .int k, .bl l, .bl got] ∧ LIn H h g m s ∧ Gd s ∧ Snt s a k l ∧
  ∀ H', Kp [h, g, m] H H' → LIn H' h g m (toldF s a k l got) → Q .non H'
theorem do_told (T : Tx K mg) : ∃ fd, Do P w K mg base 1 (He.ga K "_law_told") ["_law_here", "_law_at", "_law_many", "_law_last", "_law_got"] [] spTold fd [] := by
  obtain ⟨fd, F⟩ := T.def_ 43
  refine ⟨fd, ok0 F scTold (fun vs H Q E h => ?_) (fun cdv A outer s0 H vs Q E hr h => ?_), F.bindsN fun _ _ _ _ _ _ us hl => match us, hl with | [_, _, _, _, _], _ => rfl, .nil, F.kp⟩
  · obtain ⟨p, g, m, a, k, l, got, s, rfl, _⟩ := h
    rfl
  · obtain ⟨p, ga, ma, a, k, l, got, s, rfl, x, g, sn, q⟩ := h
    have hu := hu_of hr
    refine ⟨_, pss_cons (ps_for PassesOwn.never rfl (pi_range2 (by rfl) T.f (pa_cons (pv 1) (pa_cons (pe_op op_add (pv 1) (pv 2)) pa_nil))) (pg_name (i := 5) scTold.nd rfl (.inl rfl))
        (pss_one (ps_if (pt_val (pv 4)) (pss_cons (ps_dput hu (pe_dget hu (pv 0) pe_str (fun _ _ => rfl)) (pv 5) pe_bl rfl) (pss_one (ps_expr (pe_dpop2 (pe_dget hu (pv 0) pe_str (fun _ _ => rfl)) (pv 5) pe_non ⟨rfl, rfl, rfl, rfl⟩))))
          (pss_one (ps_if (pt_cmp (pc_dnotin hu (pv 5) (pe_dget hu (pv 0) pe_str (fun _ _ => rfl)))) (pss_one (ps_dput hu (pe_dget hu (pv 0) pe_str (fun _ _ => rfl)) (pv 5) pe_bl rfl)) pss_nil)))))
      (pss_one (ps_if (PW.pt (pw_and (pt_val (pv 3)) (pw_and1 (pt_val (pv 4))))) (pss_one (ps_dput hu (pv 0) pe_str pe_str rfl))
        (pss_one (ps_if (PW.pt (pw_and (pt_val (pv 3)) (pw_and1 (pt_cmpR op_ne (pe_dget hu (pv 0) pe_str (fun _ _ => rfl)) pe_str (nomark _))))) (pss_one (ps_dput hu (pv 0) pe_str pe_str rfl)) pss_nil)))), ?_⟩
    have h1 := sn.a0
    have h2 := sn.k0
    have h3 := sn.up
    have h4 := g.el
    have h5 := g.len
    refine ⟨_, rfl, _, rfl, _, rfl, _, _, rfl, rfl, a, a + k, rfl, ⟨by omega, by omega, by omega, by omega⟩, ?_⟩
    have en : (a + k - a).toNat = k.toNat := by omega
    rw [en]
    refine for_range (lo := a) (n := k.toNat) (fun i σ' H' => ∃ v5, σ' = [some (.ref p), some (.int a), some (.int k), some (.bl l), some (.bl got), v5] ∧ Kp [p, ga, ma] H H' ∧ LIn H' p ga ma (toldF s a (i : Int) false got))
      ⟨none, rfl, Kp.refl, ?_⟩ ?_ ?_
    · cases got with
      | true =>
        refine x.congr rfl rfl rfl rfl (fun n => ?_) (fun n => ?_) rfl rfl
        · show s.safe n ↔ s.safe n ∨ (a ≤ n ∧ n < a + ((0 : Nat) : Int))
          exact ⟨.inl, fun h => h.elim id fun h => by omega⟩
        · show s.holes n ↔ s.holes n ∧ ¬ (a ≤ n ∧ n < a + ((0 : Nat) : Int))
          exact ⟨fun h => ⟨h, by omega⟩, fun h => h.1⟩
      | false =>
        refine x.congr rfl rfl rfl rfl (fun n => Iff.rfl) (fun n => ?_) rfl rfl
        show s.holes n ↔ s.holes n ∨ ((a ≤ n ∧ n < a + ((0 : Nat) : Int)) ∧ ¬ s.safe n)
        exact ⟨.inl, fun h => h.elim id fun h => by omega⟩
    · rintro i σ' H' hi ⟨v5, rfl, kp, y⟩
      refine ⟨_, rfl, got, rfl, ?_⟩
      obtain ⟨ks, hks, nd, hm⟩ := y.mis
      obtain ⟨gs, hgs, ndg, hmg⟩ := y.got
      have bnd : ∀ {ls : List Int} {S : Int → Prop}, ls.Nodup → (∀ n, n ∈ ls ↔ S n) → Bd S → (pk ls).length < sizeLine := fun h1 h2 h3 => by
        rw [pk_len]
        exact line_lt (by have := ds_len (H := H) (d := p) h1 h2 h3; omega)
      cases got with
      | true =>
        refine iteT ⟨_, rfl, p, _, rfl, hget y.at_ hk_got, _, rfl, ga, _, rfl, DPut.k (k := Sum.inl (a + (i : Int))) hgs (bnd ndg hmg ?_), ?_⟩
        · rintro n (h | h)
          · exact g.bdS n h
          · exact ⟨by omega, by omega⟩
        have y2 := y.setG (ds_put ndg hmg (n := a + (i : Int)))
        have ks2 : upd H' ga (.dK (putK (pk gs) (Sum.inl (a + (i : Int))) (.bl true))) ma = some (.dK (pk ks)) := by
          rw [upd_ne x.gm.symm]
          exact hks
        refine ⟨_, rfl, p, _, rfl, hget y2.at_ hk_missed, ma, rfl, .inl ⟨_, .inl ks2⟩, _, rfl, pk ks, Sum.inl (a + (i : Int)), ks2, rfl, fun v hv => ?_, fun hv => ?_⟩
        · refine ⟨_, rfl, (kp.trans (Kp.put (by simp))).trans (Kp.put (by simp)), (y2.setM (ds_drop nd hm)).congr rfl rfl rfl rfl (fun n => ?_) (fun n => ?_) rfl rfl⟩
          · show (s.safe n ∨ (a ≤ n ∧ n < a + (i : Int))) ∨ n = a + (i : Int) ↔ s.safe n ∨ (a ≤ n ∧ n < a + ((i + 1 : Nat) : Int))
            constructor
            · rintro ((h | h) | h)
              · exact .inl h
              · exact .inr (by omega)
              · exact .inr (by omega)
            · rintro (h | h)
              · exact .inl (.inl h)
              · by_cases e : n = a + (i : Int)
                · exact .inr e
                · exact .inl (.inr (by omega))
          · show (s.holes n ∧ ¬ (a ≤ n ∧ n < a + (i : Int))) ∧ n ≠ a + (i : Int) ↔ s.holes n ∧ ¬ (a ≤ n ∧ n < a + ((i + 1 : Nat) : Int))
            constructor
            · exact fun ⟨⟨h1, h2⟩, h3⟩ => ⟨h1, by omega⟩
            · exact fun ⟨h1, h2⟩ => ⟨⟨h1, by omega⟩, by omega⟩
        · have hno : ¬ (a + (i : Int)) ∈ ks := fun z => by
            have e := pk_val (a + (i : Int)) ks
            rw [hv, decide_eq_true z] at e
            cases e
          refine ⟨_, rfl, kp.trans (Kp.put (by simp)), y2.congr rfl rfl rfl rfl (fun n => ?_) (fun n => ?_) rfl rfl⟩
          · show (s.safe n ∨ (a ≤ n ∧ n < a + (i : Int))) ∨ n = a + (i : Int) ↔ s.safe n ∨ (a ≤ n ∧ n < a + ((i + 1 : Nat) : Int))
            constructor
            · rintro ((h | h) | h)
              · exact .inl h
              · exact .inr (by omega)
              · exact .inr (by omega)
            · rintro (h | h)
              · exact .inl (.inl h)
              · by_cases e : n = a + (i : Int)
                · exact .inr e
                · exact .inl (.inr (by omega))
          · show s.holes n ∧ ¬ (a ≤ n ∧ n < a + (i : Int)) ↔ s.holes n ∧ ¬ (a ≤ n ∧ n < a + ((i + 1 : Nat) : Int))
            constructor
            · refine fun ⟨h1, h2⟩ => ⟨h1, fun h3 => hno ?_⟩
              have e : n = a + (i : Int) := by omega
              rw [← e]
              exact (hm n).mpr ⟨h1, h2⟩
            · exact fun ⟨h1, h2⟩ => ⟨h1, by omega⟩
      | false =>
        refine iteF ⟨_, rfl, _, rfl, p, _, rfl, hget y.at_ hk_got, ga, _, rfl, DGet.k (k := Sum.inl (a + (i : Int))) hgs, _, rfl, ?_⟩
        rw [pk_val]
        have hmg' : ∀ n, n ∈ gs ↔ s.safe n := hmg
        by_cases c : (a + (i : Int)) ∈ gs
        · rw [decide_eq_true c]
          refine iteF ⟨_, rfl, kp, y.congr rfl rfl rfl rfl (fun n => Iff.rfl) (fun n => ?_) rfl rfl⟩
          show s.holes n ∨ ((a ≤ n ∧ n < a + (i : Int)) ∧ ¬ s.safe n) ↔ s.holes n ∨ ((a ≤ n ∧ n < a + ((i + 1 : Nat) : Int)) ∧ ¬ s.safe n)
          constructor
          · rintro (h | ⟨h, h'⟩)
            · exact .inl h
            · exact .inr ⟨by omega, h'⟩
          · rintro (h | ⟨h, h'⟩)
            · exact .inl h
            · refine .inr ⟨?_, h'⟩
              have : n ≠ a + (i : Int) := fun e => h' (by rw [e]; exact (hmg' _).mp c)
              omega
        · rw [decide_eq_false c]
          refine iteT ⟨_, rfl, p, _, rfl, hget y.at_ hk_missed, _, rfl, ma, _, rfl, DPut.k (k := Sum.inl (a + (i : Int))) hks (bnd nd hm ?_), ?_⟩
          · rintro n (h | h)
            · exact g.bdH n h
            · exact ⟨by omega, by omega⟩
          refine ⟨_, rfl, kp.trans (Kp.put (by simp)), (y.setM (ds_put nd hm (n := a + (i : Int)))).congr rfl rfl rfl rfl (fun n => Iff.rfl) (fun n => ?_) rfl rfl⟩
          show (s.holes n ∨ ((a ≤ n ∧ n < a + (i : Int)) ∧ ¬ s.safe n)) ∨ n = a + (i : Int) ↔ s.holes n ∨ ((a ≤ n ∧ n < a + ((i + 1 : Nat) : Int)) ∧ ¬ s.safe n)
          constructor
          · rintro ((h | ⟨h, h'⟩) | h)
            · exact .inl h
            · exact .inr ⟨by omega, h'⟩
            · exact .inr ⟨by omega, fun z => c (by rw [← h]; exact (hmg' _).mpr z)⟩
          · rintro (h | ⟨h, h'⟩)
            · exact .inl (.inl h)
            · by_cases e : n = a + (i : Int)
              · exact .inr e
              · exact .inl (.inr ⟨by omega, h'⟩)
    · rintro σ' H2 ⟨v5, rfl, kp, y⟩
      have ek : ((k.toNat : Nat) : Int) = k := by omega
      rw [ek] at y
      refine ⟨_, rfl, l, rfl, ?_⟩
      cases l with
      | false =>
        refine iteF ?_
        exact iteF ⟨_, rfl, false, rfl, iteF (iteF (q _ kp (by cases got <;> exact y)))⟩
      | true =>
        refine iteT ⟨_, rfl, got, rfl, ?_⟩
        cases got with
        | true =>
          refine iteT ⟨_, rfl, p, _, rfl, DPut.k (k := Sum.inr "end") y.at_ (by show 8 < sizeLine; decide), ?_⟩
          have e3 : putK (hkv (toldF s a k false true) ga ma) (Sum.inr "end") (V.str ("got" : Str)) = _ := hp_end (t := .got)
          rw [e3]
          exact q _ (kp.trans (Kp.put (by simp))) (y.setH (s' := toldF s a k true true) rfl rfl)
        | false =>
          refine iteF ⟨_, rfl, true, rfl, iteT ⟨_, rfl, p, _, rfl, hget y.at_ hk_end, rfl, _, rfl, ?_⟩⟩
          have et : (toldF s a k false false).tail = s.tail := rfl
          refine iteE (congrArg (! ·) (tl_got s.tail)) ?_
          cases ht2 : decide (s.tail = .got) with
          | true =>
            refine iteF (q _ kp ?_)
            have e : toldF s a k true false = toldF s a k false false := by
              show misF s a k true = misF s a k false
              unfold misF
              simp only [ht2, Bool.not_true, Bool.and_false, Bool.false_and]
            rw [e]
            exact y
          | false =>
            refine iteT ⟨_, rfl, p, _, rfl, DPut.k (k := Sum.inr "end") y.at_ (by show 8 < sizeLine; decide), ?_⟩
            have e3 : putK (hkv (toldF s a k false false) ga ma) (Sum.inr "end") (V.str ("missed" : Str)) = _ := hp_end (t := .mis)
            rw [e3]
            refine q _ (kp.trans (Kp.put (by simp))) ?_
            have e : toldF s a k true false = { toldF s a k false false with tail := .mis } := by
              show misF s a k true = { misF s a k false with tail := .mis }
              unfold misF
              simp only [ht2, Bool.not_false, Bool.and_true, if_true]
            rw [e]
            exact y.setH rfl rfl
end
end K41

/-! the law's own: stands, refused -/
namespace K41
open PySem PySem.Spec PyProof.Rows L2
/-! ### a method that may raise, called within a try -/
def tMethS (C : Addr) (m : Str) (sp : Sp) (E : L2.St → XK) (ta : TE) (t : TA) : TE := fun σ H Q => ta σ H fun x H1 => ∃ a dx fs, x = .ref a ∧ H1 a = some (.ins C dx fs) ∧ fs.lookup m = none ∧ t σ H1 fun vs H2 => sp (x :: vs) H2 Q (E σ)
section
variable {X : Cx} {CX : CXT} {k : Nat} {f C : Addr} {fd : FuncData} {ps : List Str} {sp : Sp} {E : L2.St → XK} {m : Str} {apos pos : Pos} {e o : Expr} {es : List Expr} {ta : TE} {t : TA}
theorem pe_methW {pl : Sem Bool} (he : PE X o ta) (c : Cls X.K C) (hm : Meth X.K C m f) (F : FnOk X.prog X.w X.K X.mg X.base CX k f fd ps sp) (hr : Room k X.A) (hb : Binds X.K fd ps []) (hx : ∀ σ, PassesAt CX X σ (E σ)) (ha : PA X (e :: es) t)
    (hst : starEach (e :: es) X.env = (false, eval e X.env) :: starEach es X.env := by rfl) (hpl : (backTo pos (starEach es X.env)).any (·.1) = false := by rfl)
    (ht : eval (.Call (.Attribute o m apos) (e :: es) [] pos) X.env = (do
      let ov ← eval o X.env
      standAt apos.atName
      let (f, first) ← holding [ov] (getMethod ov m pl)
      callWith pos f first (backTo pos (starEach (e :: es) X.env)) (backToKw pos (keywordEach [] X.env))) := by rfl) :
    PE X (.Call (.Attribute o m apos) (e :: es) [] pos) (tMethS C m sp E ta t) := by
  refine ⟨fun pins s σ H Q I h => ?_⟩
  refine PySem.W.methodCall_KW (pl := pl) (thn (he.run pins s σ H _ I h) fun u s1 ⟨x, H1, I1, rx, a, dx, fs, ex, ea, l, q⟩ => ?_) ht
  subst ex
  obtain rfl : u = Value.ref a := rx
  refine getmeth_ok I1 ea c hm l ?_
  refine PySem.W.callWith_K (first := [.ref a]) (h₀ := X.base) I.ok.mod.kin hm.kp (thn (ha.run pos pins s1 σ H1 _ I1 q) fun us s2 ⟨vs, H2, I2, r, q2⟩ => ⟨I2.kIn, ?_⟩) hst hpl
  exact run_fnS (us := .ref a :: us) (vs := .ref a :: vs) F hr hb (hx σ) I2 (.cons rfl r) q2
theorem pe_methW0 {pl : Sem Bool} (he : PE X o ta) (c : Cls X.K C) (hm : Meth X.K C m f) (F : FnOk X.prog X.w X.K X.mg X.base CX k f fd ps sp) (hr : Room k X.A) (hb : Binds X.K fd ps []) (hx : ∀ σ, PassesAt CX X σ (E σ))
    (ht : eval (.Call (.Attribute o m apos) [] [] pos) X.env = (do
      let ov ← eval o X.env
      standAt apos.atName
      let (f, first) ← holding [ov] (getMethod ov m pl)
      callWith pos f first (backTo pos (starEach [] X.env)) (backToKw pos (keywordEach [] X.env))) := by rfl) :
    PE X (.Call (.Attribute o m apos) [] [] pos) (tMethS C m sp E ta tNil) := by
  refine ⟨fun pins s σ H Q I h => ?_⟩
  refine PySem.W.methodCall_KW (pl := pl) (thn (he.run pins s σ H _ I h) fun u s1 ⟨x, H1, I1, rx, a, dx, fs, ex, ea, l, q⟩ => ?_) ht
  subst ex
  obtain rfl : u = Value.ref a := rx
  refine getmeth_ok I1 ea c hm l ?_
  exact PySem.W.callWith_K0 (first := [.ref a]) I1.kIn hm.kp (run_fnS (us := [.ref a]) (vs := [.ref a]) F hr hb (hx σ) I1 (.cons rfl .nil) q)
end
theorem tok_state (s : WS) (c : Int) : Tok (stateS s c) := by
  unfold stateS
  split
  · have h : ∀ c ∈ ("got" : Str).cps.toList, c < 1114112 := by decide +kernel
    exact h
  · exact tok_mood _
section
variable {P : Program} {w : World} {K : PySem.W.Frag} {mg : Str → Option Value} {base : Heap}
/-! ### stands -/
theorem scStands : FnScope ["_law_writer", "_law_here", "_law_told_here", "_law_due_here", "_law_rows_here"] ["_law_writer", "_law_here"] (defScope sStands) := ⟨rfl, rfl, rfl, by decide +kernel, rfl, by decide +kernel, by decide +kernel⟩
def spStands (K : PySem.W.Frag) : Sp := fun vs H Q _ => ∃ (p h g m : Addr) (s : WS), vs = [.ref p, .ref h] ∧ WAt K H p s ∧ LIn H h g m s ∧ Gd s ∧ ∀ H', Same H H' → Q (.bl true) H'
theorem do_stands (T : Tx K mg) : ∃ fd, Do P w K mg base 3 (He.ga K "_law_stands") ["_law_writer", "_law_here"] [] (spStands K) fd [] := by
  obtain ⟨fd, F⟩ := T.def_ 37
  obtain ⟨_, G1⟩ := do_wLetters (P := P) (w := w) (base := base) T
  obtain ⟨_, G2⟩ := do_wUpto (P := P) (w := w) (base := base) T
  obtain ⟨_, G3⟩ := do_wSent (P := P) (w := w) (base := base) T
  obtain ⟨_, G4⟩ := do_wState (P := P) (w := w) (base := base) T
  obtain ⟨_, G5⟩ := do_wGotP (P := P) (w := w) (base := base) T
  obtain ⟨_, G6⟩ := do_wMissedP (P := P) (w := w) (base := base) T
  obtain ⟨_, G7⟩ := do_rRows (P := P) (w := w) (base := base) T
  obtain ⟨_, G8⟩ := do_state (P := P) (w := w) (base := base) T
  obtain ⟨_, G9⟩ := do_rows (P := P) (w := w) (base := base) T
  refine ⟨fd, ok0 F scStands (fun vs H Q E h => ?_) (fun cdv A outer s0 H vs Q E hr h => ?_), F.bindsN fun _ _ _ _ _ _ us hl => match us, hl with | [_, _], _ => rfl, .nil, F.kp⟩
  · obtain ⟨p, h, g, m, s, rfl, _⟩ := h
    rfl
  · obtain ⟨p, hh, ga, ma, s, rfl, x, lx, g, q⟩ := h
    have hu := hu_of hr
    have r1 : Room 1 _ := hr.mono (by decide)
    refine ⟨_, pss_cons (ps_set (i := 2) scStands.nd rfl (.inl rfl) (pe_lst (pa_cons (pe_meth0 (pv 0) T.kW (T.mW 64) G1.ok r1 G1.b G1.v pass0) (pa_cons (pe_meth0 (pv 0) T.kW (T.mW 65) G2.ok r1 G2.b G2.v pass0) (pa_cons (pe_meth0 (pv 0) T.kW (T.mW 66) G3.ok r1 G3.b G3.v pass0)
        (pa_cons (pe_meth0 (pv 0) T.kW (T.mW 69) G4.ok hr G4.b G4.v pass0) (pa_cons (pe_fld (pv 0) rfl) pa_nil)))))))
      (pss_cons (ps_set (i := 3) scStands.nd rfl (.inl rfl) (pe_lst (pa_cons (pe_dget hu (pv 1) pe_str (fun _ _ => rfl)) (pa_cons (pe_dget hu (pv 1) pe_str (fun _ _ => rfl)) (pa_cons (pe_dget hu (pv 1) pe_str (fun _ _ => rfl))
        (pa_cons (pe_call G8.ok r1 (by rfl) T.g G8.kp G8.b G8.v pass0 (pa_cons (pv 1) pa_nil)) (pa_cons (pe_dget hu (pv 1) pe_str (fun _ _ => rfl)) pa_nil)))))))
      (pss_cons (ps_set (i := 4) scStands.nd rfl (.inl rfl) (pe_lst (pa_cons (pe_meth0 (pe_meth0 (pv 0) T.kW (T.mW 67) G5.ok r1 G5.b G5.v pass0) T.kR (T.mR 50) G7.ok.ok r1 G7.b .nil pass0)
        (pa_cons (pe_meth0 (pe_meth0 (pv 0) T.kW (T.mW 68) G6.ok r1 G6.b G6.v pass0) T.kR (T.mR 50) G7.ok.ok r1 G7.b .nil pass0) pa_nil))))
      (pss_one (ps_ret (pe_and (pe_cmpR (op_eqD hr.units) (pv 2) (pv 3) (nomark _)) (pe_one (pe_cmpR (op_eqD hr.units) (pv 4)
        (pe_lst (pa_cons (pe_call G9.ok r1 (by rfl) T.g G9.kp G9.b G9.v pass0 (pa_cons (pe_dget hu (pv 1) pe_str (fun _ _ => rfl)) pa_nil)) (pa_cons (pe_call G9.ok r1 (by rfl) T.g G9.kp G9.b G9.v pass0 (pa_cons (pe_dget hu (pv 1) pe_str (fun _ _ => rfl)) pa_nil)) pa_nil))) (nomark _)))))))), ?_⟩
    obtain ⟨dx, rs, rh, xi⟩ := x
    refine ⟨_, rfl, p, dx, _, rfl, xi.at_, wn_letters, p, dx, rs, rh, s, rfl, xi, ?_⟩
    refine ⟨_, rfl, p, dx, _, rfl, xi.at_, wn_upto, p, dx, rs, rh, s, rfl, xi, ?_⟩
    refine ⟨_, rfl, p, dx, _, rfl, xi.at_, wn_sent, p, dx, rs, rh, s, rfl, xi, ?_⟩
    refine ⟨_, rfl, p, dx, _, rfl, xi.at_, wn_state, p, s, rfl, ⟨dx, rs, rh, xi⟩, g, fun H1 rows s1 hc hm => ?_⟩
    refine ⟨_, rfl, p, cW K, dx, _, _, rfl, s1 _ _ xi.at_, T.kW, T.nLane, wf_lane, (by show 5 ≤ sizeLine; decide), fun l1 hl1 => ?_⟩
    have s2 := s1.trans (Same.new (o := HO.lst [.str s.text, .int s.limit, .int s.edge, .str (stateS s (cnt rows)), .int s.lane]) hl1)
    have lx2 := lx.same s2
    refine ⟨_, rfl, hh, _, rfl, hget lx2.at_ hk_text, _, rfl, hh, _, rfl, hget lx2.at_ hk_upto, _, rfl, hh, _, rfl, hget lx2.at_ hk_sent, _, rfl, hh, ga, ma, s, rfl, lx2, g, fun ks nd hks => ?_⟩
    have ec : cnt rows = (ks.length : Int) := cnt_eq hc nd fun n => (hks n).trans (hm n).symm
    rw [← ec]
    refine ⟨_, rfl, hh, _, rfl, hget lx2.at_ hk_lane, (by show 5 ≤ sizeLine; decide), fun l2 hl2 => ?_⟩
    have s23 := Same.new (o := HO.lst [.str s.text, .int s.limit, .int s.edge, .str (stateS s (cnt rows)), .int s.lane]) hl2
    have s3 := s2.trans s23
    have xi3 := xi.same s3
    obtain ⟨q1, hg1, c1, m1⟩ := xi3.safe
    obtain ⟨d1, e1, t1, ha1, ha2, ha3⟩ := id hg1
    refine ⟨_, rfl, p, dx, _, rfl, xi3.at_, wn_got_places, p, dx, rs, rh, s, rfl, xi3, rs, d1, _, rfl, ha1, sn_rows, rs, q1, rfl, hg1, fun H4 l4 u4 s4 _ hl4 hu4 => ?_⟩
    have s34 := s3.trans s4
    have xi4 := xi.same s34
    obtain ⟨q2, hg2, c2, m2⟩ := xi4.holes
    obtain ⟨d2, e2, t2, hb1, hb2, hb3⟩ := id hg2
    refine ⟨_, rfl, p, dx, _, rfl, xi4.at_, wn_missed_places, p, dx, rs, rh, s, rfl, xi4, rh, d2, _, rfl, hb1, sn_rows, rh, q2, rfl, hg2, fun H5 l5 u5 s5 _ hl5 hu5 => ?_⟩
    refine ⟨(by show 2 ≤ sizeLine; decide), fun l6 hl6 => ?_⟩
    have s56 := s5.trans (Same.new (o := HO.lst [.ref l4, .ref l5]) hl6)
    have sA := s34.trans s56
    -- told == due
    have h1 := (s23.trans (s4.trans s56)) _ _ upd_same
    have h2 := (s4.trans s56) _ _ (upd_same (H := _) (a := l2) (o := HO.lst [.str s.text, .int s.limit, .int s.edge, .str (stateS s (cnt rows)), .int s.lane]))
    have fA : Fine 1 (.list [.str s.text, .int s.limit, .int s.edge, .str (stateS s (cnt rows)), .int s.lane]) := .lst (n := 0) (.cons (.str g.tok) (.cons (.int _) (.cons (.int _) (.cons (.str (tok_state _ _)) (.cons (.int _) .nil)))))
    refine ⟨_, rfl, _, rfl, .list [.str s.text, .int s.limit, .int s.edge, .str (stateS s (cnt rows)), .int s.lane], .list [.str s.text, .int s.limit, .int s.edge, .str (stateS s (cnt rows)), .int s.lane],
      .lst (SqL.of h1) (.cons (.str _) (.cons (.int _) (.cons (.int _) (.cons (.str _) (.cons (.int _) .nil))))), .lst (SqL.of h2) (.cons (.str _) (.cons (.int _) (.cons (.int _) (.cons (.str _) (.cons (.int _) .nil))))), fA.shaped (by decide), fA.shaped (by decide), _, rfl, ?_⟩
    rw [fA.refl]
    -- the rows
    have lxA := lx.same sA
    refine ⟨_, rfl, _, rfl, hh, _, rfl, hget lxA.at_ hk_got, ga, s.safe, rfl, lxA.got, g.bdS, fun H7 l7 u7 r7 s7 hl7 hu7 c7 m7 => ?_⟩
    obtain rfl := can_uniq c1 c7 fun n => (m1 n).trans (m7 n).symm
    have lx7 := lxA.same s7
    refine ⟨_, rfl, hh, _, rfl, hget lx7.at_ hk_missed, ma, s.holes, rfl, lx7.mis, g.bdH, fun H8 l8 u8 r8 s8 hl8 hu8 c8 m8 => ?_⟩
    obtain rfl := can_uniq c2 c8 fun n => (m2 n).trans (m8 n).symm
    refine ⟨(by show 2 ≤ sizeLine; decide), fun l9 hl9 => ?_⟩
    have s9 := Same.new (o := HO.lst [.ref l7, .ref l8]) hl9
    have s79 := (s7.trans s8).trans s9
    have fB : Fine 3 (.list [rowsL q1, rowsL q2]) := .lst (n := 2) (.cons (fine_rowsL _) (.cons (fine_rowsL _) .nil))
    refine ⟨.list [rowsL q1, rowsL q2], .list [rowsL q1, rowsL q2], ?_, ?_, fB.shaped (by decide), fB.shaped (by decide), ?_⟩
    · refine .lst (SqL.of (s79 _ _ upd_same)) (.cons (.lst (SqL.of ((s56.trans s79) _ _ hl4)) (dp_rows (hu4.same (s56.trans s79)))) (.cons (.lst (SqL.of (((Same.new hl6).trans s79) _ _ hl5)) (dp_rows (hu5.same ((Same.new hl6).trans s79)))) .nil))
    · exact .lst (SqL.of upd_same) (.cons (.lst (SqL.of ((s8.trans s9) _ _ hl7)) (dp_rows (hu7.same (s8.trans s9)))) (.cons (.lst (SqL.of (s9 _ _ hl8)) (dp_rows (hu8.same s9))) .nil))
    · exact qb fB.refl (q _ (sA.trans s79))
/-! ### refused -/
theorem scRefused : FnScope ["_law_writer", "_law_deed", "_law_letters_here", "_law_lane", "_law_kept", "e"] ["_law_writer", "_law_deed", "_law_letters_here", "_law_lane"] (defScope sRefused) := ⟨rfl, rfl, rfl, by decide +kernel, rfl, by decide +kernel, by decide +kernel⟩
def spRefused (K : PySem.W.Frag) : Sp := fun vs H Q _ => ∃ (p : Addr) (deed z : Str) (s : WS), vs = [.ref p, .str deed, .str z, .int s.lane] ∧ WAt K H p s ∧ Gd s ∧ s.fin = true ∧ z.length ≤ 64 ∧ ∀ H', Same H H' → Q (.bl true) H'
theorem do_refused (T : Tx K mg) : ∃ fd, Do P w K mg base 4 (He.ga K "_law_refused") ["_law_writer", "_law_deed", "_law_letters_here", "_law_lane"] [] (spRefused K) fd [] := by
  obtain ⟨fd, F⟩ := T.def_ 42
  obtain ⟨_, GS⟩ := do_wStored (P := P) (w := w) (base := base) T
  obtain ⟨_, GW⟩ := do_wWrite (P := P) (w := w) (base := base) T
  obtain ⟨_, GF⟩ := do_wFinish (P := P) (w := w) (base := base) T
  refine ⟨fd, ok0 F scRefused (fun vs H Q E h => ?_) (fun cdv A outer s0 H vs Q E hr h => ?_), F.bindsN fun _ _ _ _ _ _ us hl => match us, hl with | [_, _, _, _], _ => rfl, .nil, F.kp⟩
  · obtain ⟨p, deed, z, s, rfl, _⟩ := h
    rfl
  · obtain ⟨p, deed, z, s, rfl, x, g, hf, hz, q⟩ := h
    refine ⟨_, pss_cons (ps_set (i := 4) scRefused.nd rfl (.inl rfl) (pe_meth0 (pv 0) T.kW (T.mW 70) GS.ok.ok (hr.mono (by decide)) GS.b .nil pass0))
      (pss_cons (ps_try_as (i := 5) (tb := fun W => tIfS (tTest (tOp rEq (tVar 1) (tC (.str ("write" : Str))))) (tDrop (tMethS (cW K) "write" (spWWrite K) (WE W) (tVar 0) (tCons (tVar 2) tNil))) (tDrop (tMethS (cW K) "finish" (spWFinish K) (WE W) (tVar 0) tNil)))
          (ts := fun a cls d => tRet (tAndV (tOp rEq (tXf a cls d (cE K) "lane" (tVar 5)) (tVar 3)) (tOp (rEqD K) (tMeth (cW K) "stored" (spWStored K) [] E0 (tVar 0) tNil) (tVar 4)))) (Wout := fun _ _ _ _ => False)
          rfl rfl scRefused.nd rfl rfl ⟨rfl, by decide, .inl T.g⟩ takes0
          (fun W pn xe tk _ => pss_one (ps_if (pt_cmpR op_eq (pv 1) pe_str (nomark _)) (pss_one (ps_expr (by exact (pe_methW (pv 0) T.kW (T.mW 55) GW.ok hr GW.b (fun σ => passAt tk σ) (pa_cons (pv 2) pa_nil)))))
            (pss_one (ps_expr (by exact (pe_methW0 (pv 0) T.kW (T.mW 56) GF.ok hr GF.b (fun σ => passAt tk σ)))))))
          (fun a oe cls d pn hz hf => pss_one (ps_ret (pe_and (pe_cmpR op_eq (by exact (pe_xf T.xf T.noE hz hf (pv 5))) (pv 3) (nomark _))
            (pe_one (pe_cmpR (by exact (op_eqD ((roomA_of hr).mark _).units)) (by exact (pe_methA0 (pv 0) T.kW (T.mW 70) GS.a (((roomA_of hr).mark _).mono (by decide)) GS.b)) (pv 4) (nomark _)))))))
      (pss_one (ps_ret pe_bl))), ?_⟩
    obtain ⟨dx, rs, rh, xi⟩ := id x
    refine ⟨_, rfl, p, dx, _, rfl, xi.at_, wn_stored, p, s, rfl, x, fun H1 k1 s1 st1 => ?_⟩
    have x1 := x.same s1
    have hl := g.len
    have suite : ∀ σ5 : Option V, Ref K H1 s.lane (fun cls d H2 => ∃ b, PySem.W.exmOne K cls (.ref (cE K)) = some b ∧ (b = true → ∀ a, H2 a = none → tRet (tAndV (tOp rEq (tXf a cls d (cE K) "lane" (tVar 5)) (tVar 3)) (tOp (rEqD K) (tMeth (cW K) "stored" (spWStored K) [] E0 (tVar 0) tNil) (tVar 4)))
        { nx := fun _ _ => False, rt := Q } [some (.ref p), some (.str deed), some (.str z), some (.int s.lane), some (.ref k1), some (.ref a)] H2) ∧ (b = false → False)) := fun _ H2 d s2 _ hd => by
      refine ⟨true, T.exm, fun _ a ha => ?_, fun z => by cases z⟩
      have x2 := x1.same s2
      obtain ⟨dx2, rs2, rh2, xi2⟩ := id x2
      refine ⟨_, rfl, rfl, rfl, d, [(("lane" : Str), .int s.lane)], .int s.lane, rfl, hd, by kernel_rfl, _, rfl, rfl, _, rfl, ?_⟩
      rw [decide_eq_true rfl]
      refine ⟨_, rfl, p, dx2, _, rfl, xi2.at_, wn_stored, p, s, rfl, x2, fun H3 k3 s3 st3 => ?_⟩
      obtain ⟨d, hd1, hd2, hd3, hd4⟩ := st_eq (K := K) g.tok st3 ((st1.same s2).same s3)
      exact ⟨_, rfl, d, d, hd1, hd2, hd3, hd3, qb hd4 (q _ ((s1.trans s2).trans s3))⟩
    obtain ⟨dx1, rs1, rh1, xi1⟩ := id x1
    refine ⟨_, rfl, rfl, _, rfl, ?_⟩
    refine ite2 (fun _ => ?_) (fun _ => ?_)
    · refine ⟨_, rfl, p, dx1, _, rfl, xi1.at_, wn_write, _, rfl, p, z, s, rfl, x1, by omega, (fun h => by rw [hf] at h; cases h), fun _ => ?_⟩
      exact suite none
    · refine ⟨_, rfl, p, dx1, _, rfl, xi1.at_, wn_finish, p, s, rfl, x1, (fun h => by rw [hf] at h; cases h), fun _ => ?_⟩
      exact suite none
end
end K41

/-! the law's own: plain -/
namespace K41
open PySem PySem.Spec PyProof.Rows L2
/-! ### plain things: numbers, texts, tuples of such; their size -/
mutual
inductive Pn (H : Hp) : Nat → V → PyData → Nat → Prop
  | int {k : Nat} (i : Int) : Pn H k (.int i) (.int i) 1
  | str {k : Nat} (z : Str) (h : Tok z) : Pn H k (.str z) (.str z) 1
  | tup {k : Nat} {t : Addr} {vs : List V} {ds : List PyData} {n : Nat} (h : H t = some (.tup vs)) (a : Pns H k vs ds n) : Pn H (k + 1) (.ref t) (.tuple ds) (n + 1)
inductive Pns (H : Hp) : Nat → List V → List PyData → Nat → Prop
  | nil {k : Nat} : Pns H k [] [] 0
  | cons {k : Nat} {v : V} {vs : List V} {d : PyData} {ds : List PyData} {m n : Nat} (h : Pn H k v d m) (t : Pns H k vs ds n) : Pns H k (v :: vs) (d :: ds) (m + n)
end
mutual
theorem Pn.dp {K : PySem.W.Frag} {H : Hp} : ∀ {k : Nat} {v : V} {d : PyData} {n : Nat}, Pn H k v d n → Dp K H v d ∧ Fine k d
  | _, _, _, _, .int i => ⟨.int i, .int i⟩
  | _, _, _, _, .str z h => ⟨.str z, .str h⟩
  | _, _, _, _, .tup h a => ⟨.tup (SqT.of h) (a.dp (K := K)).1, .tup (a.dp (K := K)).2⟩
theorem Pns.dp {K : PySem.W.Frag} {H : Hp} : ∀ {k : Nat} {vs : List V} {ds : List PyData} {n : Nat}, Pns H k vs ds n → DpAll K H vs ds ∧ FineAll k ds
  | _, _, _, _, .nil => ⟨.nil, .nil⟩
  | _, _, _, _, .cons h t => ⟨.cons (h.dp (K := K)).1 (t.dp (K := K)).1, .cons (h.dp (K := K)).2 (t.dp (K := K)).2⟩
end
mutual
theorem Pn.keep {H H' : Hp} (kk : ∀ t xs, H t = some (.tup xs) → H' t = some (.tup xs)) : ∀ {k : Nat} {v : V} {d : PyData} {n : Nat}, Pn H k v d n → Pn H' k v d n
  | _, _, _, _, .int i => .int i
  | _, _, _, _, .str z h => .str z h
  | _, _, _, _, .tup h a => .tup (kk _ _ h) (a.keep kk)
theorem Pns.keep {H H' : Hp} (kk : ∀ t xs, H t = some (.tup xs) → H' t = some (.tup xs)) : ∀ {k : Nat} {vs : List V} {ds : List PyData} {n : Nat}, Pns H k vs ds n → Pns H' k vs ds n
  | _, _, _, _, .nil => .nil
  | _, _, _, _, .cons h t => .cons (h.keep kk) (t.keep kk)
end
mutual
theorem Pn.mono {H : Hp} : ∀ {k j : Nat} {v : V} {d : PyData} {n : Nat}, Pn H k v d n → k ≤ j → Pn H j v d n
  | _, _, _, _, _, .int i, _ => .int i
  | _, _, _, _, _, .str z h, _ => .str z h
  | k + 1, 0, _, _, _, .tup h a, e => absurd e (by omega)
  | k + 1, j + 1, _, _, _, .tup h a, e => .tup h (a.mono (Nat.le_of_succ_le_succ e))
theorem Pns.mono {H : Hp} : ∀ {k j : Nat} {vs : List V} {ds : List PyData} {n : Nat}, Pns H k vs ds n → k ≤ j → Pns H j vs ds n
  | _, _, _, _, _, .nil, _ => .nil
  | _, _, _, _, _, .cons h t, e => .cons (h.mono e) (t.mono e)
end
theorem Pns.len {H : Hp} : ∀ {k : Nat} {vs : List V} {ds : List PyData} {n : Nat}, Pns H k vs ds n → vs.length ≤ n ∧ vs.length = ds.length
  | _, _, _, _, .nil => ⟨Nat.le_refl _, rfl⟩
  | _, _, _, _, .cons (m := m) (n := n) h t => by
    have h1 := t.len
    have h2 : 1 ≤ m := by cases h <;> omega
    rw [List.length_cons, List.length_cons]
    omega
theorem Pns.app {H : Hp} : ∀ {k : Nat} {vs us : List V} {ds es : List PyData} {n m : Nat}, Pns H k vs ds n → Pns H k us es m → Pns H k (vs ++ us) (ds ++ es) (n + m)
  | _, _, _, _, _, _, _, .nil, x => by
    rw [Nat.zero_add]
    exact x
  | _, _, _, _, _, _, _, .cons h t, x => by
    rw [Nat.add_assoc]
    exact .cons h (t.app x)
theorem Pns.snoc {H : Hp} {k : Nat} {v : V} : ∀ {vs : List V} {ds : List PyData} {n : Nat}, Pns H k (vs ++ [v]) ds n → ∃ es d m j, Pns H k vs es m ∧ Pn H k v d j ∧ n = m + j
  | [], _, _, .cons h .nil => ⟨[], _, 0, _, .nil, h, by omega⟩
  | _ :: vs, _, _, .cons h t => by
    obtain ⟨es, d, m, j, h1, h2, h3⟩ := Pns.snoc (vs := vs) t
    exact ⟨_, d, _, j, .cons h h1, h2, by omega⟩
theorem pn_row {H : Hp} {v : V} {p : Int × Int} (h : RowAt H v p) : Pn H 1 v (rowD p) 3 := by
  obtain ⟨t, rfl, e⟩ := h
  exact .tup (k := 0) (n := 2) e (.cons (.int _) (.cons (n := 0) (.int _) .nil))
theorem pns_rows {H : Hp} : ∀ {ts : List V} {rs : Rows}, RowsAt H ts rs → Pns H 1 ts (rs.map rowD) (3 * ts.length)
  | _, _, .nil => .nil
  | _, _, .cons (l₁ := l1) h r => by
    rw [show 3 * (_ :: l1).length = 3 + 3 * l1.length from by rw [List.length_cons]; omega]
    exact .cons (pn_row h) (pns_rows r)
theorem pn_st {H : Hp} {p : Addr} {s : WS} {r1 r2 : Rows} (g : Gd s) (x : StIn H p s r1 r2) : ∃ n, Pn H 4 (.ref p) (stD s r1 r2) n ∧ n ≤ 900000 := by
  obtain ⟨t, t1, t2, us1, us2, h, h1, h2, h3, h4, h5⟩ := x.at_
  have l1 := h4.len
  have l2 := h5.len
  have l3 := rows_len x.c1 x.m1 g.bdS
  have l4 := rows_len x.c2 x.m2 g.bdH
  exact ⟨_, .tup (k := 3) h (.cons (.int _) (.cons (.str _ g.tok) (.cons (.int _) (.cons (.int _) (.cons (.tup (k := 2) h1 (.cons (.tup (k := 1) h2 (pns_rows h4)) (.cons (n := 0) (.tup (k := 1) h3 (pns_rows h5)) .nil))) (.cons (.str _ (tok_mood _)) (.cons (n := 0) (.str _ (tok_tail _)) .nil))))))), by omega⟩
section
variable {P : Program} {w : World} {K : PySem.W.Frag} {mg : Str → Option Value} {base : Heap}
theorem scPlain : FnScope ["_law_thing", "_law_pile", "_law_one_here"] ["_law_thing"] (defScope sPlain) := ⟨rfl, rfl, rfl, by decide +kernel, rfl, by decide +kernel, by decide +kernel⟩
def spPlain : Sp := fun vs H Q _ => ∃ (p : Addr) (s : WS), vs = [.ref p] ∧ StAt H p s ∧ Gd s ∧ ∀ H', Same H H' → Q (.bl true) H'
theorem do_plain (T : Tx K mg) : ∃ fd, Do P w K mg base 1 (He.ga K "_law_plain") ["_law_thing"] [] spPlain fd [] := by
  obtain ⟨fd, F⟩ := T.def_ 45
  refine ⟨fd, ok0 F scPlain (fun vs H Q E h => ?_) (fun cdv A outer s0 H vs Q E hr h => ?_), F.bindsN fun _ _ _ _ _ _ us hl => match us, hl with | [_], _ => rfl, .nil, F.kp⟩
  · obtain ⟨p, s, rfl, _⟩ := h
    rfl
  · obtain ⟨p, s, rfl, ⟨r1, r2, x⟩, g, q⟩ := h
    refine ⟨_, pss_cons (ps_set (i := 1) scPlain.nd rfl (.inl rfl) (pe_lst (pa_cons (pv 0) pa_nil)))
      (pss_cons (ps_while PassesOwn.never (pt_cmpR (op_neD hr.units) (pv 1) (pe_lst pa_nil) (nomark _))
        (pss_cons (ps_set (i := 2) scPlain.nd rfl (.inl rfl) (pe_bm0 PySem.F.plainAttrs_list PySem.F.slot_list_pop PySem.F.type_list_pop mt_pop (pv 1)))
        (pss_one (ps_if (pt_val (pe_callB call_isi (by rfl) T.f (by decide +kernel) (pa_cons (pv 2) (pa_cons (pe_bltn (v := .ty "tuple") (by rfl) T.f (by decide +kernel) rfl) pa_nil))))
          (pss_one (ps_expr (pe_bm PySem.F.plainAttrs_list PySem.F.slot_list_extend PySem.F.type_list_extend mt_extendT (pv 1) (pa_cons (pv 2) pa_nil))))
          (pss_one (ps_if (PW.pt (pw_and (pt_cmpR op_notN (pv 2) pe_non (nomark _)) (pw_and1 (pt_not (pt_val (pe_callB call_isiT (by rfl) T.f (by decide +kernel) (pa_cons (pv 2)
              (pa_cons (pe_tup (pa_cons (pe_bltn (v := .ty "int") (by rfl) T.f (by decide +kernel) rfl) (pa_cons (pe_bltn (v := .ty "str") (by rfl) T.f (by decide +kernel) rfl) pa_nil))) pa_nil))))))))
            (pss_one (ps_ret pe_bl)) pss_nil))))))
      (pss_one (ps_ret pe_bl))), ?_⟩
    obtain ⟨n0, hp0, hn0⟩ := pn_st g x
    refine ⟨_, rfl, (by show 1 ≤ sizeLine; decide), fun l hl => ?_⟩
    have s1 : Same H (upd H l (.lst [.ref p])) := Same.new hl
    refine ⟨fun m σ H' => ∃ v2 vs ds, σ = [some (.ref p), some (.ref l), v2] ∧ Kp [l] (upd H l (.lst [.ref p])) H' ∧ H' l = some (.lst vs) ∧ Pns H' 4 vs ds m ∧ m ≤ 900000, ⟨n0, none, [.ref p], _, rfl, Kp.refl, upd_same, .cons (n := 0) (hp0.keep fun t xs h => s1 _ _ h) .nil, hn0⟩, ?_⟩
    rintro m σ H' ⟨v2, vs, ds, rfl, kp, hv, hpn, hm⟩
    refine ⟨_, rfl, Nat.zero_le _, fun e he => ?_⟩
    have se : Same H' (upd H' e (.lst [])) := Same.new he
    have hv2 := se _ _ hv
    have hpn2 := hpn.keep fun t xs h => se _ _ h
    refine ⟨_, _, .lst (SqL.of hv2) (hpn2.dp (K := K)).1, .lst (SqL.of upd_same) .nil, (Fine.lst (hpn2.dp (K := K)).2).shaped (by decide), (Fine.lst (n := 0) .nil).shaped (by decide), _, rfl, ?_⟩
    rw [eqv_nil]
    have kpe := kp.trans (Kp.of se)
    have keepT : ∀ {Ha : Hp} {o : HO} {ys : List V}, Ha l = some (.lst ys) → ∀ t xs, Ha t = some (.tup xs) → upd Ha l o t = some (.tup xs) := fun hl t xs h => by
      rw [upd_ne (ne_of h hl (by intro z; cases z))]
      exact h
    rcases List.eq_nil_or_concat vs with e0 | ⟨vs', v, e0⟩
    · subst e0
      cases hpn
      refine iteF ?_
      exact q _ fun c o hc => kpe _ _ (by simpa using ne_of_none hc hl) (s1 _ _ hc)
    · rw [List.concat_eq_append] at e0
      subst e0
      obtain ⟨es, d, m1, j, hA, hB, rfl⟩ := hpn2.snoc
      have hne : ds.isEmpty = false := by
        have := hpn2.len.2
        rw [List.length_append] at this
        cases ds with
        | nil => simp at this
        | cons _ _ => rfl
      rw [hne]
      refine iteT ?_
      have hlast : (vs' ++ [v])[(vs' ++ [v]).length - 1]? = some v := by
        rw [List.length_append, List.length_singleton, Nat.add_sub_cancel, List.getElem?_append_right (Nat.le_refl _), Nat.sub_self]
        rfl
      have hdrop : (vs' ++ [v]).dropLast = vs' := by simp
      have hA2 := hA.keep (keepT (o := .lst vs') hv2)
      have hB2 := hB.keep (keepT (o := .lst vs') hv2)
      have k2 := kpe.trans (Kp.put (m := [l]) (p := l) (o := .lst vs') (by simp))
      refine ⟨fun σ' H3 => ∃ m', m' < m1 + j ∧ ∃ v2 vs ds, σ' = [some (.ref p), some (.ref l), v2] ∧ Kp [l] (upd H l (.lst [.ref p])) H3 ∧ H3 l = some (.lst vs) ∧ Pns H3 4 vs ds m' ∧ m' ≤ 900000, fun σ' H3 h => h, ?_⟩
      refine ⟨_, rfl, .inl ⟨rfl, _, SqL.of hv2⟩, l, _, v, rfl, rfl, hv2, hlast, ?_⟩
      rw [hdrop]
      cases hB2 with
      | int i =>
        refine ⟨_, rfl, _, _, _, _, _, rfl, .ty "tuple", .base (.int i), kit_ty (r := false) (by decide +kernel), _, rfl, iteF ?_⟩
        refine ⟨_, rfl, rfl, _, rfl, iteT ?_⟩
        refine ⟨_, rfl, (by show 2 ≤ sizeLine; decide), fun t ht => ?_⟩
        have s3 := Same.new (o := HO.tup [.ty "int", .ty "str"]) ht
        refine ⟨_, t, _, _, _, true, rfl, upd_same, .cons (.ty "int") (.cons (.ty "str") .nil), .base (.int i), kitAny_cons (kit_ty (r := true) (by decide +kernel)) (fun z => by cases z) (fun _ => rfl), _, rfl, iteF ?_⟩
        exact ⟨m1, by omega, _, vs', _, rfl, k2.trans (Kp.of s3), s3 _ _ upd_same, hA2.keep fun t xs h => s3 _ _ h, by omega⟩
      | str z hz =>
        refine ⟨_, rfl, _, _, _, _, _, rfl, .ty "tuple", .base (.str z), kit_ty (r := false) (by decide +kernel), _, rfl, iteF ?_⟩
        refine ⟨_, rfl, rfl, _, rfl, iteT ?_⟩
        refine ⟨_, rfl, (by show 2 ≤ sizeLine; decide), fun t ht => ?_⟩
        have s3 := Same.new (o := HO.tup [.ty "int", .ty "str"]) ht
        refine ⟨_, t, _, _, _, true, rfl, upd_same, .cons (.ty "int") (.cons (.ty "str") .nil), .base (.str z), kitAny_cons (kit_ty (r := false) (by decide +kernel)) (fun _ => kitAny_cons (kit_ty (r := true) (by decide +kernel)) (fun z => by cases z) (fun _ => rfl)) (fun z => by cases z), _, rfl, iteF ?_⟩
        exact ⟨m1, by omega, _, vs', _, rfl, k2.trans (Kp.of s3), s3 _ _ upd_same, hA2.keep fun t xs h => s3 _ _ h, by omega⟩
      | @tup k t ws fs n' ht ha =>
        refine ⟨_, rfl, _, _, _, _, _, rfl, .ty "tuple", .base (.tup ht), kit_ty (r := true) (by decide +kernel), _, rfl, iteT ?_⟩
        have lw := ha.len
        have lv := hA2.len
        refine ⟨_, rfl, .inl ⟨rfl, _, SqL.of upd_same⟩, _, rfl, l, t, vs', ws, rfl, rfl, upd_same, SqT.of ht, line_big (by omega), ?_⟩
        have kT := keepT (Ha := upd (upd H' e (.lst [])) l (.lst vs')) (o := .lst (vs' ++ ws)) upd_same
        exact ⟨m1 + n', by omega, _, vs' ++ ws, _, rfl, k2.trans (Kp.put (by simp)), upd_same, (hA2.keep kT).app ((ha.keep kT).mono (by decide)), by omega⟩
end
end K41

/-! the law's own: one deed -/
namespace K41
open PySem PySem.Spec PyProof.Rows L2
def tCutT (t : TT) : TT := fun σ H Q => ∃ C : Bool → Hp → Prop, (∀ b H', C b H' → Q b H') ∧ t σ H C
theorem pt_cut {X : Cx} {e : Expr} {t : TT} (h : PT X e t) : PT X e (tCutT t) :=
  ⟨fun pins s σ H Q I ⟨C, h1, h2⟩ => wpAny_mono (h.run pins s σ H C I h2) (fun u s' ⟨H', J, q⟩ => ⟨H', J, h1 _ _ q⟩) fun _ _ e => e⟩
def dS : Bool → Str
  | true => "finish"
  | false => "write"
theorem dS_w (f : Bool) : decide (V.str (dS f) = V.str ("write" : Str)) = !f := by cases f <;> decide +kernel
theorem dS_f (f : Bool) : decide (V.str (dS f) = V.str ("finish" : Str)) = f := by cases f <;> decide +kernel
theorem app_empty (z : Str) : z ++ Str.empty = z := by
  obtain ⟨c⟩ := z
  show (⟨c ++ #[]⟩ : Str) = ⟨c⟩
  rw [Array.append_empty]
theorem tk_empty : Tok Str.empty := fun c hc => by
  have hc : c ∈ ([] : List Nat) := hc
  simp at hc
/-! ### a pair of Writers, served one by one -/
section
variable {K : PySem.W.Frag} {mg : Str → Option Value} {H H' : Hp} {w0 w1 h g m p : Addr} {s s' : WS}
/-- i of the two have been served -/
def Pw (K : PySem.W.Frag) (H : Hp) (w0 w1 : Addr) (s s' : WS) (i : Nat) : Prop := WAt K H w0 (if 0 < i then s' else s) ∧ WAt K H w1 (if 1 < i then s' else s)
theorem Pw.start (x : WAt K H w0 s) (y : WAt K H w1 s) : Pw K H w0 w1 s s' 0 := ⟨x, y⟩
theorem Pw.step (T : Tx K mg) (ne : w0 ≠ w1) {i : Nat} {x : V} (hx : [V.ref w0, V.ref w1][i]? = some x) (q : Pw K H w0 w1 s s' i) :
    ∃ p, x = .ref p ∧ (p = w0 ∨ p = w1) ∧ WAt K H p s ∧ ∀ H', Kp [p] H H' → WAt K H' p s' → Pw K H' w0 w1 s s' (i + 1) := by
  match i, hx, q with
  | 0, hx, q =>
    obtain rfl : V.ref w0 = x := Option.some.inj hx
    exact ⟨w0, rfl, .inl rfl, q.1, fun H' kp y => ⟨y, q.2.keep T kp q.1.hot (by simpa using ne.symm)⟩⟩
  | 1, hx, q =>
    obtain rfl : V.ref w1 = x := Option.some.inj hx
    exact ⟨w1, rfl, .inr rfl, q.2, fun H' kp y => ⟨q.1.keep T kp q.2.hot (by simpa using ne), y⟩⟩
  | i + 2, hx, _ => simp at hx
theorem wl_ne (x : LIn H h g m s) (y : WAt K H p s') : h ≠ p ∧ g ≠ p ∧ m ≠ p := by
  obtain ⟨dx, rs, rh, z⟩ := y
  obtain ⟨k1, e1, _⟩ := x.got
  obtain ⟨k2, e2, _⟩ := x.mis
  exact ⟨ne_of x.at_ z.at_ (by intro q; cases q), ne_of e1 z.at_ (by intro q; cases q), ne_of e2 z.at_ (by intro q; cases q)⟩
theorem LIn.wkeep (x : LIn H h g m s) (y : WAt K H p s') (k : Kp [p] H H') : LIn H' h g m s := by
  obtain ⟨a, b, c⟩ := wl_ne x y
  exact x.keep k (by simpa using a) (by simpa using b) (by simpa using c)
theorem WAt.lkeep (T : Tx K mg) (y : WAt K H p s') (x : LIn H h g m s) (k : Kp [h, g, m] H H') : WAt K H' p s' := by
  obtain ⟨a, b, c⟩ := wl_ne x y
  exact y.keep T k x.hot (by simp [a.symm, b.symm, c.symm])
end
/-! ### the same beside a list D that grows -/
section
variable {K : PySem.W.Frag} {mg : Str → Option Value} {H H' : Hp} {w0 w1 h g m p q D r dx rs rh rh' : Addr} {s s' : WS} {S : Int → Prop} {xs ys : List V}
def Nl (K : PySem.W.Frag) (H : Hp) (r D : Addr) : Prop := ∀ dx l, H r = some (.ins (cR K) dx [(("spans" : Str), .ref l)]) → l ≠ D
theorem Nl.upd (x : Nl K H r D) : Nl K (upd H D (.lst ys)) r D := fun dx l e => by
  by_cases c : r = D
  · rw [c, upd_same] at e
    cases e
  · rw [upd_ne c] at e
    exact x dx l e
theorem rg_one (x : RgS K H r S) : ∃ dx l ts, H r = some (.ins (cR K) dx [(("spans" : Str), .ref l)]) ∧ H l = some (.lst ts) := by
  obtain ⟨_, ⟨dx, l, ts, h1, h2, _⟩, _⟩ := x
  exact ⟨dx, l, ts, h1, h2⟩
theorem ins_eq {C dx dx' l l' : Addr} (e : some (HO.ins C dx [(("spans" : Str), V.ref l)]) = some (HO.ins C dx' [(("spans" : Str), V.ref l')])) : l = l' := by
  injection e with e
  injection e with _ _ e
  injection e with e _
  injection e with _ e
  injection e with e
theorem Nl.keep (T : Tx K mg) (x : Nl K H r D) (y : RgS K H r S) (k : Kp [p] H H') (hp : Hot K H [p]) : Nl K H' r D := fun dx l e => by
  obtain ⟨dx0, l0, ts, h1, h2⟩ := rg_one y
  have hn : r ≠ p := by
    rcases hp p (by simp) with ⟨_, _, z⟩ | ⟨_, z⟩
    · exact ne_of h1 z (by
        intro q
        injection q with q1 _ _
        exact T.ne q1)
    · exact ne_of h1 z (by intro q; cases q)
  have h3 := k _ _ (by simpa using hn) h1
  rw [h3] at e
  exact x dx0 l (by rw [h1, ins_eq e])
theorem Nl.new (y : RgS K H r S) (hD : H D = none) : Nl K H r D := fun dx l e => by
  obtain ⟨dx0, l0, ts, h1, h2⟩ := rg_one y
  rw [h1] at e
  rw [← ins_eq e]
  exact ne_of_none h2 hD
theorem RgS.updL (x : RgS K H r S) (n : Nl K H r D) (hd : H D = some (.lst xs)) : RgS K (upd H D (.lst ys)) r S := by
  obtain ⟨q, ⟨dx, l, ts, h1, h2, h3⟩, hc, hm⟩ := x
  refine ⟨q, ⟨dx, l, ts, by rw [upd_ne (ne_of h1 hd (by intro z; cases z))]; exact h1, by rw [upd_ne (n dx l h1)]; exact h2, h3.keep fun t zs e => ?_⟩, hc, hm⟩
  rw [upd_ne (ne_of e hd (by intro z; cases z))]
  exact e
def WAtD (K : PySem.W.Frag) (H : Hp) (D w : Addr) (s : WS) : Prop := ∃ dx rs rh, WIn K H w dx rs rh s ∧ Nl K H rs D ∧ Nl K H rh D
theorem WAtD.at_ (x : WAtD K H D p s) : WAt K H p s := by
  obtain ⟨dx, rs, rh, y, _⟩ := x
  exact ⟨dx, rs, rh, y⟩
theorem WAtD.start (x : WAt K H p s) (hD : H D = none) : WAtD K (upd H D (.lst [])) D p s := by
  obtain ⟨dx, rs, rh, y⟩ := x
  exact ⟨dx, rs, rh, y.same (Same.new hD), (Nl.new y.safe hD).upd, (Nl.new y.holes hD).upd⟩
theorem WAtD.upd (x : WAtD K H D p s) (hd : H D = some (.lst xs)) : WAtD K (upd H D (.lst ys)) D p s := by
  obtain ⟨dx, rs, rh, y, n1, n2⟩ := x
  refine ⟨dx, rs, rh, ⟨?_, y.safe.updL n1 hd, y.holes.updL n2 hd⟩, n1.upd, n2.upd⟩
  rw [upd_ne (ne_of y.at_ hd (by intro z; cases z))]
  exact y.at_
theorem WAtD.keep (T : Tx K mg) (x : WAtD K H D q s) (k : Kp [p] H H') (hp : Hot K H [p]) (ne : q ≠ p) : WAtD K H' D q s := by
  obtain ⟨dx, rs, rh, y, n1, n2⟩ := x
  exact ⟨dx, rs, rh, y.keep T k hp (by simpa using ne), n1.keep T y.safe k hp, n2.keep T y.holes k hp⟩
theorem WAtD.cut (T : Tx K mg) (y : WIn K H p dx rs rh s) (n1 : Nl K H rs D) (n2 : Nl K H rh D) (hd : H D = some (.lst xs)) (k : Kp [p] H H') (z : WIn K H' p dx rs rh' s') (f : rh' = rh ∨ Fr K H H' rh') : WAtD K H' D p s' := by
  refine ⟨dx, rs, rh', z, n1.keep T y.safe k y.hot, ?_⟩
  rcases f with e | f
  · rw [e]
    exact n2.keep T y.holes k y.hot
  · exact fun dx' l e => (ne_of_none hd (f dx' l e)).symm
def PwD (K : PySem.W.Frag) (H : Hp) (D w0 w1 : Addr) (s s' : WS) (i : Nat) : Prop := WAtD K H D w0 (if 0 < i then s' else s) ∧ WAtD K H D w1 (if 1 < i then s' else s)
theorem PwD.step (T : Tx K mg) (ne : w0 ≠ w1) {i : Nat} {x : V} (hx : [V.ref w0, V.ref w1][i]? = some x) (q : PwD K H D w0 w1 s s' i) (hd : H D = some (.lst xs)) :
    ∃ p dx rs rh, x = .ref p ∧ (p = w0 ∨ p = w1) ∧ WIn K H p dx rs rh s ∧ ∀ H' rh', Kp [p] H H' → WIn K H' p dx rs rh' s' → (rh' = rh ∨ Fr K H H' rh') → ∀ ys, PwD K (upd H' D (.lst ys)) D w0 w1 s s' (i + 1) := by
  match i, hx, q with
  | 0, hx, q =>
    obtain rfl : V.ref w0 = x := Option.some.inj hx
    obtain ⟨dx, rs, rh, y, n1, n2⟩ := q.1
    have y : WIn K H w0 dx rs rh s := y
    refine ⟨w0, dx, rs, rh, rfl, .inl rfl, y, fun H' rh' kp z f ys => ⟨(WAtD.cut T y n1 n2 hd kp z f).upd (kp.lst y.hot hd), ?_⟩⟩
    have q2 : WAtD K H D w1 s := q.2
    exact (q2.keep T kp y.hot ne.symm).upd (kp.lst y.hot hd)
  | 1, hx, q =>
    obtain rfl : V.ref w1 = x := Option.some.inj hx
    obtain ⟨dx, rs, rh, y, n1, n2⟩ := q.2
    have y : WIn K H w1 dx rs rh s := y
    refine ⟨w1, dx, rs, rh, rfl, .inr rfl, y, fun H' rh' kp z f ys => ⟨?_, (WAtD.cut T y n1 n2 hd kp z f).upd (kp.lst y.hot hd)⟩⟩
    have q2 : WAtD K H D w0 s' := q.1
    exact (q2.keep T kp y.hot ne).upd (kp.lst y.hot hd)
  | i + 2, hx, _ => simp at hx
theorem LIn.updL (x : LIn H h g m s) (hd : H D = some (.lst xs)) : LIn (upd H D (.lst ys)) h g m s := by
  obtain ⟨k1, e1, _⟩ := x.got
  obtain ⟨k2, e2, _⟩ := x.mis
  have n1 := ne_of x.at_ hd (by intro q; cases q)
  have n2 := ne_of e1 hd (by intro q; cases q)
  have n3 := ne_of e2 hd (by intro q; cases q)
  exact x.keep (ms := [D]) (Kp.put (by simp)) (by simpa using n1) (by simpa using n2) (by simpa using n3)
end
theorem cut_text (s : WS) (d : Option (Int × Str × Bool)) : (cutF s d).text = s.text := by
  cases d with
  | none => rfl
  | some q => rfl
/-- what stands behind a deed -/
structure OneOk (K : PySem.W.Frag) (H : Hp) (w0 w1 h g m : Addr) (s' : WS) : Prop where
  a : WAt K H w0 s'
  b : WAt K H w1 s'
  l : LIn H h g m s'
  g : Gd s'
section
variable {P : Program} {w : World} {K : PySem.W.Frag} {mg : Str → Option Value} {base : Heap}
def nOne : List Str := ["_law_pair", "_law_here", "_law_cell_here", "_law_kind", "_law_one_here", "_law_two", "_law_deed", "_law_letters_here", "_law_writer", "_law_told_here", "_law_most", "_law_bound", "_law_at", "_law_many", "_law_last", "_law_upto"]
theorem scOne : FnScope nOne ["_law_pair", "_law_here", "_law_cell_here"] (defScope sOne) := ⟨rfl, rfl, rfl, by decide +kernel, rfl, by decide +kernel, by decide +kernel⟩
def spOne (K : PySem.W.Frag) : Sp := fun vs H Q _ => ∃ (pr w0 w1 h g m : Addr) (c : Int) (s : WS), vs = [.ref pr, .ref h, .int c] ∧ H pr = some (.lst [.ref w0, .ref w1]) ∧ w0 ≠ w1 ∧ OneOk K H w0 w1 h g m s ∧ s.text.length + 64 ≤ 100000 ∧
  ∀ H' s', Kp [w0, w1, h, g, m] H H' → OneOk K H' w0 w1 h g m s' → s'.text.length ≤ s.text.length + 64 → Q (.bl true) H'
theorem do_one (T : Tx K mg) : ∃ fd, Do P w K mg base 9 (He.ga K "_law_one") ["_law_pair", "_law_here", "_law_cell_here"] [] (spOne K) fd [] := by
  obtain ⟨fd, F⟩ := T.def_ 44
  obtain ⟨_, GM⟩ := do_mix (P := P) (w := w) (base := base) T
  obtain ⟨_, GL⟩ := do_letters (P := P) (w := w) (base := base) T
  obtain ⟨_, GR⟩ := do_refused (P := P) (w := w) (base := base) T
  obtain ⟨_, GW⟩ := do_wWrite (P := P) (w := w) (base := base) T
  obtain ⟨_, GF⟩ := do_wFinish (P := P) (w := w) (base := base) T
  obtain ⟨_, GB⟩ := do_bounds (P := P) (w := w) (base := base) T
  obtain ⟨_, GC⟩ := do_lCut (P := P) (w := w) (base := base) T
  obtain ⟨_, GA⟩ := do_after (P := P) (w := w) (base := base) T
  obtain ⟨_, _, GG, _⟩ := do_wGot (P := P) (w := w) (base := base) T
  obtain ⟨_, GI⟩ := do_wMissed (P := P) (w := w) (base := base) T
  obtain ⟨_, GT⟩ := do_told (P := P) (w := w) (base := base) T
  obtain ⟨_, GU⟩ := do_wRaise (P := P) (w := w) (base := base) T
  refine ⟨fd, ok0 F scOne (fun vs H Q E h => ?_) (fun cdv A outer s0 H vs Q E hr h => ?_), F.bindsN fun _ _ _ _ _ _ us hl => match us, hl with | [_, _, _], _ => rfl, .nil, F.kp⟩
  · obtain ⟨pr, w0, w1, h, g, m, c, s, rfl, _⟩ := h
    rfl
  · obtain ⟨pr, w0, w1, hh, ga, ma, c, s, rfl, hpr, ne, ⟨xa, xb, lx, g⟩, hlen, q⟩ := h
    have hu := hu_of hr
    have nd := scOne.nd
    refine ⟨_, pss_cons (ps_set (i := 3) nd rfl (.inl rfl) (pe_op op_mod (pe_call GM.ok (hr.mono (by decide)) (by rfl) T.g GM.kp GM.b GM.v pass0 (pa_cons (pv 2) (pa_cons pe_int pa_nil))) pe_int))
      (pss_cons (ps_asg (pe_tup (pa_cons (pe_call GM.ok (hr.mono (by decide)) (by rfl) T.g GM.kp GM.b GM.v pass0 (pa_cons (pv 2) (pa_cons pe_int pa_nil))) (pa_cons (pe_call GM.ok (hr.mono (by decide)) (by rfl) T.g GM.kp GM.b GM.v pass0 (pa_cons (pv 2) (pa_cons pe_int pa_nil))) pa_nil)))
          (pg_tup rfl (pgs_cons (pg_name (i := 4) nd rfl (.inl rfl)) (pgs_cons (pg_name (i := 5) nd rfl (.inr rfl)) pgs_nil))))
      (pss_cons (ps_cut (ps_if (pt_cut (PW.pt (pw_or (pt_cmpR op_lt (pv 3) pe_int (nomark _)) (pw_or1 (pt_cmpR op_eq (pv 3) pe_int (nomark _))))))
          -- write, finish
          (pss_cons (ps_set (i := 6) nd rfl (.inr rfl) (pe_ix ix_list (pe_lst (pa_cons pe_str (pa_cons pe_str pa_nil))) (pe_op op_fdiv (pv 3) pe_int) (fun _ _ => rfl)))
          (pss_cons (ps_set (i := 7) nd rfl (.inr rfl) (pe_call GL.ok (hr.mono (by decide)) (by rfl) T.g GL.kp GL.b GL.v pass0 (pa_cons (pv 2) (pa_cons pe_int (pa_cons
              (pe_ix ix_list (pe_lst (pa_cons (pe_op op_mod (pv 4) pe_int) (pa_cons (pe_op op_mod (pe_op op_fdiv (pv 4) pe_int) pe_int) pa_nil)))
                (pe_callTy call_int1 (by rfl) T.f (by decide +kernel) (pa_cons (pe_cmpR op_eq (pe_op op_mod (pv 5) pe_int) pe_int (nomark _)) pa_nil)) (fun _ _ => rfl)) pa_nil)))))
          (pss_cons (ps_if (pt_cmpR op_ne (pe_dget hu (pv 1) pe_str (fun _ _ => rfl)) pe_str (nomark _))
              (pss_one (ps_ret (pe_callB (cr_all rfl) (by rfl) T.f (by decide +kernel) (pa_cons (pe_lc (own := [("_law_writer", 8)]) (g := gName 8) (tt := tYes) rfl nd (pi_list (pv 0))
                (blkOk_by (own := [("_law_writer", 8)]) (N := nOne) (sc := defScope sOne) (by decide +kernel)) (fun _ _ _ _ _ => pg_name (i := 8) nd rfl (.inl rfl)) (fun _ _ _ _ _ => pts_nil)
                (fun _ _ _ _ _ => pe_call GR.ok (hr.mono (by decide)) (by rfl) T.g GR.kp GR.b GR.v pass0 (pa_cons (pv 8) (pa_cons (pv 6) (pa_cons (pv 7) (pa_cons (pe_dget hu (pv 1) pe_str (fun _ _ => rfl)) pa_nil)))))) pa_nil)))) pss_nil)
          (pss_cons (ps_for PassesOwn.never rfl (pi_list (pv 0)) (pg_name (i := 8) nd rfl (.inl rfl))
              (pss_cons (ps_set (i := 9) nd rfl (.inl rfl) (pe_ifExp (pt_cmpR op_eq (pv 6) pe_str (nomark _)) (pe_meth (E := E0) (pv 8) T.kW (T.mW 55) GW.ok (hr.mono (by decide)) GW.b .nil passX0 (pa_cons (pv 7) pa_nil))
                  (pe_meth0 (E := E0) (pv 8) T.kW (T.mW 56) GF.ok (hr.mono (by decide)) GF.b .nil passX0)))
              (pss_one (ps_if (pt_cmpR op_notN (pv 9) pe_non (nomark _)) (pss_one (ps_ret pe_bl)) pss_nil))))
          (pss_cons (ps_dput hu (pv 1) pe_str (pe_op op_add_str (pe_dget hu (pv 1) pe_str (fun _ _ => rfl)) (pe_op op_mul_str01 (pv 7) (pe_callTy call_int1 (by rfl) T.f (by decide +kernel) (pa_cons (pe_cmpR op_eq (pv 6) pe_str (nomark _)) pa_nil)))) rfl)
          (pss_one (ps_dput hu (pv 1) pe_str (pe_ix ix_list (pe_lst (pa_cons pe_str (pa_cons pe_str pa_nil))) (pe_callTy call_int1 (by rfl) T.f (by decide +kernel) (pa_cons (pe_cmpR op_eq (pv 6) pe_str (nomark _)) pa_nil)) (fun _ _ => rfl)) rfl)))))))
          (pss_one (ps_if (pt_cmpR op_lt (pv 3) pe_int (nomark _))
            -- cut
            (pss_cons (ps_asg (pe_call GB.ok (hr.mono (by decide)) (by rfl) T.g GB.kp GB.b GB.v pass0 (pa_cons (pv 2) pa_nil)) (pg_tup rfl (pgs_cons (pg_name (i := 10) nd rfl (.inr rfl)) (pgs_cons (pg_name (i := 11) nd rfl (.inr rfl)) pgs_nil))))
            (pss_cons (ps_if (pt_not (pt_val (pe_callB (cr_all rfl) (by rfl) T.f (by decide +kernel) (pa_cons (pe_lc (own := [("_law_writer", 8)]) (g := gName 8) (tt := tYes) rfl nd (pi_list (pv 0))
                (blkOk_by (own := [("_law_writer", 8)]) (N := nOne) (sc := defScope sOne) (by decide +kernel)) (fun _ _ _ _ _ => pg_name (i := 8) nd rfl (.inl rfl)) (fun _ _ _ _ _ => pts_nil)
                (fun _ _ _ _ _ => pe_call GC.ok (hr.mono (by decide)) (by rfl) T.g GC.kp GC.b GC.v pass0 (pa_cons (pv 8) (pa_cons (pv 1) (pa_cons (pv 10) (pa_cons (pv 11) (pa_cons (pe_cmpR op_eq (pe_op op_mod (pe_op op_fdiv (pv 5) pe_int) pe_int) pe_int (nomark _)) pa_nil))))))) pa_nil)))) (pss_one (ps_ret pe_bl)) pss_nil)
            (pss_one (ps_expr (pe_call GA.ok (hr.mono (by decide)) (by rfl) T.g GA.kp GA.b GA.v pass0 (pa_cons (pv 1) (pa_cons (pv 10) (pa_cons (pv 11) pa_nil))))))))
            (pss_one (ps_if (pt_cmpR op_lt (pv 3) pe_int (nomark _))
              -- got, missed
              (pss_cons (ps_set (i := 12) nd rfl (.inl rfl) (pe_op op_mod (pv 4) (pe_op op_add (pe_dget hu (pv 1) pe_str (fun _ _ => rfl)) pe_int)))
              (pss_cons (ps_set (i := 13) nd rfl (.inl rfl) (pe_op op_mod (pv 5) (pe_op op_add (pe_op op_sub (pe_dget hu (pv 1) pe_str (fun _ _ => rfl)) (pv 12)) pe_int)))
              (pss_cons (ps_set (i := 14) nd rfl (.inl rfl) (pe_cut (pe_and (pe_cmpR op_ne (pe_dget hu (pv 1) pe_str (fun _ _ => rfl)) pe_str (nomark _)) (pe_and (pe_cmpR op_eq (pe_op op_add (pv 12) (pv 13)) (pe_callB call_len_str (by rfl) T.f PySem.boot_len (pa_cons (pe_dget hu (pv 1) pe_str (fun _ _ => rfl)) pa_nil)) (nomark _))
                  (pe_one (pe_cmpR op_gt (pe_op op_mod (pe_op op_fdiv (pv 4) pe_int) pe_int) pe_int (nomark _)))))))
              (pss_cons (ps_for PassesOwn.never rfl (pi_list (pv 0)) (pg_name (i := 8) nd rfl (.inl rfl))
                (pss_cons (ps_set (i := 9) nd rfl (.inl rfl) (pe_ifExp (pt_cmpR op_lt (pv 3) pe_int (nomark _)) (pe_meth (pv 8) T.kW (T.mW 62) GG.ok (hr.mono (by decide)) GG.b GG.v pass0 (pa_cons (pv 12) (pa_cons (pv 13) (pa_cons (pv 14) pa_nil))))
                    (pe_meth (pv 8) T.kW (T.mW 63) GI.ok (hr.mono (by decide)) GI.b GI.v pass0 (pa_cons (pv 12) (pa_cons (pv 13) (pa_cons (pv 14) pa_nil))))))
                (pss_one (ps_if (pt_cmpR op_notN (pv 9) pe_non (nomark _)) (pss_one (ps_ret pe_bl)) pss_nil))))
              (pss_one (ps_expr (pe_call GT.ok (hr.mono (by decide)) (by rfl) T.g GT.kp GT.b GT.v pass0 (pa_cons (pv 1) (pa_cons (pv 12) (pa_cons (pv 13) (pa_cons (pv 14) (pa_cons (pe_cmpR op_lt (pv 3) pe_int (nomark _)) pa_nil)))))))))))
              )
              -- credit
              (pss_cons (ps_set (i := 15) nd rfl (.inl rfl) (pe_callB (call_max2 rfl) (by rfl) T.f (by decide +kernel) (pa_cons pe_int (pa_cons (pe_op op_sub (pe_op op_add (pe_dget hu (pv 1) pe_str (fun _ _ => rfl)) (pe_op op_mod (pv 4) pe_int)) pe_int) pa_nil))))
              (pss_cons (ps_for PassesOwn.never rfl (pi_list (pv 0)) (pg_name (i := 8) nd rfl (.inl rfl))
                (pss_one (ps_if (pt_cmpR op_notN (pe_meth (pv 8) T.kW (T.mW 57) GU.ok (hr.mono (by decide)) GU.b GU.v pass0 (pa_cons (pv 15) pa_nil)) pe_non (nomark _)) (pss_one (ps_ret pe_bl)) pss_nil)))
              (pss_one (ps_dput hu (pv 1) pe_str (pe_callB (call_max2 rfl) (by rfl) T.f (by decide +kernel) (pa_cons (pe_dget hu (pv 1) pe_str (fun _ _ => rfl)) (pa_cons (pv 15) pa_nil))) rfl))))))))))
      (pss_one (ps_ret pe_bl)))), ?_⟩
    refine ⟨_, rfl, c, _, rfl, by omega, by omega, fun m0 h0 h0' => ⟨_, _, rfl, rfl, (by show (0 : Int) < 15; decide), ?_⟩⟩
    refine ⟨_, rfl, c, _, rfl, by omega, by omega, fun m1 h1 h1' => ⟨_, rfl, c, _, rfl, by omega, by omega, fun m2 h2 h2' => ?_⟩⟩
    refine ⟨(by show 2 ≤ sizeLine; decide), fun tt htt => ?_⟩
    have sT := Same.new (o := HO.tup [.int m1, .int m2]) htt
    have hkind := modlt (a := m0) (b := 15) (by decide)
    refine ⟨tt, _, rfl, SqT.of upd_same, rfl, _, _, rfl, _, _, rfl, rfl, ?_⟩
    refine ⟨fun σ' H' => ∃ s', Kp [w0, w1, hh, ga, ma] H H' ∧ OneOk K H' w0 w1 hh ga ma s' ∧ s'.text.length ≤ s.text.length + 64, fun σ' H' ⟨s', k', o', l'⟩ => q H' s' k' o' l', ?_⟩
    refine ⟨fun b H' => Same H H' ∧ b = decide (m0 % 15 < 3 ∨ m0 % 15 = 14), ?_, ?_⟩
    case refine_2 =>
      refine ⟨_, rfl, _, _, rfl, rfl, _, rfl, ?_⟩
      by_cases c1 : m0 % 15 < 3
      · exact iteD c1 ⟨sT, (decide_eq_true (.inl c1)).symm⟩
      · refine iteDF c1 ⟨_, rfl, rfl, _, rfl, ?_⟩
        refine ⟨sT, ?_⟩
        rw [dec_int]
        by_cases c2 : m0 % 15 = 14
        · rw [decide_eq_true (.inr c2), c2]
          rfl
        · rw [decide_eq_false (fun z => z.elim c1 c2)]
          exact beq_eq_false_iff_ne.mpr c2
    rintro b H' ⟨sT, rfl⟩
    have xa1 := xa.same sT
    have xb1 := xb.same sT
    have lx1 := lx.same sT
    have hpr1 := sT _ _ hpr
    have hot : Hot K H' [w0, w1, hh, ga, ma] := fun a ha => by
      rcases List.mem_cons.mp ha with e | ha
      · exact xa1.hot a (by simp [e])
      · rcases List.mem_cons.mp ha with e | ha
        · exact xb1.hot a (by simp [e])
        · exact lx1.hot a ha
    have pairK : ∀ {H3 : Hp}, Kp [w0, w1, hh, ga, ma] H' H3 → H3 pr = some (.lst [.ref w0, .ref w1]) := fun kp => kp.lst hot hpr1
    refine ite2 (fun c1 => ?_) (fun c1 => ?_)
    · -- write, finish
      have c1 := of_decide_eq_true c1
      obtain ⟨f, hf⟩ : ∃ f : Bool, f = decide (m0 % 15 = 14) := ⟨_, rfl⟩
      have hidx : m0 % 15 / 14 = (if f = true then 1 else 0) := by
        rw [hf]
        by_cases e : m0 % 15 = 14
        · rw [decide_eq_true e, e]
          rfl
        · rw [decide_eq_false e]
          show m0 % 15 / 14 = 0
          omega
      have hdS : (if f = true then V.str ("finish" : Str) else V.str ("write" : Str)) = V.str (dS f) := by cases f <;> rfl
      refine ⟨(by show 2 ≤ sizeLine; decide), fun l1 hl1 => ?_⟩
      have s1 := Same.new (o := HO.lst [.str ("write" : Str), .str ("finish" : Str)]) hl1
      refine ⟨_, rfl, _, _, rfl, rfl, ⟨by decide, by decide⟩, l1, _, _, V.str (dS f), rfl, rfl, SqL.of upd_same, (by rw [hidx, ← hdS]; exact at2 f), ?_⟩
      refine ⟨_, rfl, _, rfl, _, _, rfl, rfl, (by show (0 : Int) < 8; decide), _, rfl, _, _, rfl, rfl, ⟨by decide, by decide⟩, _, _, rfl, rfl, (by show (0 : Int) < 65; decide), (by show 2 ≤ sizeLine; decide), fun l2 hl2 => ?_⟩
      have s2 := Same.new (o := HO.lst [.int (m1 % 8), .int (m1 / 8 % 65)]) hl2
      obtain ⟨nn, hnn⟩ : ∃ nn : Nat, (if decide (V.int (m2 % 6) = V.int 0) = true then V.int (m1 / 8 % 65) else V.int (m1 % 8)) = V.int (nn : Int) ∧ nn ≤ 64 := by
        have := modlt (a := m1 / 8) (b := 65) (by decide)
        have := modlt (a := m1) (b := 8) (by decide)
        cases decide (V.int (m2 % 6) = V.int 0)
        · exact ⟨(m1 % 8).toNat, by show V.int (m1 % 8) = _; congr 1; omega, by omega⟩
        · exact ⟨(m1 / 8 % 65).toNat, by show V.int (m1 / 8 % 65) = _; congr 1; omega, by omega⟩
      refine ⟨_, rfl, _, _, rfl, rfl, (by show (0 : Int) < 6; decide), rfl, .inr ⟨_, rfl, l2, _, _, V.int (nn : Int), rfl, rfl, SqL.of upd_same, (by rw [← hnn.1]; exact at2 _), ?_⟩⟩
      refine ⟨c, 10, nn, rfl, by omega, by omega, hnn.2, fun H3 z s3 hz tz => ?_⟩
      have s13 := (s1.trans s2).trans s3
      have lx3 := lx1.same s13
      refine ⟨_, rfl, hh, _, rfl, hget lx3.at_ hk_mood, rfl, _, rfl, ?_⟩
      refine iteE (congrArg (! ·) (mood_open s.fin)) ?_
      have xa3 := xa1.same s13
      have xb3 := xb1.same s13
      have hpr3 := s13 _ _ hpr1
      cases hfin : s.fin with
      | true =>
        refine iteT ⟨_, rfl, pr, rfl, ⟨_, SqL.of hpr3⟩, fun D hD => ?_⟩
        refine lc_list (K := K) (a := pr) (xs := [.ref w0, .ref w1]) (fun i H4 => Same H3 H4 ∧ H4 D = some (.lst ((List.replicate i true).map V.bl))) ⟨Same.new hD, upd_same⟩ ?_ ?_ ?_
        · rintro i H4 _ ⟨s4, _⟩
          exact SqL.of (s4 _ _ hpr3)
        · rintro i x H4 hx ⟨s4, hd4⟩
          obtain ⟨p, rfl, hp⟩ : ∃ p, x = V.ref p ∧ WAt K H4 p s := by
            match i, hx with
            | 0, hx => exact ⟨w0, (Option.some.inj hx).symm, xa3.same s4⟩
            | 1, hx => exact ⟨w1, (Option.some.inj hx).symm, xb3.same s4⟩
            | i + 2, hx => simp at hx
          have hi : i < 2 := (List.getElem?_eq_some_iff.mp hx).1
          refine ⟨rfl, _, rfl, _, rfl, _, rfl, _, rfl, hh, _, rfl, hget (lx3.same s4).at_ hk_lane, p, dS f, z, s, rfl, hp, g, hfin, hz, fun H5 s5 => ?_⟩
          refine ⟨_, s5 _ _ hd4, by rw [List.length_map, List.length_replicate]; exact line_lt (by omega), fun c o hc => ?_, ?_⟩
          · rw [upd_ne (ne_of_none hc hD)]
            exact s5 _ _ (s4 _ _ hc)
          · rw [upd_same, List.replicate_succ', List.map_append]
            rfl
        · rintro H4 ⟨s4, hd4⟩
          refine ⟨D, [true, true], rfl, SqL.of hd4, ?_⟩
          have sA := (sT.trans s13).trans s4
          exact q H4 s (Kp.of sA) ⟨xa.same sA, xb.same sA, lx.same sA, g⟩ (by omega)
      | false =>
        obtain ⟨s', hs'⟩ : ∃ s' : WS, s' = if f = true then finF s else writeF s z := ⟨_, rfl⟩
        refine iteF ⟨_, rfl, pr, rfl, ⟨_, SqL.of hpr3⟩, ?_⟩
        have hot3 : Hot K H3 [w0, w1, hh, ga, ma] := fun a ha => by
          rcases List.mem_cons.mp ha with e | ha
          · exact xa3.hot a (by simp [e])
          · rcases List.mem_cons.mp ha with e | ha
            · exact xb3.hot a (by simp [e])
            · exact lx3.hot a ha
        refine for_list (K := K) (a := pr) (xs := [.ref w0, .ref w1]) (fun i σ' H4 => ∃ v8 v9, σ' = [some (.ref pr), some (.ref hh), some (.int c), some (.int (m0 % 15)), some (.int m1), some (.int m2), some (.str (dS f)), some (.str z), v8, v9, none, none, none, none, none, none] ∧
          Kp [w0, w1, hh, ga, ma] H3 H4 ∧ Pw K H4 w0 w1 s s' i ∧ LIn H4 hh ga ma s) ⟨none, none, rfl, Kp.refl, Pw.start xa3 xb3, lx3⟩ ?_ ?_ ?_
        · rintro i σ' H4 _ ⟨_, _, _, kp, _⟩
          exact SqL.of (kp.lst hot3 hpr3)
        · rintro i x σ' H4 hx ⟨v8, v9, rfl, kp, pw, l4⟩
          obtain ⟨p, rfl, hpm, hp, next⟩ := pw.step T ne hx
          obtain ⟨dx, rs, rh, xi⟩ := id hp
          have hmem : p ∈ [w0, w1, hh, ga, ma] := by rcases hpm with e | e <;> simp [e]
          have fin : ∀ H5, Kp [p] H4 H5 → WAt K H5 p s' → Kp [w0, w1, hh, ga, ma] H3 H5 ∧ Pw K H5 w0 w1 s s' (i + 1) ∧ LIn H5 hh ga ma s := fun H5 k5 w5 =>
            ⟨kp.trans (k5.mono fun b hb => by rw [List.mem_singleton.mp hb]; exact hmem), next H5 k5 w5, l4.wkeep hp k5⟩
          refine ⟨_, rfl, rfl, _, rfl, ?_⟩
          refine iteE (dS_w f) ?_
          cases f with
          | false =>
            refine iteT ⟨_, rfl, p, dx, _, rfl, xi.at_, wn_write, _, rfl, p, z, s, rfl, hp, by omega, fun _ H5 k5 w5 => ?_, fun h => by rw [hfin] at h; cases h⟩
            refine ⟨_, rfl, rfl, _, rfl, iteF ⟨_, _, rfl, fin H5 k5 (by rw [hs']; exact w5)⟩⟩
          | true =>
            refine iteF ⟨_, rfl, p, dx, _, rfl, xi.at_, wn_finish, p, s, rfl, hp, fun _ H5 k5 w5 => ?_, fun h => by rw [hfin] at h; cases h⟩
            refine ⟨_, rfl, rfl, _, rfl, iteF ⟨_, _, rfl, fin H5 k5 (by rw [hs']; exact w5)⟩⟩
        · rintro σ' H4 ⟨v8, v9, rfl, kp, pw, l4⟩
          have hl := g.len
          have hzl : (if decide (V.str (dS f) = V.str ("write" : Str)) = true then z else Str.empty).length ≤ 64 := by
            split
            · exact hz
            · exact Nat.zero_le _
          have ehp : (if decide (V.str (dS f) = V.str ("write" : Str)) = true then z else Str.empty) = (if f = true then Str.empty else z) := by
            rw [dS_w]
            cases f <;> rfl
          refine ⟨_, rfl, hh, _, rfl, hget l4.at_ hk_text, _, rfl, _, rfl, rfl, .inr ⟨_, rfl, z, _, rfl, rfl, _, _, rfl, rfl, line_big (by omega), _, rfl, hh, _, rfl, DPut.k (k := Sum.inr "text") l4.at_ (by show 8 < sizeLine; decide), ?_⟩⟩
          rw [hp_text]
          have l5 := l4.setH (s' := { s with text := s.text ++ (if decide (V.str (dS f) = V.str ("write" : Str)) = true then z else Str.empty) }) rfl rfl
          have k5 : Kp [hh, ga, ma] H4 _ := Kp.put (o := .dK (hkv { s with text := s.text ++ (if decide (V.str (dS f) = V.str ("write" : Str)) = true then z else Str.empty) } ga ma)) (p := hh) (by simp)
          refine ⟨(by show 2 ≤ sizeLine; decide), fun l3 hl3 => ?_⟩
          have s6 := Same.new (o := HO.lst [.str ("open" : Str), .str ("finished" : Str)]) hl3
          have l6 := l5.same s6
          have emood : (if decide (V.str (dS f) = V.str ("finish" : Str)) = true then V.str ("finished" : Str) else V.str ("open" : Str)) = V.str (moodS f) := by
            rw [dS_f]
            cases f <;> rfl
          refine ⟨_, rfl, rfl, .inr ⟨_, rfl, l3, _, _, V.str (moodS f), rfl, rfl, SqL.of upd_same, (by rw [← emood]; exact at2 _), _, rfl, hh, _, rfl, DPut.k (k := Sum.inr "mood") l6.at_ (by show 8 < sizeLine; decide), ?_⟩⟩
          rw [hp_mood]
          have l7 := l6.setH (s' := { s with text := s.text ++ (if decide (V.str (dS f) = V.str ("write" : Str)) = true then z else Str.empty), fin := f }) rfl rfl
          have k7 := (k5.trans (Kp.of s6)).trans (Kp.put (m := [hh, ga, ma]) (o := .dK (hkv { s with text := s.text ++ (if decide (V.str (dS f) = V.str ("write" : Str)) = true then z else Str.empty), fin := f } ga ma)) (p := hh) (by simp))
          have es : ({ s with text := s.text ++ (if decide (V.str (dS f) = V.str ("write" : Str)) = true then z else Str.empty), fin := f } : WS) = s' := by
            rw [hs', ehp]
            cases f with
            | true =>
              show ({ s with text := s.text ++ Str.empty, fin := true } : WS) = finF s
              rw [app_empty]
              rfl
            | false =>
              show ({ s with text := s.text ++ z, fin := false } : WS) = writeF s z
              rw [← hfin]
              rfl
          refine ⟨s', ((Kp.of (sT.trans s13)).trans kp).trans (k7.mono fun b hb => List.mem_cons_of_mem _ (List.mem_cons_of_mem _ hb)), ⟨pw.1.lkeep T l4 k7, pw.2.lkeep T l4 k7, ?_, ?_⟩, ?_⟩
          · have l8 := l7
            rw [es] at l8
            have e9 : upd (upd (upd H4 hh (.dK (hkv { s with text := s.text ++ (if decide (V.str (dS f) = V.str ("write" : Str)) = true then z else Str.empty) } ga ma))) l3 (.lst [.str ("open" : Str), .str ("finished" : Str)])) hh (.dK (hkv s' ga ma)) = upd (upd (upd H4 hh (.dK (hkv { s with text := s.text ++ (if decide (V.str (dS f) = V.str ("write" : Str)) = true then z else Str.empty) } ga ma))) l3 (.lst [.str ("open" : Str), .str ("finished" : Str)])) hh (.dK (hkv { s with text := s.text ++ (if decide (V.str (dS f) = V.str ("write" : Str)) = true then z else Str.empty), fin := f } ga ma)) := by rw [es]
            rw [e9] at l8
            exact l8
          · rw [hs']
            cases f with
            | true => exact g.finF
            | false => exact g.write tz (by omega)
          · rw [hs']
            cases f with
            | true => show s.text.length ≤ _; omega
            | false =>
              show (s.text ++ z).length ≤ _
              rw [app_len]
              omega
    · have keep5 : ∀ {b : Addr}, b ∈ [hh, ga, ma] → b ∈ [w0, w1, hh, ga, ma] := fun hb => List.mem_cons_of_mem _ (List.mem_cons_of_mem _ hb)
      refine ⟨_, rfl, _, _, rfl, rfl, _, rfl, ?_⟩
      refine ite2 (fun c2 => ?_) (fun c2 => ?_)
      · -- cut
        refine ⟨_, rfl, c, rfl, fun H3 t3 most b s3 ht3 => ⟨t3, _, rfl, SqT.of ht3, rfl, _, _, rfl, _, _, rfl, rfl, ?_⟩⟩
        have xa3 := xa1.same s3
        have xb3 := xb1.same s3
        have lx3 := lx1.same s3
        have hpr3 := s3 _ _ hpr1
        obtain ⟨run, hrun⟩ := run_ex g.bdH
        obtain ⟨s', hs'⟩ : ∃ s' : WS, s' = cutF s (due s run most b) := ⟨_, rfl⟩
        refine ⟨_, rfl, pr, rfl, ⟨_, SqL.of hpr3⟩, fun D hD => ?_⟩
        have npD := ne_of_none hpr3 hD
        refine lc_list (K := K) (a := pr) (xs := [.ref w0, .ref w1]) (fun i H4 => Kp [w0, w1] H3 H4 ∧ H4 D = some (.lst ((List.replicate i true).map V.bl)) ∧ PwD K H4 D w0 w1 s s' i ∧ LIn H4 hh ga ma s)
          ⟨Kp.of (Same.new hD), upd_same, ⟨WAtD.start xa3 hD, WAtD.start xb3 hD⟩, lx3.same (Same.new hD)⟩ ?_ ?_ ?_
        · rintro i H4 _ ⟨kp, _⟩
          exact SqL.of (kp.lst (fun a ha => by
            rcases List.mem_cons.mp ha with e | ha
            · exact xa3.hot a (by simp [e])
            · exact xb3.hot a ha) hpr3)
        · rintro i x H4 hx ⟨kp, hd4, pw, l4⟩
          obtain ⟨p, dx, rs, rh, rfl, hpm, hp, next⟩ := pw.step T ne hx hd4
          have hi : i < 2 := (List.getElem?_eq_some_iff.mp hx).1
          have hmem : p ∈ [w0, w1] := by rcases hpm with e | e <;> simp [e]
          refine ⟨rfl, _, rfl, _, rfl, _, rfl, _, rfl, _, rfl, _, _, rfl, rfl, ⟨by decide, by decide⟩, _, _, rfl, rfl, (by show (0 : Int) < 2; decide), rfl, p, hh, ga, ma, dx, rs, rh, most, b, _, s, rfl, hp, l4, g, fun H5 run5 rh5 k5 hrun5 w5 f5 => ?_⟩
          obtain rfl := RunOf.uniq hrun hrun5
          have hd5 := k5.lst hp.hot hd4
          refine ⟨_, hd5, by rw [List.length_map, List.length_replicate]; exact line_lt (by omega), fun e o he ho => ?_, ?_, next H5 rh5 k5 (by rw [hs']; exact w5) f5 _, (l4.wkeep ⟨dx, rs, rh, hp⟩ k5).updL hd5⟩
          · rw [upd_ne (ne_of_none ho hD)]
            exact k5 _ _ (by rintro z; exact he (by rw [List.mem_singleton.mp z]; exact hmem)) (kp _ _ he ho)
          · rw [upd_same, List.replicate_succ', List.map_append]
            rfl
        · rintro H4 ⟨kp, hd4, pw, l4⟩
          refine ⟨D, [true, true], rfl, SqL.of hd4, _, rfl, iteF ?_⟩
          refine ⟨_, rfl, _, rfl, _, rfl, hh, ga, ma, most, b, s, rfl, l4, g, fun H6 run6 k6 hrun6 l6 => ?_⟩
          obtain rfl := RunOf.uniq hrun hrun6
          refine ⟨s', ((Kp.of (sT.trans s3)).trans (kp.mono fun b hb => ?_)).trans (k6.mono fun b hb => keep5 hb), ⟨pw.1.at_.lkeep T l4 k6, pw.2.at_.lkeep T l4 k6, by rw [hs']; exact l6, ?_⟩, ?_⟩
          · rcases List.mem_cons.mp hb with e | hb
            · simp [e]
            · simp [List.mem_singleton.mp hb]
          · rw [hs']
            exact g.cut (most := most) fun a z l e => due_ok g hrun e
          · rw [hs', cut_text]
            omega
      · have hotW : ∀ {Ha : Hp}, WAt K Ha w0 s → WAt K Ha w1 s → Hot K Ha [w0, w1] := fun x y a ha => by
          rcases List.mem_cons.mp ha with e | ha
          · exact x.hot a (by simp [e])
          · exact y.hot a ha
        have up5 : ∀ {b : Addr}, b ∈ [w0, w1] → b ∈ [w0, w1, hh, ga, ma] := fun hb => by
          rcases List.mem_cons.mp hb with e | hb
          · simp [e]
          · simp [List.mem_singleton.mp hb]
        refine ⟨_, rfl, _, _, rfl, rfl, _, rfl, ?_⟩
        refine ite2 (fun c3 => ?_) (fun c3 => ?_)
        · -- got, missed
          have he0 := g.e0
          refine ⟨_, rfl, _, rfl, hh, _, rfl, hget lx1.at_ hk_sent, _, _, rfl, rfl, _, _, rfl, rfl, (by show 0 < s.edge + 1; omega), ?_⟩
          have ha := modlt (a := m1) (b := s.edge + 1) (by omega)
          refine ⟨_, rfl, _, rfl, hh, _, rfl, hget lx1.at_ hk_sent, _, rfl, _, _, rfl, rfl, _, _, rfl, rfl, _, _, rfl, rfl, (by show 0 < s.edge - m1 % (s.edge + 1) + 1; omega), ?_⟩
          have hk := modlt (a := m2) (b := s.edge - m1 % (s.edge + 1) + 1) (by omega)
          refine ⟨fun v H3 => H3 = H' ∧ ∃ l, v = .bl l ∧ (l = true → s.tail ≠ .un), ?_, ?_⟩
          case refine_2 =>
            refine ⟨_, rfl, hh, _, rfl, hget lx1.at_ hk_end, rfl, _, rfl, ?_⟩
            rw [tl_un]
            cases e : decide (s.tail = .un) with
            | true => exact ⟨rfl, false, rfl, fun z => by cases z⟩
            | false =>
              have e := of_decide_eq_false e
              refine ⟨_, rfl, _, rfl, _, _, rfl, rfl, _, rfl, hh, _, rfl, hget lx1.at_ hk_text, _, rfl, line_big (by have := g.len; omega), rfl, _, rfl, ?_⟩
              cases decide (V.int (m1 % (s.edge + 1) + m2 % (s.edge - m1 % (s.edge + 1) + 1)) = V.int (s.text.length : Int)) with
              | false => exact ⟨rfl, false, rfl, fun z => by cases z⟩
              | true => exact ⟨_, rfl, _, _, rfl, rfl, ⟨by decide, by decide⟩, _, _, rfl, rfl, (by show (0 : Int) < 3; decide), _, _, rfl, rfl, rfl, _, rfl, fun _ => e⟩
          rintro v H3 ⟨rfl, l, rfl, hl⟩
          have sn : Snt s (m1 % (s.edge + 1)) (m2 % (s.edge - m1 % (s.edge + 1) + 1)) l := ⟨ha.1, hk.1, by omega, hl⟩
          obtain ⟨s', hs'⟩ : ∃ s' : WS, s' = toldF s (m1 % (s.edge + 1)) (m2 % (s.edge - m1 % (s.edge + 1) + 1)) l (decide (m0 % 15 < 10)) := ⟨_, rfl⟩
          refine ⟨_, rfl, pr, rfl, ⟨_, SqL.of hpr1⟩, ?_⟩
          refine for_list (K := K) (a := pr) (xs := [.ref w0, .ref w1]) (fun i σ' H4 => ∃ v8 v9, σ' = [some (.ref pr), some (.ref hh), some (.int c), some (.int (m0 % 15)), some (.int m1), some (.int m2), none, none, v8, v9, none, none, some (.int (m1 % (s.edge + 1))), some (.int (m2 % (s.edge - m1 % (s.edge + 1) + 1))), some (.bl l), none] ∧
            Kp [w0, w1] H3 H4 ∧ Pw K H4 w0 w1 s s' i ∧ LIn H4 hh ga ma s) ⟨none, none, rfl, Kp.refl, Pw.start xa1 xb1, lx1⟩ ?_ ?_ ?_
          · rintro i σ' H4 _ ⟨_, _, _, kp, _⟩
            exact SqL.of (kp.lst (hotW xa1 xb1) hpr1)
          · rintro i x σ' H4 hx ⟨v8, v9, rfl, kp, pw, l4⟩
            obtain ⟨p, rfl, hpm, hp, next⟩ := pw.step T ne hx
            obtain ⟨dx, rs, rh, xi⟩ := id hp
            have hmem : p ∈ [w0, w1] := by rcases hpm with e | e <;> simp [e]
            have fin : ∀ H5, Kp [p] H4 H5 → WAt K H5 p s' → Kp [w0, w1] H3 H5 ∧ Pw K H5 w0 w1 s s' (i + 1) ∧ LIn H5 hh ga ma s := fun H5 k5 w5 =>
              ⟨kp.trans (k5.mono fun b hb => by rw [List.mem_singleton.mp hb]; exact hmem), next H5 k5 w5, l4.wkeep hp k5⟩
            refine ⟨_, rfl, _, _, rfl, rfl, _, rfl, ?_⟩
            refine ite2 (fun c4 => ?_) (fun c4 => ?_)
            · have c4 := of_decide_eq_true c4
              refine ⟨_, rfl, p, dx, _, rfl, xi.at_, wn_got, _, rfl, _, rfl, _, rfl, p, _, _, l, s, rfl, hp, g, sn, fun H5 k5 w5 => ?_⟩
              refine ⟨_, rfl, rfl, _, rfl, iteF ⟨_, _, rfl, fin H5 k5 (by rw [hs', decide_eq_true c4]; exact w5)⟩⟩
            · have c4 : ¬ m0 % 15 < 10 := fun z => c4 (decide_eq_true z)
              refine ⟨_, rfl, p, dx, _, rfl, xi.at_, wn_missed, _, rfl, _, rfl, _, rfl, p, _, _, l, s, rfl, hp, g, sn, fun H5 k5 w5 => ?_⟩
              refine ⟨_, rfl, rfl, _, rfl, iteF ⟨_, _, rfl, fin H5 k5 (by rw [hs', decide_eq_false c4]; exact w5)⟩⟩
          · rintro σ' H4 ⟨v8, v9, rfl, kp, pw, l4⟩
            refine ⟨_, rfl, _, rfl, _, rfl, _, rfl, _, rfl, _, _, rfl, rfl, hh, ga, ma, _, _, l, _, s, rfl, l4, g, sn, fun H6 k6 l6 => ?_⟩
            have hgd : Gd s' := by
              rw [hs']
              unfold toldF
              split
              · exact g.gotF sn.a0 sn.k0 sn.up
              · exact g.misF sn.a0 sn.k0 sn.up
            have htx : s'.text = s.text := by
              rw [hs']
              unfold toldF
              split <;> rfl
            refine ⟨s', ((Kp.of sT).trans (kp.mono fun b hb => up5 hb)).trans (k6.mono fun b hb => keep5 hb), ⟨pw.1.lkeep T l4 k6, pw.2.lkeep T l4 k6, by rw [hs']; exact l6, hgd⟩, by rw [htx]; omega⟩
        · -- credit
          refine ⟨_, rfl, hh, _, rfl, hget lx1.at_ hk_upto, _, rfl, _, _, rfl, rfl, (by show (0 : Int) < 12; decide), _, _, rfl, rfl, _, _, rfl, rfl, _, _, rfl, ?_⟩
          obtain ⟨s', hs'⟩ : ∃ s' : WS, s' = raiseF s (if s.limit + m1 % 12 - 3 > 0 then s.limit + m1 % 12 - 3 else 0) := ⟨_, rfl⟩
          refine ⟨_, rfl, pr, rfl, ⟨_, SqL.of hpr1⟩, ?_⟩
          refine for_list (K := K) (a := pr) (xs := [.ref w0, .ref w1]) (fun i σ' H4 => ∃ v8, σ' = [some (.ref pr), some (.ref hh), some (.int c), some (.int (m0 % 15)), some (.int m1), some (.int m2), none, none, v8, none, none, none, none, none, none, some (.int (if s.limit + m1 % 12 - 3 > 0 then s.limit + m1 % 12 - 3 else 0))] ∧
            Kp [w0, w1] H' H4 ∧ Pw K H4 w0 w1 s s' i ∧ LIn H4 hh ga ma s) ⟨none, rfl, Kp.refl, Pw.start xa1 xb1, lx1⟩ ?_ ?_ ?_
          · rintro i σ' H4 _ ⟨_, _, kp, _⟩
            exact SqL.of (kp.lst (hotW xa1 xb1) hpr1)
          · rintro i x σ' H4 hx ⟨v8, rfl, kp, pw, l4⟩
            obtain ⟨p, rfl, hpm, hp, next⟩ := pw.step T ne hx
            obtain ⟨dx, rs, rh, xi⟩ := id hp
            have hmem : p ∈ [w0, w1] := by rcases hpm with e | e <;> simp [e]
            refine ⟨_, rfl, p, dx, _, rfl, xi.at_, wn_raise_to, _, rfl, p, _, s, rfl, hp, fun H5 k5 w5 => ⟨rfl, _, rfl, iteF ?_⟩⟩
            exact ⟨_, rfl, kp.trans (k5.mono fun b hb => by rw [List.mem_singleton.mp hb]; exact hmem), next H5 k5 (by rw [hs']; exact w5), l4.wkeep hp k5⟩
          · rintro σ' H4 ⟨v8, rfl, kp, pw, l4⟩
            refine ⟨_, rfl, hh, _, rfl, hget l4.at_ hk_upto, _, rfl, _, _, rfl, _, rfl, hh, _, rfl, DPut.k (k := Sum.inr "upto") l4.at_ (by show 8 < sizeLine; decide), ?_⟩
            rw [hp_upto]
            have l5 := l4.setH (s' := s') (by rw [hs']; rfl) (by rw [hs']; rfl)
            have k5 : Kp [hh, ga, ma] H4 _ := Kp.put (o := .dK (hkv s' ga ma)) (p := hh) (by simp)
            have es : s' = { s with limit := if (if s.limit + m1 % 12 - 3 > 0 then s.limit + m1 % 12 - 3 else 0) > s.limit then (if s.limit + m1 % 12 - 3 > 0 then s.limit + m1 % 12 - 3 else 0) else s.limit } := by
              rw [hs']
              have e : max s.limit (if s.limit + m1 % 12 - 3 > 0 then s.limit + m1 % 12 - 3 else 0) = if (if s.limit + m1 % 12 - 3 > 0 then s.limit + m1 % 12 - 3 else 0) > s.limit then (if s.limit + m1 % 12 - 3 > 0 then s.limit + m1 % 12 - 3 else 0) else s.limit := by
                split <;> split <;> omega
              rw [← e]
              rfl
            have hgd : Gd s' := by
              rw [hs']
              exact g.raiseF
            have htx : s'.text.length ≤ s.text.length + 64 := by
              rw [hs']
              show s.text.length ≤ _
              omega
            have big : Kp [w0, w1, hh, ga, ma] H (upd H4 hh (.dK (hkv s' ga ma))) ∧ OneOk K (upd H4 hh (.dK (hkv s' ga ma))) w0 w1 hh ga ma s' := ⟨((Kp.of sT).trans (kp.mono fun b hb => up5 hb)).trans (k5.mono fun b hb => keep5 hb), pw.1.lkeep T l4 k5, pw.2.lkeep T l4 k5, l5, hgd⟩
            have eH : upd H4 hh (.dK (hkv s' ga ma)) = upd H4 hh (.dK (hkv { s with limit := if (if s.limit + m1 % 12 - 3 > 0 then s.limit + m1 % 12 - 3 else 0) > s.limit then (if s.limit + m1 % 12 - 3 > 0 then s.limit + m1 % 12 - 3 else 0) else s.limit } ga ma)) := congrArg (fun z : WS => upd H4 hh (.dK (hkv z ga ma))) es
            rw [eH] at big
            exact ⟨s', big.1, big.2, htx⟩
end
end K41

/-! the law's own: apart -/
namespace K41
open PySem PySem.Spec PyProof.Rows L2
def moreS : Str := "more letters"
theorem more_len : moreS.length = 12 := by decide +kernel
theorem more_tok : Tok moreS := by
  have h : ∀ c ∈ moreS.cps.toList, c < 1114112 := by decide +kernel
  exact h
def apA (s : WS) : WS := if s.fin = true then s else writeF s moreS
def apB (s : WS) : WS := raiseF (apA s) ((apA s).limit + 9)
def apC (s : WS) (run : Option (Int × Int)) : WS := cutF (apB s) (due (apB s) run 9 none)
def apD (s : WS) (run : Option (Int × Int)) : WS := gotF (apC s run) 0 (apC s run).edge false
theorem gdA {s : WS} (g : Gd s) (h : s.text.length + 12 ≤ 100000) : Gd (apA s) := by
  unfold apA
  split
  · exact g
  · exact g.write more_tok (by rw [more_len]; exact h)
theorem gdB {s : WS} (g : Gd s) (h : s.text.length + 12 ≤ 100000) : Gd (apB s) := (gdA g h).raiseF
theorem gdC {s : WS} (g : Gd s) (h : s.text.length + 12 ≤ 100000) {run : Option (Int × Int)} (r : RunOf (apB s).holes run) : Gd (apC s run) := (gdB g h).cut (most := 9) fun a z l e => due_ok (gdB g h) r e
theorem gdD {s : WS} (g : Gd s) (h : s.text.length + 12 ≤ 100000) {run : Option (Int × Int)} (r : RunOf (apB s).holes run) : Gd (apD s run) := (gdC g h r).gotF (Int.le_refl _) (gdC g h r).e0 (by omega)
section
variable {P : Program} {w : World} {K : PySem.W.Frag} {mg : Str → Option Value} {base : Heap}
theorem scApart : FnScope ["_law_writer", "_law_other", "_law_mood", "_law_kept", "_law_made", "_law_one_here"] ["_law_writer", "_law_other", "_law_mood"] (defScope sApart) := ⟨rfl, rfl, rfl, by decide +kernel, rfl, by decide +kernel, by decide +kernel⟩
def spApart (K : PySem.W.Frag) : Sp := fun vs H Q _ => ∃ (w0 w1 : Addr) (s : WS), vs = [.ref w0, .ref w1, .str (moodS s.fin)] ∧ w0 ≠ w1 ∧ WAt K H w0 s ∧ WAt K H w1 s ∧ Gd s ∧ s.text.length + 12 ≤ 100000 ∧ ∀ H', Q (.bl true) H'
theorem do_apart (T : Tx K mg) : ∃ fd, Do P w K mg base 9 (He.ga K "_law_apart") ["_law_writer", "_law_other", "_law_mood"] [] (spApart K) fd [] := by
  obtain ⟨fd, F⟩ := T.def_ 46
  obtain ⟨_, GS⟩ := do_wStored (P := P) (w := w) (base := base) T
  obtain ⟨_, GO⟩ := do_writerOf (P := P) (w := w) (base := base) T
  obtain ⟨_, GW⟩ := do_wWrite (P := P) (w := w) (base := base) T
  obtain ⟨_, G2⟩ := do_wUpto (P := P) (w := w) (base := base) T
  obtain ⟨_, G3⟩ := do_wSent (P := P) (w := w) (base := base) T
  obtain ⟨_, GU⟩ := do_wRaise (P := P) (w := w) (base := base) T
  obtain ⟨_, _, GC⟩ := do_wCut (P := P) (w := w) (base := base) T
  obtain ⟨_, _, _, GG⟩ := do_wGot (P := P) (w := w) (base := base) T
  obtain ⟨_, GP⟩ := do_plain (P := P) (w := w) (base := base) T
  refine ⟨fd, ok0 F scApart (fun vs H Q E h => ?_) (fun cdv A outer s0 H vs Q E hr h => ?_), F.bindsN fun _ _ _ _ _ _ us hl => match us, hl with | [_, _, _], _ => rfl, .nil, F.kp⟩
  · obtain ⟨w0, w1, s, rfl, _⟩ := h
    rfl
  · obtain ⟨w0, w1, s, rfl, ne, xa, xb, g, hlen, q⟩ := h
    have nd := scApart.nd
    have r1 : Room 1 _ := hr.mono (by decide)
    have r2 : Room 2 _ := hr.mono (by decide)
    refine ⟨_, pss_cons (ps_set (i := 3) nd rfl (.inl rfl) (pe_meth0 (pv 0) T.kW (T.mW 70) GS.ok.ok r2 GS.b .nil pass0))
      (pss_cons (ps_set (i := 4) nd rfl (.inl rfl) (pe_call GO.ok hr (by rfl) T.g GO.kp GO.b GO.v pass0 (pa_cons (pv 3) pa_nil)))
      (pss_cons (ps_for PassesOwn.never rfl (pi_list (pe_lst (pa_cons (pv 1) (pa_cons (pv 4) pa_nil)))) (pg_name (i := 5) nd rfl (.inl rfl))
        (pss_cons (ps_cut (ps_if (pt_cmpR op_eq (pv 2) pe_str (nomark _)) (pss_one (ps_expr (pe_meth (E := E0) (pv 5) T.kW (T.mW 55) GW.ok (hr.mono (by decide)) GW.b .nil passX0 (pa_cons pe_str pa_nil)))) pss_nil))
        (pss_cons (ps_expr (pe_meth (pv 5) T.kW (T.mW 57) GU.ok r1 GU.b GU.v pass0 (pa_cons (pe_op op_add (pe_meth0 (pv 5) T.kW (T.mW 65) G2.ok r1 G2.b G2.v pass0) pe_int) pa_nil)))
        (pss_cons (ps_expr (pe_meth (pv 5) T.kW (T.mW 59) GC.ok (hr.mono (by decide)) GC.b GC.v pass0 (pa_cons pe_int pa_nil)))
        (pss_one (ps_expr (pe_meth (pv 5) T.kW (T.mW 62) GG.ok (hr.mono (by decide)) GG.b GG.v pass0 (pa_cons pe_int (pa_cons (pe_meth0 (pv 5) T.kW (T.mW 66) G3.ok r1 G3.b G3.v pass0) pa_nil)))))))))
      (pss_cons (ps_if (PW.pt (pw_or (pt_cmpR (op_neD hr.units) (pe_meth0 (pv 0) T.kW (T.mW 70) GS.ok.ok r2 GS.b .nil pass0) (pv 3) (nomark _))
          (pw_or1 (pt_cmpR (op_neD hr.units) (pe_meth0 (pv 4) T.kW (T.mW 70) GS.ok.ok r2 GS.b .nil pass0) (pe_meth0 (pv 1) T.kW (T.mW 70) GS.ok.ok r2 GS.b .nil pass0) (nomark _))))) (pss_one (ps_ret pe_bl)) pss_nil)
      (pss_cons (ps_expr (pe_meth (pv 0) T.kW (T.mW 57) GU.ok r1 GU.b GU.v pass0 (pa_cons (pe_op op_add (pe_meth0 (pv 0) T.kW (T.mW 65) G2.ok r1 G2.b G2.v pass0) pe_int) pa_nil)))
      (pss_one (ps_ret (pe_and (pe_cmpR (op_eqD hr.units) (pe_meth0 (pv 4) T.kW (T.mW 70) GS.ok.ok r2 GS.b .nil pass0) (pe_meth0 (pv 1) T.kW (T.mW 70) GS.ok.ok r2 GS.b .nil pass0) (nomark _))
        (pe_and (pe_callB call_isi (by rfl) T.f (by decide +kernel) (pa_cons (pv 3) (pa_cons (pe_bltn (v := .ty "tuple") (by rfl) T.f (by decide +kernel) rfl) pa_nil)))
          (pe_one (pe_call GP.ok r1 (by rfl) T.g GP.kp GP.b GP.v pass0 (pa_cons (pv 3) pa_nil))))))))))), ?_⟩
    obtain ⟨dx0, rs0, rh0, xi0⟩ := id xa
    refine ⟨_, rfl, w0, dx0, _, rfl, xi0.at_, wn_stored, w0, s, rfl, xa, fun H1 kp s1 st1 => ?_⟩
    refine ⟨_, rfl, kp, s, rfl, st1, g, fun H2 md s2 nmd wmd => ?_⟩
    have s12 := s1.trans s2
    have xa2 := xa.same s12
    have xb2 := xb.same s12
    have st2 := st1.same s2
    have nam : w0 ≠ md := ne_of_none (s1 _ _ xi0.at_) nmd
    have nbm : w1 ≠ md := by
      obtain ⟨_, _, _, z⟩ := xb
      exact ne_of_none (s1 _ _ z.at_) nmd
    obtain ⟨run, hrun⟩ := run_ex (gdB g hlen).bdH
    have gB := gdB g hlen
    have gC := gdC g hlen hrun
    have gD := gdD g hlen hrun
    refine ⟨_, rfl, _, rfl, (by show 2 ≤ sizeLine; decide), fun ll hll => ?_⟩
    have s3 := Same.new (o := HO.lst [.ref w1, .ref md]) hll
    have xa3 := xa2.same s3
    have xb3 := xb2.same s3
    have xm3 := wmd.same s3
    have st3 := st2.same s3
    have hot3 : Hot K (upd H2 ll (.lst [.ref w1, .ref md])) [w1, md] := fun a ha => by
      rcases List.mem_cons.mp ha with e | ha
      · exact xb3.hot a (by simp [e])
      · exact xm3.hot a ha
    refine ⟨ll, rfl, ⟨_, SqL.of upd_same⟩, for_list (K := K) (a := ll) (xs := [.ref w1, .ref md]) (fun i σ' H4 => ∃ v5, σ' = [some (.ref w0), some (.ref w1), some (.str (moodS s.fin)), some (.ref kp), some (.ref md), v5] ∧
      Kp [w1, md] (upd H2 ll (.lst [.ref w1, .ref md])) H4 ∧ Pw K H4 w1 md s (apD s run) i) ⟨none, rfl, Kp.refl, Pw.start xb3 xm3⟩ ?_ ?_ ?_⟩
    · rintro i σ' H4 _ ⟨_, _, kk, _⟩
      exact SqL.of (kk.lst hot3 upd_same)
    · rintro i x σ' H4 hx ⟨v5, rfl, kk, pw⟩
      obtain ⟨p, rfl, hpm, hp, next⟩ := pw.step T nbm hx
      have hmem : p ∈ [w1, md] := by rcases hpm with e | e <;> simp [e]
      refine ⟨fun σ' H5 => σ' = [some (.ref w0), some (.ref w1), some (.str (moodS s.fin)), some (.ref kp), some (.ref md), some (.ref p)] ∧ Kp [p] H4 H5 ∧ WAt K H5 p (apA s), ?_, ?_⟩
      case refine_2 =>
        refine ⟨_, rfl, rfl, _, rfl, ?_⟩
        rw [mood_open]
        obtain ⟨dx, rs, rh, xi⟩ := id hp
        cases hf : s.fin with
        | true =>
          refine iteF ⟨rfl, Kp.refl, ?_⟩
          have e : apA s = s := if_pos hf
          rw [e]
          exact hp
        | false =>
          refine iteT ⟨_, rfl, p, dx, _, rfl, xi.at_, wn_write, p, moreS, s, rfl, hp, by rw [more_len]; omega, fun _ H5 k5 w5 => ⟨rfl, k5, ?_⟩, fun h => by rw [hf] at h; cases h⟩
          have e : apA s = writeF s moreS := if_neg (by rw [hf]; decide)
          rw [e]
          exact w5
      rintro σ' H5 ⟨rfl, k5, x5⟩
      obtain ⟨dx, rs, rh, xi⟩ := id x5
      refine ⟨_, rfl, p, dx, _, rfl, xi.at_, wn_raise_to, _, rfl, p, dx, _, rfl, xi.at_, wn_upto, p, dx, rs, rh, apA s, rfl, xi, _, _, rfl, rfl, p, _, apA s, rfl, x5, fun H6 k6 x6 => ?_⟩
      have x6 : WAt K H6 p (apB s) := x6
      obtain ⟨dx6, rs6, rh6, xi6⟩ := id x6
      refine ⟨_, rfl, p, dx6, _, rfl, xi6.at_, wn_cut, p, dx6, rs6, rh6, 9, none, apB s, rfl, xi6, gB, fun H7 run7 v7 rh7 k7 hrun7 _ x7 _ => ?_⟩
      obtain rfl := RunOf.uniq hrun hrun7
      have x7 : WIn K H7 p dx6 rs6 rh7 (apC s run) := x7
      refine ⟨_, rfl, p, dx6, _, rfl, x7.at_, wn_got, _, rfl, p, dx6, _, rfl, x7.at_, wn_sent, p, dx6, rs6, rh7, apC s run, rfl, x7, ?_⟩
      refine ⟨p, 0, (apC s run).edge, false, apC s run, rfl, ⟨_, _, _, x7⟩, gC, ⟨Int.le_refl _, gC.e0, by omega, fun z => by cases z⟩, fun H8 k8 x8 => ?_⟩
      have kk8 : Kp [p] H4 H8 := ((k5.trans k6).trans k7).trans k8
      exact ⟨_, rfl, kk.trans (kk8.mono fun b hb => by rw [List.mem_singleton.mp hb]; exact hmem), next H8 kk8 x8⟩
    · rintro σ' H4 ⟨v5, rfl, kk, pw⟩
      have xa4 := xa3.keep T kk hot3 (by simp [ne, nam])
      have st4 := st3.keep kk hot3
      have xb4 : WAt K H4 w1 (apD s run) := pw.1
      have xm4 : WAt K H4 md (apD s run) := pw.2
      obtain ⟨da, ra, ha, ia⟩ := id xa4
      obtain ⟨db, rb, hb, ib⟩ := id xb4
      obtain ⟨dm, rm, hm, im⟩ := id xm4
      refine ⟨_, rfl, w0, da, _, rfl, ia.at_, wn_stored, w0, s, rfl, xa4, fun H5 k5 s5 st5 => ?_⟩
      obtain ⟨d1, e1, e2, e3, e4⟩ := st_eq (K := K) g.tok st5 (st4.same s5)
      refine ⟨_, rfl, d1, d1, e1, e2, e3, e3, _, rfl, ?_⟩
      rw [e4]
      refine iteF ?_
      refine ⟨_, rfl, md, dm, _, rfl, s5 _ _ im.at_, wn_stored, md, apD s run, rfl, xm4.same s5, fun H6 k6 s6 st6 => ?_⟩
      have s56 := s5.trans s6
      refine ⟨_, rfl, w1, db, _, rfl, s56 _ _ ib.at_, wn_stored, w1, apD s run, rfl, xb4.same s56, fun H7 k7 s7 st7 => ?_⟩
      obtain ⟨d2, f1, f2, f3, f4⟩ := st_eq (K := K) gD.tok (st6.same s7) st7
      refine ⟨d2, d2, f1, f2, f3, f3, _, rfl, ?_⟩
      rw [f4]
      refine iteF ?_
      have s57 := s56.trans s7
      have xa7 := xa4.same s57
      refine ⟨_, rfl, w0, da, _, rfl, s57 _ _ ia.at_, wn_raise_to, _, rfl, w0, da, _, rfl, s57 _ _ ia.at_, wn_upto, w0, da, ra, ha, s, rfl, ia.same s57, _, _, rfl, rfl, w0, _, s, rfl, xa7, fun H8 k8 x8 => ?_⟩
      have xb8 := (xb4.same s57).keep T k8 xa7.hot (by simpa using ne.symm)
      have xm8 := (xm4.same s57).keep T k8 xa7.hot (by simpa using nam.symm)
      have st8 := (st4.same s57).keep k8 xa7.hot
      obtain ⟨db, rb, hb, ib⟩ := id xb8
      obtain ⟨dm, rm, hm, im⟩ := id xm8
      refine ⟨_, rfl, md, dm, _, rfl, im.at_, wn_stored, md, apD s run, rfl, xm8, fun H9 k9 s9 st9 => ?_⟩
      refine ⟨_, rfl, w1, db, _, rfl, s9 _ _ ib.at_, wn_stored, w1, apD s run, rfl, xb8.same s9, fun HA kA sA stA => ?_⟩
      obtain ⟨d3, g1, g2, g3, g4⟩ := st_eq (K := K) gD.tok (st9.same sA) stA
      refine ⟨d3, d3, g1, g2, g3, g3, _, rfl, ?_⟩
      rw [g4]
      have stF := st8.same (s9.trans sA)
      obtain ⟨q1, q2, z⟩ := id stF
      obtain ⟨_, _, _, _, _, hk, _⟩ := z.at_
      refine ⟨_, rfl, _, _, _, _, _, rfl, .ty "tuple", .base (.tup hk), kit_ty (by decide +kernel), true, rfl, ?_⟩
      exact ⟨_, rfl, kp, s, rfl, stF, g, fun HB sB => q HB⟩
end
end K41

/-! the law -/
namespace K41
open PySem PySem.Spec PyProof.Rows L2
section
variable {K : PySem.W.Frag} {mg : Str → Option Value} {H H' : Hp} {a pr w0 w1 wn hh ga ma el r D p : Addr} {s s' : WS} {S : Int → Prop} {rs : Rows} {us ys es xs : List V} {ns : List Int} {i : Nat} {m : List Addr} {v : V}
/-! ### beside the pair's list -/
theorem row_ne {ts : List V} (x : RowsAt H ts rs) (hw : WAt K H w0 s) : ts ≠ .ref w0 :: us := fun e => by
  subst e
  cases x with
  | cons h _ =>
    obtain ⟨t, e1, e2⟩ := h
    obtain rfl : w0 = t := by injection e1
    obtain ⟨dx, a, b, z⟩ := hw
    rw [z.at_] at e2
    cases e2
theorem RgAt.nlP (x : RgAt K H r rs) (hpr : H pr = some (.lst (.ref w0 :: us))) (hw : WAt K H w0 s) : Nl K H r pr := fun dx l e => by
  obtain ⟨dx0, l0, ts, h1, h2, h3⟩ := x
  rw [h1] at e
  rw [← ins_eq e]
  intro c
  rw [c, hpr] at h2
  injection h2 with h2
  injection h2 with h2
  exact row_ne h3 hw h2.symm
theorem RgAt.updL (x : RgAt K H r rs) (n : Nl K H r D) (hd : H D = some (.lst xs)) : RgAt K (upd H D (.lst ys)) r rs := by
  obtain ⟨dx, l, ts, h1, h2, h3⟩ := x
  refine ⟨dx, l, ts, by rw [upd_ne (ne_of h1 hd (by intro z; cases z))]; exact h1, by rw [upd_ne (n dx l h1)]; exact h2, h3.keep fun t zs e => ?_⟩
  rw [upd_ne (ne_of e hd (by intro z; cases z))]
  exact e
theorem RgS.updP (x : RgS K H r S) (hpr : H pr = some (.lst (.ref w0 :: us))) (hw : WAt K H w0 s) : RgS K (upd H pr (.lst ys)) r S := by
  obtain ⟨q, h, c⟩ := x
  exact ⟨q, h.updL (h.nlP hpr hw) hpr, c⟩
theorem WAt.updP (x : WAt K H p s') (hpr : H pr = some (.lst (.ref w0 :: us))) (hw : WAt K H w0 s) : WAt K (upd H pr (.lst ys)) p s' := by
  obtain ⟨dx, rs, rh, y⟩ := x
  refine ⟨dx, rs, rh, ?_, y.safe.updP hpr hw, y.holes.updP hpr hw⟩
  rw [upd_ne (ne_of y.at_ hpr (by intro z; cases z))]
  exact y.at_
/-! ### the elders: places told, and their rows then -/
def ElAt (K : PySem.W.Frag) (H : Hp) (v : V) : Prop := ∃ t r l rs ts, v = .ref t ∧ H t = some (.tup [.ref r, .ref l]) ∧ RgAt K H r rs ∧ H l = some (.lst ts) ∧ RowsAt H ts rs
def Els (K : PySem.W.Frag) (H : Hp) (es : List V) : Prop := ∀ v ∈ es, ElAt K H v
theorem Els.same (x : Els K H es) (k : Same H H') : Els K H' es := fun v hv => by
  obtain ⟨t, r, l, rs, ts, e, h1, h2, h3, h4⟩ := x v hv
  exact ⟨t, r, l, rs, ts, e, k _ _ h1, h2.same k, k _ _ h3, h4.same k⟩
theorem Els.keep (T : Tx K mg) (x : Els K H es) (k : Kp m H H') (h : Hot K H m) : Els K H' es := fun v hv => by
  obtain ⟨t, r, l, rs, ts, e, h1, h2, h3, h4⟩ := x v hv
  exact ⟨t, r, l, rs, ts, e, k.tup h h1, h2.keep T k h, k.lst h h3, h4.keep fun _ _ q => k.tup h q⟩
theorem Els.updP (x : Els K H es) (hpr : H pr = some (.lst (.ref w0 :: us))) (hw : WAt K H w0 s) : Els K (upd H pr (.lst ys)) es := fun v hv => by
  obtain ⟨t, r, l, rs, ts, e, h1, h2, h3, h4⟩ := x v hv
  have hl : l ≠ pr := fun c => by
    rw [c, hpr] at h3
    injection h3 with h3
    injection h3 with h3
    exact row_ne h4 hw h3.symm
  refine ⟨t, r, l, rs, ts, e, by rw [upd_ne (ne_of h1 hpr (by intro z; cases z))]; exact h1, h2.updL (h2.nlP hpr hw) hpr, by rw [upd_ne hl]; exact h3, h4.keep fun c zs q => ?_⟩
  rw [upd_ne (ne_of q hpr (by intro z; cases z))]
  exact q
def ElD (K : PySem.W.Frag) (H : Hp) (D : Addr) (v : V) : Prop := ∃ t r l rs ts, v = .ref t ∧ H t = some (.tup [.ref r, .ref l]) ∧ RgAt K H r rs ∧ Nl K H r D ∧ H l = some (.lst ts) ∧ l ≠ D ∧ RowsAt H ts rs
theorem Nl.same (x : Nl K H r D) (y : RgAt K H r rs) (k : Same H H') : Nl K H' r D := fun dx l e => by
  obtain ⟨dx0, l0, ts, h1, h2, h3⟩ := y
  rw [k _ _ h1] at e
  exact x dx0 l (by rw [h1, ins_eq e])
theorem ElD.same (x : ElD K H D v) (k : Same H H') : ElD K H' D v := by
  obtain ⟨t, r, l, rs, ts, e, h1, h2, n, h3, hl, h4⟩ := x
  exact ⟨t, r, l, rs, ts, e, k _ _ h1, h2.same k, n.same h2 k, k _ _ h3, hl, h4.same k⟩
theorem ElD.updL (x : ElD K H D v) (hd : H D = some (.lst xs)) : ElD K (upd H D (.lst ys)) D v := by
  obtain ⟨t, r, l, rs, ts, e, h1, h2, n, h3, hl, h4⟩ := x
  refine ⟨t, r, l, rs, ts, e, by rw [upd_ne (ne_of h1 hd (by intro z; cases z))]; exact h1, h2.updL n hd, n.upd, by rw [upd_ne hl]; exact h3, hl, h4.keep fun c zs q => ?_⟩
  rw [upd_ne (ne_of q hd (by intro z; cases z))]
  exact q
theorem ElD.toEl (x : ElD K H D v) : ElAt K H v := by
  obtain ⟨t, r, l, rs, ts, e, h1, h2, n, h3, hl, h4⟩ := x
  exact ⟨t, r, l, rs, ts, e, h1, h2, h3, h4⟩
/-! ### the script stands -/
theorem sq_keep {xs : List V} (x : SqL K H a xs) (k : Kp m H H') (h : Hot K H m) : SqL K H' a xs := by
  rcases x with (x | ⟨o, x⟩) | x
  · exact .inl (.inl (k.lst h x))
  · exact .inl (.inr ⟨o, k a _ (fun z => by
      rcases h a z with ⟨_, _, q⟩ | ⟨_, q⟩ <;> (rw [x] at q; cases q)) x⟩)
  · exact .inr x
theorem sq_updP (x : SqL K H a (ns.map V.int)) (hpr : H pr = some (.lst (.ref w0 :: us))) : SqL K (upd H pr (.lst ys)) a (ns.map V.int) := by
  rcases x with (x | ⟨o, x⟩) | x
  · have hn : a ≠ pr := fun c => by
      rw [c, hpr] at x
      injection x with x
      injection x with x
      cases ns with
      | nil => cases x
      | cons n ns =>
        injection x with x _
        cases x
    exact .inl (.inl (by rw [upd_ne hn]; exact x))
  · have hn : a ≠ pr := ne_of x hpr (by intro z; cases z)
    exact .inl (.inr ⟨o, by rw [upd_ne hn]; exact x⟩)
  · exact .inr x
/-! ### what stands between two turns -/
structure Big (K : PySem.W.Frag) (H : Hp) (a pr hh ga ma : Addr) (ns : List Int) (w0 w1 el : Addr) (es : List V) (s : WS) (i : Nat) : Prop where
  sq : SqL K H a (ns.map V.int)
  hp : H pr = some (.lst [.ref w0, .ref w1])
  ne : w0 ≠ w1
  ok : OneOk K H w0 w1 hh ga ma s
  tx : s.text.length ≤ 64 * i
  he : H el = some (.lst es)
  sz : es.length ≤ 2 * i
  els : Els K H es
theorem Big.same (x : Big K H a pr hh ga ma ns w0 w1 el es s i) (k : Same H H') : Big K H' a pr hh ga ma ns w0 w1 el es s i :=
  ⟨k.seq x.sq, k _ _ x.hp, x.ne, ⟨x.ok.a.same k, x.ok.b.same k, x.ok.l.same k, x.ok.g⟩, x.tx, k _ _ x.he, x.sz, x.els.same k⟩
theorem Big.hot (x : Big K H a pr hh ga ma ns w0 w1 el es s i) : Hot K H [w0, w1, hh, ga, ma] := fun b hb => by
  rcases List.mem_cons.mp hb with e | hb
  · exact x.ok.a.hot b (by simp [e])
  · rcases List.mem_cons.mp hb with e | hb
    · exact x.ok.b.hot b (by simp [e])
    · exact x.ok.l.hot b hb
theorem Big.deed (T : Tx K mg) (x : Big K H a pr hh ga ma ns w0 w1 el es s i) (k : Kp [w0, w1, hh, ga, ma] H H') (o : OneOk K H' w0 w1 hh ga ma s') (h : s'.text.length ≤ s.text.length + 64) : Big K H' a pr hh ga ma ns w0 w1 el es s' (i + 1) :=
  ⟨sq_keep x.sq k x.hot, k.lst x.hot x.hp, x.ne, o, by have := x.tx; omega, k.lst x.hot x.he, by have := x.sz; omega, x.els.keep T k x.hot⟩
theorem Big.pair (x : Big K H a pr hh ga ma ns w0 w1 el es s i) (hn : WAt K H wn s) (ne : w0 ≠ wn) : Big K (upd H pr (.lst [.ref w0, .ref wn])) a pr hh ga ma ns w0 wn el es s i := by
  refine ⟨sq_updP x.sq x.hp, upd_same, ne, ⟨x.ok.a.updP x.hp x.ok.a, hn.updP x.hp x.ok.a, x.ok.l.updL x.hp, x.ok.g⟩, x.tx, ?_, x.sz, x.els.updP x.hp x.ok.a⟩
  have hne : el ≠ pr := fun c => by
    have h := x.he
    rw [c, x.hp] at h
    injection h with h
    injection h with h
    have hm : V.ref w0 ∈ es := by rw [← h]; exact List.mem_cons_self ..
    obtain ⟨t, _, _, _, _, e, ht, _⟩ := x.els _ hm
    obtain rfl : w0 = t := by injection e
    obtain ⟨_, _, _, z⟩ := x.ok.a
    rw [z.at_] at ht
    cases ht
  rw [upd_ne hne]
  exact x.he
end
theorem new_here {lane limit : Int} {g m : Addr} : mergeK [] [((.inr "text" : Key), V.str ("" : Str)), (.inr "upto", .int limit), (.inr "sent", .int 0), (.inr "got", .ref g), (.inr "missed", .ref m), (.inr "mood", .str ("open" : Str)), (.inr "end", .str ("unsent" : Str)), (.inr "lane", .int lane)] = hkv (WS.new lane limit) g m := by kernel_rfl
theorem gd_new (lane limit : Int) : Gd (WS.new lane limit) := ⟨Int.le_refl _, Int.le_refl _, fun n h => h.elim, fun n h => h.elim, tk_empty, Nat.zero_le _⟩
section
variable {P : Program} {w : World} {K : PySem.W.Frag} {mg : Str → Option Value} {base : Heap}
def nLaw : List Str := ["_law_script", "_law_cell_here", "_law_upto", "_law_lane", "_law_here", "_law_pair", "_law_elders", "_law_k", "_law_deed", "_law_kept", "_law_most", "_law_bound", "_law_told_here", "_law_one_here", "_law_rows_here", "_law_writer"]
theorem scLaw : FnScope nLaw ["_law_script"] (defScope sLaw) := ⟨rfl, rfl, rfl, by decide +kernel, rfl, by decide +kernel, by decide +kernel⟩
def spLaw (K : PySem.W.Frag) : Sp := fun vs H Q _ => ∃ (a : Addr) (ns : List Int), vs = [.ref a] ∧ SqL K H a (ns.map V.int) ∧ ∀ H', Q (.bl true) H'
theorem ok_law (T : Tx K mg) {fd : FuncData} (F : FunD K "law" "law" (defArgs sLaw) (defBody sLaw) (defScope sLaw) [] [] (He.ga K "law") fd) : FnOk P w K mg base CX0 10 (He.ga K "law") fd ["_law_script"] (spLaw K) := by
  obtain ⟨_, GC⟩ := do_cell (P := P) (w := w) (base := base) T
  obtain ⟨_, GM⟩ := do_mix (P := P) (w := w) (base := base) T
  obtain ⟨_, GI⟩ := do_wInit (P := P) (w := w) (base := base) T
  obtain ⟨_, GO⟩ := do_writerOf (P := P) (w := w) (base := base) T
  obtain ⟨_, GS⟩ := do_wStored (P := P) (w := w) (base := base) T
  obtain ⟨_, G1⟩ := do_one (P := P) (w := w) (base := base) T
  obtain ⟨_, GT⟩ := do_stands (P := P) (w := w) (base := base) T
  obtain ⟨_, GB⟩ := do_bounds (P := P) (w := w) (base := base) T
  obtain ⟨_, GW⟩ := do_lWould (P := P) (w := w) (base := base) T
  obtain ⟨_, G5⟩ := do_wGotP (P := P) (w := w) (base := base) T
  obtain ⟨_, G6⟩ := do_wMissedP (P := P) (w := w) (base := base) T
  obtain ⟨_, GR⟩ := do_rRows (P := P) (w := w) (base := base) T
  obtain ⟨_, GA⟩ := do_apart (P := P) (w := w) (base := base) T
  refine ok0 F scLaw (fun vs H Q E h => ?_) (fun cdv A outer s0 H vs Q E hr h => ?_)
  · obtain ⟨a, ns, rfl, _⟩ := h
    rfl
  · obtain ⟨a, ns, rfl, hsq, q⟩ := h
    have hu := hu_of hr
    have nd := scLaw.nd
    have r1 : Room 1 _ := hr.mono (by decide)
    have r2 : Room 2 _ := hr.mono (by decide)
    refine ⟨_, pss_cons (ps_set (i := 1) nd rfl (.inl rfl) (pe_call GC.ok r1 (by rfl) T.g GC.kp GC.b GC.v pass0 (pa_cons (pv 0) (pa_cons pe_int pa_nil))))
      (pss_cons (ps_set (i := 2) nd rfl (.inl rfl) (pe_op op_mod (pe_call GM.ok r1 (by rfl) T.g GM.kp GM.b GM.v pass0 (pa_cons (pv 1) (pa_cons pe_int pa_nil))) pe_int))
      (pss_cons (ps_set (i := 3) nd rfl (.inl rfl) (pe_op op_mod (pe_call GM.ok r1 (by rfl) T.g GM.kp GM.b GM.v pass0 (pa_cons (pv 1) (pa_cons pe_int pa_nil))) pe_int))
      (pss_cons (ps_set (i := 4) nd rfl (.inr rfl) (pe_disp (pps_cons pe_str pe_str (pps_cons pe_str (pv 2) (pps_cons pe_str pe_int (pps_cons pe_str pe_dnewK (pps_cons pe_str pe_dnewK (pps_cons pe_str pe_str (pps_cons pe_str pe_str (pps_cons pe_str (pv 3) pps_nil)))))))) (by rfl) (by rfl) (fun z => by cases z) (by decide)))
      (pss_cons (ps_par (i := 5) (j := 6) (by rfl) nd rfl rfl (by decide) rfl rfl (pa_cons (pe_lst (pa_cons (pe_make T.mkW GI.ok (hr.mono (by decide)) (by rfl) T.g GI.b GI.v pass0 (pa_cons (pv 3) (pa_cons (pv 2) pa_nil)))
          (pa_cons (pe_make T.mkW GI.ok (hr.mono (by decide)) (by rfl) T.g GI.b GI.v pass0 (pa_cons (pv 3) (pa_cons (pv 2) pa_nil))) pa_nil))) (pa_cons (pe_lst pa_nil) pa_nil)) (by rfl))
      (pss_cons (ps_for PassesOwn.never rfl (pi_range1 (by rfl) T.f (pa_cons (pe_op op_add pe_int (pe_op op_mod (pe_call GM.ok r1 (by rfl) T.g GM.kp GM.b GM.v pass0 (pa_cons (pv 1) (pa_cons pe_int pa_nil))) pe_int)) pa_nil)) (pg_name (i := 7) nd rfl (.inl rfl))
        (pss_cons (ps_set (i := 8) nd rfl (.inl rfl) (pe_call GC.ok r1 (by rfl) T.g GC.kp GC.b GC.v pass0 (pa_cons (pv 0) (pa_cons (pe_op op_add pe_int (pv 7)) pa_nil))))
        (pss_cons (ps_cut (ps_if (pt_cmpR op_eq (pe_op op_mod (pe_call GM.ok r1 (by rfl) T.g GM.kp GM.b GM.v pass0 (pa_cons (pv 8) (pa_cons pe_int pa_nil))) pe_int) pe_int (nomark _))
          (pss_one (ps_asg (pe_call GO.ok (hr.mono (by decide)) (by rfl) T.g GO.kp GO.b GO.v pass0 (pa_cons (pe_meth0 (pe_ix ix_list (pv 5) (pe_op op_mod (pe_op op_fdiv (pe_call GM.ok r1 (by rfl) T.g GM.kp GM.b GM.v pass0 (pa_cons (pv 8) (pa_cons pe_int pa_nil))) pe_int) pe_int) (fun _ _ => rfl))
            T.kW (T.mW 70) GS.ok.ok r2 GS.b .nil pass0) pa_nil)) (pg_sub (pv 5) pe_int set_list))) pss_nil))
        (pss_cons (ps_if (pt_not (pt_val (pe_call G1.ok hr (by rfl) T.g G1.kp G1.b G1.v pass0 (pa_cons (pv 5) (pa_cons (pv 4) (pa_cons (pv 8) pa_nil)))))) (pss_one (ps_ret pe_bl)) pss_nil)
        (pss_cons (ps_set (i := 9) nd rfl (.inl rfl) (pe_meth0 (pe_ix ix_list (pv 5) pe_int (fun _ _ => rfl)) T.kW (T.mW 70) GS.ok.ok r2 GS.b .nil pass0))
        (pss_cons (ps_if (PW.pt (pw_or (pt_not (pt_val (pe_call GT.ok (hr.mono (by decide)) (by rfl) T.g GT.kp GT.b GT.v pass0 (pa_cons (pe_ix ix_list (pv 5) pe_int (fun _ _ => rfl)) (pa_cons (pv 4) pa_nil)))))
            (pw_or1 (pt_not (pt_val (pe_call GT.ok (hr.mono (by decide)) (by rfl) T.g GT.kp GT.b GT.v pass0 (pa_cons (pe_ix ix_list (pv 5) pe_int (fun _ _ => rfl)) (pa_cons (pv 4) pa_nil)))))))) (pss_one (ps_ret pe_bl)) pss_nil)
        (pss_cons (ps_if (PW.pt (pw_or (pt_cmpR (op_neD hr.units) (pe_meth0 (pe_ix ix_list (pv 5) pe_int (fun _ _ => rfl)) T.kW (T.mW 70) GS.ok.ok r2 GS.b .nil pass0) (pv 9) (nomark _))
            (pw_or1 (pt_cmpR (op_neD hr.units) (pe_meth0 (pe_ix ix_list (pv 5) pe_int (fun _ _ => rfl)) T.kW (T.mW 70) GS.ok.ok r2 GS.b .nil pass0) (pv 9) (nomark _))))) (pss_one (ps_ret pe_bl)) pss_nil)
        (pss_cons (ps_asg (pe_call GB.ok r2 (by rfl) T.g GB.kp GB.b GB.v pass0 (pa_cons (pe_call GC.ok r1 (by rfl) T.g GC.kp GC.b GC.v pass0 (pa_cons (pv 0) (pa_cons (pe_op op_add (pe_op op_add pe_int (pv 7)) (pe_op op_mod (pe_op op_fdiv (pe_call GM.ok r1 (by rfl) T.g GM.kp GM.b GM.v pass0 (pa_cons (pv 8) (pa_cons pe_int pa_nil))) pe_int) pe_int)) pa_nil))) pa_nil))
          (pg_tup rfl (pgs_cons (pg_name (i := 10) nd rfl (.inr rfl)) (pgs_cons (pg_name (i := 11) nd rfl (.inr rfl)) pgs_nil))))
        (pss_cons (ps_cut (ps_if (PW.pt (pw_and (pt_cmpR op_eq (pe_op op_mod (pe_call GM.ok r1 (by rfl) T.g GM.kp GM.b GM.v pass0 (pa_cons (pv 8) (pa_cons pe_int pa_nil))) pe_int) pe_int (nomark _))
            (pw_and1 (pt_not (pt_val (pe_callB (cr_all rfl) (by rfl) T.f (by decide +kernel) (pa_cons (pe_lc (own := [("_law_writer", 15)]) (g := gName 15) (tt := tYes) rfl nd (pi_list (pv 5))
              (blkOk_by (own := [("_law_writer", 15)]) (N := nLaw) (sc := defScope sLaw) (by decide +kernel)) (fun _ _ _ _ _ => pg_name (i := 15) nd rfl (.inl rfl)) (fun _ _ _ _ _ => pts_nil)
              (fun _ _ _ _ _ => pe_call GW.ok (hr.mono (by decide)) (by rfl) T.g GW.kp GW.b GW.v pass0 (pa_cons (pv 15) (pa_cons (pv 4) (pa_cons (pv 10) (pa_cons (pv 11) pa_nil)))))) pa_nil))))))) (pss_one (ps_ret pe_bl)) pss_nil))
        (pss_one (ps_if (pt_cmpR op_eq (pe_op op_mod (pv 7) pe_int) pe_int (nomark _))
          (pss_cons (ps_set (i := 12) nd rfl (.inl rfl) (pe_lst (pa_cons (pe_meth0 (pe_ix ix_list (pv 5) (pe_op op_mod (pe_op op_fdiv (pv 7) pe_int) pe_int) (fun _ _ => rfl)) T.kW (T.mW 67) G5.ok r1 G5.b G5.v pass0)
            (pa_cons (pe_meth0 (pe_ix ix_list (pv 5) (pe_op op_mod (pe_op op_fdiv (pv 7) pe_int) pe_int) (fun _ _ => rfl)) T.kW (T.mW 68) G6.ok r1 G6.b G6.v pass0) pa_nil))))
          (pss_one (ps_set (i := 6) nd rfl (.inl rfl) (pe_op op_cat (pv 6) (pe_lc (own := [("_law_one_here", 13)]) (g := gName 13) (tt := tYes) rfl nd (pi_list (pv 12))
              (blkOk_by (own := [("_law_one_here", 13)]) (N := nLaw) (sc := defScope sLaw) (by decide +kernel)) (fun _ _ _ _ _ => pg_name (i := 13) nd rfl (.inl rfl)) (fun _ _ _ _ _ => pts_nil)
              (fun _ _ _ _ _ => pe_tup (pa_cons (pv 13) (pa_cons (pe_meth0 (pv 13) T.kR (T.mR 50) GR.ok.ok r1 GR.b .nil pass0) pa_nil))))))))
          pss_nil)))))))))))
      (pss_cons (ps_if (pt_not (pt_val (pe_callB (cr_all rfl) (by rfl) T.f (by decide +kernel) (pa_cons (pe_lc (own := [("_law_one_here", 13), ("_law_rows_here", 14)]) (g := gTup K 2 (gCons (gName 13) (gCons (gName 14) gNil))) (tt := tYes) (te := tOp (rEqD K) (tMeth (cR K) "rows" (spRRows K) [] E0 (tVar 13) tNil) (tVar 14)) rfl nd (pi_list (pv 6))
              (blkOk_by (own := [("_law_one_here", 13), ("_law_rows_here", 14)]) (N := nLaw) (sc := defScope sLaw) (by decide +kernel))
              (fun _ _ _ _ _ => pg_tup rfl (pgs_cons (pg_name (i := 13) nd rfl (.inl rfl)) (pgs_cons (pg_name (i := 14) nd rfl (.inl rfl)) pgs_nil))) (fun _ _ _ _ _ => pts_nil)
              (fun _ _ _ _ _ => by exact (pe_cmpR (by exact (op_eqD hr.units)) (pe_meth0 (pv 13) T.kR (T.mR 50) GR.ok.ok r1 GR.b .nil pass0) (pv 14) (nomark _)))) pa_nil)))) (pss_one (ps_ret pe_bl)) pss_nil)
      (pss_one (ps_ret (pe_call GA.ok hr (by rfl) T.g GA.kp GA.b GA.v pass0 (pa_cons (pe_ix ix_list (pv 5) pe_int (fun _ _ => rfl)) (pa_cons (pe_ix ix_list (pv 5) pe_int (fun _ _ => rfl)) (pa_cons (pe_dget hu (pv 4) pe_str (fun _ _ => rfl)) pa_nil)))))))))))), ?_⟩
    refine ⟨_, rfl, a, ns, 0, rfl, hsq, by omega, by omega, fun c => ?_⟩
    refine ⟨_, rfl, c, _, rfl, by omega, by omega, fun m1 _ _ => ⟨_, _, rfl, rfl, (by show (0 : Int) < 31; decide), ?_⟩⟩
    refine ⟨_, rfl, c, _, rfl, by omega, by omega, fun m2 _ _ => ⟨_, _, rfl, rfl, (by show (0 : Int) < 40; decide), ?_⟩⟩
    refine fun hh nhh => ⟨_, rfl, fun ga nga ma nma => ?_⟩
    have hA : upd H hh (.dK []) hh = some (.dK []) := upd_same
    have nhg : hh ≠ ga := ne_of_none hA nga
    have hB := Same.new (o := HO.dK []) nga _ _ hA
    have nhm : hh ≠ ma := ne_of_none hB nma
    have hC := Same.new (o := HO.dK []) nma _ _ hB
    have ngm : ga ≠ ma := ne_of_none upd_same nma
    refine ⟨_, rfl, hC, [((.inr "text" : Key), V.str ("" : Str)), (.inr "upto", .int (m1 % 31)), (.inr "sent", .int 0), (.inr "got", .ref ga), (.inr "missed", .ref ma), (.inr "mood", .str ("open" : Str)), (.inr "end", .str ("unsent" : Str)), (.inr "lane", .int (m2 % 40))], rfl, (by show 8 ≤ 15; decide), ?_⟩
    rw [new_here]
    obtain ⟨H0, eH0⟩ : ∃ H0, upd (upd (upd (upd H hh (.dK [])) ga (.dK [])) ma (.dK [])) hh (.dK (hkv (WS.new (m2 % 40) (m1 % 31)) ga ma)) = H0 := ⟨_, rfl⟩
    have l0 : LIn H0 hh ga ma (WS.new (m2 % 40) (m1 % 31)) := by
      rw [← eH0]
      refine ⟨upd_same, nhg, nhm, ngm, ⟨[], ?_, .nil, fun n => iff_of_false (by simp) id⟩, ⟨[], ?_, .nil, fun n => iff_of_false (by simp) id⟩⟩
      · rw [upd_ne nhg.symm, upd_ne ngm]
        exact upd_same
      · rw [upd_ne nhm.symm]
        exact upd_same
    have sH : Same H H0 := fun b o hb => by
      rw [← eH0, upd_ne (ne_of_none hb nhh)]
      exact (((Same.new nhh).trans (Same.new nga)).trans (Same.new nma)) _ _ hb
    refine ⟨_, rfl, _, rfl, fun w0 d0 nw0 nd0 ne0 => mk_wI nw0 nd0 ne0 fun H1 s1 wa => ⟨rfl, ?_⟩⟩
    refine ⟨_, rfl, _, rfl, fun w1 d1 nw1 nd1 ne1 => mk_wI nw1 nd1 ne1 fun H2 s2 wb => ⟨rfl, ?_⟩⟩
    rw [eH0] at s1
    have ne01 : w0 ≠ w1 := by
      obtain ⟨_, _, _, z⟩ := wa
      exact ne_of_none z.at_ nw1
    refine ⟨(by show 2 ≤ sizeLine; decide), fun pr npr => ⟨Nat.zero_le _, fun el nel => ⟨_, _, rfl, ?_⟩⟩⟩
    have s3 := Same.new (o := HO.lst [.ref w0, .ref w1]) npr
    have s4 := Same.new (o := HO.lst []) nel
    have big0 : Big K (upd (upd H2 pr (.lst [.ref w0, .ref w1])) el (.lst [])) a pr hh ga ma ns w0 w1 el [] (WS.new (m2 % 40) (m1 % 31)) 0 :=
      ⟨(sH.trans (s1.trans (s2.trans (s3.trans s4)))).seq hsq, s4 _ _ upd_same, ne01, ⟨(wa.same s2).same (s3.trans s4), wb.same (s3.trans s4), l0.same (s1.trans (s2.trans (s3.trans s4))), gd_new _ _⟩, Nat.zero_le _, upd_same, Nat.zero_le _, fun v hv => by simp at hv⟩
    refine ⟨_, rfl, c, _, rfl, by omega, by omega, fun m3 h3 h3' => ⟨_, _, rfl, rfl, (by show (0 : Int) < 29; decide), _, _, rfl, rfl, 12 + m3 % 29, rfl, ?_, ?_, ?_⟩⟩
    · have := modlt (a := m3) (b := 29) (by decide)
      omega
    · have := modlt (a := m3) (b := 29) (by decide)
      omega
    have hn : (12 + m3 % 29).toNat ≤ 40 := by
      have := modlt (a := m3) (b := 29) (by decide)
      omega
    refine for_range (lo := 0) (n := (12 + m3 % 29).toNat) (fun i σ' H' => ∃ w0 w1 el es s v7 v8 v9 v10 v11 v12, σ' = [some (.ref a), some (.int c), some (.int (m1 % 31)), some (.int (m2 % 40)), some (.ref hh), some (.ref pr), some (.ref el), v7, v8, v9, v10, v11, v12, none, none, none] ∧
      Big K H' a pr hh ga ma ns w0 w1 el es s i) ⟨w0, w1, el, [], _, none, none, none, none, none, none, rfl, big0⟩ ?_ ?_
    · rintro i σ' H' hi ⟨w0, w1, el, es, s, v7, v8, v9, v10, v11, v12, rfl, B⟩
      have hi40 : i < 40 := Nat.lt_of_lt_of_le hi hn
      refine ⟨_, rfl, _, rfl, _, _, rfl, rfl, a, ns, _, rfl, B.sq, by omega, by omega, fun dd => ?_⟩
      -- ahead of a drawn deed: a second Writer of what is stored
      refine ⟨fun σ' H2 => ∃ wn, σ' = [some (.ref a), some (.int c), some (.int (m1 % 31)), some (.int (m2 % 40)), some (.ref hh), some (.ref pr), some (.ref el), some (.int (0 + (i : Int))), some (.int dd), v9, v10, v11, v12, none, none, none] ∧ Big K H2 a pr hh ga ma ns w0 wn el es s i, ?_, ?_⟩
      case refine_2 =>
        refine ⟨_, rfl, dd, _, rfl, by omega, by omega, fun m4 _ _ => ⟨_, _, rfl, rfl, (by show (0 : Int) < 6; decide), rfl, _, rfl, ?_⟩⟩
        refine ite2 (fun _ => ?_) (fun _ => ⟨w1, rfl, B⟩)
        refine ⟨_, rfl, _, rfl, dd, _, rfl, by omega, by omega, fun m5 _ _ => ?_⟩
        obtain ⟨wx, hwx, hat⟩ : ∃ wx, WAt K H' wx s ∧ atI [V.ref w0, V.ref w1] (m5 / 6 % 2) = some (.ref wx) := by
          have hm : m5 / 6 % 2 = 0 ∨ m5 / 6 % 2 = 1 := by omega
          rcases hm with e | e
          · rw [e]
            exact ⟨w0, B.ok.a, atI_nat (j := 0) rfl⟩
          · rw [e]
            exact ⟨w1, B.ok.b, atI_nat (j := 1) rfl⟩
        obtain ⟨dx, rs, rh, xi⟩ := id hwx
        refine ⟨_, _, rfl, rfl, ⟨by decide, by decide⟩, _, _, rfl, rfl, (by show (0 : Int) < 2; decide), pr, _, _, _, rfl, rfl, SqL.of B.hp, hat, wx, dx, _, rfl, xi.at_, wn_stored, wx, s, rfl, hwx, fun H2 q2 s2 st2 => ?_⟩
        refine ⟨q2, s, rfl, st2, B.ok.g, fun H3 wn s3 nwn wnw => ?_⟩
        have B3 := (B.same s2).same s3
        refine ⟨_, rfl, pr, _, _, 1, rfl, rfl, B3.hp, rfl, wn, rfl, B3.pair wnw ?_⟩
        obtain ⟨_, _, _, z⟩ := (B.same s2).ok.a
        exact ne_of_none z.at_ nwn
      rintro σ' H2 ⟨w1, rfl, B2⟩
      have htx := B2.tx
      refine ⟨_, rfl, _, rfl, _, rfl, pr, w0, w1, hh, ga, ma, dd, s, rfl, B2.hp, B2.ne, B2.ok, by omega, fun H3 s' k3 o3 l3 => ⟨true, rfl, iteF ?_⟩⟩
      have hes := B2.sz
      have B3 := B2.deed T k3 o3 l3
      -- kept
      obtain ⟨dx, rs, rh, xi⟩ := id B3.ok.a
      refine ⟨_, rfl, pr, _, _, _, rfl, rfl, SqL.of B3.hp, atI_nat (j := 0) rfl, w0, dx, _, rfl, xi.at_, wn_stored, w0, s', rfl, B3.ok.a, fun H4 kp s4 st4 => ?_⟩
      have B4 := B3.same s4
      -- both stand
      refine ⟨_, rfl, pr, _, _, _, rfl, rfl, SqL.of B4.hp, atI_nat (j := 0) rfl, _, rfl, w0, hh, ga, ma, s', rfl, B4.ok.a, B4.ok.l, B4.ok.g, fun H5 s5 => ⟨true, rfl, iteF ?_⟩⟩
      have B5 := B4.same s5
      refine ⟨_, rfl, pr, _, _, _, rfl, rfl, SqL.of B5.hp, atI_nat (j := 1) rfl, _, rfl, w1, hh, ga, ma, s', rfl, B5.ok.b, B5.ok.l, B5.ok.g, fun H6 s6 => ⟨true, rfl, iteF ?_⟩⟩
      have B6 := B5.same s6
      -- both store the same
      obtain ⟨d6, r6, h6, i6⟩ := id B6.ok.a
      refine ⟨_, rfl, pr, _, _, _, rfl, rfl, SqL.of B6.hp, atI_nat (j := 0) rfl, w0, d6, _, rfl, i6.at_, wn_stored, w0, s', rfl, B6.ok.a, fun H7 k7 s7 st7 => ?_⟩
      obtain ⟨e, e1, e2, e3, e4⟩ := st_eq (K := K) B6.ok.g.tok st7 (st4.same (s5.trans (s6.trans s7)))
      refine ⟨_, rfl, e, e, e1, e2, e3, e3, _, rfl, ?_⟩
      rw [e4]
      refine iteF ?_
      have B7 := B6.same s7
      obtain ⟨d7, r7, h7, i7⟩ := id B7.ok.b
      refine ⟨_, rfl, pr, _, _, _, rfl, rfl, SqL.of B7.hp, atI_nat (j := 1) rfl, w1, d7, _, rfl, i7.at_, wn_stored, w1, s', rfl, B7.ok.b, fun H8 k8 s8 st8 => ?_⟩
      obtain ⟨f, f1, f2, f3, f4⟩ := st_eq (K := K) B6.ok.g.tok st8 (st4.same (s5.trans (s6.trans (s7.trans s8))))
      refine ⟨_, rfl, f, f, f1, f2, f3, f3, _, rfl, ?_⟩
      rw [f4]
      refine iteF ?_
      have B8 := B7.same s8
      -- bounds
      refine ⟨_, rfl, _, rfl, _, _, rfl, rfl, _, rfl, dd, _, rfl, by omega, by omega, fun m6 _ _ => ⟨_, _, rfl, rfl, ⟨by decide, by decide⟩, _, _, rfl, rfl, (by show (0 : Int) < 2; decide), _, _, rfl, rfl, a, ns, _, rfl, B8.sq, ?_, ?_, fun cc => ?_⟩⟩
      · have := modlt (a := m6 / 2) (b := 2) (by decide)
        omega
      · have := modlt (a := m6 / 2) (b := 2) (by decide)
        omega
      refine ⟨cc, rfl, fun H9 t9 most b s9 ht9 => ⟨t9, _, rfl, SqT.of ht9, rfl, _, _, rfl, _, _, rfl, rfl, ?_⟩⟩
      have B9 := B8.same s9
      -- would
      refine ⟨fun σ' HA => σ' = [some (.ref a), some (.int c), some (.int (m1 % 31)), some (.int (m2 % 40)), some (.ref hh), some (.ref pr), some (.ref el), some (.int (0 + (i : Int))), some (.int dd), some (.ref kp), some (.int most), some (bv b), v12, none, none, none] ∧ Same H9 HA, ?_, ?_⟩
      case refine_2 =>
        refine ⟨_, rfl, dd, _, rfl, by omega, by omega, fun m7 _ _ => ⟨_, _, rfl, rfl, (by show (0 : Int) < 2; decide), rfl, _, rfl, ?_⟩⟩
        refine ite2 (fun _ => ?_) (fun _ => ⟨rfl, Same.refl _⟩)
        refine ⟨_, rfl, pr, rfl, ⟨_, SqL.of B9.hp⟩, fun D hD => ?_⟩
        refine lc_list (K := K) (a := pr) (xs := [.ref w0, .ref w1]) (fun j HB => Same H9 HB ∧ HB D = some (.lst ((List.replicate j true).map V.bl))) ⟨Same.new hD, upd_same⟩ ?_ ?_ ?_
        · rintro j HB _ ⟨sB, _⟩
          exact SqL.of (sB _ _ B9.hp)
        · rintro j x HB hx ⟨sB, hd⟩
          obtain ⟨p, rfl, hp⟩ : ∃ p, x = V.ref p ∧ WAt K HB p s' := by
            match j, hx with
            | 0, hx => exact ⟨w0, (Option.some.inj hx).symm, B9.ok.a.same sB⟩
            | 1, hx => exact ⟨w1, (Option.some.inj hx).symm, B9.ok.b.same sB⟩
            | j + 2, hx => simp at hx
          have hj : j < 2 := (List.getElem?_eq_some_iff.mp hx).1
          refine ⟨rfl, _, rfl, _, rfl, _, rfl, _, rfl, p, hh, ga, ma, most, b, s', rfl, hp, B9.ok.l.same sB, B9.ok.g, fun HC sC => ?_⟩
          refine ⟨_, sC _ _ hd, by rw [List.length_map, List.length_replicate]; exact line_lt (by omega), fun z o hz => ?_, ?_⟩
          · rw [upd_ne (ne_of_none hz hD)]
            exact sC _ _ (sB _ _ hz)
          · rw [upd_same, List.replicate_succ', List.map_append]
            rfl
        · rintro HB ⟨sB, hd⟩
          exact ⟨D, [true, true], rfl, SqL.of hd, true, rfl, iteF ⟨rfl, sB⟩⟩
      rintro σ' HA ⟨rfl, sA⟩
      have BA := B9.same sA
      -- the elders
      refine ⟨_, rfl, _, _, rfl, rfl, (by show (0 : Int) < 8; decide), rfl, _, rfl, ?_⟩
      refine ite2 (fun _ => ?_) (fun _ => ⟨w0, w1, el, es, s', _, _, _, _, _, _, rfl, BA⟩)
      obtain ⟨wx, hwx, hat⟩ : ∃ wx, WAt K HA wx s' ∧ atI [V.ref w0, V.ref w1] ((0 + (i : Int)) / 8 % 2) = some (.ref wx) := by
        have hm : (0 + (i : Int)) / 8 % 2 = 0 ∨ (0 + (i : Int)) / 8 % 2 = 1 := by omega
        rcases hm with e | e
        · rw [e]
          exact ⟨w0, BA.ok.a, atI_nat (j := 0) rfl⟩
        · rw [e]
          exact ⟨w1, BA.ok.b, atI_nat (j := 1) rfl⟩
      obtain ⟨dx, rs, rh, xi⟩ := id hwx
      refine ⟨_, rfl, _, rfl, _, _, rfl, rfl, ⟨by decide, by decide⟩, _, _, rfl, rfl, (by show (0 : Int) < 2; decide), pr, _, _, _, rfl, rfl, SqL.of BA.hp, hat, wx, dx, _, rfl, xi.at_, wn_got_places, wx, dx, rs, rh, s', rfl, xi, ?_⟩
      refine ⟨_, rfl, _, rfl, _, _, rfl, rfl, ⟨by decide, by decide⟩, _, _, rfl, rfl, (by show (0 : Int) < 2; decide), pr, _, _, _, rfl, rfl, SqL.of BA.hp, hat, wx, dx, _, rfl, xi.at_, wn_missed_places, wx, dx, rs, rh, s', rfl, xi, ?_⟩
      refine ⟨(by show 2 ≤ sizeLine; decide), fun tl htl => ?_⟩
      have sT := Same.new (o := HO.lst [.ref rs, .ref rh]) htl
      have BT := BA.same sT
      obtain ⟨q1, g1, _⟩ := (xi.same sT).safe
      obtain ⟨q2, g2, _⟩ := (xi.same sT).holes
      refine ⟨_, rfl, _, rfl, tl, rfl, ⟨_, SqL.of upd_same⟩, fun D hD => ?_⟩
      refine lc_list (K := K) (a := tl) (xs := [.ref rs, .ref rh]) (fun j HB => Same (upd HA tl (.lst [.ref rs, .ref rh])) HB ∧ ∃ es', HB D = some (.lst es') ∧ es'.length = j ∧ ∀ v ∈ es', ElD K HB D v) ⟨Same.new hD, [], upd_same, rfl, fun v hv => by simp at hv⟩ ?_ ?_ ?_
      · rintro j HB _ ⟨sB, _⟩
        exact SqL.of (sB _ _ upd_same)
      · rintro j x HB hx ⟨sB, es', hd, hj, hel⟩
        obtain ⟨r, rows, rfl, gr⟩ : ∃ r rows, x = V.ref r ∧ RgAt K (upd HA tl (.lst [.ref rs, .ref rh])) r rows := by
          match j, hx with
          | 0, hx => exact ⟨rs, q1, (Option.some.inj hx).symm, g1⟩
          | 1, hx => exact ⟨rh, q2, (Option.some.inj hx).symm, g2⟩
          | j + 2, hx => simp at hx
        have hj2 : j < 2 := (List.getElem?_eq_some_iff.mp hx).1
        have grB := gr.same sB
        obtain ⟨dr, lr, tr, hr1, hr2, hr3⟩ := id grB
        have nlB : Nl K HB r D := by
          refine Nl.same (H := upd HA tl (.lst [.ref rs, .ref rh])) (fun dx' l' e => ?_) gr sB
          obtain ⟨dr0, lr0, tr0, z1, z2, z3⟩ := gr
          rw [z1] at e
          rw [← ins_eq e]
          exact ne_of_none z2 hD
        refine ⟨rfl, _, rfl, _, rfl, r, dr, _, rfl, hr1, sn_rows, r, rows, rfl, grB, fun HC lC tC sC nlC hlC huC => ?_⟩
        refine ⟨(by show 2 ≤ sizeLine; decide), fun tt htt => ?_⟩
        have sT2 := Same.new (o := HO.tup [.ref r, .ref lC]) htt
        have sCT := sC.trans sT2
        have hdT := sCT _ _ hd
        refine ⟨_, hdT, line_lt (by omega), fun z o hz => ?_, es' ++ [.ref tt], upd_same, by rw [List.length_append, hj]; rfl, fun v hv => ?_⟩
        · rw [upd_ne (ne_of_none hz hD)]
          exact sCT _ _ (sB _ _ hz)
        · rcases List.mem_append.mp hv with hv | hv
          · exact ((hel v hv).same sCT).updL hdT
          · rw [List.mem_singleton.mp hv]
            exact ElD.updL ⟨tt, r, lC, rows, tC, rfl, upd_same, grB.same sCT, nlB.same grB sCT, sT2 _ _ hlC, (ne_of_none hd nlC).symm, huC.same sT2⟩ hdT
      · rintro HB ⟨sB, es', hd, hj, hel⟩
        have BB := BT.same sB
        have hj2 : es'.length = 2 := hj
        refine ⟨el, D, es, es', rfl, rfl, BB.he, hd, line_big (by omega), fun p hp => ?_⟩
        have sP := Same.new (o := HO.lst (es ++ es')) hp
        have BP := BB.same sP
        refine ⟨w0, w1, p, es ++ es', s', _, _, _, _, _, _, rfl, BP.sq, BP.hp, BP.ne, BP.ok, BP.tx, upd_same, by rw [List.length_append]; omega, fun v hv => ?_⟩
        rcases List.mem_append.mp hv with hv | hv
        · exact BP.els v hv
        · exact ((hel v hv).same sP).toEl
    · rintro σ' H' ⟨w0, w1, el, es, s, v7, v8, v9, v10, v11, v12, rfl, B⟩
      refine ⟨_, rfl, el, rfl, ⟨_, SqL.of B.he⟩, fun D hD => ?_⟩
      have hsz := B.sz
      refine lc_list (K := K) (a := el) (xs := es) (fun j HB => Same H' HB ∧ HB D = some (.lst ((List.replicate j true).map V.bl))) ⟨Same.new hD, upd_same⟩ ?_ ?_ ?_
      · rintro j HB _ ⟨sB, _⟩
        exact SqL.of (sB _ _ B.he)
      · rintro j x HB hx ⟨sB, hd⟩
        obtain ⟨t, r, l, rows, ts, rfl, h1, h2, h3, h4⟩ := (B.els.same sB) x (List.mem_of_getElem? hx)
        have hj : j < es.length := (List.getElem?_eq_some_iff.mp hx).1
        obtain ⟨dr, lr, tr, hr1, hr2, hr3⟩ := id h2
        refine ⟨t, _, rfl, SqT.of h1, rfl, _, _, rfl, _, _, rfl, rfl, rfl, ?_⟩
        refine ⟨_, rfl, r, dr, _, rfl, hr1, sn_rows, r, rows, rfl, h2, fun HC lC tC sC _ hlC huC => ?_⟩
        refine ⟨_, rfl, rowsL rows, rowsL rows, .lst (SqL.of hlC) (dp_rows huC), .lst (SqL.of (sC _ _ h3)) (dp_rows (h4.same sC)), (fine_rowsL rows).shaped (by decide), (fine_rowsL rows).shaped (by decide), ?_⟩
        rw [(fine_rowsL rows).refl]
        refine ⟨_, sC _ _ hd, by rw [List.length_map, List.length_replicate]; exact line_lt (by omega), fun z o hz => ?_, ?_⟩
        · rw [upd_ne (ne_of_none hz hD)]
          exact sC _ _ (sB _ _ hz)
        · rw [upd_same, List.replicate_succ', List.map_append]
          rfl
      · rintro HB ⟨sB, hd⟩
        refine ⟨D, List.replicate es.length true, rfl, SqL.of hd, true, ?_, iteF ?_⟩
        · have e : (List.replicate es.length true).all id = true := List.all_eq_true.mpr fun b hb => List.eq_of_mem_replicate hb
          rw [e]
        have BB := B.same sB
        have htx := BB.tx
        refine ⟨_, rfl, pr, _, _, _, rfl, rfl, SqL.of BB.hp, atI_nat (j := 0) rfl, _, rfl, pr, _, _, _, rfl, rfl, SqL.of BB.hp, atI_nat (j := 1) rfl, _, rfl, hh, _, rfl, hget BB.ok.l.at_ hk_mood, w0, w1, s, rfl, BB.ne, BB.ok.a, BB.ok.b, BB.ok.g, by omega, fun H' => q H'⟩
end
end K41

/-! the head: one kernel run of the top, with facts -/
namespace K41
open PySem PySem.Spec PyProof.Rows L2
abbrev RR : PySem.W.OpenRow := PySem.W.OpenLaw.row PySem.Challenge.rw_manylanes_k41_whole_writer_by_places
def loose1 : List Str := ["_wall", "LaneError", "BadRange", "NotSent", "Ended", "MOST", "is_whole", "is_number", "is_pair", "pair_of", "merged", "Ranges", "Writer", "writer_of"]
def loose2 : List Str := ["_law_cell", "_law_mix", "_law_letters", "_law_rows", "_law_due", "_law_state", "_law_stands", "_law_would", "_law_bounds", "_law_cut", "_law_after_cut", "_law_refused", "_law_told", "_law_one", "_law_plain", "_law_apart"]
def loose : List Str := loose1 ++ loose2
abbrev hk : PySem.W.Hook := He.hookX 5 fa fn [] [] ex
def ob (s : PySem.W.SharedT) : He.AlX := He.obsX 5 fa fn [] [] ex (HandSHeadRun.getT s)
theorem ob_eq (s : PySem.W.SharedT) : ob s = hk.obs s.abs := He.obsX_eq (HandSHeadRun.getT_eq s)
theorem run (w : World) : HandSHeadRun.RunEq RR (PySem.W.view RR.prog [35]) hk ob 4000 loose w := by
  intro os
  kernel_rfl
end K41

/-! the end: what the top has left, and the row -/
namespace K41
open PySem PySem.Spec PyProof.Rows L2
theorem tx_of {K : PySem.W.Frag} {h : Heap} {mg : Str → Option Value} {w : World} (X : K.In h) (G : h.Ns mainGlobals mg) (c : He.SaysX fa fn [] [] ex w h K) : Tx K mg := by
  refine ⟨c.t.d, c.more, fun x hx => ?_, fun x hx => ?_, ?_⟩
  · refine He.glo_ok X G (c.t.d.facts (f := .glo x) ?_)
    unfold fa
    simp only [List.mem_append]
    exact .inl (.inl (.inl (.inl (.inl (.inl (List.mem_map.mpr ⟨x, List.contains_iff_mem.mp hx, rfl⟩))))))
  · refine He.free_ok X G (c.t.d.facts (f := .free x) ?_)
    unfold fa
    simp only [List.mem_append]
    exact .inl (.inl (.inl (.inl (.inl (.inr (List.mem_map.mpr ⟨x, List.contains_iff_mem.mp hx, rfl⟩))))))
  · exact He.int_ok X G (c.t.d.fact 71 (f := .int "MOST" 1000000000000) (by rfl))
theorem facts {P : Program} {w : World} {K : PySem.W.Frag} {h : Heap} {mg : Str → Option Value} {f : Addr} (X : K.In h) (G : h.Ns mainGlobals mg) (hfa : mg ("law" : Str) = some (.ref f)) (c : He.SaysX fa fn [] [] ex w h K) :
    ∃ fd : FuncData, (∀ (s : Shared) (v : Value), BindsTo s fd ⟨[v], []⟩ [("_law_script", v)]) ∧ ∀ base : Heap, K.In base → base.Ns mainGlobals mg → FnOk P w K mg base CX0 10 f fd ["_law_script"] (spLaw K) := by
  have T := tx_of X G c
  have e := hfa.symm.trans (T.g (x := "law"))
  cases e
  obtain ⟨fd, F⟩ := T.def_ 47
  have b := FunD.bindsA (ps := ["_law_script"]) F fun _ _ _ _ _ _ us hl => match us, hl with | [_], _ => rfl
  exact ⟨fd, fun s v => b s [v] rfl, fun base _ _ => ok_law T F⟩
end K41
open PySem PySem.W PySem.Calls PyProof.Rows
set_option maxRecDepth 100000 in
set_option maxHeartbeats 0 in
theorem PySem.Challenge.cw_manylanes_k41_whole_writer_by_places_holds : PySem.Challenge.rw_manylanes_k41_whole_writer_by_places.Holds := by
  w_on; o_law
  refine HandSHeadRun.head_any (r := OpenLaw.row PySem.Challenge.rw_manylanes_k41_whole_writer_by_places) (q := view (OpenLaw.row PySem.Challenge.rw_manylanes_k41_whole_writer_by_places).prog [35]) (H := K41.hk) (ob := K41.ob) (M := 4000) (loose := K41.loose) (d := HandSHeadRun.topDef (OpenLaw.row PySem.Challenge.rw_manylanes_k41_whole_writer_by_places).prog 35) (kwd := []) K41.ob_eq
    (by kernel_rfl) (fun s => by kernel_rfl) K41.run (by kernel_rfl) (by kernel_rfl) (by kernel_rfl) (by rfl) (by first | assumption | decide +kernel) (by decide +kernel) ⟨rfl, rfl, rfl, rfl, rfl, by decide +kernel⟩ ?hw ?hc
  case hw => w_witness2
  case hc =>
    refine L2.walk_ofE (l := PySem.Challenge.rw_manylanes_k41_whole_writer_by_places) (n := 63) (k := 10) (x := "_law_script") (CX := L2.CX0) rfl (by decide) (by kernel_rfl) ⟨rfl, by decide, by decide⟩ ?F (fun _ _ _ _ z => z)
    intro w mg fa h Y G hmg0
    obtain ⟨K, KX, c⟩ := Y
    have hmg : mg ("law" : PySem.Str) = some (.ref fa) := by
      have e : (HandSHeadRun.topDef (OpenLaw.row PySem.Challenge.rw_manylanes_k41_whole_writer_by_places).prog 35).name = ("law" : PySem.Str) := by kernel_rfl
      rw [← e]
      exact hmg0
    obtain ⟨fd, hb, hF⟩ := K41.facts (P := (PySem.Challenge.rw_manylanes_k41_whole_writer_by_places).prog) (w := w) KX G hmg c
    exact ⟨K, fd, K41.spLaw K, KX, hb, fun H a ns hl _ hS => ⟨a, ns, rfl, hS, fun _ => rfl⟩, hF⟩
