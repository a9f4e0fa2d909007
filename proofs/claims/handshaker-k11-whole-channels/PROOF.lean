import PyProof.Rows.All
import Wide.All
import OpenK.AllK
import Wide.FinOn
import HandS.ForMost
import HandS.Exc
import KE.KStateDown
import HandS.Head0
import HandS.Head1
import HandS.Head2
import HandS.HeadEnd
import HandS.HeadHook1
import HandS.HeadHook2
import HandS.Evl
import HandS.More
import HandS.MakeKwOnly
import KE.KSuper
import HandS.IsInst
import HandS.Walk
import HandS.TupAny
import HandS.Dict
import KE.KeyNested
import KE.KDictDisplayH
import KE.KDictList
import KE.KRevIter
import HandS.Rev
import HandS.RevTup
import KE.KEqSeq
import PyProof.P3Eq
import PySem.Challenge.RW_handshaker_k11_whole_channels_in_all_ord
set_option Elab.async false
set_option linter.all false

set_option maxRecDepth 100000
/-! A1: the text by places, data over the abstract heap, calls bundled. -/
namespace HK
open PySem PySem.Spec PyProof.Rows L2

/-! ### the text by places -/
def top (i : Nat) : Stmt := PySem.Challenge.pw_handshaker_k11_whole_channels_in_all_ord.main.body.getD i (.Pass ⟨0, 0, 0, 0⟩)

/-! ### facts of a def as the top left it -/
structure DefAt (K : PySem.W.Frag) (mg : Str → Option Value) (x : Str) (st : Stmt) : Prop where
  ex : ∃ f fd, Fun K x x st f fd ∧ mg x = some (.ref f)
structure MethAt (K : PySem.W.Frag) (C : Addr) (m qual : Str) (st : Stmt) : Prop where
  ex : ∃ f fd, Fun K m qual st f fd ∧ Meth K C m f
structure InitAt (K : PySem.W.Frag) (mg : Str → Option Value) (x : Str) (C : Addr) (qual : Str) (st : Stmt) : Prop where
  ex : ∃ f fd, Fun K "__init__" qual st f fd ∧ Mk K C f ∧ mg x = some (.ref C)

/-! ### calls, bundled -/
section
variable (P : Program) (w : World) (K : PySem.W.Frag) (mg : Str → Option Value) (base : Heap)
structure Cal (k : Nat) (x : Str) (sp : Sp) : Prop where
  ex : ∃ (f : Addr) (fd : FuncData) (ps : List Str), FnOk P w K mg base CX0 k f fd ps sp ∧ mg x = some (.ref f) ∧ PySem.W.keepIn K (.ref f) = true ∧ Binds K fd ps []
structure Met (k : Nat) (C : Addr) (m : Str) (sp : Sp) : Prop where
  ex : ∃ (f : Addr) (fd : FuncData) (ps : List Str), Cls K C ∧ Meth K C m f ∧ FnOk P w K mg base CX0 k f fd ps sp ∧ Binds K fd ps []
structure Mak (k : Nat) (x : Str) (C : Addr) (sp : Sp) : Prop where
  ex : ∃ (f : Addr) (fd : FuncData) (ps : List Str), Mk K C f ∧ FnOk P w K mg base CX0 k f fd ps sp ∧ mg x = some (.ref C) ∧ Binds K fd ps []
end
section
variable {P : Program} {w : World} {K : PySem.W.Frag} {mg : Str → Option Value} {base : Heap} {x m qual : Str} {st : Stmt} {C : Addr} {N ps : List Str} {k : Nat} {sp : Sp}
theorem cal_mk (D : DefAt K mg x st) (S : FnScope N ps (defScope st)) (bd : ∀ (kV doc pm : Value) (an : Option Addr) (cdv ct : Value) (us : List Value), us.length = ps.length → bindArgs (PySem.W.fnOf x x (defArgs st) (defBody st) (defScope st) .none kV doc pm an cdv ct) ⟨us, []⟩ = pure (ps.zip us))
    (len : ∀ vs H Q E, sp vs H Q E → vs.length = ps.length)
    (hbody : ∀ (f : Addr) (cdv : Value) (A : Around) (outer : List Env) (s : Shared) (H : Hp) (vs : List V) (Q : VK) (E : XK), Room k (A.deeper (envOfC x (defScope st) s.heap.objs.size f cdv)) → sp vs H Q E →
      ∃ t, PSs (cxOf CX0 P w K mg base N x (defScope st) f cdv A outer s H E).nox (defBody st) t ∧ t { nx := fun _ H' => Q .non H', rt := Q } (start N vs) H) : Cal P w K mg base (k + 1) x sp := by
  obtain ⟨f, fd, F, hm⟩ := D.ex
  exact ⟨f, fd, ps, F.ok S len fun cdv A outer s H vs Q E => hbody f cdv A outer s H vs Q E, hm, F.kp, F.binds bd⟩
theorem met_mk (c : Cls K C) (D : MethAt K C m qual st) (S : FnScope N ps (defScope st)) (bd : ∀ (kV doc pm : Value) (an : Option Addr) (cdv ct : Value) (us : List Value), us.length = ps.length → bindArgs (PySem.W.fnOf m qual (defArgs st) (defBody st) (defScope st) .none kV doc pm an cdv ct) ⟨us, []⟩ = pure (ps.zip us))
    (len : ∀ vs H Q E, sp vs H Q E → vs.length = ps.length)
    (hbody : ∀ (f : Addr) (cdv : Value) (A : Around) (outer : List Env) (s : Shared) (H : Hp) (vs : List V) (Q : VK) (E : XK), Room k (A.deeper (envOfC qual (defScope st) s.heap.objs.size f cdv)) → sp vs H Q E →
      ∃ t, PSs (cxOf CX0 P w K mg base N qual (defScope st) f cdv A outer s H E).nox (defBody st) t ∧ t { nx := fun _ H' => Q .non H', rt := Q } (start N vs) H) : Met P w K mg base (k + 1) C m sp := by
  obtain ⟨f, fd, F, hm⟩ := D.ex
  exact ⟨f, fd, ps, c, hm, F.ok S len fun cdv A outer s H vs Q E => hbody f cdv A outer s H vs Q E, F.binds bd⟩
theorem mak_mk (D : InitAt K mg x C qual st) (S : FnScope N ps (defScope st)) (bd : ∀ (kV doc pm : Value) (an : Option Addr) (cdv ct : Value) (us : List Value), us.length = ps.length → bindArgs (PySem.W.fnOf "__init__" qual (defArgs st) (defBody st) (defScope st) .none kV doc pm an cdv ct) ⟨us, []⟩ = pure (ps.zip us))
    (len : ∀ vs H Q E, sp vs H Q E → vs.length = ps.length)
    (hbody : ∀ (f : Addr) (cdv : Value) (A : Around) (outer : List Env) (s : Shared) (H : Hp) (vs : List V) (Q : VK) (E : XK), Room k (A.deeper (envOfC qual (defScope st) s.heap.objs.size f cdv)) → sp vs H Q E →
      ∃ t, PSs (cxOf CX0 P w K mg base N qual (defScope st) f cdv A outer s H E).nox (defBody st) t ∧ t { nx := fun _ H' => Q .non H', rt := Q } (start N vs) H) : Mak P w K mg base (k + 1) x C sp := by
  obtain ⟨f, fd, F, hM, hm⟩ := D.ex
  exact ⟨f, fd, ps, hM, F.ok S len fun cdv A outer s H vs Q E => hbody f cdv A outer s H vs Q E, hm, F.binds bd⟩
end
section
variable {X : Cx} {k j : Nat} {C : Addr} {x m : Str} {sp : Sp} {p pos apos : Pos} {e o : Expr} {es : List Expr} {ta : TE} {t : TA}
theorem pe_c (c : Cal X.prog X.w X.K X.mg X.base k x sp) (hr : Room j X.A) (ha : PA X (e :: es) t) (hk : k ≤ j := by decide) (hg : Gl X x := by rfl)
    (hdb : (x == ("__debug__" : Str)) = false := by decide) (he : starEach (e :: es) X.env = (false, eval e X.env) :: starEach es X.env := by rfl) (hpl : (backTo pos (starEach es X.env)).any (·.1) = false := by rfl) :
    PE X (.Call (.Name x p) (e :: es) [] pos) (tCall sp [] E0 t) := by
  obtain ⟨f, fd, ps, F, hm, kp, b⟩ := c.ex
  exact pe_call F (hr.mono hk) hg hm kp b .nil pass0 ha hdb he hpl
theorem pe_mk (c : Mak X.prog X.w X.K X.mg X.base k x C sp) (hr : Room j X.A) (ha : PA X (e :: es) t) (hk : k + 1 ≤ j := by decide) (hg : Gl X x := by rfl)
    (hdb : (x == ("__debug__" : Str)) = false := by decide) (he : starEach (e :: es) X.env = (false, eval e X.env) :: starEach es X.env := by rfl) (hpl : (backTo pos (starEach es X.env)).any (·.1) = false := by rfl) :
    PE X (.Call (.Name x p) (e :: es) [] pos) (tMake C sp [] E0 t) := by
  obtain ⟨f, fd, ps, M, F, hm, b⟩ := c.ex
  exact pe_make M F (hr.mono hk) hg hm b .nil pass0 ha hdb he hpl
theorem pe_mt {pl : Sem Bool} (c : Met X.prog X.w X.K X.mg X.base k C m sp) (hr : Room j X.A) (he : PE X o ta) (ha : PA X (e :: es) t) (hk : k ≤ j := by decide)
    (hst : starEach (e :: es) X.env = (false, eval e X.env) :: starEach es X.env := by rfl) (hpl : (backTo pos (starEach es X.env)).any (·.1) = false := by rfl)
    (ht : eval (.Call (.Attribute o m apos) (e :: es) [] pos) X.env = (do
      let ov ← eval o X.env
      standAt apos.atName
      let (f, first) ← holding [ov] (getMethod ov m pl)
      callWith pos f first (backTo pos (starEach (e :: es) X.env)) (backToKw pos (keywordEach [] X.env))) := by rfl) :
    PE X (.Call (.Attribute o m apos) (e :: es) [] pos) (tMeth C m sp [] E0 ta t) := by
  obtain ⟨f, fd, ps, hc, hm, F, b⟩ := c.ex
  exact pe_meth (pl := pl) he hc hm F (hr.mono hk) b .nil pass0 ha hst hpl ht
theorem pe_mt0 {pl : Sem Bool} (c : Met X.prog X.w X.K X.mg X.base k C m sp) (hr : Room j X.A) (he : PE X o ta) (hk : k ≤ j := by decide)
    (ht : eval (.Call (.Attribute o m apos) [] [] pos) X.env = (do
      let ov ← eval o X.env
      standAt apos.atName
      let (f, first) ← holding [ov] (getMethod ov m pl)
      callWith pos f first (backTo pos (starEach [] X.env)) (backToKw pos (keywordEach [] X.env))) := by rfl) :
    PE X (.Call (.Attribute o m apos) [] [] pos) (tMeth C m sp [] E0 ta tNil) := by
  obtain ⟨f, fd, ps, hc, hm, F, b⟩ := c.ex
  exact pe_meth0 (pl := pl) he hc hm F (hr.mono hk) b .nil pass0 ht
end

/-! ### data -/
inductive D where
  | non
  | int (i : Int)
  | str (s : Str)
  | tup (l : List D)
  | lst (l : List D)
mutual
/-- v is the datum d over H: tuples tracked or written, lists tracked -/
inductive DV (K : PySem.W.Frag) (H : Hp) : D → V → Prop where
  | non : DV K H .non .non
  | int (i : Int) : DV K H (.int i) (.int i)
  | str (s : Str) : DV K H (.str s) (.str s)
  | tup {ds : List D} {a : Addr} {xs : List V} : SqT K H a xs → DVs K H ds xs → DV K H (.tup ds) (.ref a)
  | lst {ds : List D} {a : Addr} {xs : List V} : H a = some (.lst xs) → DVs K H ds xs → DV K H (.lst ds) (.ref a)
inductive DVs (K : PySem.W.Frag) (H : Hp) : List D → List V → Prop where
  | nil : DVs K H [] []
  | cons {d : D} {v : V} {ds : List D} {vs : List V} : DV K H d v → DVs K H ds vs → DVs K H (d :: ds) (v :: vs)
end
theorem sqT_of {K : PySem.W.Frag} {H : Hp} {a : Addr} {xs : List V} (h : H a = some (.tup xs)) : SqT K H a xs := .inl (.inl h)
theorem sqL_of {K : PySem.W.Frag} {H : Hp} {a : Addr} {xs : List V} (h : H a = some (.lst xs)) : SqL K H a xs := .inl (.inl h)
theorem _root_.L2.Same.sqT {K : PySem.W.Frag} {H H' : Hp} {a : Addr} {xs : List V} (e : Same H H') (h : SqT K H a xs) : SqT K H' a xs := by
  rcases h with (h | ⟨o, h⟩) | h
  · exact .inl (.inl (e _ _ h))
  · exact .inl (.inr ⟨o, e _ _ h⟩)
  · exact .inr h
mutual
theorem DV.mono {K : PySem.W.Frag} {H H' : Hp} (e : Same H H') : ∀ {d : D} {v : V}, DV K H d v → DV K H' d v
  | _, _, .non => .non
  | _, _, .int i => .int i
  | _, _, .str s => .str s
  | _, _, .tup h r => .tup (e.sqT h) (DVs.mono e r)
  | _, _, .lst h r => .lst (e _ _ h) (DVs.mono e r)
theorem DVs.mono {K : PySem.W.Frag} {H H' : Hp} (e : Same H H') : ∀ {ds : List D} {vs : List V}, DVs K H ds vs → DVs K H' ds vs
  | _, _, .nil => .nil
  | _, _, .cons h r => .cons (DV.mono e h) (DVs.mono e r)
end
/-! tuples alone -/
mutual
def D.fl : D → Bool
  | .tup l => D.fls l
  | .lst _ => false
  | .non => true
  | .int _ => true
  | .str _ => true
def D.fls : List D → Bool
  | [] => true
  | d :: ds => d.fl && D.fls ds
end
/-- tuples (and what is locked) stay -/
def Tups (H H' : Hp) : Prop := (∀ b xs, H b = some (.tup xs) → H' b = some (.tup xs)) ∧ ∀ b o xs, H b = some (.frz o (.tup xs)) → H' b = some (.frz o (.tup xs))
theorem Tups.refl (H : Hp) : Tups H H := ⟨fun _ _ h => h, fun _ _ _ h => h⟩
theorem Tups.trans {H H1 H2 : Hp} (a : Tups H H1) (b : Tups H1 H2) : Tups H H2 := ⟨fun c o h => b.1 c o (a.1 c o h), fun c o x h => b.2 c o x (a.2 c o x h)⟩
theorem Tups.same {H H' : Hp} (e : Same H H') : Tups H H' := ⟨fun b xs h => e b _ h, fun b o xs h => e b _ h⟩
theorem Tups.sqT {K : PySem.W.Frag} {H H' : Hp} {a : Addr} {xs : List V} (e : Tups H H') (h : SqT K H a xs) : SqT K H' a xs := by
  rcases h with (h | ⟨o, h⟩) | h
  · exact .inl (.inl (e.1 _ _ h))
  · exact .inl (.inr ⟨o, e.2 _ _ _ h⟩)
  · exact .inr h
mutual
theorem DV.tups {K : PySem.W.Frag} {H H' : Hp} (e : Tups H H') : ∀ {d : D} {v : V}, d.fl = true → DV K H d v → DV K H' d v
  | _, _, _, .non => .non
  | _, _, _, .int i => .int i
  | _, _, _, .str s => .str s
  | _, _, f, .tup h r => .tup (e.sqT h) (DVs.tups e f r)
  | _, _, f, .lst _ _ => nomatch f
theorem DVs.tups {K : PySem.W.Frag} {H H' : Hp} (e : Tups H H') : ∀ {ds : List D} {vs : List V}, D.fls ds = true → DVs K H ds vs → DVs K H' ds vs
  | _, _, _, .nil => .nil
  | _, _, f, .cons h r => .cons (DV.tups e (Bool.and_eq_true_iff.mp f).1 h) (DVs.tups e (Bool.and_eq_true_iff.mp f).2 r)
end
/-- what a pure def hands back -/
abbrev Ret (K : PySem.W.Frag) (H : Hp) (Q : VK) (d : D) : Prop := ∀ v H', Same H H' → DV K H' d v → Q v H'
theorem _root_.L2.Same.new {H : Hp} {p : Addr} {o : HO} (h : H p = none) : Same H (upd H p o) := fun a u e => by
  rw [upd_ne (ne_of_none e h)]
  exact e
/-- what H does not know may change -/
theorem _root_.L2.Same.mut {H H' : Hp} {p : Addr} {o : HO} (e : Same H H') (h : H p = none) : Same H (upd H' p o) := fun a u ha => by
  rw [upd_ne (ne_of_none ha h)]
  exact e a u ha
/-- a list, a dict, an instance is written -/
theorem Tups.upd {H : Hp} {p : Addr} {o o' : HO} (h : H p = some o) (hn : (∀ xs, o ≠ .tup xs) ∧ ∀ ob u, o ≠ .frz ob u) : Tups H (upd H p o') :=
  ⟨fun b xs e => by rw [upd_ne (ne_of e h (hn.1 xs).symm)]; exact e, fun b ob xs e => by rw [upd_ne (ne_of e h (hn.2 ob _).symm)]; exact e⟩
theorem nt_lst {xs : List V} : (∀ ys, HO.lst xs ≠ .tup ys) ∧ ∀ ob u, HO.lst xs ≠ .frz ob u := ⟨fun _ z => (nomatch z), fun _ _ z => (nomatch z)⟩
theorem nt_ins {C dx : Addr} {fs : List (Str × V)} : (∀ ys, HO.ins C dx fs ≠ .tup ys) ∧ ∀ ob u, HO.ins C dx fs ≠ .frz ob u := ⟨fun _ z => (nomatch z), fun _ _ z => (nomatch z)⟩
theorem nt_dK {k : List (Key × V)} : (∀ ys, HO.dK k ≠ .tup ys) ∧ ∀ ob u, HO.dK k ≠ .frz ob u := ⟨fun _ z => (nomatch z), fun _ _ z => (nomatch z)⟩
theorem Tups.new {H : Hp} {p : Addr} {o : HO} (h : H p = none) : Tups H (L2.upd H p o) := Tups.same (Same.new h)
end HK


set_option maxRecDepth 100000
set_option maxHeartbeats 0
/-! HH: the head: what the top leaves, by one kernel run (written by hh.py). -/
namespace HK
open PySem PySem.Spec PyProof.Rows L2
abbrev supNames : List (Str × NameKind) := [("self", NameKind.local), ("names", NameKind.local), ("cells", NameKind.local), ("__class__", NameKind.free), ("super", NameKind.globalImplicit)]
abbrev supScope : Scope := { kind := ScopeKind.function, names := supNames, isGenerator := false, isCoroutine := false, more := [] }
def fn0 : List He.DefD := [⟨("_number", none), "_number", "_number", defArgs (top 8), defBody (top 8), defScope (top 8), [], []⟩, ⟨("_cell", none), "_cell", "_cell", defArgs (top 9), defBody (top 9), defScope (top 9), [], []⟩, ⟨("_put", none), "_put", "_put", defArgs (top 10), defBody (top 10), defScope (top 10), [], []⟩, ⟨("_retry_if", none), "_retry_if", "_retry_if", defArgs (top 11), defBody (top 11), defScope (top 11), [], []⟩, ⟨("_block", none), "_block", "_block", defArgs (top 12), defBody (top 12), defScope (top 12), [], []⟩, ⟨("_check", none), "_check", "_check", defArgs (top 13), defBody (top 13), defScope (top 13), [], []⟩, ⟨("channel", none), "channel", "channel", defArgs (top 14), defBody (top 14), defScope (top 14), [], []⟩, ⟨("send", none), "send", "send", defArgs (top 15), defBody (top 15), defScope (top 15), [], []⟩, ⟨("receive", none), "receive", "receive", defArgs (top 16), defBody (top 16), defScope (top 16), [], []⟩, ⟨("checked", none), "checked", "checked", defArgs (top 19), defBody (top 19), defScope (top 19), [], []⟩, ⟨("first_memory", none), "first_memory", "first_memory", defArgs (top 20), defBody (top 20), defScope (top 20), [], []⟩, ⟨("place_of", none), "place_of", "place_of", defArgs (top 21), defBody (top 21), defScope (top 21), [], []⟩]
def fn1 : List He.DefD := [⟨("combined", none), "combined", "combined", defArgs (top 22), defBody (top 22), defScope (top 22), [], []⟩, ⟨("has_cells", none), "has_cells", "has_cells", defArgs (top 24), defBody (top 24), defScope (top 24), [], []⟩, ⟨("is_still", none), "is_still", "is_still", defArgs (top 25), defBody (top 25), defScope (top 25), [], []⟩, ⟨("flat_thread", none), "flat_thread", "flat_thread", defArgs (top 29), defBody (top 29), defScope (top 29), [], []⟩, ⟨("ended", none), "ended", "ended", defArgs (top 33), defBody (top 33), defScope (top 33), [.non], []⟩, ⟨("evaluate_slots", none), "evaluate_slots", "evaluate_slots", defArgs (top 35), defBody (top 35), defScope (top 35), [], []⟩, ⟨("walk_block", none), "walk_block", "walk_block", defArgs (top 37), defBody (top 37), defScope (top 37), [], []⟩, ⟨("searched", none), "searched", "searched", defArgs (top 44), defBody (top 44), defScope (top 44), [], []⟩, ⟨("reachable", none), "reachable", "reachable", defArgs (top 45), defBody (top 45), defScope (top 45), [], []⟩, ⟨("_law_draws", none), "_law_draws", "_law_draws", defArgs (top 50), defBody (top 50), defScope (top 50), [], []⟩, ⟨("_law_take", none), "_law_take", "_law_take", defArgs (top 51), defBody (top 51), defScope (top 51), [], []⟩, ⟨("_law_fine", none), "_law_fine", "_law_fine", defArgs (top 52), defBody (top 52), defScope (top 52), [], []⟩]
def fn2 : List He.DefD := [⟨("law", none), "law", "law", defArgs (top 53), defBody (top 53), defScope (top 53), [], []⟩, ⟨("BlockTranslator", some "add"), "add", "Translator.add", defArgs (inClass (top 26) 1), defBody (inClass (top 26) 1), defScope (inClass (top 26) 1), [], []⟩, ⟨("BlockTranslator", some "new_slot"), "new_slot", "Translator.new_slot", defArgs (inClass (top 26) 2), defBody (inClass (top 26) 2), defScope (inClass (top 26) 2), [], []⟩, ⟨("BlockTranslator", some "kept"), "kept", "Translator.kept", defArgs (inClass (top 26) 3), defBody (inClass (top 26) 3), defScope (inClass (top 26) 3), [], []⟩, ⟨("BlockTranslator", some "renamed"), "renamed", "Translator.renamed", defArgs (inClass (top 26) 4), defBody (inClass (top 26) 4), defScope (inClass (top 26) 4), [], []⟩, ⟨("BlockTranslator", some "expression"), "expression", "Translator.expression", defArgs (inClass (top 26) 5), defBody (inClass (top 26) 5), defScope (inClass (top 26) 5), [], []⟩, ⟨("BlockTranslator", some "statements"), "statements", "Translator.statements", defArgs (inClass (top 26) 7), defBody (inClass (top 26) 7), defScope (inClass (top 26) 7), [], []⟩, ⟨("BlockTranslator", some "branches"), "branches", "Translator.branches", defArgs (inClass (top 26) 9), defBody (inClass (top 26) 9), defScope (inClass (top 26) 9), [], []⟩, ⟨("BlockTranslator", some "statement"), "statement", "BlockTranslator.statement", defArgs (inClass (top 27) 1), defBody (inClass (top 27) 1), defScope (inClass (top 27) 1), [], []⟩, ⟨("BlockTranslator", some "put"), "put", "BlockTranslator.put", defArgs (inClass (top 27) 2), defBody (inClass (top 27) 2), defScope (inClass (top 27) 2), [], []⟩, ⟨("ThreadTranslator", some "add"), "add", "Translator.add", defArgs (inClass (top 26) 1), defBody (inClass (top 26) 1), defScope (inClass (top 26) 1), [], []⟩, ⟨("ThreadTranslator", some "renamed"), "renamed", "Translator.renamed", defArgs (inClass (top 26) 4), defBody (inClass (top 26) 4), defScope (inClass (top 26) 4), [], []⟩]
def fn3 : List He.DefD := [⟨("ThreadTranslator", some "statements"), "statements", "Translator.statements", defArgs (inClass (top 26) 7), defBody (inClass (top 26) 7), defScope (inClass (top 26) 7), [], []⟩, ⟨("ThreadTranslator", some "statement"), "statement", "ThreadTranslator.statement", defArgs (inClass (top 28) 1), defBody (inClass (top 28) 1), defScope (inClass (top 28) 1), [], []⟩, ⟨("ThreadTranslator", some "block"), "block", "ThreadTranslator.block", defArgs (inClass (top 28) 2), defBody (inClass (top 28) 2), defScope (inClass (top 28) 2), [], []⟩, ⟨("Translator", some "__init__"), "__init__", "Translator.__init__", defArgs (inClass (top 26) 0), defBody (inClass (top 26) 0), defScope (inClass (top 26) 0), [], []⟩, ⟨("Outcome", some "__init__"), "__init__", "Outcome.__init__", defArgs (inClass (top 32) 0), defBody (inClass (top 32) 0), defScope (inClass (top 32) 0), [], [("reason", .non)]⟩, ⟨("Walk", some "__init__"), "__init__", "Walk.__init__", defArgs (inClass (top 36) 0), defBody (inClass (top 36) 0), defScope (inClass (top 36) 0), [], []⟩, ⟨("Walk", some "cell"), "cell", "Walk.cell", defArgs (inClass (top 36) 1), defBody (inClass (top 36) 1), defScope (inClass (top 36) 1), [], []⟩, ⟨("Walk", some "value"), "value", "Walk.value", defArgs (inClass (top 36) 2), defBody (inClass (top 36) 2), defScope (inClass (top 36) 2), [], []⟩, ⟨("Walk", some "run"), "run", "Walk.run", defArgs (inClass (top 36) 3), defBody (inClass (top 36) 3), defScope (inClass (top 36) 3), [], []⟩, ⟨("Walk", some "do"), "do", "Walk.do", defArgs (inClass (top 36) 4), defBody (inClass (top 36) 4), defScope (inClass (top 36) 4), [], []⟩, ⟨("Walk", some "load"), "load", "Walk.load", defArgs (inClass (top 36) 6), defBody (inClass (top 36) 6), defScope (inClass (top 36) 6), [], []⟩, ⟨("Walk", some "put"), "put", "Walk.put", defArgs (inClass (top 36) 7), defBody (inClass (top 36) 7), defScope (inClass (top 36) 7), [], []⟩]
def fn4 : List He.DefD := [⟨("World", some "__init__"), "__init__", "World.__init__", defArgs (inClass (top 41) 0), defBody (inClass (top 41) 0), defScope (inClass (top 41) 0), [], []⟩, ⟨("World", some "first"), "first", "World.first", defArgs (inClass (top 41) 1), defBody (inClass (top 41) 1), defScope (inClass (top 41) 1), [], []⟩, ⟨("World", some "going_on"), "going_on", "World.going_on", defArgs (inClass (top 41) 2), defBody (inClass (top 41) 2), defScope (inClass (top 41) 2), [], []⟩, ⟨("World", some "one_instruction"), "one_instruction", "World.one_instruction", defArgs (inClass (top 41) 3), defBody (inClass (top 41) 3), defScope (inClass (top 41) 3), [], []⟩, ⟨("World", some "outcome"), "outcome", "World.outcome", defArgs (inClass (top 41) 4), defBody (inClass (top 41) 4), defScope (inClass (top 41) 4), [], []⟩, ⟨("World", some "case"), "case", "World.case", defArgs (inClass (top 41) 5), defBody (inClass (top 41) 5), defScope (inClass (top 41) 5), [], []⟩, ⟨("World", some "possible"), "possible", "World.possible", defArgs (inClass (top 41) 6), defBody (inClass (top 41) 6), defScope (inClass (top 41) 6), [], []⟩, ⟨("World", some "after"), "after", "World.after", defArgs (inClass (top 41) 7), defBody (inClass (top 41) 7), defScope (inClass (top 41) 7), [], []⟩, ⟨("World", some "block_done"), "block_done", "World.block_done", defArgs (inClass (top 41) 10), defBody (inClass (top 41) 10), defScope (inClass (top 41) 10), [], []⟩, ⟨("World", some "end_of"), "end_of", "World.end_of", defArgs (inClass (top 41) 11), defBody (inClass (top 41) 11), defScope (inClass (top 41) 11), [], []⟩, ⟨("Thread", some "__init__"), "__init__", "Thread.__init__", defArgs (inClass (top 47) 0), defBody (inClass (top 47) 0), defScope (inClass (top 47) 0), [], []⟩, ⟨("Program", some "__init__"), "__init__", "Program.__init__", defArgs (inClass (top 48) 0), defBody (inClass (top 48) 0), defScope (inClass (top 48) 0), [], []⟩]
def fn : List He.DefD := fn0 ++ fn1 ++ fn2 ++ fn3 ++ fn4
def fa0 : List He.Fa := [.glo "_number", .glo "_cell", .glo "_put", .glo "_retry_if", .glo "_block", .glo "_check", .glo "channel", .glo "send", .glo "receive", .glo "checked", .glo "first_memory", .glo "place_of", .glo "combined", .glo "has_cells", .glo "is_still", .glo "flat_thread", .glo "ended", .glo "evaluate_slots", .glo "walk_block", .glo "searched", .glo "reachable", .glo "_law_draws", .glo "_law_take", .glo "_law_fine", .glo "law", .glo "Outcome", .glo "BlockTranslator", .glo "ThreadTranslator", .glo "Walk", .glo "World"]
def fa1 : List He.Fa := [.glo "Thread", .glo "Program", .glo "RETRY", .glo "Translator", .free "len", .free "range", .free "list", .free "tuple", .free "dict", .free "int", .free "max", .free "min", .free "any", .free "sum", .free "abs", .free "enumerate", .free "isinstance", .free "reversed", .free "super", .int "MOST_VALUE" 1000000000, .int "MOST_STATES" 3000, .str "TICK" "tick", .cls "Outcome", .mkr "Outcome", .noat "Outcome" "kind", .noat "Outcome" "reads", .noat "Outcome" "writes", .noat "Outcome" "finals", .noat "Outcome" "later", .noat "Outcome" "reason"]
def fa2 : List He.Fa := [.cls "BlockTranslator", .mkr "BlockTranslator", .noat "BlockTranslator" "names", .noat "BlockTranslator" "code", .noat "BlockTranslator" "count", .noat "BlockTranslator" "cells", .cls "ThreadTranslator", .mkr "ThreadTranslator", .noat "ThreadTranslator" "names", .noat "ThreadTranslator" "code", .noat "ThreadTranslator" "count", .noat "ThreadTranslator" "cells", .cls "Walk", .mkr "Walk", .noat "Walk" "code", .noat "Walk" "frame", .noat "Walk" "memory", .noat "Walk" "at", .noat "Walk" "reads", .noat "Walk" "writes", .noat "Walk" "later", .noat "Walk" "noted", .cls "World", .mkr "World", .noat "World" "program", .noat "World" "codes", .noat "World" "counts", .cls "Thread", .mkr "Thread", .noat "Thread" "name"]
def fa3 : List He.Fa := [.noat "Thread" "variables", .noat "Thread" "body", .cls "Program", .mkr "Program", .noat "Program" "cells", .noat "Program" "threads", .meth "BlockTranslator" "add", .meth "BlockTranslator" "new_slot", .meth "BlockTranslator" "kept", .meth "BlockTranslator" "renamed", .meth "BlockTranslator" "expression", .meth "BlockTranslator" "statements", .meth "BlockTranslator" "branches", .meth "BlockTranslator" "statement", .meth "BlockTranslator" "put", .meth "ThreadTranslator" "add", .meth "ThreadTranslator" "renamed", .meth "ThreadTranslator" "statements", .meth "ThreadTranslator" "statement", .meth "ThreadTranslator" "block", .meth "Walk" "cell", .meth "Walk" "value", .meth "Walk" "run", .meth "Walk" "do", .meth "Walk" "load", .meth "Walk" "put", .meth "World" "first", .meth "World" "going_on", .meth "World" "one_instruction", .meth "World" "outcome"]
def fa4 : List He.Fa := [.meth "World" "case", .meth "World" "possible", .meth "World" "after", .meth "World" "block_done", .meth "World" "end_of"]
def fa : List He.Fa := fa0 ++ fa1 ++ fa2 ++ fa3 ++ fa4
def loose0 : List Str := ["HandshakerError", "TooLarge", "Fault", "ImpossibleStep", "InvalidCount", "RETRY", "_number", "_cell", "_put", "_retry_if", "_block", "_check", "channel", "send", "receive", "MOST_VALUE", "checked", "first_memory", "place_of", "combined", "has_cells", "is_still", "Translator", "BlockTranslator", "ThreadTranslator", "flat_thread", "MOST_COUNT", "Outcome", "ended", "evaluate_slots"]
def loose1 : List Str := ["Walk", "walk_block", "MOST_TICKS", "TICK", "World", "MOST_STATES", "searched", "reachable", "Thread", "Program", "_law_draws", "_law_take", "_law_fine"]
def loose : List Str := loose0 ++ loose1
/-- what of super's two defs is data -/
abbrev SupW : Type := Option (Str × Str × Arguments × FuncBody × Scope × Addr × List Str × Value × Addr)
def supW (K : PySem.W.Frag) (x : Str) : SupW := match K.lookup (He.ma K (He.ga K x) "__init__") with
  | some ⟨_, _, .func fd, _⟩ => some (fd.name, fd.qualname, fd.params, fd.body, fd.scope, fd.globals, fd.closure.map (·.1), fd.defaults, fd.builtins)
  | _ => none
def supV (qual : Str) (st : Stmt) : SupW := some ("__init__", qual, defArgs st, .stmts (defBody st), supScope, mainGlobals, ["__class__"], .none, builtinsNs)
/-- .. and what is checked -/
def supB (K : PySem.W.Frag) (x qual file : Str) : Bool := match K.lookup (He.ma K (He.ga K x) "__init__") with
  | some ⟨_, _, .func fd, _⟩ => (match fd.closure, fd.code with
    | [(_, cc)], .ref cda => PySem.W.codeIn K (.ref cda) qual && (PySem.W.keepIn K (.ref (He.ma K (He.ga K x) "__init__")) && ((match K.lookup cda with
        | some ⟨_, _, .fields vs, _⟩ => (match (vs[2]? : Option Value) with
          | some (.str fl _) => decide (fl = file)
          | _ => false)
        | _ => false) && ((match K.lookup cc with
        | some ⟨_, _, .cell (some (.ref D)), _⟩ => decide (D = He.ga K x)
        | _ => false) && ((PySem.W.clsIn K (He.ga K x)).isSome && (decide (PySem.W.mroIn K (He.ga K x) (.ref (He.ga K x)) = some true) && (He.eqO (PySem.W.ks_superIn K (He.ga K x) (He.ga K x) "__init__") (some (some (.ref (He.ma K (He.ga K "Translator") "__init__")))) &&
          (decide (PySem.W.typeIn K (.ref (He.ma K (He.ga K "Translator") "__init__")) = some (.type "function")) && (PySem.W.fnIn K (He.ma K (He.ga K "Translator") "__init__") && He.eqO (PySem.W.nsIn K cStatics "thirdparty.any") (some none)))))))))
    | _, _ => false)
  | _ => false
abbrev AlX : Type := He.AlD × Bool × SupW × SupW
def obsX (K : PySem.W.Frag) : AlX := (He.obsD fa fn K, He.tupB K "RETRY" [.str "retry"] && (supB K "BlockTranslator" "BlockTranslator.__init__" "/claim/cut.py" && supB K "ThreadTranslator" "ThreadTranslator.__init__" "/claim/cut.py"), supW K "BlockTranslator", supW K "ThreadTranslator")
def valX : AlX := (He.valD fn, true, supV "BlockTranslator.__init__" (inClass (top 27) 0), supV "ThreadTranslator.__init__" (inClass (top 28) 0))
def SaysX (K : PySem.W.Frag) : Prop := obsX K = valX
def asX (g : Addr → Option Obj) : List Addr := He.growD g (cStatics :: He.asD g 4)
def obsXG (g : Addr → Option Obj) : AlX := obsX (He.frG g (asX g))
def hookX : PySem.W.Hook where
  α := AlX
  obs := fun s => obsXG s.heap.get?
  val := fun _ => valX
  says := fun _ h => ∃ K : PySem.W.Frag, K.In h ∧ SaysX K
  of := fun _ _ e => ⟨_, He.frG_in, e⟩
  keeps := fun _ _ _ ⟨K, hK, c⟩ k => ⟨K, PySem.W.Frag.In.keeps hK k, c⟩
abbrev R : PySem.W.OpenRow := PySem.W.OpenLaw.row PySem.Challenge.rw_handshaker_k11_whole_channels_in_all_ord
def obX (s : PySem.W.SharedT) : AlX := obsXG (HandSHeadRun.getT s)
theorem obX_eq (s : PySem.W.SharedT) : obX s = hookX.obs s.abs := by
  have e : HandSHeadRun.getT s = s.abs.heap.get? := funext (HandSHeadRun.getT_eq s)
  unfold obX
  rw [e] <;> rfl
theorem runX (w : World) : HandSHeadRun.RunEq R (PySem.W.view R.prog [53]) hookX obX 6000 loose w := by
  intro os
  kernel_rfl
end HK


set_option maxRecDepth 100000
set_option maxHeartbeats 4000000
/-! A2: expressions that evaluate to data; the text's facts; the library's defs (send, receive, channel). -/
namespace HK
open PySem PySem.Spec PyProof.Rows L2

theorem sz1000 {n : Nat} (h : Nat.ble n 1000 = true) : n ≤ sizeLine := Nat.le_trans (Nat.le_of_ble_eq_true h) (by decide)
/-- te evaluates to d and leaves all that stood -/
def EvD (K : PySem.W.Frag) (te : TE) (σ : L2.St) (H : Hp) (d : D) : Prop := ∀ H1, Same H H1 → ∀ Q : VK, (∀ v H2, Same H1 H2 → DV K H2 d v → Q v H2) → te σ H1 Q
def EvDs (K : PySem.W.Frag) (ta : TA) (σ : L2.St) (H : Hp) (ds : List D) : Prop := ∀ H1, Same H H1 → ∀ Q : List V → Hp → Prop, (∀ vs H2, Same H1 H2 → DVs K H2 ds vs → Q vs H2) → ta σ H1 Q
section
variable {K : PySem.W.Frag} {σ : L2.St} {H H' : Hp} {te ta tb : TE} {tas : TA} {d : D} {ds : List D} {Q : VK}
theorem EvD.go (h : EvD K te σ H d) (q : ∀ v H2, Same H H2 → DV K H2 d v → Q v H2) : te σ H Q := h H (Same.refl H) Q q
theorem EvDs.go {Q : List V → Hp → Prop} (h : EvDs K tas σ H ds) (q : ∀ vs H2, Same H H2 → DVs K H2 ds vs → Q vs H2) : tas σ H Q := h H (Same.refl H) Q q
theorem EvD.mono (e : Same H H') (h : EvD K te σ H d) : EvD K te σ H' d := fun H1 a Q q => h H1 (e.trans a) Q q
theorem evd_var {i : Nat} {v : V} (h : DV K H d v) (e : σ[i]? = some (some v) := by rfl) : EvD K (tVar i) σ H d := fun H1 s _ q => ⟨v, e, q v H1 (Same.refl H1) (h.mono s)⟩
theorem evd_str {s : Str} : EvD K (tC (.str s)) σ H (.str s) := fun H1 _ _ q => q _ H1 (Same.refl H1) (.str s)
theorem evd_int {i : Int} : EvD K (tC (.int i)) σ H (.int i) := fun H1 _ _ q => q _ H1 (Same.refl H1) (.int i)
theorem evd_non : EvD K (tC .non) σ H .non := fun H1 _ _ q => q _ H1 (Same.refl H1) .non
theorem evd_ref {a : Addr} (h : DV K H d (.ref a)) : EvD K (tC (.ref a)) σ H d := fun H1 s _ q => q _ H1 (Same.refl H1) (h.mono s)
theorem evds_nil : EvDs K tNil σ H [] := fun H1 _ _ q => q _ H1 (Same.refl H1) .nil
theorem evds_cons (ha : EvD K ta σ H d) (hr : EvDs K tas σ H ds) : EvDs K (tCons ta tas) σ H (d :: ds) := fun H1 s Q q =>
  ha H1 s _ fun v H2 s2 dv => hr H2 (s.trans s2) _ fun vs H3 s3 dvs => q (v :: vs) H3 (s2.trans s3) (.cons (dv.mono s3) dvs)
theorem DVs.length : ∀ {ds : List D} {vs : List V}, DVs K H ds vs → ds.length = vs.length
  | _, _, .nil => rfl
  | _, _, .cons _ r => congrArg (· + 1) (DVs.length r)
theorem evd_tup (h : EvDs K tas σ H ds) (hl : Nat.ble ds.length 1000 = true := by rfl) : EvD K (tTup tas) σ H (.tup ds) := fun H1 s Q q =>
  h H1 s _ fun vs H2 s2 dvs => ⟨by rw [← dvs.length]; exact sz1000 hl, fun p hp => q _ _ (s2.trans (Same.new hp)) (.tup (sqT_of upd_same) (dvs.mono (Same.new hp)))⟩
theorem evd_lst (h : EvDs K tas σ H ds) (hl : Nat.ble ds.length 1000 = true := by rfl) : EvD K (tLst tas) σ H (.lst ds) := fun H1 s Q q =>
  h H1 s _ fun vs H2 s2 dvs => ⟨by rw [← dvs.length]; exact sz1000 hl, fun p hp => q _ _ (s2.trans (Same.new hp)) (.lst upd_same (dvs.mono (Same.new hp)))⟩
theorem evd_call {sp : Sp} (h : EvDs K tas σ H ds) (hs : ∀ vs H1 Q E, Same H H1 → DVs K H1 ds vs → Ret K H1 Q d → sp vs H1 Q E) : EvD K (tCall sp [] E0 tas) σ H d := fun H1 s Q q =>
  h H1 s _ fun vs H2 s2 dvs => by
    show sp (vs ++ []) H2 Q E0
    rw [List.append_nil]
    exact hs vs H2 Q E0 (s.trans s2) dvs fun v H3 s3 dv => q v H3 (s2.trans s3) dv
theorem evd_add {i j : Int} (ha : EvD K ta σ H (.int i)) (hb : EvD K tb σ H (.int j)) : EvD K (tOp (rI0 fun i j => .int (i + j)) ta tb) σ H (.int (i + j)) := fun H1 s Q q =>
  ha H1 s _ fun v H2 s2 dv => hb H2 (s.trans s2) _ fun u H3 s3 du => by
    cases dv; cases du
    exact ⟨_, _, rfl, rfl, q _ H3 (s2.trans s3) (.int _)⟩
/-- two lists joined -/
theorem evd_cat {xs ys : List D} (ha : EvD K ta σ H (.lst xs)) (hb : EvD K tb σ H (.lst ys)) (hl : Nat.ble (xs.length + ys.length) 1000 = true := by rfl) : EvD K (tOp rCat ta tb) σ H (.lst (xs ++ ys)) := fun H1 s Q q =>
  ha H1 s _ fun v H2 s2 dv => hb H2 (s.trans s2) _ fun u H3 s3 du => by
    cases dv.mono s3 with
    | lst h1 r1 =>
      cases du with
      | lst h2 r2 =>
        refine ⟨_, _, _, _, rfl, rfl, h1, h2, by rw [← r1.length, ← r2.length]; exact sz1000 hl, fun p hp => ?_⟩
        exact q _ _ ((s2.trans s3).trans (Same.new hp)) (.lst upd_same (DVs.append (r1.mono (Same.new hp)) (r2.mono (Same.new hp))))
where
  DVs.append {H : Hp} : ∀ {ds es : List D} {vs us : List V}, DVs K H ds vs → DVs K H es us → DVs K H (ds ++ es) (vs ++ us)
    | _, _, _, _, .nil, r => r
    | _, _, _, _, .cons h t, r => .cons h (DVs.append t r)
end
theorem DVs.append {K : PySem.W.Frag} {H : Hp} : ∀ {ds es : List D} {vs us : List V}, DVs K H ds vs → DVs K H es us → DVs K H (ds ++ es) (vs ++ us)
    | _, _, _, _, .nil, r => r
    | _, _, _, _, .cons h t, r => .cons h (DVs.append t r)

section
variable {K : PySem.W.Frag} {σ : L2.St} {H : Hp} {te : TE} {ta : TA} {d : D} {ds : List D} {u : TS} {D' : Ends} {i : Nat} {sp : Sp}
theorem st_set (d : D) (h : EvD K te σ H d) (q : ∀ v H2, Same H H2 → DV K H2 d v → u D' (σ.set i (some v)) H2) : tSeq (tAsg te (gName i)) u D' σ H := h.go q
theorem st_set1 (d : D) (h : EvD K te σ H d) (q : ∀ v H2, Same H H2 → DV K H2 d v → D'.nx (σ.set i (some v)) H2) : tAsg te (gName i) D' σ H := h.go q
theorem st_setL (h : EvDs K ta σ H ds) (q : ∀ p vs H2, Same H H2 → H2 p = none → DVs K H2 ds vs → u D' (σ.set i (some (.ref p))) (upd H2 p (.lst vs))) (hl : Nat.ble ds.length 1000 = true := by rfl) : tSeq (tAsg (tLst ta) (gName i)) u D' σ H :=
  h.go fun vs H2 s2 dvs => ⟨by rw [← dvs.length]; exact sz1000 hl, fun p hp => q p vs H2 s2 hp dvs⟩
theorem st_ret (d : D) (h : EvD K te σ H d) (q : ∀ v H2, Same H H2 → DV K H2 d v → D'.rt v H2) : tRet te D' σ H := h.go q
end
/-! ### the text's facts -/
structure Blt (mg : Str → Option Value) : Prop where
  len : mg "len" = none
  range : mg "range" = none
  list : mg "list" = none
  tuple : mg "tuple" = none
  dict : mg "dict" = none
  int : mg "int" = none
  max : mg "max" = none
  min : mg "min" = none
  any : mg "any" = none
  sum : mg "sum" = none
  abs : mg "abs" = none
  enumerate : mg "enumerate" = none
  isinstance : mg "isinstance" = none
  reversed : mg "reversed" = none
  super : mg "super" = none
structure Tx (K : PySem.W.Frag) (mg : Str → Option Value) (aR : Addr) : Prop where
  b : Blt mg
  gRETRY : mg "RETRY" = some (.ref aR)
  retry : ∀ H : Hp, SqT K H aR [.str "retry"]
  gMOST_VALUE : ∃ t, mg "MOST_VALUE" = some (.int 1000000000 t)
  gMOST_STATES : ∃ t, mg "MOST_STATES" = some (.int 3000 t)
  gTICK : ∃ t, mg "TICK" = some (.str "tick" t)

/-! ### the library's mirror -/
abbrev dNum (n : Int) : D := .tup [.str "number", .int n]
abbrev dCell (x : Str) (n : Int) : D := .tup [.str "cell", .str x, dNum n]
abbrev dPut (x : Str) (n : Int) (e : D) : D := .tup [.str "put", .str x, dNum n, e]
abbrev dBin (op : Str) (a b : D) : D := .tup [.str op, a, b]
abbrev dRetry : D := .tup [.str "retry"]
abbrev dRetryIf (e : D) : D := .tup [.str "if", e, .lst [dRetry], .lst []]
abbrev dBlock (body : D) : D := .tup [.str "block", .non, body, .lst []]
abbrev dSend (x : Str) (n : Int) (e : D) : D :=
  dBlock (.lst [dRetryIf (dBin "same" (dCell x (n + 1)) (dNum n)), .tup [.str "put", .str x, dBin "rest" (dBin "plus" (dCell x n) (dCell x (n + 1))) (dNum n), e],
    dPut x (n + 1) (dBin "plus" (dCell x (n + 1)) (dNum 1))])
abbrev dReceive (c : Str) (n : Int) (x : Str) : D :=
  dBlock (.lst [dRetryIf (dBin "same" (dCell c (n + 1)) (dNum 0)), .tup [.str "set", .str x, .tup [.str "cell", .str c, dCell c n]],
    dPut c n (dBin "rest" (dBin "plus" (dCell c n) (dNum 1)) (dNum n)), dPut c (n + 1) (dBin "minus" (dCell c (n + 1)) (dNum 1))])
/-! ### promises -/
def spNumber (K : PySem.W.Frag) : Sp := fun vs H Q _ => ∃ n : Int, DVs K H [.int n] vs ∧ Ret K H Q (dNum n)
def spCell (K : PySem.W.Frag) : Sp := fun vs H Q _ => ∃ (x : Str) (n : Int), DVs K H [.str x, .int n] vs ∧ Ret K H Q (dCell x n)
def spPut (K : PySem.W.Frag) : Sp := fun vs H Q _ => ∃ (x : Str) (n : Int) (e : D), DVs K H [.str x, .int n, e] vs ∧ Ret K H Q (dPut x n e)
def spRetryIf (K : PySem.W.Frag) : Sp := fun vs H Q _ => ∃ (e : D), DVs K H [e] vs ∧ Ret K H Q (dRetryIf e)
def spBlock (K : PySem.W.Frag) : Sp := fun vs H Q _ => ∃ (e : D), DVs K H [e] vs ∧ Ret K H Q (dBlock e)
def spCheck : Sp := fun vs H Q _ => ∃ (n a b : Int), vs = [.int n, .int a, .int b] ∧ a ≤ n ∧ n ≤ b ∧ Q .non H
def spChannel (K : PySem.W.Frag) : Sp := fun vs H Q _ => ∃ (x : Str) (n : Int), DVs K H [.str x, .int n] vs ∧ 1 ≤ n ∧ n ≤ 10 ∧ Ret K H Q (.tup [.str x, .int (n + 2), .int 0])
def spSend (K : PySem.W.Frag) : Sp := fun vs H Q _ => ∃ (x : Str) (n : Int) (e : D), DVs K H [.str x, .int n, e] vs ∧ 1 ≤ n ∧ n ≤ 10 ∧ Ret K H Q (.lst [dSend x n e])
def spReceive (K : PySem.W.Frag) : Sp := fun vs H Q _ => ∃ (c : Str) (n : Int) (x : Str), DVs K H [.str c, .int n, .str x] vs ∧ 1 ≤ n ∧ n ≤ 10 ∧ Ret K H Q (.lst [dReceive c n x])
theorem dvs1 {K : PySem.W.Frag} {H : Hp} {a : D} {vs : List V} (h : DVs K H [a] vs) : ∃ x, vs = [x] ∧ DV K H a x := by
  cases h with | cons h t => cases t; exact ⟨_, rfl, h⟩
theorem dvs2 {K : PySem.W.Frag} {H : Hp} {a b : D} {vs : List V} (h : DVs K H [a, b] vs) : ∃ x y, vs = [x, y] ∧ DV K H a x ∧ DV K H b y := by
  cases h with | cons h t => obtain ⟨y, rfl, q⟩ := dvs1 t; exact ⟨_, _, rfl, h, q⟩
theorem dvs3 {K : PySem.W.Frag} {H : Hp} {a b c : D} {vs : List V} (h : DVs K H [a, b, c] vs) : ∃ x y z, vs = [x, y, z] ∧ DV K H a x ∧ DV K H b y ∧ DV K H c z := by
  cases h with | cons h t => obtain ⟨y, z, rfl, q⟩ := dvs2 t; exact ⟨_, _, _, rfl, h, q⟩
theorem dvs4 {K : PySem.W.Frag} {H : Hp} {a b c d : D} {vs : List V} (h : DVs K H [a, b, c, d] vs) : ∃ x y z w, vs = [x, y, z, w] ∧ DV K H a x ∧ DV K H b y ∧ DV K H c z ∧ DV K H d w := by
  cases h with | cons h t => obtain ⟨y, z, w, rfl, q⟩ := dvs3 t; exact ⟨_, _, _, _, rfl, h, q⟩
section
variable {P : Program} {w : World} {K : PySem.W.Frag} {mg : Str → Option Value} {base : Heap} {aR : Addr}
abbrev sNumber : Stmt := top 8
abbrev sCell : Stmt := top 9
abbrev sPut : Stmt := top 10
abbrev sRetryIf : Stmt := top 11
abbrev sBlock : Stmt := top 12
abbrev sCheck : Stmt := top 13
abbrev sChannel : Stmt := top 14
abbrev sSend : Stmt := top 15
abbrev sReceive : Stmt := top 16
theorem ok_number (T : Tx K mg aR) (F : DefAt K mg "_number" sNumber) : Cal P w K mg base 1 "_number" (spNumber K) := by
  have S : FnScope ["n"] ["n"] (defScope sNumber) := ⟨rfl, rfl, rfl, by decide +kernel, rfl, by decide +kernel, by decide +kernel⟩
  refine cal_mk F S (fun _ _ _ _ _ _ us hl => match us, hl with | [_], _ => rfl) (fun vs H Q E h => ?_) (fun f cdv A outer s H vs Q E hr h => ?_)
  · obtain ⟨n, h, _⟩ := h
    exact h.length.symm
  · obtain ⟨n, h, k⟩ := h
    obtain ⟨x, rfl, h1⟩ := dvs1 h
    refine ⟨_, (pss_one (ps_ret (pe_tup (pa_cons pe_str (pa_cons (pv 0) pa_nil))))), ?_⟩
    exact (evd_tup (evds_cons evd_str (evds_cons (evd_var h1) evds_nil))).go k
theorem ok_cell (T : Tx K mg aR) (F : DefAt K mg "_cell" sCell) (c_number : Cal P w K mg base 1 "_number" (spNumber K)) : Cal P w K mg base 2 "_cell" (spCell K) := by
  have S : FnScope ["name", "n"] ["name", "n"] (defScope sCell) := ⟨rfl, rfl, rfl, by decide +kernel, rfl, by decide +kernel, by decide +kernel⟩
  refine cal_mk F S (fun _ _ _ _ _ _ us hl => match us, hl with | [_, _], _ => rfl) (fun vs H Q E h => ?_) (fun f cdv A outer s H vs Q E hr h => ?_)
  · obtain ⟨x, n, h, _⟩ := h
    exact h.length.symm
  · obtain ⟨x, n, h, k⟩ := h
    obtain ⟨_, _, rfl, h1, h2⟩ := dvs2 h
    refine ⟨_, (pss_one (ps_ret (pe_tup (pa_cons pe_str (pa_cons (pv 0) (pa_cons (pe_c c_number hr (pa_cons (pv 1) pa_nil)) pa_nil)))))), ?_⟩
    exact (evd_tup (evds_cons evd_str (evds_cons (evd_var h1) (evds_cons (evd_call (evds_cons (evd_var h2) evds_nil) fun vs H1 Q E s a r => ⟨n, a, r⟩) evds_nil)))).go k
theorem ok_put (T : Tx K mg aR) (F : DefAt K mg "_put" sPut) (c_number : Cal P w K mg base 1 "_number" (spNumber K)) : Cal P w K mg base 2 "_put" (spPut K) := by
  have S : FnScope ["name", "n", "expression"] ["name", "n", "expression"] (defScope sPut) := ⟨rfl, rfl, rfl, by decide +kernel, rfl, by decide +kernel, by decide +kernel⟩
  refine cal_mk F S (fun _ _ _ _ _ _ us hl => match us, hl with | [_, _, _], _ => rfl) (fun vs H Q E h => ?_) (fun f cdv A outer s H vs Q E hr h => ?_)
  · obtain ⟨x, n, e, h, _⟩ := h
    exact h.length.symm
  · obtain ⟨x, n, e, h, k⟩ := h
    obtain ⟨_, _, _, rfl, h1, h2, h3⟩ := dvs3 h
    refine ⟨_, (pss_one (ps_ret (pe_tup (pa_cons pe_str (pa_cons (pv 0) (pa_cons (pe_c c_number hr (pa_cons (pv 1) pa_nil)) (pa_cons (pv 2) pa_nil))))))), ?_⟩
    exact (evd_tup (evds_cons evd_str (evds_cons (evd_var h1) (evds_cons (evd_call (evds_cons (evd_var h2) evds_nil) fun vs H1 Q E s a r => ⟨n, a, r⟩) (evds_cons (evd_var h3) evds_nil))))).go k
theorem ok_retry_if (T : Tx K mg aR) (F : DefAt K mg "_retry_if" sRetryIf) : Cal P w K mg base 1 "_retry_if" (spRetryIf K) := by
  have S : FnScope ["expression"] ["expression"] (defScope sRetryIf) := ⟨rfl, rfl, rfl, by decide +kernel, rfl, by decide +kernel, by decide +kernel⟩
  refine cal_mk F S (fun _ _ _ _ _ _ us hl => match us, hl with | [_], _ => rfl) (fun vs H Q E h => ?_) (fun f cdv A outer s H vs Q E hr h => ?_)
  · obtain ⟨n, h, _⟩ := h
    exact h.length.symm
  · obtain ⟨n, h, k⟩ := h
    obtain ⟨x, rfl, h1⟩ := dvs1 h
    refine ⟨_, (pss_one (ps_ret (pe_tup (pa_cons pe_str (pa_cons (pv 0) (pa_cons (pe_lst (pa_cons (pe_glob (v := .ref aR) rfl T.gRETRY rfl) pa_nil)) (pa_cons (pe_lst pa_nil) pa_nil))))))), ?_⟩
    exact (evd_tup (evds_cons evd_str (evds_cons (evd_var h1) (evds_cons (evd_lst (evds_cons (evd_ref (.tup (T.retry H) (.cons (.str _) .nil))) evds_nil)) (evds_cons (evd_lst evds_nil) evds_nil))))).go k
theorem ok_block (T : Tx K mg aR) (F : DefAt K mg "_block" sBlock) : Cal P w K mg base 1 "_block" (spBlock K) := by
  have S : FnScope ["body"] ["body"] (defScope sBlock) := ⟨rfl, rfl, rfl, by decide +kernel, rfl, by decide +kernel, by decide +kernel⟩
  refine cal_mk F S (fun _ _ _ _ _ _ us hl => match us, hl with | [_], _ => rfl) (fun vs H Q E h => ?_) (fun f cdv A outer s H vs Q E hr h => ?_)
  · obtain ⟨n, h, _⟩ := h
    exact h.length.symm
  · obtain ⟨n, h, k⟩ := h
    obtain ⟨x, rfl, h1⟩ := dvs1 h
    refine ⟨_, (pss_one (ps_ret (pe_tup (pa_cons pe_str (pa_cons pe_non (pa_cons (pv 0) (pa_cons (pe_lst pa_nil) pa_nil))))))), ?_⟩
    exact (evd_tup (evds_cons evd_str (evds_cons evd_non (evds_cons (evd_var h1) (evds_cons (evd_lst evds_nil) evds_nil))))).go k
theorem ok_check (T : Tx K mg aR) (F : DefAt K mg "_check" sCheck) : Cal P w K mg base 1 "_check" spCheck := by
  have S : FnScope ["n", "least", "most"] ["n", "least", "most"] (defScope sCheck) := ⟨rfl, rfl, rfl, by decide +kernel, rfl, by decide +kernel, by decide +kernel⟩
  refine cal_mk F S (fun _ _ _ _ _ _ us hl => match us, hl with | [_, _, _], _ => rfl) (fun vs H Q E h => ?_) (fun f cdv A outer s H vs Q E hr h => ?_)
  · obtain ⟨n, a, b, rfl, _⟩ := h
    rfl
  · obtain ⟨n, a, b, rfl, h1, h2, k⟩ := h
    refine ⟨_, (pss_one (ps_if (pt_not (pt_chain op_le op_le (pv 1) (pv 0) (pv 2))) (pss_one ps_never) pss_nil)), ?_⟩
    refine ⟨_, rfl, _, rfl, _, _, rfl, rfl, _, rfl, ?_⟩
    rw [decide_eq_true h1]
    refine iteT ⟨_, rfl, _, _, rfl, rfl, _, rfl, ?_⟩
    rw [decide_eq_true h2]
    exact iteF k
end
end HK


set_option maxRecDepth 100000
set_option maxHeartbeats 4000000
/-! A3: send, receive, channel. -/
namespace HK
open PySem PySem.Spec PyProof.Rows L2
section
variable {P : Program} {w : World} {K : PySem.W.Frag} {mg : Str → Option Value} {base : Heap} {aR : Addr}
theorem ok_channel (T : Tx K mg aR) (F : DefAt K mg "channel" sChannel) (c_check : Cal P w K mg base 1 "_check" spCheck) : Cal P w K mg base 2 "channel" (spChannel K) := by
  have S : FnScope ["name", "n"] ["name", "n"] (defScope sChannel) := ⟨rfl, rfl, rfl, by decide +kernel, rfl, by decide +kernel, by decide +kernel⟩
  refine cal_mk F S (fun _ _ _ _ _ _ us hl => match us, hl with | [_, _], _ => rfl) (fun vs H Q E h => ?_) (fun f cdv A outer s H vs Q E hr h => ?_)
  · obtain ⟨x, n, h, _⟩ := h
    exact h.length.symm
  · obtain ⟨x, n, h, l1, l2, k⟩ := h
    obtain ⟨_, _, rfl, h1, h2⟩ := dvs2 h
    cases h1; cases h2
    refine ⟨_, (pss_cons (ps_expr (pe_c c_check hr (pa_cons (pv 1) (pa_cons pe_int (pa_cons pe_int pa_nil)))))
  (pss_one (ps_ret (pe_tup (pa_cons (pv 0) (pa_cons (pe_op op_add (pv 1) pe_int) (pa_cons pe_int pa_nil))))))), ?_⟩
    refine ⟨_, rfl, n, 1, 10, rfl, l1, l2, ?_⟩
    dsimp only
    exact (evd_tup (evds_cons (evd_var (.str x)) (evds_cons (evd_add (evd_var (.int n)) evd_int) (evds_cons evd_int evds_nil)))).go k
theorem ok_send (T : Tx K mg aR) (F : DefAt K mg "send" sSend) (c_check : Cal P w K mg base 1 "_check" spCheck) (c_number : Cal P w K mg base 1 "_number" (spNumber K)) (c_cell : Cal P w K mg base 2 "_cell" (spCell K))
    (c_put : Cal P w K mg base 2 "_put" (spPut K)) (c_retry_if : Cal P w K mg base 1 "_retry_if" (spRetryIf K)) (c_block : Cal P w K mg base 1 "_block" (spBlock K)) : Cal P w K mg base 3 "send" (spSend K) := by
  have S : FnScope ["name", "n", "expression", "count", "place", "body"] ["name", "n", "expression"] (defScope sSend) := ⟨rfl, rfl, rfl, by decide +kernel, rfl, by decide +kernel, by decide +kernel⟩
  refine cal_mk F S (fun _ _ _ _ _ _ us hl => match us, hl with | [_, _, _], _ => rfl) (fun vs H Q E h => ?_) (fun f cdv A outer s H vs Q E hr h => ?_)
  · obtain ⟨x, n, e, h, _⟩ := h
    exact h.length.symm
  · obtain ⟨x, n, e, h, l1, l2, k⟩ := h
    obtain ⟨_, _, u, rfl, h1, h2, h3⟩ := dvs3 h
    cases h1; cases h2
    refine ⟨_, (pss_cons (ps_expr (pe_c c_check hr (pa_cons (pv 1) (pa_cons pe_int (pa_cons pe_int pa_nil)))))
  (pss_cons (ps_set (i := 3) S.nd rfl (Or.inl rfl) (pe_c c_cell hr (pa_cons (pv 0) (pa_cons (pe_op op_add (pv 1) pe_int) pa_nil))))
  (pss_cons (ps_set (i := 4) S.nd rfl (Or.inl rfl) (pe_tup (pa_cons pe_str (pa_cons (pe_tup (pa_cons pe_str (pa_cons (pe_c c_cell hr (pa_cons (pv 0) (pa_cons (pv 1) pa_nil))) (pa_cons (pv 3) pa_nil)))) (pa_cons (pe_c c_number hr (pa_cons (pv 1) pa_nil)) pa_nil)))))
  (pss_cons (ps_set (i := 5) S.nd rfl (Or.inl rfl) (pe_lst (pa_cons (pe_c c_retry_if hr (pa_cons (pe_tup (pa_cons pe_str (pa_cons (pv 3) (pa_cons (pe_c c_number hr (pa_cons (pv 1) pa_nil)) pa_nil)))) pa_nil)) (pa_cons (pe_tup (pa_cons pe_str (pa_cons (pv 0) (pa_cons (pv 4) (pa_cons (pv 2) pa_nil))))) pa_nil))))
  (pss_one (ps_ret (pe_lst (pa_cons (pe_c c_block hr (pa_cons (pe_op op_cat (pv 5) (pe_lst (pa_cons (pe_c c_put hr (pa_cons (pv 0) (pa_cons (pe_op op_add (pv 1) pe_int) (pa_cons (pe_tup (pa_cons pe_str (pa_cons (pv 3) (pa_cons (pe_c c_number hr (pa_cons pe_int pa_nil)) pa_nil)))) pa_nil)))) pa_nil))) pa_nil)) pa_nil)))))))), ?_⟩
    refine ⟨_, rfl, n, 1, 10, rfl, l1, l2, ?_⟩
    dsimp only
    refine st_set (K := K) (dCell x (n + 1)) ?_ fun v1 H1 s1 d1 => ?_
    · exact evd_call (evds_cons (evd_var (.str x)) (evds_cons (evd_add (evd_var (.int n)) evd_int) evds_nil)) fun vs H1 Q E s a r => ⟨x, n + 1, a, r⟩
    refine st_set (K := K) (dBin "rest" (dBin "plus" (dCell x n) (dCell x (n + 1))) (dNum n)) ?_ fun v2 H2 s2 d2 => ?_
    · exact evd_tup (evds_cons evd_str (evds_cons (evd_tup (evds_cons evd_str (evds_cons (evd_call (evds_cons (evd_var (.str x)) (evds_cons (evd_var (.int n)) evds_nil)) fun vs H1 Q E s a r => ⟨x, n, a, r⟩) (evds_cons (evd_var d1) evds_nil))))
        (evds_cons (evd_call (evds_cons (evd_var (.int n)) evds_nil) fun vs H1 Q E s a r => ⟨n, a, r⟩) evds_nil)))
    refine st_set (K := K) (.lst [dRetryIf (dBin "same" (dCell x (n + 1)) (dNum n)), .tup [.str "put", .str x, dBin "rest" (dBin "plus" (dCell x n) (dCell x (n + 1))) (dNum n), e]]) ?_ fun v3 H3 s3 d3 => ?_
    · exact evd_lst (evds_cons (evd_call (evds_cons (evd_tup (evds_cons evd_str (evds_cons (evd_var (d1.mono s2)) (evds_cons (evd_call (evds_cons (evd_var (.int n)) evds_nil) fun vs H1 Q E s a r => ⟨n, a, r⟩) evds_nil)))) evds_nil) fun vs H1 Q E s a r => ⟨_, a, r⟩)
        (evds_cons (evd_tup (evds_cons evd_str (evds_cons (evd_var (.str x)) (evds_cons (evd_var d2) (evds_cons (evd_var (h3.mono (s1.trans s2))) evds_nil))))) evds_nil))
    refine st_ret (K := K) (.lst [dSend x n e]) ?_ fun v4 H4 s4 d4 => ?_
    · exact evd_lst (evds_cons (evd_call (evds_cons (evd_cat (evd_var d3) (evd_lst (evds_cons (evd_call (evds_cons (evd_var (.str x)) (evds_cons (evd_add (evd_var (.int n)) evd_int)
        (evds_cons (evd_tup (evds_cons evd_str (evds_cons (evd_var (d1.mono (s2.trans s3))) (evds_cons (evd_call (evds_cons evd_int evds_nil) fun vs H1 Q E s a r => ⟨1, a, r⟩) evds_nil)))) evds_nil))) fun vs H1 Q E s a r => ⟨_, _, _, a, r⟩) evds_nil))) evds_nil) fun vs H1 Q E s a r => ⟨_, a, r⟩) evds_nil)
    exact k _ _ (((s1.trans s2).trans s3).trans s4) d4
theorem ok_receive (T : Tx K mg aR) (F : DefAt K mg "receive" sReceive) (c_check : Cal P w K mg base 1 "_check" spCheck) (c_number : Cal P w K mg base 1 "_number" (spNumber K)) (c_cell : Cal P w K mg base 2 "_cell" (spCell K))
    (c_put : Cal P w K mg base 2 "_put" (spPut K)) (c_retry_if : Cal P w K mg base 1 "_retry_if" (spRetryIf K)) (c_block : Cal P w K mg base 1 "_block" (spBlock K)) : Cal P w K mg base 3 "receive" (spReceive K) := by
  have S : FnScope ["name", "n", "x", "first", "count", "body"] ["name", "n", "x"] (defScope sReceive) := ⟨rfl, rfl, rfl, by decide +kernel, rfl, by decide +kernel, by decide +kernel⟩
  refine cal_mk F S (fun _ _ _ _ _ _ us hl => match us, hl with | [_, _, _], _ => rfl) (fun vs H Q E h => ?_) (fun f cdv A outer s H vs Q E hr h => ?_)
  · obtain ⟨x, n, e, h, _⟩ := h
    exact h.length.symm
  · obtain ⟨c, n, x, h, l1, l2, k⟩ := h
    obtain ⟨_, _, _, rfl, h1, h2, h3⟩ := dvs3 h
    cases h1; cases h2; cases h3
    refine ⟨_, (pss_cons (ps_expr (pe_c c_check hr (pa_cons (pv 1) (pa_cons pe_int (pa_cons pe_int pa_nil)))))
  (pss_cons (ps_set (i := 3) S.nd rfl (Or.inl rfl) (pe_c c_cell hr (pa_cons (pv 0) (pa_cons (pv 1) pa_nil))))
  (pss_cons (ps_set (i := 4) S.nd rfl (Or.inl rfl) (pe_c c_cell hr (pa_cons (pv 0) (pa_cons (pe_op op_add (pv 1) pe_int) pa_nil))))
  (pss_cons (ps_set (i := 5) S.nd rfl (Or.inl rfl) (pe_lst (pa_cons (pe_c c_retry_if hr (pa_cons (pe_tup (pa_cons pe_str (pa_cons (pv 4) (pa_cons (pe_c c_number hr (pa_cons pe_int pa_nil)) pa_nil)))) pa_nil)) (pa_cons (pe_tup (pa_cons pe_str (pa_cons (pv 2) (pa_cons (pe_tup (pa_cons pe_str (pa_cons (pv 0) (pa_cons (pv 3) pa_nil)))) pa_nil)))) pa_nil))))
  (pss_cons (ps_expr (pe_bm PySem.F.plainAttrs_list PySem.F.slot_list_append PySem.F.type_list_append mt_append (pv 5) (pa_cons (pe_c c_put hr (pa_cons (pv 0) (pa_cons (pv 1) (pa_cons (pe_tup (pa_cons pe_str (pa_cons (pe_tup (pa_cons pe_str (pa_cons (pv 3) (pa_cons (pe_c c_number hr (pa_cons pe_int pa_nil)) pa_nil)))) (pa_cons (pe_c c_number hr (pa_cons (pv 1) pa_nil)) pa_nil)))) pa_nil)))) pa_nil)))
  (pss_one (ps_ret (pe_lst (pa_cons (pe_c c_block hr (pa_cons (pe_op op_cat (pv 5) (pe_lst (pa_cons (pe_c c_put hr (pa_cons (pv 0) (pa_cons (pe_op op_add (pv 1) pe_int) (pa_cons (pe_tup (pa_cons pe_str (pa_cons (pv 4) (pa_cons (pe_c c_number hr (pa_cons pe_int pa_nil)) pa_nil)))) pa_nil)))) pa_nil))) pa_nil)) pa_nil))))))))), ?_⟩
    refine ⟨_, rfl, n, 1, 10, rfl, l1, l2, ?_⟩
    dsimp only
    refine st_set (K := K) (dCell c n) ?_ fun v1 H1 s1 d1 => ?_
    · exact evd_call (evds_cons (evd_var (.str c)) (evds_cons (evd_var (.int n)) evds_nil)) fun vs H1 Q E s a r => ⟨c, n, a, r⟩
    refine st_set (K := K) (dCell c (n + 1)) ?_ fun v2 H2 s2 d2 => ?_
    · exact evd_call (evds_cons (evd_var (.str c)) (evds_cons (evd_add (evd_var (.int n)) evd_int) evds_nil)) fun vs H1 Q E s a r => ⟨c, n + 1, a, r⟩
    refine st_setL (K := K) (ds := [dRetryIf (dBin "same" (dCell c (n + 1)) (dNum 0)), .tup [.str "set", .str x, .tup [.str "cell", .str c, dCell c n]]]) ?_ fun p vs H3 s3 np r3 => ?_
    · exact (evds_cons (evd_call (evds_cons (evd_tup (evds_cons evd_str (evds_cons (evd_var d2) (evds_cons (evd_call (evds_cons evd_int evds_nil) fun vs H1 Q E s a r => ⟨0, a, r⟩) evds_nil)))) evds_nil) fun vs H1 Q E s a r => ⟨_, a, r⟩)
        (evds_cons (evd_tup (evds_cons evd_str (evds_cons (evd_var (.str x)) (evds_cons (evd_tup (evds_cons evd_str (evds_cons (evd_var (.str c)) (evds_cons (evd_var (d1.mono s2)) evds_nil)))) evds_nil)))) evds_nil))
    refine ⟨_, rfl, .inl ⟨rfl, _, sqL_of upd_same⟩, ?_⟩
    refine EvDs.go (K := K) (ds := [dPut c n (dBin "rest" (dBin "plus" (dCell c n) (dNum 1)) (dNum n))]) ?_ fun vs4 H4 s4 d4 => ?_
    · exact evds_cons (evd_call (evds_cons (evd_var (.str c)) (evds_cons (evd_var (.int n)) (evds_cons (evd_tup (evds_cons evd_str (evds_cons (evd_tup (evds_cons evd_str (evds_cons (evd_var (d1.mono ((s2.trans s3).trans (Same.new np))))
        (evds_cons (evd_call (evds_cons evd_int evds_nil) fun vs H1 Q E s a r => ⟨1, a, r⟩) evds_nil)))) (evds_cons (evd_call (evds_cons (evd_var (.int n)) evds_nil) fun vs H1 Q E s a r => ⟨n, a, r⟩) evds_nil)))) evds_nil))) fun vs H1 Q E s a r => ⟨_, _, _, a, r⟩) evds_nil
    obtain ⟨v4, rfl, e4⟩ := dvs1 d4
    have b4 : H4 p = some (.lst vs) := s4 _ _ upd_same
    refine ⟨p, _, _, rfl, rfl, b4, ?_, ?_⟩
    · rw [← r3.length]
      exact Nat.lt_of_lt_of_le (by decide : 2 < 100) (by decide)
    have s35 : Same H3 (upd H4 p (.lst (vs ++ [v4]))) := ((Same.new np).trans s4).mut np
    generalize hH5 : upd H4 p (.lst (vs ++ [v4])) = H5 at s35
    have b5 : H5 p = some (.lst (vs ++ [v4])) := by rw [← hH5]; exact upd_same
    have d5 : DV K H5 (dPut c n (dBin "rest" (dBin "plus" (dCell c n) (dNum 1)) (dNum n))) v4 := by rw [← hH5]; exact e4.tups (Tups.upd b4 nt_lst) rfl
    dsimp only
    refine st_ret (K := K) (.lst [dReceive c n x]) ?_ fun v6 H6 s6 d6 => ?_
    · exact evd_lst (evds_cons (evd_call (evds_cons (evd_cat (evd_var (.lst b5 ((r3.mono s35).append (.cons d5 .nil)))) (evd_lst (evds_cons (evd_call (evds_cons (evd_var (.str c)) (evds_cons (evd_add (evd_var (.int n)) evd_int)
        (evds_cons (evd_tup (evds_cons evd_str (evds_cons (evd_var (d2.mono (s3.trans s35))) (evds_cons (evd_call (evds_cons evd_int evds_nil) fun vs H1 Q E s a r => ⟨1, a, r⟩) evds_nil)))) evds_nil))) fun vs H1 Q E s a r => ⟨_, _, _, a, r⟩) evds_nil))) evds_nil) fun vs H1 Q E s a r => ⟨_, a, r⟩) evds_nil)
    exact k _ _ ((((s1.trans s2).trans s3).trans s35).trans s6) d6
end
end HK


set_option maxRecDepth 100000
set_option maxHeartbeats 4000000
/-! A4: more words over Evl; the values' defs; evaluate_slots. -/
namespace HK
open PySem PySem.Spec PyProof.Rows L2
open Evl (Ex Ev EvT EvA EvL EvU RetV ev_var ev_c ev_op ev_un ea_nil ea_cons et_test et_B et_and et_or et_not ev_call ev_cb rv_I0 rv_I rv_eq rv_ixL rv_ixT ev_inU ev_niU eu_tup el_lst ev_len el_list q_when q_if q_asg q_drop s_asg s_ret s_if s_drop)

/-! ### words -/
section
variable {K : PySem.W.Frag} {σ : L2.St} {H H' : Hp} {ta tb tc te : TE} {t : TA} {x y z v : V} {d : D} {sp : Sp} {vs : List V} {C p dx : Addr} {fs : List (Str × V)} {f m : Str} {Q : VK}
theorem evd_ev (h : Ev te σ H v) (dv : DV K H d v) : EvD K te σ H d := fun H1 s Q q => h H1 s Q fun H2 s2 => q v H2 s2 (dv.mono (s.trans s2))
theorem ev_evd_int {i : Int} (h : EvD K te σ H (.int i)) : Ev te σ H (.int i) := fun H1 s Q q => h H1 s Q fun v H2 s2 dv => by cases dv; exact q H2 s2
theorem ev_evd_str {i : Str} (h : EvD K te σ H (.str i)) : Ev te σ H (.str i) := fun H1 s Q q => h H1 s Q fun v H2 s2 dv => by cases dv; exact q H2 s2
theorem ev_v {i : Nat} (h : σ[i]? = some (some v) := by rfl) : Ev (tVar i) σ H v := ev_var h
theorem ev_fld (h : Ev ta σ H (.ref p)) (ho : H p = some (.ins C dx fs)) (hc : Cls K C) (hn : NoAttr K C f) (hl : fs.lookup f = some v) : Ev (tFld K ta f) σ H v := fun H1 e Q q =>
  h H1 e _ fun H2 e2 => ⟨p, C, dx, fs, v, rfl, e2 _ _ (e _ _ ho), hc, hn, hl, q H2 e2⟩
theorem ev_meth (h : Ev ta σ H (.ref p)) (ho : H p = some (.ins C dx fs)) (hl : fs.lookup m = none) (ht : EvA t σ H vs) (hs : Evl.SpV sp (.ref p :: vs) H z) : Ev (tMeth C m sp [] E0 ta t) σ H z := fun H1 e Q q =>
  h H1 e _ fun H2 e2 => ⟨p, dx, fs, rfl, e2 _ _ (e _ _ ho), hl, ht H2 (Ex.trans e e2) _ fun H3 e3 => by
    rw [List.append_nil]
    exact hs H3 (Ex.trans (Ex.trans e e2) e3) Q (fun H4 e4 => q H4 (Ex.trans (Ex.trans e2 e3) e4)) E0⟩
theorem go_meth (h : Ev ta σ H (.ref p)) (ho : H p = some (.ins C dx fs)) (hl : fs.lookup m = none) (ht : EvA t σ H vs) (k : ∀ H1, Ex H H1 → sp (.ref p :: vs) H1 Q E0) : tMeth C m sp [] E0 ta t σ H Q :=
  h H (Ex.refl H) _ fun H2 e2 => ⟨p, dx, fs, rfl, e2 _ _ ho, hl, ht H2 e2 _ fun H3 e3 => by
    rw [List.append_nil]
    exact k H3 (Ex.trans e2 e3)⟩
theorem go_call (ht : EvA t σ H vs) (k : ∀ H1, Ex H H1 → sp vs H1 Q E0) : tCall sp [] E0 t σ H Q :=
  ht H (Ex.refl H) _ fun H3 e3 => by
    rw [List.append_nil]
    exact k H3 e3
theorem ev_calln (ht : EvA t σ H vs) (hs : Evl.SpV sp vs H z) : Ev (tCall sp [] E0 t) σ H z := ev_call ht (by rw [List.append_nil]; exact hs)
theorem et_eqS {s1 s2 : Str} {b : Bool} (ha : Ev ta σ H (.str s1)) (hb : Ev tb σ H (.str s2)) (e : decide (s1 = s2) = b := by decide +kernel) : EvT (tTest (tOp rEq ta tb)) σ H b :=
  et_test (ev_op ha hb (by
    have e2 : decide (V.str s1 = V.str s2) = b := by rw [← e]; exact decide_eq_decide.mpr ⟨fun q => V.str.inj q, fun q => by rw [q]⟩
    rw [← e2]
    exact rv_eq rfl))
theorem et_neS {s1 s2 : Str} {b : Bool} (ha : Ev ta σ H (.str s1)) (hb : Ev tb σ H (.str s2)) (e : (!decide (s1 = s2)) = b := by decide +kernel) : EvT (tTest (tOp rNe ta tb)) σ H b :=
  et_test (ev_op ha hb (by
    have e2 : (!decide (V.str s1 = V.str s2)) = b := by rw [← e]; exact congrArg (!·) (decide_eq_decide.mpr ⟨fun q => V.str.inj q, fun q => by rw [q]⟩)
    rw [← e2]
    exact Evl.rv_ne rfl))
theorem ev_eqS {s1 s2 : Str} {b : Bool} (ha : Ev ta σ H (.str s1)) (hb : Ev tb σ H (.str s2)) (e : decide (s1 = s2) = b := by decide +kernel) : Ev (tOp rEq ta tb) σ H (.bl b) :=
  ev_op ha hb (by
    have e2 : decide (V.str s1 = V.str s2) = b := by rw [← e]; exact decide_eq_decide.mpr ⟨fun q => V.str.inj q, fun q => by rw [q]⟩
    rw [← e2]
    exact rv_eq rfl)
theorem et_eqI {i j : Int} (ha : Ev ta σ H (.int i)) (hb : Ev tb σ H (.int j)) : EvT (tTest (tOp rEq ta tb)) σ H (decide (i = j)) :=
  et_test (ev_op ha hb (by
    have e2 : decide (V.int i = V.int j) = decide (i = j) := decide_eq_decide.mpr ⟨fun q => V.int.inj q, fun q => by rw [q]⟩
    rw [← e2]
    exact rv_eq rfl))
theorem ev_eqI {i j : Int} (ha : Ev ta σ H (.int i)) (hb : Ev tb σ H (.int j)) : Ev (tOp rEq ta tb) σ H (.bl (decide (i = j))) :=
  ev_op ha hb (by
    have e2 : decide (V.int i = V.int j) = decide (i = j) := decide_eq_decide.mpr ⟨fun q => V.int.inj q, fun q => by rw [q]⟩
    rw [← e2]
    exact rv_eq rfl)
theorem ev_chain {i j k : Int} {g g' : Int → Int → Bool} (ha : Ev ta σ H (.int i)) (hb : Ev tb σ H (.int j)) (hc : Ev tc σ H (.int k)) :
    Ev (tChain (rI0 fun i j => .bl (g i j)) (rI0 fun i j => .bl (g' i j)) ta tb tc) σ H (.bl (g i j && g' j k)) := fun H1 e Q q =>
  ha H1 e _ fun H2 e2 => hb H2 (Ex.trans e e2) _ fun H3 e3 => ⟨i, j, rfl, rfl, _, rfl, by
    cases hg : g i j with
    | true =>
      rw [hg] at q
      refine iteT (hc H3 (Ex.trans (Ex.trans e e2) e3) _ fun H4 e4 => ⟨j, k, rfl, rfl, ?_⟩)
      exact q H4 (Ex.trans (Ex.trans e2 e3) e4)
    | false =>
      rw [hg] at q
      exact iteF (q H3 (Ex.trans e2 e3))⟩
theorem et_chain {i j k : Int} {g g' : Int → Int → Bool} (ha : Ev ta σ H (.int i)) (hb : Ev tb σ H (.int j)) (hc : Ev tc σ H (.int k)) :
    EvT (tTest (tChain (rI0 fun i j => .bl (g i j)) (rI0 fun i j => .bl (g' i j)) ta tb tc)) σ H (g i j && g' j k) := et_test (ev_chain ha hb hc)
theorem ev_ixt {a : Addr} {xs : List V} {j : Nat} (ha : Ev ta σ H (.ref a)) (hx : SqT K H a xs) (hj : xs[j]? = some v) : Ev (tOp (rIxT K) ta (tC (.int (j : Int)))) σ H v := ev_op ha ev_c (rv_ixT hx (atI_nat hj))
theorem ev_ixl {a : Addr} {xs : List V} {j : Nat} (ha : Ev ta σ H (.ref a)) (hx : SqL K H a xs) (hb : Ev tb σ H (.int (j : Int))) (hj : xs[j]? = some v) : Ev (tOp (rIxL K) ta tb) σ H v := ev_op ha hb (rv_ixL hx (atI_nat hj))
theorem ev_lenl {a : Addr} {xs : List V} (ha : Ev ta σ H (.ref a)) (hx : SqL K H a xs) : Ev (tCB (fun xs H Q => ∃ p ys, xs = [.ref p] ∧ (SqL K H p ys ∨ SqT K H p ys) ∧ Q (.int ys.length) H) (tCons ta tNil)) σ H (.int (xs.length : Int)) := ev_len ha hx
theorem ev_int1 {i : Int} (ha : Ev ta σ H (.int i)) : Ev (tCB (fun xs H Q => (∃ i, xs = [.int i] ∧ Q (.int i) H) ∨ ∃ k, xs = [.bl k] ∧ Q (.int (if k then 1 else 0)) H) (tCons ta tNil)) σ H (.int i) := fun H1 e Q q => ha H1 e _ fun H2 e2 => .inl ⟨i, rfl, q H2 e2⟩
theorem ev_intB {b : Bool} (ha : Ev ta σ H (.bl b)) : Ev (tCB (fun xs H Q => (∃ i, xs = [.int i] ∧ Q (.int i) H) ∨ ∃ k, xs = [.bl k] ∧ Q (.int (if k then 1 else 0)) H) (tCons ta tNil)) σ H (.int (if b then 1 else 0)) := fun H1 e Q q => ha H1 e _ fun H2 e2 => .inr ⟨b, rfl, q H2 e2⟩
end
section
variable {K : PySem.W.Frag} {H : Hp} {ds : List D} {vs : List V}
theorem DVs.at : ∀ {ds : List D} {vs : List V} {i : Nat} {d : D}, DVs K H ds vs → ds[i]? = some d → ∃ v, vs[i]? = some v ∧ DV K H d v
  | _, _, _, _, .nil, e => by simp at e
  | _, _, 0, _, .cons h _, e => ⟨_, rfl, by simp at e; rw [← e]; exact h⟩
  | _, _, i + 1, _, .cons _ r, e => by
    obtain ⟨v, h1, h2⟩ := DVs.at (i := i) r (by simpa using e)
    exact ⟨v, by simpa using h1, h2⟩
end

/-! ### values -/
def chk (n : Int) : Option Int := if -1000000000 ≤ n ∧ n ≤ 1000000000 then some n else none
inductive Op where
  | plus | minus | rest | same
def Op.s : Op → Str
  | .plus => "plus"
  | .minus => "minus"
  | .rest => "rest"
  | .same => "same"
def comb : Op → Int → Int → Option Int
  | .plus, x, y => chk (x + y)
  | .minus, x, y => chk (x - y)
  | .rest, x, y => if 1 ≤ y ∧ y ≤ 10 ∧ chk (x / y) ≠ none then chk (x - y * (x / y)) else none
  | .same, x, y => some (if x = y then 1 else 0)
def spChecked : Sp := fun vs H Q _ => ∃ (n z : Int), vs = [.int n] ∧ chk n = some z ∧ RetV (.int z) H Q
def spCombined : Sp := fun vs H Q _ => ∃ (o : Op) (x y z : Int), vs = [.str o.s, .int x, .int y] ∧ comb o x y = some z ∧ RetV (.int z) H Q
theorem chk_some {n z : Int} (h : chk n = some z) : z = n ∧ -1000000000 ≤ n ∧ n ≤ 1000000000 := by
  unfold chk at h
  split at h
  · rename_i c
    exact ⟨(Option.some.inj h).symm, c⟩
  · cases h
abbrev sChecked : Stmt := top 19
abbrev sCombined : Stmt := top 22
section
variable {P : Program} {w : World} {K : PySem.W.Frag} {mg : Str → Option Value} {base : Heap} {aR : Addr}
theorem ok_checked (T : Tx K mg aR) (F : DefAt K mg "checked" sChecked) : Cal P w K mg base 1 "checked" spChecked := by
  have S : FnScope ["number"] ["number"] (defScope sChecked) := ⟨rfl, rfl, rfl, by decide +kernel, rfl, by decide +kernel, by decide +kernel⟩
  refine cal_mk F S (fun _ _ _ _ _ _ us hl => match us, hl with | [_], _ => rfl) (fun vs H Q E h => ?_) (fun f cdv A outer s H vs Q E hr h => ?_)
  · obtain ⟨n, z, rfl, _⟩ := h
    rfl
  · obtain ⟨n, z, rfl, hz, k⟩ := h
    obtain ⟨rfl, l1, l2⟩ := chk_some hz
    obtain ⟨t_, gMOST_VALUE⟩ := T.gMOST_VALUE
    refine ⟨_, (pss_cons (ps_if (pt_not (pt_chain op_le op_le (pe_un un_neg (pe_glob (v := .int 1000000000) rfl gMOST_VALUE ⟨_, rfl⟩)) (pv 0) (pe_glob (v := .int 1000000000) rfl gMOST_VALUE ⟨_, rfl⟩)))
  (pss_one ps_never)
  pss_nil)
  (pss_one (ps_ret (pv 0)))), ?_⟩
    refine q_when (b := false) ?_ (fun q => nomatch q) fun _ H1 e1 => ?_
    · refine Evl.et_is (et_not (et_chain (i := -1000000000) (j := z) (k := 1000000000) (ev_un ev_c Evl.ru_neg) ev_v ev_c)) ?_
      rw [decide_eq_true l1, decide_eq_true l2]
      rfl
    · exact s_ret ev_v fun H2 e2 => k H2 (Ex.trans e1 e2)
theorem ok_combined (T : Tx K mg aR) (F : DefAt K mg "combined" sCombined) (c_checked : Cal P w K mg base 1 "checked" spChecked) : Cal P w K mg base 2 "combined" spCombined := by
  have S : FnScope ["kind", "first", "second", "quotient"] ["kind", "first", "second"] (defScope sCombined) := ⟨rfl, rfl, rfl, by decide +kernel, rfl, by decide +kernel, by decide +kernel⟩
  refine cal_mk F S (fun _ _ _ _ _ _ us hl => match us, hl with | [_, _, _], _ => rfl) (fun vs H Q E h => ?_) (fun f cdv A outer s H vs Q E hr h => ?_)
  · obtain ⟨o, x, y, z, rfl, _⟩ := h
    rfl
  · obtain ⟨o, x, y, z, rfl, hz, k⟩ := h
    have hck : ∀ (H : Hp) (i : Int) (z : Int), chk i = some z → Evl.SpV spChecked [.int i] H (.int z) := fun H i z h H1 e Q q E => ⟨i, z, rfl, h, q⟩
    refine ⟨_, (pss_cons (ps_if (pt_cmpR op_eq (pv 0) pe_str (nomark _))
  (pss_one (ps_ret (pe_c c_checked hr (pa_cons (pe_op op_add (pv 1) (pv 2)) pa_nil))))
  pss_nil)
  (pss_cons (ps_if (pt_cmpR op_eq (pv 0) pe_str (nomark _))
  (pss_one (ps_ret (pe_c c_checked hr (pa_cons (pe_op op_sub (pv 1) (pv 2)) pa_nil))))
  pss_nil)
  (pss_cons (ps_if (pt_cmpR op_eq (pv 0) pe_str (nomark _))
  (pss_one (ps_ret (pe_c c_checked hr (pa_cons (pe_op op_mul (pv 1) (pv 2)) pa_nil))))
  pss_nil)
  (pss_cons (ps_if (pt_cmpR op_in_seq (pv 0) (pe_tup (pa_cons pe_str (pa_cons pe_str pa_nil))) (by rfl))
  (pss_cons (ps_if (pt_cmpR op_eq (pv 2) pe_int (nomark _))
  pss_never
  pss_nil)
  (pss_cons (ps_set (i := 3) S.nd rfl (Or.inl rfl) (pe_op op_fdiv (pv 1) (pv 2)))
  (pss_one (ps_ret (pe_ifExp (pt_cmpR op_eq (pv 0) pe_str (nomark _)) (pe_c c_checked hr (pa_cons (pv 3) pa_nil)) (pe_c c_checked hr (pa_cons (pe_op op_sub (pv 1) (pe_op op_mul (pv 2) (pv 3))) pa_nil)))))))
  pss_nil)
  (pss_cons (ps_if (pt_cmpR op_eq (pv 0) pe_str (nomark _))
  (pss_one (ps_ret (pe_callTy call_int1 (by rfl) T.b.int (by decide +kernel) (pa_cons (pe_cmpR op_lt (pv 1) (pv 2) (nomark _)) pa_nil))))
  pss_nil)
  (pss_cons (ps_if (pt_cmpR op_eq (pv 0) pe_str (nomark _))
  (pss_one (ps_ret (pe_callTy call_int1 (by rfl) T.b.int (by decide +kernel) (pa_cons (pe_cmpR op_le (pv 1) (pv 2) (nomark _)) pa_nil))))
  pss_nil)
  (pss_one (ps_ret (pe_callTy call_int1 (by rfl) T.b.int (by decide +kernel) (pa_cons (pe_cmpR op_eq (pv 1) (pv 2) (nomark _)) pa_nil)))))))))), ?_⟩
    cases o with
    | plus =>
      refine q_when (b := true) (et_eqS ev_v ev_c) (fun _ H1 e1 => ?_) (fun q => nomatch q)
      exact s_ret (ev_calln (ea_cons (ev_op ev_v ev_v rv_I0) ea_nil) (hck _ _ _ hz)) fun H2 e2 => k H2 (Ex.trans e1 e2)
    | minus =>
      refine q_when (b := false) (et_eqS ev_v ev_c) (fun q => nomatch q) fun _ H1 e1 => ?_
      refine q_when (b := true) (et_eqS ev_v ev_c) (fun _ H2 e2 => ?_) (fun q => nomatch q)
      exact s_ret (ev_calln (ea_cons (ev_op ev_v ev_v rv_I0) ea_nil) (hck _ _ _ hz)) fun H3 e3 => k H3 (Ex.trans (Ex.trans e1 e2) e3)
    | rest =>
      have hz' : (if 1 ≤ y ∧ y ≤ 10 ∧ chk (x / y) ≠ none then chk (x - y * (x / y)) else none) = some z := hz
      by_cases hc : 1 ≤ y ∧ y ≤ 10 ∧ chk (x / y) ≠ none
      · rw [if_pos hc] at hz'
        obtain ⟨y1, y2, _⟩ := hc
        refine q_when (b := false) (et_eqS ev_v ev_c) (fun q => nomatch q) fun _ H1 e1 => ?_
        refine q_when (b := false) (et_eqS ev_v ev_c) (fun q => nomatch q) fun _ H2 e2 => ?_
        refine q_when (b := false) (et_eqS ev_v ev_c) (fun q => nomatch q) fun _ H3 e3 => ?_
        refine q_when (b := true) (et_test (Evl.ev_is (ev_inU ev_v (eu_tup (ea_cons ev_c (ea_cons ev_c ea_nil)) (by decide)) rfl rfl) (by decide +kernel))) (fun _ H4 e4 => ?_) (fun q => nomatch q)
        refine q_when (b := false) (Evl.et_is (et_eqI ev_v ev_c) (decide_eq_false (by omega))) (fun q => nomatch q) fun _ H5 e5 => ?_
        refine q_asg (ev_op ev_v ev_v (rv_I ⟨by omega, by omega⟩)) fun H6 e6 => ?_
        refine s_ret (Evl.ev_if (b := false) (et_eqS ev_v ev_c) (fun q => nomatch q) fun _ => ev_calln (ea_cons (ev_op ev_v (ev_op ev_v ev_v (rv_I (.inl ⟨by omega, by omega⟩))) rv_I0) ea_nil) (hck _ _ _ hz')) fun H7 e7 => ?_
        exact k H7 (Ex.trans (Ex.trans (Ex.trans (Ex.trans (Ex.trans (Ex.trans e1 e2) e3) e4) e5) e6) e7)
      · rw [if_neg hc] at hz'
        cases hz'
    | same =>
      refine q_when (b := false) (et_eqS ev_v ev_c) (fun q => nomatch q) fun _ H1 e1 => ?_
      refine q_when (b := false) (et_eqS ev_v ev_c) (fun q => nomatch q) fun _ H2 e2 => ?_
      refine q_when (b := false) (et_eqS ev_v ev_c) (fun q => nomatch q) fun _ H3 e3 => ?_
      refine q_when (b := false) (et_test (Evl.ev_is (ev_inU ev_v (eu_tup (ea_cons ev_c (ea_cons ev_c ea_nil)) (by decide)) rfl rfl) (by decide +kernel))) (fun q => nomatch q) fun _ H4 e4 => ?_
      refine q_when (b := false) (et_eqS ev_v ev_c) (fun q => nomatch q) fun _ H5 e5 => ?_
      refine q_when (b := false) (et_eqS ev_v ev_c) (fun q => nomatch q) fun _ H6 e6 => ?_
      refine s_ret (ev_intB (ev_eqI ev_v ev_v)) fun H7 e7 => ?_
      have ez : z = (if decide (x = y) = true then 1 else 0) := by
        have q : some (if x = y then (1 : Int) else 0) = some z := hz
        rw [← Option.some.inj q]
        simp
      have e := k H7 (Ex.trans (Ex.trans (Ex.trans (Ex.trans (Ex.trans (Ex.trans e1 e2) e3) e4) e5) e6) e7)
      rw [ez] at e
      exact e
end
end HK


set_option maxRecDepth 100000
set_option maxHeartbeats 4000000
/-! A5: evaluate_slots over flat expressions. -/
namespace HK
open PySem PySem.Spec PyProof.Rows L2
open Evl (Ex Ev EvT EvA EvL EvU RetV ev_var ev_c ev_op ev_un ea_nil ea_cons et_test et_B et_and et_or et_not ev_call ev_cb rv_I0 rv_I rv_eq rv_ixL rv_ixT ev_inU ev_niU eu_tup el_lst ev_len el_list q_when q_if q_asg q_drop s_asg s_ret s_if s_drop)

/-- flat expressions -/
inductive Fx where
  | num (n : Int)
  | slot (i : Nat)
  | bin (o : Op) (a b : Fx)
def Fx.toD : Fx → D
  | .num n => dNum n
  | .slot i => .tup [.str "slot", .int i]
  | .bin o a b => dBin o.s a.toD b.toD
def Fx.dep : Fx → Nat
  | .num _ => 0
  | .slot _ => 0
  | .bin _ a b => max a.dep b.dep + 1
def evalF (fr : List V) : Fx → Option Int
  | .num n => chk n
  | .slot i => match fr[i]? with
    | some (.int x) => some x
    | _ => none
  | .bin o a b => match evalF fr a, evalF fr b with
    | some x, some y => comb o x y
    | _, _ => none
theorem Fx.fl : ∀ e : Fx, e.toD.fl = true
  | .num _ => rfl
  | .slot _ => rfl
  | .bin o a b => by
    show (true && (a.toD.fl && (b.toD.fl && true))) = true
    rw [Fx.fl a, Fx.fl b]
    rfl
/-- the expression at e, the frame at l -/
def spEval (K : PySem.W.Frag) (n : Nat) : Sp := fun vs H Q _ => ∃ (e : Fx) (u : V) (l : Addr) (fr : List V) (z : Int), vs = [u, .ref l] ∧ DV K H e.toD u ∧ SqL K H l fr ∧ e.dep ≤ n ∧ evalF fr e = some z ∧ RetV (.int z) H Q
theorem spEval_mono {K : PySem.W.Frag} {n m : Nat} (h : n ≤ m) {vs : List V} {H : Hp} {Q : VK} {E : XK} (q : spEval K n vs H Q E) : spEval K m vs H Q E := by
  obtain ⟨e, u, l, fr, z, h1, h2, h3, h4, h5⟩ := q
  exact ⟨e, u, l, fr, z, h1, h2, h3, Nat.le_trans h4 h, h5⟩
abbrev sEvaluateSlots : Stmt := top 35
section
variable {P : Program} {w : World} {K : PySem.W.Frag} {mg : Str → Option Value} {base : Heap} {aR : Addr}
theorem ok_eval0 (T : Tx K mg aR) (F : DefAt K mg "evaluate_slots" sEvaluateSlots) (c_checked : Cal P w K mg base 1 "checked" spChecked) (c_combined : Cal P w K mg base 2 "combined" spCombined) {k : Nat} (hk : 2 ≤ k) (n : Nat)
    (rec : n = 0 ∨ ∃ m, n = m + 1 ∧ Cal P w K mg base k "evaluate_slots" (spEval K m)) : Cal P w K mg base (k + 1) "evaluate_slots" (spEval K n) := by
  have S : FnScope ["expression", "frame", "kind", "first"] ["expression", "frame"] (defScope sEvaluateSlots) := ⟨rfl, rfl, rfl, by decide +kernel, rfl, by decide +kernel, by decide +kernel⟩
  refine cal_mk F S (fun _ _ _ _ _ _ us hl => match us, hl with | [_, _], _ => rfl) (fun vs H Q E h => ?_) (fun f cdv A outer s H vs Q E hr h => ?_)
  · obtain ⟨e, u, l, fr, z, rfl, _⟩ := h
    rfl
  · obtain ⟨e, u, l, fr, z, rfl, d, hl, hn, hz, q⟩ := h
    have hck : ∀ (H : Hp) (i : Int) (z : Int), chk i = some z → Evl.SpV spChecked [.int i] H (.int z) := fun H i z h H1 e Q q E => ⟨i, z, rfl, h, q⟩
    have k1 : 1 ≤ k := Nat.le_trans (by decide) hk
    cases e with
    | num n' =>
      refine ⟨_, (pss_cons (ps_set (i := 2) S.nd rfl (Or.inl rfl) (pe_ix ix_tup (pv 0) pe_int (fun _ _ => rfl)))
        (pss_cons (ps_if (pt_cmpR op_eq (pv 2) pe_str (nomark _)) (pss_one (ps_ret (pe_c c_checked hr (pa_cons (pe_ix ix_tup (pv 0) pe_int (fun _ _ => rfl)) pa_nil) k1))) pss_nil) pss_never)), ?_⟩
      cases d with
      | tup hs r =>
        obtain ⟨_, _, rfl, d0, d1⟩ := dvs2 r
        cases d0; cases d1
        refine q_asg (ev_ixt (j := 0) ev_v hs rfl) fun H1 e1 => ?_
        refine q_when (b := true) (et_eqS ev_v ev_c) (fun _ H2 e2 => ?_) (fun q => nomatch q)
        exact s_ret (ev_calln (ea_cons (ev_ixt (j := 1) ev_v ((Same.sqT (Ex.trans e1 e2) hs)) rfl) ea_nil) (hck _ _ _ hz)) fun H3 e3 => q H3 (Ex.trans (Ex.trans e1 e2) e3)
    | slot i =>
      refine ⟨_, (pss_cons (ps_set (i := 2) S.nd rfl (Or.inl rfl) (pe_ix ix_tup (pv 0) pe_int (fun _ _ => rfl)))
        (pss_cons (ps_if (pt_cmpR op_eq (pv 2) pe_str (nomark _)) pss_never pss_nil)
        (pss_cons (ps_if (pt_cmpR op_eq (pv 2) pe_str (nomark _)) (pss_one (ps_ret (pe_ix ix_list (pv 1) (pe_ix ix_tup (pv 0) pe_int (fun _ _ => rfl)) (fun _ _ => rfl)))) pss_nil) pss_never))), ?_⟩
      cases d with
      | tup hs r =>
        obtain ⟨_, _, rfl, d0, d1⟩ := dvs2 r
        cases d0; cases d1
        refine q_asg (ev_ixt (j := 0) ev_v hs rfl) fun H1 e1 => ?_
        refine q_when (b := false) (et_eqS ev_v ev_c) (fun q => nomatch q) fun _ H2 e2 => ?_
        refine q_when (b := true) (et_eqS ev_v ev_c) (fun _ H3 e3 => ?_) (fun q => nomatch q)
        have e13 := Ex.trans (Ex.trans e1 e2) e3
        have hv : fr[i]? = some (.int z) := by
          unfold evalF at hz
          split at hz
          · rename_i x hx
            rw [hx, Option.some.inj hz]
          · cases hz
        exact s_ret (ev_ixl ev_v (Same.seq e13 hl) (ev_ixt (j := 1) ev_v (Same.sqT e13 hs) rfl) hv) fun H4 e4 => q H4 (Ex.trans e13 e4)
    | bin o a b =>
      rcases rec with rfl | ⟨m, rfl, c_evaluate_slots⟩
      · exact absurd hn (Nat.not_succ_le_zero _)
      have hd : max a.dep b.dep ≤ m := Nat.le_of_succ_le_succ hn
      have ha : a.dep ≤ m := Nat.le_trans (Nat.le_max_left _ _) hd
      have hb : b.dep ≤ m := Nat.le_trans (Nat.le_max_right _ _) hd
      obtain ⟨x, y, hx, hy, hc⟩ : ∃ x y, evalF fr a = some x ∧ evalF fr b = some y ∧ comb o x y = some z := by
        unfold evalF at hz
        split at hz
        · rename_i x y hx hy
          exact ⟨x, y, hx, hy, hz⟩
        · cases hz
      refine ⟨_, (pss_cons (ps_set (i := 2) S.nd rfl (Or.inl rfl) (pe_ix ix_tup (pv 0) pe_int (fun _ _ => rfl)))
  (pss_cons (ps_if (pt_cmpR op_eq (pv 2) pe_str (nomark _))
  pss_never
  pss_nil)
  (pss_cons (ps_if (pt_cmpR op_eq (pv 2) pe_str (nomark _))
  pss_never
  pss_nil)
  (pss_cons (ps_set (i := 3) S.nd rfl (Or.inl rfl) (pe_c c_evaluate_slots hr (pa_cons (pe_ix ix_tup (pv 0) pe_int (fun _ _ => rfl)) (pa_cons (pv 1) pa_nil)) (Nat.le_refl _)))
  (pss_cons (ps_if (pt_cmpR op_eq (pv 2) pe_str (nomark _))
  pss_never
  pss_nil)
  (pss_cons (ps_if (pt_cmpR op_eq (pv 2) pe_str (nomark _))
  pss_never
  pss_nil)
  (pss_cons (ps_if (pt_cmpR op_eq (pv 2) pe_str (nomark _))
  pss_never
  pss_nil)
  (pss_cons (ps_if (pt_cmpR op_eq (pv 2) pe_str (nomark _))
  pss_never
  pss_nil)
  (pss_one (ps_ret (pe_c c_combined hr (pa_cons (pv 2) (pa_cons (pv 3) (pa_cons (pe_c c_evaluate_slots hr (pa_cons (pe_ix ix_tup (pv 0) pe_int (fun _ _ => rfl)) (pa_cons (pv 1) pa_nil)) (Nat.le_refl _)) pa_nil))) hk))))))))))), ?_⟩
      cases d with
      | tup hs r =>
        obtain ⟨_, v1, v2, rfl, d0, d1, d2⟩ := dvs3 r
        cases d0
        have hne : ∀ t : Str, (o.s == t) = false ↔ ¬ o.s = t := fun t => by simp
        have n1 : decide (o.s = "number") = false := by cases o <;> decide +kernel
        have n2 : decide (o.s = "slot") = false := by cases o <;> decide +kernel
        have n3 : decide (o.s = "negative") = false := by cases o <;> decide +kernel
        have n4 : decide (o.s = "not") = false := by cases o <;> decide +kernel
        have n5 : decide (o.s = "and") = false := by cases o <;> decide +kernel
        have n6 : decide (o.s = "or") = false := by cases o <;> decide +kernel
        refine q_asg (ev_ixt (j := 0) ev_v hs rfl) fun H1 e1 => ?_
        refine q_when (b := false) (et_eqS ev_v ev_c n1) (fun q => nomatch q) fun _ H2 e2 => ?_
        refine q_when (b := false) (et_eqS ev_v ev_c n2) (fun q => nomatch q) fun _ H3 e3 => ?_
        have e13 := Ex.trans (Ex.trans e1 e2) e3
        refine q_asg (v := .int x) (ev_calln (ea_cons (ev_ixt (j := 1) ev_v (Same.sqT e13 hs) rfl) (ea_cons ev_v ea_nil)) fun H4 e4 Q q E => ⟨a, v1, l, fr, x, rfl, d1.mono (Ex.trans e13 e4), Same.seq (Ex.trans e13 e4) hl, ha, hx, q⟩) fun H4 e4 => ?_
        refine q_when (b := false) (et_eqS ev_v ev_c n3) (fun q => nomatch q) fun _ H5 e5 => ?_
        refine q_when (b := false) (et_eqS ev_v ev_c n4) (fun q => nomatch q) fun _ H6 e6 => ?_
        refine q_when (b := false) (et_eqS ev_v ev_c n5) (fun q => nomatch q) fun _ H7 e7 => ?_
        refine q_when (b := false) (et_eqS ev_v ev_c n6) (fun q => nomatch q) fun _ H8 e8 => ?_
        have e18 := Ex.trans (Ex.trans (Ex.trans (Ex.trans (Ex.trans e13 e4) e5) e6) e7) e8
        refine s_ret (ev_calln (z := .int z) (ea_cons ev_v (ea_cons ev_v (ea_cons (x := .int y) (ev_calln (ea_cons (ev_ixt (j := 2) ev_v (Same.sqT e18 hs) rfl) (ea_cons ev_v ea_nil)) fun H9 e9 Q q E => ⟨b, v2, l, fr, y, rfl, d2.mono (Ex.trans e18 e9), Same.seq (Ex.trans e18 e9) hl, hb, hy, q⟩) ea_nil)))
          fun H9 e9 Q q E => ⟨o, x, y, z, rfl, hc, q⟩) fun H9 e9 => q H9 (Ex.trans e18 e9)
theorem ok_eval (T : Tx K mg aR) (F : DefAt K mg "evaluate_slots" sEvaluateSlots) (c_checked : Cal P w K mg base 1 "checked" spChecked) (c_combined : Cal P w K mg base 2 "combined" spCombined) : Cal P w K mg base 5 "evaluate_slots" (spEval K 2) := by
  have c0 : Cal P w K mg base 3 "evaluate_slots" (spEval K 0) := ok_eval0 T F c_checked c_combined (by decide) 0 (.inl rfl)
  have c1 : Cal P w K mg base 4 "evaluate_slots" (spEval K 1) := ok_eval0 T F c_checked c_combined (by decide) 1 (.inr ⟨0, rfl, c0⟩)
  exact ok_eval0 T F c_checked c_combined (by decide) 2 (.inr ⟨1, rfl, c1⟩)
end
end HK


set_option maxRecDepth 100000
set_option maxHeartbeats 4000000
/-! A6: fields as zipped lists; statements that store; the Walk. -/
namespace HK
open PySem PySem.Spec PyProof.Rows L2
open Evl (Ex Ev EvT EvA EvL EvU RetV ev_var ev_c ev_op ev_un ea_nil ea_cons et_test et_B et_and et_or et_not ev_call ev_cb rv_I0 rv_I rv_eq rv_ixL rv_ixT ev_inU ev_niU eu_tup el_lst ev_len el_list q_when q_if q_asg q_drop s_asg s_ret s_if s_drop)

/-! ### fields -/
def ixS (k : Str) : List Str → Option Nat
  | [] => none
  | a :: r => if a = k then some 0 else (ixS k r).map (· + 1)
theorem fz_lk {k : Str} {v : V} : ∀ {ks : List Str} {vs : List V} {i : Nat}, ixS k ks = some i → vs[i]? = some v → (ks.zip vs).lookup k = some v
  | [], _, _, h, _ => by cases h
  | a :: r, [], i, _, hv => by simp at hv
  | a :: r, y :: ys, i, h, hv => by
    unfold ixS at h
    by_cases e : a = k
    · rw [if_pos e] at h
      cases h
      subst e
      have q : y = v := by simpa using hv
      subst q
      simp [List.lookup]
    · rw [if_neg e] at h
      obtain ⟨j, hj, rfl⟩ := Option.map_eq_some_iff.mp h
      have hb : (k == a) = false := beq_eq_false_iff_ne.mpr (Ne.symm e)
      simp only [List.zip_cons_cons, List.lookup, hb]
      exact fz_lk hj (by simpa using hv)
theorem fz_none {k : Str} : ∀ {ks : List Str} {vs : List V}, ixS k ks = none → (ks.zip vs).lookup k = none
  | [], _, _ => rfl
  | a :: r, [], _ => rfl
  | a :: r, y :: ys, h => by
    unfold ixS at h
    by_cases e : a = k
    · rw [if_pos e] at h; cases h
    · rw [if_neg e] at h
      have hb : (k == a) = false := beq_eq_false_iff_ne.mpr (Ne.symm e)
      simp only [List.zip_cons_cons, List.lookup, hb]
      exact fz_none (by cases q : ixS k r with | none => rfl | some j => rw [q] at h; cases h)
theorem fz_put {k : Str} {v : V} : ∀ {ks : List Str} {vs : List V} {i : Nat}, ixS k ks = some i → ks.length = vs.length → putF k v (ks.zip vs) = ks.zip (vs.set i v)
  | [], _, _, h, _ => by cases h
  | a :: r, [], _, _, hl => by cases hl
  | a :: r, y :: ys, i, h, hl => by
    unfold ixS at h
    show (if a = k then (a, v) :: r.zip ys else (a, y) :: putF k v (r.zip ys)) = _
    by_cases e : a = k
    · rw [if_pos e] at h
      cases h
      rw [if_pos e]
      rfl
    · rw [if_neg e] at h
      obtain ⟨j, hj, rfl⟩ := Option.map_eq_some_iff.mp h
      rw [if_neg e, fz_put hj (Nat.succ.inj hl)]
      rfl
theorem fz_new {k : Str} {v : V} : ∀ {ks : List Str} {vs : List V}, ixS k ks = none → ks.length = vs.length → putF k v (ks.zip vs) = (ks ++ [k]).zip (vs ++ [v])
  | [], [], _, _ => rfl
  | [], _ :: _, _, hl => by cases hl
  | a :: r, [], _, hl => by cases hl
  | a :: r, y :: ys, h, hl => by
    unfold ixS at h
    show (if a = k then (a, v) :: r.zip ys else (a, y) :: putF k v (r.zip ys)) = _
    by_cases e : a = k
    · rw [if_pos e] at h; cases h
    · rw [if_neg e] at h
      rw [if_neg e, fz_new (by cases q : ixS k r with | none => rfl | some j => rw [q] at h; cases h) (Nat.succ.inj hl)]
      rfl
/-- a class and its fields: no attribute of the class hides them -/
structure ClsF (K : PySem.W.Frag) (C : Addr) (ks : List Str) : Prop where
  cl : Cls K C
  na : ∀ k ∈ ks, NoAttr K C k
theorem ixS_mem {k : Str} : ∀ {ks : List Str} {i : Nat}, ixS k ks = some i → k ∈ ks
  | [], _, h => by cases h
  | a :: r, i, h => by
    unfold ixS at h
    by_cases e : a = k
    · subst e; exact List.mem_cons_self
    · rw [if_neg e] at h
      obtain ⟨j, hj, rfl⟩ := Option.map_eq_some_iff.mp h
      exact List.mem_cons_of_mem _ (ixS_mem hj)
section
variable {K : PySem.W.Frag} {σ : L2.St} {H H' : Hp} {ta tb tv td ty te : TE} {t : TA} {tt : TT} {x y z v : V} {vs xs : List V} {C p dx a l : Addr} {fs : List (Str × V)} {ks : List Str} {f m : Str} {i : Nat} {D' : Ends} {u u1 u2 : TS} {kvs : List (Key × V)} {kk : Key}
theorem ev_fz (h : Ev ta σ H (.ref p)) (ho : H p = some (.ins C dx (ks.zip vs))) (hc : ClsF K C ks) (hv : vs[i]? = some v) (hi : ixS f ks = some i := by decide +kernel) : Ev (tFld K ta f) σ H v :=
  ev_fld h ho hc.cl (hc.na f (ixS_mem hi)) (fz_lk hi hv)
/-- all but p stays -/
def ExB (p : Addr) (H H' : Hp) : Prop := ∀ b o, b ≠ p → H b = some o → H' b = some o
theorem ExB.of (e : Ex H H') : ExB p H H' := fun b o _ h => e b o h
theorem ExB.trans {H1 H2 : Hp} (a : ExB p H H1) (b : ExB p H1 H2) : ExB p H H2 := fun c o n h => b c o n (a c o n h)
theorem ExB.upd {H1 : Hp} {o : HO} (e : Ex H H1) : ExB p H (upd H1 p o) := fun b u n h => by rw [upd_ne n]; exact e b u h
theorem ExB.ex {G : Hp} (g : Ex G H) (n : G p = none) (e : ExB p H H') : Ex G H' := fun b o h => e b o (ne_of_none h n) (g b o h)
theorem ExB.tups {o : HO} (e : ExB p H H') (h : H p = some o) (hn : (∀ xs, o ≠ .tup xs) ∧ ∀ ob u, o ≠ .frz ob u) : Tups H H' :=
  ⟨fun b xs q => e b _ (ne_of q h (hn.1 xs).symm) q, fun b ob xs q => e b _ (ne_of q h (hn.2 ob _).symm) q⟩
/-- o.f = e, f is there -/
theorem s_fld (h : Ev tv σ H v) (ho : Ev ta σ H (.ref p)) (hp : H p = some (.ins C dx (ks.zip vs))) (hc : ClsF K C ks) (k : ∀ H', ExB p H H' → H' p = some (.ins C dx (ks.zip (vs.set i v))) → D'.nx σ H')
    (hl : ks.length = vs.length := by rfl) (hi : ixS f ks = some i := by decide +kernel) (hz : Nat.blt ks.length 1000 = true := by decide +kernel) : sFld K ta tv f D' σ H :=
  h H (Ex.refl H) _ fun H1 e1 => ho H1 e1 _ fun H2 e2 => ⟨p, C, dx, _, rfl, (Ex.trans e1 e2) _ _ hp, hc.cl, hc.na f (ixS_mem hi), by
    have := Nat.le_of_ble_eq_true hz
    rw [List.length_zip]
    omega, by rw [fz_put hi hl]; exact k _ (ExB.upd (Ex.trans e1 e2)) upd_same⟩
theorem q_fld (h : Ev tv σ H v) (ho : Ev ta σ H (.ref p)) (hp : H p = some (.ins C dx (ks.zip vs))) (hc : ClsF K C ks) (k : ∀ H', ExB p H H' → H' p = some (.ins C dx (ks.zip (vs.set i v))) → u D' σ H')
    (hl : ks.length = vs.length := by rfl) (hi : ixS f ks = some i := by decide +kernel) (hz : Nat.blt ks.length 1000 = true := by decide +kernel) : tSeq (sFld K ta tv f) u D' σ H := s_fld (D' := { D' with nx := u D' }) h ho hp hc k hl hi hz
/-- .. f is new -/
theorem s_fldN (h : Ev tv σ H v) (ho : Ev ta σ H (.ref p)) (hp : H p = some (.ins C dx (ks.zip vs))) (hc : Cls K C) (hn : NoAttr K C f) (k : ∀ H', ExB p H H' → H' p = some (.ins C dx ((ks ++ [f]).zip (vs ++ [v]))) → D'.nx σ H')
    (hl : ks.length = vs.length := by rfl) (hi : ixS f ks = none := by decide +kernel) (hz : Nat.blt ks.length 1000 = true := by decide +kernel) : sFld K ta tv f D' σ H :=
  h H (Ex.refl H) _ fun H1 e1 => ho H1 e1 _ fun H2 e2 => ⟨p, C, dx, _, rfl, (Ex.trans e1 e2) _ _ hp, hc, hn, by
    have := Nat.le_of_ble_eq_true hz
    rw [List.length_zip]
    omega, by rw [fz_new hi hl]; exact k _ (ExB.upd (Ex.trans e1 e2)) upd_same⟩
theorem q_fldN (h : Ev tv σ H v) (ho : Ev ta σ H (.ref p)) (hp : H p = some (.ins C dx (ks.zip vs))) (hc : Cls K C) (hn : NoAttr K C f) (k : ∀ H', ExB p H H' → H' p = some (.ins C dx ((ks ++ [f]).zip (vs ++ [v]))) → u D' σ H')
    (hl : ks.length = vs.length := by rfl) (hi : ixS f ks = none := by decide +kernel) (hz : Nat.blt ks.length 1000 = true := by decide +kernel) : tSeq (sFld K ta tv f) u D' σ H := s_fldN (D' := { D' with nx := u D' }) h ho hp hc hn k hl hi hz
/-- .. a new list into a new field -/
theorem s_fldNL (h : EvL tv σ H xs) (ho : Ev ta σ H (.ref p)) (hp : H p = some (.ins C dx (ks.zip vs))) (hc : Cls K C) (hn : NoAttr K C f) (k : ∀ l H', H l = none → ExB p H H' → H' l = some (.lst xs) → H' p = some (.ins C dx ((ks ++ [f]).zip (vs ++ [.ref l]))) → D'.nx σ H')
    (hl : ks.length = vs.length := by rfl) (hi : ixS f ks = none := by decide +kernel) (hz : Nat.blt ks.length 1000 = true := by decide +kernel) : sFld K ta tv f D' σ H :=
  h H (Ex.refl H) _ fun l H1 hnl e1 hl1 => ho H1 e1 _ fun H2 e2 => ⟨p, C, dx, _, rfl, (Ex.trans e1 e2) _ _ hp, hc, hn, by
    have := Nat.le_of_ble_eq_true hz
    rw [List.length_zip]
    omega, by rw [fz_new hi hl]; exact k l _ hnl (ExB.upd (Ex.trans e1 e2)) (by rw [upd_ne (Ne.symm (ne_of_none hp hnl))]; exact e2 _ _ hl1) upd_same⟩
theorem q_fldNL (h : EvL tv σ H xs) (ho : Ev ta σ H (.ref p)) (hp : H p = some (.ins C dx (ks.zip vs))) (hc : Cls K C) (hn : NoAttr K C f) (k : ∀ l H', H l = none → ExB p H H' → H' l = some (.lst xs) → H' p = some (.ins C dx ((ks ++ [f]).zip (vs ++ [.ref l]))) → u D' σ H')
    (hl : ks.length = vs.length := by rfl) (hi : ixS f ks = none := by decide +kernel) (hz : Nat.blt ks.length 1000 = true := by decide +kernel) : tSeq (sFld K ta tv f) u D' σ H := s_fldNL (D' := { D' with nx := u D' }) h ho hp hc hn k hl hi hz
/-- .. {} into a new field -/
theorem q_fldND (ho : ∀ H1, Ex H H1 → Ev ta σ H1 (.ref p)) (hp : H p = some (.ins C dx (ks.zip vs))) (hc : Cls K C) (hn : NoAttr K C f) (k : ∀ l H', H l = none → ExB p H H' → H' l = some (.dK []) → H' p = some (.ins C dx ((ks ++ [f]).zip (vs ++ [.ref l]))) → u D' σ H')
    (hl : ks.length = vs.length := by rfl) (hi : ixS f ks = none := by decide +kernel) (hz : Nat.blt ks.length 1000 = true := by decide +kernel) : tSeq (sFld K ta tDNewK f) u D' σ H := fun l hnl =>
  ho _ (Ex.new hnl) _ (Ex.refl _) _ fun H2 e2 => ⟨p, C, dx, _, rfl, e2 _ _ (Ex.new hnl _ _ hp), hc, hn, by
    have := Nat.le_of_ble_eq_true hz
    rw [List.length_zip]
    omega, by rw [fz_new hi hl]; exact k l _ hnl (ExB.upd (Ex.trans (Ex.new hnl) e2)) (by rw [upd_ne (Ne.symm (ne_of_none hp hnl))]; exact e2 _ _ upd_same) upd_same⟩
/-- xs[i] = e -/
theorem s_setl {j : Nat} (hl : H l = some (.lst xs)) (h : Ev te σ H v) (ho : Ev ta σ H (.ref l)) (hi : Ev ty σ H (.int (j : Int))) (hj : j < xs.length) (k : ∀ H', ExB l H H' → H' l = some (.lst (xs.set j v)) → D'.nx σ H') : tAsg te (gSub ta ty rSetL) D' σ H :=
  Evl.s_setL hl h ho hi hj fun H1 e1 => k _ (ExB.upd e1) upd_same
/-- xs.append(e) -/
theorem s_appl (hl : H l = some (.lst xs)) (ha : Ev ta σ H (.ref l)) (h : Ev te σ H v) (hz : xs.length < 100000) (k : ∀ H', ExB l H H' → H' l = some (.lst (xs ++ [v])) → D'.nx σ H') : tDrop (tBM K "list" rAppend ta (tCons te tNil)) D' σ H :=
  Evl.s_app hl ha h hz fun H1 e1 => k _ (ExB.upd e1) upd_same
theorem q_appl (hl : H l = some (.lst xs)) (ha : Ev ta σ H (.ref l)) (h : Ev te σ H v) (hz : xs.length < 100000) (k : ∀ H', ExB l H H' → H' l = some (.lst (xs ++ [v])) → u D' σ H') : tSeq (tDrop (tBM K "list" rAppend ta (tCons te tNil))) u D' σ H :=
  s_appl (D' := { D' with nx := u D' }) hl ha h hz k
/-- d[k] = e, k in d, d[k] -/
theorem s_dput (hd : H a = some (.dK kvs)) (h : Ev tv σ H v) (ho : Ev td σ H (.ref a)) (hk : Ev ty σ H (kV kk)) (hz : kvs.length < 100000) (k : ∀ H', ExB a H H' → H' a = some (.dK (putK kvs kk v)) → D'.nx σ H') : sDPut td ty tv D' σ H :=
  h H (Ex.refl H) _ fun H1 e1 => ho H1 e1 _ fun H2 e2 => hk H2 (Ex.trans e1 e2) _ fun H3 e3 =>
    ⟨a, _, rfl, DPut.k ((Ex.trans (Ex.trans e1 e2) e3) _ _ hd) (Evl.sz_lt hz), k _ (ExB.upd (Ex.trans (Ex.trans e1 e2) e3)) upd_same⟩
theorem q_dput (hd : H a = some (.dK kvs)) (h : Ev tv σ H v) (ho : Ev td σ H (.ref a)) (hk : Ev ty σ H (kV kk)) (hz : kvs.length < 100000) (k : ∀ H', ExB a H H' → H' a = some (.dK (putK kvs kk v)) → u D' σ H') : tSeq (sDPut td ty tv) u D' σ H :=
  s_dput (D' := { D' with nx := u D' }) hd h ho hk hz k
theorem et_din (hd : H a = some (.dK kvs)) (hk : Ev ty σ H (kV kk)) (ho : Ev td σ H (.ref a)) : EvT (tB (tDIn ty td)) σ H (valV kvs kk).isSome := fun H1 e Q q =>
  hk H1 e _ fun H2 e2 => ho H2 (Ex.trans e e2) _ fun H3 e3 => ⟨a, _, rfl, DGet.k ((Ex.trans (Ex.trans e e2) e3) _ _ hd), _, rfl, q H3 (Ex.trans e2 e3)⟩
theorem ev_dget (hd : H a = some (.dK kvs)) (hk : Ev ty σ H (kV kk)) (ho : Ev td σ H (.ref a)) (hv : valV kvs kk = some v) : Ev (tDGet td ty) σ H v := fun H1 e Q q =>
  ho H1 e _ fun H2 e2 => hk H2 (Ex.trans e e2) _ fun H3 e3 => ⟨a, v, rfl, by rw [← hv]; exact DGet.k ((Ex.trans (Ex.trans e e2) e3) _ _ hd), q H3 (Ex.trans e2 e3)⟩
/-- a call alone as a statement -/
theorem q_callM (h : ta σ H fun _ H1 => u D' σ H1) : tSeq (tDrop ta) u D' σ H := h
end

/-! ### instructions -/
inductive Ins where
  | load (s : Nat) (first size : Int) (e : Fx)
  | set (s : Nat) (e : Fx)
  | put (first size : Int) (i e : Fx)
  | unl (e : Fx) (t : Nat)
  | jump (t : Nat)
  | retry
def Ins.toD : Ins → D
  | .load s first size e => .tup [.str "load", .int s, .int first, .int size, e.toD]
  | .set s e => .tup [.str "set", .int s, e.toD]
  | .put first size i e => .tup [.str "put", .int first, .int size, i.toD, e.toD]
  | .unl e t => .tup [.str "unless", e.toD, .int t]
  | .jump t => .tup [.str "jump", .int t]
  | .retry => dRetry
def Ins.dep : Ins → Nat
  | .load _ _ _ e => e.dep
  | .set _ e => e.dep
  | .put _ _ i e => max i.dep e.dep
  | .unl e _ => e.dep
  | _ => 0
structure WS where
  at_ : Nat
  fr : List V
  rd : List (Key × V)
  wr : List (Key × V)
def exec1 (mem : List V) : Ins → WS → Option WS
  | .jump t, s => some { s with at_ := t }
  | .unl e t, s => match evalF s.fr e with
    | some z => some (if z = 0 then { s with at_ := t } else s)
    | none => none
  | .set i e, s => match evalF s.fr e with
    | some z => if i < s.fr.length then some { s with fr := s.fr.set i (.int z) } else none
    | none => none
  | .load i first size e, s => match evalF s.fr e with
    | some z => if 0 ≤ z ∧ z < size ∧ 0 ≤ first ∧ i < s.fr.length ∧ s.rd.length < 1000 then
        match valV s.wr (Sum.inl (first + z) : Key) with
        | some v => some { s with fr := s.fr.set i v }
        | none => match mem[(first + z).toNat]? with
          | some v => some { s with fr := s.fr.set i v, rd := putK s.rd (Sum.inl (first + z) : Key) v }
          | none => none
      else none
    | none => none
  | .put first size i e, s => match evalF s.fr i, evalF s.fr e with
    | some p, some z => if 0 ≤ p ∧ p < size ∧ 0 ≤ first ∧ s.wr.length < 1000 then some { s with wr := putK s.wr (Sum.inl (first + p) : Key) (.int z) } else none
    | _, _ => none
  | .retry, _ => none
def runM (code : List Ins) (mem : List V) : Nat → WS → Option (WS × Bool)
  | 0, _ => none
  | f + 1, s => match code[s.at_]? with
    | none => some (s, true)
    | some .retry => some ({ s with at_ := s.at_ + 1 }, false)
    | some i => match exec1 mem i { s with at_ := s.at_ + 1 } with
      | some s' => runM code mem f s'
      | none => none
end HK


set_option maxRecDepth 100000
set_option maxHeartbeats 4000000
/-! A7: the Walk's methods. -/
namespace HK
open PySem PySem.Spec PyProof.Rows L2
open Evl (Ex Ev EvT EvA EvL EvU RetV ev_var ev_c ev_op ev_un ea_nil ea_cons et_test et_B et_and et_or et_not ev_call ev_cb rv_I0 rv_I rv_eq rv_ixL rv_ixT ev_inU ev_niU eu_tup el_lst ev_len el_list q_when q_if q_asg q_drop s_asg s_ret s_if s_drop)

section
variable {K : PySem.W.Frag} {σ : L2.St} {H : Hp} {te ta tb : TE} {tt : TT} {a p C dx : Addr} {x : V} {xs vs : List V} {D' : Ends} {u u1 u2 : TS} {n : Nat} {t : TGs} {ks : List Str} {f : Str} {i : Nat} {k k2 : Int} {b : Bool}
/-- t[1:] -/
theorem eu_tl (h : Ev te σ H (.ref a)) (hx : SqT K H a (x :: xs)) : EvU (tSl (rSlT K) te (tPart (tC (.int 1))) tNoPart) σ H xs := fun H1 e Q q =>
  h H1 e _ fun H2 e2 => ⟨1, rfl, a, x :: xs, rfl, Same.sqT (Ex.trans e e2) hx, by
    rintro ⟨h1, _⟩
    have : HT.sIx (x :: xs).length 0 (some ((1 : Nat) : Int)) = min 1 (x :: xs).length := HT.sIx_nat _ _ _
    rw [show ((1 : Nat) : Int) = 1 from rfl, h1] at this
    simp at this, fun q' hq => by
    have e1 : cutV (x :: xs) (some 1) none = xs := by
      have h1 : HT.sIx (x :: xs).length 0 (some ((1 : Nat) : Int)) = min 1 (x :: xs).length := HT.sIx_nat _ _ _
      have h2 : HT.sIx (x :: xs).length 0 (some (1 : Int)) = 1 := by
        rw [show (1 : Int) = ((1 : Nat) : Int) from rfl, h1]
        simp
      unfold cutV
      rw [h2, HT.sIx_none]
      simp
    rw [e1]
    exact q q' _ (Evl.fresh_back e2 hq) (Ex.trans e2 (Ex.new hq)) upd_same⟩
/-- a, b, .. = e -/
theorem q_unpU (h : EvU te σ H xs) (hl : xs.length = n) (k : ∀ H1, Ex H H1 → t xs σ H1 (u D')) : tSeq (tAsg te (gTup K n t)) u D' σ H :=
  h H (Ex.refl H) _ fun q H1 _ e1 h1 => ⟨q, xs, rfl, sqT_of h1, hl, k H1 e1⟩
theorem q_unp (h : Ev te σ H (.ref a)) (hx : SqT K H a xs) (hl : xs.length = n) (k : ∀ H1, Ex H H1 → t xs σ H1 (u D')) : tSeq (tAsg te (gTup K n t)) u D' σ H :=
  h H (Ex.refl H) _ fun H1 e1 => ⟨a, xs, rfl, Same.sqT e1 hx, hl, k H1 e1⟩
/-- o.f += e -/
theorem q_faug (h : Ev tb σ H (.int k2)) (ho : Ev ta σ H (.ref p)) (hp : H p = some (.ins C dx (ks.zip vs))) (hc : ClsF K C ks) (hv : vs[i]? = some (.int k)) (kk : ∀ H', ExB p H H' → H' p = some (.ins C dx (ks.zip (vs.set i (.int (k + k2))))) → u D' σ H')
    (hl : ks.length = vs.length := by rfl) (hi : ixS f ks = some i := by decide +kernel) (hz : Nat.blt ks.length 1000 = true := by decide +kernel) : tSeq (sFldAug K ta tb rAdd f) u D' σ H :=
  ho H (Ex.refl H) _ fun H1 e1 => ⟨p, C, dx, _, .int k, rfl, e1 _ _ hp, hc.cl, hc.na f (ixS_mem hi), fz_lk hi hv, h H1 e1 _ fun H2 e2 => ⟨k, k2, rfl, rfl, dx, _, (Ex.trans e1 e2) _ _ hp, by
    have := Nat.le_of_ble_eq_true hz
    rw [List.length_zip]
    omega, by rw [fz_put hi hl]; exact kk _ (ExB.upd (Ex.trans e1 e2)) upd_same⟩⟩
/-- a call at the end of a suite, as a statement -/
theorem s_dropM (h : ta σ H fun _ H1 => D'.nx σ H1) : tDrop ta D' σ H := h
theorem q_asgX {g : TG} (h : te σ H fun x H1 => g x σ H1 (u D')) : tSeq (tAsg te g) u D' σ H := h
theorem s_asgX {g : TG} (h : te σ H fun x H1 => g x σ H1 D'.nx) : tAsg te g D' σ H := h
theorem s_retX (h : te σ H D'.rt) : tRet te D' σ H := h
theorem q_e (h : EvT tt σ H false) (k : ∀ H1, Ex H H1 → u2 D' σ H1) : tIfS tt u1 u2 D' σ H := s_if h (fun q => nomatch q) fun _ H1 e1 => k H1 e1
theorem q_t (h : EvT tt σ H true) (k : ∀ H1, Ex H H1 → u1 D' σ H1) : tIfS tt u1 u2 D' σ H := s_if h (fun _ H1 e1 => k H1 e1) (fun q => nomatch q)
theorem q_else (h : EvT tt σ H b) (hb : b = false) (k : ∀ H1, Ex H H1 → u2 D' σ H1) : tIfS tt u1 u2 D' σ H := s_if h (fun q => by rw [hb] at q; cases q) fun _ H1 e1 => k H1 e1
theorem q_then (h : EvT tt σ H b) (hb : b = true) (k : ∀ H1, Ex H H1 → u1 D' σ H1) : tIfS tt u1 u2 D' σ H := s_if h (fun _ H1 e1 => k H1 e1) (fun q => by rw [hb] at q; cases q)
end

def ksW : List Str := ["code", "frame", "memory", "at", "reads", "writes", "later", "noted"]
structure WA where
  p : Addr
  cl : Addr
  fl : Addr
  ml : Addr
  rd : Addr
  wd : Addr
  lt : Addr
  nt : Addr
def WA.vs (a : WA) (z : Int) : List V := [.ref a.cl, .ref a.fl, .ref a.ml, .int z, .ref a.rd, .ref a.wd, .ref a.lt, .ref a.nt]
structure WAt (K : PySem.W.Frag) (CW : Addr) (G H : Hp) (a : WA) (cv : List V) (code : List Ins) (mem : List V) (ws : WS) : Prop where
  ex : Ex G H
  gp : G a.p = none
  gf : G a.fl = none
  gr : G a.rd = none
  gw : G a.wd = none
  hp : ∃ dx, H a.p = some (.ins CW dx (ksW.zip (a.vs ws.at_)))
  hf : H a.fl = some (.lst ws.fr)
  hr : H a.rd = some (.dK ws.rd)
  hw : H a.wd = some (.dK ws.wr)
  hl : H a.lt = some (.lst [])
  hn : H a.nt = some (.lst [])
  nl : a.fl ≠ a.lt
  nn : a.fl ≠ a.nt
  nrw : a.rd ≠ a.wd
  hc : SqL K G a.cl cv
  dc : DVs K G (code.map Ins.toD) cv
  hm : SqL K G a.ml mem
section
variable {K : PySem.W.Frag} {CW : Addr} {G H H' : Hp} {a : WA} {cv : List V} {code : List Ins} {mem : List V} {ws : WS}
theorem WAt.grow (w : WAt K CW G H a cv code mem ws) (e : Ex H H') : WAt K CW G H' a cv code mem ws :=
  ⟨Ex.trans w.ex e, w.gp, w.gf, w.gr, w.gw, let ⟨dx, h⟩ := w.hp; ⟨dx, e _ _ h⟩, e _ _ w.hf, e _ _ w.hr, e _ _ w.hw, e _ _ w.hl, e _ _ w.hn, w.nl, w.nn, w.nrw, w.hc, w.dc, w.hm⟩
theorem WAt.pf (w : WAt K CW G H a cv code mem ws) : a.p ≠ a.fl := let ⟨dx, h⟩ := w.hp; ne_of h w.hf (by intro z; cases z)
theorem WAt.pr (w : WAt K CW G H a cv code mem ws) : a.p ≠ a.rd := let ⟨dx, h⟩ := w.hp; ne_of h w.hr (by intro z; cases z)
theorem WAt.pw (w : WAt K CW G H a cv code mem ws) : a.p ≠ a.wd := let ⟨dx, h⟩ := w.hp; ne_of h w.hw (by intro z; cases z)
theorem WAt.pl (w : WAt K CW G H a cv code mem ws) : a.p ≠ a.lt := let ⟨dx, h⟩ := w.hp; ne_of h w.hl (by intro z; cases z)
theorem WAt.pn (w : WAt K CW G H a cv code mem ws) : a.p ≠ a.nt := let ⟨dx, h⟩ := w.hp; ne_of h w.hn (by intro z; cases z)
theorem WAt.fr_ (w : WAt K CW G H a cv code mem ws) : a.fl ≠ a.rd := ne_of w.hf w.hr (by intro z; cases z)
theorem WAt.fw (w : WAt K CW G H a cv code mem ws) : a.fl ≠ a.wd := ne_of w.hf w.hw (by intro z; cases z)
theorem WAt.lr (w : WAt K CW G H a cv code mem ws) : a.lt ≠ a.rd := ne_of w.hl w.hr (by intro z; cases z)
theorem WAt.lw (w : WAt K CW G H a cv code mem ws) : a.lt ≠ a.wd := ne_of w.hl w.hw (by intro z; cases z)
theorem WAt.nr (w : WAt K CW G H a cv code mem ws) : a.nt ≠ a.rd := ne_of w.hn w.hr (by intro z; cases z)
theorem WAt.nw (w : WAt K CW G H a cv code mem ws) : a.nt ≠ a.wd := ne_of w.hn w.hw (by intro z; cases z)
theorem WAt.set_at (w : WAt K CW G H a cv code mem ws) {z : Nat} (e : ExB a.p H H') (h : ∃ dx, H' a.p = some (.ins CW dx (ksW.zip (a.vs z)))) : WAt K CW G H' a cv code mem { ws with at_ := z } :=
  ⟨ExB.ex w.ex w.gp e, w.gp, w.gf, w.gr, w.gw, h, e _ _ w.pf.symm w.hf, e _ _ w.pr.symm w.hr, e _ _ w.pw.symm w.hw, e _ _ w.pl.symm w.hl, e _ _ w.pn.symm w.hn, w.nl, w.nn, w.nrw, w.hc, w.dc, w.hm⟩
theorem WAt.set_fr (w : WAt K CW G H a cv code mem ws) {fr : List V} (e : ExB a.fl H H') (h : H' a.fl = some (.lst fr)) : WAt K CW G H' a cv code mem { ws with fr := fr } :=
  ⟨ExB.ex w.ex w.gf e, w.gp, w.gf, w.gr, w.gw, let ⟨dx, h⟩ := w.hp; ⟨dx, e _ _ w.pf h⟩, h, e _ _ w.fr_.symm w.hr, e _ _ w.fw.symm w.hw, e _ _ w.nl.symm w.hl, e _ _ w.nn.symm w.hn, w.nl, w.nn, w.nrw, w.hc, w.dc, w.hm⟩
theorem WAt.set_rd (w : WAt K CW G H a cv code mem ws) {rd : List (Key × V)} (e : ExB a.rd H H') (h : H' a.rd = some (.dK rd)) : WAt K CW G H' a cv code mem { ws with rd := rd } :=
  ⟨ExB.ex w.ex w.gr e, w.gp, w.gf, w.gr, w.gw, let ⟨dx, h⟩ := w.hp; ⟨dx, e _ _ w.pr h⟩, e _ _ w.fr_ w.hf, h, e _ _ w.nrw.symm w.hw, e _ _ w.lr w.hl, e _ _ w.nr w.hn, w.nl, w.nn, w.nrw, w.hc, w.dc, w.hm⟩
theorem WAt.set_wr (w : WAt K CW G H a cv code mem ws) {wr : List (Key × V)} (e : ExB a.wd H H') (h : H' a.wd = some (.dK wr)) : WAt K CW G H' a cv code mem { ws with wr := wr } :=
  ⟨ExB.ex w.ex w.gw e, w.gp, w.gf, w.gr, w.gw, let ⟨dx, h⟩ := w.hp; ⟨dx, e _ _ w.pw h⟩, e _ _ w.fw w.hf, e _ _ w.nrw w.hr, h, e _ _ w.lw w.hl, e _ _ w.nw w.hn, w.nl, w.nn, w.nrw, w.hc, w.dc, w.hm⟩
end
/-! ### promises -/
def spWCell : Sp := fun vs H Q _ => ∃ (v : V) (first size i : Int), vs = [v, .int first, .int size, .int i] ∧ 0 ≤ i ∧ i < size ∧ RetV (.int (first + i)) H Q
def spWValue (K : PySem.W.Frag) (CW : Addr) : Sp := fun vs H Q _ => ∃ (G : Hp) (a : WA) (cv : List V) (code : List Ins) (mem : List V) (ws : WS) (u : V) (e : Fx) (z : Int),
  vs = [.ref a.p, u] ∧ WAt K CW G H a cv code mem ws ∧ DV K H e.toD u ∧ e.dep ≤ 2 ∧ evalF ws.fr e = some z ∧ RetV (.int z) H Q
/-- an instruction i of the kinds ok, at u -/
def spWDo (K : PySem.W.Frag) (CW : Addr) (ok : Ins → Prop) : Sp := fun vs H Q _ => ∃ (G : Hp) (a : WA) (cv : List V) (code : List Ins) (mem : List V) (ws ws' : WS) (u : V) (i : Ins),
  vs = [.ref a.p, u] ∧ WAt K CW G H a cv code mem ws ∧ DV K H i.toD u ∧ i.dep ≤ 2 ∧ ok i ∧ exec1 mem i ws = some ws' ∧ ∀ H', WAt K CW G H' a cv code mem ws' → Q .non H'
def Ins.isLoad : Ins → Prop
  | .load _ _ _ _ => True
  | _ => False
def Ins.isPut : Ins → Prop
  | .put _ _ _ _ => True
  | _ => False
def spWRun (K : PySem.W.Frag) (CW : Addr) : Sp := fun vs H Q _ => ∃ (G : Hp) (a : WA) (cv : List V) (code : List Ins) (mem : List V) (ws ws' : WS) (b : Bool) (f : Nat),
  vs = [.ref a.p] ∧ WAt K CW G H a cv code mem ws ∧ (∀ i ∈ code, i.dep ≤ 2) ∧ runM code mem f ws = some (ws', b) ∧ ∀ H', WAt K CW G H' a cv code mem ws' → Q (.str (if b then "done" else "retry")) H'
abbrev sWalkCell : Stmt := inClass (top 36) 1
abbrev sWalkValue : Stmt := inClass (top 36) 2
abbrev sWalkRun : Stmt := inClass (top 36) 3
abbrev sWalkDo : Stmt := inClass (top 36) 4
abbrev sWalkLoad : Stmt := inClass (top 36) 6
abbrev sWalkPut : Stmt := inClass (top 36) 7
section
variable {P : Program} {w : World} {K : PySem.W.Frag} {mg : Str → Option Value} {base : Heap} {aR CW : Addr}
theorem ok_wcell (T : Tx K mg aR) (c : ClsF K CW ksW) (F : MethAt K CW "cell" "Walk.cell" sWalkCell) : Met P w K mg base 1 CW "cell" spWCell := by
  have S : FnScope ["self", "first", "size", "index"] ["self", "first", "size", "index"] (defScope sWalkCell) := ⟨rfl, rfl, rfl, by decide +kernel, rfl, by decide +kernel, by decide +kernel⟩
  refine met_mk c.cl F S (fun _ _ _ _ _ _ us hl => match us, hl with | [_, _, _, _], _ => rfl) (fun vs H Q E h => ?_) (fun f cdv A outer s H vs Q E hr h => ?_)
  · obtain ⟨v, a, b, i, rfl, _⟩ := h
    rfl
  · obtain ⟨v, first, size, i, rfl, l1, l2, k⟩ := h
    refine ⟨_, (pss_cons (ps_if (pt_not (pt_chain op_le op_lt pe_int (pv 3) (pv 2)))
  (pss_one ps_never)
  pss_nil)
  (pss_one (ps_ret (pe_op op_add (pv 1) (pv 3))))), ?_⟩
    refine q_when (b := false) ?_ (fun q => nomatch q) fun _ H1 e1 => ?_
    · refine Evl.et_is (et_not (et_chain (i := 0) (j := i) (k := size) ev_c ev_v ev_v)) ?_
      rw [decide_eq_true l1, decide_eq_true l2]
      rfl
    · exact s_ret (ev_op ev_v ev_v rv_I0) fun H2 e2 => k H2 (Ex.trans e1 e2)
theorem ok_wvalue (T : Tx K mg aR) (c : ClsF K CW ksW) (F : MethAt K CW "value" "Walk.value" sWalkValue) (c_evaluate_slots : Cal P w K mg base 5 "evaluate_slots" (spEval K 2)) : Met P w K mg base 6 CW "value" (spWValue K CW) := by
  have S : FnScope ["self", "expression"] ["self", "expression"] (defScope sWalkValue) := ⟨rfl, rfl, rfl, by decide +kernel, rfl, by decide +kernel, by decide +kernel⟩
  refine met_mk c.cl F S (fun _ _ _ _ _ _ us hl => match us, hl with | [_, _], _ => rfl) (fun vs H Q E h => ?_) (fun f cdv A outer s H vs Q E hr h => ?_)
  · obtain ⟨G, a, cv, code, mem, ws, u, e, z, rfl, _⟩ := h
    rfl
  · obtain ⟨G, a, cv, code, mem, ws, u, e, z, rfl, W, d, hd, hz, k⟩ := h
    obtain ⟨dx, hp⟩ := W.hp
    refine ⟨_, (pss_one (ps_ret (pe_c c_evaluate_slots hr (pa_cons (pv 1) (pa_cons (pe_fld (pv 0) rfl) pa_nil))))), ?_⟩
    exact s_ret (ev_calln (ea_cons ev_v (ea_cons (ev_fz (i := 1) ev_v hp c rfl) ea_nil)) fun H1 e1 Q q E => ⟨e, u, a.fl, ws.fr, z, rfl, d.mono e1, sqL_of (e1 _ _ W.hf), hd, hz, q⟩) k
theorem ev_wval {σ : L2.St} {G H : Hp} {a : WA} {cv : List V} {code : List Ins} {mem : List V} {ws : WS} {ta tu : TE} {u : V} {e : Fx} {z : Int} (W : WAt K CW G H a cv code mem ws) (h1 : Ev ta σ H (.ref a.p)) (h2 : Ev tu σ H u) (d : DV K H e.toD u) (hd : e.dep ≤ 2) (hz : evalF ws.fr e = some z) :
    Ev (tMeth CW "value" (spWValue K CW) [] E0 ta (tCons tu tNil)) σ H (.int z) := by
  obtain ⟨dx, hp⟩ := W.hp
  exact ev_meth h1 hp (fz_none (by decide +kernel)) (ea_cons h2 ea_nil) fun H1 e1 Q q E => ⟨G, a, cv, code, mem, ws, u, e, z, rfl, W.grow e1, d.mono e1, hd, hz, q⟩
theorem ev_wcell {σ : L2.St} {G H : Hp} {a : WA} {cv : List V} {code : List Ins} {mem : List V} {ws : WS} {ta t1 t2 t3 : TE} {x y z : Int} (W : WAt K CW G H a cv code mem ws) (h1 : Ev ta σ H (.ref a.p)) (h2 : Ev t1 σ H (.int x)) (h3 : Ev t2 σ H (.int y)) (h4 : Ev t3 σ H (.int z)) (l1 : 0 ≤ z) (l2 : z < y) :
    Ev (tMeth CW "cell" spWCell [] E0 ta (tCons t1 (tCons t2 (tCons t3 tNil)))) σ H (.int (x + z)) := by
  obtain ⟨dx, hp⟩ := W.hp
  exact ev_meth h1 hp (fz_none (by decide +kernel)) (ea_cons h2 (ea_cons h3 (ea_cons h4 ea_nil))) fun H1 e1 Q q E => ⟨_, _, _, _, rfl, l1, l2, q⟩
theorem ok_wput (T : Tx K mg aR) (c : ClsF K CW ksW) (F : MethAt K CW "put" "Walk.put" sWalkPut) (m_cell : Met P w K mg base 1 CW "cell" spWCell) (m_value : Met P w K mg base 6 CW "value" (spWValue K CW)) : Met P w K mg base 7 CW "put" (spWDo K CW Ins.isPut) := by
  have S : FnScope ["self", "instruction", "first", "size", "index", "expression", "place", "number"] ["self", "instruction"] (defScope sWalkPut) := ⟨rfl, rfl, rfl, by decide +kernel, rfl, by decide +kernel, by decide +kernel⟩
  refine met_mk c.cl F S (fun _ _ _ _ _ _ us hl => match us, hl with | [_, _], _ => rfl) (fun vs H Q E h => ?_) (fun f cdv A outer s H vs Q E hr h => ?_)
  · obtain ⟨G, a, cv, code, mem, ws, ws', u, i, rfl, _⟩ := h
    rfl
  · obtain ⟨G, a, cv, code, mem, ws, ws', u, i, rfl, W, d, hd, ok, hx, k⟩ := h
    have hu := hu_of hr
    cases i with
    | put first size ei ee =>
      have hd1 : ei.dep ≤ 2 := Nat.le_trans (Nat.le_max_left _ _) hd
      have hd2 : ee.dep ≤ 2 := Nat.le_trans (Nat.le_max_right _ _) hd
      obtain ⟨pl, z, hpl, hz, hc, rfl⟩ : ∃ pl z, evalF ws.fr ei = some pl ∧ evalF ws.fr ee = some z ∧ (0 ≤ pl ∧ pl < size ∧ 0 ≤ first ∧ ws.wr.length < 1000) ∧ ws' = { ws with wr := putK ws.wr (Sum.inl (first + pl) : Key) (.int z) } := by
        simp only [exec1] at hx
        split at hx
        · rename_i pl z h1 h2
          split at hx
          · rename_i hc
            exact ⟨pl, z, h1, h2, hc, (Option.some.inj hx).symm⟩
          · cases hx
        · cases hx
      obtain ⟨p1, p2, p3, p4⟩ := hc
      cases d with
      | tup hs r =>
        cases r with
        | cons d0 r =>
          obtain ⟨_, _, v3, v4, rfl, d1, d2, d3, d4⟩ := dvs4 r
          cases d0; cases d1; cases d2
          refine ⟨_, (pss_cons (ps_asg (pe_slice sl_tup (pv 1) (po_some pe_int) po_none) (pg_tup rfl (pgs_cons (pg_name (i := 2) S.nd rfl (Or.inl rfl)) (pgs_cons (pg_name (i := 3) S.nd rfl (Or.inl rfl)) (pgs_cons (pg_name (i := 4) S.nd rfl (Or.inl rfl)) (pgs_cons (pg_name (i := 5) S.nd rfl (Or.inl rfl)) pgs_nil))))))
  (pss_cons (ps_set (i := 6) S.nd rfl (Or.inl rfl) (pe_mt m_value hr (pv 0) (pa_cons (pv 4) pa_nil)))
  (pss_cons (ps_set (i := 7) S.nd rfl (Or.inl rfl) (pe_mt m_value hr (pv 0) (pa_cons (pv 5) pa_nil)))
  (pss_one (ps_dput hu (pe_fld (pv 0) rfl) (pe_mt m_cell hr (pv 0) (pa_cons (pv 2) (pa_cons (pv 3) (pa_cons (pv 6) pa_nil)))) (pv 7) rfl))))), ?_⟩
          refine q_unpU (eu_tl ev_v hs) rfl fun H1 e1 => ?_
          refine ⟨_, _, rfl, _, _, rfl, _, _, rfl, _, _, rfl, rfl, ?_⟩
          dsimp only
          refine q_asg (ev_wval (W.grow e1) ev_v ev_v (d3.mono e1) hd1 hpl) fun H2 e2 => ?_
          have e12 := Ex.trans e1 e2
          refine q_asg (ev_wval (W.grow e12) ev_v ev_v (d4.mono e12) hd2 hz) fun H3 e3 => ?_
          have W3 := W.grow (Ex.trans e12 e3)
          obtain ⟨dx, hp⟩ := W3.hp
          refine s_dput (kk := Sum.inl (first + pl)) W3.hw ev_v (ev_fz (i := 5) ev_v hp c rfl) (ev_wcell W3 ev_v ev_v ev_v ev_v p1 p2) (by omega) fun H4 b4 h4 => ?_
          exact k H4 (W3.set_wr b4 h4)
    | _ => exact False.elim ok
theorem ok_wload (T : Tx K mg aR) (c : ClsF K CW ksW) (F : MethAt K CW "load" "Walk.load" sWalkLoad) (m_cell : Met P w K mg base 1 CW "cell" spWCell) (m_value : Met P w K mg base 6 CW "value" (spWValue K CW)) : Met P w K mg base 7 CW "load" (spWDo K CW Ins.isLoad) := by
  have S : FnScope ["self", "instruction", "slot", "first", "size", "expression", "number"] ["self", "instruction"] (defScope sWalkLoad) := ⟨rfl, rfl, rfl, by decide +kernel, rfl, by decide +kernel, by decide +kernel⟩
  refine met_mk c.cl F S (fun _ _ _ _ _ _ us hl => match us, hl with | [_, _], _ => rfl) (fun vs H Q E h => ?_) (fun f cdv A outer s H vs Q E hr h => ?_)
  · obtain ⟨G, a, cv, code, mem, ws, ws', u, i, rfl, _⟩ := h
    rfl
  · obtain ⟨G, a, cv, code, mem, ws, ws', u, i, rfl, W, d, hd, ok, hx, k⟩ := h
    have hu := hu_of hr
    cases i with
    | load j first size ee =>
      obtain ⟨z, hz, hc, hrest⟩ : ∃ z, evalF ws.fr ee = some z ∧ (0 ≤ z ∧ z < size ∧ 0 ≤ first ∧ j < ws.fr.length ∧ ws.rd.length < 1000) ∧
          ((∃ v, valV ws.wr (Sum.inl (first + z) : Key) = some v ∧ ws' = { ws with fr := ws.fr.set j v }) ∨ (valV ws.wr (Sum.inl (first + z) : Key) = none ∧ ∃ v, mem[(first + z).toNat]? = some v ∧ ws' = { ws with fr := ws.fr.set j v, rd := putK ws.rd (Sum.inl (first + z) : Key) v })) := by
        simp only [exec1] at hx
        split at hx
        · rename_i z h1
          split at hx
          · rename_i hc
            refine ⟨z, h1, hc, ?_⟩
            split at hx
            · rename_i v hv
              exact .inl ⟨v, hv, (Option.some.inj hx).symm⟩
            · rename_i hv
              split at hx
              · rename_i v hm
                exact .inr ⟨hv, v, hm, (Option.some.inj hx).symm⟩
              · cases hx
          · cases hx
        · cases hx
      obtain ⟨p1, p2, p3, p4, p5⟩ := hc
      cases d with
      | tup hs r =>
        cases r with
        | cons d0 r =>
          obtain ⟨_, _, _, v4, rfl, d1, d2, d3, d4⟩ := dvs4 r
          cases d0; cases d1; cases d2; cases d3
          refine ⟨_, (pss_cons (ps_asg (pe_slice sl_tup (pv 1) (po_some pe_int) po_none) (pg_tup rfl (pgs_cons (pg_name (i := 2) S.nd rfl (Or.inl rfl)) (pgs_cons (pg_name (i := 3) S.nd rfl (Or.inl rfl)) (pgs_cons (pg_name (i := 4) S.nd rfl (Or.inl rfl)) (pgs_cons (pg_name (i := 5) S.nd rfl (Or.inl rfl)) pgs_nil))))))
  (pss_cons (ps_set (i := 6) S.nd rfl (Or.inl rfl) (pe_mt m_cell hr (pv 0) (pa_cons (pv 3) (pa_cons (pv 4) (pa_cons (pe_mt m_value hr (pv 0) (pa_cons (pv 5) pa_nil)) pa_nil)))))
  (pss_one (ps_if (pt_cmp (pc_din hu (pv 6) (pe_fld (pv 0) rfl)))
  (pss_one (ps_asg (pe_dget hu (pe_fld (pv 0) rfl) (pv 6) (fun _ _ => rfl)) (pg_sub (pe_fld (pv 0) rfl) (pv 2) set_list)))
  (pss_cons (ps_dput hu (pe_fld (pv 0) rfl) (pv 6) (pe_ix ix_list (pe_fld (pv 0) rfl) (pv 6) (fun _ _ => rfl)) rfl)
  (pss_one (ps_asg (pe_ix ix_list (pe_fld (pv 0) rfl) (pv 6) (fun _ _ => rfl)) (pg_sub (pe_fld (pv 0) rfl) (pv 2) set_list)))))))), ?_⟩
          refine q_unpU (eu_tl ev_v hs) rfl fun H1 e1 => ?_
          refine ⟨_, _, rfl, _, _, rfl, _, _, rfl, _, _, rfl, rfl, ?_⟩
          dsimp only
          have W1 := W.grow e1
          refine q_asg (ev_wcell W1 ev_v ev_v ev_v (ev_wval W1 ev_v ev_v (d4.mono e1) hd hz) p1 p2) fun H2 e2 => ?_
          have W2 := W1.grow e2
          obtain ⟨dx, hp⟩ := W2.hp
          rcases hrest with ⟨v, hv, rfl⟩ | ⟨hv, v, hm, rfl⟩
          · refine q_then (et_din (kk := Sum.inl (first + z)) W2.hw ev_v (ev_fz (i := 5) ev_v hp c rfl)) (by rw [hv]; rfl) fun H3 e3 => ?_
            have W3 := W2.grow e3
            have hp3 := e3 _ _ hp
            refine s_setl (j := j) W3.hf (ev_dget (kk := Sum.inl (first + z)) W3.hw ev_v (ev_fz (i := 5) ev_v hp3 c rfl) hv) (ev_fz (i := 1) ev_v hp3 c rfl) ev_v p4 fun H4 b4 h4 => ?_
            exact k H4 (W3.set_fr b4 h4)
          · refine q_else (et_din (kk := Sum.inl (first + z)) W2.hw ev_v (ev_fz (i := 5) ev_v hp c rfl)) (by rw [hv]; rfl) fun H3 e3 => ?_
            have W3 := W2.grow e3
            have hp3 := e3 _ _ hp
            have en : ((first + z).toNat : Int) = first + z := Int.toNat_of_nonneg (by omega)
            have evn : ∀ (σ : L2.St) (H' : Hp), σ[6]? = some (some (V.int (first + z))) → Ev (tVar 6) σ H' (.int ((first + z).toNat : Int)) := fun σ H' e => by
              rw [en]
              exact ev_var e
            refine q_dput (kk := Sum.inl (first + z)) W3.hr (ev_ixl (ev_fz (i := 2) ev_v hp3 c rfl) (Same.seq W3.ex W.hm) (evn _ _ rfl) hm) (ev_fz (i := 4) ev_v hp3 c rfl) ev_v (by omega) fun H4 b4 h4 => ?_
            have W4 := W3.set_rd b4 h4
            obtain ⟨dx4, hp4⟩ := W4.hp
            refine s_setl (j := j) W4.hf (ev_ixl (ev_fz (i := 2) ev_v hp4 c rfl) (Same.seq W4.ex W.hm) (evn _ _ rfl) hm) (ev_fz (i := 1) ev_v hp4 c rfl) ev_v p4 fun H5 b5 h5 => ?_
            exact k H5 (W4.set_fr b5 h5)
    | _ => exact False.elim ok
end
end HK


set_option maxRecDepth 100000
set_option maxHeartbeats 4000000
/-! A8: Walk.do, Walk.run, Walk(..). -/
namespace HK
open PySem PySem.Spec PyProof.Rows L2
open Evl (Ex Ev EvT EvA EvL EvU RetV ev_var ev_c ev_op ev_un ea_nil ea_cons et_test et_B et_and et_or et_not ev_call ev_cb rv_I0 rv_I rv_eq rv_ixL rv_ixT ev_inU ev_niU eu_tup el_lst ev_len el_list q_when q_if q_asg q_drop s_asg s_ret s_if s_drop)
abbrev sWalkInit : Stmt := inClass (top 36) 0
section
variable {P : Program} {w : World} {K : PySem.W.Frag} {mg : Str → Option Value} {base : Heap} {aR CW : Addr}
theorem ok_wdo (T : Tx K mg aR) (c : ClsF K CW ksW) (F : MethAt K CW "do" "Walk.do" sWalkDo) (m_value : Met P w K mg base 6 CW "value" (spWValue K CW)) (m_load : Met P w K mg base 7 CW "load" (spWDo K CW Ins.isLoad)) (m_put : Met P w K mg base 7 CW "put" (spWDo K CW Ins.isPut)) :
    Met P w K mg base 8 CW "do" (spWDo K CW fun _ => True) := by
  have S : FnScope ["self", "instruction", "kind"] ["self", "instruction"] (defScope sWalkDo) := ⟨rfl, rfl, rfl, by decide +kernel, rfl, by decide +kernel, by decide +kernel⟩
  refine met_mk c.cl F S (fun _ _ _ _ _ _ us hl => match us, hl with | [_, _], _ => rfl) (fun vs H Q E h => ?_) (fun f cdv A outer s H vs Q E hr h => ?_)
  · obtain ⟨G, a, cv, code, mem, ws, ws', u, i, rfl, _⟩ := h
    rfl
  · obtain ⟨G, a, cv, code, mem, ws, ws', u, i, rfl, W, d, hd, _, hx, k⟩ := h
    refine ⟨_, (pss_cons (ps_set (i := 2) S.nd rfl (Or.inl rfl) (pe_ix ix_tup (pv 1) pe_int (fun _ _ => rfl)))
  (pss_one (ps_if (pt_cmpR op_eq (pv 2) pe_str (nomark _))
  (pss_one (ps_fld (pv 0) (pe_ix ix_tup (pv 1) pe_int (fun _ _ => rfl)) rfl))
  (pss_one (ps_if (pt_cmpR op_eq (pv 2) pe_str (nomark _))
  (pss_one (ps_if (pt_cmpR op_eq (pe_mt m_value hr (pv 0) (pa_cons (pe_ix ix_tup (pv 1) pe_int (fun _ _ => rfl)) pa_nil)) pe_int (nomark _))
  (pss_one (ps_fld (pv 0) (pe_ix ix_tup (pv 1) pe_int (fun _ _ => rfl)) rfl))
  pss_nil))
  (pss_one (ps_if (pt_cmpR op_eq (pv 2) pe_str (nomark _))
  pss_never
  (pss_one (ps_if (pt_cmpR op_eq (pv 2) pe_str (nomark _))
  pss_never
  (pss_one (ps_if (pt_cmpR op_eq (pv 2) pe_str (nomark _))
  (pss_one (ps_asg (pe_mt m_value hr (pv 0) (pa_cons (pe_ix ix_tup (pv 1) pe_int (fun _ _ => rfl)) pa_nil)) (pg_sub (pe_fld (pv 0) rfl) (pe_ix ix_tup (pv 1) pe_int (fun _ _ => rfl)) set_list)))
  (pss_one (ps_if (pt_cmpR op_eq (pv 2) pe_str (nomark _))
  pss_never
  (pss_one (ps_if (pt_cmpR op_eq (pv 2) pe_str (nomark _))
  (pss_one (ps_expr (pe_mt m_load hr (pv 0) (pa_cons (pv 1) pa_nil))))
  (pss_one (ps_expr (pe_mt m_put hr (pv 0) (pa_cons (pv 1) pa_nil))))))))))))))))))), ?_⟩
    cases i with
    | jump t =>
      cases d with
      | tup hs r =>
        obtain ⟨_, _, rfl, d0, d1⟩ := dvs2 r
        cases d0; cases d1
        refine q_asg (ev_ixt (j := 0) ev_v hs rfl) fun H1 e1 => ?_
        refine q_t (et_eqS ev_v ev_c) fun H2 e2 => ?_
        have W2 := W.grow (Ex.trans e1 e2)
        obtain ⟨dx, hp⟩ := W2.hp
        refine s_fld (i := 3) (ev_ixt (j := 1) ev_v (Same.sqT (Ex.trans e1 e2) hs) rfl) ev_v hp c fun H3 b3 h3 => ?_
        have e : ws' = { ws with at_ := t } := (Option.some.inj hx).symm
        subst e
        exact k H3 (W2.set_at b3 ⟨dx, h3⟩)
    | unl e t =>
      cases d with
      | tup hs r =>
        obtain ⟨_, _, _, rfl, d0, d1, d2⟩ := dvs3 r
        cases d0; cases d2
        obtain ⟨z, hz, hw'⟩ : ∃ z, evalF ws.fr e = some z ∧ ws' = if z = 0 then { ws with at_ := t } else ws := by
          simp only [exec1] at hx
          split at hx
          · rename_i z h1
            exact ⟨z, h1, (Option.some.inj hx).symm⟩
          · cases hx
        refine q_asg (ev_ixt (j := 0) ev_v hs rfl) fun H1 e1 => ?_
        refine q_e (et_eqS ev_v ev_c) fun H2 e2 => ?_
        refine q_t (et_eqS ev_v ev_c) fun H3 e3 => ?_
        have e13 := Ex.trans (Ex.trans e1 e2) e3
        have W3 := W.grow e13
        refine Evl.s_when (et_eqI (ev_wval W3 ev_v (ev_ixt (j := 1) ev_v (Same.sqT e13 hs) rfl) (d1.mono e13) hd hz) ev_c) (fun hb H4 e4 => ?_) (fun hb H4 e4 => ?_)
        · have z0 : z = 0 := of_decide_eq_true hb
          rw [if_pos z0] at hw'
          subst hw'
          have W4 := W3.grow e4
          obtain ⟨dx, hp⟩ := W4.hp
          refine s_fld (i := 3) (ev_ixt (j := 2) ev_v (Same.sqT (Ex.trans e13 e4) hs) rfl) ev_v hp c fun H5 b5 h5 => ?_
          exact k H5 (W4.set_at b5 ⟨dx, h5⟩)
        · have z0 : ¬ z = 0 := of_decide_eq_false hb
          rw [if_neg z0] at hw'
          subst hw'
          exact k H4 (W3.grow e4)
    | set j e =>
      cases d with
      | tup hs r =>
        obtain ⟨_, _, _, rfl, d0, d1, d2⟩ := dvs3 r
        cases d0; cases d1
        obtain ⟨z, hz, hj, rfl⟩ : ∃ z, evalF ws.fr e = some z ∧ j < ws.fr.length ∧ ws' = { ws with fr := ws.fr.set j (.int z) } := by
          simp only [exec1] at hx
          split at hx
          · rename_i z h1
            split at hx
            · rename_i hj
              exact ⟨z, h1, hj, (Option.some.inj hx).symm⟩
            · cases hx
          · cases hx
        refine q_asg (ev_ixt (j := 0) ev_v hs rfl) fun H1 e1 => ?_
        refine q_e (et_eqS ev_v ev_c) fun H2 e2 => ?_
        refine q_e (et_eqS ev_v ev_c) fun H3 e3 => ?_
        refine q_e (et_eqS ev_v ev_c) fun H4 e4 => ?_
        refine q_e (et_eqS ev_v ev_c) fun H5 e5 => ?_
        refine q_t (et_eqS ev_v ev_c) fun H6 e6 => ?_
        have e16 := Ex.trans (Ex.trans (Ex.trans (Ex.trans (Ex.trans e1 e2) e3) e4) e5) e6
        have W6 := W.grow e16
        obtain ⟨dx, hp⟩ := W6.hp
        refine s_setl (j := j) W6.hf (ev_wval W6 ev_v (ev_ixt (j := 2) ev_v (Same.sqT e16 hs) rfl) (d2.mono e16) hd hz) (ev_fz (i := 1) ev_v hp c rfl) (ev_ixt (j := 1) ev_v (Same.sqT e16 hs) rfl) hj fun H7 b7 h7 => ?_
        exact k H7 (W6.set_fr b7 h7)
    | load j first size e =>
      have d' := d
      cases d with
      | tup hs r =>
        cases r with
        | cons d0 r =>
          cases d0
          refine q_asg (ev_ixt (j := 0) ev_v hs rfl) fun H1 e1 => ?_
          refine q_e (et_eqS ev_v ev_c) fun H2 e2 => ?_
          refine q_e (et_eqS ev_v ev_c) fun H3 e3 => ?_
          refine q_e (et_eqS ev_v ev_c) fun H4 e4 => ?_
          refine q_e (et_eqS ev_v ev_c) fun H5 e5 => ?_
          refine q_e (et_eqS ev_v ev_c) fun H6 e6 => ?_
          refine q_e (et_eqS ev_v ev_c) fun H7 e7 => ?_
          refine q_t (et_eqS ev_v ev_c) fun H8 e8 => ?_
          have e18 := Ex.trans (Ex.trans (Ex.trans (Ex.trans (Ex.trans (Ex.trans (Ex.trans e1 e2) e3) e4) e5) e6) e7) e8
          have W8 := W.grow e18
          obtain ⟨dx, hp⟩ := W8.hp
          refine s_dropM (go_meth ev_v hp (fz_none (by decide +kernel)) (ea_cons ev_v ea_nil) fun H9 e9 => ?_)
          exact ⟨G, a, cv, code, mem, ws, ws', _, .load j first size e, rfl, W8.grow e9, d'.mono (Ex.trans e18 e9), hd, trivial, hx, k⟩
    | put first size ei ee =>
      have d' := d
      cases d with
      | tup hs r =>
        cases r with
        | cons d0 r =>
          cases d0
          refine q_asg (ev_ixt (j := 0) ev_v hs rfl) fun H1 e1 => ?_
          refine q_e (et_eqS ev_v ev_c) fun H2 e2 => ?_
          refine q_e (et_eqS ev_v ev_c) fun H3 e3 => ?_
          refine q_e (et_eqS ev_v ev_c) fun H4 e4 => ?_
          refine q_e (et_eqS ev_v ev_c) fun H5 e5 => ?_
          refine q_e (et_eqS ev_v ev_c) fun H6 e6 => ?_
          refine q_e (et_eqS ev_v ev_c) fun H7 e7 => ?_
          refine q_e (et_eqS ev_v ev_c) fun H8 e8 => ?_
          have e18 := Ex.trans (Ex.trans (Ex.trans (Ex.trans (Ex.trans (Ex.trans (Ex.trans e1 e2) e3) e4) e5) e6) e7) e8
          have W8 := W.grow e18
          obtain ⟨dx, hp⟩ := W8.hp
          refine s_dropM (go_meth ev_v hp (fz_none (by decide +kernel)) (ea_cons ev_v ea_nil) fun H9 e9 => ?_)
          exact ⟨G, a, cv, code, mem, ws, ws', _, .put first size ei ee, rfl, W8.grow e9, d'.mono (Ex.trans e18 e9), hd, trivial, hx, k⟩
    | retry => cases hx
theorem DVs.map_at {K : PySem.W.Frag} {H : Hp} {α : Type} {f : α → D} {l : List α} {cv : List V} {n : Nat} {i : α} (d : DVs K H (l.map f) cv) (h : l[n]? = some i) : ∃ v, cv[n]? = some v ∧ DV K H (f i) v :=
  d.at (by rw [List.getElem?_map, h]; rfl)
theorem ok_wrun (T : Tx K mg aR) (c : ClsF K CW ksW) (F : MethAt K CW "run" "Walk.run" sWalkRun) (m_do : Met P w K mg base 8 CW "do" (spWDo K CW fun _ => True)) : Met P w K mg base 9 CW "run" (spWRun K CW) := by
  have S : FnScope ["self", "instruction", "kind"] ["self"] (defScope sWalkRun) := ⟨rfl, rfl, rfl, by decide +kernel, rfl, by decide +kernel, by decide +kernel⟩
  refine met_mk c.cl F S (fun _ _ _ _ _ _ us hl => match us, hl with | [_], _ => rfl) (fun vs H Q E h => ?_) (fun f cdv A outer s H vs Q E hr h => ?_)
  · obtain ⟨G, a, cv, code, mem, ws, ws', b, f, rfl, _⟩ := h
    rfl
  · obtain ⟨G, a, cv, code, mem, ws, ws', b, fu, rfl, W, hd, hx, k⟩ := h
    refine ⟨_, (pss_cons (ps_while PassesOwn.never (pt_cmpR op_lt (pe_fld (pv 0) rfl) (pe_callB call_len_seq (by rfl) T.b.len (by decide +kernel) (pa_cons (pe_fld (pv 0) rfl) pa_nil)) (nomark _))
  (pss_cons (ps_set (i := 1) S.nd rfl (Or.inl rfl) (pe_ix ix_list (pe_fld (pv 0) rfl) (pe_fld (pv 0) rfl) (fun _ _ => rfl)))
  (pss_cons (ps_fldaug (pv 0) pe_int in_add)
  (pss_cons (ps_set (i := 2) S.nd rfl (Or.inl rfl) (pe_ix ix_tup (pv 1) pe_int (fun _ _ => rfl)))
  (pss_cons (ps_if (PW.pt (pw_or (pt_cmpR op_eq (pv 2) pe_str (nomark _)) (pw_or1 (PW.pt (pw_and (pt_cmpR op_eq (pv 2) pe_str (nomark _)) (pw_and1 (pt_cmpR op_eq (pe_callB call_len_seq (by rfl) T.b.len (by decide +kernel) (pa_cons (pe_fld (pv 0) rfl) pa_nil)) pe_int (nomark _))))))))
  (pss_one (ps_ret (pv 2)))
  pss_nil)
  (pss_one (ps_if (pt_cmpR op_eq (pv 2) pe_str (nomark _))
  pss_never
  (pss_one (ps_if (pt_cmpR op_eq (pv 2) pe_str (nomark _))
  pss_never
  (pss_one (ps_expr (pe_mt m_do hr (pv 0) (pa_cons (pv 1) pa_nil)))))))))))))
  (pss_one (ps_ret pe_str))), ?_⟩
    refine Evl.q_while (fun m σ H => ∃ ws v1 v2, σ = [some (.ref a.p), v1, v2] ∧ WAt K CW G H a cv code mem ws ∧ runM code mem m ws = some (ws', b)) fu ⟨ws, none, none, rfl, W, hx⟩ ?_
    rintro m σ H0 ⟨ws0, v1, v2, rfl, W0, hx0⟩
    obtain ⟨dx, hp⟩ := W0.hp
    have ecl : cv.length = code.length := by rw [← W0.dc.length, List.length_map]
    refine ⟨decide ((ws0.at_ : Int) < (cv.length : Int)), et_test (ev_op (ev_fz (i := 3) ev_v hp c rfl) (ev_lenl (ev_fz (i := 0) ev_v hp c rfl) (Same.seq W0.ex W0.hc)) rv_I0), fun hb H1 e1 => ?_, fun hb H1 e1 => ?_⟩
    · have hlt : ws0.at_ < code.length := by
        have := of_decide_eq_true hb
        omega
      have W1 := W0.grow e1
      have hp1 := e1 _ _ hp
      obtain ⟨i, hi⟩ : ∃ i, code[ws0.at_]? = some i := ⟨_, List.getElem?_eq_getElem hlt⟩
      obtain ⟨u, hu, du⟩ := DVs.map_at W0.dc hi
      cases m with
      | zero => cases hx0
      | succ m =>
        refine ⟨fun σ2 H2 => ∃ ws v1 v2, σ2 = [some (.ref a.p), v1, v2] ∧ WAt K CW G H2 a cv code mem ws ∧ runM code mem m ws = some (ws', b), fun σ2 H2 hN => ⟨m, Nat.lt_succ_self m, hN⟩, ?_⟩
        refine q_asg (ev_ixl (ev_fz (i := 0) ev_v hp1 c rfl) (Same.seq W1.ex W1.hc) (ev_fz (i := 3) ev_v hp1 c rfl) hu) fun H2 e2 => ?_
        have W2 := W1.grow e2
        refine q_faug (i := 3) ev_c ev_v (e2 _ _ hp1) c rfl fun H3 b3 h3 => ?_
        have W3 : WAt K CW G H3 a cv code mem { ws0 with at_ := ws0.at_ + 1 } := W2.set_at b3 ⟨dx, h3⟩
        have du3 : DV K H3 i.toD u := du.mono W3.ex
        have stp : ∀ i', code[ws0.at_]? = some i' → i' ≠ .retry → ∃ s', exec1 mem i' { ws0 with at_ := ws0.at_ + 1 } = some s' ∧ runM code mem m s' = some (ws', b) := by
          intro i' h hne
          unfold runM at hx0
          rw [h] at hx0
          cases i' with
          | retry => exact absurd rfl hne
          | _ =>
            dsimp only at hx0
            split at hx0
            · rename_i s' hs'
              exact ⟨s', hs', hx0⟩
            · cases hx0
        cases i with
        | retry =>
          have hfin : ws' = { ws0 with at_ := ws0.at_ + 1 } ∧ b = false := by
            unfold runM at hx0
            rw [hi] at hx0
            have := Option.some.inj hx0
            exact ⟨(congrArg Prod.fst this).symm, (congrArg Prod.snd this).symm⟩
          obtain ⟨rfl, rfl⟩ := hfin
          cases du3 with
          | tup hs r =>
            obtain ⟨_, rfl, d0⟩ := dvs1 r
            cases d0
            refine q_asg (ev_ixt (j := 0) ev_v hs rfl) fun H4 e4 => ?_
            have W4 := W3.grow e4
            obtain ⟨dx4, hp4⟩ := W4.hp
            refine q_when (b := true) ?_ (fun _ H5 e5 => ?_) (fun q => nomatch q)
            · exact Evl.et_is (et_or (a := false) (b := true) (et_eqS ev_v ev_c) fun _ => Evl.et_is (et_and (a := true) (b := true) (et_eqS ev_v ev_c) fun _ => Evl.et_is (et_eqI (ev_lenl (ev_fz (i := 7) ev_v hp4 c rfl) (sqL_of W4.hn)) ev_c) rfl) rfl) rfl
            · exact s_ret ev_v fun H6 e6 => k H6 ((W4.grow e5).grow e6)
        | _ =>
          obtain ⟨s', hs', hx'⟩ := stp _ hi (by intro z; cases z)
          have du' := du3
          cases du3 with
          | tup hs r =>
            cases r with
            | cons d0 r =>
              cases d0
              refine q_asg (ev_ixt (j := 0) ev_v hs rfl) fun H4 e4 => ?_
              refine q_when (b := false) ?_ (fun q => nomatch q) fun _ H5 e5 => ?_
              · exact Evl.et_is (et_or (a := false) (b := false) (et_eqS ev_v ev_c) fun _ => Evl.et_is (et_and (a := false) (b := false) (et_eqS ev_v ev_c) (fun q => nomatch q)) rfl) rfl
              refine q_e (et_eqS ev_v ev_c) fun H6 e6 => ?_
              refine q_e (et_eqS ev_v ev_c) fun H7 e7 => ?_
              have e47 := Ex.trans (Ex.trans (Ex.trans e4 e5) e6) e7
              have W7 := W3.grow e47
              obtain ⟨dx7, hp7⟩ := W7.hp
              refine s_dropM (go_meth ev_v hp7 (fz_none (by decide +kernel)) (ea_cons ev_v ea_nil) fun H8 e8 => ?_)
              exact ⟨G, a, cv, code, mem, _, s', _, _, rfl, W7.grow e8, du'.mono (Ex.trans e47 e8), hd _ (List.mem_of_getElem? hi), trivial, hs', fun H9 W9 => ⟨s', _, _, rfl, W9, hx'⟩⟩
    · have hge : code.length ≤ ws0.at_ := by
        have := of_decide_eq_false hb
        omega
      cases m with
      | zero => cases hx0
      | succ m =>
        have hfin : ws' = ws0 ∧ b = true := by
          unfold runM at hx0
          rw [List.getElem?_eq_none hge] at hx0
          have := Option.some.inj hx0
          exact ⟨(congrArg Prod.fst this).symm, (congrArg Prod.snd this).symm⟩
        obtain ⟨rfl, rfl⟩ := hfin
        exact s_ret ev_c fun H2 e2 => k H2 ((W0.grow e1).grow e2)
/-- Walk(..): the arguments' lists are known to G, the heap ahead of the instance -/
def spWInit (K : PySem.W.Frag) (CW : Addr) : Sp := fun vs H Q _ => ∃ (G : Hp) (p dx cl fl0 ml : Addr) (cv fr mem : List V) (code : List Ins), vs = [.ref p, .ref cl, .ref fl0, .ref ml] ∧ H p = some (.ins CW dx []) ∧ Ex G H ∧ G p = none ∧
  SqL K G cl cv ∧ DVs K G (code.map Ins.toD) cv ∧ SqL K G fl0 fr ∧ SqL K G ml mem ∧ ∀ (a : WA) H', a.p = p → WAt K CW G H' a cv code mem ⟨0, fr, [], []⟩ → Q .non H'
theorem ok_winit (T : Tx K mg aR) (c : ClsF K CW ksW) (F : InitAt K mg "Walk" CW "Walk.__init__" sWalkInit) : Mak P w K mg base 1 "Walk" CW (spWInit K CW) := by
  have S : FnScope ["self", "code", "frame", "memory"] ["self", "code", "frame", "memory"] (defScope sWalkInit) := ⟨rfl, rfl, rfl, by decide +kernel, rfl, by decide +kernel, by decide +kernel⟩
  refine mak_mk F S (fun _ _ _ _ _ _ us hl => match us, hl with | [_, _, _, _], _ => rfl) (fun vs H Q E h => ?_) (fun f cdv A outer s H vs Q E hr h => ?_)
  · obtain ⟨G, p, dx, cl, fl0, ml, cv, fr, mem, code, rfl, _⟩ := h
    rfl
  · obtain ⟨G, p, dx, cl, fl0, ml, cv, fr, mem, code, rfl, hp, eG, gp, hc, dc, hf, hm, k⟩ := h
    have na : ∀ f, f ∈ ksW → NoAttr K CW f := c.na
    refine ⟨_, (pss_cons (ps_fld (pv 0) (pv 1) rfl)
  (pss_cons (ps_fld (pv 0) (pe_callTy call_list_of (by rfl) T.b.list (by decide +kernel) (pa_cons (pv 2) pa_nil)) rfl)
  (pss_cons (ps_fld (pv 0) (pv 3) rfl)
  (pss_cons (ps_fld (pv 0) pe_int rfl)
  (pss_cons (ps_fld (pv 0) pe_dnewK rfl)
  (pss_cons (ps_fld (pv 0) pe_dnewK rfl)
  (pss_cons (ps_fld (pv 0) (pe_lst pa_nil) rfl)
  (pss_one (ps_fld (pv 0) (pe_lst pa_nil) rfl))))))))), ?_⟩
    refine q_fldN (ks := []) (vs := []) ev_v ev_v hp c.cl (na _ (by decide +kernel)) fun H1 b1 p1 => ?_
    have g1 : Ex G H1 := ExB.ex eG gp b1
    refine q_fldNL (el_list ev_v (Same.seq g1 hf)) ev_v p1 c.cl (na _ (by decide +kernel)) fun fl H2 nf b2 f2 p2 => ?_
    refine q_fldN ev_v ev_v p2 c.cl (na _ (by decide +kernel)) fun H3 b3 p3 => ?_
    refine q_fldN ev_c ev_v p3 c.cl (na _ (by decide +kernel)) fun H4 b4 p4 => ?_
    have g4 : Ex G H4 := ExB.ex (ExB.ex (ExB.ex g1 gp b2) gp b3) gp b4
    have pf : p ≠ fl := ne_of_none p1 nf
    have f4 := b4 _ _ pf.symm (b3 _ _ pf.symm f2)
    refine q_fldND (fun _ _ => ev_v) p4 c.cl (na _ (by decide +kernel)) fun rd H5 nr b5 r5 p5 => ?_
    have pr : p ≠ rd := ne_of_none p4 nr
    refine q_fldND (fun _ _ => ev_v) p5 c.cl (na _ (by decide +kernel)) fun wd H6 nw b6 w6 p6 => ?_
    have pw : p ≠ wd := ne_of_none p5 nw
    refine q_fldNL (el_lst ea_nil (by decide)) ev_v p6 c.cl (na _ (by decide +kernel)) fun lt H7 nl b7 l7 p7 => ?_
    have pl : p ≠ lt := ne_of_none p6 nl
    refine s_fldNL (el_lst ea_nil (by decide)) ev_v p7 c.cl (na _ (by decide +kernel)) fun nt H8 nn b8 n8 p8 => ?_
    have f7 := b7 _ _ pf.symm (b6 _ _ pf.symm (b5 _ _ pf.symm f4))
    have f6 := b6 _ _ pf.symm (b5 _ _ pf.symm f4)
    have g6 : Ex G H6 := ExB.ex (ExB.ex g4 gp b5) gp b6
    refine k ⟨p, cl, fl, ml, rd, wd, lt, nt⟩ H8 rfl ⟨ExB.ex (ExB.ex g6 gp b7) gp b8, gp, ?_, ?_, ?_, ⟨dx, p8⟩, b8 _ _ pf.symm f7, b8 _ _ pr.symm (b7 _ _ pr.symm (b6 _ _ pr.symm r5)), b8 _ _ pw.symm (b7 _ _ pw.symm w6), b8 _ _ pl.symm l7, n8, ?_, ?_, ?_, hc, dc, hm⟩
    · exact Evl.fresh_back g1 nf
    · exact Evl.fresh_back g4 nr
    · exact Evl.fresh_back (ExB.ex g4 gp b5) nw
    · exact ne_of_none f6 nl
    · exact ne_of_none f7 nn
    · exact ne_of_none r5 nw
end
end HK


set_option maxRecDepth 100000
set_option maxHeartbeats 4000000
/-! A9: Outcome, ended, walk_block. -/
namespace HK
open PySem PySem.Spec PyProof.Rows L2
open Evl (Ex Ev EvT EvA EvL EvU RetV ev_var ev_c ev_op ev_un ea_nil ea_cons et_test et_B et_and et_or et_not ev_call ev_cb rv_I0 rv_I rv_eq rv_ixL rv_ixT ev_inU ev_niU eu_tup el_lst ev_len el_list q_when q_if q_asg q_drop s_asg s_ret s_if s_drop)
abbrev sOutcomeInit : Stmt := inClass (top 32) 0
abbrev sEnded : Stmt := top 33
abbrev sWalkBlock : Stmt := top 37
def ksO : List Str := ["kind", "reads", "writes", "finals", "later", "reason"]
abbrev psO : List Str := ["self", "kind", "reads", "writes", "finals", "later", "reason"]
structure OutAt (K : PySem.W.Frag) (mg : Str → Option Value) (CO : Addr) : Prop where
  ex : ∃ f fd, FunD K "__init__" "Outcome.__init__" (defArgs sOutcomeInit) (defBody sOutcomeInit) (defScope sOutcomeInit) [] [("reason", .non)] f fd ∧ Mk K CO f ∧ mg "Outcome" = some (.ref CO)
structure EndAt (K : PySem.W.Frag) (mg : Str → Option Value) : Prop where
  ex : ∃ f fd, FunD K "ended" "ended" (defArgs sEnded) (defBody sEnded) (defScope sEnded) [.non] [] f fd ∧ mg "ended" = some (.ref f)
/-- Outcome(..) -/
def spOut (K : PySem.W.Frag) (CO : Addr) : Sp := fun vs H Q _ => ∃ (p dx r w fi la : Addr) (kind : Str) (rk wk : List (Key × V)) (fs ls : List V) (reason : V),
  vs = [.ref p, .str kind, .ref r, .ref w, .ref fi, .ref la, reason] ∧ H p = some (.ins CO dx []) ∧ H r = some (.dK rk) ∧ H w = some (.dK wk) ∧ SqL K H fi fs ∧ SqL K H la ls ∧
  ∀ (r' w' fi' la' : Addr) H', ExB p H H' → H' p = some (.ins CO dx (ksO.zip [.str kind, .ref r', .ref w', .ref fi', .ref la', reason])) → H' w' = some (.dK wk) → H' fi' = some (.lst fs) → H' la' = some (.lst ls) → H fi' = none → H la' = none → Q .non H'
structure OutK (P : Program) (w : World) (K : PySem.W.Frag) (mg : Str → Option Value) (base : Heap) (CO : Addr) : Prop where
  ex : ∃ f fd, Mk K CO f ∧ FnOk P w K mg base CX0 1 f fd psO (spOut K CO) ∧ mg "Outcome" = some (.ref CO) ∧
    (∃ mv : List Value, KBn K fd psO 2 ["reads", "writes", "finals", "later"] (fun us ws => us ++ (ws ++ mv)) (fun vs zs => vs ++ (zs ++ [.non]))) ∧
    (∃ mv : List Value, KBn K fd psO 2 ["reads", "writes", "finals", "later", "reason"] (fun us ws => us ++ (ws ++ mv)) (fun vs zs => vs ++ (zs ++ [])))
section
variable {K : PySem.W.Frag} {σ : L2.St} {H : Hp} {te ta tb : TE} {xs vs : List V} {D' : Ends} {u : TS} {p C dx a : Addr} {ks : List Str} {f : Str} {kvs : List (Key × V)} {n : Nat} {hi : TO}
theorem ExB.back {p b : Addr} {H H' : Hp} (e : ExB p H H') (nb : b ≠ p) (h : H' b = none) : H b = none := by
  cases q : H b with
  | none => rfl
  | some o => rw [e b o nb q] at h; cases h
/-- dict(d) into a new field -/
theorem q_fldNDc (hd : H a = some (.dK kvs)) (hte : Ev te σ H (.ref a)) (ho : ∀ H1, Ex H H1 → Ev ta σ H1 (.ref p)) (hp : H p = some (.ins C dx (ks.zip vs))) (hc : Cls K C) (hn : NoAttr K C f) (k : ∀ l H', H l = none → ExB p H H' → H' l = some (.dK kvs) → H' p = some (.ins C dx ((ks ++ [f]).zip (vs ++ [.ref l]))) → u D' σ H')
    (hl : ks.length = vs.length := by rfl) (hi : ixS f ks = none := by decide +kernel) (hz : Nat.blt ks.length 1000 = true := by decide +kernel) :
    tSeq (sFld K ta (tCB (fun xs H Q => ∃ (a : Addr) (kvs : List (Key × V)), xs = [.ref a] ∧ Rd H a (.dK kvs) ∧ ∀ p, H p = none → Q (.ref p) (upd H p (.dK kvs))) (tCons te tNil)) f) u D' σ H :=
  hte H (Ex.refl H) _ fun H1 e1 => ⟨a, kvs, rfl, .inl (e1 _ _ hd), fun l hnl1 => by
    have hnl := Evl.fresh_back e1 hnl1
    have e2 := Ex.trans e1 (Ex.new (o := .dK kvs) hnl1)
    refine ho _ e2 _ (Ex.refl _) _ fun H2 e3 => ⟨p, C, dx, _, rfl, (Ex.trans e2 e3) _ _ hp, hc, hn, by
      have := Nat.le_of_ble_eq_true hz
      rw [List.length_zip]
      omega, by rw [fz_new hi hl]; exact k l _ hnl (ExB.upd (Ex.trans e2 e3)) (by rw [upd_ne (Ne.symm (ne_of_none hp hnl))]; exact e3 _ _ upd_same) upd_same⟩⟩
theorem cut_take (xs : List V) (n : Nat) : cutV xs none (some (n : Int)) = xs.take n := by
  unfold cutV
  rw [HT.sIx_none, HT.sIx_nat]
  by_cases h : n ≤ xs.length
  · rw [Nat.min_eq_left h]
    simp
  · rw [Nat.min_eq_right (by omega), List.drop_zero, Nat.sub_zero, List.take_of_length_le (Nat.le_refl _), List.take_of_length_le (by omega)]
theorem el_takeN (h : EvL te σ H xs) (hn : Ev tb σ H (.int (n : Int))) : EvL (tSl (rSlL K) te tNoPart (tPart tb)) σ H (xs.take n) := fun H1 e Q q =>
  h H1 e _ fun l H2 nl e2 hl => hn H2 (Ex.trans e e2) _ fun H3 e3 => ⟨(n : Int), rfl, l, xs, rfl, sqL_of (e3 _ _ hl), fun p hp => by
    rw [cut_take]
    exact q p _ (Evl.fresh_back (Ex.trans e2 e3) hp) (Ex.trans (Ex.trans e2 e3) (Ex.new hp)) upd_same⟩
theorem el_take (h : Ev te σ H (.ref a)) (hx : SqL K H a xs) (hn : Ev tb σ H (.int (n : Int))) : EvL (tSl (rSlL K) te tNoPart (tPart tb)) σ H (xs.take n) := by
  rw [← cut_take]
  exact Evl.el_sl h Evl.eo_none (Evl.eo_some hn) hx
end
section
variable {P : Program} {w : World} {K : PySem.W.Frag} {mg : Str → Option Value} {base : Heap} {aR CW CO : Addr}
theorem ok_outcome (T : Tx K mg aR) (c : ClsF K CO ksO) (F : OutAt K mg CO) : OutK P w K mg base CO := by
  obtain ⟨f, fd, FD, hM, hm⟩ := F.ex
  refine ⟨f, fd, hM, ?_, hm, ?_, ?_⟩
  · have S : FnScope psO psO (defScope sOutcomeInit) := ⟨rfl, rfl, rfl, by decide +kernel, rfl, by decide +kernel, by decide +kernel⟩
    have na : ∀ f, f ∈ ksO → NoAttr K CO f := c.na
    refine FD.ok S (fun vs H Q E h => ?_) (fun cdv A outer s H vs Q E hr h => ?_)
    · obtain ⟨p, dx, r, w', fi, la, kind, rk, wk, fs, ls, reason, rfl, _⟩ := h
      rfl
    · obtain ⟨p, dx, r, w', fi, la, kind, rk, wk, fs, ls, reason, rfl, hp, hrd, hwd, hf, hl, k⟩ := h
      have ht : ∀ t, PSs (cxOf CX0 P w K mg base psO "Outcome.__init__" (defScope sOutcomeInit) f cdv A outer s H E).nox (defBody sOutcomeInit) t → t { nx := fun _ H' => Q .non H', rt := Q } (start psO [.ref p, .str kind, .ref r, .ref w', .ref fi, .ref la, reason]) H →
        ∃ t, PSs (cxOf CX0 P w K mg base psO "Outcome.__init__" (defScope sOutcomeInit) f cdv A outer s H E) (defBody sOutcomeInit) t ∧ t { nx := fun _ H' => Q .non H', rt := Q } (start psO [.ref p, .str kind, .ref r, .ref w', .ref fi, .ref la, reason]) H := fun t a b => ⟨t, a.nox, b⟩
      refine ht _ (pss_cons (ps_fld (pv 0) (pv 1) rfl)
  (pss_cons (ps_fld (pv 0) (pe_callTy call_dictD (by rfl) T.b.dict (by decide +kernel) (pa_cons (pv 2) pa_nil)) rfl)
  (pss_cons (ps_fld (pv 0) (pe_callTy call_dictD (by rfl) T.b.dict (by decide +kernel) (pa_cons (pv 3) pa_nil)) rfl)
  (pss_cons (ps_fld (pv 0) (pe_callTy call_list_of (by rfl) T.b.list (by decide +kernel) (pa_cons (pv 4) pa_nil)) rfl)
  (pss_cons (ps_fld (pv 0) (pe_callTy call_list_of (by rfl) T.b.list (by decide +kernel) (pa_cons (pv 5) pa_nil)) rfl)
  (pss_one (ps_fld (pv 0) (pv 6) rfl))))))) ?_
      have pr : r ≠ p := ne_of hrd hp (by intro z; cases z)
      have pw : w' ≠ p := ne_of hwd hp (by intro z; cases z)
      have sq : ∀ {q : Addr} {xs : List V} {H1 : Hp}, SqL K H q xs → ExB p H H1 → SqL K H1 q xs := fun {q xs H1} h b => by
        rcases h with (h | ⟨o, h⟩) | h
        · exact .inl (.inl (b _ _ (ne_of h hp (by intro z; cases z)) h))
        · exact .inl (.inr ⟨o, b _ _ (ne_of h hp (by intro z; cases z)) h⟩)
        · exact .inr h
      refine q_fldN (ks := []) (vs := []) ev_v ev_v hp c.cl (na _ (by decide +kernel)) fun H1 b1 p1 => ?_
      refine q_fldNDc (b1 _ _ pr hrd) ev_v (fun _ _ => ev_v) p1 c.cl (na _ (by decide +kernel)) fun r2 H2 n2 b2 r2h p2 => ?_
      refine q_fldNDc (b2 _ _ pw (b1 _ _ pw hwd)) ev_v (fun _ _ => ev_v) p2 c.cl (na _ (by decide +kernel)) fun w3 H3 n3 b3 w3h p3 => ?_
      have b13 := ExB.trans (ExB.trans b1 b2) b3
      refine q_fldNL (el_list ev_v (sq hf b13)) ev_v p3 c.cl (na _ (by decide +kernel)) fun f4 H4 n4 b4 f4h p4 => ?_
      refine q_fldNL (el_list ev_v (sq hl (ExB.trans b13 b4))) ev_v p4 c.cl (na _ (by decide +kernel)) fun l5 H5 n5 b5 l5h p5 => ?_
      refine s_fldN ev_v ev_v p5 c.cl (na _ (by decide +kernel)) fun H6 b6 p6 => ?_
      have q3 : w3 ≠ p := (ne_of_none p2 n3).symm
      have q4 : f4 ≠ p := (ne_of_none p3 n4).symm
      have q5 : l5 ≠ p := (ne_of_none p4 n5).symm
      exact k r2 w3 f4 l5 H6 (ExB.trans (ExB.trans (ExB.trans b13 b4) b5) b6) p6 (b6 _ _ q3 (b5 _ _ q3 (b4 _ _ q3 w3h))) (b6 _ _ q4 (b5 _ _ q4 f4h)) (b6 _ _ q5 l5h) (ExB.back b13 q4 n4) (ExB.back (ExB.trans b13 b4) q5 n5)
  · exact FD.kbinds0 2 ["reads", "writes", "finals", "later"] [("reason", .non)] (fun us mv ws => us ++ (ws ++ mv)) (by decide) (fun q h => h) (fun a b c => a.append (c.append b)) fun D doc pm an cdv ct us mv ws h1 h2 h3 =>
      match us, mv, ws, h1, h2, h3 with
      | [_, _], [_], [_, _, _, _], _, _, _ => ⟨_, _, _, _, _, _, rfl, rfl, rfl⟩
  · exact FD.kbinds0 2 ["reads", "writes", "finals", "later", "reason"] [] (fun us mv ws => us ++ (ws ++ mv)) (by decide) (fun q h => by cases h) (fun a b c => a.append (c.append b)) fun D doc pm an cdv ct us mv ws h1 h2 h3 =>
      match us, mv, ws, h1, h2, h3 with
      | [_, _], [], [_, _, _, _, _], _, _, _ => rfl
end
end HK


set_option maxRecDepth 100000
set_option maxHeartbeats 4000000
/-! A10: ended, walk_block. -/
namespace HK
open PySem PySem.Spec PyProof.Rows L2
open Evl (Ex Ev EvT EvA EvL EvU RetV ev_var ev_c ev_op ev_un ea_nil ea_cons et_test et_B et_and et_or et_not ev_call ev_cb rv_I0 rv_I rv_eq rv_ixL rv_ixT ev_inU ev_niU eu_tup el_lst ev_len el_list q_when q_if q_asg q_drop s_asg s_ret s_if s_drop)
/-- an outcome of a kind: without effect -/
def spEnded (K : PySem.W.Frag) (CO : Addr) : Sp := fun vs H Q _ => ∃ (kind : Str) (r b : Addr) (rk : List (Key × V)) (fs : List V), vs = [.str kind, .ref r, .ref b, .non] ∧ H r = some (.dK rk) ∧ SqL K H b fs ∧
  ∀ (o dx r' w' fi' la' : Addr) H', Ex H H' → H' o = some (.ins CO dx (ksO.zip [.str kind, .ref r', .ref w', .ref fi', .ref la', .non])) → Q (.ref o) H'
structure EndK (P : Program) (w : World) (K : PySem.W.Frag) (mg : Str → Option Value) (base : Heap) (CO : Addr) : Prop where
  ex : ∃ f fd ds, FnOk P w K mg base CX0 3 f fd ["kind", "reads", "before", "reason"] (spEnded K CO) ∧ mg "ended" = some (.ref f) ∧ PySem.W.keepIn K (.ref f) = true ∧ Binds K fd ["kind", "reads", "before", "reason"] ds ∧ Vals [.non] ds
/-- done: the writes and the locals' values; retry: nothing -/
def spWalkBlock (K : PySem.W.Frag) (CO : Addr) : Sp := fun vs H Q _ => ∃ (cl fl ml : Addr) (cv fr mem : List V) (code : List Ins) (n fu : Nat) (ws' : WS) (b : Bool), vs = [.ref cl, .ref fl, .int n, .ref ml] ∧ SqL K H cl cv ∧ DVs K H (code.map Ins.toD) cv ∧ SqL K H fl fr ∧ SqL K H ml mem ∧
  (∀ i ∈ code, i.dep ≤ 2) ∧ runM code mem fu ⟨0, fr, [], []⟩ = some (ws', b) ∧
  ∀ (o dx r' w' fi' la' : Addr) H', Ex H H' → H' o = some (.ins CO dx (ksO.zip [.str (if b then "done" else "retry"), .ref r', .ref w', .ref fi', .ref la', .non])) →
    (b = true → H' w' = some (.dK ws'.wr) ∧ H' fi' = some (.lst (ws'.fr.take n)) ∧ H' la' = some (.lst []) ∧ H fi' = none ∧ H la' = none) → Q (.ref o) H'
section
variable {σ : L2.St} {H : Hp} {t tk : TA} {vs zs : List V} {C : Addr} {sp : Sp} {Q : VK} {n m : Nat} {gV : List V → List V → List V}
theorem go_make (ht : EvA t σ H vs) (k : ∀ x dx H1 H2, Ex H H1 → H1 x = none → Ex H1 H2 → H2 x = some (.ins C dx []) → sp (.ref x :: vs) H2 (fun v H3 => v = .non ∧ Q (.ref x) H3) E0) : tMake C sp [] E0 t σ H Q :=
  ht H (Ex.refl H) _ fun H1 e1 x dx nx nd ne => by
    rw [List.append_nil]
    exact k x dx H1 _ e1 nx (Ex.trans (Ex.new nd) (Ex.new (by rw [upd_ne ne.symm]; exact nx))) upd_same
end
theorem ka_cons {te : TE} {tr : TA} {σ : L2.St} {H : Hp} {v : V} {Q : List V → Hp → Prop} (h : Ev te σ H v) (k : ∀ H1, Ex H H1 → tr σ H1 fun xs H2 => Q (v :: xs) H2) : tCons te tr σ H Q := h H (Ex.refl H) _ k
theorem ka_consL {te : TE} {tr : TA} {σ : L2.St} {H : Hp} {ys : List V} {Q : List V → Hp → Prop} (h : EvL te σ H ys) (k : ∀ l H1, H l = none → Ex H H1 → H1 l = some (.lst ys) → tr σ H1 fun xs H2 => Q (.ref l :: xs) H2) : tCons te tr σ H Q := h H (Ex.refl H) _ k
/-- one more object that stays -/
theorem WAt.more {K : PySem.W.Frag} {CW : Addr} {G H : Hp} {a : WA} {cv : List V} {code : List Ins} {mem : List V} {ws : WS} (w : WAt K CW G H a cv code mem ws) {l : Addr} {o : HO} (hl : H l = some o) (hg : G l = none) (n1 : a.p ≠ l) (n2 : a.fl ≠ l) (n3 : a.rd ≠ l) (n4 : a.wd ≠ l) :
    WAt K CW (upd G l o) H a cv code mem ws := by
  have e : Ex G (upd G l o) := Ex.new hg
  refine ⟨fun b u q => ?_, by rw [upd_ne n1]; exact w.gp, by rw [upd_ne n2]; exact w.gf, by rw [upd_ne n3]; exact w.gr, by rw [upd_ne n4]; exact w.gw, w.hp, w.hf, w.hr, w.hw, w.hl, w.hn, w.nl, w.nn, w.nrw, Same.seq e w.hc, w.dc.mono e, Same.seq e w.hm⟩
  by_cases hb : b = l
  · subst hb
    rw [upd_same] at q
    cases q
    exact hl
  · rw [upd_ne hb] at q
    exact w.ex _ _ q
section
variable {P : Program} {w : World} {K : PySem.W.Frag} {mg : Str → Option Value} {base : Heap} {aR CW CO : Addr}
theorem ok_ended (T : Tx K mg aR) (k_Outcome : OutK P w K mg base CO) (F : EndAt K mg) : EndK P w K mg base CO := by
  obtain ⟨f, fd, FD, hm⟩ := F.ex
  obtain ⟨fO, fdO, hM, GO, gO, _, mv, bO⟩ := k_Outcome.ex
  obtain ⟨ds, v1, v2⟩ := FD.binds1 (ps := ["kind", "reads", "before", "reason"]) 3 0 (by decide) rfl fun T kV doc pm an cdv ct us its h1 h2 =>
    match us, its, h1, h2 with
    | [_, _, _], [_], _, _ => ⟨_, rfl, rfl⟩
  refine ⟨f, fd, ds, ?_, hm, FD.kp, v2, v1⟩
  have S : FnScope ["kind", "reads", "before", "reason"] ["kind", "reads", "before", "reason"] (defScope sEnded) := ⟨rfl, rfl, rfl, by decide +kernel, rfl, by decide +kernel, by decide +kernel⟩
  refine FD.ok S (fun vs H Q E h => ?_) (fun cdv A outer s H vs Q E hr h => ?_)
  · obtain ⟨kind, r, b, rk, fs, rfl, _⟩ := h
    rfl
  · obtain ⟨kind, r, b, rk, fs, rfl, hrd, hb, k⟩ := h
    have ht : ∀ t, PSs (cxOf CX0 P w K mg base ["kind", "reads", "before", "reason"] "ended" (defScope sEnded) f cdv A outer s H E).nox (defBody sEnded) t → t { nx := fun _ H' => Q .non H', rt := Q } (start ["kind", "reads", "before", "reason"] [.str kind, .ref r, .ref b, .non]) H →
      ∃ t, PSs (cxOf CX0 P w K mg base ["kind", "reads", "before", "reason"] "ended" (defScope sEnded) f cdv A outer s H E) (defBody sEnded) t ∧ t { nx := fun _ H' => Q .non H', rt := Q } (start ["kind", "reads", "before", "reason"] [.str kind, .ref r, .ref b, .non]) H := fun t a b => ⟨t, a.nox, b⟩
    refine ht _ (pss_one (ps_ret (pe_makeK (n := 1) hM GO hr rfl gO bO pass0 (pa_cons (pv 0) pa_nil) (pk_cons (pv 1) (pk_cons pe_dnewK (pk_cons (pv 2) (pk_cons (pe_lst pa_nil) (pk_cons (pv 3) pk_nil)))))))) ?_
    refine ⟨_, rfl, _, rfl, fun w1 nw => ⟨_, rfl, ?_⟩⟩
    dsimp only
    refine ⟨by decide, fun l1 nl => ?_⟩
    refine ⟨_, rfl, rfl, rfl, fun x dx nx nd ne => ?_⟩
    have e0 : Ex H (upd (upd (upd (upd H w1 (.dK [])) l1 (.lst [])) dx (.own x)) x (.ins CO dx [])) :=
      Ex.trans (Ex.trans (Ex.trans (Ex.new nw) (Ex.new nl)) (Ex.new nd)) (Ex.new (by rw [upd_ne ne.symm]; exact nx))
    have nx3 : (upd H w1 (.dK [])) x = none := Evl.fresh_back (Ex.new nl) nx
    have nxH : H x = none := Evl.fresh_back (Ex.new nw) nx3
    have hw1 : (upd (upd (upd (upd H w1 (.dK [])) l1 (.lst [])) dx (.own x)) x (.ins CO dx [])) w1 = some (.dK []) :=
      Ex.trans (Ex.trans (Ex.new nl) (Ex.new nd)) (Ex.new (by rw [upd_ne ne.symm]; exact nx)) _ _ upd_same
    have hl1 : (upd (upd (upd (upd H w1 (.dK [])) l1 (.lst [])) dx (.own x)) x (.ins CO dx [])) l1 = some (.lst []) :=
      Ex.trans (Ex.new nd) (Ex.new (by rw [upd_ne ne.symm]; exact nx)) _ _ upd_same
    refine ⟨x, dx, r, w1, b, l1, kind, rk, [], fs, [], .non, rfl, upd_same, e0 _ _ hrd, hw1, Same.seq e0 hb, sqL_of hl1, fun r' w' fi' la' H' bx hx _ _ _ _ _ => ⟨rfl, ?_⟩⟩
    exact k x dx r' w' fi' la' H' (ExB.ex e0 nxH bx) hx
theorem ok_walk_block (T : Tx K mg aR) (c : ClsF K CW ksW) (F : DefAt K mg "walk_block" sWalkBlock) (k_Walk : Mak P w K mg base 1 "Walk" CW (spWInit K CW)) (m_run : Met P w K mg base 9 CW "run" (spWRun K CW)) (k_Outcome : OutK P w K mg base CO) (c_ended : EndK P w K mg base CO) :
    Cal P w K mg base 10 "walk_block" (spWalkBlock K CO) := by
  obtain ⟨fO, fdO, hM, GO, gO, ⟨mv, bO⟩, _⟩ := k_Outcome.ex
  obtain ⟨fE, fdE, ds, GE, gE, kE, bE, vE⟩ := c_ended.ex
  have S : FnScope ["code", "frame", "locals_count", "memory", "walk", "before", "kind", "fault"] ["code", "frame", "locals_count", "memory"] (defScope sWalkBlock) := ⟨rfl, rfl, rfl, by decide +kernel, rfl, by decide +kernel, by decide +kernel⟩
  refine cal_mk F S (fun _ _ _ _ _ _ us hl => match us, hl with | [_, _, _, _], _ => rfl) (fun vs H Q E h => ?_) (fun f cdv A outer s H vs Q E hr h => ?_)
  · obtain ⟨cl, fl, ml, cv, fr, mem, code, n, fu, ws', b, rfl, _⟩ := h
    rfl
  · obtain ⟨cl, fl, ml, cv, fr, mem, code, n, fu, ws', b, rfl, hc, dc, hf, hm, hd, hx, k⟩ := h
    refine ⟨_, (pss_cons (ps_set (i := 4) S.nd rfl (Or.inl rfl) (pe_mk k_Walk hr (pa_cons (pv 0) (pa_cons (pv 1) (pa_cons (pv 3) pa_nil)))))
  (pss_cons (ps_set (i := 5) S.nd rfl (Or.inl rfl) (pe_slice sl_list (pe_callTy call_list_of (by rfl) T.b.list (by decide +kernel) (pa_cons (pv 1) pa_nil)) po_none (po_some (pv 2))))
  (pss_cons (ps_try_thru0 (pss_one (ps_set (i := 6) S.nd rfl (Or.inl rfl) (pe_mt0 m_run hr (pv 4)))))
  (pss_cons (ps_if (pt_cmpR op_ne (pv 6) pe_str (nomark _))
  (pss_one (ps_ret (pe_call GE (hr.mono (by decide)) rfl gE kE bE vE pass0 (pa_cons (pv 6) (pa_cons (pe_fld (pv 4) rfl) (pa_cons (pv 5) pa_nil))))))
  pss_nil)
  (pss_one (ps_ret (pe_makeK (n := 1) hM GO (hr.mono (by decide)) rfl gO bO pass0 (pa_cons pe_str pa_nil) (pk_cons (pe_fld (pv 4) rfl) (pk_cons (pe_fld (pv 4) rfl) (pk_cons (pe_slice sl_list (pe_fld (pv 4) rfl) po_none (po_some (pv 2))) (pk_cons (pe_fld (pv 4) rfl) pk_nil))))))))))), ?_⟩
    refine q_asgX (go_make (ea_cons ev_v (ea_cons ev_v (ea_cons ev_v ea_nil))) fun x dx H1 H2 e1 nx e2 hx2 => ?_)
    refine ⟨H1, x, dx, cl, fl, ml, cv, fr, mem, code, rfl, hx2, e2, nx, Same.seq e1 hc, dc.mono e1, Same.seq e1 hf, Same.seq e1 hm, fun a H3 ea W3 => ⟨rfl, ?_⟩⟩
    subst ea
    have e03 : Ex H H3 := Ex.trans e1 W3.ex
    dsimp only [gName]
    refine Evl.q_asgL (el_takeN (el_list ev_v (Same.seq e03 hf)) ev_v) fun lb H4 nb e4 hb4 => ?_
    have W4 := W3.grow e4
    obtain ⟨dx4, hp4⟩ := W4.hp
    refine q_asgX (go_meth ev_v hp4 (fz_none (by decide +kernel)) ea_nil fun H5 e5 => ?_)
    have W5 := W4.grow e5
    obtain ⟨dx3, hp3⟩ := W3.hp
    have W6' := W5.more (e5 _ _ hb4) (Evl.fresh_back W3.ex nb) (ne_of_none hp3 nb) (ne_of_none W3.hf nb) (ne_of_none W3.hr nb) (ne_of_none W3.hw nb)
    refine ⟨_, a, cv, code, mem, _, ws', b, fu, rfl, W6', hd, hx, fun H6 W6 => ?_⟩
    have hlb6 : H6 lb = some (.lst (fr.take n)) := W6.ex _ _ upd_same
    have e06 : Ex H H6 := Ex.trans (Ex.trans e1 (Ex.new (Evl.fresh_back W3.ex nb))) W6.ex
    dsimp only [gName]
    cases b with
    | false =>
      refine q_when (b := true) (et_neS ev_v ev_c) (fun _ H7 e7 => ?_) (fun q => nomatch q)
      have W7 := W6.grow e7
      obtain ⟨dx7, hp7⟩ := W7.hp
      refine s_retX ?_
      have hA : EvA (tCons (tVar 6) (tCons (tFld K (tVar 4) "reads") (tCons (tVar 5) tNil))) (((((L2.start ["code", "frame", "locals_count", "memory", "walk", "before", "kind", "fault"] [V.ref cl, V.ref fl, V.int ↑n, V.ref ml]).set 4 (some (V.ref a.p))).set 5 (some (V.ref lb))).set 6 (some (V.str "retry")))) H7 [.str "retry", .ref a.rd, .ref lb] :=
        ea_cons ev_v (ea_cons (ev_fz (i := 4) ev_v hp7 c rfl) (ea_cons ev_v ea_nil))
      refine hA H7 (Ex.refl _) _ fun H8 e8 => ?_
      refine ⟨"retry", a.rd, lb, _, _, rfl, e8 _ _ W7.hr, sqL_of (e8 _ _ (e7 _ _ hlb6)), fun o dxo r' w' fi' la' H9 e9 ho => ?_⟩
      exact k o dxo r' w' fi' la' H9 (Ex.trans (Ex.trans (Ex.trans e06 e7) e8) e9) ho (fun q => nomatch q)
    | true =>
      refine q_when (b := false) (et_neS ev_v ev_c) (fun q => nomatch q) fun _ H7 e7 => ?_
      have W7 := W6.grow e7
      obtain ⟨dx7, hp7⟩ := W7.hp
      refine s_retX ?_
      refine ea_cons ev_c ea_nil H7 (Ex.refl _) _ fun H8 e8 => ?_
      have W8 := W7.grow e8
      have hp8 := e8 _ _ hp7
      refine ka_cons (ev_fz (i := 4) ev_v hp8 c rfl) fun H9 e9 => ?_
      refine ka_cons (ev_fz (i := 5) ev_v (e9 _ _ hp8) c rfl) fun H10 e10 => ?_
      have W10 := (W8.grow e9).grow e10
      have hp10 := e10 _ _ (e9 _ _ hp8)
      refine ka_consL (el_take (xs := ws'.fr) (n := n) (ev_fz (i := 1) ev_v hp10 c rfl) (sqL_of W10.hf) ev_v) fun lf H11 nf e11 hlf => ?_
      have W11 := W10.grow e11
      have hp11 := e11 _ _ hp10
      refine ka_cons (ev_fz (i := 6) ev_v hp11 c rfl) fun H12 e12 => ?_
      have W12 := W11.grow e12
      refine ⟨rfl, rfl, fun x dxo nx nd ne => ?_⟩
      have e13 : Ex H12 (upd (upd H12 dxo (.own x)) x (.ins CO dxo [])) := Ex.trans (Ex.new nd) (Ex.new (by rw [upd_ne ne.symm]; exact nx))
      have W13 := W12.grow e13
      refine ⟨x, dxo, a.rd, a.wd, lf, a.lt, "done", _, _, _, _, .non, rfl, upd_same, W13.hr, W13.hw, sqL_of (e13 _ _ (e12 _ _ hlf)), sqL_of W13.hl, fun r' w' fi' la' H14 b14 ho hw' hf' hl' nf' nl' => ⟨rfl, ?_⟩⟩
      have e0x : Ex H H12 := Ex.trans (Ex.trans (Ex.trans (Ex.trans (Ex.trans (Ex.trans e06 e7) e8) e9) e10) e11) e12
      exact k x dxo r' w' fi' la' H14 (ExB.ex (Ex.trans e0x e13) (Evl.fresh_back e0x nx) b14) ho fun _ => ⟨hw', hf', hl', Evl.fresh_back (Ex.trans e0x e13) nf', Evl.fresh_back (Ex.trans e0x e13) nl'⟩
end
end HK


set_option maxRecDepth 100000
set_option maxHeartbeats 4000000
/-! S1: a class's __init__ that says super().__init__(x) and stores one field. -/
namespace HK
open PySem PySem.Spec PyProof.Rows L2
open PySem.W (fnX envX ksEnv)

/-- what the top has written of such a def at f of the class at D, whose base's __init__ stands at f0 -/
structure SupAt (P : Program) (K : PySem.W.Frag) (mg : Str → Option Value) (x : Str) (D : Addr) (qual : Str) (st : Stmt) (f0 : Addr) : Prop where
  ex : ∃ (f cc cda : Addr) (oc kV doc pm ct ccl cl : Value) (od an cdd cld : Option Addr) (osl ccs csl : Array (Option Value)) (vs : Array Value) (file : Str) (tf : Tok) (cdD : ClassData),
    K.lookup f = some ⟨oc, od, .func (fnX "__init__" qual (defArgs st) (defBody st) supScope [("__class__", cc)] .none kV doc pm an (.ref cda) ct), osl⟩ ∧ PySem.W.codeIn K (.ref cda) qual = true ∧ PySem.W.keepIn K (.ref f) = true ∧
    K.lookup cda = some ⟨ccl, cdd, .fields vs, ccs⟩ ∧ vs[2]? = some (.str file tf) ∧ ((P.main.file : Str) == file) = true ∧
    K.lookup cc = some ⟨cl, cld, .cell (some (.ref D)), csl⟩ ∧ PySem.W.clsIn K D = some cdD ∧ PySem.W.mroIn K D (.ref D) = some true ∧
    PySem.W.ks_superIn K D D "__init__" = some (some (.ref f0)) ∧ PySem.W.typeIn K (.ref f0) = some (.type "function") ∧ PySem.W.fnIn K f0 = true ∧ PySem.W.nsIn K cStatics "thirdparty.any" = some none ∧
    (P.main.scope.names.lookup ("super" : Str)).isSome = false ∧ Mk K D f ∧ mg x = some (.ref D)

def cxSup (CX : CXT) (P : Program) (w : World) (K : PySem.W.Frag) (mg : Str → Option Value) (base : Heap) (N : List Str) (qual : Str) (scope : Scope) (f : Addr) (cd : Value) (cc : Addr) (A : Around) (outer : List Env) (s : Shared) (H : Hp) (E : XK) : Cx where
  prog := P
  w := w
  K := K
  mg := mg
  base := base
  A := A.deeper (ksEnv qual scope s.heap.objs.size f cd cc)
  N := N
  s_0 := s
  H_0 := H
  env := ksEnv qual scope s.heap.objs.size f cd cc
  outer := outer
  stack := ksEnv qual scope s.heap.objs.size f cd cc :: outer
  ex := []
  calm := true
  fn := fun _ => false
  pn := []
  xe := fun e s' => wpAny (model P w) (A.deeper (ksEnv qual scope s.heap.objs.size f cd cc)) (leaving (ksEnv qual scope s.heap.objs.size f cd cc) e) (fun _ s'' => CX outer H s E e s'') (fun e' s'' => CX outer H s E e' s'') s'

theorem zip_look {x : Str} {u : Value} : ∀ {N : List Str} {us : List Value} {i : Nat}, N.Nodup → N[i]? = some x → us[i]? = some u → (N.zip us).lookup x = some u
  | [], _, _, _, h, _ => by simp at h
  | a :: N, [], _, _, _, h => by simp at h
  | a :: N, v :: us, 0, _, h, h' => by
    have e1 : a = x := by simpa using h
    have e2 : v = u := by simpa using h'
    subst e1 e2
    simp [List.lookup]
  | a :: N, v :: us, i + 1, nd, h, h' => by
    have h1 : N[i]? = some x := by simpa using h
    have ne : ¬ x = a := fun e => by
      subst e
      exact (List.nodup_cons.mp nd).1 (List.mem_of_getElem? h1)
    have hb : (x == a) = false := beq_eq_false_iff_ne.mpr ne
    simp only [List.zip_cons_cons, List.lookup, hb]
    exact zip_look (List.nodup_cons.mp nd).2 h1 (by simpa using h')
theorem inv_sup {CX : CXT} {P : Program} {w : World} {K : PySem.W.Frag} {mg : Str → Option Value} {base : Heap} {N : List Str} {qual : Str} {scope : Scope} {f cc : Addr} {cd : Value} {A : Around} {outer : List Env} {s : Shared} {H : Hp} {E : XK} {us : List Value} {vs : List V} {h1 : Heap} {tk : Nat}
    {cl : Value} {cld : Option Addr} {csl : Array (Option Value)} {cv : Option Value}
    (hk : scope.kind = .function) (hd : A.handled = none) (e0 : Env0 P w K mg base A outer s H) (r : Vals vs us) (hl : vs.length = N.length) (ndN : N.Nodup) (hloc : ∀ x ∈ N, scope.names.lookup x = some .local)
    (hfree : ∀ x, scope.names.lookup x = some .free → x = "__class__") (hnc : ∀ x, scope.names.lookup x ≠ some .cell) (hcell : K.lookup cc = some ⟨cl, cld, .cell cv, csl⟩)
    (hn : h1.Ns s.heap.objs.size (fun x => (N.zip us).reverse.lookup x)) (keep : ∀ b o, s.heap.get? b = some o → h1.get? b = some o) :
    Inv (cxSup CX P w K mg base N qual scope f cd cc A outer s H E) [] (L2.start N vs) H { s with heap := h1, toks := tk } := by
  have noA : ∀ b : Addr, b ∉ (cxSup CX P w K mg base N qual scope f cd cc A outer s H E).ex := fun b z => absurd (show b ∈ ([] : List Addr) from z) (by simp)
  have kin : base.get? cc = some ⟨cl, cld, .cell cv, csl⟩ := e0.mod.kin _ _ hcell
  have lk : ∀ x c, (cxSup CX P w K mg base N qual scope f cd cc A outer s H E).env.cells.lookup x = some c → x = "__class__" ∧ c = cc := by
    intro x c h
    have h : List.lookup x [(("__class__" : Str), cc)] = some c := h
    by_cases hx : x = "__class__"
    · subst hx
      simp [List.lookup] at h
      exact ⟨rfl, h.symm⟩
    · have hb : (x == ("__class__" : Str)) = false := beq_eq_false_iff_ne.mpr hx
      simp [List.lookup, hb] at h
  have st : L2.start N vs = vs.map some := by
    unfold L2.start
    rw [hl]
    simp
  have rl : us.length = N.length := by rw [← r.length, hl]
  refine ⟨⟨e0.mod, hk, rfl, rfl, Nat.le_refl _, fun y z c h1 h2 => ?_, fun y hy => ?_, fun y c hf _ => ?_, fun _ => hd, Around.frames_deeper e0.frames, .inr ⟨rfl, rfl⟩, fun b z => absurd z (noA b), e0.bs, e0.bsz, fun b _ _ => noA b, fun b z => absurd z (noA b), e0.funs, e0.frf⟩,
    rfl, e0.bare, Un.kept keep, ⟨_, hn, fun i y v h1 h2 h3 => ?_⟩, fun y c h => ?_, e0.hok.fresh (Nat.le_refl _), fun y c h => ?_, fun p hp => absurd (show p ∈ ([] : List (Addr × Obj)) from hp) (by simp), e0.hok.kept keep, ?_⟩
  · rw [(lk _ _ h1).1, (lk _ _ h2).1]
  · have hy : scope.names.lookup y = some .cell ∨ scope.names.lookup y = some .free := hy
    rcases hy with hy | hy
    · exact absurd hy (hnc y)
    · have e := hfree y hy
      subst e
      exact ⟨cc, by show List.lookup ("__class__" : Str) [(("__class__" : Str), cc)] = some cc; simp [List.lookup]⟩
  · exact absurd (show false = true from hf) (by decide)
  · rw [st] at h2
    have h1 : N[i]? = some y := h1
    have hi : i < N.length := (List.getElem?_eq_some_iff.mp h1).1
    have ha : vs[i]? = some v := by
      rw [List.getElem?_map] at h2
      cases e : vs[i]? with
      | none => rw [e] at h2; cases h2
      | some a => rw [e] at h2; cases h2; rfl
    obtain ⟨u, hu, rv⟩ := r.get ha
    refine ⟨u, rv, .inl ⟨hloc y (List.mem_of_getElem? h1), ?_⟩⟩
    have nd2 : ((N.zip us).map (·.1)).Nodup := by
      rw [List.map_fst_zip (by rw [rl]; exact Nat.le_refl _)]
      exact ndN
    show List.lookup y (N.zip us).reverse = some u
    rw [lookup_reverse_of_nodup _ nd2]
    exact zip_look ndN h1 hu
  · obtain ⟨e1, e2⟩ := lk _ _ h
    subst e2
    exact ⟨_, _, keep _ _ (e0.bs _ _ kin).1, rfl⟩
  · obtain ⟨e1, e2⟩ := lk _ _ h
    subst e2
    exact (e0.bs _ _ kin).2
  · rw [st, List.length_map]
    exact hl

def spSup (sp0 : Sp) (f0 D : Addr) : Sp := fun vs H Q _ => ∃ (p dx : Addr) (y z : V), vs = [.ref p, y, z] ∧ H p = some (.ins D dx []) ∧ ∀ q, H q = none →
  sp0 [.ref p, y] (upd H q (.met f0 p)) (fun _ H1 => ∃ dx fs, H1 p = some (.ins D dx fs) ∧ fs.length < 1000 ∧ Q .non (upd H1 p (.ins D dx (putF "cells" z fs)))) E0
abbrev N3 : List Str := ["self", "names", "cells"]
theorem ok_sup {P : Program} {w : World} {K : PySem.W.Frag} {mg : Str → Option Value} {base : Heap} {x qual : Str} {D f0 : Addr} {st : Stmt} {fd0 : FuncData} {k : Nat} {sp0 : Sp} (S : SupAt P K mg x D qual st f0) (G0 : FnOk P w K mg base CX0 k f0 fd0 ["self", "names"] sp0) (b0 : Binds K fd0 ["self", "names"] [])
    (c : Cls K D) (hna : NoAttr K D "cells") (hT : mg "super" = none) {p0 p1 apos p2 pos pos' p3 p4 p5 p6 : Pos} (hbody : defBody st = [.Expr (.Call (.Attribute (.Call (.Name "super" p0) [] [] p1) "__init__" apos) [.Name "names" p2] [] pos) pos', .Assign [.Attribute (.Name "self" p3) "cells" p4] (.Name "cells" p5) p6])
    (hev : ∀ (L f : Addr) (cd : Value) (cc : Addr), eval (.Call (.Attribute (.Call (.Name "super" p0) [] [] p1) "__init__" apos) [.Name "names" p2] [] pos) (ksEnv qual supScope L f cd cc) = (do
      let ov ← attributeBase (.Call (.Name "super" p0) [] [] p1) "__init__" (ksEnv qual supScope L f cd cc) (eval (.Call (.Name "super" p0) [] [] p1) (ksEnv qual supScope L f cd cc))
      standAt apos.atName
      let (f', first) ← holding [ov] (getMethod ov "__init__" (do return (← importBound (.Call (.Name "super" p0) [] [] p1) (ksEnv qual supScope L f cd cc)).getD true))
      callWith pos f' first (backTo pos (starEach [.Name "names" p2] (ksEnv qual supScope L f cd cc))) []))
    {ar : Arg} (har : ((defArgs st).posonlyargs ++ (defArgs st).args).head? = some ar) (hself : ar.arg = "self")
    (hbd : ∀ (cl : List (Str × Addr)) (kV doc pm : Value) (an : Option Addr) (cdv ct : Value) (us : List Value), us.length = 3 → bindArgs (fnX "__init__" qual (defArgs st) (defBody st) supScope cl .none kV doc pm an cdv ct) ⟨us, []⟩ = pure (N3.zip us)) :
    Mak P w K mg base (k + 1) x D (spSup sp0 f0 D) := by
  obtain ⟨f, cc, cda, oc, kV, doc, pm, ct, ccl, cl, od, an, cdd, cld, osl, ccs, csl, cvs, file, tf, cdD, lk, hcd, hkp, hcode, hvs, hfile, hcell, hD, hsub, hsup, hty, hfn, hops, htop, hMk, hm⟩ := S.ex
  have hsc : supScope.kind = .function := rfl
  have hco : supScope.isCoroutine = false := rfl
  have hgen : supScope.isGenerator = false := rfl
  have hnm : supScope.names = supNames := rfl
  have lookN : ∀ y ∈ N3, supScope.names.lookup y = some .local := fun y hy => by
    rcases List.mem_cons.mp hy with rfl | hy
    · decide +kernel
    · rcases List.mem_cons.mp hy with rfl | hy
      · decide +kernel
      · rcases List.mem_cons.mp hy with rfl | hy
        · decide +kernel
        · cases hy
  have hfree : ∀ y, supScope.names.lookup y = some .free → y = "__class__" := fun y hy => by
    have hmem := mem_of_lookup hy
    simp at hmem
    exact hmem
  have hncell : ∀ y, supScope.names.lookup y ≠ some .cell := fun y hy => by
    have hmem := mem_of_lookup hy
    simp at hmem
  refine ⟨f, fnX "__init__" qual (defArgs st) (defBody st) supScope [("__class__", cc)] .none kV doc pm an (.ref cda) ct, N3, hMk, ⟨fun vs H Q E h => ?_, fun A outer s H args us vs Q E hr e0 hb r hsp => ?_⟩, hm, .all fun us hu => hbd _ _ _ _ _ _ _ us hu⟩
  · obtain ⟨p, dx, y, z, rfl, _⟩ := h
    rfl
  · obtain ⟨p, dx, y, z, rfl, hp, hk⟩ := hsp
    have KX : K.In s.heap := e0.mod.kin.keeps fun b o e => (e0.bs b o e).1
    have lim : s.heap.NoLimit := e0.mod.nolimit.keeps fun b o e => (e0.bs b o e).1
    refine ks_codeAny_call_defAt (fd := fnX "__init__" qual (defArgs st) (defBody st) supScope [("__class__", cc)] .none kV doc pm an (.ref cda) ct) (body := defBody st) (binds := N3.zip us) hr.depth (KX _ _ lk) rfl lim (PySem.W.codeRec_of KX hcd) rfl hb (fun y hy e => ?_) (fun y hy => lookN _ (List.of_mem_zip (show (y.1, y.2) ∈ N3.zip us from hy)).1) (fun h1 hns hk1 => ?_) hco hgen hsc
    · simp at hy
      rcases hy with rfl | rfl | rfl | rfl | rfl <;> cases e
    · generalize htk : s.toks + (N3.zip us).length = tk
      have I : Inv (cxSup CX0 P w K mg base N3 qual supScope f (.ref cda) cc A outer s H E) [] (L2.start N3 [.ref p, y, z]) H { s with heap := h1, toks := tk } :=
        inv_sup hsc hr.hd e0 r rfl (by decide +kernel) lookN hfree hncell hcell hns hk1
      show _root_.PySem.wpAt (model P w) (A.deeper (ksEnv qual supScope s.heap.objs.size f (.ref cda) cc)) (.func (defBody st) (ksEnv qual supScope s.heap.objs.size f (.ref cda) cc)) (execs (defBody st) (ksEnv qual supScope s.heap.objs.size f (.ref cda) cc)) _ (cxSup CX0 P w K mg base N3 qual supScope f (.ref cda) cc A outer s H E).xe _
      rw [hbody]
      have MA : (cxSup CX0 P w K mg base N3 qual supScope f (.ref cda) cc A outer s H E).A = A.deeper (ksEnv qual supScope s.heap.objs.size f (.ref cda) cc) := rfl
      have hrX : Room k (A.deeper (ksEnv qual supScope s.heap.objs.size f (.ref cda) cc)) := hr.deeper _
      generalize hX : cxSup CX0 P w K mg base N3 qual supScope f (.ref cda) cc A outer s H E = X at I
      have hXA : X.A = A.deeper (ksEnv qual supScope s.heap.objs.size f (.ref cda) cc) := by rw [← hX]; rfl
      have hXe : X.env = ksEnv qual supScope s.heap.objs.size f (.ref cda) cc := by rw [← hX]; rfl
      have hXp : X.prog = P := by rw [← hX]; rfl
      have hXw : X.w = w := by rw [← hX]; rfl
      have hXK : X.K = K := by rw [← hX]; rfl
      have kS : (ksEnv qual supScope s.heap.objs.size f (.ref cda) cc).kindOf "super" = some .globalImplicit := by show supScope.names.lookup ("super" : Str) = _; decide +kernel
      have kC : (ksEnv qual supScope s.heap.objs.size f (.ref cda) cc).kindOf "__class__" = some .free := by show supScope.names.lookup ("__class__" : Str) = _; decide +kernel
      have kSelf : (ksEnv qual supScope s.heap.objs.size f (.ref cda) cc).kindOf "self" = some .local := lookN _ (by decide +kernel)
      refine ks_wpAt_execs_cons (ks_wpAt_Expr_any (ks_wpAt_MethodCall ?_ (hev _ _ _ _)))
      · have KX1 : K.In h1 := KX.keeps hk1
        refine ks_wpAt_super_base (env := ksEnv qual supScope s.heap.objs.size f (.ref cda) cc) kS kC (by decide) rfl (KX1 _ _ lk) rfl har rfl (KX1 _ _ hcode) rfl hvs hfile htop ?_
        obtain ⟨uy, uz, rfl, ry, rz⟩ : ∃ uy uz, us = [.ref p, uy, uz] ∧ RelV y uy ∧ RelV z uz := by
          cases r with
          | cons r1 r =>
            cases r1
            cases r with
            | cons r2 r =>
              cases r with
              | cons r3 r =>
                cases r
                exact ⟨_, _, rfl, r2, r3⟩
        obtain ⟨mb, hmb1, hmb2⟩ := e0.mod.blt
        have kb : ∀ b o, base.get? b = some o → h1.get? b = some o := fun b o e => hk1 b o (e0.bs b o e).1
        refine PySem.W.ks_loadName_global hsc kS (Calls.loadGlobal_builtin (env := ksEnv qual supScope s.heap.objs.size f (.ref cda) cc) (e0.mod.glob.keeps kb) hT (hmb1.keeps kb) ((hmb2 "super" (by decide)).trans (by decide +kernel)) ⟨rfl, ?_⟩)
        refine wpAny_loadName_free hsc kC rfl ⟨_, KX1 _ _ hcell, rfl⟩ ?_
        rw [hself]
        refine wpAny_loadName_local hsc kSelf hns (v := .ref p) (by rfl) ?_
        obtain ⟨oD, hD1, hD2⟩ : ∃ oD, h1.get? D = some oD ∧ oD.data = .cls cdD := by
          unfold PySem.W.clsIn at hD
          split at hD
          · rename_i c d cd' sl ho
            cases hD
            exact ⟨_, KX1 _ _ ho, rfl⟩
          · cases hD
        refine ks_wpAny_isType_cls hD1 hD2 ⟨rfl, ?_⟩
        have I' := I
        obtain ⟨mA, hxo, _, _, _, _⟩ := ins_get I.hok hp
        have hx1 : h1.get? p = some (PySem.W.instObj D dx) := hxo.1
        refine ks_wpAny_call_super hD1 hD2 hx1 rfl (fun c e => by cases e) (PySem.W.looks_mroIn KX1 hsub) (fun h2 e2 k2 => ?_)
        have I2 : Inv X [] (L2.start N3 [.ref p, y, z]) H { s with heap := h2, toks := tk } := I.kept (t' := tk) k2
        have KX2 : K.In h2 := KX1.keeps k2
        unfold PySem.W.ks_superIn at hsup
        rw [hD] at hsup
        obtain ⟨of, hof, hofc⟩ : ∃ of, h2.get? f0 = some of ∧ of.cls = .type "function" := by
          have ht' : (K.lookup f0).map (·.cls) = some (.type "function") := hty
          cases zz : K.lookup f0 with
          | none => rw [zz] at ht'; cases ht'
          | some of => rw [zz] at ht'; exact ⟨of, KX2 _ _ zz, Option.some.inj ht'⟩
        refine ks_wpAny_getMethod_super e2 (PySem.W.looks_opaque KX2 hops) (l₀ := cdD.mro) ?_ rfl KX2 hsup hof hofc ?_ (by decide) ?_
        · exact fun A Q E s k q => wpAny_bind ((PySem.W.looks_clsIn KX2 hD) A _ E s k (wpAny_pure q))
        · have hDn : H D = none := by
            unfold PySem.W.clsIn at hD
            split at hD
            · rename_i c d cd' sl ho
              exact (e0.bs _ _ (e0.mod.kin _ _ ho)).2
            · cases hD
          exact ne_of_none hp hDn
        · have nq : H h2.objs.size = none := I2.hok.fresh (Nat.le_refl _)
          have I3 : Inv X [] (L2.start N3 [.ref p, y, z]) (upd H h2.objs.size (.met f0 p)) { s with heap := h2.push (PySem.W.methodObj (.ref f0) (.ref p)), toks := tk + 1 } :=
            I2.laid (t' := tk + 1) (a := h2.objs.size) (o := .met f0 p) (fun b u z => Heap.get?_push_of_some _ z) (Nat.le_refl _) (show (h2.push (PySem.W.methodObj (.ref f0) (.ref p))).get? h2.objs.size = some (PySem.W.methodObj (.ref f0) (.ref p)) from Heap.get?_push_size h2 rfl)
          have hq := hk h2.objs.size nq
          subst hX
          have pn1 : PA (cxSup CX0 P w K mg base N3 qual supScope f (.ref cda) cc A outer s H E) [.Name "names" p2] (tCons (tVar 1) tNil) := pa_cons (pv 1) pa_nil
          refine PySem.W.callWith_of (P := PySem.W.MethP K h2.objs.size f0 (.ref p)) rfl (PySem.W.keeps_M hfn) ?_
          show wpAny _ _ (evalArgs (.ref h2.objs.size) true ((false, eval (.Name "names" p2) (ksEnv qual supScope s.heap.objs.size f (.ref cda) cc)) :: backTo pos (starEach [] (ksEnv qual supScope s.heap.objs.size f (.ref cda) cc))) []) _ _ _
          refine Calls.evalArgs_plain (thn (pn1.run pos [] _ _ _ (fun vs H' => vs = [y] ∧ H' = upd H h2.objs.size (.met f0 p)) I3 ⟨y, rfl, rfl, rfl⟩) fun us3 s3 h3 => ?_)
          obtain ⟨vs3, H3, J3, rv3, e3a, e3b⟩ := h3
          subst e3a
          subst e3b
          cases rv3 with
          | cons ry3 rn3 =>
            cases rn3
            rename_i uy3
            have em : (upd H h2.objs.size (.met f0 p)) h2.objs.size = some (.met f0 p) := upd_same
            refine ⟨⟨J3.hok _ _ em, J3.kIn⟩, ?_⟩
            have bb := b0 s3 [.ref p, uy3] J3.kIn rfl
            refine wpAny_call (PySem.W.method_call (J3.hok _ _ em) (codeAny_mono (G0.run _ _ s3 _ ⟨[.ref p, uy3], []⟩ [.ref p, uy3] [.ref p, y] _ E0 hrX J3.env0 bb (.cons rfl (.cons ry3 .nil)) hq) fun r4 s4 h4 => ?_))
            cases r4 with
            | error e => exact False.elim h4
            | ok fl =>
              cases fl with
              | next => exact False.elim h4
              | brk => exact False.elim h4
              | cont => exact False.elim h4
              | ret u4 =>
                obtain ⟨v4, H4, J4, rv4, dx4, fs4, hp4, hl4, hq4⟩ := J3.after h4
                have ps2 : PSs (cxSup CX0 P w K mg base N3 qual supScope f (.ref cda) cc A outer s H E) [.Assign [.Attribute (.Name "self" p3) "cells" p4] (.Name "cells" p5) p6] (sFld K (tVar 0) (tVar 2) "cells") := pss_one (ps_fld (pv 0) (pv 2) rfl)
                refine wpAt_of_wpAny (wpAny_mono (ps2.run [] s4 _ H4 { nx := fun _ H' => Q .non H', rt := Q } J4 ⟨z, rfl, .ref p, rfl, p, D, dx4, fs4, rfl, hp4, c, hna, hl4, hq4⟩) (fun fl s5 hs => ?_) fun e s5 hs => hs)
                have fin : ∀ {σ' : L2.St} {H' : Hp} {v : V} {u : Value}, Inv (cxSup CX0 P w K mg base N3 qual supScope f (.ref cda) cc A outer s H E) [] σ' H' s5 → RelV v u → Q v H' → CE outer P w H s Q u s5 :=
                  fun {σ' H' v u} J rv q => ⟨v, H', J.os, J.bare, J.base, J.hok, rv, q⟩
                cases fl with
                | ret u =>
                  obtain ⟨v, σ', H', J, rv, q⟩ := hs
                  exact fin J rv q
                | next =>
                  obtain ⟨σ', H', J, q⟩ := hs
                  exact fin (v := V.non) (u := Value.none) J rfl q
                | brk =>
                  obtain ⟨_, _, _, q⟩ := hs
                  exact False.elim q
                | cont =>
                  obtain ⟨_, _, _, q⟩ := hs
                  exact False.elim q
end HK


set_option maxRecDepth 100000
set_option maxHeartbeats 4000000
/-! F1: has_cells, is_still, place_of, first_memory. -/
namespace HK
open PySem PySem.Spec PyProof.Rows L2
open Evl (Ex Ev EvT EvA EvL EvU RetV ev_var ev_c ev_op ev_un ea_nil ea_cons et_test et_B et_and et_or et_not ev_call ev_cb rv_I0 rv_I rv_eq rv_ixL rv_ixT ev_inU ev_niU eu_tup el_lst ev_len el_list q_when q_if q_asg q_drop s_asg s_ret s_if s_drop)

/-- source expressions: the channel is "c", the local is "x" -/
inductive Sx where
  | num (n : Int)
  | loc
  | cell (i : Sx)
  | bin (o : Op) (a b : Sx)
def Sx.toD : Sx → D
  | .num n => dNum n
  | .loc => .tup [.str "local", .str "x"]
  | .cell i => .tup [.str "cell", .str "c", i.toD]
  | .bin o a b => dBin o.s a.toD b.toD
def Sx.hc : Sx → Bool
  | .num _ => false
  | .loc => false
  | .cell _ => true
  | .bin _ a b => a.hc || b.hc
def Sx.dep : Sx → Nat
  | .num _ => 0
  | .loc => 0
  | .cell i => i.dep + 1
  | .bin _ a b => max a.dep b.dep + 1
theorem Sx.fl : ∀ e : Sx, e.toD.fl = true
  | .num _ => rfl
  | .loc => rfl
  | .cell i => by
    show (true && (true && (i.toD.fl && true))) = true
    rw [Sx.fl i]
    rfl
  | .bin o a b => by
    show (true && (a.toD.fl && (b.toD.fl && true))) = true
    rw [Sx.fl a, Sx.fl b]
    rfl
def Sx.k : Sx → Str
  | .num _ => "number"
  | .loc => "local"
  | .cell _ => "cell"
  | .bin o _ _ => o.s
def spHas (K : PySem.W.Frag) (n : Nat) : Sp := fun vs H Q _ => ∃ (e : Sx) (u : V), vs = [u] ∧ DV K H e.toD u ∧ e.dep ≤ n ∧ RetV (.bl e.hc) H Q
def spStill (K : PySem.W.Frag) : Sp := fun vs H Q _ => ∃ (s : Str) (ds : List D) (u : V), vs = [u] ∧ DV K H (.tup (.str s :: ds)) u ∧ RetV (.bl (decide (s = "number"))) H Q
abbrev dCells (N : Int) : D := .lst [.tup [.str "c", .int (N + 2), .int 0]]
def spPlace (K : PySem.W.Frag) : Sp := fun vs H Q _ => ∃ (N : Int) (u : V), vs = [u, .str "c"] ∧ DV K H (dCells N) u ∧ ∀ p H', H p = none → Ex H H' → H' p = some (.tup [.int 0, .int (N + 2)]) → Q (.ref p) H'
def spFirstMem (K : PySem.W.Frag) : Sp := fun vs H Q _ => ∃ (N : Int) (u : V), vs = [u] ∧ DV K H (dCells N) u ∧ 0 ≤ N ∧ N ≤ 10 ∧ Evl.RetL (List.replicate (N + 2).toNat (.int 0)) H Q
section
variable {K : PySem.W.Frag} {σ : L2.St} {H : Hp} {t : TT} {te : TE}
/-- over a new tuple -/
theorem el_lcNU {xs : List V} {tl : TE} {j : Nat} {vs : List Nat} (f : Nat → Bool) (v : Nat → V) (h : EvU tl σ H xs) (hz : xs.length ≤ 40000) (hw : ∀ x, wipe ((wipe σ vs).set j (some x)) vs = wipe σ vs)
    (ht : ∀ (i : Nat) (x : V) H1, Ex H H1 → xs[i]? = some x → EvT t ((wipe σ vs).set j (some x)) H1 (f i)) (he : ∀ (i : Nat) (x : V) H1, Ex H H1 → xs[i]? = some x → f i = true → Ev te ((wipe σ vs).set j (some x)) H1 (v i)) :
    EvL (tLc (iTup K tl) (gName j) t te vs) σ H (Evl.given xs.length f v) := fun H0 e Q q => h H0 e _ fun a H1 ha e1 hx => ⟨a, rfl, ⟨xs, Evl.st_of hx⟩, fun Dl hD =>
  lc_tup (xs := xs) (Evl.Cw H1 f v Dl) ⟨hD, Ex.new hD, upd_same⟩ (fun i H' _ p => Evl.st_of (p.2.1 a _ hx)) (fun i x H' hi p => ⟨hw x, Evl.cw_turn p (by have := (List.getElem?_eq_some_iff.mp hi).1; omega) (ht i x H1 (e.trans e1) hi) (fun hf => he i x H1 (e.trans e1) hi hf)⟩)
    (fun H' p => q Dl H' (Evl.fresh_back e1 p.1) (e1.trans p.2.1) p.2.2)⟩
theorem et_yes : EvT tYes σ H true := fun H1 e Q q => q H1 (Ex.refl H1)
/-- any([..]) -/
theorem ev_anyL {bs : List Bool} {ta : TE} (h : EvL ta σ H (bs.map V.bl)) : Ev (tCB (rAny K) (tCons ta tNil)) σ H (.bl (bs.any id)) := fun H1 e Q q =>
  h H1 e _ fun p H2 hp e2 h2 => ⟨p, bs, rfl, sqL_of h2, q H2 e2⟩
theorem ev_isi {x : V} {ta : TE} {b : Bool} (h : Ev ta σ H x) (hd : ∀ H1, Ex H H1 → ∃ t, TyX K H1 x t ∧ PySem.W.kitOne K t (.type "tuple") = some b) :
    Ev (tCB (rIsi K) (tCons ta (tCons (tC (.ty "tuple")) tNil))) σ H (.bl b) := fun H1 e Q q =>
  h H1 e _ fun H2 e2 => by
    obtain ⟨t, h1, h2⟩ := hd H2 (Ex.trans e e2)
    exact ⟨x, .ty "tuple", t, .type "tuple", b, rfl, .ty "tuple", h1, h2, q H2 e2⟩
theorem tyx_tup {a : Addr} {xs : List V} (h : SqT K H a xs) : ∃ t, TyX K H (.ref a) t ∧ PySem.W.kitOne K t (.type "tuple") = some true := by
  rcases h with (h | ⟨o, h⟩) | h
  · exact ⟨.type "tuple", .base (.tup h), kit_ty (by decide +kernel)⟩
  · exact ⟨.type "tuple", .fTuple h, kit_ty (by decide +kernel)⟩
  · obtain ⟨o, its, n, h1, h2, _⟩ := h
    exact ⟨.type "tuple", .kTuple h1 h2, kit_ty (by decide +kernel)⟩
end
theorem DV.lst_inv {K : PySem.W.Frag} {H : Hp} {ds : List D} {v : V} (h : DV K H (.lst ds) v) : ∃ a xs, v = .ref a ∧ H a = some (.lst xs) ∧ DVs K H ds xs := by
  cases h with | lst h r => exact ⟨_, _, rfl, h, r⟩
theorem DV.tup_inv {K : PySem.W.Frag} {H : Hp} {ds : List D} {v : V} (h : DV K H (.tup ds) v) : ∃ a xs, v = .ref a ∧ SqT K H a xs ∧ DVs K H ds xs := by
  cases h with | tup h r => exact ⟨_, _, rfl, h, r⟩
theorem DV.int_inv {K : PySem.W.Frag} {H : Hp} {i : Int} {v : V} (h : DV K H (.int i) v) : v = .int i := by cases h; rfl
theorem DV.str_inv {K : PySem.W.Frag} {H : Hp} {i : Str} {v : V} (h : DV K H (.str i) v) : v = .str i := by cases h; rfl
theorem cells_inv {K : PySem.W.Frag} {H : Hp} {N : Int} {v : V} (h : DV K H (dCells N) v) : ∃ al at_, v = .ref al ∧ H al = some (.lst [.ref at_]) ∧ SqT K H at_ [.str "c", .int (N + 2), .int 0] := by
  obtain ⟨al, xs, rfl, hl, r⟩ := h.lst_inv
  obtain ⟨_, rfl, d⟩ := dvs1 r
  obtain ⟨at_, ys, rfl, ht, r⟩ := d.tup_inv
  obtain ⟨_, _, _, rfl, d1, d2, d3⟩ := dvs3 r
  cases d1; cases d2; cases d3
  exact ⟨al, at_, rfl, hl, ht⟩
abbrev sHasCells : Stmt := top 24
abbrev sIsStill : Stmt := top 25
abbrev sPlaceOf : Stmt := top 21
abbrev sFirstMemory : Stmt := top 20
section
variable {P : Program} {w : World} {K : PySem.W.Frag} {mg : Str → Option Value} {base : Heap} {aR : Addr}
theorem Sx.op_ne_cell (o : Op) : decide (o.s = "cell") = false := by cases o <;> decide +kernel
theorem ok_has0 (T : Tx K mg aR) (F : DefAt K mg "has_cells" sHasCells) {k : Nat} (n : Nat)
    (c_has_cells : Cal P w K mg base k "has_cells" fun vs H Q E => ∃ m, n = m + 1 ∧ spHas K m vs H Q E) : Cal P w K mg base (k + 1) "has_cells" (spHas K n) := by
  have S : FnScope ["expression", "part"] ["expression"] (defScope sHasCells) := ⟨rfl, rfl, rfl, by decide +kernel, rfl, by decide +kernel, by decide +kernel⟩
  refine cal_mk F S (fun _ _ _ _ _ _ us hl => match us, hl with | [_], _ => rfl) (fun vs H Q E h => ?_) (fun f cdv A outer s H vs Q E hr h => ?_)
  · obtain ⟨e, u, rfl, _⟩ := h
    rfl
  · obtain ⟨e, u, rfl, d, hn, q⟩ := h
    cases e with
    | cell i =>
      refine ⟨_, (pss_cons (ps_if (pt_cmpR op_eq (pe_ix ix_tup (pv 0) pe_int (fun _ _ => rfl)) pe_str (nomark _))
  (pss_one (ps_ret pe_bl))
  pss_nil)
  pss_never), ?_⟩
      cases d with
      | tup hs r =>
        obtain ⟨_, _, _, rfl, d0, d1, d2⟩ := dvs3 r
        cases d0
        refine q_when (b := true) (et_eqS (ev_ixt (j := 0) ev_v hs rfl) ev_c) (fun _ H1 e1 => ?_) (fun q => nomatch q)
        exact s_ret ev_c fun H2 e2 => q H2 (Ex.trans e1 e2)
    | num n' =>
      refine ⟨_, (pss_cons (ps_if (pt_cmpR op_eq (pe_ix ix_tup (pv 0) pe_int (fun _ _ => rfl)) pe_str (nomark _))
  (pss_one (ps_ret pe_bl))
  pss_nil)
  (pss_one (ps_ret (pe_callB (cr_any rfl) (by rfl) T.b.any (by decide +kernel) (pa_cons (pe_lc (own := [("part", 1)]) rfl S.nd (pi_tup (pe_slice sl_tup (pv 0) (po_some pe_int) po_none)) (blkOk_by (own := [("part", 1)]) (N := ["expression", "part"]) (sc := defScope sHasCells) (by decide +kernel)) (fun _ _ _ _ _ => (pg_name (i := 1) S.nd rfl (Or.inl rfl))) (fun _ _ _ _ _ => pts_nil) (fun _ _ _ _ _ => (pe_and (pe_callB (id := "isinstance") (r := rIsi K) call_isi (by rfl) T.b.isinstance (by decide +kernel) (pa_cons (pv 1) (pa_cons (pe_bltn (v := .ty "tuple") rfl T.b.tuple (by rfl) rfl) pa_nil))) (pe_one (pe_c c_has_cells hr (pa_cons (pv 1) pa_nil) (Nat.le_refl _)))))) pa_nil))))), ?_⟩
      obtain ⟨a, xs, rfl, hs, r⟩ := d.tup_inv
      obtain ⟨_, _, rfl, d0, d1⟩ := dvs2 r
      cases d0; cases d1
      refine q_when (b := false) (et_eqS (ev_ixt (j := 0) ev_v hs rfl) ev_c) (fun q => nomatch q) fun _ H1 e1 => ?_
      refine s_ret (v := .bl false) (ev_anyL (bs := [false]) (el_lcNU (f := fun _ => true) (v := fun _ => .bl false) (eu_tl ev_v (Same.sqT e1 hs)) (by simp) (fun _ => rfl) (fun _ _ _ _ _ => et_yes) fun i x H2 e2 hx _ => ?_)) fun H2 e2 => q H2 (Ex.trans e1 e2)
      have hx' : x = .int n' := by
        cases i with
        | zero => exact (Option.some.inj hx).symm
        | succ i => simp at hx
      subst hx'
      exact Evl.ev_andV (a := false) (b := false) (ev_isi ev_v (b := false) fun H1 _ => ⟨.type "int", .base (.int _), kit_ty (by decide +kernel)⟩) (fun q => nomatch q)
    | loc =>
      refine ⟨_, (pss_cons (ps_if (pt_cmpR op_eq (pe_ix ix_tup (pv 0) pe_int (fun _ _ => rfl)) pe_str (nomark _))
  (pss_one (ps_ret pe_bl))
  pss_nil)
  (pss_one (ps_ret (pe_callB (cr_any rfl) (by rfl) T.b.any (by decide +kernel) (pa_cons (pe_lc (own := [("part", 1)]) rfl S.nd (pi_tup (pe_slice sl_tup (pv 0) (po_some pe_int) po_none)) (blkOk_by (own := [("part", 1)]) (N := ["expression", "part"]) (sc := defScope sHasCells) (by decide +kernel)) (fun _ _ _ _ _ => (pg_name (i := 1) S.nd rfl (Or.inl rfl))) (fun _ _ _ _ _ => pts_nil) (fun _ _ _ _ _ => (pe_and (pe_callB (id := "isinstance") (r := rIsi K) call_isi (by rfl) T.b.isinstance (by decide +kernel) (pa_cons (pv 1) (pa_cons (pe_bltn (v := .ty "tuple") rfl T.b.tuple (by rfl) rfl) pa_nil))) (pe_one (pe_c c_has_cells hr (pa_cons (pv 1) pa_nil) (Nat.le_refl _)))))) pa_nil))))), ?_⟩
      obtain ⟨a, xs, rfl, hs, r⟩ := d.tup_inv
      obtain ⟨_, _, rfl, d0, d1⟩ := dvs2 r
      cases d0; cases d1
      refine q_when (b := false) (et_eqS (ev_ixt (j := 0) ev_v hs rfl) ev_c) (fun q => nomatch q) fun _ H1 e1 => ?_
      refine s_ret (v := .bl false) (ev_anyL (bs := [false]) (el_lcNU (f := fun _ => true) (v := fun _ => .bl false) (eu_tl ev_v (Same.sqT e1 hs)) (by simp) (fun _ => rfl) (fun _ _ _ _ _ => et_yes) fun i x H2 e2 hx _ => ?_)) fun H2 e2 => q H2 (Ex.trans e1 e2)
      have hx' : x = .str "x" := by
        cases i with
        | zero => exact (Option.some.inj hx).symm
        | succ i => simp at hx
      subst hx'
      exact Evl.ev_andV (a := false) (b := false) (ev_isi ev_v (b := false) fun H1 _ => ⟨.type "str", .base (.str _), kit_ty (by decide +kernel)⟩) (fun q => nomatch q)
    | bin o a b =>
      refine ⟨_, (pss_cons (ps_if (pt_cmpR op_eq (pe_ix ix_tup (pv 0) pe_int (fun _ _ => rfl)) pe_str (nomark _))
  (pss_one (ps_ret pe_bl))
  pss_nil)
  (pss_one (ps_ret (pe_callB (cr_any rfl) (by rfl) T.b.any (by decide +kernel) (pa_cons (pe_lc (own := [("part", 1)]) rfl S.nd (pi_tup (pe_slice sl_tup (pv 0) (po_some pe_int) po_none)) (blkOk_by (own := [("part", 1)]) (N := ["expression", "part"]) (sc := defScope sHasCells) (by decide +kernel)) (fun _ _ _ _ _ => (pg_name (i := 1) S.nd rfl (Or.inl rfl))) (fun _ _ _ _ _ => pts_nil) (fun _ _ _ _ _ => (pe_and (pe_callB (id := "isinstance") (r := rIsi K) call_isi (by rfl) T.b.isinstance (by decide +kernel) (pa_cons (pv 1) (pa_cons (pe_bltn (v := .ty "tuple") rfl T.b.tuple (by rfl) rfl) pa_nil))) (pe_one (pe_c c_has_cells hr (pa_cons (pv 1) pa_nil) (Nat.le_refl _)))))) pa_nil))))), ?_⟩
      obtain ⟨m, rfl⟩ : ∃ m, n = m + 1 := by
        cases n with
        | zero => exact absurd hn (Nat.not_succ_le_zero _)
        | succ m => exact ⟨m, rfl⟩
      have hd : max a.dep b.dep ≤ m := Nat.le_of_succ_le_succ hn
      obtain ⟨t, xs, rfl, hs, r⟩ := d.tup_inv
      obtain ⟨_, v1, v2, rfl, d0, d1, d2⟩ := dvs3 r
      cases d0
      refine q_when (b := false) (et_eqS (ev_ixt (j := 0) ev_v hs rfl) ev_c (Sx.op_ne_cell o)) (fun q => nomatch q) fun _ H1 e1 => ?_
      refine s_ret (v := .bl (a.hc || b.hc)) (Evl.ev_is (ev_anyL (bs := [a.hc, b.hc]) (el_lcNU (f := fun _ => true) (v := fun i => .bl (if i = 0 then a.hc else b.hc)) (eu_tl ev_v (Same.sqT e1 hs)) (by simp) (fun _ => rfl) (fun _ _ _ _ _ => et_yes) fun i x H2 e2 hx _ => ?_)) (by simp)) fun H2 e2 => q H2 (Ex.trans e1 e2)
      have hx' : ∃ s : Sx, DV K H2 s.toD x ∧ s.dep ≤ m ∧ s.hc = (if i = 0 then a.hc else b.hc) := by
        match i, hx with
        | 0, hx => cases hx; exact ⟨a, d1.mono (Ex.trans e1 e2), Nat.le_trans (Nat.le_max_left _ _) hd, rfl⟩
        | 1, hx => cases hx; exact ⟨b, d2.mono (Ex.trans e1 e2), Nat.le_trans (Nat.le_max_right _ _) hd, rfl⟩
        | i + 2, hx => simp at hx
      obtain ⟨s, ds, hsd, hsc⟩ := hx'
      rw [← hsc]
      obtain ⟨ax, xs', rfl, hxs, _⟩ : ∃ ax xs', x = .ref ax ∧ SqT K H2 ax xs' ∧ True := by
        cases s <;> (obtain ⟨ax, xs', e, h, _⟩ := ds.tup_inv; exact ⟨ax, xs', e, h, trivial⟩)
      exact Evl.ev_andV (a := true) (b := s.hc) (ev_isi ev_v (b := true) fun H3 e3 => tyx_tup (Same.sqT e3 hxs)) fun _ => ev_calln (ea_cons ev_v ea_nil) fun H3 e3 Q q E => ⟨m, rfl, s, _, rfl, ds.mono e3, hsd, q⟩
theorem cal_no (F : DefAt K mg "has_cells" sHasCells) : Cal P w K mg base 1 "has_cells" fun _ _ _ _ => False := by
  have S : FnScope ["expression", "part"] ["expression"] (defScope sHasCells) := ⟨rfl, rfl, rfl, by decide +kernel, rfl, by decide +kernel, by decide +kernel⟩
  exact cal_mk F S (fun _ _ _ _ _ _ us hl => match us, hl with | [_], _ => rfl) (fun vs H Q E h => h.elim) (fun f cdv A outer s H vs Q E hr h => h.elim)
theorem Cal.imp {k : Nat} {x : Str} {sp sp' : Sp} (c : Cal P w K mg base k x sp) (h : ∀ vs H Q E, sp' vs H Q E → sp vs H Q E) : Cal P w K mg base k x sp' := by
  obtain ⟨f, fd, ps, F, r⟩ := c.ex
  exact ⟨f, fd, ps, F.imp h, r⟩
theorem ok_has (T : Tx K mg aR) (F : DefAt K mg "has_cells" sHasCells) (n : Nat) : Cal P w K mg base (n + 2) "has_cells" (spHas K n) := by
  induction n with
  | zero => exact ok_has0 T F 0 ((cal_no F).imp fun vs H Q E h => by obtain ⟨m, h, _⟩ := h; cases h)
  | succ n ih => exact ok_has0 T F (n + 1) (ih.imp fun vs H Q E h => by obtain ⟨m, h, q⟩ := h; cases h; exact q)
theorem ok_still (T : Tx K mg aR) (F : DefAt K mg "is_still" sIsStill) : Cal P w K mg base 1 "is_still" (spStill K) := by
  have S : FnScope ["expression"] ["expression"] (defScope sIsStill) := ⟨rfl, rfl, rfl, by decide +kernel, rfl, by decide +kernel, by decide +kernel⟩
  refine cal_mk F S (fun _ _ _ _ _ _ us hl => match us, hl with | [_], _ => rfl) (fun vs H Q E h => ?_) (fun f cdv A outer s H vs Q E hr h => ?_)
  · obtain ⟨e, ds, u, rfl, _⟩ := h
    rfl
  · obtain ⟨e, ds, u, rfl, d, q⟩ := h
    refine ⟨_, (pss_one (ps_ret (pe_cmpR op_eq (pe_ix ix_tup (pv 0) pe_int (fun _ _ => rfl)) pe_str (nomark _)))), ?_⟩
    cases d with
    | tup hs r =>
      cases r with
      | cons d0 r =>
        cases d0
        exact s_ret (ev_eqS (ev_ixt (j := 0) ev_v hs rfl) ev_c rfl) q
theorem ok_place (T : Tx K mg aR) (F : DefAt K mg "place_of" sPlaceOf) : Cal P w K mg base 1 "place_of" (spPlace K) := by
  have S : FnScope ["cells", "wanted", "first", "name", "size", "value"] ["cells", "wanted"] (defScope sPlaceOf) := ⟨rfl, rfl, rfl, by decide +kernel, rfl, by decide +kernel, by decide +kernel⟩
  refine cal_mk F S (fun _ _ _ _ _ _ us hl => match us, hl with | [_, _], _ => rfl) (fun vs H Q E h => ?_) (fun f cdv A outer s H vs Q E hr h => ?_)
  · obtain ⟨N, u, rfl, _⟩ := h
    rfl
  · obtain ⟨N, u, rfl, d, k⟩ := h
    refine ⟨_, (pss_cons (ps_set (i := 2) S.nd rfl (Or.inl rfl) pe_int)
  (pss_cons (ps_for PassesOwn.never rfl (pi_list (pv 0)) (pg_tup rfl (pgs_cons (pg_name (i := 3) S.nd rfl (Or.inl rfl)) (pgs_cons (pg_name (i := 4) S.nd rfl (Or.inl rfl)) (pgs_cons (pg_name (i := 5) S.nd rfl (Or.inl rfl)) pgs_nil))))
  (pss_cons (ps_if (pt_cmpR op_eq (pv 3) (pv 1) (nomark _))
  (pss_one (ps_ret (pe_tup (pa_cons (pv 2) (pa_cons (pv 4) pa_nil)))))
  pss_nil)
  (pss_one (ps_aug (i := 2) S.nd rfl (Or.inl rfl) (pv 4) ip_add))))
  (pss_one (ps_ret (pe_tup (pa_cons (pv 2) (pa_cons pe_int pa_nil))))))), ?_⟩
    obtain ⟨al, at_, rfl, hl, ht⟩ := cells_inv d
    refine q_asg ev_c fun H1 e1 => ?_
    refine Evl.q_forL ev_v (sqL_of (e1 _ _ hl)) (fun i σ2 H2 => i = 0 ∧ Ex H H2 ∧ σ2 = [some (.ref al), some (.str "c"), some (.int 0), none, none, none]) (fun H2 e2 => ⟨rfl, Ex.trans e1 e2, rfl⟩) (fun i σ2 H2 _ h2 => sqL_of (h2.2.1 _ _ hl)) (fun i x σ2 H2 hx h2 => ?_) (fun σ2 H2 h2 => nomatch h2.1)
    obtain ⟨rfl, e2, rfl⟩ := h2
    cases hx
    refine ⟨_, _, rfl, Same.sqT e2 ht, rfl, ?_⟩
    refine ⟨_, _, rfl, _, _, rfl, _, _, rfl, rfl, ?_⟩
    dsimp only
    refine q_when (b := true) (et_eqS ev_v ev_v) (fun _ H3 e3 => ?_) (fun q => nomatch q)
    exact Evl.s_retU (eu_tup (ea_cons ev_v (ea_cons ev_v ea_nil)) (by simp)) fun p H4 np e4 h4 => k p H4 (Evl.fresh_back (Ex.trans e2 e3) np) (Ex.trans (Ex.trans e2 e3) e4) h4
theorem ok_first_memory (T : Tx K mg aR) (F : DefAt K mg "first_memory" sFirstMemory) : Cal P w K mg base 1 "first_memory" (spFirstMem K) := by
  have S : FnScope ["cells", "memory", "name", "size", "value"] ["cells"] (defScope sFirstMemory) := ⟨rfl, rfl, rfl, by decide +kernel, rfl, by decide +kernel, by decide +kernel⟩
  refine cal_mk F S (fun _ _ _ _ _ _ us hl => match us, hl with | [_], _ => rfl) (fun vs H Q E h => ?_) (fun f cdv A outer s H vs Q E hr h => ?_)
  · obtain ⟨N, u, rfl, _⟩ := h
    rfl
  · obtain ⟨N, u, rfl, d, l1, l2, k⟩ := h
    refine ⟨_, (pss_cons (ps_set (i := 1) S.nd rfl (Or.inl rfl) (pe_lst pa_nil))
  (pss_cons (ps_for PassesOwn.never rfl (pi_list (pv 0)) (pg_tup rfl (pgs_cons (pg_name (i := 2) S.nd rfl (Or.inl rfl)) (pgs_cons (pg_name (i := 3) S.nd rfl (Or.inl rfl)) (pgs_cons (pg_name (i := 4) S.nd rfl (Or.inl rfl)) pgs_nil))))
  (pss_one (ps_set (i := 1) S.nd rfl (Or.inl rfl) (pe_op op_cat (pv 1) (pe_op op_rep (pe_lst (pa_cons (pv 4) pa_nil)) (pv 3))))))
  (pss_one (ps_ret (pv 1))))), ?_⟩
    obtain ⟨al, at_, rfl, hl, ht⟩ := cells_inv d
    refine Evl.q_asgL (el_lst ea_nil (by decide)) fun m0 H1 n1 e1 h1 => ?_
    refine Evl.q_forL ev_v (sqL_of (e1 _ _ hl)) (fun i σ2 H2 => Ex H H2 ∧ ∃ m v1 v2 v3, σ2 = [some (.ref al), some (.ref m), v1, v2, v3] ∧ H m = none ∧ H2 m = some (.lst (if i = 0 then [] else List.replicate (N + 2).toNat (.int 0))))
      (fun H2 e2 => ⟨Ex.trans e1 e2, m0, none, none, none, rfl, n1, e2 _ _ h1⟩) (fun i σ2 H2 _ h2 => sqL_of (h2.1 _ _ hl)) (fun i x σ2 H2 hx h2 => ?_) (fun σ2 H2 h2 => ?_)
    · obtain ⟨e2, m, v1, v2, v3, rfl, nm, hm⟩ := h2
      have hi : i = 0 ∧ x = .ref at_ := by
        cases i with
        | zero => exact ⟨rfl, (Option.some.inj hx).symm⟩
        | succ i => simp at hx
      obtain ⟨rfl, rfl⟩ := hi
      refine ⟨_, _, rfl, Same.sqT e2 ht, rfl, ?_⟩
      refine ⟨_, _, rfl, _, _, rfl, _, _, rfl, rfl, ?_⟩
      refine ⟨_, rfl, ⟨_, rfl, by decide, fun p1 np1 => ?_⟩⟩
      have e3 := Ex.trans e2 (Ex.new (o := .lst [.int 0]) np1)
      refine ⟨_, rfl, p1, N + 2, _, rfl, rfl, upd_same, by omega, by omega, ?_, fun p2 np2 => ?_⟩
      · rw [List.length_singleton, Nat.one_mul, sizeLine_eq]
        omega
      have ef : (List.replicate (N + 2).toNat [V.int 0]).flatten = List.replicate (N + 2).toNat (V.int 0) := by
        generalize (N + 2).toNat = n
        induction n with
        | zero => rfl
        | succ n ih => rw [List.replicate_succ, List.replicate_succ, List.flatten_cons, ih]; rfl
      rw [ef]
      have hm3 := Ex.trans (Ex.new (o := .lst [.int 0]) np1) (Ex.new (o := .lst (List.replicate (N + 2).toNat (.int 0))) np2) _ _ hm
      refine ⟨m, p2, _, _, rfl, rfl, hm3, upd_same, ?_, fun p3 np3 => ?_⟩
      · rw [if_pos rfl, List.length_nil, List.length_replicate, sizeLine_eq]
        omega
      refine ⟨Ex.trans (Ex.trans e3 (Ex.new np2)) (Ex.new np3), p3, _, _, _, rfl, Evl.fresh_back (Ex.trans e3 (Ex.new np2)) np3, upd_same⟩
    · obtain ⟨e2, m, v1, v2, v3, rfl, nm, hm⟩ := h2
      exact s_ret ev_v fun H3 e3 => k m H3 nm (Ex.trans e2 e3) (e3 _ _ hm)
end
end HK


set_option maxRecDepth 100000
set_option maxHeartbeats 4000000
/-! F2: the Translator: add, new_slot, kept, renamed, expression. -/
namespace HK
open PySem PySem.Spec PyProof.Rows L2
open Evl (Ex Ev EvT EvA EvL EvU RetV ev_var ev_c ev_op ev_un ea_nil ea_cons et_test et_B et_and et_or et_not ev_call ev_cb rv_I0 rv_I rv_eq rv_ixL rv_ixT ev_inU ev_niU eu_tup el_lst ev_len el_list q_when q_if q_asg q_drop s_asg s_ret s_if s_drop)

/-- H without some objects -/
noncomputable def mn (H : Hp) (W : Addr → Prop) : Hp := fun b => open Classical in if W b then none else H b
def X2 (W : Addr → Prop) (H H' : Hp) : Prop := Ex (mn H W) (mn H' W)
section
variable {K : PySem.W.Frag} {H H' H1 : Hp} {p b : Addr} {o : HO} {W : Addr → Prop}
theorem mn_at (n : ¬ W b) : mn H W b = H b := if_neg n
theorem mn_some (h : mn H W b = some o) : ¬ W b ∧ H b = some o := by
  unfold mn at h
  split at h
  · cases h
  · rename_i q
    exact ⟨q, h⟩
theorem mn_ex : Ex (mn H W) H := fun b o h => (mn_some h).2
theorem mn_mono (e : Ex H H') : Ex (mn H W) (mn H' W) := fun b o h => by
  obtain ⟨n1, h⟩ := mn_some h
  rw [mn_at n1]
  exact e _ _ h
theorem X2.refl : X2 W H H := Ex.refl _
theorem X2.trans (a : X2 W H H1) (b : X2 W H1 H') : X2 W H H' := Ex.trans a b
theorem X2.of (e : Ex H H') : X2 W H H' := mn_mono e
theorem X2.ofP (e : ExB p H H') (hW : W p := by first | exact .inl rfl | exact .inr (.inl rfl)) : X2 W H H' := fun b o h => by
  obtain ⟨n1, h⟩ := mn_some h
  rw [mn_at n1]
  exact e _ _ (fun z => n1 (by rw [z]; exact hW)) h
theorem X2.ofC (e : ExB p H H') (hW : W p := by first | exact .inl rfl | exact .inr (.inl rfl)) : X2 W H H' := X2.ofP e hW
def NoTup (o : HO) : Prop := (∀ xs, o ≠ .tup xs) ∧ ∀ ob u, o ≠ .frz ob u
theorem mn_tups (h : ∀ b, W b → ∃ o, H b = some o ∧ NoTup o) : Tups H (mn H W) :=
  ⟨fun b xs e => by rw [mn_at fun w => by obtain ⟨o, h1, h2⟩ := h b w; rw [e] at h1; cases h1; exact h2.1 _ rfl]; exact e,
   fun b ob xs e => by rw [mn_at fun w => by obtain ⟨o, h1, h2⟩ := h b w; rw [e] at h1; cases h1; exact h2.2 _ _ rfl]; exact e⟩
end
def ksT : List Str := ["names", "code", "count", "cells"]
/-- a translator's objects; zc: lists that others write, not to be touched -/
structure TrA where
  p : Addr
  n : Addr
  c : Addr
  ce : Addr
  zc : Hp
def TrA.w (a : TrA) : Addr → Prop := fun b => b = a.p ∨ b = a.c ∨ a.zc b ≠ none
def nmV (nx : Bool) : List V := if nx then [.str "x"] else []
structure TrAt (K : PySem.W.Frag) (C : Addr) (N : Int) (nx : Bool) (H : Hp) (a : TrA) (ds : List D) (cnt : Nat) : Prop where
  hp : ∃ dx, H a.p = some (.ins C dx (ksT.zip [.ref a.n, .ref a.c, .int cnt, .ref a.ce]))
  hn : mn H a.w a.n = some (.lst (nmV nx))
  hc : ∃ cv, H a.c = some (.lst cv) ∧ DVs K (mn H a.w) ds cv
  hce : DV K (mn H a.w) (dCells N) (.ref a.ce)
  hz : Ex a.zc H
  zt : ∀ b o, a.zc b = some o → NoTup o
  zp : a.zc a.p = none
  zq : a.zc a.c = none
section
variable {K : PySem.W.Frag} {C : Addr} {N : Int} {nx : Bool} {H H' : Hp} {a : TrA} {ds ds' : List D} {cnt cnt' : Nat} {d : D} {v : V}
theorem TrAt.tups (t : TrAt K C N nx H a ds cnt) : Tups H (mn H a.w) := mn_tups fun b w => by
  rcases w with rfl | rfl | w
  · obtain ⟨_, h⟩ := t.hp; exact ⟨_, h, nt_ins⟩
  · obtain ⟨_, h, _⟩ := t.hc; exact ⟨_, h, nt_lst⟩
  · cases h : a.zc b with
    | none => exact absurd h w
    | some o => exact ⟨o, t.hz _ _ h, t.zt _ _ h⟩
theorem TrAt.flat (t : TrAt K C N nx H a ds cnt) (hf : d.fl = true) (h : DV K H d v) : DV K (mn H a.w) d v := h.tups t.tups hf
theorem TrAt.pc (t : TrAt K C N nx H a ds cnt) : a.p ≠ a.c := let ⟨_, h1⟩ := t.hp; let ⟨_, h2, _⟩ := t.hc; ne_of h1 h2 (by intro z; cases z)
theorem TrAt.grow (t : TrAt K C N nx H a ds cnt) (e : Ex H H') : TrAt K C N nx H' a ds cnt :=
  ⟨let ⟨dx, h⟩ := t.hp; ⟨dx, e _ _ h⟩, mn_mono e _ _ t.hn, let ⟨cv, h, r⟩ := t.hc; ⟨cv, e _ _ h, r.mono (mn_mono e)⟩, t.hce.mono (mn_mono e), Ex.trans t.hz e, t.zt, t.zp, t.zq⟩
theorem TrAt.set_c (t : TrAt K C N nx H a ds cnt) {cv : List V} (e : ExB a.c H H') (h : H' a.c = some (.lst cv)) (r : DVs K (mn H a.w) ds' cv) : TrAt K C N nx H' a ds' cnt :=
  ⟨let ⟨dx, h⟩ := t.hp; ⟨dx, e _ _ t.pc h⟩, (X2.ofC e : X2 a.w H H') _ _ t.hn, ⟨cv, h, r.mono (X2.ofC e : X2 a.w H H')⟩, t.hce.mono (X2.ofC e : X2 a.w H H'), fun b o h => e b o (ne_of_none h t.zq) (t.hz b o h), t.zt, t.zp, t.zq⟩
theorem TrAt.set_p (t : TrAt K C N nx H a ds cnt) (e : ExB a.p H H') (h : ∃ dx, H' a.p = some (.ins C dx (ksT.zip [.ref a.n, .ref a.c, .int cnt', .ref a.ce]))) : TrAt K C N nx H' a ds cnt' :=
  ⟨h, (X2.ofP e : X2 a.w H H') _ _ t.hn, let ⟨cv, h, r⟩ := t.hc; ⟨cv, e _ _ t.pc.symm h, r.mono (X2.ofP e : X2 a.w H H')⟩, t.hce.mono (X2.ofP e : X2 a.w H H'), fun b o h => e b o (ne_of_none h t.zp) (t.hz b o h), t.zt, t.zp, t.zq⟩
/-- what a translator is not about stays -/
theorem TrAt.ex (t' : TrAt K C N nx H' a ds cnt) {G : Hp} (e : Ex G H) (gp : G a.p = none) (gc : G a.c = none) (x : X2 a.w H H') (z : ∀ b o, G b = some o → a.zc b ≠ none → a.zc b = some o) : Ex G H' := fun b o h => by
  by_cases hz : a.zc b = none
  · refine (mn_some (x b o ?_)).2
    rw [mn_at fun w => by rcases w with rfl | rfl | w; (rw [gp] at h; cases h); (rw [gc] at h; cases h); exact w hz]
    exact e _ _ h
  · exact t'.hz _ _ (z b o h hz)
end
theorem DVs.single {K : PySem.W.Frag} {H : Hp} {d : D} {v : V} (h : DV K H d v) : DVs K H [d] [v] := .cons h .nil
/-! ### the mirror -/
def ren (nx : Bool) : Sx → Option Fx
  | .num n => some (.num n)
  | .loc => if nx then some (.slot 0) else none
  | _ => none
def Fx.still : Fx → Bool
  | .num _ => true
  | _ => false
def Fx.k : Fx → Str
  | .num _ => "number"
  | .slot _ => "slot"
  | .bin o _ _ => o.s
def addI (is : List Ins) (i : Ins) : Option (List Ins) := if is.length < 1000 then some (is ++ [i]) else none
def trE (nx : Bool) (N : Int) : Sx → List Ins → Nat → Option (Fx × List Ins × Nat)
  | .num n, is, k => some (.num n, is, k)
  | .loc, is, k => match ren nx .loc with
    | some f => some (f, is, k)
    | none => none
  | .cell i, is, k => match trE nx N i is k with
    | some (ix, is1, k1) => match addI is1 (.load k1 0 (N + 2) ix) with
      | some is2 => some (.slot k1, is2, k1 + 1)
      | none => none
    | none => none
  | .bin o a b, is, k => if (a.hc || b.hc) = true then match trE nx N a is k with
      | some (f1, is1, k1) => if (b.hc && !f1.still) = true then match addI is1 (.set k1 f1) with
          | some is2 => match trE nx N b is2 (k1 + 1) with
            | some (f2, is3, k3) => some (.bin o (.slot k1) f2, is3, k3)
            | none => none
          | none => none
        else match trE nx N b is1 k1 with
          | some (f2, is3, k3) => some (.bin o f1 f2, is3, k3)
          | none => none
      | none => none
    else none
section
variable {K : PySem.W.Frag} {σ : L2.St} {H : Hp} {ta : TE} {t : TA} {C p dx : Addr} {fs : List (Str × V)} {m : Str} {sp : Sp} {Q : VK} {ds : List D}
/-- a method's call, its arguments data -/
theorem go_methDs (h : Ev ta σ H (.ref p)) (ho : H p = some (.ins C dx fs)) (hl : fs.lookup m = none) (ht : EvDs K t σ H ds) (k : ∀ H1 us, Ex H H1 → DVs K H1 ds us → sp (.ref p :: us) H1 Q E0) : tMeth C m sp [] E0 ta t σ H Q :=
  h H (Ex.refl H) _ fun H2 e2 => ⟨p, dx, fs, rfl, e2 _ _ ho, hl, ht H2 e2 _ fun us H3 e3 r => by
    rw [List.append_nil]
    exact k H3 us (Ex.trans e2 e3) r⟩
theorem go_methD {te : TE} {d : D} (h : Ev ta σ H (.ref p)) (ho : H p = some (.ins C dx fs)) (hl : fs.lookup m = none) (ht : EvD K te σ H d) (k : ∀ H1 u, Ex H H1 → DV K H1 d u → sp [.ref p, u] H1 Q E0) : tMeth C m sp [] E0 ta (tCons te tNil) σ H Q :=
  go_methDs h ho hl (evds_cons ht evds_nil) fun H1 us e1 r => by
    obtain ⟨u, rfl, d1⟩ := dvs1 r
    exact k H1 u e1 d1
/-- ["x"].index("x") -/
theorem ev_idx0 {l : Addr} {x : Str} {te : TE} (h : Ev ta σ H (.ref l)) (hl : H l = some (.lst [.str x])) (ht : Ev te σ H (.str x)) : Ev (tBM K "list" (rIndex K) ta (tCons te tNil)) σ H (.int 0) := fun H1 e1 Q q =>
  h H1 e1 _ fun H2 e2 => ⟨.inl ⟨rfl, _, sqL_of ((Ex.trans e1 e2) _ _ hl)⟩, ht H2 (Ex.trans e1 e2) _ fun H3 e3 =>
    ⟨l, [.str x], .str x, 0, .str x, rfl, rfl, sqL_of ((Ex.trans (Ex.trans e1 e2) e3) _ _ hl), rfl, rfl, rfl, by show (x == x) = true; simp, fun m _ h => absurd h (Nat.not_lt_zero m), q H3 (Ex.trans e2 e3)⟩⟩
/-- self.add(d), d flat -/
theorem go_add {N : Int} {nx : Bool} {a : TrA} {cnt : Nat} {te : TE} {d : D} {sp0 : Sp} (c : ClsF K C ksT) (t : TrAt K C N nx H a ds cnt) (h : Ev ta σ H (.ref a.p)) (ht : EvD K te σ H d) (hf : d.fl = true) (hl : ds.length < 1000)
    (hsp : ∀ vs H Q E, (∃ (N : Int) (nx : Bool) (a : TrA) (ds : List D) (cnt : Nat) (d : D) (u : V), vs = [.ref a.p, u] ∧ TrAt K C N nx H a ds cnt ∧ DV K (mn H a.w) d u ∧ ds.length < 1000 ∧ ∀ H', X2 a.w H H' → TrAt K C N nx H' a (ds ++ [d]) cnt → Q (.int ds.length) H') → sp0 vs H Q E)
    (k : ∀ H', X2 a.w H H' → TrAt K C N nx H' a (ds ++ [d]) cnt → Q (.int ds.length) H') : tMeth C "add" sp0 [] E0 ta (tCons te tNil) σ H Q := by
  obtain ⟨dx, hp⟩ := t.hp
  exact go_methD h hp (fz_none (by decide +kernel)) ht fun H1 u e1 du => hsp _ _ _ _ ⟨N, nx, a, ds, cnt, d, u, rfl, t.grow e1, (t.grow e1).flat hf du, hl, fun H2 x2 t2 => k H2 (X2.trans (X2.of e1) x2) t2⟩
end
/-! ### promises -/
def spAdd (K : PySem.W.Frag) (C : Addr) : Sp := fun vs H Q _ => ∃ (N : Int) (nx : Bool) (a : TrA) (ds : List D) (cnt : Nat) (d : D) (u : V), vs = [.ref a.p, u] ∧ TrAt K C N nx H a ds cnt ∧ DV K (mn H a.w) d u ∧ ds.length < 1000 ∧
  ∀ H', X2 a.w H H' → TrAt K C N nx H' a (ds ++ [d]) cnt → Q (.int ds.length) H'
def spNewSlot (K : PySem.W.Frag) (C : Addr) : Sp := fun vs H Q _ => ∃ (N : Int) (nx : Bool) (a : TrA) (ds : List D) (cnt : Nat), vs = [.ref a.p] ∧ TrAt K C N nx H a ds cnt ∧
  ∀ H', X2 a.w H H' → TrAt K C N nx H' a ds (cnt + 1) → Q (.int cnt) H'
def spKept (K : PySem.W.Frag) (C : Addr) : Sp := fun vs H Q _ => ∃ (N : Int) (nx : Bool) (a : TrA) (ds : List D) (cnt : Nat) (e : Fx) (u : V), vs = [.ref a.p, u] ∧ TrAt K C N nx H a ds cnt ∧ DV K H e.toD u ∧ ds.length < 1000 ∧
  ∀ v H', X2 a.w H H' → TrAt K C N nx H' a (ds ++ [(Ins.set cnt e).toD]) (cnt + 1) → DV K H' (Fx.slot cnt).toD v → Q v H'
def spRenamed (K : PySem.W.Frag) (C : Addr) : Sp := fun vs H Q _ => ∃ (N : Int) (nx : Bool) (a : TrA) (ds : List D) (cnt : Nat) (e : Sx) (f : Fx) (u : V), vs = [.ref a.p, u] ∧ TrAt K C N nx H a ds cnt ∧ DV K H e.toD u ∧ ren nx e = some f ∧ Ret K H Q f.toD
def spExpr (K : PySem.W.Frag) (C : Addr) (n : Nat) : Sp := fun vs H Q _ => ∃ (N : Int) (nx : Bool) (a : TrA) (is is' : List Ins) (k k' : Nat) (e : Sx) (f : Fx) (u : V), vs = [.ref a.p, u, .ref a.ce] ∧ TrAt K C N nx H a (is.map Ins.toD) k ∧ DV K H e.toD u ∧ e.dep ≤ n ∧
  trE nx N e is k = some (f, is', k') ∧ ∀ v H', X2 a.w H H' → TrAt K C N nx H' a (is'.map Ins.toD) k' → DV K H' f.toD v → Q v H'
abbrev sTranslatorAdd : Stmt := inClass (top 26) 1
abbrev sTranslatorNewSlot : Stmt := inClass (top 26) 2
abbrev sTranslatorKept : Stmt := inClass (top 26) 3
abbrev sTranslatorRenamed : Stmt := inClass (top 26) 4
abbrev sTranslatorExpression : Stmt := inClass (top 26) 5
section
variable {P : Program} {w : World} {K : PySem.W.Frag} {mg : Str → Option Value} {base : Heap} {aR C : Addr}
theorem ok_add (T : Tx K mg aR) (c : ClsF K C ksT) (F : MethAt K C "add" "Translator.add" sTranslatorAdd) : Met P w K mg base 1 C "add" (spAdd K C) := by
  have S : FnScope ["self", "instruction"] ["self", "instruction"] (defScope sTranslatorAdd) := ⟨rfl, rfl, rfl, by decide +kernel, rfl, by decide +kernel, by decide +kernel⟩
  refine met_mk c.cl F S (fun _ _ _ _ _ _ us hl => match us, hl with | [_, _], _ => rfl) (fun vs H Q E h => ?_) (fun f cdv A outer s H vs Q E hr h => ?_)
  · obtain ⟨N, nx, a, ds, cnt, d, u, rfl, _⟩ := h
    rfl
  · obtain ⟨N, nx, a, ds, cnt, d, u, rfl, t, dv, hl, k⟩ := h
    refine ⟨_, (pss_cons (ps_expr (pe_bm PySem.F.plainAttrs_list PySem.F.slot_list_append PySem.F.type_list_append mt_append (pe_fld (pv 0) rfl) (pa_cons (pv 1) pa_nil)))
  (pss_one (ps_ret (pe_op op_sub (pe_callB call_len_seq (by rfl) T.b.len (by decide +kernel) (pa_cons (pe_fld (pv 0) rfl) pa_nil)) pe_int)))), ?_⟩
    obtain ⟨dx, hp⟩ := t.hp
    obtain ⟨cv, hcv, r⟩ := t.hc
    have hlen := r.length
    refine q_appl hcv (ev_fz (i := 1) ev_v hp c rfl) ev_v (by omega) fun H1 b1 h1 => ?_
    have t1 : TrAt K C N nx H1 a (ds ++ [d]) cnt := t.set_c b1 h1 (r.append (.single dv))
    obtain ⟨dx1, hp1⟩ := t1.hp
    refine s_ret (Evl.ev_is (ev_op (ev_lenl (ev_fz (i := 1) ev_v hp1 c rfl) (sqL_of h1)) ev_c rv_I0) ?_) fun H2 e2 => k H2 (X2.trans (X2.ofC b1) (X2.of e2)) (t1.grow e2)
    rw [List.length_append, List.length_singleton, ← hlen]
    exact congrArg V.int (by omega)
theorem ok_new_slot (T : Tx K mg aR) (c : ClsF K C ksT) (F : MethAt K C "new_slot" "Translator.new_slot" sTranslatorNewSlot) : Met P w K mg base 1 C "new_slot" (spNewSlot K C) := by
  have S : FnScope ["self"] ["self"] (defScope sTranslatorNewSlot) := ⟨rfl, rfl, rfl, by decide +kernel, rfl, by decide +kernel, by decide +kernel⟩
  refine met_mk c.cl F S (fun _ _ _ _ _ _ us hl => match us, hl with | [_], _ => rfl) (fun vs H Q E h => ?_) (fun f cdv A outer s H vs Q E hr h => ?_)
  · obtain ⟨N, nx, a, ds, cnt, rfl, _⟩ := h
    rfl
  · obtain ⟨N, nx, a, ds, cnt, rfl, t, k⟩ := h
    refine ⟨_, (pss_cons (ps_fldaug (pv 0) pe_int in_add)
  (pss_one (ps_ret (pe_op op_sub (pe_fld (pv 0) rfl) pe_int)))), ?_⟩
    obtain ⟨dx, hp⟩ := t.hp
    refine q_faug (i := 2) ev_c ev_v hp c rfl fun H1 b1 h1 => ?_
    have t1 : TrAt K C N nx H1 a ds (cnt + 1) := t.set_p b1 ⟨dx, h1⟩
    refine s_ret (Evl.ev_is (ev_op (ev_fz (i := 2) ev_v h1 c rfl) ev_c rv_I0) ?_) fun H2 e2 => k H2 (X2.trans (X2.ofP b1) (X2.of e2)) (t1.grow e2)
    exact congrArg V.int (by omega)
theorem ok_kept (T : Tx K mg aR) (c : ClsF K C ksT) (F : MethAt K C "kept" "Translator.kept" sTranslatorKept) (m_add : Met P w K mg base 1 C "add" (spAdd K C)) (m_new_slot : Met P w K mg base 1 C "new_slot" (spNewSlot K C)) : Met P w K mg base 2 C "kept" (spKept K C) := by
  have S : FnScope ["self", "expression", "slot"] ["self", "expression"] (defScope sTranslatorKept) := ⟨rfl, rfl, rfl, by decide +kernel, rfl, by decide +kernel, by decide +kernel⟩
  refine met_mk c.cl F S (fun _ _ _ _ _ _ us hl => match us, hl with | [_, _], _ => rfl) (fun vs H Q E h => ?_) (fun f cdv A outer s H vs Q E hr h => ?_)
  · obtain ⟨N, nx, a, ds, cnt, e, u, rfl, _⟩ := h
    rfl
  · obtain ⟨N, nx, a, ds, cnt, e, u, rfl, t, dv, hl, k⟩ := h
    refine ⟨_, (pss_cons (ps_set (i := 2) S.nd rfl (Or.inl rfl) (pe_mt0 m_new_slot hr (pv 0)))
  (pss_cons (ps_expr (pe_mt m_add hr (pv 0) (pa_cons (pe_tup (pa_cons pe_str (pa_cons (pv 2) (pa_cons (pv 1) pa_nil)))) pa_nil)))
  (pss_one (ps_ret (pe_tup (pa_cons pe_str (pa_cons (pv 2) pa_nil))))))), ?_⟩
    obtain ⟨dx, hp⟩ := t.hp
    refine q_asgX (go_meth ev_v hp (fz_none (by decide +kernel)) ea_nil fun H1 e1 => ?_)
    have d1 := t.flat e.fl dv
    refine ⟨N, nx, a, ds, cnt, rfl, t.grow e1, fun H2 x2 t2 => ?_⟩
    have x12 := X2.trans (X2.of e1) x2
    dsimp only [gName]
    have dv2 : DV K H2 e.toD u := (d1.mono x12).mono mn_ex
    refine q_callM (go_add c t2 ev_v (evd_tup (ds := [.str "set", .int cnt, e.toD]) (evds_cons evd_str (evds_cons (evd_var (.int _)) (evds_cons (evd_var dv2) evds_nil)))) (d := (Ins.set cnt e).toD) (by show (true && (true && (e.toD.fl && true))) = true; rw [e.fl]; rfl) hl (fun _ _ _ _ h => h) fun H3 x3 t3 => ?_)
    refine (evd_tup (ds := [.str "slot", .int cnt]) (evds_cons evd_str (evds_cons (evd_var (.int _)) evds_nil))).go (K := K) fun v H4 e4 d4 => ?_
    exact k v H4 (X2.trans x12 (X2.trans x3 (X2.of e4))) (t3.grow e4) d4
theorem ok_renamed (T : Tx K mg aR) (c : ClsF K C ksT) (F : MethAt K C "renamed" "Translator.renamed" sTranslatorRenamed) : Met P w K mg base 1 C "renamed" (spRenamed K C) := by
  have S : FnScope ["self", "expression", "part"] ["self", "expression"] (defScope sTranslatorRenamed) := ⟨rfl, rfl, rfl, by decide +kernel, rfl, by decide +kernel, by decide +kernel⟩
  refine met_mk c.cl F S (fun _ _ _ _ _ _ us hl => match us, hl with | [_, _], _ => rfl) (fun vs H Q E h => ?_) (fun f cdv A outer s H vs Q E hr h => ?_)
  · obtain ⟨N, nx, a, ds, cnt, e, f, u, rfl, _⟩ := h
    rfl
  · obtain ⟨N, nx, a, ds, cnt, e, f, u, rfl, t, dv, hf, k⟩ := h
    refine ⟨_, (pss_cons (ps_if (pt_cmpR op_eq (pe_ix ix_tup (pv 1) pe_int (fun _ _ => rfl)) pe_str (nomark _))
  (pss_one (ps_ret (pv 1)))
  pss_nil)
  (pss_cons (ps_if (pt_cmpR op_eq (pe_ix ix_tup (pv 1) pe_int (fun _ _ => rfl)) pe_str (nomark _))
  (pss_one (ps_ret (pe_tup (pa_cons pe_str (pa_cons (pe_bm PySem.F.plainAttrs_list PySem.F.slot_list_index PySem.F.type_list_index mt_index (pe_fld (pv 0) rfl) (pa_cons (pe_ix ix_tup (pv 1) pe_int (fun _ _ => rfl)) pa_nil)) pa_nil)))))
  pss_nil)
  pss_never)), ?_⟩
    obtain ⟨dx, hp⟩ := t.hp
    cases e with
    | num n =>
      cases hf
      have dv0 := dv
      obtain ⟨ax, xs, rfl, hs, r⟩ := dv.tup_inv
      obtain ⟨_, _, rfl, d0, d1⟩ := dvs2 r
      cases d0; cases d1
      refine q_when (b := true) (et_eqS (ev_ixt (j := 0) ev_v hs rfl) ev_c) (fun _ H1 e1 => ?_) (fun q => nomatch q)
      exact s_ret ev_v fun H2 e2 => k _ H2 (Ex.trans e1 e2) (dv0.mono (Ex.trans e1 e2))
    | loc =>
      obtain ⟨ax, xs, rfl, hs, r⟩ := dv.tup_inv
      obtain ⟨_, _, rfl, d0, d1⟩ := dvs2 r
      cases d0; cases d1
      cases nx with
      | false => cases hf
      | true =>
        cases hf
        refine q_when (b := false) (et_eqS (ev_ixt (j := 0) ev_v hs rfl) ev_c) (fun q => nomatch q) fun _ H1 e1 => ?_
        refine q_when (b := true) (et_eqS (ev_ixt (j := 0) ev_v (Same.sqT e1 hs) rfl) ev_c) (fun _ H2 e2 => ?_) (fun q => nomatch q)
        have e12 := Ex.trans e1 e2
        have hn : H2 a.n = some (.lst [.str "x"]) := e12 _ _ (mn_ex _ _ t.hn)
        refine st_ret (K := K) (.tup [.str "slot", .int 0]) (evd_tup (evds_cons evd_str (evds_cons ?_ evds_nil))) fun v H3 e3 d3 => k v H3 (Ex.trans e12 e3) d3
        refine evd_ev (v := .int 0) ?_ (.int 0)
        exact ev_idx0 (ev_fz (i := 0) ev_v (e12 _ _ hp) c rfl) hn (ev_ixt (j := 1) ev_v (Same.sqT e12 hs) rfl)
    | cell i => cases hf
    | bin o x y => cases hf
end
end HK


set_option maxRecDepth 100000
set_option maxHeartbeats 4000000
/-! F3: Translator.expression. -/
namespace HK
open PySem PySem.Spec PyProof.Rows L2
open Evl (Ex Ev EvT EvA EvL EvU RetV ev_var ev_c ev_op ev_un ea_nil ea_cons et_test et_B et_and et_or et_not ev_call ev_cb rv_I0 rv_I rv_eq rv_ixL rv_ixT ev_inU ev_niU eu_tup el_lst ev_len el_list q_when q_if q_asg q_drop s_asg s_ret s_if s_drop)
section
variable {P : Program} {w : World} {K : PySem.W.Frag} {mg : Str → Option Value} {base : Heap} {aR C : Addr}
theorem sqX {K : PySem.W.Frag} {H H' : Hp} {W : Addr → Prop} {a : Addr} {xs : List V} (x : X2 W H H') (h : SqT K (mn H W) a xs) : SqT K H' a xs := Same.sqT mn_ex (Same.sqT x h)
theorem dvX {K : PySem.W.Frag} {H H' : Hp} {W : Addr → Prop} {d : D} {v : V} (x : X2 W H H') (h : DV K (mn H W) d v) : DV K H' d v := (h.mono x).mono mn_ex
theorem et_has {σ : L2.St} {H : Hp} {te : TE} {u : V} {e : Sx} {n : Nat} (h : Ev te σ H u) (d : DV K H e.toD u) (hd : e.dep ≤ n) : EvT (tTest (tCall (spHas K n) [] E0 (tCons te tNil))) σ H e.hc :=
  et_test (ev_calln (ea_cons h ea_nil) fun H1 e1 Q q E => ⟨e, u, rfl, d.mono e1, hd, q⟩)
theorem Fx.shape (f : Fx) : ∃ ds, f.toD = .tup (.str f.k :: ds) := by cases f <;> exact ⟨_, rfl⟩
theorem Fx.still_k (f : Fx) : decide (f.k = "number") = f.still := by
  cases f with
  | num n => show decide (("number" : Str) = "number") = true; decide +kernel
  | slot i => show decide (("slot" : Str) = "number") = false; decide +kernel
  | bin o a b => show decide (o.s = "number") = false; cases o <;> decide +kernel
theorem et_still {σ : L2.St} {H : Hp} {te : TE} {u : V} {f : Fx} (h : Ev te σ H u) (d : DV K H f.toD u) : EvT (tTest (tCall (spStill K) [] E0 (tCons te tNil))) σ H f.still := by
  obtain ⟨ds, hs⟩ := f.shape
  rw [← f.still_k]
  exact et_test (ev_calln (ea_cons h ea_nil) fun H1 e1 Q q E => ⟨f.k, ds, u, rfl, by rw [← hs]; exact d.mono e1, q⟩)
theorem addI_some {is is' : List Ins} {i : Ins} (h : addI is i = some is') : is.length < 1000 ∧ is' = is ++ [i] := by
  unfold addI at h
  split at h
  · rename_i q
    exact ⟨q, (Option.some.inj h).symm⟩
  · cases h
theorem map_add {is : List Ins} {i : Ins} : (is ++ [i]).map Ins.toD = is.map Ins.toD ++ [i.toD] := by rw [List.map_append]; rfl
theorem Ins.fl : ∀ i : Ins, i.toD.fl = true
  | .load s f z e => by
    show (true && (true && (true && (true && (e.toD.fl && true))))) = true
    rw [e.fl]; rfl
  | .set s e => by
    show (true && (true && (e.toD.fl && true))) = true
    rw [e.fl]; rfl
  | .put f z i e => by
    show (true && (true && (true && (i.toD.fl && (e.toD.fl && true))))) = true
    rw [i.fl, e.fl]; rfl
  | .unl e t => by
    show (true && (e.toD.fl && (true && true))) = true
    rw [e.fl]; rfl
  | .jump t => rfl
  | .retry => rfl
theorem ok_expr0 (T : Tx K mg aR) (c : ClsF K C ksT) (F : MethAt K C "expression" "Translator.expression" sTranslatorExpression) (m_add : Met P w K mg base 1 C "add" (spAdd K C)) (m_new_slot : Met P w K mg base 1 C "new_slot" (spNewSlot K C))
    (m_kept : Met P w K mg base 2 C "kept" (spKept K C)) (m_renamed : Met P w K mg base 1 C "renamed" (spRenamed K C)) (c_has_cells : Cal P w K mg base 5 "has_cells" (spHas K 3)) (c_is_still : Cal P w K mg base 1 "is_still" (spStill K))
    (c_place_of : Cal P w K mg base 1 "place_of" (spPlace K)) {k n : Nat} (hk : 5 ≤ k) (hn : n ≤ 3) (m_expression : Met P w K mg base k C "expression" fun vs H Q E => ∃ m, n = m + 1 ∧ spExpr K C m vs H Q E) :
    Met P w K mg base (k + 1) C "expression" (spExpr K C n) := by
  have S : FnScope ["self", "expression", "cells", "kind", "index", "slot", "first", "size"] ["self", "expression", "cells"] (defScope sTranslatorExpression) := ⟨rfl, rfl, rfl, by decide +kernel, rfl, by decide +kernel, by decide +kernel⟩
  have k1 : 1 ≤ k := Nat.le_trans (by decide) hk
  have k2 : 2 ≤ k := Nat.le_trans (by decide) hk
  refine met_mk c.cl F S (fun _ _ _ _ _ _ us hl => match us, hl with | [_, _, _], _ => rfl) (fun vs H Q E h => ?_) (fun f cdv A outer s H vs Q E hr h => ?_)
  · obtain ⟨N, nx, a, is, is', i, i', e, f, u, rfl, _⟩ := h
    rfl
  · obtain ⟨N, nx, a, is, is', i, i', e, f, u, rfl, t, dv, hd, htr, q⟩ := h
    obtain ⟨dx, hp⟩ := t.hp
    have hd3 : e.dep ≤ 3 := Nat.le_trans hd hn
    refine ⟨_, (pss_cons (ps_if (pt_not (pt_val (pe_c c_has_cells hr (pa_cons (pv 1) pa_nil) hk)))
  (pss_one (ps_ret (pe_mt m_renamed hr (pv 0) (pa_cons (pv 1) pa_nil) k1)))
  pss_nil)
  (pss_cons (ps_set (i := 3) S.nd rfl (Or.inl rfl) (pe_ix ix_tup (pv 1) pe_int (fun _ _ => rfl)))
  (pss_cons (ps_if (pt_cmpR op_eq (pv 3) pe_str (nomark _))
  (pss_cons (ps_set (i := 4) S.nd rfl (Or.inl rfl) (pe_mt m_expression hr (pv 0) (pa_cons (pe_ix ix_tup (pv 1) pe_int (fun _ _ => rfl)) (pa_cons (pv 2) pa_nil)) (Nat.le_refl _)))
  (pss_cons (ps_set (i := 5) S.nd rfl (Or.inl rfl) (pe_mt0 m_new_slot hr (pv 0) k1))
  (pss_cons (ps_asg (pe_c c_place_of hr (pa_cons (pv 2) (pa_cons (pe_ix ix_tup (pv 1) pe_int (fun _ _ => rfl)) pa_nil)) k1) (pg_tup rfl (pgs_cons (pg_name (i := 6) S.nd rfl (Or.inl rfl)) (pgs_cons (pg_name (i := 7) S.nd rfl (Or.inl rfl)) pgs_nil))))
  (pss_cons (ps_expr (pe_mt m_add hr (pv 0) (pa_cons (pe_tup (pa_cons pe_str (pa_cons (pv 5) (pa_cons (pv 6) (pa_cons (pv 7) (pa_cons (pv 4) pa_nil)))))) pa_nil) k1))
  (pss_one (ps_ret (pe_tup (pa_cons pe_str (pa_cons (pv 5) pa_nil)))))))))
  pss_nil)
  (pss_cons (ps_if (pt_cmpR op_in_seq (pv 3) (pe_tup (pa_cons pe_str (pa_cons pe_str pa_nil))) (by rfl))
  pss_never
  pss_nil)
  (pss_cons (ps_if (pt_cmpR op_in_seq (pv 3) (pe_tup (pa_cons pe_str (pa_cons pe_str pa_nil))) (by rfl))
  pss_never
  pss_nil)
  (pss_cons (ps_set (i := 6) S.nd rfl (Or.inl rfl) (pe_mt m_expression hr (pv 0) (pa_cons (pe_ix ix_tup (pv 1) pe_int (fun _ _ => rfl)) (pa_cons (pv 2) pa_nil)) (Nat.le_refl _)))
  (pss_cons (ps_if (PW.pt (pw_and (pt_val (pe_c c_has_cells hr (pa_cons (pe_ix ix_tup (pv 1) pe_int (fun _ _ => rfl)) pa_nil) hk)) (pw_and1 (pt_not (pt_val (pe_c c_is_still hr (pa_cons (pv 6) pa_nil) k1))))))
  (pss_one (ps_set (i := 6) S.nd rfl (Or.inl rfl) (pe_mt m_kept hr (pv 0) (pa_cons (pv 6) pa_nil) k2)))
  pss_nil)
  (pss_one (ps_ret (pe_tup (pa_cons (pv 3) (pa_cons (pv 6) (pa_cons (pe_mt m_expression hr (pv 0) (pa_cons (pe_ix ix_tup (pv 1) pe_int (fun _ _ => rfl)) (pa_cons (pv 2) pa_nil)) (Nat.le_refl _)) pa_nil))))))))))))), ?_⟩
    have hren : e.hc = false → (∃ f, ren nx e = some f ∧ trE nx N e is i = some (f, is, i)) → tRet (tMeth C "renamed" (spRenamed K C) [] E0 (tVar 0) (tCons (tVar 1) tNil)) { nx := fun _ H' => Q .non H', rt := Q } (start ["self", "expression", "cells", "kind", "index", "slot", "first", "size"] [V.ref a.p, u, V.ref a.ce]) H := by
      intro _ ⟨f', hf, hx⟩
      rw [hx] at htr
      cases htr
      refine s_retX (go_meth ev_v hp (fz_none (by decide +kernel)) (ea_cons ev_v ea_nil) fun H1 e1 => ?_)
      exact ⟨N, nx, a, _, _, e, f, u, rfl, t.grow e1, dv.mono e1, hf, fun v H2 e2 d2 => q v H2 (X2.of (Ex.trans e1 e2)) (t.grow (Ex.trans e1 e2)) d2⟩
    have dm := t.flat e.fl dv
    cases e with
    | num n' =>
      refine q_when (b := true) (et_not (et_has ev_v dv hd3)) (fun _ H1 e1 => ?_) (fun q => nomatch q)
      cases htr
      refine s_retX (go_meth ev_v (e1 _ _ hp) (fz_none (by decide +kernel)) (ea_cons ev_v ea_nil) fun H2 e2 => ?_)
      have e12 := Ex.trans e1 e2
      exact ⟨N, nx, a, _, _, .num n', _, u, rfl, t.grow e12, dv.mono e12, rfl, fun v H3 e3 d3 => q v H3 (X2.of (Ex.trans e12 e3)) (t.grow (Ex.trans e12 e3)) d3⟩
    | loc =>
      refine q_when (b := true) (et_not (et_has ev_v dv hd3)) (fun _ H1 e1 => ?_) (fun q => nomatch q)
      obtain ⟨f', hf, hx⟩ : ∃ f', ren nx .loc = some f' ∧ some (f', is, i) = some (f, is', i') := by
        unfold trE at htr
        split at htr
        · rename_i f' hf
          exact ⟨f', hf, htr⟩
        · cases htr
      cases hx
      refine s_retX (go_meth ev_v (e1 _ _ hp) (fz_none (by decide +kernel)) (ea_cons ev_v ea_nil) fun H2 e2 => ?_)
      have e12 := Ex.trans e1 e2
      exact ⟨N, nx, a, _, _, .loc, _, u, rfl, t.grow e12, dv.mono e12, hf, fun v H3 e3 d3 => q v H3 (X2.of (Ex.trans e12 e3)) (t.grow (Ex.trans e12 e3)) d3⟩
    | cell ei =>
      obtain ⟨m, rfl⟩ : ∃ m, n = m + 1 := by
        cases n with
        | zero => exact absurd hd (Nat.not_succ_le_zero _)
        | succ m => exact ⟨m, rfl⟩
      have hdi : ei.dep ≤ m := Nat.le_of_succ_le_succ hd
      obtain ⟨ix, is1, j1, is2, h1, h2, h3⟩ : ∃ ix is1 j1 is2, trE nx N ei is i = some (ix, is1, j1) ∧ addI is1 (.load j1 0 (N + 2) ix) = some is2 ∧ some (Fx.slot j1, is2, j1 + 1) = some (f, is', i') := by
        unfold trE at htr
        split at htr
        · rename_i ix is1 j1 h1
          split at htr
          · rename_i is2 h2
            exact ⟨ix, is1, j1, is2, h1, h2, htr⟩
          · cases htr
        · cases htr
      cases h3
      obtain ⟨hl1, rfl⟩ := addI_some h2
      obtain ⟨ax, xs, rfl, hs, r⟩ := dm.tup_inv
      obtain ⟨_, _, v2, rfl, d0, d1, d2⟩ := dvs3 r
      cases d0; cases d1
      refine q_when (b := false) (et_not (et_has ev_v dv hd3)) (fun q => nomatch q) fun _ H1 e1 => ?_
      refine q_asg (ev_ixt (j := 0) ev_v (sqX (X2.of e1) hs) rfl) fun H2 e2 => ?_
      refine q_when (b := true) (et_eqS ev_v ev_c) (fun _ H3 e3 => ?_) (fun q => nomatch q)
      have e13 := Ex.trans (Ex.trans e1 e2) e3
      refine q_asgX (go_meth ev_v (e13 _ _ hp) (fz_none (by decide +kernel)) (ea_cons (ev_ixt (j := 2) ev_v (sqX (X2.of e13) hs) rfl) (ea_cons ev_v ea_nil)) fun H4 e4 => ?_)
      have e14 := Ex.trans e13 e4
      refine ⟨m, rfl, N, nx, a, is, is1, i, j1, ei, ix, v2, rfl, t.grow e14, dvX (X2.of e14) d2, hdi, h1, fun v H5 x5 t5 d5 => ?_⟩
      have x15 := X2.trans (X2.of e14) x5
      dsimp only [gName]
      obtain ⟨dx5, hp5⟩ := t5.hp
      refine q_asgX (go_meth ev_v hp5 (fz_none (by decide +kernel)) ea_nil fun H6 e6 => ?_)
      refine ⟨N, nx, a, _, _, rfl, t5.grow e6, fun H7 x7 t7 => ?_⟩
      have x57 := X2.trans (X2.of e6) x7
      have x17 := X2.trans x15 x57
      dsimp only [gName]
      refine q_asgX (go_call (ea_cons ev_v (ea_cons (ev_ixt (j := 1) ev_v (sqX x17 hs) rfl) ea_nil)) fun H8 e8 => ?_)
      refine ⟨N, _, rfl, ((t7.grow e8).hce).mono mn_ex, fun pp H9 np e9 h9 => ?_⟩
      refine ⟨pp, _, rfl, sqT_of h9, rfl, ?_⟩
      refine ⟨_, _, rfl, _, _, rfl, rfl, ?_⟩
      have e79 := Ex.trans e8 e9
      have t9 := t7.grow e79
      have d9 : DV K H9 ix.toD v := ((t5.flat ix.fl d5).mono (X2.trans x57 (X2.of e79))).mono mn_ex
      refine q_callM (go_add c t9 ev_v (evd_tup (ds := [.str "load", .int j1, .int 0, .int (N + 2), ix.toD]) (evds_cons evd_str (evds_cons (evd_var (.int _)) (evds_cons (evd_var (.int _)) (evds_cons (evd_var (.int _)) (evds_cons (evd_var d9) evds_nil)))))) (d := (Ins.load j1 0 (N + 2) ix).toD) (Ins.fl _) (by rw [List.length_map]; exact hl1) (fun _ _ _ _ h => h) fun H10 x10 t10 => ?_)
      refine (evd_tup (ds := [.str "slot", .int j1]) (evds_cons evd_str (evds_cons (evd_var (.int _)) evds_nil))).go (K := K) fun v H11 e11 d11 => ?_
      refine q v H11 (X2.trans (X2.trans x17 (X2.of e79)) (X2.trans x10 (X2.of e11))) ?_ d11
      rw [map_add]
      exact t10.grow e11
    | bin o ea eb =>
      obtain ⟨m, rfl⟩ : ∃ m, n = m + 1 := by
        cases n with
        | zero => exact absurd hd (Nat.not_succ_le_zero _)
        | succ m => exact ⟨m, rfl⟩
      have hd' : max ea.dep eb.dep ≤ m := Nat.le_of_succ_le_succ hd
      have hda : ea.dep ≤ m := Nat.le_trans (Nat.le_max_left _ _) hd'
      have hdb : eb.dep ≤ m := Nat.le_trans (Nat.le_max_right _ _) hd'
      have hhc : (ea.hc || eb.hc) = true := by
        cases h : (ea.hc || eb.hc) with
        | true => rfl
        | false => unfold trE at htr; rw [h] at htr; cases htr
      unfold trE at htr
      rw [if_pos hhc] at htr
      obtain ⟨f1, is1, j1, h1, htr⟩ : ∃ f1 is1 j1, trE nx N ea is i = some (f1, is1, j1) ∧ _ := by
        split at htr
        · rename_i f1 is1 j1 h1
          exact ⟨f1, is1, j1, h1, htr⟩
        · cases htr
      obtain ⟨ax, xs, rfl, hs, r⟩ := dm.tup_inv
      obtain ⟨_, v1, v2, rfl, d0, d1, d2⟩ := dvs3 r
      cases d0
      have n1 : decide (o.s = "cell") = false := by cases o <;> decide +kernel
      refine q_when (b := false) (Evl.et_is (et_not (et_has ev_v dv hd3)) (by show (!(ea.hc || eb.hc)) = false; rw [hhc]; rfl)) (fun q => nomatch q) fun _ H1 e1 => ?_
      refine q_asg (ev_ixt (j := 0) ev_v (sqX (X2.of e1) hs) rfl) fun H2 e2 => ?_
      refine q_when (b := false) (et_eqS ev_v ev_c n1) (fun q => nomatch q) fun _ H3 e3 => ?_
      refine q_when (b := false) (et_test (Evl.ev_is (ev_inU ev_v (eu_tup (ea_cons ev_c (ea_cons ev_c ea_nil)) (by decide)) rfl rfl) (by cases o <;> decide +kernel))) (fun q => nomatch q) fun _ H4 e4 => ?_
      refine q_when (b := false) (et_test (Evl.ev_is (ev_inU ev_v (eu_tup (ea_cons ev_c (ea_cons ev_c ea_nil)) (by decide)) rfl rfl) (by cases o <;> decide +kernel))) (fun q => nomatch q) fun _ H5 e5 => ?_
      have e15 := Ex.trans (Ex.trans (Ex.trans (Ex.trans e1 e2) e3) e4) e5
      refine q_asgX (go_meth ev_v (e15 _ _ hp) (fz_none (by decide +kernel)) (ea_cons (ev_ixt (j := 1) ev_v (sqX (X2.of e15) hs) rfl) (ea_cons ev_v ea_nil)) fun H6 e6 => ?_)
      have e16 := Ex.trans e15 e6
      refine ⟨m, rfl, N, nx, a, is, is1, i, j1, ea, f1, v1, rfl, t.grow e16, dvX (X2.of e16) d1, hda, h1, fun vf H7 x7 t7 df => ?_⟩
      have x17 := X2.trans (X2.of e16) x7
      dsimp only [gName]
      have fin : ∀ (g1 : Fx) (isA : List Ins) (jA : Nat) (g2 : Fx) (vg : V) (H8 : Hp), trE nx N eb isA jA = some (g2, is', i') → X2 a.w H H8 → TrAt K C N nx H8 a (isA.map Ins.toD) jA → DV K H8 g1.toD vg → f = .bin o g1 g2 →
          tRet (tTup (tCons (tVar 3) (tCons (tVar 6) (tCons (tMeth C "expression" (fun vs H Q E => ∃ m', m + 1 = m' + 1 ∧ spExpr K C m' vs H Q E) [] E0 (tVar 0) (tCons (tOp (rIxT K) (tVar 1) (tC (.int 2))) (tCons (tVar 2) tNil))) tNil)))) { nx := fun _ H' => Q .non H', rt := Q }
            [some (.ref a.p), some (.ref ax), some (.ref a.ce), some (.str o.s), none, none, some vg, none] H8 := by
        intro g1 isA jA g2 vg H8 hB x8 t8 dg hf
        subst hf
        obtain ⟨dx8, hp8⟩ := t8.hp
        refine s_retX ?_
        refine ⟨_, rfl, _, rfl, ?_⟩
        refine go_meth ev_v hp8 (fz_none (by decide +kernel)) (ea_cons (ev_ixt (j := 2) ev_v (sqX x8 hs) rfl) (ea_cons ev_v ea_nil)) fun H9 e9 => ?_
        have x9 := X2.trans x8 (X2.of e9)
        refine ⟨m, rfl, N, nx, a, isA, is', jA, i', eb, g2, v2, rfl, t8.grow e9, dvX x9 d2, hdb, hB, fun vb H10 x10 t10 db => ?_⟩
        refine ⟨sz1000 rfl, fun p np => ?_⟩
        have dg10 : DV K H10 g1.toD vg := ((t8.flat g1.fl dg).mono (X2.trans (X2.of e9) x10)).mono mn_ex
        refine q (.ref p) _ (X2.trans x9 (X2.trans x10 (X2.of (Ex.new np)))) (t10.grow (Ex.new np)) ?_
        exact .tup (sqT_of upd_same) (.cons (.str _) (.cons (dg10.mono (Same.new np)) (.cons (db.mono (Same.new np)) .nil)))
      by_cases hke : (eb.hc && !f1.still) = true
      · rw [if_pos hke] at htr
        obtain ⟨is2, f2, is3, j3, h2, h3, h4⟩ : ∃ is2 f2 is3 j3, addI is1 (.set j1 f1) = some is2 ∧ trE nx N eb is2 (j1 + 1) = some (f2, is3, j3) ∧ some (Fx.bin o (.slot j1) f2, is3, j3) = some (f, is', i') := by
          split at htr
          · rename_i is2 h2
            split at htr
            · rename_i f2 is3 j3 h3
              exact ⟨is2, f2, is3, j3, h2, h3, htr⟩
            · cases htr
          · cases htr
        cases h4
        obtain ⟨hl1, rfl⟩ := addI_some h2
        refine q_when (b := true) ?_ (fun _ H8 e8 => ?_) (fun q => nomatch q)
        · have hb : eb.hc = true := (Bool.and_eq_true_iff.mp hke).1
          have hs2 : (!f1.still) = true := (Bool.and_eq_true_iff.mp hke).2
          exact Evl.et_is (et_and (a := eb.hc) (b := !f1.still) (et_has (ev_ixt (j := 2) ev_v (sqX x17 hs) rfl) (dvX x17 d2) (Nat.le_trans hdb (Nat.le_trans (Nat.le_succ _) hn))) fun _ => et_not (et_still ev_v df)) hke
        · have t8 := t7.grow e8
          obtain ⟨dx8, hp8⟩ := t8.hp
          refine s_asgX (go_meth ev_v hp8 (fz_none (by decide +kernel)) (ea_cons ev_v ea_nil) fun H9 e9 => ?_)
          refine ⟨N, nx, a, _, _, f1, vf, rfl, t8.grow e9, (df.mono e8).mono e9, by rw [List.length_map]; exact hl1, fun vk H10 x10 t10 dk => ?_⟩
          rw [← map_add] at t10
          exact fin (.slot j1) _ _ f2 vk H10 h3 (X2.trans (X2.trans x17 (X2.of (Ex.trans e8 e9))) x10) t10 dk rfl
      · rw [if_neg hke] at htr
        obtain ⟨f2, is3, j3, h3, h4⟩ : ∃ f2 is3 j3, trE nx N eb is1 j1 = some (f2, is3, j3) ∧ some (Fx.bin o f1 f2, is3, j3) = some (f, is', i') := by
          split at htr
          · rename_i f2 is3 j3 h3
            exact ⟨f2, is3, j3, h3, htr⟩
          · cases htr
        cases h4
        refine q_when (b := false) ?_ (fun q => nomatch q) fun _ H8 e8 => ?_
        · have hke' : (eb.hc && !f1.still) = false := by cases h : (eb.hc && !f1.still) with | true => exact absurd h hke | false => rfl
          exact Evl.et_is (et_and (a := eb.hc) (b := !f1.still) (et_has (ev_ixt (j := 2) ev_v (sqX x17 hs) rfl) (dvX x17 d2) (Nat.le_trans hdb (Nat.le_trans (Nat.le_succ _) hn))) fun _ => et_not (et_still ev_v df)) hke'
        · exact fin f1 _ _ f2 vf H8 h3 (X2.trans x17 (X2.of e8)) (t7.grow e8) (df.mono e8) rfl
theorem met_no {m qual : Str} {st : Stmt} {N ps : List Str} (c : Cls K C) (F : MethAt K C m qual st) (S : FnScope N ps (defScope st)) (bd : ∀ (kV doc pm : Value) (an : Option Addr) (cdv ct : Value) (us : List Value), us.length = ps.length → bindArgs (PySem.W.fnOf m qual (defArgs st) (defBody st) (defScope st) .none kV doc pm an cdv ct) ⟨us, []⟩ = pure (ps.zip us)) :
    Met P w K mg base 1 C m fun _ _ _ _ => False := met_mk c F S bd (fun vs H Q E h => h.elim) (fun f cdv A outer s H vs Q E hr h => h.elim)
theorem Met.imp {k : Nat} {m : Str} {sp sp' : Sp} (c : Met P w K mg base k C m sp) (h : ∀ vs H Q E, sp' vs H Q E → sp vs H Q E) : Met P w K mg base k C m sp' := by
  obtain ⟨f, fd, ps, c1, c2, F, r⟩ := c.ex
  exact ⟨f, fd, ps, c1, c2, F.imp h, r⟩
theorem Met.up {k j : Nat} {m : Str} {sp : Sp} (c : Met P w K mg base k C m sp) (h : k ≤ j) : Met P w K mg base j C m sp := by
  obtain ⟨f, fd, ps, c1, c2, F, r⟩ := c.ex
  exact ⟨f, fd, ps, c1, c2, F.mono h, r⟩
theorem ok_expr (T : Tx K mg aR) (c : ClsF K C ksT) (F : MethAt K C "expression" "Translator.expression" sTranslatorExpression) (m_add : Met P w K mg base 1 C "add" (spAdd K C)) (m_new_slot : Met P w K mg base 1 C "new_slot" (spNewSlot K C))
    (m_kept : Met P w K mg base 2 C "kept" (spKept K C)) (m_renamed : Met P w K mg base 1 C "renamed" (spRenamed K C)) (c_has_cells : Cal P w K mg base 5 "has_cells" (spHas K 3)) (c_is_still : Cal P w K mg base 1 "is_still" (spStill K))
    (c_place_of : Cal P w K mg base 1 "place_of" (spPlace K)) (n : Nat) (hn : n ≤ 3) : Met P w K mg base (n + 6) C "expression" (spExpr K C n) := by
  induction n with
  | zero =>
    refine ok_expr0 T c F m_add m_new_slot m_kept m_renamed c_has_cells c_is_still c_place_of (k := 5) (Nat.le_refl _) hn ?_
    have S : FnScope ["self", "expression", "cells", "kind", "index", "slot", "first", "size"] ["self", "expression", "cells"] (defScope sTranslatorExpression) := ⟨rfl, rfl, rfl, by decide +kernel, rfl, by decide +kernel, by decide +kernel⟩
    exact ((met_no c.cl F S (fun _ _ _ _ _ _ us hl => match us, hl with | [_, _, _], _ => rfl)).imp fun vs H Q E h => by obtain ⟨m, h, _⟩ := h; cases h).up (by decide)
  | succ n ih =>
    refine ok_expr0 T c F m_add m_new_slot m_kept m_renamed c_has_cells c_is_still c_place_of (k := n + 6) (by omega) hn ?_
    exact (ih (by omega)).imp fun vs H Q E h => by obtain ⟨m, h, q⟩ := h; cases h; exact q
end
end HK


set_option maxRecDepth 100000
set_option maxHeartbeats 4000000
/-! F4: the BlockTranslator: put, branches, statement, statements. -/
namespace HK
open PySem PySem.Spec PyProof.Rows L2
open Evl (Ex Ev EvT EvA EvL EvU RetV ev_var ev_c ev_op ev_un ea_nil ea_cons et_test et_B et_and et_or et_not ev_call ev_cb rv_I0 rv_I rv_eq rv_ixL rv_ixT ev_inU ev_niU eu_tup el_lst ev_len el_list q_when q_if q_asg q_drop s_asg s_ret s_if s_drop)
inductive St where
  | iff (c : Sx)
  | put (i e : Sx)
  | set (e : Sx)
  | retry
def St.toD : St → D
  | .iff c => dRetryIf c.toD
  | .put i e => .tup [.str "put", .str "c", i.toD, e.toD]
  | .set e => .tup [.str "set", .str "x", e.toD]
  | .retry => dRetry
def St.dep : St → Nat
  | .iff c => c.dep
  | .put i e => max i.dep e.dep
  | .set e => e.dep
  | .retry => 0
def addIs (is : List Ins) (l : List Ins) : Option (List Ins) := if is.length + l.length < 1000 then some (is ++ l) else none
def trS (nx : Bool) (N : Int) : St → List Ins → Nat → Option (List Ins × Nat)
  | .retry, is, k => match addI is .retry with
    | some is1 => some (is1, k)
    | none => none
  | .set e, is, k => match trE nx N e is k with
    | some (f, is1, k1) => if nx = true then match addI is1 (.set 0 f) with
        | some is2 => some (is2, k1)
        | none => none
      else none
    | none => none
  | .put i e, is, k => match trE nx N i is k with
    | some (fi, is1, k1) => if (e.hc && !fi.still) = true then none else match trE nx N e is1 k1 with
      | some (fe, is2, k2) => match addI is2 (.put 0 (N + 2) fi fe) with
        | some is3 => some (is3, k2)
        | none => none
      | none => none
    | none => none
  | .iff c, is, k => match trE nx N c is k with
    | some (f, is1, k1) => match addIs is1 [.unl f (is1.length + 3), .retry, .jump (is1.length + 3)] with
      | some is2 => some (is2, k1)
      | none => none
    | none => none
def trSs (nx : Bool) (N : Int) : List St → List Ins → Nat → Option (List Ins × Nat)
  | [], is, k => some (is, k)
  | s :: r, is, k => match trS nx N s is k with
    | some (is1, k1) => trSs nx N r is1 k1
    | none => none
def spStmt (K : PySem.W.Frag) (C : Addr) (ok : St → Prop) : Sp := fun vs H Q _ => ∃ (N : Int) (nx : Bool) (a : TrA) (is is' : List Ins) (k k' : Nat) (s : St) (u : V), vs = [.ref a.p, u] ∧ TrAt K C N nx H a (is.map Ins.toD) k ∧ DV K (mn H a.w) s.toD u ∧ s.dep ≤ 3 ∧ ok s ∧
  trS nx N s is k = some (is', k') ∧ ∀ H', X2 a.w H H' → TrAt K C N nx H' a (is'.map Ins.toD) k' → Q .non H'
def spStmts (K : PySem.W.Frag) (C : Addr) (ok : St → Prop) : Sp := fun vs H Q _ => ∃ (N : Int) (nx : Bool) (a : TrA) (is is' : List Ins) (k k' : Nat) (ss : List St) (u : V), vs = [.ref a.p, u] ∧ TrAt K C N nx H a (is.map Ins.toD) k ∧ DV K (mn H a.w) (.lst (ss.map St.toD)) u ∧ (∀ s ∈ ss, s.dep ≤ 3 ∧ ok s) ∧
  trSs nx N ss is k = some (is', k') ∧ ∀ H', X2 a.w H H' → TrAt K C N nx H' a (is'.map Ins.toD) k' → Q .non H'
def spBranches (K : PySem.W.Frag) (C : Addr) : Sp := fun vs H Q _ => ∃ (N : Int) (nx : Bool) (a : TrA) (is is' : List Ins) (k : Nat) (f : Fx) (u v1 v2 : V), vs = [.ref a.p, u, v1, v2] ∧ TrAt K C N nx H a (is.map Ins.toD) k ∧ DV K (mn H a.w) f.toD u ∧ DV K (mn H a.w) (.lst [dRetry]) v1 ∧ DV K (mn H a.w) (.lst []) v2 ∧
  addIs is [.unl f (is.length + 3), .retry, .jump (is.length + 3)] = some is' ∧ ∀ H', X2 a.w H H' → TrAt K C N nx H' a (is'.map Ins.toD) k → Q .non H'
theorem DVs.set {K : PySem.W.Frag} {H : Hp} {d : D} {v : V} (h : DV K H d v) : ∀ {ds : List D} {vs : List V} {j : Nat}, DVs K H ds vs → DVs K H (ds.set j d) (vs.set j v)
  | _, _, _, .nil => .nil
  | _, _, 0, .cons _ r => .cons h r
  | _, _, j + 1, .cons g r => .cons g (DVs.set h r)
/-- self.code[j] = d -/
theorem g_code {K : PySem.W.Frag} {C : Addr} {N : Int} {nx : Bool} {H : Hp} {a : TrA} {ds : List D} {cnt j : Nat} {d : D} {u : V} {σ : L2.St} {ta ti : TE} {R : L2.St → Hp → Prop} (c : ClsF K C ksT) (t : TrAt K C N nx H a ds cnt) (dv : DV K (mn H a.w) d u)
    (hta : Ev ta σ H (.ref a.p)) (hti : Ev ti σ H (.int (j : Int))) (hj : j < ds.length) (k : ∀ H', X2 a.w H H' → TrAt K C N nx H' a (ds.set j d) cnt → R σ H') : gSub (tFld K ta "code") ti rSetL u σ H R := by
  obtain ⟨dx, hp⟩ := t.hp
  obtain ⟨cv, hcv, r⟩ := t.hc
  have hE : Ev (tFld K ta "code") σ H (.ref a.c) := ev_fz (i := 1) hta hp c rfl
  refine hE H (Ex.refl _) _ fun H1 e1 => hti H1 e1 _ fun H2 e2 => ?_
  have e12 := Ex.trans e1 e2
  refine ⟨a.c, cv, (j : Int), j, rfl, rfl, e12 _ _ hcv, Evl.ixN_nat (by rw [← r.length]; exact hj), ?_⟩
  have b : ExB a.c H (upd H2 a.c (.lst (cv.set j u))) := ExB.upd e12
  exact k _ (X2.ofC b) (t.set_c b upd_same (r.set dv))
abbrev sTranslatorStatements : Stmt := inClass (top 26) 7
abbrev sTranslatorBranches : Stmt := inClass (top 26) 9
abbrev sBlockTranslatorStatement : Stmt := inClass (top 27) 1
abbrev sBlockTranslatorPut : Stmt := inClass (top 27) 2
section
variable {P : Program} {w : World} {K : PySem.W.Frag} {mg : Str → Option Value} {base : Heap} {aR C : Addr}
theorem ok_bput (T : Tx K mg aR) (c : ClsF K C ksT) (F : MethAt K C "put" "BlockTranslator.put" sBlockTranslatorPut) (m_add : Met P w K mg base 1 C "add" (spAdd K C)) (m_kept : Met P w K mg base 2 C "kept" (spKept K C)) (m_expression : Met P w K mg base 9 C "expression" (spExpr K C 3))
    (c_has_cells : Cal P w K mg base 5 "has_cells" (spHas K 3)) (c_is_still : Cal P w K mg base 1 "is_still" (spStill K)) (c_place_of : Cal P w K mg base 1 "place_of" (spPlace K)) :
    Met P w K mg base 10 C "put" (spStmt K C fun s => ∃ i e, s = .put i e) := by
  have S : FnScope ["self", "statement", "index", "value", "first", "size"] ["self", "statement"] (defScope sBlockTranslatorPut) := ⟨rfl, rfl, rfl, by decide +kernel, rfl, by decide +kernel, by decide +kernel⟩
  refine met_mk c.cl F S (fun _ _ _ _ _ _ us hl => match us, hl with | [_, _], _ => rfl) (fun vs H Q E h => ?_) (fun f cdv A outer s H vs Q E hr h => ?_)
  · obtain ⟨N, nx, a, is, is', i, i', e, u, rfl, _⟩ := h
    rfl
  · obtain ⟨N, nx, a, is, is', i, i', _, u, rfl, t, dm, hd, ⟨ei, ee, rfl⟩, htr, q⟩ := h
    obtain ⟨dx, hp⟩ := t.hp
    have hd1 : ei.dep ≤ 3 := Nat.le_trans (Nat.le_max_left _ _) hd
    have hd2 : ee.dep ≤ 3 := Nat.le_trans (Nat.le_max_right _ _) hd
    obtain ⟨fi, is1, k1, fe, is2, k2, h1, hst, h2, h3⟩ : ∃ fi is1 k1 fe is2 k2, trE nx N ei is i = some (fi, is1, k1) ∧ (ee.hc && !fi.still) = false ∧ trE nx N ee is1 k1 = some (fe, is2, k2) ∧ ∃ is3, addI is2 (.put 0 (N + 2) fi fe) = some is3 ∧ some (is3, k2) = some (is', i') := by
      dsimp only [trS] at htr
      split at htr
      · rename_i fi is1 k1 h1
        split at htr
        · cases htr
        · rename_i hst
          split at htr
          · rename_i fe is2 k2 h2
            split at htr
            · rename_i is3 h3
              exact ⟨fi, is1, k1, fe, is2, k2, h1, by cases h : (ee.hc && !fi.still) with | true => exact absurd h hst | false => rfl, h2, is3, h3, htr⟩
            · cases htr
          · cases htr
      · cases htr
    obtain ⟨is3, h3, h4⟩ := h3
    cases h4
    obtain ⟨hl, rfl⟩ := addI_some h3
    obtain ⟨ax, xs, rfl, hs, r⟩ := dm.tup_inv
    obtain ⟨_, _, v1, v2, rfl, d0, d1, d2, d3⟩ := dvs4 r
    cases d0; cases d1
    refine ⟨_, (pss_cons (ps_set (i := 2) S.nd rfl (Or.inl rfl) (pe_mt m_expression hr (pv 0) (pa_cons (pe_ix ix_tup (pv 1) pe_int (fun _ _ => rfl)) (pa_cons (pe_fld (pv 0) rfl) pa_nil))))
  (pss_cons (ps_if (PW.pt (pw_and (pt_val (pe_c c_has_cells hr (pa_cons (pe_ix ix_tup (pv 1) pe_int (fun _ _ => rfl)) pa_nil))) (pw_and1 (pt_not (pt_val (pe_c c_is_still hr (pa_cons (pv 2) pa_nil)))))))
  (pss_one (ps_set (i := 2) S.nd rfl (Or.inl rfl) (pe_mt m_kept hr (pv 0) (pa_cons (pv 2) pa_nil))))
  pss_nil)
  (pss_cons (ps_set (i := 3) S.nd rfl (Or.inl rfl) (pe_mt m_expression hr (pv 0) (pa_cons (pe_ix ix_tup (pv 1) pe_int (fun _ _ => rfl)) (pa_cons (pe_fld (pv 0) rfl) pa_nil))))
  (pss_cons (ps_asg (pe_c c_place_of hr (pa_cons (pe_fld (pv 0) rfl) (pa_cons (pe_ix ix_tup (pv 1) pe_int (fun _ _ => rfl)) pa_nil))) (pg_tup rfl (pgs_cons (pg_name (i := 4) S.nd rfl (Or.inl rfl)) (pgs_cons (pg_name (i := 5) S.nd rfl (Or.inl rfl)) pgs_nil))))
  (pss_one (ps_expr (pe_mt m_add hr (pv 0) (pa_cons (pe_tup (pa_cons pe_str (pa_cons (pv 4) (pa_cons (pv 5) (pa_cons (pv 2) (pa_cons (pv 3) pa_nil)))))) pa_nil)))))))), ?_⟩
    refine q_asgX (go_meth ev_v hp (fz_none (by decide +kernel)) (ea_cons (ev_ixt (j := 2) ev_v (sqX X2.refl hs) rfl) (ea_cons (ev_fz (i := 3) ev_v hp c rfl) ea_nil)) fun H1 e1 => ?_)
    refine ⟨N, nx, a, is, is1, i, k1, ei, fi, v1, rfl, t.grow e1, dvX (X2.of e1) d2, hd1, h1, fun vi H2 x2 t2 di => ?_⟩
    have x12 := X2.trans (X2.of e1) x2
    dsimp only [gName]
    refine q_when (b := false) ?_ (fun q => nomatch q) fun _ H3 e3 => ?_
    · exact Evl.et_is (et_and (a := ee.hc) (b := !fi.still) (et_has (ev_ixt (j := 3) ev_v (sqX x12 hs) rfl) (dvX x12 d3) hd2) fun _ => et_not (et_still ev_v di)) hst
    have x13 := X2.trans x12 (X2.of e3)
    have t3 := t2.grow e3
    obtain ⟨dx3, hp3⟩ := t3.hp
    refine q_asgX (go_meth ev_v hp3 (fz_none (by decide +kernel)) (ea_cons (ev_ixt (j := 3) ev_v (sqX x13 hs) rfl) (ea_cons (ev_fz (i := 3) ev_v hp3 c rfl) ea_nil)) fun H4 e4 => ?_)
    have x14 := X2.trans x13 (X2.of e4)
    refine ⟨N, nx, a, is1, is2, k1, _, ee, fe, v2, rfl, t3.grow e4, dvX x14 d3, hd2, h2, fun ve H5 x5 t5 de => ?_⟩
    have x15 := X2.trans x14 x5
    dsimp only [gName]
    obtain ⟨dx5, hp5⟩ := t5.hp
    refine q_asgX (go_call (ea_cons (ev_fz (i := 3) ev_v hp5 c rfl) (ea_cons (ev_ixt (j := 1) ev_v (sqX x15 hs) rfl) ea_nil)) fun H8 e8 => ?_)
    refine ⟨N, _, rfl, ((t5.grow e8).hce).mono mn_ex, fun pp H9 np e9 h9 => ?_⟩
    refine ⟨pp, _, rfl, sqT_of h9, rfl, ?_⟩
    refine ⟨_, _, rfl, _, _, rfl, rfl, ?_⟩
    have e59 := Ex.trans e8 e9
    have t9 := t5.grow e59
    have di9 : DV K H9 fi.toD vi := ((t2.flat fi.fl di).mono (X2.trans (X2.trans (X2.of e3) (X2.of e4)) (X2.trans x5 (X2.of e59)))).mono mn_ex
    have de9 : DV K H9 fe.toD ve := de.mono e59
    refine s_dropM (go_add c t9 ev_v (evd_tup (ds := [.str "put", .int 0, .int (N + 2), fi.toD, fe.toD]) (evds_cons evd_str (evds_cons (evd_var (.int _)) (evds_cons (evd_var (.int _)) (evds_cons (evd_var di9) (evds_cons (evd_var de9) evds_nil)))))) (d := (Ins.put 0 (N + 2) fi fe).toD) (Ins.fl _) (by rw [List.length_map]; exact hl) (fun _ _ _ _ h => h) fun H10 x10 t10 => ?_)
    rw [← map_add] at t10
    exact q H10 (X2.trans (X2.trans x15 (X2.of e59)) x10) t10
theorem ok_stmts (T : Tx K mg aR) (c : ClsF K C ksT) (F : MethAt K C "statements" "Translator.statements" sTranslatorStatements) {k : Nat} {ok : St → Prop} (m_statement : Met P w K mg base k C "statement" (spStmt K C ok)) : Met P w K mg base (k + 1) C "statements" (spStmts K C ok) := by
  have S : FnScope ["self", "body", "statement"] ["self", "body"] (defScope sTranslatorStatements) := ⟨rfl, rfl, rfl, by decide +kernel, rfl, by decide +kernel, by decide +kernel⟩
  refine met_mk c.cl F S (fun _ _ _ _ _ _ us hl => match us, hl with | [_, _], _ => rfl) (fun vs H Q E h => ?_) (fun f cdv A outer s H vs Q E hr h => ?_)
  · obtain ⟨N, nx, a, is, is', i, i', e, u, rfl, _⟩ := h
    rfl
  · obtain ⟨N, nx, a, is, is', i, i', ss, u, rfl, t, dm, hok, htr, q⟩ := h
    refine ⟨_, (pss_one (ps_for PassesOwn.never rfl (pi_list (pv 1)) (pg_name (i := 2) S.nd rfl (Or.inl rfl))
  (pss_one (ps_expr (pe_mt m_statement hr (pv 0) (pa_cons (pv 2) pa_nil) (Nat.le_refl _)))))), ?_⟩
    obtain ⟨al, xs, rfl, hl, r⟩ := dm.lst_inv
    have hlen : xs.length = ss.length := by rw [← r.length, List.length_map]
    refine Evl.s_forLn ev_v (sqL_of (mn_ex _ _ hl)) (fun j σ2 H2 => X2 a.w H H2 ∧ ∃ v1 isj kj, σ2 = [some (.ref a.p), some (.ref al), v1] ∧ TrAt K C N nx H2 a (isj.map Ins.toD) kj ∧ trSs nx N (ss.drop j) isj kj = some (is', i'))
      (fun H2 e2 => ⟨X2.of e2, none, is, i, rfl, t.grow e2, htr⟩) (fun j σ2 H2 _ h2 => sqL_of (mn_ex _ _ (h2.1 _ _ hl))) (fun j x σ2 H2 hx h2 => ?_) (fun σ2 H2 h2 => ?_)
    · obtain ⟨x2, v1, isj, kj, rfl, tj, hj⟩ := h2
      have hjl : j < ss.length := by rw [← hlen]; exact (List.getElem?_eq_some_iff.mp hx).1
      have hdj : ss.drop j = ss[j] :: ss.drop (j + 1) := List.drop_eq_getElem_cons hjl
      rw [hdj] at hj
      obtain ⟨is1, k1, h1, hj⟩ : ∃ is1 k1, trS nx N ss[j] isj kj = some (is1, k1) ∧ trSs nx N (ss.drop (j + 1)) is1 k1 = some (is', i') := by
        unfold trSs at hj
        split at hj
        · rename_i is1 k1 h1
          exact ⟨is1, k1, h1, hj⟩
        · cases hj
      obtain ⟨y, hy, dy⟩ := DVs.map_at r (List.getElem?_eq_getElem hjl)
      rw [hx] at hy
      cases hy
      obtain ⟨dx, hp⟩ := tj.hp
      refine s_dropM (go_meth ev_v hp (fz_none (by decide +kernel)) (ea_cons ev_v ea_nil) fun H3 e3 => ?_)
      have ho := hok ss[j] (List.getElem_mem hjl)
      exact ⟨N, nx, a, isj, is1, kj, k1, ss[j], x, rfl, tj.grow e3, dy.mono (X2.trans x2 (X2.of e3)), ho.1, ho.2, h1, fun H4 x4 t4 => ⟨X2.trans (X2.trans x2 (X2.of e3)) x4, _, is1, k1, rfl, t4, hj⟩⟩
    · obtain ⟨x2, v1, isj, kj, rfl, tj, hj⟩ := h2
      rw [hlen, List.drop_length] at hj
      cases hj
      exact q H2 x2 tj
theorem ok_branches (T : Tx K mg aR) (c : ClsF K C ksT) (F : MethAt K C "branches" "Translator.branches" sTranslatorBranches) (m_add : Met P w K mg base 1 C "add" (spAdd K C)) {k : Nat} {ok : St → Prop} (hk : 1 ≤ k) (hok : ok .retry) (m_statements : Met P w K mg base k C "statements" (spStmts K C ok)) : Met P w K mg base (k + 1) C "branches" (spBranches K C) := by
  have S : FnScope ["self", "condition", "first", "second", "jump", "over"] ["self", "condition", "first", "second"] (defScope sTranslatorBranches) := ⟨rfl, rfl, rfl, by decide +kernel, rfl, by decide +kernel, by decide +kernel⟩
  refine met_mk c.cl F S (fun _ _ _ _ _ _ us hl => match us, hl with | [_, _, _, _], _ => rfl) (fun vs H Q E h => ?_) (fun f cdv A outer s H vs Q E hr h => ?_)
  · obtain ⟨N, nx, a, is, is', i, e, u, v1, v2, rfl, _⟩ := h
    rfl
  · obtain ⟨N, nx, a, is, is', i, e, u, v1, v2, rfl, t, du, d1, d2, htr, q⟩ := h
    obtain ⟨hlen, rfl⟩ : is.length + 3 < 1000 ∧ is' = is ++ [.unl e (is.length + 3), .retry, .jump (is.length + 3)] := by
      unfold addIs at htr
      split at htr
      · rename_i h
        exact ⟨h, (Option.some.inj htr).symm⟩
      · cases htr
    refine ⟨_, (pss_cons (ps_set (i := 4) S.nd rfl (Or.inl rfl) (pe_mt m_add hr (pv 0) (pa_cons (pe_tup (pa_cons pe_str (pa_cons (pv 1) (pa_cons pe_int pa_nil)))) pa_nil) hk))
  (pss_cons (ps_expr (pe_mt m_statements hr (pv 0) (pa_cons (pv 2) pa_nil) (Nat.le_refl _)))
  (pss_cons (ps_set (i := 5) S.nd rfl (Or.inl rfl) (pe_mt m_add hr (pv 0) (pa_cons (pe_tup (pa_cons pe_str (pa_cons pe_int pa_nil))) pa_nil) hk))
  (pss_cons (ps_asg (pe_tup (pa_cons pe_str (pa_cons (pv 1) (pa_cons (pe_callB call_len_seq (by rfl) T.b.len (by decide +kernel) (pa_cons (pe_fld (pv 0) rfl) pa_nil)) pa_nil)))) (pg_sub (pe_fld (pv 0) rfl) (pv 4) set_list))
  (pss_cons (ps_expr (pe_mt m_statements hr (pv 0) (pa_cons (pv 3) pa_nil) (Nat.le_refl _)))
  (pss_one (ps_asg (pe_tup (pa_cons pe_str (pa_cons (pe_callB call_len_seq (by rfl) T.b.len (by decide +kernel) (pa_cons (pe_fld (pv 0) rfl) pa_nil)) pa_nil))) (pg_sub (pe_fld (pv 0) rfl) (pv 5) set_list)))))))), ?_⟩
    have hml : (is.map Ins.toD).length = is.length := List.length_map _
    refine q_asgX (go_add c t ev_v (evd_tup (ds := [.str "unless", e.toD, .int 0]) (evds_cons evd_str (evds_cons (evd_var (du.mono mn_ex)) (evds_cons evd_int evds_nil)))) (d := (Ins.unl e 0).toD) (Ins.fl _) (by omega) (fun _ _ _ _ h => h) fun H1 x1 t1 => ?_)
    dsimp only [gName]
    rw [← map_add] at t1
    obtain ⟨dx1, hp1⟩ := t1.hp
    refine q_callM (go_meth ev_v hp1 (fz_none (by decide +kernel)) (ea_cons ev_v ea_nil) fun H2 e2 => ?_)
    refine ⟨N, nx, a, is ++ [.unl e 0], is ++ [.unl e 0] ++ [.retry], i, i, [.retry], v1, rfl, t1.grow e2, d1.mono (X2.trans x1 (X2.of e2)), fun s hs => by cases List.mem_singleton.mp hs; exact ⟨by decide, hok⟩, ?_, fun H3 x3 t3 => ?_⟩
    · have : addI (is ++ [.unl e 0]) .retry = some (is ++ [.unl e 0] ++ [.retry]) := by
        unfold addI
        rw [if_pos (by rw [List.length_append, List.length_singleton]; omega)]
      dsimp only [trSs, trS]
      rw [this]
    have x13 := X2.trans x1 (X2.trans (X2.of e2) x3)
    refine q_asgX (go_add c t3 ev_v (evd_tup (ds := [.str "jump", .int 0]) (evds_cons evd_str (evds_cons evd_int evds_nil))) (d := (Ins.jump 0).toD) (Ins.fl _) (by rw [List.length_map, List.length_append, List.length_append, List.length_singleton, List.length_singleton]; omega) (fun _ _ _ _ h => h) fun H4 x4 t4 => ?_)
    dsimp only [gName]
    rw [← map_add] at t4
    have x14 := X2.trans x13 x4
    have e1 : (((is ++ [Ins.unl e 0] ++ [Ins.retry]).map Ins.toD).length : Int) = ((is.length + 2 : Nat) : Int) := by simp
    have e0 : ((is.map Ins.toD).length : Int) = (is.length : Int) := by rw [hml]
    have eL : is ++ [Ins.unl e 0] ++ [Ins.retry] ++ [Ins.jump 0] = is ++ [Ins.unl e 0, Ins.retry, Ins.jump 0] := by simp
    rw [e1, e0]
    rw [eL] at t4
    have t4' := t4
    obtain ⟨dx4, hp4⟩ := t4.hp
    obtain ⟨cv4, hc4, r4⟩ := t4.hc
    have hl4 : cv4.length = is.length + 3 := by rw [← r4.length]; simp
    have hln : ∀ {σ : L2.St} {H5 : Hp} {js : List Ins} (t5 : TrAt K C N nx H5 a (js.map Ins.toD) i) (hσ : σ[0]? = some (some (.ref a.p))), Ev (tCB (fun xs H Q => ∃ p ys, xs = [.ref p] ∧ (SqL K H p ys ∨ SqT K H p ys) ∧ Q (.int ys.length) H) (tCons (tFld K (tVar 0) "code") tNil)) σ H5 (.int (js.length : Int)) := fun {σ H5 js} t5 hσ => by
      obtain ⟨dx5, hp5⟩ := t5.hp
      obtain ⟨cv5, hc5, r5⟩ := t5.hc
      have hl5 : cv5.length = js.length := by rw [← r5.length, List.length_map]
      rw [← hl5]
      exact ev_lenl (ev_fz (i := 1) (ev_v hσ) hp5 c rfl) (sqL_of hc5)
    have du4 : DV K H4 e.toD u := dvX x14 du
    refine q_asgX ((evd_tup (ds := [.str "unless", e.toD, .int ((is.length : Int) + 3)]) (evds_cons evd_str (evds_cons (evd_var du4) (evds_cons (evd_ev (Evl.ev_is (hln t4 rfl) (by simp)) (.int _)) evds_nil)))).go (K := K) fun u5 H5 e5 d5 => ?_)
    have t5 := t4.grow e5
    refine g_code c t5 (t5.flat (Ins.fl (.unl e (is.length + 3))) d5) ev_v (j := is.length) ev_v (by simp) fun H6 x6 t6 => ?_
    have eL6 : ((is ++ [Ins.unl e 0, Ins.retry, Ins.jump 0]).map Ins.toD).set is.length (Ins.unl e (is.length + 3)).toD = (is ++ [Ins.unl e (is.length + 3), Ins.retry, Ins.jump 0]).map Ins.toD := by
      rw [List.map_append, List.map_append, List.set_append_right _ _ (by simp)]
      simp
    rw [eL6] at t6
    have x16 := X2.trans x14 (X2.trans (X2.of e5) x6)
    obtain ⟨dx6, hp6⟩ := t6.hp
    refine q_callM (go_meth ev_v hp6 (fz_none (by decide +kernel)) (ea_cons ev_v ea_nil) fun H7 e7 => ?_)
    refine ⟨N, nx, a, _, _, i, i, [], v2, rfl, t6.grow e7, d2.mono (X2.trans x16 (X2.of e7)), fun s hs => by simp at hs, rfl, fun H8 x8 t8 => ?_⟩
    have x18 := X2.trans x16 (X2.trans (X2.of e7) x8)
    refine s_asgX ((evd_tup (ds := [.str "jump", .int ((is.length : Int) + 3)]) (evds_cons evd_str (evds_cons (evd_ev (Evl.ev_is (hln t8 rfl) (by simp)) (.int _)) evds_nil))).go (K := K) fun u9 H9 e9 d9 => ?_)
    have t9 := t8.grow e9
    refine g_code c t9 (t9.flat (Ins.fl (.jump (is.length + 3))) d9) ev_v (j := is.length + 2) ev_v (by simp) fun H10 x10 t10 => ?_
    have eL10 : ((is ++ [Ins.unl e (is.length + 3), Ins.retry, Ins.jump 0]).map Ins.toD).set (is.length + 2) (Ins.jump (is.length + 3)).toD = (is ++ [Ins.unl e (is.length + 3), Ins.retry, Ins.jump (is.length + 3)]).map Ins.toD := by
      rw [List.map_append, List.map_append, List.set_append_right _ _ (by simp)]
      simp
    rw [eL10] at t10
    exact q H10 (X2.trans x18 (X2.trans (X2.of e9) x10)) t10
theorem St.shape (s : St) : ∃ ds, s.toD = .tup ds := by cases s <;> exact ⟨_, rfl⟩
theorem ok_bstmt (T : Tx K mg aR) (c : ClsF K C ksT) (F : MethAt K C "statement" "BlockTranslator.statement" sBlockTranslatorStatement) (m_add : Met P w K mg base 1 C "add" (spAdd K C)) (m_expression : Met P w K mg base 9 C "expression" (spExpr K C 3))
    (m_put : Met P w K mg base 10 C "put" (spStmt K C fun s => ∃ i e, s = .put i e)) {k : Nat} {ok : St → Prop} {spB : Sp} (hk : 10 ≤ k) (m_branches : Met P w K mg base k C "branches" spB) (hif : ∀ e, ok (.iff e) → ∀ vs H Q E, spBranches K C vs H Q E → spB vs H Q E) :
    Met P w K mg base (k + 1) C "statement" (spStmt K C ok) := by
  have S : FnScope ["self", "statement", "kind", "value", "condition"] ["self", "statement"] (defScope sBlockTranslatorStatement) := ⟨rfl, rfl, rfl, by decide +kernel, rfl, by decide +kernel, by decide +kernel⟩
  have k1 : 1 ≤ k := Nat.le_trans (by decide) hk
  have k9 : 9 ≤ k := Nat.le_trans (by decide) hk
  refine met_mk c.cl F S (fun _ _ _ _ _ _ us hl => match us, hl with | [_, _], _ => rfl) (fun vs H Q E h => ?_) (fun f cdv A outer s H vs Q E hr h => ?_)
  · obtain ⟨N, nx, a, is, is', i, i', e, u, rfl, _⟩ := h
    rfl
  · obtain ⟨N, nx, a, is, is', i, i', st, u, rfl, t, dm, hd, hok, htr, q⟩ := h
    refine ⟨_, (pss_cons (ps_set (i := 2) S.nd rfl (Or.inl rfl) (pe_ix ix_tup (pv 1) pe_int (fun _ _ => rfl)))
  (pss_one (ps_if (pt_cmpR op_in_seq (pv 2) (pe_tup (pa_cons pe_str (pa_cons pe_str pa_nil))) (by rfl))
  (pss_one (ps_expr (pe_mt m_add hr (pv 0) (pa_cons (pe_tup (pa_cons (pv 2) pa_nil)) pa_nil) k1)))
  (pss_one (ps_if (pt_cmpR op_eq (pv 2) pe_str (nomark _))
  (pss_cons (ps_set (i := 3) S.nd rfl (Or.inl rfl) (pe_mt m_expression hr (pv 0) (pa_cons (pe_ix ix_tup (pv 1) pe_int (fun _ _ => rfl)) (pa_cons (pe_fld (pv 0) rfl) pa_nil)) k9))
  (pss_one (ps_expr (pe_mt m_add hr (pv 0) (pa_cons (pe_tup (pa_cons pe_str (pa_cons (pe_bm PySem.F.plainAttrs_list PySem.F.slot_list_index PySem.F.type_list_index mt_index (pe_fld (pv 0) rfl) (pa_cons (pe_ix ix_tup (pv 1) pe_int (fun _ _ => rfl)) pa_nil)) (pa_cons (pv 3) pa_nil)))) pa_nil) k1))))
  (pss_one (ps_if (pt_cmpR op_eq (pv 2) pe_str (nomark _))
  (pss_one (ps_expr (pe_mt m_put hr (pv 0) (pa_cons (pv 1) pa_nil) hk)))
  (pss_one (ps_if (pt_cmpR op_eq (pv 2) pe_str (nomark _))
  pss_never
  (pss_one (ps_if (pt_cmpR op_eq (pv 2) pe_str (nomark _))
  (pss_cons (ps_set (i := 4) S.nd rfl (Or.inl rfl) (pe_mt m_expression hr (pv 0) (pa_cons (pe_ix ix_tup (pv 1) pe_int (fun _ _ => rfl)) (pa_cons (pe_fld (pv 0) rfl) pa_nil)) k9))
  (pss_one (ps_expr (pe_mt m_branches hr (pv 0) (pa_cons (pv 4) (pa_cons (pe_ix ix_tup (pv 1) pe_int (fun _ _ => rfl)) (pa_cons (pe_ix ix_tup (pv 1) pe_int (fun _ _ => rfl)) pa_nil))) (Nat.le_refl _)))))
  (pss_one (ps_if (pt_cmpR op_eq (pv 2) pe_str (nomark _))
  (pss_cons (ps_set (i := 4) S.nd rfl (Or.inl rfl) (pe_mt m_expression hr (pv 0) (pa_cons (pe_ix ix_tup (pv 1) pe_int (fun _ _ => rfl)) (pa_cons (pe_fld (pv 0) rfl) pa_nil)) k9))
  pss_never)
  pss_never))))))))))))), ?_⟩
    obtain ⟨dx, hp⟩ := t.hp
    have dm0 := dm
    cases st with
    | retry =>
      obtain ⟨ax, xs, rfl, hs, r⟩ := dm.tup_inv
      obtain ⟨_, rfl, d0⟩ := dvs1 r
      cases d0
      obtain ⟨is1, h1, h2⟩ : ∃ is1, addI is .retry = some is1 ∧ some (is1, i) = some (is', i') := by
        dsimp only [trS] at htr
        split at htr
        · rename_i is1 h1
          exact ⟨is1, h1, htr⟩
        · cases htr
      cases h2
      obtain ⟨hl, rfl⟩ := addI_some h1
      refine q_asg (ev_ixt (j := 0) ev_v (sqX X2.refl hs) rfl) fun H1 e1 => ?_
      refine q_t (et_test (Evl.ev_is (ev_inU ev_v (eu_tup (ea_cons ev_c (ea_cons ev_c ea_nil)) (by decide)) rfl rfl) (by decide +kernel))) fun H2 e2 => ?_
      have e12 := Ex.trans e1 e2
      refine s_dropM (go_add c (t.grow e12) ev_v (evd_tup (ds := [.str "retry"]) (evds_cons (evd_var (.str _)) evds_nil)) (d := Ins.retry.toD) rfl (by rw [List.length_map]; exact hl) (fun _ _ _ _ h => h) fun H3 x3 t3 => ?_)
      rw [← map_add] at t3
      exact q H3 (X2.trans (X2.of e12) x3) t3
    | set e =>
      obtain ⟨ax, xs, rfl, hs, r⟩ := dm.tup_inv
      obtain ⟨_, _, v2, rfl, d0, d1, d2⟩ := dvs3 r
      cases d0; cases d1
      obtain ⟨f, is1, k1', h1, hnx, is2, h2, h3⟩ : ∃ f is1 k1, trE nx N e is i = some (f, is1, k1) ∧ nx = true ∧ ∃ is2, addI is1 (.set 0 f) = some is2 ∧ some (is2, k1) = some (is', i') := by
        dsimp only [trS] at htr
        split at htr
        · rename_i f is1 k1 h1
          split at htr
          · rename_i hnx
            split at htr
            · rename_i is2 h2
              exact ⟨f, is1, k1, h1, hnx, is2, h2, htr⟩
            · cases htr
          · cases htr
        · cases htr
      cases h3; cases hnx
      obtain ⟨hl, rfl⟩ := addI_some h2
      refine q_asg (ev_ixt (j := 0) ev_v (sqX X2.refl hs) rfl) fun H1 e1 => ?_
      refine q_e (et_test (Evl.ev_is (ev_inU ev_v (eu_tup (ea_cons ev_c (ea_cons ev_c ea_nil)) (by decide)) rfl rfl) (by decide +kernel))) fun H2 e2 => ?_
      refine q_t (et_eqS ev_v ev_c) fun H3 e3 => ?_
      have e13 := Ex.trans (Ex.trans e1 e2) e3
      refine q_asgX (go_meth ev_v (e13 _ _ hp) (fz_none (by decide +kernel)) (ea_cons (ev_ixt (j := 2) ev_v (sqX (X2.of e13) hs) rfl) (ea_cons (ev_fz (i := 3) ev_v (e13 _ _ hp) c rfl) ea_nil)) fun H4 e4 => ?_)
      have e14 := Ex.trans e13 e4
      refine ⟨N, true, a, is, is1, i, i', e, f, v2, rfl, t.grow e14, dvX (X2.of e14) d2, hd, h1, fun v H5 x5 t5 d5 => ?_⟩
      have x15 := X2.trans (X2.of e14) x5
      dsimp only [gName]
      obtain ⟨dx5, hp5⟩ := t5.hp
      have hn5 : H5 a.n = some (.lst [.str "x"]) := mn_ex _ _ t5.hn
      refine s_dropM (go_add c t5 ev_v (evd_tup (ds := [.str "set", .int 0, f.toD]) (evds_cons evd_str (evds_cons (evd_ev (ev_idx0 (ev_fz (i := 0) ev_v hp5 c rfl) hn5 (ev_ixt (j := 1) ev_v (sqX x15 hs) rfl)) (.int 0)) (evds_cons (evd_var d5) evds_nil)))) (d := (Ins.set 0 f).toD) (Ins.fl _) (by rw [List.length_map]; exact hl) (fun _ _ _ _ h => h) fun H6 x6 t6 => ?_)
      rw [← map_add] at t6
      exact q H6 (X2.trans x15 x6) t6
    | put ei ee =>
      obtain ⟨ax, xs, rfl, hs, r⟩ := dm.tup_inv
      obtain ⟨_, _, _, _, rfl, d0, d1, d2, d3⟩ := dvs4 r
      cases d0
      refine q_asg (ev_ixt (j := 0) ev_v (sqX X2.refl hs) rfl) fun H1 e1 => ?_
      refine q_e (et_test (Evl.ev_is (ev_inU ev_v (eu_tup (ea_cons ev_c (ea_cons ev_c ea_nil)) (by decide)) rfl rfl) (by decide +kernel))) fun H2 e2 => ?_
      refine q_e (et_eqS ev_v ev_c) fun H3 e3 => ?_
      refine q_t (et_eqS ev_v ev_c) fun H4 e4 => ?_
      have e14 := Ex.trans (Ex.trans (Ex.trans e1 e2) e3) e4
      refine s_dropM (go_meth ev_v (e14 _ _ hp) (fz_none (by decide +kernel)) (ea_cons ev_v ea_nil) fun H5 e5 => ?_)
      have e15 := Ex.trans e14 e5
      exact ⟨N, nx, a, is, is', i, i', .put ei ee, _, rfl, t.grow e15, dm0.mono (X2.of e15), hd, ⟨ei, ee, rfl⟩, htr, fun H6 x6 t6 => q H6 (X2.trans (X2.of e15) x6) t6⟩
    | iff e =>
      obtain ⟨ax, xs, rfl, hs, r⟩ := dm.tup_inv
      obtain ⟨_, v1, v2, v3, rfl, d0, d1, d2, d3⟩ := dvs4 r
      cases d0
      obtain ⟨f, is1, k1', h1, is2, h2, h3⟩ : ∃ f is1 k1, trE nx N e is i = some (f, is1, k1) ∧ ∃ is2, addIs is1 [.unl f (is1.length + 3), .retry, .jump (is1.length + 3)] = some is2 ∧ some (is2, k1) = some (is', i') := by
        dsimp only [trS] at htr
        split at htr
        · rename_i f is1 k1 h1
          split at htr
          · rename_i is2 h2
            exact ⟨f, is1, k1, h1, is2, h2, htr⟩
          · cases htr
        · cases htr
      cases h3
      refine q_asg (ev_ixt (j := 0) ev_v (sqX X2.refl hs) rfl) fun H1 e1 => ?_
      refine q_e (et_test (Evl.ev_is (ev_inU ev_v (eu_tup (ea_cons ev_c (ea_cons ev_c ea_nil)) (by decide)) rfl rfl) (by decide +kernel))) fun H2 e2 => ?_
      refine q_e (et_eqS ev_v ev_c) fun H3 e3 => ?_
      refine q_e (et_eqS ev_v ev_c) fun H4 e4 => ?_
      refine q_e (et_eqS ev_v ev_c) fun H5 e5 => ?_
      refine q_t (et_eqS ev_v ev_c) fun H6 e6 => ?_
      have e16 := Ex.trans (Ex.trans (Ex.trans (Ex.trans (Ex.trans e1 e2) e3) e4) e5) e6
      refine q_asgX (go_meth ev_v (e16 _ _ hp) (fz_none (by decide +kernel)) (ea_cons (ev_ixt (j := 1) ev_v (sqX (X2.of e16) hs) rfl) (ea_cons (ev_fz (i := 3) ev_v (e16 _ _ hp) c rfl) ea_nil)) fun H7 e7 => ?_)
      have e17 := Ex.trans e16 e7
      refine ⟨N, nx, a, is, is1, i, i', e, f, v1, rfl, t.grow e17, dvX (X2.of e17) d1, hd, h1, fun v H8 x8 t8 d8 => ?_⟩
      have x18 := X2.trans (X2.of e17) x8
      dsimp only [gName]
      obtain ⟨dx8, hp8⟩ := t8.hp
      refine s_dropM (go_meth ev_v hp8 (fz_none (by decide +kernel)) (ea_cons ev_v (ea_cons (ev_ixt (j := 2) ev_v (sqX x18 hs) rfl) (ea_cons (ev_ixt (j := 3) ev_v (sqX x18 hs) rfl) ea_nil))) fun H9 e9 => ?_)
      have x19 := X2.trans x18 (X2.of e9)
      refine hif e hok _ _ _ _ ⟨N, nx, a, is1, is', i', f, v, v2, v3, rfl, t8.grow e9, (t8.flat f.fl d8).mono (X2.of e9), d2.mono x19, d3.mono x19, h2, fun H10 x10 t10 => q H10 (X2.trans x19 x10) t10⟩
/-- the BlockTranslator's statements, whole -/
theorem ok_bstmts (T : Tx K mg aR) (c : ClsF K C ksT) (Fs : MethAt K C "statements" "Translator.statements" sTranslatorStatements) (Fb : MethAt K C "branches" "Translator.branches" sTranslatorBranches) (F : MethAt K C "statement" "BlockTranslator.statement" sBlockTranslatorStatement)
    (m_add : Met P w K mg base 1 C "add" (spAdd K C)) (m_expression : Met P w K mg base 9 C "expression" (spExpr K C 3)) (m_put : Met P w K mg base 10 C "put" (spStmt K C fun s => ∃ i e, s = .put i e)) : Met P w K mg base 15 C "statements" (spStmts K C fun _ => True) := by
  have b0 : Met P w K mg base 10 C "branches" fun _ _ _ _ => False := by
    have S : FnScope ["self", "condition", "first", "second", "jump", "over"] ["self", "condition", "first", "second"] (defScope sTranslatorBranches) := ⟨rfl, rfl, rfl, by decide +kernel, rfl, by decide +kernel, by decide +kernel⟩
    exact (met_no c.cl Fb S (fun _ _ _ _ _ _ us hl => match us, hl with | [_, _, _, _], _ => rfl)).up (by decide)
  have s0 : Met P w K mg base 11 C "statement" (spStmt K C fun s => ∀ e, s ≠ .iff e) := ok_bstmt T c F m_add m_expression m_put (Nat.le_refl _) b0 fun e h => absurd rfl (h e)
  have ss0 : Met P w K mg base 12 C "statements" (spStmts K C fun s => ∀ e, s ≠ .iff e) := ok_stmts T c Fs s0
  have b1 : Met P w K mg base 13 C "branches" (spBranches K C) := ok_branches T c Fb m_add (by decide) (fun e z => by cases z) ss0
  have s1 : Met P w K mg base 14 C "statement" (spStmt K C fun _ => True) := ok_bstmt T c F m_add m_expression m_put (by decide) b1 fun e _ vs H Q E h => h
  exact ok_stmts T c Fs s1
end
end HK


set_option maxRecDepth 100000
set_option maxHeartbeats 4000000
/-! F5: Translator(..), the ThreadTranslator. -/
namespace HK
open PySem PySem.Spec PyProof.Rows L2
open Evl (Ex Ev EvT EvA EvL EvU RetV ev_var ev_c ev_op ev_un ea_nil ea_cons et_test et_B et_and et_or et_not ev_call ev_cb rv_I0 rv_I rv_eq rv_ixL rv_ixT ev_inU ev_niU eu_tup el_lst ev_len el_list q_when q_if q_asg q_drop s_asg s_ret s_if s_drop)
inductive TSt where
  | blk (ss : List St)
  | say (e : Sx)
def TSt.toD : TSt → D
  | .blk ss => dBlock (.lst (ss.map St.toD))
  | .say e => .tup [.str "say", e.toD]
inductive TI where
  | blk (is : List Ins) (t : Nat)
  | jump (t : Nat)
  | say (f : Fx)
def TI.toD : TI → D
  | .blk is t => .tup [.str "block", .lst (is.map Ins.toD), .non, .int t]
  | .jump t => .tup [.str "jump", .int t]
  | .say f => .tup [.str "say", f.toD]
def TSt.ok : TSt → Prop
  | .blk ss => ∀ s ∈ ss, s.dep ≤ 3
  | .say e => e.dep ≤ 3
def trT (nx : Bool) (N : Int) : TSt → List TI → Nat → Option (List TI × Nat)
  | .say e, ts, k => match ren nx e with
    | some f => if ts.length + 2 < 1000 then some (ts ++ [.say f], k) else none
    | none => none
  | .blk ss, ts, k => match trSs nx N ss [] k with
    | some (is, k1) => if ts.length + 2 < 1000 then some (ts ++ [.blk is (ts.length + 2), .jump (ts.length + 2)], k1) else none
    | none => none
def trTs (nx : Bool) (N : Int) : List TSt → List TI → Nat → Option (List TI × Nat)
  | [], ts, k => some (ts, k)
  | s :: r, ts, k => match trT nx N s ts k with
    | some (ts1, k1) => trTs nx N r ts1 k1
    | none => none
/-! ### making one -/
def spTInit (K : PySem.W.Frag) (C : Addr) : Sp := fun vs H Q _ => ∃ (p dx l : Addr) (xs : List V), vs = [.ref p, .ref l] ∧ H p = some (.ins C dx []) ∧ SqL K H l xs ∧
  ∀ n c H', ExB p H H' → H' p = some (.ins C dx ((["names", "code", "count"] : List Str).zip [.ref n, .ref c, .int xs.length])) → H' n = some (.lst xs) → H' c = some (.lst []) → H n = none → H c = none → n ≠ c → Q .non H'
def spTrNew (K : PySem.W.Frag) (C : Addr) : Sp := fun vs H Q _ => ∃ (G : Hp) (N : Int) (nx : Bool) (p dx l ce : Addr), vs = [.ref p, .ref l, .ref ce] ∧ H p = some (.ins C dx []) ∧ Ex G H ∧ G p = none ∧ SqL K G l (nmV nx) ∧ ∃ zc : Hp, Ex zc G ∧ (∀ b o, zc b = some o → NoTup o) ∧ DV K (mn G fun b => zc b ≠ none) (dCells N) (.ref ce) ∧
  ∀ (a : TrA) H', a.p = p → a.ce = ce → a.zc = zc → Ex G H' → G a.c = none → TrAt K C N nx H' a [] (nmV nx).length → Q .non H'
abbrev sTranslatorInit : Stmt := inClass (top 26) 0
abbrev sBlockTranslatorInit : Stmt := inClass (top 27) 0
abbrev sThreadTranslatorInit : Stmt := inClass (top 28) 0
abbrev sThreadTranslatorStatement : Stmt := inClass (top 28) 1
abbrev sThreadTranslatorBlock : Stmt := inClass (top 28) 2
abbrev sFlatThread : Stmt := top 29
structure TInitAt (K : PySem.W.Frag) (f0 : Addr) : Prop where
  ex : ∃ fd, Fun K "__init__" "Translator.__init__" sTranslatorInit f0 fd
theorem mn_intoZ {H H' : Hp} {b : TrA} (e : Ex H H') (h1 : H b.p = none) (h2 : H b.c = none) : Ex (mn H fun x => b.zc x ≠ none) (mn H' b.w) := fun x o h => by
  obtain ⟨n, h⟩ := mn_some h
  rw [mn_at fun w => by
    rcases w with rfl | rfl | w
    · rw [h1] at h; cases h
    · rw [h2] at h; cases h
    · exact n w]
  exact e _ _ h
theorem mn_sub {H : Hp} {a : TrA} : Ex (mn H a.w) (mn H fun x => a.zc x ≠ none) := fun x o h => by
  obtain ⟨n, h⟩ := mn_some h
  rw [mn_at fun w => n (.inr (.inr w))]
  exact h
theorem mn_into {H H' : Hp} {a b : TrA} (hz : b.zc = a.zc) (e : Ex H H') (h1 : H b.p = none) (h2 : H b.c = none) : Ex (mn H a.w) (mn H' b.w) := by
  have := mn_intoZ (b := b) e h1 h2
  rw [hz] at this
  exact Ex.trans mn_sub this
section
variable {P : Program} {w : World} {K : PySem.W.Frag} {mg : Str → Option Value} {base : Heap} {aR C f0 : Addr}
theorem ok_tinit (T : Tx K mg aR) (c : ClsF K C ksT) (F : TInitAt K f0) : ∃ fd, FnOk P w K mg base CX0 1 f0 fd ["self", "names"] (spTInit K C) ∧ Binds K fd ["self", "names"] [] := by
  obtain ⟨fd, F⟩ := F.ex
  have S : FnScope ["self", "names"] ["self", "names"] (defScope sTranslatorInit) := ⟨rfl, rfl, rfl, by decide +kernel, rfl, by decide +kernel, by decide +kernel⟩
  refine ⟨fd, F.ok S (fun vs H Q E h => ?_) (fun cdv A outer s H vs Q E hr h => ?_), F.binds (fun _ _ _ _ _ _ us hl => match us, hl with | [_, _], _ => rfl)⟩
  · obtain ⟨p, dx, l, xs, rfl, _⟩ := h
    rfl
  · obtain ⟨p, dx, l, xs, rfl, hp, hx, k⟩ := h
    have na : ∀ f, f ∈ ksT → NoAttr K C f := c.na
    refine ⟨_, (pss_cons (ps_fld (pv 0) (pe_callTy call_list_of (by rfl) T.b.list (by decide +kernel) (pa_cons (pv 1) pa_nil)) rfl)
  (pss_cons (ps_fld (pv 0) (pe_lst pa_nil) rfl)
  (pss_one (ps_fld (pv 0) (pe_callB call_len_seq (by rfl) T.b.len (by decide +kernel) (pa_cons (pe_fld (pv 0) rfl) pa_nil)) rfl)))), ?_⟩
    refine q_fldNL (ks := []) (vs := []) (el_list ev_v hx) ev_v hp c.cl (na _ (by decide +kernel)) fun n H1 nn b1 n1 p1 => ?_
    refine q_fldNL (el_lst ea_nil (by decide)) ev_v p1 c.cl (na _ (by decide +kernel)) fun l2 H2 nl b2 l2h p2 => ?_
    have hnp : n ≠ p := (ne_of_none hp nn).symm
    have hn2 : H2 n = some (.lst xs) := b2 _ _ hnp n1
    refine s_fldN (ev_lenl (ev_fld ev_v p2 c.cl (na _ (by decide +kernel)) (fz_lk (ks := ["names", "code"]) (i := 0) (by decide +kernel) rfl)) (sqL_of hn2)) ev_v p2 c.cl (na _ (by decide +kernel)) fun H3 b3 p3 => ?_
    have hlp : l2 ≠ p := (ne_of_none p1 nl).symm
    have hl0 : H l2 = none := by
      cases h : H l2 with
      | none => rfl
      | some o => rw [b1 _ _ hlp h] at nl; cases nl
    exact k n l2 H3 (ExB.trans (ExB.trans b1 b2) b3) p3 (b3 _ _ hnp hn2) (b3 _ _ hlp l2h) nn hl0 (ne_of_none n1 nl)
theorem ok_trnew (T : Tx K mg aR) (c : ClsF K C ksT) (F : TInitAt K f0) {x : Str} (k : Mak P w K mg base 2 x C (spSup (spTInit K C) f0 C)) : Mak P w K mg base 2 x C (spTrNew K C) := by
  obtain ⟨f, fd, ps, hM, G, r⟩ := k.ex
  refine ⟨f, fd, ps, hM, G.imp ?_, r⟩
  rintro vs H Q E ⟨G, N, nx, p, dx, l, ce, rfl, hp, eG, gp, hl, zc, ez, zt, hce, k⟩
  refine ⟨p, dx, .ref l, .ref ce, rfl, hp, fun q hq => ?_⟩
  have e1 : Ex H (upd H q (.met f0 p)) := Ex.new hq
  refine ⟨p, dx, l, nmV nx, rfl, e1 _ _ hp, Same.seq (Ex.trans eG e1) hl, fun n cc H1 b1 p1 n1 c1 nn nc hnc => ?_⟩
  have hnp : n ≠ p := by
    rintro rfl
    rw [e1 _ _ hp] at nn
    cases nn
  have hcp : cc ≠ p := by
    rintro rfl
    rw [e1 _ _ hp] at nc
    cases nc
  have gn : G n = none := Evl.fresh_back (Ex.trans eG e1) nn
  have gc : G cc = none := Evl.fresh_back (Ex.trans eG e1) nc
  have g1 : Ex G H1 := ExB.ex (Ex.trans eG e1) gp b1
  refine ⟨dx, _, p1, (by show 3 < 1000; decide), ?_⟩
  have ef : putF "cells" (.ref ce) ((["names", "code", "count"] : List Str).zip [V.ref n, .ref cc, .int (nmV nx).length]) = ksT.zip [.ref n, .ref cc, .int (nmV nx).length, .ref ce] := fz_new (ks := ["names", "code", "count"]) (vs := [V.ref n, .ref cc, .int (nmV nx).length]) (by decide +kernel) rfl
  rw [ef]
  have gx : Ex G (upd H1 p (.ins C dx (ksT.zip [.ref n, .ref cc, .int (nmV nx).length, .ref ce]))) := Ex.mut g1 gp
  have zp : zc p = none := Evl.fresh_back ez gp
  have zq : zc cc = none := Evl.fresh_back ez gc
  have zn : zc n = none := Evl.fresh_back ez gn
  refine k ⟨p, n, cc, ce, zc⟩ _ rfl rfl rfl gx gc ⟨⟨dx, upd_same⟩, ?_, ⟨[], ?_, .nil⟩, hce.mono (mn_intoZ (b := ⟨p, n, cc, ce, zc⟩) gx gp gc), Ex.trans ez gx, zt, zp, zq⟩
  · rw [mn_at fun w => by
      rcases w with w | w | w
      · exact hnp w
      · exact hnc w
      · exact w zn, upd_ne hnp]
    exact n1
  · rw [upd_ne hcp]
    exact c1
end
end HK


set_option maxRecDepth 100000
set_option maxHeartbeats 4000000
/-! F6: the ThreadTranslator's block, statement, statements. -/
namespace HK
open PySem PySem.Spec PyProof.Rows L2
open Evl (Ex Ev EvT EvA EvL EvU RetV ev_var ev_c ev_op ev_un ea_nil ea_cons et_test et_B et_and et_or et_not ev_call ev_cb rv_I0 rv_I rv_eq rv_ixL rv_ixT ev_inU ev_niU eu_tup el_lst ev_len el_list q_when q_if q_asg q_drop s_asg s_ret s_if s_drop)
def spTStmt (K : PySem.W.Frag) (C : Addr) (ok : TSt → Prop) : Sp := fun vs H Q _ => ∃ (N : Int) (nx : Bool) (a : TrA) (ts ts' : List TI) (k k' : Nat) (s : TSt) (u : V), vs = [.ref a.p, u] ∧ TrAt K C N nx H a (ts.map TI.toD) k ∧ DV K (mn H a.w) s.toD u ∧ s.ok ∧ ok s ∧
  trT nx N s ts k = some (ts', k') ∧ ∀ H', X2 a.w H H' → TrAt K C N nx H' a (ts'.map TI.toD) k' → Q .non H'
def spTStmts (K : PySem.W.Frag) (C : Addr) (ok : TSt → Prop) : Sp := fun vs H Q _ => ∃ (N : Int) (nx : Bool) (a : TrA) (ts ts' : List TI) (k k' : Nat) (ss : List TSt) (u : V), vs = [.ref a.p, u] ∧ TrAt K C N nx H a (ts.map TI.toD) k ∧ DV K (mn H a.w) (.lst (ss.map TSt.toD)) u ∧ (∀ s ∈ ss, s.ok ∧ ok s) ∧
  trTs nx N ss ts k = some (ts', k') ∧ ∀ H', X2 a.w H H' → TrAt K C N nx H' a (ts'.map TI.toD) k' → Q .non H'
section
variable {K : PySem.W.Frag} {σ : L2.St} {H : Hp} {ta te : TE} {t : TA} {C p dx : Addr} {fs : List (Str × V)} {m : Str} {sp : Sp} {Q : VK} {d : D} {ds : List D} {N : Int} {nx : Bool} {a : TrA} {cnt : Nat} {xs : List V}
/-- te gives d, away from p and c -/
def EvM (K : PySem.W.Frag) (W : Addr → Prop) (te : TE) (σ : L2.St) (H : Hp) (d : D) : Prop := ∀ H1, Ex H H1 → ∀ Q : VK, (∀ u H2, Ex H1 H2 → DV K (mn H2 W) d u → Q u H2) → te σ H1 Q
theorem evm_u (t : TrAt K C N nx H a ds cnt) {xs : List V} {es : List D} (h : EvU te σ H xs) (r : DVs K (mn H a.w) es xs) : EvM K a.w te σ H (.tup es) := fun H1 e1 Q q =>
  h H1 e1 _ fun p H2 np e2 hp => by
    have t1 := t.grow e1
    obtain ⟨dx, h1⟩ := t1.hp
    obtain ⟨cv, h2, _⟩ := t1.hc
    refine q _ H2 e2 (.tup (sqT_of ?_) (r.mono (mn_mono (Ex.trans e1 e2))))
    rw [mn_at fun w => by
      rcases w with rfl | rfl | w
      · rw [h1] at np; cases np
      · rw [h2] at np; cases np
      · exact w (Evl.fresh_back t1.hz np)]
    exact hp
theorem go_addM {sp0 : Sp} (c : ClsF K C ksT) (t : TrAt K C N nx H a ds cnt) (h : Ev ta σ H (.ref a.p)) (ht : EvM K a.w te σ H d) (hl : ds.length < 1000)
    (hsp : ∀ vs H Q E, spAdd K C vs H Q E → sp0 vs H Q E) (k : ∀ H', X2 a.w H H' → TrAt K C N nx H' a (ds ++ [d]) cnt → Q (.int ds.length) H') : tMeth C "add" sp0 [] E0 ta (tCons te tNil) σ H Q := by
  obtain ⟨dx, hp⟩ := t.hp
  refine h H (Ex.refl H) _ fun H2 e2 => ⟨a.p, dx, _, rfl, e2 _ _ hp, fz_none (by decide +kernel), ht H2 e2 _ fun u H3 e3 du => ?_⟩
  have e23 := Ex.trans e2 e3
  exact hsp _ _ _ _ ⟨N, nx, a, ds, cnt, d, u, rfl, t.grow e23, du, hl, fun H4 x4 t4 => k H4 (X2.trans (X2.of e23) x4) t4⟩
theorem evd_meth (h : Ev ta σ H (.ref p)) (ho : H p = some (.ins C dx fs)) (hl : fs.lookup m = none) (ht : EvDs K t σ H ds) (hs : ∀ us H1, Ex H H1 → DVs K H1 ds us → ∀ Q, Ret K H1 Q d → sp (.ref p :: us) H1 Q E0) : EvD K (tMeth C m sp [] E0 ta t) σ H d := fun H1 e1 Q q =>
  h H1 e1 _ fun H2 e2 => ⟨p, dx, fs, rfl, (Ex.trans e1 e2) _ _ ho, hl, ht H2 (Ex.trans e1 e2) _ fun us H3 e3 r => by
    rw [List.append_nil]
    exact hs us H3 (Ex.trans (Ex.trans e1 e2) e3) r Q fun v H4 e4 d4 => q v H4 (Ex.trans (Ex.trans e2 e3) e4) d4⟩
end
section
variable {P : Program} {w : World} {K : PySem.W.Frag} {mg : Str → Option Value} {base : Heap} {aR C CB f0 : Addr}
theorem tmap_add {ts : List TI} {i : TI} : (ts ++ [i]).map TI.toD = ts.map TI.toD ++ [i.toD] := by rw [List.map_append]; rfl
theorem ok_tstmts (T : Tx K mg aR) (c : ClsF K C ksT) (F : MethAt K C "statements" "Translator.statements" sTranslatorStatements) {k : Nat} {ok : TSt → Prop} (m_statement : Met P w K mg base k C "statement" (spTStmt K C ok)) : Met P w K mg base (k + 1) C "statements" (spTStmts K C ok) := by
  have S : FnScope ["self", "body", "statement"] ["self", "body"] (defScope sTranslatorStatements) := ⟨rfl, rfl, rfl, by decide +kernel, rfl, by decide +kernel, by decide +kernel⟩
  refine met_mk c.cl F S (fun _ _ _ _ _ _ us hl => match us, hl with | [_, _], _ => rfl) (fun vs H Q E h => ?_) (fun f cdv A outer s H vs Q E hr h => ?_)
  · obtain ⟨N, nx, a, is, is', i, i', e, u, rfl, _⟩ := h
    rfl
  · obtain ⟨N, nx, a, is, is', i, i', ss, u, rfl, t, dm, hok, htr, q⟩ := h
    refine ⟨_, (pss_one (ps_for PassesOwn.never rfl (pi_list (pv 1)) (pg_name (i := 2) S.nd rfl (Or.inl rfl))
  (pss_one (ps_expr (pe_mt m_statement hr (pv 0) (pa_cons (pv 2) pa_nil) (Nat.le_refl _)))))), ?_⟩
    obtain ⟨al, xs, rfl, hl, r⟩ := dm.lst_inv
    have hlen : xs.length = ss.length := by rw [← r.length, List.length_map]
    refine Evl.s_forLn ev_v (sqL_of (mn_ex _ _ hl)) (fun j σ2 H2 => X2 a.w H H2 ∧ ∃ v1 isj kj, σ2 = [some (.ref a.p), some (.ref al), v1] ∧ TrAt K C N nx H2 a (isj.map TI.toD) kj ∧ trTs nx N (ss.drop j) isj kj = some (is', i'))
      (fun H2 e2 => ⟨X2.of e2, none, is, i, rfl, t.grow e2, htr⟩) (fun j σ2 H2 _ h2 => sqL_of (mn_ex _ _ (h2.1 _ _ hl))) (fun j x σ2 H2 hx h2 => ?_) (fun σ2 H2 h2 => ?_)
    · obtain ⟨x2, v1, isj, kj, rfl, tj, hj⟩ := h2
      have hjl : j < ss.length := by rw [← hlen]; exact (List.getElem?_eq_some_iff.mp hx).1
      have hdj : ss.drop j = ss[j] :: ss.drop (j + 1) := List.drop_eq_getElem_cons hjl
      rw [hdj] at hj
      obtain ⟨is1, k1, h1, hj⟩ : ∃ is1 k1, trT nx N ss[j] isj kj = some (is1, k1) ∧ trTs nx N (ss.drop (j + 1)) is1 k1 = some (is', i') := by
        unfold trTs at hj
        split at hj
        · rename_i is1 k1 h1
          exact ⟨is1, k1, h1, hj⟩
        · cases hj
      obtain ⟨y, hy, dy⟩ := DVs.map_at r (List.getElem?_eq_getElem hjl)
      rw [hx] at hy
      cases hy
      obtain ⟨dx, hp⟩ := tj.hp
      refine s_dropM (go_meth ev_v hp (fz_none (by decide +kernel)) (ea_cons ev_v ea_nil) fun H3 e3 => ?_)
      have ho := hok ss[j] (List.getElem_mem hjl)
      exact ⟨N, nx, a, isj, is1, kj, k1, ss[j], x, rfl, tj.grow e3, dy.mono (X2.trans x2 (X2.of e3)), ho.1, ho.2, h1, fun H4 x4 t4 => ⟨X2.trans (X2.trans x2 (X2.of e3)) x4, _, is1, k1, rfl, t4, hj⟩⟩
    · obtain ⟨x2, v1, isj, kj, rfl, tj, hj⟩ := h2
      rw [hlen, List.drop_length] at hj
      cases hj
      exact q H2 x2 tj
theorem ok_tblock (T : Tx K mg aR) (c : ClsF K C ksT) (cB : ClsF K CB ksT) (F : MethAt K C "block" "ThreadTranslator.block" sThreadTranslatorBlock) (m_add : Met P w K mg base 1 C "add" (spAdd K C)) (k_BlockTranslator : Mak P w K mg base 2 "BlockTranslator" CB (spTrNew K CB))
    (m_bs : Met P w K mg base 15 CB "statements" (spStmts K CB fun _ => True)) (m_ts : Met P w K mg base 2 C "statements" (spTStmts K C fun _ => False)) : Met P w K mg base 16 C "block" (spTStmt K C fun s => ∃ ss, s = .blk ss) := by
  have S : FnScope ["self", "statement", "limit", "inner", "at", "over"] ["self", "statement"] (defScope sThreadTranslatorBlock) := ⟨rfl, rfl, rfl, by decide +kernel, rfl, by decide +kernel, by decide +kernel⟩
  refine met_mk c.cl F S (fun _ _ _ _ _ _ us hl => match us, hl with | [_, _], _ => rfl) (fun vs H Q E h => ?_) (fun f cdv A outer s H vs Q E hr h => ?_)
  · obtain ⟨N, nx, a, is, is', i, i', e, u, rfl, _⟩ := h
    rfl
  · obtain ⟨N, nx, a, ts, ts', i, i', _, u, rfl, t, dm, hd, ⟨ss, rfl⟩, htr, q⟩ := h
    obtain ⟨is, h1, hl, rfl⟩ : ∃ is, trSs nx N ss [] i = some (is, i') ∧ ts.length + 2 < 1000 ∧ ts' = ts ++ [.blk is (ts.length + 2), .jump (ts.length + 2)] := by
      dsimp only [trT] at htr
      split at htr
      · rename_i is k1 h1
        split at htr
        · rename_i hl
          cases htr
          exact ⟨is, h1, hl, rfl⟩
        · cases htr
      · cases htr
    refine ⟨_, (pss_cons (ps_set (i := 2) S.nd rfl (Or.inl rfl) pe_non)
  (pss_cons (ps_if (pt_cmpR op_notN (pe_ix ix_tup (pv 1) pe_int (fun _ _ => rfl)) pe_non (nomark _))
  pss_never
  pss_nil)
  (pss_cons (ps_set (i := 3) S.nd rfl (Or.inl rfl) (pe_mk k_BlockTranslator hr (pa_cons (pe_fld (pv 0) rfl) (pa_cons (pe_fld (pv 0) rfl) pa_nil))))
  (pss_cons (ps_fld (pv 3) (pe_fld (pv 0) rfl) rfl)
  (pss_cons (ps_expr (pe_mt m_bs hr (pv 3) (pa_cons (pe_ix ix_tup (pv 1) pe_int (fun _ _ => rfl)) pa_nil)))
  (pss_cons (ps_fld (pv 0) (pe_fld (pv 3) rfl) rfl)
  (pss_cons (ps_set (i := 4) S.nd rfl (Or.inl rfl) (pe_mt m_add hr (pv 0) (pa_cons (pe_tup (pa_cons pe_str (pa_cons (pe_fld (pv 3) rfl) (pa_cons (pv 2) (pa_cons pe_int pa_nil))))) pa_nil)))
  (pss_cons (ps_set (i := 5) S.nd rfl (Or.inl rfl) (pe_mt m_add hr (pv 0) (pa_cons (pe_tup (pa_cons pe_str (pa_cons pe_int pa_nil))) pa_nil)))
  (pss_cons (ps_asg (pe_tup (pa_cons pe_str (pa_cons (pe_fld (pv 3) rfl) (pa_cons (pv 2) (pa_cons (pe_callB call_len_seq (by rfl) T.b.len (by decide +kernel) (pa_cons (pe_fld (pv 0) rfl) pa_nil)) pa_nil))))) (pg_sub (pe_fld (pv 0) rfl) (pv 4) set_list))
  (pss_cons (ps_expr (pe_mt m_ts hr (pv 0) (pa_cons (pe_ix ix_tup (pv 1) pe_int (fun _ _ => rfl)) pa_nil)))
  (pss_one (ps_asg (pe_tup (pa_cons pe_str (pa_cons (pe_callB call_len_seq (by rfl) T.b.len (by decide +kernel) (pa_cons (pe_fld (pv 0) rfl) pa_nil)) pa_nil))) (pg_sub (pe_fld (pv 0) rfl) (pv 5) set_list))))))))))))), ?_⟩
    obtain ⟨dx, hp⟩ := t.hp
    obtain ⟨ax, xs, rfl, hs, r⟩ := dm.tup_inv
    obtain ⟨_, _, v2, v3, rfl, d0, d1, d2, d3⟩ := dvs4 r
    cases d0; cases d1
    refine q_asg ev_c fun H1 e1 => ?_
    refine q_when (b := false) ?_ (fun q => nomatch q) fun _ H2 e2 => ?_
    · exact Evl.et_is (et_test (ev_op (ev_ixt (j := 1) ev_v (sqX (X2.of e1) hs) rfl) ev_c (Evl.rv_val (z := .bl (!decide (V.non = V.non))) fun H3 _ Q q => ⟨rfl, q⟩))) (by simp)
    have e12 := Ex.trans e1 e2
    have hp2 := e12 _ _ hp
    refine q_asgX (go_make (ea_cons (ev_fz (i := 0) ev_v hp2 c rfl) (ea_cons (ev_fz (i := 3) ev_v hp2 c rfl) ea_nil)) fun x dxo H3 H4 e3 nx3 e4 hx => ?_)
    have e13 := Ex.trans e12 e3
    have t3 := t.grow e13
    have e34 : Ex H3 H4 := e4
    refine ⟨H3, N, nx, x, dxo, a.n, a.ce, rfl, hx, e4, nx3, sqL_of (mn_ex _ _ t3.hn), a.zc, t3.hz, t3.zt, t3.hce.mono mn_sub, fun b H5 hbp hbce hbz e5 nbc tb => ⟨rfl, ?_⟩⟩
    subst hbp
    dsimp only [gName]
    have nbpH : H b.p = none := Evl.fresh_back e13 nx3
    have nbcH : H b.c = none := Evl.fresh_back e13 nbc
    have e15 : Ex H H5 := Ex.trans e13 e5
    obtain ⟨dxb, hpb⟩ := tb.hp
    refine q_fld (i := 2) (ev_fz (i := 2) ev_v (e15 _ _ hp) c rfl) ev_v hpb cB fun H6 b6 h6 => ?_
    have tb6 : TrAt K CB N nx H6 b (([] : List Ins).map Ins.toD) i := tb.set_p b6 ⟨dxb, h6⟩
    have e16 : Ex H H6 := ExB.ex e15 nbpH b6
    have e1m6 : Ex (mn H a.w) (mn H6 b.w) := mn_into hbz e16 nbpH nbcH
    refine q_callM (go_meth ev_v h6 (fz_none (by decide +kernel)) (ea_cons (ev_ixt (j := 2) ev_v (sqX (X2.of e16) hs) rfl) ea_nil) fun H7 e7 => ?_)
    refine ⟨N, nx, b, [], is, i, i', ss, v2, rfl, tb6.grow e7, d2.mono (Ex.trans e1m6 (X2.of e7)), fun s hs => ⟨hd s hs, trivial⟩, h1, fun H8 x8 tb8 => ?_⟩
    have e18 : Ex H H8 := tb8.ex e16 nbpH nbcH (X2.trans (X2.of e7) x8) fun y o h hz => by
      cases h' : b.zc y with
      | none => exact absurd h' hz
      | some o' => rw [hbz] at h'; rw [← h, t.hz _ _ h']
    have t8 := t.grow e18
    obtain ⟨dx8, hp8⟩ := t8.hp
    obtain ⟨dxb8, hpb8⟩ := tb8.hp
    refine q_fld (i := 2) (ev_fz (i := 2) ev_v hpb8 cB rfl) ev_v hp8 c fun H9 b9 h9 => ?_
    have t9 : TrAt K C N nx H9 a (ts.map TI.toD) i' := t8.set_p b9 ⟨dx8, h9⟩
    obtain ⟨cv0, hc0, _⟩ := t.hc
    have nb1 : ¬ a.w b.p := fun w => by
      rcases w with w | w | w
      · rw [w, hp] at nbpH; cases nbpH
      · rw [w, hc0] at nbpH; cases nbpH
      · exact w (Evl.fresh_back t.hz nbpH)
    have nb3 : ¬ a.w b.c := fun w => by
      rcases w with w | w | w
      · rw [w, hp] at nbcH; cases nbcH
      · rw [w, hc0] at nbcH; cases nbcH
      · exact w (Evl.fresh_back t.hz nbcH)
    have x89 : X2 a.w H8 H9 := X2.ofP b9
    have hpb9 : mn H9 a.w b.p = some (.ins CB dxb8 (ksT.zip [.ref b.n, .ref b.c, .int i', .ref b.ce])) := x89 _ _ (by rw [mn_at nb1]; exact hpb8)
    obtain ⟨cvb, hcb8, rb8⟩ := tb8.hc
    have dI8 : DV K (mn H8 a.w) (.lst (is.map Ins.toD)) (.ref b.c) := .lst (by rw [mn_at nb3]; exact hcb8) ((rb8.mono mn_ex).tups t8.tups (by
      have : ∀ l : List Ins, D.fls (l.map Ins.toD) = true := fun l => by
        induction l with
        | nil => rfl
        | cons i l ih => show (i.toD.fl && D.fls (l.map Ins.toD)) = true; rw [Ins.fl, ih]; rfl
      exact this is))
    have dI9 := dI8.mono x89
    have x19 : X2 a.w H H9 := X2.trans (X2.of e18) x89
    have hml : (ts.map TI.toD).length = ts.length := List.length_map _
    refine q_asgX (go_addM c t9 ev_v (evm_u t9 (eu_tup (ea_cons ev_c (ea_cons (ev_fz (i := 1) ev_v (mn_ex _ _ hpb9) cB rfl) (ea_cons ev_v (ea_cons ev_c ea_nil)))) (by simp)) (.cons (.str _) (.cons dI9 (.cons .non (.cons (.int _) .nil))))) (d := (TI.blk is 0).toD) (by omega) (fun _ _ _ _ h => h) fun H10 x10 t10 => ?_)
    dsimp only [gName]
    rw [← tmap_add] at t10
    refine q_asgX (go_add c t10 ev_v (evd_tup (ds := [.str "jump", .int 0]) (evds_cons evd_str (evds_cons evd_int evds_nil))) (d := (TI.jump 0).toD) rfl (by rw [List.length_map, List.length_append, List.length_singleton]; omega) (fun _ _ _ _ h => h) fun H11 x11 t11 => ?_)
    dsimp only [gName]
    rw [← tmap_add] at t11
    have x9b := X2.trans x10 x11
    have eL : ts ++ [TI.blk is 0] ++ [TI.jump 0] = ts ++ [TI.blk is 0, TI.jump 0] := by simp
    have e0 : ((ts.map TI.toD).length : Int) = (ts.length : Int) := by rw [hml]
    have e1' : (((ts ++ [TI.blk is 0]).map TI.toD).length : Int) = ((ts.length + 1 : Nat) : Int) := by simp
    rw [eL] at t11
    rw [e0, e1']
    have hln : ∀ {σ : L2.St} {H5 : Hp} {js : List TI} (t5 : TrAt K C N nx H5 a (js.map TI.toD) i') (hσ : σ[0]? = some (some (.ref a.p))), Ev (tCB (fun xs H Q => ∃ p ys, xs = [.ref p] ∧ (SqL K H p ys ∨ SqT K H p ys) ∧ Q (.int ys.length) H) (tCons (tFld K (tVar 0) "code") tNil)) σ H5 (.int (js.length : Int)) := fun {σ H5 js} t5 hσ => by
      obtain ⟨dx5, hp5⟩ := t5.hp
      obtain ⟨cv5, hc5, r5⟩ := t5.hc
      have hl5 : cv5.length = js.length := by rw [← r5.length, List.length_map]
      rw [← hl5]
      exact ev_lenl (ev_fz (i := 1) (ev_v hσ) hp5 c rfl) (sqL_of hc5)
    refine q_asgX (evm_u t11 (eu_tup (ea_cons ev_c (ea_cons (ev_fz (i := 1) ev_v (mn_ex _ _ (x9b _ _ hpb9)) cB rfl) (ea_cons ev_v (ea_cons (hln t11 rfl) ea_nil)))) (by simp)) (.cons (.str _) (.cons (dI9.mono x9b) (.cons .non (.cons (.int _) .nil)))) H11 (Ex.refl _) _ fun u12 H12 e12' d12 => ?_)
    have t12 := t11.grow e12'
    refine g_code c t12 d12 ev_v (j := ts.length) ev_v (by simp) fun H13 x13 t13 => ?_
    have eL13 : ((ts ++ [TI.blk is 0, TI.jump 0]).map TI.toD).set ts.length (.tup [.str "block", .lst (is.map Ins.toD), .non, .int ((ts ++ [TI.blk is 0, TI.jump 0]).length : Int)]) = (ts ++ [TI.blk is (ts.length + 2), TI.jump 0]).map TI.toD := by
      rw [List.map_append, List.map_append, List.set_append_right _ _ (by simp)]
      simp [TI.toD]
    rw [eL13] at t13
    have x1d := X2.trans x19 (X2.trans x9b (X2.trans (X2.of e12') x13))
    obtain ⟨dx13, hp13⟩ := t13.hp
    refine q_callM (go_meth ev_v hp13 (fz_none (by decide +kernel)) (ea_cons (ev_ixt (j := 3) ev_v (sqX x1d hs) rfl) ea_nil) fun H14 e14 => ?_)
    refine ⟨N, nx, a, _, _, i', i', [], v3, rfl, t13.grow e14, d3.mono (X2.trans x1d (X2.of e14)), fun s hs => by simp at hs, rfl, fun H15 x15 t15 => ?_⟩
    have x1f := X2.trans x1d (X2.trans (X2.of e14) x15)
    refine s_asgX ((evd_tup (ds := [.str "jump", .int ((ts.length : Int) + 2)]) (evds_cons evd_str (evds_cons (evd_ev (Evl.ev_is (hln t15 rfl) (by simp)) (.int _)) evds_nil))).go (K := K) fun u16 H16 e16' d16 => ?_)
    have t16 := t15.grow e16'
    refine g_code c t16 (t16.flat (rfl : (TI.jump (ts.length + 2)).toD.fl = true) d16) ev_v (j := ts.length + 1) ev_v (by simp) fun H17 x17 t17 => ?_
    have eL17 : ((ts ++ [TI.blk is (ts.length + 2), TI.jump 0]).map TI.toD).set (ts.length + 1) (TI.jump (ts.length + 2)).toD = (ts ++ [TI.blk is (ts.length + 2), TI.jump (ts.length + 2)]).map TI.toD := by
      rw [List.map_append, List.map_append, List.set_append_right _ _ (by simp)]
      simp
    rw [eL17] at t17
    exact q H17 (X2.trans x1f (X2.trans (X2.of e16') x17)) t17
theorem ok_tstmt (T : Tx K mg aR) (c : ClsF K C ksT) (F : MethAt K C "statement" "ThreadTranslator.statement" sThreadTranslatorStatement) (m_add : Met P w K mg base 1 C "add" (spAdd K C)) (m_renamed : Met P w K mg base 1 C "renamed" (spRenamed K C))
    (m_block : Met P w K mg base 16 C "block" (spTStmt K C fun s => ∃ ss, s = .blk ss)) : Met P w K mg base 17 C "statement" (spTStmt K C fun _ => True) := by
  have S : FnScope ["self", "statement", "kind", "condition"] ["self", "statement"] (defScope sThreadTranslatorStatement) := ⟨rfl, rfl, rfl, by decide +kernel, rfl, by decide +kernel, by decide +kernel⟩
  refine met_mk c.cl F S (fun _ _ _ _ _ _ us hl => match us, hl with | [_, _], _ => rfl) (fun vs H Q E h => ?_) (fun f cdv A outer s H vs Q E hr h => ?_)
  · obtain ⟨N, nx, a, is, is', i, i', e, u, rfl, _⟩ := h
    rfl
  · obtain ⟨N, nx, a, ts, ts', i, i', st, u, rfl, t, dm, hd, _, htr, q⟩ := h
    refine ⟨_, (pss_cons (ps_set (i := 2) S.nd rfl (Or.inl rfl) (pe_ix ix_tup (pv 1) pe_int (fun _ _ => rfl)))
  (pss_one (ps_if (pt_cmpR op_eq (pv 2) pe_str (nomark _))
  pss_never
  (pss_one (ps_if (pt_cmpR op_in_seq (pv 2) (pe_tup (pa_cons pe_str (pa_cons pe_str pa_nil))) (by rfl))
  (pss_one (ps_expr (pe_mt m_add hr (pv 0) (pa_cons (pe_tup (pa_cons (pv 2) (pa_cons (pe_mt m_renamed hr (pv 0) (pa_cons (pe_ix ix_tup (pv 1) pe_int (fun _ _ => rfl)) pa_nil)) pa_nil))) pa_nil))))
  (pss_one (ps_if (pt_cmpR op_eq (pv 2) pe_str (nomark _))
  pss_never
  (pss_one (ps_if (pt_cmpR op_eq (pv 2) pe_str (nomark _))
  pss_never
  (pss_one (ps_expr (pe_mt m_block hr (pv 0) (pa_cons (pv 1) pa_nil))))))))))))), ?_⟩
    obtain ⟨dx, hp⟩ := t.hp
    have dm0 := dm
    cases st with
    | say e =>
      obtain ⟨ax, xs, rfl, hs, r⟩ := dm.tup_inv
      obtain ⟨_, v1, rfl, d0, d1⟩ := dvs2 r
      cases d0
      obtain ⟨f, h1, hl, h2⟩ : ∃ f, ren nx e = some f ∧ ts.length + 2 < 1000 ∧ some (ts ++ [TI.say f], i) = some (ts', i') := by
        dsimp only [trT] at htr
        split at htr
        · rename_i f h1
          split at htr
          · rename_i hl
            exact ⟨f, h1, hl, htr⟩
          · cases htr
        · cases htr
      cases h2
      refine q_asg (ev_ixt (j := 0) ev_v (sqX X2.refl hs) rfl) fun H1 e1 => ?_
      refine q_e (et_eqS ev_v ev_c) fun H2 e2 => ?_
      refine q_t (et_test (Evl.ev_is (ev_inU ev_v (eu_tup (ea_cons ev_c (ea_cons ev_c ea_nil)) (by decide)) rfl rfl) (by decide +kernel))) fun H3 e3 => ?_
      have e13 := Ex.trans (Ex.trans e1 e2) e3
      have t3 := t.grow e13
      refine s_dropM (go_add c t3 ev_v (evd_tup (ds := [.str "say", f.toD]) (evds_cons (evd_var (.str _)) (evds_cons (evd_meth (ds := [e.toD]) ev_v (e13 _ _ hp) (fz_none (by decide +kernel)) (evds_cons (evd_ev (ev_ixt (j := 1) ev_v (sqX (X2.of e13) hs) rfl) (dvX (X2.of e13) d1)) evds_nil) fun us H4 e4 r4 Q q => ?_) evds_nil))) (d := (TI.say f).toD)
        (by show (true && (f.toD.fl && true)) = true; rw [f.fl]; rfl) (by rw [List.length_map]; omega) (fun _ _ _ _ h => h) fun H6 x6 t6 => ?_)
      · obtain ⟨u4, rfl, d4⟩ := dvs1 r4
        exact ⟨N, nx, a, _, _, e, f, u4, rfl, t3.grow e4, d4, h1, q⟩
      · rw [← tmap_add] at t6
        exact q H6 (X2.trans (X2.of e13) x6) t6
    | blk ss =>
      obtain ⟨ax, xs, rfl, hs, r⟩ := dm.tup_inv
      obtain ⟨_, v1, v2, v3, rfl, d0, d1, d2, d3⟩ := dvs4 r
      cases d0
      refine q_asg (ev_ixt (j := 0) ev_v (sqX X2.refl hs) rfl) fun H1 e1 => ?_
      refine q_e (et_eqS ev_v ev_c) fun H2 e2 => ?_
      refine q_e (et_test (Evl.ev_is (ev_inU ev_v (eu_tup (ea_cons ev_c (ea_cons ev_c ea_nil)) (by decide)) rfl rfl) (by decide +kernel))) fun H3 e3 => ?_
      refine q_e (et_eqS ev_v ev_c) fun H4 e4 => ?_
      refine q_e (et_eqS ev_v ev_c) fun H5 e5 => ?_
      have e15 := Ex.trans (Ex.trans (Ex.trans (Ex.trans e1 e2) e3) e4) e5
      refine s_dropM (go_meth ev_v (e15 _ _ hp) (fz_none (by decide +kernel)) (ea_cons ev_v ea_nil) fun H6 e6 => ?_)
      have e16 := Ex.trans e15 e6
      exact ⟨N, nx, a, ts, ts', i, i', .blk ss, _, rfl, t.grow e16, dm0.mono (X2.of e16), hd, ⟨ss, rfl⟩, htr, fun H7 x7 t7 => q H7 (X2.trans (X2.of e16) x7) t7⟩
end
end HK


set_option maxRecDepth 100000
set_option maxHeartbeats 4000000
/-! F7: flat_thread; Thread(..), Program(..). -/
namespace HK
open PySem PySem.Spec PyProof.Rows L2
open Evl (Ex Ev EvT EvA EvL EvU RetV ev_var ev_c ev_op ev_un ea_nil ea_cons et_test et_B et_and et_or et_not ev_call ev_cb rv_I0 rv_I rv_eq rv_ixL rv_ixT ev_inU ev_niU eu_tup el_lst ev_len el_list q_when q_if q_asg q_drop s_asg s_ret s_if s_drop)
section
variable {K : PySem.W.Frag} {σ : L2.St} {H : Hp} {te tl : TE} {g : TG} {vs : List Nat}
/-- over a list, the target of any form -/
theorem el_lcLg {a : Addr} {xs : List V} (v : Nat → V) (Sg : Nat → L2.St) (h : Ev tl σ H (.ref a)) (hx : SqL K H a xs) (hz : xs.length ≤ 40000) (hg : ∀ i x H1 (R : L2.St → Hp → Prop), Ex H H1 → xs[i]? = some x → R (Sg i) H1 → g x (wipe σ vs) H1 R) (hw : ∀ i, wipe (Sg i) vs = wipe σ vs)
    (he : ∀ i x H1, Ex H H1 → xs[i]? = some x → Ev te (Sg i) H1 (v i)) : EvL (tLc (iList K tl) g tYes te vs) σ H (Evl.given xs.length (fun _ => true) v) := fun H0 e Q q => h H0 e _ fun H1 e1 => ⟨a, rfl, ⟨xs, Evl.ex_l (e.trans e1) hx⟩, fun Dl hD =>
  lc_list (xs := xs) (Evl.Cw H1 (fun _ => true) v Dl) ⟨hD, Ex.new hD, upd_same⟩ (fun i H' _ p => Evl.ex_l ((e.trans e1).trans p.2.1) hx) (fun i x H' hi p => hg i x H' _ ((e.trans e1).trans p.2.1) hi ⟨hw i, Evl.cw_turn p (by have := (List.getElem?_eq_some_iff.mp hi).1; omega) et_yes (fun _ => he i x H1 (e.trans e1) hi)⟩)
    (fun H' p => q Dl H' (Evl.fresh_back e1 p.1) (e1.trans p.2.1) p.2.2)⟩
end
structure Th where
  nx : Bool
  body : List TSt
def dVars (nx : Bool) : D := .lst (if nx then [.tup [.str "x", .int (-1)]] else [])
def ksTh : List Str := ["name", "variables", "body"]
def ThAt (K : PySem.W.Frag) (CT : Addr) (H : Hp) (p : Addr) (th : Th) : Prop := ∃ (dx va bo : Addr) (nm : V), H p = some (.ins CT dx (ksTh.zip [nm, .ref va, .ref bo])) ∧ DV K H (dVars th.nx) (.ref va) ∧ DV K H (.lst (th.body.map TSt.toD)) (.ref bo)
theorem ThAt.grow {K : PySem.W.Frag} {CT : Addr} {H H' : Hp} {p : Addr} {th : Th} (e : Ex H H') (h : ThAt K CT H p th) : ThAt K CT H' p th := by
  obtain ⟨dx, va, bo, nm, h1, h2, h3⟩ := h
  exact ⟨dx, va, bo, nm, e _ _ h1, h2.mono e, h3.mono e⟩
def Th.go (th : Th) (N : Int) : Option (List TI × Nat) := trTs th.nx N th.body [] (nmV th.nx).length
def Th.ok (th : Th) : Prop := ∀ s ∈ th.body, s.ok
def dFlat (ts : List TI) (k : Nat) : D := .tup [.lst (ts.map TI.toD), .int k]
def spFlat (K : PySem.W.Frag) (CT : Addr) : Sp := fun vs H Q _ => ∃ (th : Th) (p ce : Addr) (N : Int) (ts : List TI) (k : Nat), vs = [.ref p, .ref ce] ∧ ∃ zc : Hp, Ex zc H ∧ (∀ b o, zc b = some o → NoTup o) ∧ ThAt K CT (mn H fun b => zc b ≠ none) p th ∧ DV K (mn H fun b => zc b ≠ none) (dCells N) (.ref ce) ∧ th.ok ∧ th.go N = some (ts, k) ∧
  ∀ v H', Ex H H' → DV K (mn H' fun b => zc b ≠ none) (dFlat ts k) v → Q v H'
section
variable {P : Program} {w : World} {K : PySem.W.Frag} {mg : Str → Option Value} {base : Heap} {aR C CT f0 : Addr}
theorem ok_flat (T : Tx K mg aR) (c : ClsF K C ksT) (cT : ClsF K CT ksTh) (F : DefAt K mg "flat_thread" sFlatThread) (k_ThreadTranslator : Mak P w K mg base 2 "ThreadTranslator" C (spTrNew K C)) (m_statements : Met P w K mg base 18 C "statements" (spTStmts K C fun _ => True)) :
    Cal P w K mg base 19 "flat_thread" (spFlat K CT) := by
  have S : FnScope ["thread", "cells", "translator", "name", "value"] ["thread", "cells"] (defScope sFlatThread) := ⟨rfl, rfl, rfl, by decide +kernel, rfl, by decide +kernel, by decide +kernel⟩
  refine cal_mk F S (fun _ _ _ _ _ _ us hl => match us, hl with | [_, _], _ => rfl) (fun vs H Q E h => ?_) (fun f cdv A outer s H vs Q E hr h => ?_)
  · obtain ⟨th, p, ce, N, ts, k, rfl, _⟩ := h
    rfl
  · obtain ⟨th, p, ce, N, ts, k, rfl, zc, ez, zt, htm, hce, hok, hgo, q⟩ := h
    refine ⟨_, (pss_cons (ps_set (i := 2) S.nd rfl (Or.inl rfl) (pe_mk k_ThreadTranslator hr (pa_cons (pe_lc (own := [("name", 3), ("value", 4)]) (g := (gTup K 2 (gCons (gName 3) (gCons (gName 4) gNil)))) rfl S.nd (pi_list (pe_fld (pv 0) rfl)) (blkOk_by (own := [("name", 3), ("value", 4)]) (N := ["thread", "cells", "translator", "name", "value"]) (sc := defScope sFlatThread) (by decide +kernel)) (fun _ _ _ _ _ => (pg_tup rfl (pgs_cons (pg_name (i := 3) S.nd rfl (Or.inl rfl)) (pgs_cons (pg_name (i := 4) S.nd rfl (Or.inl rfl)) pgs_nil)))) (fun _ _ _ _ _ => pts_nil) (fun _ _ _ _ _ => (pv 3))) (pa_cons (pv 1) pa_nil))))
  (pss_cons (ps_expr (pe_mt m_statements hr (pv 2) (pa_cons (pe_fld (pv 0) rfl) pa_nil)))
  (pss_one (ps_ret (pe_tup (pa_cons (pe_fld (pv 2) rfl) (pa_cons (pe_fld (pv 2) rfl) pa_nil))))))), ?_⟩
    obtain ⟨dx, va, bo, nm, hp, dva, dbo⟩ := htm
    replace hp := mn_ex _ _ hp
    replace dva := dva.mono mn_ex
    obtain ⟨va', xs, hva', hx, r⟩ := dva.lst_inv
    cases hva'
    have hxl : Evl.given xs.length (fun _ => true) (fun _ => V.str "x") = nmV th.nx ∧ xs.length ≤ 1 ∧ (∀ (i : Nat) (x : V), xs[i]? = some x → ∃ at_ : Addr, x = .ref at_ ∧ SqT K H at_ [.str "x", .int (-1)]) := by
      cases hn : th.nx with
      | false =>
        rw [hn] at r
        cases r
        exact ⟨rfl, by decide, fun i x h => by simp at h⟩
      | true =>
        rw [hn] at r
        obtain ⟨v0, rfl, d0⟩ := dvs1 r
        obtain ⟨at_, ys, rfl, hs, r2⟩ := d0.tup_inv
        obtain ⟨_, _, rfl, d1, d2⟩ := dvs2 r2
        cases d1; cases d2
        refine ⟨rfl, by simp, fun i x h => ?_⟩
        cases i with
        | zero => exact ⟨at_, (Option.some.inj h).symm, hs⟩
        | succ i => simp at h
    obtain ⟨hx1, hx2, hx3⟩ := hxl
    refine q_asgX ?_
    refine ka_consL (ys := nmV th.nx) ?_ fun l H1 nl e1 hl => ?_
    · rw [← hx1]
      refine el_lcLg (fun _ => .str "x") (fun i => [some (.ref p), some (.ref ce), none, some (.str "x"), some (.int (-1))]) (ev_fz (i := 1) ev_v hp cT rfl) (sqL_of hx) (by omega) (fun i x H1 R e1 hxi hR => ?_) (fun i => rfl) fun i x H1 e1 hxi => ev_v
      obtain ⟨at_, rfl, hs⟩ := hx3 i x hxi
      exact ⟨at_, _, rfl, Same.sqT e1 hs, rfl, _, _, rfl, _, _, rfl, rfl, hR⟩
    refine ka_cons ev_v fun H2 e2 => ?_
    refine (ea_nil : EvA tNil _ _ []) H2 (Ex.refl _) _ fun H3 e3 => ?_
    intro x dxo nx3 nd3 ne3
    have e13 := Ex.trans e1 (Ex.trans e2 e3)
    have e34 : Ex H3 (upd (upd H3 dxo (.own x)) x (.ins C dxo [])) := Ex.trans (Ex.new nd3) (Ex.new (by rw [upd_ne ne3.symm]; exact nx3))
    refine ⟨H3, N, th.nx, x, dxo, l, ce, rfl, upd_same, e34, nx3, sqL_of (e3 _ _ (e2 _ _ hl)), zc, Ex.trans ez e13, zt, hce.mono (mn_mono e13), fun b H5 hbp hbce hbz e5 nbc tb => ⟨rfl, ?_⟩⟩
    subst hbp
    dsimp only [gName]
    have nbpH : H b.p = none := Evl.fresh_back e13 nx3
    have nbcH : H b.c = none := Evl.fresh_back e13 nbc
    have e15 : Ex H H5 := Ex.trans e13 e5
    obtain ⟨dxb, hpb⟩ := tb.hp
    refine q_callM (go_meth ev_v hpb (fz_none (by decide +kernel)) (ea_cons (ev_fz (i := 2) ev_v (e15 _ _ hp) cT rfl) ea_nil) fun H6 e6 => ?_)
    have e16 := Ex.trans e15 e6
    refine ⟨N, th.nx, b, [], ts, _, k, th.body, .ref bo, rfl, tb.grow e6, dbo.mono (by rw [← hbz]; exact mn_intoZ e16 nbpH nbcH), fun s hs => ⟨hok s hs, trivial⟩, hgo, fun H7 x7 t7 => ?_⟩
    have e17 : Ex H H7 := t7.ex e16 nbpH nbcH x7 fun y o h hz => by
      cases h' : b.zc y with
      | none => exact absurd h' hz
      | some o' => rw [hbz] at h'; rw [← h, ez _ _ h']
    obtain ⟨dx7, hp7⟩ := t7.hp
    obtain ⟨cv7, hc7, r7⟩ := t7.hc
    refine s_retX ?_
    have hE : EvU (tTup (tCons (tFld K (tVar 2) "code") (tCons (tFld K (tVar 2) "count") tNil))) [some (.ref p), some (.ref ce), some (.ref b.p), none, none] H7 [.ref b.c, .int k] := eu_tup (ea_cons (ev_fz (i := 1) ev_v hp7 c rfl) (ea_cons (ev_fz (i := 2) ev_v hp7 c rfl) ea_nil)) (by simp)
    refine hE H7 (Ex.refl _) _ fun t8 H8 n8 e8 h8 => q _ H8 (Ex.trans e17 e8) ?_
    have rS : DVs K (mn H8 fun x => zc x ≠ none) (ts.map TI.toD) cv7 := by
      have r := (r7.mono mn_sub)
      rw [hbz] at r
      exact r.mono (mn_mono e8)
    refine .tup (sqT_of (xs := [.ref b.c, .int k]) ?_) (.cons (.lst (xs := cv7) ?_ rS) (.cons (.int _) .nil))
    · rw [mn_at fun w => w (Evl.fresh_back (Ex.trans (Ex.trans ez e17) (Ex.refl _)) n8)]
      exact h8
    · rw [mn_at fun w => w (by rw [← hbz]; exact t7.zq)]
      exact e8 _ _ hc7
end
end HK


set_option maxRecDepth 100000
set_option maxHeartbeats 4000000
/-! F8: Thread(..), Program(..), World(..). -/
namespace HK
open PySem PySem.Spec PyProof.Rows L2
open Evl (Ex Ev EvT EvA EvL EvU RetV ev_var ev_c ev_op ev_un ea_nil ea_cons et_test et_B et_and et_or et_not ev_call ev_cb rv_I0 rv_I rv_eq rv_ixL rv_ixT ev_inU ev_niU eu_tup el_lst ev_len el_list q_when q_if q_asg q_drop s_asg s_ret s_if s_drop)
def ksP : List Str := ["cells", "threads"]
def ksWo : List Str := ["program", "codes", "counts"]
def ThAts (K : PySem.W.Frag) (CT : Addr) (H : Hp) (ps : List Addr) (ths : List Th) : Prop := ps.length = ths.length ∧ ∀ (i : Nat) (q : Addr) (th : Th), ps[i]? = some q → ths[i]? = some th → ThAt K CT H q th
def PgAt (K : PySem.W.Frag) (CP CT : Addr) (H : Hp) (p : Addr) (N : Int) (ths : List Th) : Prop := ∃ (dx ce tl : Addr) (ps : List Addr), H p = some (.ins CP dx (ksP.zip [.ref ce, .ref tl])) ∧ DV K H (dCells N) (.ref ce) ∧ H tl = some (.lst (ps.map V.ref)) ∧ ThAts K CT H ps ths
abbrev dCodes (cs : List (List TI × Nat)) : List D := cs.map fun c => .lst (c.1.map TI.toD)
abbrev dCounts (cs : List (List TI × Nat)) : List V := cs.map fun c => .int c.2
def WoAt (K : PySem.W.Frag) (CW CP CT : Addr) (H : Hp) (p : Addr) (N : Int) (ths : List Th) (cs : List (List TI × Nat)) : Prop := ∃ (dx pg cl kl : Addr) (cvs : List V), H p = some (.ins CW dx (ksWo.zip [.ref pg, .ref cl, .ref kl])) ∧ PgAt K CP CT H pg N ths ∧
  H cl = some (.lst cvs) ∧ DVs K H (dCodes cs) cvs ∧ H kl = some (.lst (dCounts cs))
theorem ThAts.grow {K : PySem.W.Frag} {CT : Addr} {H H' : Hp} {ps : List Addr} {ths : List Th} (e : Ex H H') (h : ThAts K CT H ps ths) : ThAts K CT H' ps ths := ⟨h.1, fun i q th a b => (h.2 i q th a b).grow e⟩
theorem PgAt.grow {K : PySem.W.Frag} {CP CT : Addr} {H H' : Hp} {p : Addr} {N : Int} {ths : List Th} (e : Ex H H') (h : PgAt K CP CT H p N ths) : PgAt K CP CT H' p N ths := by
  obtain ⟨dx, ce, tl, ps, h1, h2, h3, h4⟩ := h
  exact ⟨dx, ce, tl, ps, e _ _ h1, h2.mono e, e _ _ h3, h4.grow e⟩
theorem WoAt.grow {K : PySem.W.Frag} {CW CP CT : Addr} {H H' : Hp} {p : Addr} {N : Int} {ths : List Th} {cs : List (List TI × Nat)} (e : Ex H H') (h : WoAt K CW CP CT H p N ths cs) : WoAt K CW CP CT H' p N ths cs := by
  obtain ⟨dx, pg, cl, kl, cvs, h1, h2, h3, h4, h5⟩ := h
  exact ⟨dx, pg, cl, kl, cvs, e _ _ h1, h2.grow e, e _ _ h3, h4.mono e, e _ _ h5⟩
def GoAll (N : Int) (ths : List Th) (cs : List (List TI × Nat)) : Prop := cs.length = ths.length ∧ ∀ (i : Nat) (th : Th), ths[i]? = some th → th.ok ∧ ∃ c, cs[i]? = some c ∧ th.go N = some c
def spThNew (K : PySem.W.Frag) (CT : Addr) : Sp := fun vs H Q _ => ∃ (G : Hp) (p dx : Addr) (nm : V) (va bo : Addr) (th : Th), vs = [.ref p, nm, .ref va, .ref bo] ∧ H p = some (.ins CT dx []) ∧ Ex G H ∧ G p = none ∧ DV K G (dVars th.nx) (.ref va) ∧ DV K G (.lst (th.body.map TSt.toD)) (.ref bo) ∧
  ∀ H', Ex G H' → ThAt K CT H' p th → Q .non H'
def spPgNew (K : PySem.W.Frag) (CP CT : Addr) : Sp := fun vs H Q _ => ∃ (G : Hp) (p dx ce tl : Addr) (ps : List Addr) (N : Int) (ths : List Th), vs = [.ref p, .ref ce, .ref tl] ∧ H p = some (.ins CP dx []) ∧ Ex G H ∧ G p = none ∧ DV K G (dCells N) (.ref ce) ∧ G tl = some (.lst (ps.map V.ref)) ∧ ThAts K CT G ps ths ∧
  ∀ H', Ex G H' → PgAt K CP CT H' p N ths → Q .non H'
def spWoNew (K : PySem.W.Frag) (CW CP CT : Addr) : Sp := fun vs H Q _ => ∃ (G : Hp) (p dx pg : Addr) (N : Int) (ths : List Th) (cs : List (List TI × Nat)), vs = [.ref p, .ref pg] ∧ H p = some (.ins CW dx []) ∧ Ex G H ∧ G p = none ∧ PgAt K CP CT G pg N ths ∧ GoAll N ths cs ∧ ths.length < 1000 ∧
  ∀ H', Ex G H' → WoAt K CW CP CT H' p N ths cs → Q .non H'
abbrev sThreadInit : Stmt := inClass (top 47) 0
abbrev sProgramInit : Stmt := inClass (top 48) 0
abbrev sWorldInit : Stmt := inClass (top 41) 0
section
variable {P : Program} {w : World} {K : PySem.W.Frag} {mg : Str → Option Value} {base : Heap} {aR CW CP CT : Addr}
theorem ok_thnew (T : Tx K mg aR) (c : ClsF K CT ksTh) (F : InitAt K mg "Thread" CT "Thread.__init__" sThreadInit) : Mak P w K mg base 1 "Thread" CT (spThNew K CT) := by
  have S : FnScope ["self", "name", "variables", "body"] ["self", "name", "variables", "body"] (defScope sThreadInit) := ⟨rfl, rfl, rfl, by decide +kernel, rfl, by decide +kernel, by decide +kernel⟩
  refine mak_mk F S (fun _ _ _ _ _ _ us hl => match us, hl with | [_, _, _, _], _ => rfl) (fun vs H Q E h => ?_) (fun f cdv A outer s H vs Q E hr h => ?_)
  · obtain ⟨G, p, dx, nm, va, bo, th, rfl, _⟩ := h
    rfl
  · obtain ⟨G, p, dx, nm, va, bo, th, rfl, hp, eG, gp, dva, dbo, k⟩ := h
    have na : ∀ f, f ∈ ksTh → NoAttr K CT f := c.na
    refine ⟨_, (pss_cons (ps_fld (pv 0) (pv 1) rfl)
  (pss_cons (ps_fld (pv 0) (pe_callTy call_list_of (by rfl) T.b.list (by decide +kernel) (pa_cons (pv 2) pa_nil)) rfl)
  (pss_one (ps_fld (pv 0) (pe_callTy call_list_of (by rfl) T.b.list (by decide +kernel) (pa_cons (pv 3) pa_nil)) rfl)))), ?_⟩
    obtain ⟨_, xs, hh, hva, r1⟩ := dva.lst_inv; cases hh
    obtain ⟨_, ys, hh, hbo, r2⟩ := dbo.lst_inv; cases hh
    refine q_fldN (ks := []) (vs := []) ev_v ev_v hp c.cl (na _ (by decide +kernel)) fun H1 b1 p1 => ?_
    have g1 : Ex G H1 := ExB.ex eG gp b1
    refine q_fldNL (el_list ev_v (sqL_of (g1 _ _ hva))) ev_v p1 c.cl (na _ (by decide +kernel)) fun l2 H2 n2 b2 l2h p2 => ?_
    have g2 : Ex G H2 := ExB.ex g1 gp b2
    refine s_fldNL (el_list ev_v (sqL_of (g2 _ _ hbo))) ev_v p2 c.cl (na _ (by decide +kernel)) fun l3 H3 n3 b3 l3h p3 => ?_
    have g3 : Ex G H3 := ExB.ex g2 gp b3
    have q2 : l2 ≠ p := (ne_of_none p1 n2).symm
    exact k H3 g3 ⟨dx, l2, l3, nm, p3, .lst (b3 _ _ q2 l2h) (r1.mono g3), .lst l3h (r2.mono g3)⟩
theorem ok_pgnew (T : Tx K mg aR) (c : ClsF K CP ksP) (F : InitAt K mg "Program" CP "Program.__init__" sProgramInit) : Mak P w K mg base 1 "Program" CP (spPgNew K CP CT) := by
  have S : FnScope ["self", "cells", "threads"] ["self", "cells", "threads"] (defScope sProgramInit) := ⟨rfl, rfl, rfl, by decide +kernel, rfl, by decide +kernel, by decide +kernel⟩
  refine mak_mk F S (fun _ _ _ _ _ _ us hl => match us, hl with | [_, _, _], _ => rfl) (fun vs H Q E h => ?_) (fun f cdv A outer s H vs Q E hr h => ?_)
  · obtain ⟨G, p, dx, ce, tl, ps, N, ths, rfl, _⟩ := h
    rfl
  · obtain ⟨G, p, dx, ce, tl, ps, N, ths, rfl, hp, eG, gp, dce, htl, hths, k⟩ := h
    have na : ∀ f, f ∈ ksP → NoAttr K CP f := c.na
    refine ⟨_, (pss_cons (ps_fld (pv 0) (pe_callTy call_list_of (by rfl) T.b.list (by decide +kernel) (pa_cons (pv 1) pa_nil)) rfl)
  (pss_one (ps_fld (pv 0) (pe_callTy call_list_of (by rfl) T.b.list (by decide +kernel) (pa_cons (pv 2) pa_nil)) rfl))), ?_⟩
    obtain ⟨_, xs, hh, hce, r1⟩ := dce.lst_inv; cases hh
    refine q_fldNL (ks := []) (vs := []) (el_list ev_v (sqL_of (eG _ _ hce))) ev_v hp c.cl (na _ (by decide +kernel)) fun l1 H1 n1 b1 l1h p1 => ?_
    have g1 : Ex G H1 := ExB.ex eG gp b1
    refine s_fldNL (el_list ev_v (sqL_of (g1 _ _ htl))) ev_v p1 c.cl (na _ (by decide +kernel)) fun l2 H2 n2 b2 l2h p2 => ?_
    have g2 : Ex G H2 := ExB.ex g1 gp b2
    have q1 : l1 ≠ p := (ne_of_none hp n1).symm
    exact k H2 g2 ⟨dx, l1, l2, ps, p2, .lst (b2 _ _ q1 l1h) (r1.mono g2), l2h, hths.grow g2⟩
/-- two objects alone -/
noncomputable def two (H : Hp) (a b : Addr) : Hp := fun x => open Classical in if x = a ∨ x = b then H x else none
abbrev W2 (a b : Addr) : Addr → Prop := fun x => x = a ∨ x = b
theorem two_set {H : Hp} {a b : Addr} {o1 o2 : HO} (h1 : H a = some o1) (h2 : H b = some o2) : (fun x => two H a b x ≠ none) = W2 a b := funext fun x => propext ⟨fun h => by
    unfold two at h
    split at h
    · assumption
    · exact absurd rfl h, fun h => by
    unfold two
    rw [if_pos h]
    rcases h with rfl | rfl
    · rw [h1]; intro z; cases z
    · rw [h2]; intro z; cases z⟩
theorem two_ex {H : Hp} {a b : Addr} : Ex (two H a b) H := fun x o h => by
  unfold two at h
  split at h
  · exact h
  · cases h
theorem two_nt {H : Hp} {a b : Addr} {o1 o2 : HO} (h1 : H a = some o1) (h2 : H b = some o2) (n1 : NoTup o1) (n2 : NoTup o2) : ∀ x o, two H a b x = some o → NoTup o := fun x o h => by
  unfold two at h
  split at h
  · rename_i q
    rcases q with rfl | rfl
    · rw [h1] at h; cases h; exact n1
    · rw [h2] at h; cases h; exact n2
  · cases h
theorem ok_wonew (T : Tx K mg aR) (c : ClsF K CW ksWo) (cP : ClsF K CP ksP) (F : InitAt K mg "World" CW "World.__init__" sWorldInit) (c_flat_thread : Cal P w K mg base 19 "flat_thread" (spFlat K CT)) : Mak P w K mg base 20 "World" CW (spWoNew K CW CP CT) := by
  have S : FnScope ["self", "program", "thread", "code", "count"] ["self", "program"] (defScope sWorldInit) := ⟨rfl, rfl, rfl, by decide +kernel, rfl, by decide +kernel, by decide +kernel⟩
  refine mak_mk F S (fun _ _ _ _ _ _ us hl => match us, hl with | [_, _], _ => rfl) (fun vs H Q E h => ?_) (fun f cdv A outer s H vs Q E hr h => ?_)
  · obtain ⟨G, p, dx, pg, N, ths, cs, rfl, _⟩ := h
    rfl
  · obtain ⟨G, p, dx, pg, N, ths, cs, rfl, hp, eG, gp, hpg, hgo, hlt, k⟩ := h
    have na : ∀ f, f ∈ ksWo → NoAttr K CW f := c.na
    refine ⟨_, (pss_cons (ps_fld (pv 0) (pv 1) rfl)
  (pss_cons (ps_fld (pv 0) (pe_lst pa_nil) rfl)
  (pss_cons (ps_fld (pv 0) (pe_lst pa_nil) rfl)
  (pss_one (ps_for PassesOwn.never rfl (pi_list (pe_fld (pv 1) rfl)) (pg_name (i := 2) S.nd rfl (Or.inl rfl))
  (pss_cons (ps_asg (pe_c c_flat_thread hr (pa_cons (pv 2) (pa_cons (pe_fld (pv 1) rfl) pa_nil))) (pg_tup rfl (pgs_cons (pg_name (i := 3) S.nd rfl (Or.inl rfl)) (pgs_cons (pg_name (i := 4) S.nd rfl (Or.inl rfl)) pgs_nil))))
  (pss_cons (ps_expr (pe_bm PySem.F.plainAttrs_list PySem.F.slot_list_append PySem.F.type_list_append mt_append (pe_fld (pv 0) rfl) (pa_cons (pv 3) pa_nil)))
  (pss_one (ps_expr (pe_bm PySem.F.plainAttrs_list PySem.F.slot_list_append PySem.F.type_list_append mt_append (pe_fld (pv 0) rfl) (pa_cons (pv 4) pa_nil))))))))))), ?_⟩
    refine q_fldN (ks := []) (vs := []) ev_v ev_v hp c.cl (na _ (by decide +kernel)) fun H1 b1 p1 => ?_
    have g1 : Ex G H1 := ExB.ex eG gp b1
    refine q_fldNL (el_lst ea_nil (by decide)) ev_v p1 c.cl (na _ (by decide +kernel)) fun cl H2 n2 b2 h2 p2 => ?_
    have g2 : Ex G H2 := ExB.ex g1 gp b2
    refine q_fldNL (el_lst ea_nil (by decide)) ev_v p2 c.cl (na _ (by decide +kernel)) fun kl H3 n3 b3 h3 p3 => ?_
    have g3 : Ex G H3 := ExB.ex g2 gp b3
    have gcl : G cl = none := Evl.fresh_back g1 n2
    have gkl : G kl = none := Evl.fresh_back g2 n3
    have q2 : cl ≠ p := (ne_of_none p1 n2).symm
    have q3 : kl ≠ p := (ne_of_none p2 n3).symm
    have qck : cl ≠ kl := ne_of_none h2 n3
    have h2' : H3 cl = some (.lst []) := b3 _ _ q2 h2
    have gm : Ex G (mn H3 (W2 cl kl)) := fun b o h => by
      rw [mn_at fun w => by
        rcases w with rfl | rfl
        · rw [gcl] at h; cases h
        · rw [gkl] at h; cases h]
      exact g3 _ _ h
    have hpm : mn H3 (W2 cl kl) p = some (.ins CW dx (ksWo.zip [.ref pg, .ref cl, .ref kl])) := by
      rw [mn_at fun w => by
        rcases w with w | w
        · exact q2 w.symm
        · exact q3 w.symm]
      exact p3
    have hpgm := hpg.grow gm
    obtain ⟨dxg, ce, tl, ps, hpi, hce, htl, hths⟩ := hpgm
    refine Evl.s_forLn (ev_fz (i := 1) ev_v (mn_ex _ _ hpi) cP rfl) (sqL_of (mn_ex _ _ htl)) (fun i σ2 H2 => X2 (W2 cl kl) H3 H2 ∧ ∃ v1 v2 v3 cvs, σ2 = [some (.ref p), some (.ref pg), v1, v2, v3] ∧ H2 cl = some (.lst cvs) ∧ DVs K (mn H2 (W2 cl kl)) (dCodes (cs.take i)) cvs ∧ H2 kl = some (.lst (dCounts (cs.take i))))
      (fun H4 e4 => ⟨X2.of e4, none, none, none, [], rfl, e4 _ _ h2', .nil, e4 _ _ h3⟩) (fun i σ2 H2 _ h => sqL_of (mn_ex _ _ (h.1 _ _ htl))) (fun i x σ2 H4 hx h => ?_) (fun σ2 H4 h => ?_)
    · obtain ⟨x4, v1, v2, v3, cvs, rfl, hcl, rcl, hkl⟩ := h
      have hil : i < ps.length := by
        have := (List.getElem?_eq_some_iff.mp hx).1
        rwa [List.length_map] at this
      have hit : i < ths.length := by rw [← hths.1]; exact hil
      have hxe : x = .ref ps[i] := by
        rw [List.getElem?_map, List.getElem?_eq_getElem hil] at hx
        exact (Option.some.inj hx).symm
      subst hxe
      obtain ⟨hok, ⟨ts, k'⟩, hci, hgoi⟩ := hgo.2 i ths[i] (List.getElem?_eq_getElem hit)
      have hth : ThAt K CT (mn H3 (W2 cl kl)) ps[i] ths[i] := hths.2 i _ _ (List.getElem?_eq_getElem hil) (List.getElem?_eq_getElem hit)
      have hset := two_set hcl hkl
      refine q_asgX (go_call (ea_cons ev_v (ea_cons (ev_fz (i := 0) ev_v (mn_ex _ _ (x4 _ _ hpi)) cP rfl) ea_nil)) fun H5 e5 => ?_)
      refine ⟨ths[i], ps[i], ce, N, ts, k', rfl, two H4 cl kl, Ex.trans two_ex e5, two_nt hcl hkl nt_lst nt_lst, ?_, ?_, hok, hgoi, fun v H6 e6 d6 => ?_⟩
      · rw [hset]; exact hth.grow (X2.trans x4 (X2.of e5))
      · rw [hset]; exact hce.mono (X2.trans x4 (X2.of e5))
      · rw [hset] at d6
        have e46 := Ex.trans e5 e6
        obtain ⟨at_, xs, rfl, hs, r⟩ := d6.tup_inv
        obtain ⟨vc, vk, rfl, dc, dk⟩ := dvs2 r
        cases dk
        refine ⟨at_, _, rfl, Same.sqT mn_ex hs, rfl, ?_⟩
        refine ⟨_, _, rfl, _, _, rfl, rfl, ?_⟩
        have hlen : cvs.length ≤ i := by
          rw [← rcl.length, List.length_map, List.length_take]
          omega
        have hp6 : H6 p = some (.ins CW dx (ksWo.zip [.ref pg, .ref cl, .ref kl])) := mn_ex _ _ (X2.trans x4 (X2.of e46) _ _ hpm)
        have x36 : X2 (W2 cl kl) H3 H6 := X2.trans x4 (X2.of e46)
        refine q_appl (e46 _ _ hcl) (ev_fz (i := 1) ev_v hp6 c rfl) ev_v (by omega) fun H7 b7 h7 => ?_
        have x37 : X2 (W2 cl kl) H3 H7 := X2.trans x36 (X2.ofP b7)
        have hp7 : H7 p = some (.ins CW dx (ksWo.zip [.ref pg, .ref cl, .ref kl])) := mn_ex _ _ (x37 _ _ hpm)
        refine s_appl (b7 _ _ qck.symm (e46 _ _ hkl)) (ev_fz (i := 2) ev_v hp7 c rfl) ev_v (by rw [List.length_map, List.length_take]; omega) fun H8 b8 h8 => ?_
        have x68 : X2 (W2 cl kl) H6 H8 := X2.trans (X2.ofP b7) (X2.ofP b8 (.inr rfl))
        have htk : cs.take (i + 1) = cs.take i ++ [(ts, k')] := by
          rw [List.take_add_one, hci]
          rfl
        refine ⟨X2.trans x36 x68, _, _, _, cvs ++ [vc], rfl, b8 _ _ qck h7, ?_, ?_⟩
        · rw [htk]
          unfold dCodes
          rw [List.map_append]
          exact (rcl.mono (X2.trans (X2.of e46) x68)).append (.single (dc.mono x68))
        · rw [h8, htk]
          unfold dCounts
          rw [List.map_append]
          rfl
    · obtain ⟨x4, v1, v2, v3, cvs, rfl, hcl, rcl, hkl⟩ := h
      have hall : cs.take (ps.map V.ref).length = cs := by
        rw [List.length_map, hths.1, ← hgo.1, List.take_length]
      rw [hall] at rcl hkl
      exact k H4 (Ex.trans (Ex.trans gm x4) mn_ex) ⟨dx, pg, cl, kl, cvs, mn_ex _ _ (x4 _ _ hpm), hpg.grow (Ex.trans (Ex.trans gm x4) mn_ex), hcl, rcl.mono mn_ex, hkl⟩
end
end HK


set_option maxRecDepth 100000
set_option maxHeartbeats 4000000
/-! W1: World.one_instruction, going_on. -/
namespace HK
open PySem PySem.Spec PyProof.Rows L2
open Evl (Ex Ev EvT EvA EvL EvU RetV ev_var ev_c ev_op ev_un ea_nil ea_cons et_test et_B et_and et_or et_not ev_call ev_cb rv_I0 rv_I rv_eq rv_ixL rv_ixT ev_inU ev_niU eu_tup el_lst ev_len el_list q_when q_if q_asg q_drop s_asg s_ret s_if s_drop)
structure Tr where
  at_ : Nat
  fr : List Int
  said : List Int
  on : Bool
def Tr.toD (t : Tr) : D := .tup [.int t.at_, .tup (t.fr.map D.int), .int (-1), .tup (t.said.map D.int), .str (if t.on then "on" else "ended")]
def goM (code : List TI) (fr : List Int) : Nat → Nat → List Int → Option (Nat × List Int)
  | 0, _, _ => none
  | m + 1, i, said => match code[i]? with
    | none => some (i, said)
    | some (.blk _ _) => some (i, said)
    | some (.jump t) => goM code fr m t said
    | some (.say f) => match evalF (fr.map V.int) f with
      | some z => if said.length < 1000 ∧ f.dep ≤ 2 then goM code fr m (i + 1) (said ++ [z]) else none
      | none => none
section
variable {K : PySem.W.Frag} {σ : L2.St} {H : Hp} {te : TE}
theorem dvs_ints : ∀ xs : List Int, DVs K H (xs.map D.int) (xs.map V.int)
  | [] => .nil
  | x :: r => .cons (.int x) (dvs_ints r)
theorem dvs_ints_inv : ∀ {xs : List Int} {vs : List V}, DVs K H (xs.map D.int) vs → vs = xs.map V.int
  | [], _, .nil => rfl
  | x :: r, _, .cons (.int _) t => by rw [dvs_ints_inv t]; rfl
theorem el_listT {p : Addr} {xs : List V} (ha : Ev te σ H (.ref p)) (h : SqT K H p xs) : EvL (tCB (Evl.rListS K) (tCons te tNil)) σ H xs := fun H1 e Q q =>
  ha H1 e _ fun H2 e2 => ⟨p, xs, rfl, .inr (Same.sqT (Ex.trans e e2) h), fun l hl => q l _ (Evl.fresh_back e2 hl) (Ex.trans e2 (Ex.new hl)) upd_same⟩
/-- tuple(xs), xs a list -/
theorem eu_tupL {p : Addr} {xs : List V} (ha : Ev te σ H (.ref p)) (h : SqL K H p xs) : EvU (tCB (fun xs H Q => ∃ p ys, xs = [.ref p] ∧ ((SqL K H p ys ∧ ∀ l, H l = none → Q (.ref l) (upd H l (.tup ys))) ∨ (SqT K H p ys ∧ Q (.ref p) H))) (tCons te tNil)) σ H xs := fun H1 e Q q =>
  ha H1 e _ fun H2 e2 => ⟨p, xs, rfl, .inl ⟨Same.seq (Ex.trans e e2) h, fun l hl => q l _ (Evl.fresh_back e2 hl) (Ex.trans e2 (Ex.new hl)) upd_same⟩⟩
theorem evd_u {xs : List V} {ds : List D} (h : EvU te σ H xs) (r : DVs K H ds xs) : EvD K te σ H (.tup ds) := fun H1 e Q q => h H1 e _ fun p H2 _ e2 hp => q _ H2 e2 (.tup (sqT_of hp) (r.mono (Ex.trans e e2)))
end
abbrev sWorldOneInstruction : Stmt := inClass (top 41) 3
abbrev sWorldGoingOn : Stmt := inClass (top 41) 2
def spOne (K : PySem.W.Frag) : Sp := fun vs H Q _ => ∃ (slf u : V) (fl sl : Addr), vs = [slf, u, .ref fl, .ref sl] ∧ ((∃ t : Nat, DV K H (TI.jump t).toD u ∧ RetV (.int t) H Q) ∨
  ∃ (f : Fx) (ws fr : List V) (z : Int), DV K H (TI.say f).toD u ∧ SqL K H fl fr ∧ H sl = some (.lst ws) ∧ evalF fr f = some z ∧ f.dep ≤ 2 ∧ ws.length < 1000 ∧ ∀ H', ExB sl H H' → H' sl = some (.lst (ws ++ [.int z])) → Q .non H')
def spGo (K : PySem.W.Frag) (CW CP CT : Addr) : Sp := fun vs H Q _ => ∃ (p : Addr) (N : Int) (ths : List Th) (cs : List (List TI × Nat)) (n k i i' fu : Nat) (fa sa : Addr) (code : List TI) (fr said said' : List Int), vs = [.ref p, .int n, .int i, .ref fa, .int (-1), .ref sa] ∧ WoAt K CW CP CT H p N ths cs ∧ cs[n]? = some (code, k) ∧
  SqL K H fa (fr.map V.int) ∧ SqT K H sa (said.map V.int) ∧ goM code fr fu i said = some (i', said') ∧ Ret K H Q (Tr.toD ⟨i', fr, said', decide (i' < code.length)⟩)
section
variable {P : Program} {w : World} {K : PySem.W.Frag} {mg : Str → Option Value} {base : Heap} {aR CW CP CT : Addr}
theorem ok_one (T : Tx K mg aR) (c : ClsF K CW ksWo) (F : MethAt K CW "one_instruction" "World.one_instruction" sWorldOneInstruction) (c_evaluate_slots : Cal P w K mg base 5 "evaluate_slots" (spEval K 2)) : Met P w K mg base 6 CW "one_instruction" (spOne K) := by
  have S : FnScope ["self", "instruction", "frame", "said", "kind", "value"] ["self", "instruction", "frame", "said"] (defScope sWorldOneInstruction) := ⟨rfl, rfl, rfl, by decide +kernel, rfl, by decide +kernel, by decide +kernel⟩
  refine met_mk c.cl F S (fun _ _ _ _ _ _ us hl => match us, hl with | [_, _, _, _], _ => rfl) (fun vs H Q E h => ?_) (fun f cdv A outer s H vs Q E hr h => ?_)
  · obtain ⟨slf, u, fl, sl, rfl, _⟩ := h
    rfl
  · obtain ⟨slf, u, fl, sl, rfl, h⟩ := h
    refine ⟨_, (pss_cons (ps_set (i := 4) S.nd rfl (Or.inl rfl) (pe_ix ix_tup (pv 1) pe_int (fun _ _ => rfl)))
  (pss_cons (ps_if (pt_cmpR op_eq (pv 4) pe_str (nomark _))
  (pss_one (ps_ret (pe_ix ix_tup (pv 1) pe_int (fun _ _ => rfl))))
  pss_nil)
  (pss_cons (ps_if (pt_cmpR op_eq (pv 4) pe_str (nomark _))
  pss_never
  pss_nil)
  (pss_cons (ps_if (pt_cmpR op_eq (pv 4) pe_str (nomark _))
  (pss_cons (ps_expr (pe_bm PySem.F.plainAttrs_list PySem.F.slot_list_append PySem.F.type_list_append mt_append (pv 3) (pa_cons (pe_c c_evaluate_slots hr (pa_cons (pe_ix ix_tup (pv 1) pe_int (fun _ _ => rfl)) (pa_cons (pv 2) pa_nil))) pa_nil)))
  (pss_one (ps_ret pe_non)))
  pss_nil)
  pss_never)))), ?_⟩
    rcases h with ⟨t, d, q⟩ | ⟨f, ws, fr, z, d, hf, hl, hz, hd, hlt, q⟩
    · obtain ⟨ax, xs, rfl, hs, r⟩ := d.tup_inv
      obtain ⟨_, _, rfl, d0, d1⟩ := dvs2 r
      cases d0; cases d1
      refine q_asg (ev_ixt (j := 0) ev_v hs rfl) fun H1 e1 => ?_
      refine q_when (b := true) (et_eqS ev_v ev_c) (fun _ H2 e2 => ?_) (fun q => nomatch q)
      exact s_ret (ev_ixt (j := 1) ev_v (Same.sqT (Ex.trans e1 e2) hs) rfl) fun H3 e3 => q H3 (Ex.trans (Ex.trans e1 e2) e3)
    · obtain ⟨ax, xs, rfl, hs, r⟩ := d.tup_inv
      obtain ⟨_, v1, rfl, d0, d1⟩ := dvs2 r
      cases d0
      refine q_asg (ev_ixt (j := 0) ev_v hs rfl) fun H1 e1 => ?_
      refine q_when (b := false) (et_eqS ev_v ev_c) (fun q => nomatch q) fun _ H2 e2 => ?_
      refine q_when (b := false) (et_eqS ev_v ev_c) (fun q => nomatch q) fun _ H3 e3 => ?_
      refine q_when (b := true) (et_eqS ev_v ev_c) (fun _ H4 e4 => ?_) (fun q => nomatch q)
      have e14 := Ex.trans (Ex.trans (Ex.trans e1 e2) e3) e4
      refine q_appl (e14 _ _ hl) ev_v (ev_calln (z := .int z) (ea_cons (ev_ixt (j := 1) ev_v (Same.sqT e14 hs) rfl) (ea_cons ev_v ea_nil)) fun H5 e5 Q q E => ⟨f, v1, fl, fr, z, rfl, d1.mono (Ex.trans e14 e5), Same.seq (Ex.trans e14 e5) hf, hd, hz, q⟩) (by omega) fun H5 b5 h5 => ?_
      exact s_ret ev_c fun H6 e6 => q H6 (ExB.trans (ExB.trans (ExB.of e14) b5) (ExB.of e6)) (e6 _ _ h5)
theorem ok_go (T : Tx K mg aR) (c : ClsF K CW ksWo) (F : MethAt K CW "going_on" "World.going_on" sWorldGoingOn) (m_one_instruction : Met P w K mg base 6 CW "one_instruction" (spOne K)) : Met P w K mg base 7 CW "going_on" (spGo K CW CP CT) := by
  have S : FnScope ["self", "number", "at", "frame", "ticks", "said", "code", "current", "words", "after", "fault", "mode"] ["self", "number", "at", "frame", "ticks", "said"] (defScope sWorldGoingOn) := ⟨rfl, rfl, rfl, by decide +kernel, rfl, by decide +kernel, by decide +kernel⟩
  refine met_mk c.cl F S (fun _ _ _ _ _ _ us hl => match us, hl with | [_, _, _, _, _, _], _ => rfl) (fun vs H Q E h => ?_) (fun f cdv A outer s H vs Q E hr h => ?_)
  · obtain ⟨p, N, ths, cs, n, k, i, i', fu, fa, sa, code, fr, said, said', rfl, _⟩ := h
    rfl
  · obtain ⟨p, N, ths, cs, n, k, i, i', fu, fa, sa, code, fr, said, said', rfl, W, hcs, hfa, hsa, hgo, q⟩ := h
    refine ⟨_, (pss_cons (ps_set (i := 6) S.nd rfl (Or.inl rfl) (pe_ix ix_list (pe_fld (pv 0) rfl) (pv 1) (fun _ _ => rfl)))
  (pss_cons (ps_set (i := 7) S.nd rfl (Or.inl rfl) (pe_callTy call_list_of (by rfl) T.b.list (by decide +kernel) (pa_cons (pv 3) pa_nil)))
  (pss_cons (ps_set (i := 8) S.nd rfl (Or.inl rfl) (pe_callTy call_list_of (by rfl) T.b.list (by decide +kernel) (pa_cons (pv 5) pa_nil)))
  (pss_cons (ps_while PassesOwn.never (PW.pt (pw_and (pt_cmpR op_lt (pv 2) (pe_callB call_len_seq (by rfl) T.b.len (by decide +kernel) (pa_cons (pv 6) pa_nil)) (nomark _)) (pw_and1 (pt_cmpR op_notIn_seq (pe_ix ix_tup (pe_ix ix_list (pv 6) (pv 2) (fun _ _ => rfl)) pe_int (fun _ _ => rfl)) (pe_tup (pa_cons pe_str (pa_cons pe_str pa_nil))) (by rfl)))))
  (pss_cons (ps_try_thru0 (pss_one (ps_set (i := 9) S.nd rfl (Or.inl rfl) (pe_mt m_one_instruction hr (pv 0) (pa_cons (pe_ix ix_list (pv 6) (pv 2) (fun _ _ => rfl)) (pa_cons (pv 7) (pa_cons (pv 8) pa_nil)))))))
  (pss_one (ps_set (i := 2) S.nd rfl (Or.inl rfl) (pe_ifExp (pt_cmpR op_isN (pv 9) pe_non (nomark _)) (pe_op op_add (pv 2) pe_int) (pv 9))))))
  (pss_cons (ps_set (i := 11) S.nd rfl (Or.inl rfl) (pe_ifExp (pt_cmpR op_ge (pv 2) (pe_callB call_len_seq (by rfl) T.b.len (by decide +kernel) (pa_cons (pv 6) pa_nil)) (nomark _)) pe_str pe_str))
  (pss_one (ps_ret (pe_tup (pa_cons (pv 2) (pa_cons (pe_callTy call_tuple_of (by rfl) T.b.tuple (by decide +kernel) (pa_cons (pv 7) pa_nil)) (pa_cons (pv 4) (pa_cons (pe_callTy call_tuple_of (by rfl) T.b.tuple (by decide +kernel) (pa_cons (pv 8) pa_nil)) (pa_cons (pv 11) pa_nil))))))))))))), ?_⟩
    obtain ⟨dx, pg, cl, kl, cvs, hp, hpg, hcl, rcl, hkl⟩ := W
    obtain ⟨vc, hvc, dc⟩ := DVs.map_at rcl hcs
    obtain ⟨ca, cv, rfl, hca, rc⟩ := dc.lst_inv
    have hlen : cv.length = code.length := by rw [← rc.length, List.length_map]
    refine q_asg (ev_ixl (ev_fz (i := 1) ev_v hp c rfl) (sqL_of hcl) ev_v hvc) fun H1 e1 => ?_
    refine Evl.q_asgL (el_list ev_v (Same.seq e1 hfa)) fun cu H2 n2 e2 h2 => ?_
    refine Evl.q_asgL (el_listT ev_v (Same.sqT (Ex.trans e1 e2) hsa)) fun wl H3 n3 e3 h3 => ?_
    have e13 := Ex.trans (Ex.trans e1 e2) e3
    have ncw : cu ≠ wl := ne_of_none h2 n3
    have nwl : H wl = none := Evl.fresh_back (Ex.trans e1 e2) n3
    refine Evl.q_while (fun m σ H' => ∃ (i0 : Nat) (sd : List Int) (v9 v10 v11 : Option V), σ = [some (.ref p), some (.int n), some (.int i0), some (.ref fa), some (.int (-1)), some (.ref sa), some (.ref ca), some (.ref cu), some (.ref wl), v9, v10, v11] ∧
      Ex H H' ∧ H' cu = some (.lst (fr.map V.int)) ∧ H' wl = some (.lst (sd.map V.int)) ∧ goM code fr m i0 sd = some (i', said')) fu ⟨i, said, none, none, none, rfl, e13, e3 _ _ h2, h3, hgo⟩ ?_
    rintro m σ H4 ⟨i0, sd, v9, v10, v11, rfl, e4, hcu, hwl, hg⟩
    cases m with
    | zero => cases hg
    | succ m =>
      have hlt : EvT (tTest (tOp (rI0 fun i j => .bl (decide (i < j))) (tVar 2) (tCB (fun xs H Q => ∃ p ys, xs = [.ref p] ∧ (SqL K H p ys ∨ SqT K H p ys) ∧ Q (.int ys.length) H) (tCons (tVar 6) tNil)))) [some (.ref p), some (.int n), some (.int i0), some (.ref fa), some (.int (-1)), some (.ref sa), some (.ref ca), some (.ref cu), some (.ref wl), v9, v10, v11] H4 (decide (i0 < code.length)) :=
        Evl.et_is (et_test (ev_op ev_v (ev_lenl ev_v (sqL_of (e4 _ _ hca))) rv_I0)) (by rw [hlen]; exact decide_eq_decide.mpr (by omega))
      have hexit : (code[i0]? = none ∨ ∃ is t, code[i0]? = some (.blk is t)) ∨ (∃ t, code[i0]? = some (.jump t)) ∨ ∃ f, code[i0]? = some (.say f) := by
        cases h : code[i0]? with
        | none => exact .inl (.inl rfl)
        | some x => cases x with
          | blk is t => exact .inl (.inr ⟨is, t, rfl⟩)
          | jump t => exact .inr (.inl ⟨t, rfl⟩)
          | say f => exact .inr (.inr ⟨f, rfl⟩)
      have hsome : ∀ x, code[i0]? = some x → i0 < code.length := fun x h => (List.getElem?_eq_some_iff.mp h).1
      have hkind : ∀ x : TI, code[i0]? = some x → ∀ (kd : Str) (ds : List D), x.toD = .tup (.str kd :: ds) → ∃ u ax xs, cv[i0]? = some u ∧ u = .ref ax ∧ SqT K H ax (.str kd :: xs) ∧ DVs K H ds xs := fun x hx kd ds hd => by
        obtain ⟨u, hu, du⟩ := DVs.map_at rc hx
        rw [hd] at du
        obtain ⟨ax, xs, rfl, hs, r⟩ := du.tup_inv
        cases r with
        | cons d0 r => cases d0; exact ⟨_, ax, _, hu, rfl, hs, r⟩
      have hcvl := e4 _ _ hca
      rcases hexit with hx | hx
      · have hend : i' = i0 ∧ said' = sd := by
          unfold goM at hg
          rcases hx with hx | ⟨is, t, hx⟩
          · rw [hx] at hg; cases hg; exact ⟨rfl, rfl⟩
          · rw [hx] at hg; cases hg; exact ⟨rfl, rfl⟩
        refine ⟨false, ?_, fun z => (nomatch z), fun _ H5 e5 => ?_⟩
        · rcases hx with hx | ⟨is, t, hx⟩
          · refine Evl.et_is (et_and (a := false) (b := false) (Evl.et_is hlt (decide_eq_false ?_)) fun z => nomatch z) rfl
            have := List.getElem?_eq_none_iff.mp hx
            omega
          · obtain ⟨u, ax, xs, hu, rfl, hs, _⟩ := hkind _ hx "block" _ rfl
            exact Evl.et_is (et_and (a := true) (b := false) (Evl.et_is hlt (decide_eq_true (hsome _ hx))) fun _ => et_test (Evl.ev_is (ev_niU (ev_ixt (j := 0) (ev_ixl ev_v (sqL_of hcvl) ev_v hu) (Same.sqT e4 hs) rfl) (eu_tup (ea_cons ev_c (ea_cons ev_c ea_nil)) (by decide)) rfl rfl) (by decide +kernel))) rfl
        · obtain ⟨rfl, rfl⟩ := hend
          have e5' := Ex.trans e4 e5
          refine q_asg (v := .str (if decide (i' < code.length) then "on" else "ended")) (Evl.ev_if (b := !decide (i' < code.length)) (Evl.et_is (et_test (ev_op ev_v (ev_lenl ev_v (sqL_of (e5 _ _ hcvl))) rv_I0)) ?_) (fun hb => ?_) (fun hb => ?_)) fun H6 e6 => ?_
          · rw [hlen]
            by_cases hl : i' < code.length
            · rw [decide_eq_true hl]; exact decide_eq_false (by omega)
            · rw [decide_eq_false hl]; exact decide_eq_true (by omega)
          · have : decide (i' < code.length) = false := by simpa using hb
            rw [this]; exact ev_c
          · have : decide (i' < code.length) = true := by simpa using hb
            rw [this]; exact ev_c
          · have e46 := Ex.trans e5 e6
            refine st_ret (K := K) (Tr.toD ⟨i', fr, said', decide (i' < code.length)⟩) (evd_tup (evds_cons (evd_var (.int _)) (evds_cons (evd_u (eu_tupL ev_v (sqL_of (e46 _ _ hcu))) (dvs_ints fr)) (evds_cons (evd_var (.int _)) (evds_cons (evd_u (eu_tupL ev_v (sqL_of (e46 _ _ hwl))) (dvs_ints said')) (evds_cons (evd_var (.str _)) evds_nil)))))) fun v H7 e7 d7 => ?_
            exact q v H7 (Ex.trans (Ex.trans e4 e46) e7) d7
      · rcases hx with ⟨t, hx⟩ | ⟨f, hx⟩
        · obtain ⟨u, ax, xs, hu, rfl, hs, r⟩ := hkind _ hx "jump" _ rfl
          obtain ⟨_, rfl, d1⟩ := dvs1 r
          cases d1
          have hg' : goM code fr m t sd = some (i', said') := by
            unfold goM at hg
            rw [hx] at hg
            exact hg
          refine ⟨true, Evl.et_is (et_and (a := true) (b := true) (Evl.et_is hlt (decide_eq_true (hsome _ hx))) fun _ => et_test (Evl.ev_is (ev_niU (ev_ixt (j := 0) (ev_ixl ev_v (sqL_of hcvl) ev_v hu) (Same.sqT e4 hs) rfl) (eu_tup (ea_cons ev_c (ea_cons ev_c ea_nil)) (by decide)) rfl rfl) (by decide +kernel))) rfl,
            fun _ H5 e5 => ⟨_, fun σ2 H2 (hN : ∃ (i0 : Nat) (sd : List Int) (v9 v10 v11 : Option V), σ2 = [some (.ref p), some (.int n), some (.int i0), some (.ref fa), some (.int (-1)), some (.ref sa), some (.ref ca), some (.ref cu), some (.ref wl), v9, v10, v11] ∧
      Ex H H2 ∧ H2 cu = some (.lst (fr.map V.int)) ∧ H2 wl = some (.lst (sd.map V.int)) ∧ goM code fr m i0 sd = some (i', said')) => ⟨m, Nat.lt_succ_self m, hN⟩, ?_⟩, fun z => (nomatch z)⟩
          have e05 := Ex.trans e4 e5
          refine q_asgX (go_meth ev_v (e05 _ _ hp) (fz_none (by decide +kernel)) (ea_cons (ev_ixl ev_v (sqL_of (e05 _ _ hca)) ev_v hu) (ea_cons ev_v (ea_cons ev_v ea_nil))) fun H6 e6 => ?_)
          have e06 := Ex.trans e05 e6
          refine ⟨_, .ref ax, cu, wl, rfl, .inl ⟨t, .tup (Same.sqT e06 hs) (.cons (.str _) (.cons (.int _) .nil)), fun H7 e7 => ?_⟩⟩
          refine s_asg (v := .int t) (Evl.ev_if (b := false) (Evl.et_is (et_test (ev_op ev_v ev_c (Evl.rv_val (z := .bl (decide (V.int t = V.non))) fun H3 _ Q q => ⟨rfl, q⟩))) (by simp)) (fun z => nomatch z) fun _ => ev_v) fun H8 e8 => ?_
          have e48 := Ex.trans (Ex.trans (Ex.trans e5 e6) e7) e8
          exact ⟨t, sd, _, _, _, rfl, Ex.trans e4 e48, e48 _ _ hcu, e48 _ _ hwl, hg'⟩
        · obtain ⟨u, ax, xs, hu, rfl, hs, r⟩ := hkind _ hx "say" _ rfl
          obtain ⟨v1, rfl, d1⟩ := dvs1 r
          obtain ⟨z, hz, hl, hg'⟩ : ∃ z, evalF (fr.map V.int) f = some z ∧ (sd.length < 1000 ∧ f.dep ≤ 2) ∧ goM code fr m (i0 + 1) (sd ++ [z]) = some (i', said') := by
            unfold goM at hg
            rw [hx] at hg
            dsimp only at hg
            split at hg
            · rename_i z hz
              split at hg
              · rename_i hl
                exact ⟨z, hz, hl, hg⟩
              · cases hg
            · cases hg
          refine ⟨true, Evl.et_is (et_and (a := true) (b := true) (Evl.et_is hlt (decide_eq_true (hsome _ hx))) fun _ => et_test (Evl.ev_is (ev_niU (ev_ixt (j := 0) (ev_ixl ev_v (sqL_of hcvl) ev_v hu) (Same.sqT e4 hs) rfl) (eu_tup (ea_cons ev_c (ea_cons ev_c ea_nil)) (by decide)) rfl rfl) (by decide +kernel))) rfl,
            fun _ H5 e5 => ⟨_, fun σ2 H2 (hN : ∃ (i0 : Nat) (sd : List Int) (v9 v10 v11 : Option V), σ2 = [some (.ref p), some (.int n), some (.int i0), some (.ref fa), some (.int (-1)), some (.ref sa), some (.ref ca), some (.ref cu), some (.ref wl), v9, v10, v11] ∧
      Ex H H2 ∧ H2 cu = some (.lst (fr.map V.int)) ∧ H2 wl = some (.lst (sd.map V.int)) ∧ goM code fr m i0 sd = some (i', said')) => ⟨m, Nat.lt_succ_self m, hN⟩, ?_⟩, fun z => (nomatch z)⟩
          have e05 := Ex.trans e4 e5
          refine q_asgX (go_meth ev_v (e05 _ _ hp) (fz_none (by decide +kernel)) (ea_cons (ev_ixl ev_v (sqL_of (e05 _ _ hca)) ev_v hu) (ea_cons ev_v (ea_cons ev_v ea_nil))) fun H6 e6 => ?_)
          have e06 := Ex.trans e05 e6
          have e46 := Ex.trans e5 e6
          refine ⟨_, .ref ax, cu, wl, rfl, .inr ⟨f, sd.map V.int, fr.map V.int, z, .tup (Same.sqT e06 hs) (.cons (.str _) (.cons (d1.mono e06) .nil)), sqL_of (e46 _ _ hcu), e46 _ _ hwl, hz, hl.2, by rw [List.length_map]; exact hl.1, fun H7 b7 h7 => ?_⟩⟩
          refine s_asg (v := .int ((i0 + 1 : Nat) : Int)) (Evl.ev_if (b := true) (Evl.et_is (et_test (ev_op ev_v ev_c (Evl.rv_val (z := .bl (decide (V.non = V.non))) fun H3 _ Q q => ⟨rfl, q⟩))) (by simp)) (fun _ => ev_op ev_v ev_c rv_I0) fun z => nomatch z) fun H8 e8 => ?_
          refine ⟨i0 + 1, sd ++ [z], _, _, _, rfl, Ex.trans (ExB.ex e06 nwl b7) e8, e8 _ _ (b7 _ _ ncw (e46 _ _ hcu)), ?_, hg'⟩
          rw [e8 _ _ h7, List.map_append]
          rfl
end
end HK


set_option maxRecDepth 100000
set_option maxHeartbeats 4000000
/-! W2: World.first. -/
namespace HK
open PySem PySem.Spec PyProof.Rows L2
open Evl (Ex Ev EvT EvA EvL EvU RetV ev_var ev_c ev_op ev_un ea_nil ea_cons et_test et_B et_and et_or et_not ev_call ev_cb rv_I0 rv_I rv_eq rv_ixL rv_ixT ev_inU ev_niU eu_tup el_lst ev_len el_list q_when q_if q_asg q_drop s_asg s_ret s_if s_drop)
structure Stt where
  mem : List Int
  ths : List Tr
def Stt.toD (s : Stt) : D := .tup [.tup (s.mem.map D.int), .tup (s.ths.map Tr.toD)]
def fr0 (nx : Bool) (k : Nat) : List Int := (if nx then [-1] else []) ++ List.replicate (k - (nmV nx).length) 0
def GoFirst (ths : List Th) (cs : List (List TI × Nat)) (trs : List Tr) : Prop := trs.length = ths.length ∧ cs.length = ths.length ∧ ∀ (i : Nat) (th : Th) (code : List TI) (k : Nat) (tr : Tr), ths[i]? = some th → cs[i]? = some (code, k) → trs[i]? = some tr →
  k < 1000 ∧ tr.fr = fr0 th.nx k ∧ tr.on = decide (tr.at_ < code.length) ∧ ∃ fu, goM code (fr0 th.nx k) fu 0 [] = some (tr.at_, tr.said)
def spFirst (K : PySem.W.Frag) (CW CP CT : Addr) : Sp := fun vs H Q _ => ∃ (p : Addr) (N : Int) (ths : List Th) (cs : List (List TI × Nat)) (trs : List Tr), vs = [.ref p] ∧ WoAt K CW CP CT H p N ths cs ∧ GoFirst ths cs trs ∧ 0 ≤ N ∧ N ≤ 10 ∧ ths.length < 1000 ∧
  Ret K H Q (Stt.toD ⟨List.replicate (N + 2).toNat 0, trs⟩)
theorem Tr.fl (t : Tr) : t.toD.fl = true := by
  have h : ∀ xs : List Int, D.fls (xs.map D.int) = true := fun xs => by
    induction xs with
    | nil => rfl
    | cons x r ih => show (true && D.fls (r.map D.int)) = true; rw [ih]; rfl
  show (true && (D.fls (t.fr.map D.int) && (true && (D.fls (t.said.map D.int) && (true && true))))) = true
  rw [h, h]
  rfl
theorem Tr.fls (l : List Tr) : D.fls (l.map Tr.toD) = true := by
  induction l with
  | nil => rfl
  | cons t l ih => show (t.toD.fl && D.fls (l.map Tr.toD)) = true; rw [t.fl, ih]; rfl
theorem flat_rep (n : Nat) (x : V) : (List.replicate n [x]).flatten = List.replicate n x := by
  induction n with
  | zero => rfl
  | succ n ih => rw [List.replicate_succ, List.replicate_succ, List.flatten_cons, ih]; rfl
section
variable {K : PySem.W.Frag} {σ : L2.St} {H : Hp} {ta tb te : TE} {xs ys : List V}
/-- [x] * n -/
theorem el_rep {x : V} {n : Int} (h : Ev te σ H x) (hb : Ev tb σ H (.int n)) (hn : n ≤ 100000) (hl : -1000 ≤ n) : EvL (tOp rRep (tLst (tCons te tNil)) tb) σ H (List.replicate n.toNat x) := fun H1 e Q q =>
  el_lst (ea_cons h ea_nil) (by simp) H1 e _ fun l H2 nl e2 hl2 => hb H2 (Ex.trans e e2) _ fun H3 e3 => ⟨l, n, [x], rfl, rfl, e3 _ _ hl2, by omega, by omega, by
    rw [List.length_singleton, Nat.one_mul, sizeLine_eq]; omega, fun p hp => by
    rw [flat_rep]
    exact q p _ (Evl.fresh_back (Ex.trans e2 e3) hp) (Ex.trans (Ex.trans e2 e3) (Ex.new hp)) upd_same⟩
/-- xs + ys -/
theorem el_cat (ha : EvL ta σ H xs) (hb : EvL tb σ H ys) (hz : xs.length + ys.length ≤ 100000) : EvL (tOp rCat ta tb) σ H (xs ++ ys) := fun H1 e Q q =>
  ha H1 e _ fun l H2 nl e2 h2 => hb H2 (Ex.trans e e2) _ fun m H3 nm e3 h3 => ⟨l, m, xs, ys, rfl, rfl, e3 _ _ h2, h3, by rw [sizeLine_eq]; omega, fun p hp =>
    q p _ (Evl.fresh_back (Ex.trans e2 e3) hp) (Ex.trans (Ex.trans e2 e3) (Ex.new hp)) upd_same⟩
theorem el_cat1 {a : Addr} (ha : Ev ta σ H (.ref a)) (h : H a = some (.lst xs)) (hb : EvL tb σ H ys) (hz : xs.length + ys.length ≤ 100000) : EvL (tOp rCat ta tb) σ H (xs ++ ys) := fun H1 e Q q =>
  ha H1 e _ fun H2 e2 => hb H2 (Ex.trans e e2) _ fun m H3 nm e3 h3 => ⟨a, m, xs, ys, rfl, rfl, (Ex.trans (Ex.trans e e2) e3) _ _ h, h3, by rw [sizeLine_eq]; omega, fun p hp =>
    q p _ (Evl.fresh_back (Ex.trans e2 e3) hp) (Ex.trans (Ex.trans e2 e3) (Ex.new hp)) upd_same⟩
/-- a new list's copy as a tuple -/
theorem eu_tupNL (ha : EvL te σ H xs) : EvU (tCB (fun xs H Q => ∃ p ys, xs = [.ref p] ∧ ((SqL K H p ys ∧ ∀ l, H l = none → Q (.ref l) (upd H l (.tup ys))) ∨ (SqT K H p ys ∧ Q (.ref p) H))) (tCons te tNil)) σ H xs := fun H1 e Q q =>
  ha H1 e _ fun p H2 _ e2 hp => ⟨p, xs, rfl, .inl ⟨sqL_of hp, fun l hl => q l _ (Evl.fresh_back e2 hl) (Ex.trans e2 (Ex.new hl)) upd_same⟩⟩
end
section
variable {K : PySem.W.Frag} {σ : L2.St} {H : Hp} {ta te : TE} {D' : Ends}
theorem q_forEnum {a : Addr} {xs : List V} {g : TG} {tu tz : TS} (h : Ev ta σ H (.ref a)) (hx : SqL K H a xs) (Pv : Nat → L2.St → Hp → Prop) (h0 : ∀ H1, Ex H H1 → Pv 0 σ H1) (hl : ∀ i σ' H', i ≤ xs.length → Pv i σ' H' → SqL K H' a xs)
    (hs : ∀ i x T σ' H', xs[i]? = some x → Pv i σ' H' → H' T = none → g (.ref T) σ' (upd H' T (.tup [.int (i : Nat), x])) fun σ2 H2 => tu { D' with nx := Pv (i + 1), ct := Pv (i + 1), bk := tz D' } σ2 H2) (hd : ∀ σ' H', Pv xs.length σ' H' → tz D' σ' H') :
    tSeq (tFor (iEnum K (tCons ta tNil)) g tu) tz D' σ H := h H (Ex.refl H) _ fun H1 e1 => ⟨a, xs, rfl, Same.seq e1 hx, for_it walk_enum Pv (h0 H1 e1) hl (fun i x σ' H' H'' hi p y => by
      obtain ⟨T, x1, y1, rfl, nT, rfl, h1, h2⟩ := y
      cases h1
      exact hs i y1 T σ' H' h2 p nT) hd⟩
/-- xs.append(d), d flat data -/
theorem s_appD {l : Addr} {xs : List V} {d : D} (hl : H l = some (.lst xs)) (ha : Ev ta σ H (.ref l)) (h : EvD K te σ H d) (hz : xs.length < 100000) (k : ∀ u H', ExB l H H' → H' l = some (.lst (xs ++ [u])) → DV K H' d u → D'.nx σ H') (hf : d.fl = true := by rfl) : tDrop (tBM K "list" rAppend ta (tCons te tNil)) D' σ H := ha H (Ex.refl H) _ fun H1 e1 =>
  ⟨Or.inl ⟨rfl, xs, sqL_of (e1 l _ hl)⟩, h H1 e1 _ fun u H2 e2 du => ⟨l, xs, u, rfl, rfl, e2 l _ (e1 l _ hl), Evl.sz_lt hz, k u _ (ExB.upd (Ex.trans e1 e2)) upd_same (du.tups (Tups.upd (e2 l _ (e1 l _ hl)) nt_lst) hf)⟩⟩
theorem dvs5 {a b c d e : D} {vs : List V} (h : DVs K H [a, b, c, d, e] vs) : ∃ x y z w v, vs = [x, y, z, w, v] ∧ DV K H a x ∧ DV K H b y ∧ DV K H c z ∧ DV K H d w ∧ DV K H e v := by
  cases h with | cons h t => obtain ⟨y, z, w, v, rfl, q⟩ := dvs4 t; exact ⟨_, _, _, _, _, rfl, h, q⟩
end
abbrev sWorldFirst : Stmt := inClass (top 41) 1
section
variable {P : Program} {w : World} {K : PySem.W.Frag} {mg : Str → Option Value} {base : Heap} {aR CW CP CT : Addr}
theorem vars_inv {H : Hp} {nx : Bool} {va : Addr} (d : DV K H (dVars nx) (.ref va)) : ∃ xs, H va = some (.lst xs) ∧ xs.length = (nmV nx).length ∧ Evl.given xs.length (fun _ => true) (fun _ => V.int (-1)) = (if nx then [-1] else [] : List Int).map V.int ∧ ∀ (i : Nat) (x : V), xs[i]? = some x → ∃ at_ : Addr, x = .ref at_ ∧ SqT K H at_ [.str "x", .int (-1)] := by
  obtain ⟨va', xs, hva', hx, r⟩ := d.lst_inv
  cases hva'
  refine ⟨xs, hx, ?_⟩
  cases nx with
  | false => cases r; exact ⟨rfl, rfl, fun i x h => by simp at h⟩
  | true =>
    obtain ⟨v0, rfl, d0⟩ := dvs1 r
    obtain ⟨at_, ys, rfl, hs, r2⟩ := d0.tup_inv
    obtain ⟨_, _, rfl, d1, d2⟩ := dvs2 r2
    cases d1; cases d2
    refine ⟨rfl, rfl, fun i x h => ?_⟩
    cases i with
    | zero => exact ⟨at_, (Option.some.inj h).symm, hs⟩
    | succ i => simp at h
theorem ok_first (T : Tx K mg aR) (c : ClsF K CW ksWo) (cP : ClsF K CP ksP) (cT : ClsF K CT ksTh) (F : MethAt K CW "first" "World.first" sWorldFirst) (m_going_on : Met P w K mg base 7 CW "going_on" (spGo K CW CP CT)) (c_first_memory : Cal P w K mg base 1 "first_memory" (spFirstMem K)) :
    Met P w K mg base 8 CW "first" (spFirst K CW CP CT) := by
  have S : FnScope ["self", "threads", "number", "thread", "values", "frame", "name", "value"] ["self"] (defScope sWorldFirst) := ⟨rfl, rfl, rfl, by decide +kernel, rfl, by decide +kernel, by decide +kernel⟩
  refine met_mk c.cl F S (fun _ _ _ _ _ _ us hl => match us, hl with | [_], _ => rfl) (fun vs H Q E h => ?_) (fun f cdv A outer s H vs Q E hr h => ?_)
  · obtain ⟨p, N, ths, cs, trs, rfl, _⟩ := h
    rfl
  · obtain ⟨p, N, ths, cs, trs, rfl, W, hgf, l1, l2, hlt, q⟩ := h
    refine ⟨_, (pss_cons (ps_set (i := 1) S.nd rfl (Or.inl rfl) (pe_lst pa_nil))
  (pss_cons (ps_for PassesOwn.never rfl (pi_enum (by rfl) T.b.enumerate (pa_cons (pe_fld (pe_fld (pv 0) rfl) rfl) pa_nil)) (pg_tup rfl (pgs_cons (pg_name (i := 2) S.nd rfl (Or.inl rfl)) (pgs_cons (pg_name (i := 3) S.nd rfl (Or.inl rfl)) pgs_nil)))
  (pss_cons (ps_setLc (i := 4) (own := [("name", 6), ("value", 7)]) (g := (gTup K 2 (gCons (gName 6) (gCons (gName 7) gNil)))) rfl S.nd rfl rfl (sw_true rfl rfl rfl (by decide +kernel)) (pi_list (pe_fld (pv 3) rfl)) (blkOk_by (own := [("name", 6), ("value", 7)]) (N := ["self", "threads", "number", "thread", "values", "frame", "name", "value"]) (sc := defScope sWorldFirst) (by decide +kernel)) (fun _ _ _ _ _ => (pg_tup rfl (pgs_cons (pg_name (i := 6) S.nd rfl (Or.inl rfl)) (pgs_cons (pg_name (i := 7) S.nd rfl (Or.inl rfl)) pgs_nil)))) (fun _ _ _ _ _ => pts_nil) (fun _ _ _ _ _ => (pv 7)))
  (pss_cons (ps_set (i := 5) S.nd rfl (Or.inl rfl) (pe_op op_cat (pv 4) (pe_op op_rep (pe_lst (pa_cons pe_int pa_nil)) (pe_op op_sub (pe_ix ix_list (pe_fld (pv 0) rfl) (pv 2) (fun _ _ => rfl)) (pe_callB call_len_seq (by rfl) T.b.len (by decide +kernel) (pa_cons (pv 4) pa_nil))))))
  (pss_one (ps_expr (pe_bm PySem.F.plainAttrs_list PySem.F.slot_list_append PySem.F.type_list_append mt_append (pv 1) (pa_cons (pe_mt m_going_on hr (pv 0) (pa_cons (pv 2) (pa_cons pe_int (pa_cons (pv 5) (pa_cons (pe_un un_neg pe_int) (pa_cons (pe_tup pa_nil) pa_nil)))))) pa_nil)))))))
  (pss_one (ps_ret (pe_tup (pa_cons (pe_callTy call_tuple_of (by rfl) T.b.tuple (by decide +kernel) (pa_cons (pe_c c_first_memory hr (pa_cons (pe_fld (pe_fld (pv 0) rfl) rfl) pa_nil)) pa_nil)) (pa_cons (pe_callTy call_tuple_of (by rfl) T.b.tuple (by decide +kernel) (pa_cons (pv 1) pa_nil)) pa_nil))))))), ?_⟩
    have W0 := W
    obtain ⟨dx, pg, cl, kl, cvs, hp, hpg, hcl, rcl, hkl⟩ := W
    obtain ⟨dxg, ce, tl, ps, hpi, hce, htl, hths⟩ := hpg
    refine Evl.q_asgL (el_lst ea_nil (by decide)) fun t0 H1 n1 e1 h1 => ?_
    refine q_forEnum (ev_fz (i := 1) (ev_fz (i := 0) ev_v (e1 _ _ hp) c rfl) (e1 _ _ hpi) cP rfl) (sqL_of (e1 _ _ htl)) (fun i σ' H' => Ex H H' ∧ ∃ (v2 v3 v4 v5 v6 v7 : Option V) (vs : List V), σ' = [some (V.ref p), some (V.ref t0), v2, v3, v4, v5, v6, v7] ∧ H' t0 = some (.lst vs) ∧ DVs K H' ((trs.take i).map Tr.toD) vs)
      (fun H2 e2 => ⟨Ex.trans e1 e2, none, none, none, none, none, none, [], rfl, e2 _ _ h1, .nil⟩) (fun i σ' H' _ h => sqL_of (h.1 _ _ htl)) (fun i x T0 σ' H2 hx h nT => ?_) (fun σ' H2 h => ?_)
    · obtain ⟨e2, v2, v3, v4, v5, v6, v7, vs, rfl, ht0, rv⟩ := h
      have hil : i < ps.length := by
        have := (List.getElem?_eq_some_iff.mp hx).1
        rwa [List.length_map] at this
      have hit : i < ths.length := by rw [← hths.1]; exact hil
      have hxe : x = .ref ps[i] := by
        rw [List.getElem?_map, List.getElem?_eq_getElem hil] at hx
        exact (Option.some.inj hx).symm
      subst hxe
      obtain ⟨hg1, hg2, hg3⟩ := hgf
      have hic : i < cs.length := by omega
      have hir : i < trs.length := by omega
      obtain ⟨code, kk, hcs⟩ : ∃ code kk, cs[i]? = some (code, kk) := ⟨cs[i].1, cs[i].2, List.getElem?_eq_getElem hic⟩
      obtain ⟨hk, hfr, hon, fu, hgo⟩ := hg3 i ths[i] code kk trs[i] (List.getElem?_eq_getElem hit) hcs (List.getElem?_eq_getElem hir)
      have e3 : Ex H2 (upd H2 T0 (.tup [.int i, .ref ps[i]])) := Ex.new nT
      generalize hH3 : upd H2 T0 (.tup [.int i, .ref ps[i]]) = H3 at e3
      refine ⟨T0, [.int i, .ref ps[i]], rfl, sqT_of (by rw [← hH3]; exact upd_same), rfl, _, _, rfl, _, _, rfl, rfl, ?_⟩
      have e03 := Ex.trans e2 e3
      obtain ⟨dxt, va, bo, nm, hti, dva, dbo⟩ := hths.2 i _ _ (List.getElem?_eq_getElem hil) (List.getElem?_eq_getElem hit)
      obtain ⟨xs, hva, hxl, hxg, hxs⟩ := vars_inv dva
      refine Evl.q_asgL (xs := (if ths[i].nx then [-1] else [] : List Int).map V.int) ?_ fun lv H4 n4 e4 h4 => ?_
      · rw [← hxg]
        refine el_lcLg (fun _ => .int (-1)) (fun _ => [some (.ref p), some (.ref t0), some (.int i), some (.ref ps[i]), v4, v5, some (.str "x"), some (.int (-1))]) (ev_fz (i := 1) ev_v (e03 _ _ hti) cT rfl) (sqL_of (e03 _ _ hva)) (by rw [hxl]; cases ths[i].nx <;> decide) (fun j x H5 R e5 hxi hR => ?_) (fun i => rfl) fun i x H1 e1 hxi => ev_v
        obtain ⟨at_, rfl, hs⟩ := hxs j x hxi
        exact ⟨at_, _, rfl, Same.sqT (Ex.trans e03 e5) hs, rfl, _, _, rfl, _, _, rfl, rfl, hR⟩
      have e04 := Ex.trans e03 e4
      have hkv : (dCounts cs)[i]? = some (.int kk) := by rw [List.getElem?_map, hcs]; rfl
      have hlv : ((if ths[i].nx then [-1] else [] : List Int).map V.int).length = (nmV ths[i].nx).length := by cases ths[i].nx <;> rfl
      have hl1 : (nmV ths[i].nx).length ≤ 1 := by cases ths[i].nx <;> decide
      refine Evl.q_asgL (el_cat1 ev_v h4 (el_rep ev_c (ev_op (ev_ixl (ev_fz (i := 2) ev_v (e04 _ _ hp) c rfl) (sqL_of (e04 _ _ hkl)) ev_v hkv) (ev_lenl ev_v (sqL_of h4)) rv_I0) (by omega) (by rw [hlv]; omega)) (by rw [hlv, List.length_replicate]; omega)) fun fa H5 n5 e5 h5 => ?_
      have hfa : (if ths[i].nx then [-1] else [] : List Int).map V.int ++ List.replicate ((kk : Int) - (((if ths[i].nx then [-1] else [] : List Int).map V.int).length : Int)).toNat (V.int 0) = (fr0 ths[i].nx kk).map V.int := by
        unfold fr0
        rw [hlv, List.map_append, List.map_replicate]
        congr 2
        omega
      rw [hfa] at h5
      have e05 := Ex.trans e04 e5
      have ht05 := e5 _ _ (e4 _ _ (e3 _ _ ht0))
      have hlvs : vs.length ≤ i := by
        rw [← rv.length, List.length_map, List.length_take]
        omega
      have htr : trs[i].toD = Tr.toD ⟨trs[i].at_, fr0 ths[i].nx kk, trs[i].said, decide (trs[i].at_ < code.length)⟩ := by
        unfold Tr.toD
        rw [hfr, hon]
      refine s_appD (d := trs[i].toD) ht05 ev_v ?_ (by omega) (fun u H6 b6 h6 d6 => ?_) (Tr.fl _)
      · refine evd_meth (ds := [.int i, .int 0, .lst ((fr0 ths[i].nx kk).map D.int), .int (-1), .tup []]) ev_v (e05 _ _ hp) (fz_none (by decide +kernel)) (evds_cons (evd_var (.int _)) (evds_cons evd_int (evds_cons (evd_var (.lst h5 (dvs_ints _))) (evds_cons (evd_ev (ev_un ev_c Evl.ru_neg) (.int _)) (evds_cons (evd_tup evds_nil) evds_nil))))) fun us H7 e7 r7 Q q => ?_
        obtain ⟨_, _, _, _, _, rfl, d0, d1, d2, d3, d4⟩ := dvs5 r7
        cases d0; cases d1; cases d3
        obtain ⟨fa', xs', rfl, hfa', rfa⟩ := d2.lst_inv
        obtain ⟨sa, ys', rfl, hsa, rsa⟩ := d4.tup_inv
        cases rsa
        rw [dvs_ints_inv rfa] at hfa'
        rw [htr] at q
        exact ⟨p, N, ths, cs, i, kk, 0, trs[i].at_, fu, fa', sa, code, fr0 ths[i].nx kk, [], trs[i].said, rfl, W0.grow (Ex.trans e05 e7), hcs, sqL_of hfa', hsa, hgo, q⟩
      · have ht0H : H t0 = none := n1
        have htk : trs.take (i + 1) = trs.take i ++ [trs[i]] := by
          rw [List.take_add_one, List.getElem?_eq_getElem hir]
          rfl
        refine ⟨ExB.ex e05 ht0H b6, _, _, _, _, _, _, vs ++ [u], rfl, h6, ?_⟩
        rw [htk, List.map_append]
        have r6 : DVs K H6 ((trs.take i).map Tr.toD) vs := (rv.mono (Ex.trans (Ex.trans e3 e4) e5)).tups (ExB.tups b6 ht05 nt_lst) (Tr.fls _)
        exact r6.append (.single d6)
    · obtain ⟨e2, v2, v3, v4, v5, v6, v7, vs, rfl, ht0, rv⟩ := h
      have hall : trs.take (ps.map V.ref).length = trs := by
        rw [List.length_map, hths.1, ← hgf.1, List.take_length]
      rw [hall] at rv
      refine st_ret (K := K) (Stt.toD ⟨List.replicate (N + 2).toNat 0, trs⟩) (evd_tup (evds_cons (evd_u (eu_tupNL (xs := List.replicate (N + 2).toNat (.int 0)) ?_) (by have h0 := dvs_ints (K := K) (H := H2) (List.replicate (N + 2).toNat 0); rw [List.map_replicate (f := V.int)] at h0; exact h0)) (evds_cons (evd_u (eu_tupL ev_v (sqL_of ht0)) rv) evds_nil))) fun v H3 e3 d3 => q v H3 (Ex.trans e2 e3) d3
      refine Evl.el_call (ea_cons (ev_fz (i := 0) (ev_fz (i := 0) ev_v (e2 _ _ hp) c rfl) (e2 _ _ hpi) cP rfl) ea_nil) ?_
      intro H3 e3 Q q E
      exact ⟨N, .ref ce, rfl, hce.mono (Ex.trans e2 e3), l1, l2, fun p H4 n4 e4 h4 => q p H4 n4 e4 h4⟩
end
end HK


set_option maxRecDepth 100000
set_option maxHeartbeats 4000000
/-! W3: World.outcome, case, possible. -/
namespace HK
open PySem PySem.Spec PyProof.Rows L2
open Evl (Ex Ev EvT EvA EvL EvU RetV ev_var ev_c ev_op ev_un ea_nil ea_cons et_test et_B et_and et_or et_not ev_call ev_cb rv_I0 rv_I rv_eq rv_ixL rv_ixT ev_inU ev_niU eu_tup el_lst ev_len el_list q_when q_if q_asg q_drop s_asg s_ret s_if s_drop)
section
variable {K : PySem.W.Frag} {σ : L2.St} {H : Hp} {ta tb te tl : TE} {t : TT} {x v : V} {xs : List V}
theorem ev_ixtv {a : Addr} {j : Nat} (ha : Ev ta σ H (.ref a)) (hx : SqT K H a xs) (hb : Ev tb σ H (.int (j : Int))) (hj : xs[j]? = some v) : Ev (tOp (rIxT K) ta tb) σ H v := ev_op ha hb (rv_ixT hx (atI_nat hj))
/-- a comprehension over a list, told by what each gives -/
theorem el_lcF {α : Type} {a : Addr} {l : List α} {g : α → Option V} {j : Nat} {vs : List Nat} (h : Ev tl σ H (.ref a)) (hx : SqL K H a xs) (hlen : xs.length = l.length) (hz : xs.length ≤ 40000) (hw : ∀ x, wipe ((wipe σ vs).set j (some x)) vs = wipe σ vs)
    (hs : ∀ (i : Nat) (x : V) (y : α) H1, Ex H H1 → xs[i]? = some x → l[i]? = some y → EvT t ((wipe σ vs).set j (some x)) H1 (g y).isSome ∧ ∀ v, g y = some v → Ev te ((wipe σ vs).set j (some x)) H1 v) :
    EvL (tLc (iList K tl) (gName j) t te vs) σ H (l.filterMap g) := fun H0 e Q q => h H0 e _ fun H1 e1 => ⟨a, rfl, ⟨xs, Evl.ex_l (e.trans e1) hx⟩, fun Dl hD =>
  lc_list (xs := xs) (fun i H' => H1 Dl = none ∧ Ex H1 H' ∧ H' Dl = some (.lst ((l.take i).filterMap g))) ⟨hD, Ex.new hD, upd_same⟩ (fun i H' _ p => Evl.ex_l ((e.trans e1).trans p.2.1) hx) (fun i x H' hi p => ⟨hw x, by
    obtain ⟨p1, p2, p3⟩ := p
    have hil : i < l.length := by rw [← hlen]; exact (List.getElem?_eq_some_iff.mp hi).1
    have hil' := hil
    rw [← hlen] at hil'
    obtain ⟨h1, h2⟩ := hs i x l[i] H' (Ex.trans (Ex.trans e e1) p2) hi (List.getElem?_eq_getElem hil)
    have htk : l.take (i + 1) = l.take i ++ [l[i]] := by
      rw [List.take_add_one, List.getElem?_eq_getElem hil]
      rfl
    refine h1 H' (Ex.refl _) _ fun H3 e3 => ?_
    cases hg : g l[i] with
    | none =>
      show H1 Dl = none ∧ Ex H1 H3 ∧ H3 Dl = some (.lst ((l.take (i + 1)).filterMap g))
      refine ⟨p1, Ex.trans p2 e3, ?_⟩
      rw [htk, List.filterMap_append]
      simp only [List.filterMap_cons, hg, List.filterMap_nil, List.append_nil]
      exact e3 _ _ p3
    | some v =>
      refine h2 v hg H3 e3 _ fun H4 e4 => ⟨_, (Ex.trans e3 e4) _ _ p3, ?_, p1, Ex.mut (Ex.trans p2 (Ex.trans e3 e4)) p1, ?_⟩
      · refine Evl.sz_lt ?_
        have := List.length_filterMap_le g (l.take i)
        rw [List.length_take] at this
        omega
      · rw [upd_same, htk, List.filterMap_append]
        simp only [List.filterMap_cons, hg, List.filterMap_nil]⟩)
    (fun H' p => by
      have := p.2.2
      rw [hlen, List.take_length] at this
      exact q Dl H' (Evl.fresh_back e1 p.1) (e1.trans p.2.1) this)⟩
theorem el_is {ys : List V} (h : EvL te σ H xs) (e : xs = ys) : EvL te σ H ys := e ▸ h
/-- max(ns) -/
theorem ev_maxL {ns : List Nat} {m : Nat} (h : EvL te σ H (ns.map fun (i : Nat) => V.int (i : Int))) (hm : m ∈ ns) (hall : ∀ y ∈ ns, y ≤ m) : Ev (tCB (rMax K) (tCons te tNil)) σ H (.int (m : Int)) := fun H1 e Q q =>
  h H1 e _ fun p H2 np e2 hp => ⟨p, ns.map fun (i : Nat) => (i : Int), rfl, sqL_of (by rw [List.map_map]; exact hp), by rw [List.length_map]; exact List.length_pos_of_mem hm, fun m' h1 h2 => by
    obtain ⟨k, hk, rfl⟩ := List.mem_map.mp h1
    have h3 : (m : Int) ≤ (k : Int) := h2 _ (List.mem_map.mpr ⟨m, hm, rfl⟩)
    have h4 := hall k hk
    have : k = m := by omega
    subst this
    exact q H2 e2⟩
/-- a tuple that is there, or a new one -/
def EvS (K : PySem.W.Frag) (te : TE) (σ : L2.St) (H : Hp) (xs : List V) : Prop := ∀ H1, Ex H H1 → ∀ Q : VK, (∀ a H2, Ex H1 H2 → SqT K H2 a xs → Q (.ref a) H2) → te σ H1 Q
theorem es_take {a : Addr} {n : Nat} (h : Ev te σ H (.ref a)) (hx : SqT K H a xs) (hb : Ev tb σ H (.int (n : Int))) : EvS K (tSl (rSlA K) te tNoPart (tPart tb)) σ H (xs.take n) := fun H1 e Q q =>
  h H1 e _ fun H2 e2 => hb H2 (Ex.trans e e2) _ fun H3 e3 => ⟨(n : Int), rfl, a, xs, rfl, Same.sqT (Ex.trans (Ex.trans e e2) e3) hx, fun hw => by
    refine q a H3 (Ex.trans e2 e3) ?_
    have hl : min n xs.length = xs.length := by rw [← HT.sIx_nat]; exact hw.2
    rw [List.take_of_length_le (by omega)]
    exact Same.sqT (Ex.trans (Ex.trans e e2) e3) hx, fun _ p hp => by
    rw [cut_take]
    exact q p _ (Ex.trans (Ex.trans e2 e3) (Ex.new hp)) (sqT_of upd_same)⟩
theorem el_listS (h : EvS K te σ H xs) : EvL (tCB (Evl.rListS K) (tCons te tNil)) σ H xs := fun H1 e Q q =>
  h H1 e _ fun a H2 e2 hx => ⟨a, xs, rfl, .inr hx, fun l hl => q l _ (Evl.fresh_back e2 hl) (Ex.trans e2 (Ex.new hl)) upd_same⟩
end
section
variable {K : PySem.W.Frag} {H : Hp} {v : V}
theorem tr_inv {t : Tr} (d : DV K H t.toD v) : ∃ ta fa sd : Addr, v = .ref ta ∧ SqT K H ta [.int t.at_, .ref fa, .int (-1), .ref sd, .str (if t.on then "on" else "ended")] ∧ SqT K H fa (t.fr.map V.int) ∧ SqT K H sd (t.said.map V.int) := by
  obtain ⟨ta, xs, rfl, h, r⟩ := d.tup_inv
  obtain ⟨_, _, _, _, _, rfl, d0, d1, d2, d3, d4⟩ := dvs5 r
  cases d0; cases d2; cases d4
  obtain ⟨fa, ys, rfl, h1, r1⟩ := d1.tup_inv
  obtain ⟨sd, zs, rfl, h2, r2⟩ := d3.tup_inv
  rw [dvs_ints_inv r1] at h1
  rw [dvs_ints_inv r2] at h2
  exact ⟨ta, fa, sd, rfl, h, h1, h2⟩
theorem stt_inv {s : Stt} (d : DV K H s.toD v) : ∃ (sa sm st : Addr) (tvs : List V), v = .ref sa ∧ SqT K H sa [.ref sm, .ref st] ∧ SqT K H sm (s.mem.map V.int) ∧ SqT K H st tvs ∧ DVs K H (s.ths.map Tr.toD) tvs := by
  obtain ⟨sa, xs, rfl, h, r⟩ := d.tup_inv
  obtain ⟨_, _, rfl, d0, d1⟩ := dvs2 r
  obtain ⟨sm, ys, rfl, h1, r1⟩ := d0.tup_inv
  obtain ⟨st, zs, rfl, h2, r2⟩ := d1.tup_inv
  rw [dvs_ints_inv r1] at h1
  exact ⟨sa, sm, st, zs, rfl, h, h1, h2, r2⟩
end
def slotOf : Ins → Option Nat
  | .set s _ => some s
  | .load s _ _ _ => some s
  | _ => none
def Ins.kd : Ins → Str
  | .load _ _ _ _ => "load"
  | .set _ _ => "set"
  | .put _ _ _ _ => "put"
  | .unl _ _ => "unless"
  | .jump _ => "jump"
  | .retry => "retry"
def slotV (i : Ins) : Option V := match slotOf i with
  | some s => some (.int (s : Nat))
  | none => none
def slots (is : List Ins) : List Nat := is.filterMap slotOf
def IsTop (m : Nat) (l : List Nat) : Prop := m ∈ l ∧ ∀ y ∈ l, y ≤ m
/-- the frame of the block -/
def frW (cnt m : Nat) (fr : List Int) : List Int := fr.take cnt ++ List.replicate (1 + m - cnt) 0
/-- a thread that stands at a block -/
structure AtBlk (ths : List Th) (cs : List (List TI × Nat)) (st : Stt) (n : Nat) (th : Th) (code : List TI) (tr : Tr) (is : List Ins) (m fu : Nat) (ws' : WS) (b : Bool) : Prop where
  hth : ths[n]? = some th
  hcs : ∃ k, cs[n]? = some (code, k)
  htr : st.ths[n]? = some tr
  hon : tr.on = true
  hat : ∃ t, code[tr.at_]? = some (.blk is t)
  htop : IsTop m ((nmV th.nx).length :: slots is)
  hm : m < 1000
  hil : is.length < 1000
  hdep : ∀ i ∈ is, i.dep ≤ 2
  run : runM is (st.mem.map V.int) fu ⟨0, (frW (nmV th.nx).length m tr.fr).map V.int, [], []⟩ = some (ws', b)
def spOutc (K : PySem.W.Frag) (CW CP CT CO : Addr) : Sp := fun vs H Q _ => ∃ (p : Addr) (N : Int) (ths : List Th) (cs : List (List TI × Nat)) (st : Stt) (v : V) (n : Nat) (th : Th) (code : List TI) (tr : Tr) (is : List Ins) (m fu : Nat) (ws' : WS) (b : Bool), vs = [.ref p, v, .int n] ∧ WoAt K CW CP CT H p N ths cs ∧ DV K H st.toD v ∧
  AtBlk ths cs st n th code tr is m fu ws' b ∧ ∀ (o dx r' w' fi' la' : Addr) H', Ex H H' → H' o = some (.ins CO dx (ksO.zip [.str (if b then "done" else "retry"), .ref r', .ref w', .ref fi', .ref la', .non])) →
    (b = true → H' w' = some (.dK ws'.wr) ∧ H' fi' = some (.lst (ws'.fr.take (nmV th.nx).length)) ∧ H' la' = some (.lst []) ∧ H fi' = none ∧ H la' = none) → Q (.ref o) H'
abbrev sWorldOutcome : Stmt := inClass (top 41) 4
section
variable {P : Program} {w : World} {K : PySem.W.Frag} {mg : Str → Option Value} {base : Heap} {aR CW CP CT CO : Addr}
theorem ok_outc (T : Tx K mg aR) (c : ClsF K CW ksWo) (cP : ClsF K CP ksP) (cT : ClsF K CT ksTh) (F : MethAt K CW "outcome" "World.outcome" sWorldOutcome) (c_walk_block : Cal P w K mg base 10 "walk_block" (spWalkBlock K CO)) : Met P w K mg base 11 CW "outcome" (spOutc K CW CP CT CO) := by
  have S : FnScope ["self", "state", "number", "at", "frame", "ticks", "said", "mode", "count", "code", "most", "instruction"] ["self", "state", "number"] (defScope sWorldOutcome) := ⟨rfl, rfl, rfl, by decide +kernel, rfl, by decide +kernel, by decide +kernel⟩
  refine met_mk c.cl F S (fun _ _ _ _ _ _ us hl => match us, hl with | [_, _, _], _ => rfl) (fun vs H Q E h => ?_) (fun f cdv A outer s H vs Q E hr h => ?_)
  · obtain ⟨p, N, ths, cs, st, v, n, th, code, tr, is, m, fu, ws', b, rfl, _⟩ := h
    rfl
  · obtain ⟨p, N, ths, cs, st, v, n, th, code, tr, is, m, fu, ws', b, rfl, W, ds, B, q⟩ := h
    obtain ⟨dx, pg, cl, kl, cvs, hp, hpg, hcl, rcl, hkl⟩ := W
    obtain ⟨dxg, ce, tl, ps, hpi, hce, htl, hths⟩ := hpg
    obtain ⟨k, hcs⟩ := B.hcs
    obtain ⟨t, hat⟩ := B.hat
    obtain ⟨vc, hvc, dc⟩ := DVs.map_at rcl hcs
    obtain ⟨ca, cv, rfl, hca, rc⟩ := dc.lst_inv
    obtain ⟨vb, hvb, db⟩ := DVs.map_at rc hat
    obtain ⟨ba, bxs, rfl, hba, rb⟩ := db.tup_inv
    obtain ⟨_, vi, _, _, rfl, d0, d1, d2, d3⟩ := dvs4 rb
    cases d0; cases d2; cases d3
    obtain ⟨ia, icv, rfl, hia, ri⟩ := d1.lst_inv
    obtain ⟨sa, sm, sth, tvs, rfl, hsa, hsm, hsth, rth⟩ := stt_inv ds
    obtain ⟨vt, hvt, dt⟩ := DVs.map_at rth B.htr
    obtain ⟨ta, fa, sd, rfl, hta, hfa, hsd⟩ := tr_inv dt
    have hilen : icv.length = is.length := by rw [← ri.length, List.length_map]
    have hnl : n < ps.length := by rw [hths.1]; exact (List.getElem?_eq_some_iff.mp B.hth).1
    obtain ⟨dxt, va, bo, nm, hti, dva, dbo⟩ := hths.2 n ps[n] th (List.getElem?_eq_getElem hnl) B.hth
    obtain ⟨vxs, hva, hvxl, _, _⟩ := vars_inv dva
    refine ⟨_, (pss_cons (ps_asg (pe_ix ix_tup (pe_ix ix_tup (pv 1) pe_int (fun _ _ => rfl)) (pv 2) (fun _ _ => rfl)) (pg_tup rfl (pgs_cons (pg_name (i := 3) S.nd rfl (Or.inl rfl)) (pgs_cons (pg_name (i := 4) S.nd rfl (Or.inl rfl)) (pgs_cons (pg_name (i := 5) S.nd rfl (Or.inl rfl)) (pgs_cons (pg_name (i := 6) S.nd rfl (Or.inl rfl)) (pgs_cons (pg_name (i := 7) S.nd rfl (Or.inl rfl)) pgs_nil)))))))
  (pss_cons (ps_if (PW.pt (pw_or (pt_cmpR op_ne (pv 7) pe_str (nomark _)) (pw_or1 (pt_cmpR op_ne (pe_ix ix_tup (pe_ix ix_list (pe_ix ix_list (pe_fld (pv 0) rfl) (pv 2) (fun _ _ => rfl)) (pv 3) (fun _ _ => rfl)) pe_int (fun _ _ => rfl)) pe_str (nomark _)))))
  (pss_one (ps_ret pe_non))
  pss_nil)
  (pss_cons (ps_set (i := 8) S.nd rfl (Or.inl rfl) (pe_callB call_len_seq (by rfl) T.b.len (by decide +kernel) (pa_cons (pe_fld (pe_ix ix_list (pe_fld (pe_fld (pv 0) rfl) rfl) (pv 2) (fun _ _ => rfl)) rfl) pa_nil)))
  (pss_cons (ps_set (i := 9) S.nd rfl (Or.inl rfl) (pe_ix ix_tup (pe_ix ix_list (pe_ix ix_list (pe_fld (pv 0) rfl) (pv 2) (fun _ _ => rfl)) (pv 3) (fun _ _ => rfl)) pe_int (fun _ _ => rfl)))
  (pss_cons (ps_set (i := 10) S.nd rfl (Or.inl rfl) (pe_op op_add pe_int (pe_callB (cr_max rfl) (by rfl) T.b.max (by decide +kernel) (pa_cons (pe_op op_cat (pe_lst (pa_cons (pv 8) pa_nil)) (pe_lc (own := [("instruction", 11)]) rfl S.nd (pi_list (pv 9)) (blkOk_by (own := [("instruction", 11)]) (N := ["self", "state", "number", "at", "frame", "ticks", "said", "mode", "count", "code", "most", "instruction"]) (sc := defScope sWorldOutcome) (by decide +kernel)) (fun _ _ _ _ _ => (pg_name (i := 11) S.nd rfl (Or.inl rfl))) (fun _ _ _ _ _ => (pts_one (pt_cmpR (r := rIn K false) op_in_seq (pe_ix (r := rIxT K) ix_tup (pv 11) pe_int (fun _ _ => rfl)) (pe_tup (pa_cons pe_str (pa_cons pe_str (pa_cons pe_str pa_nil)))) (by rfl)))) (fun _ _ _ _ _ => (pe_ix (r := rIxT K) ix_tup (pv 11) pe_int (fun _ _ => rfl))))) pa_nil))))
  (pss_one (ps_ret (pe_c c_walk_block hr (pa_cons (pv 9) (pa_cons (pe_op op_cat (pe_callTy call_list_of (by rfl) T.b.list (by decide +kernel) (pa_cons (pe_slice sl_tupA (pv 4) po_none (po_some (pv 8))) pa_nil)) (pe_op op_rep (pe_lst (pa_cons pe_int pa_nil)) (pe_op op_sub (pv 10) (pv 8)))) (pa_cons (pv 8) (pa_cons (pe_callTy call_list_of (by rfl) T.b.list (by decide +kernel) (pa_cons (pe_ix ix_tup (pv 1) pe_int (fun _ _ => rfl)) pa_nil)) pa_nil)))))))))))), ?_⟩
    refine q_unp (ev_ixtv (ev_ixt (j := 1) ev_v hsa rfl) hsth ev_v hvt) hta rfl fun H1 e1 => ?_
    refine ⟨_, _, rfl, _, _, rfl, _, _, rfl, _, _, rfl, _, _, rfl, rfl, ?_⟩
    rw [B.hon]
    dsimp only [gName]
    have hkd := fun {H1 : Hp} (e1 : Ex H H1) {σ : L2.St} (h0 : σ[0]? = some (some (.ref p))) (h2 : σ[2]? = some (some (.int n))) (h3 : σ[3]? = some (some (.int tr.at_))) => (ev_ixl (K := K) (ev_ixl (K := K) (ev_fz (K := K) (i := 1) (f := "codes") (ev_v h0) (e1 _ _ hp) c rfl) (sqL_of (e1 _ _ hcl)) (ev_v h2) hvc) (sqL_of (e1 _ _ hca)) (ev_v h3) hvb)
    refine q_when (b := false) (Evl.et_is (et_or (a := false) (b := false) (et_neS ev_v ev_c) fun _ => et_neS (ev_ixt (j := 0) (hkd e1 rfl rfl rfl) (Same.sqT e1 hba) rfl) ev_c) rfl) (fun z => nomatch z) fun _ H2 e2 => ?_
    have e02 := Ex.trans e1 e2
    have hnps : (ps.map V.ref)[n]? = some (.ref ps[n]) := by rw [List.getElem?_map, List.getElem?_eq_getElem hnl]; rfl
    refine q_asg (v := .int ((nmV th.nx).length : Int)) (by
      rw [← hvxl]
      exact ev_lenl (ev_fz (i := 1) (ev_ixl (ev_fz (i := 1) (ev_fz (i := 0) ev_v (e02 _ _ hp) c rfl) (e02 _ _ hpi) cP rfl) (sqL_of (e02 _ _ htl)) ev_v hnps) (e02 _ _ hti) cT rfl) (sqL_of (e02 _ _ hva))) fun H3 e3 => ?_
    have e03 := Ex.trans e02 e3
    refine q_asg (v := .ref ia) (ev_ixt (j := 1) (hkd e03 rfl rfl rfl) (Same.sqT e03 hba) rfl) fun H4 e4 => ?_
    have e04 := Ex.trans e03 e4
    have hmap : (slots is).map (fun (i : Nat) => V.int (i : Int)) = is.filterMap slotV := by
      unfold slots
      rw [List.map_filterMap]
      refine congrArg (fun g => List.filterMap g is) (funext fun i => ?_)
      unfold slotV
      cases slotOf i <;> rfl
    refine q_asg (v := .int ((1 + m : Nat) : Int)) (Evl.ev_is (ev_op ev_c (ev_maxL (ns := (nmV th.nx).length :: slots is) (m := m) ?_ B.htop.1 B.htop.2) rv_I0) (congrArg V.int (by omega))) fun H5 e5 => ?_
    · have hl2 := List.length_filterMap_le slotV is
      have hil := B.hil
      refine el_is (el_cat (xs := [_]) (el_lst (ea_cons ev_v ea_nil) (by simp)) (el_lcF (g := slotV) ev_v (sqL_of (e04 _ _ hia)) hilen (by omega) (fun _ => rfl) fun i x y H5 e5 hx hy => ?_) (by rw [List.length_singleton]; omega)) (by rw [List.map_cons, hmap]; rfl)
      obtain ⟨x', hx', dx'⟩ := DVs.map_at ri hy
      rw [hx] at hx'
      cases hx'
      have dx5 := dx'.mono (Ex.trans e04 e5)
      obtain ⟨xa, xxs, rfl, hxa, hk0⟩ : ∃ xa xxs, x = .ref xa ∧ SqT K H5 xa (.str y.kd :: xxs) ∧ ∀ s, slotOf y = some s → xxs[0]? = some (.int s) := by
        cases y with
        | load s fi z e =>
          obtain ⟨xa, xs, rfl, hx, r⟩ := dx5.tup_inv
          cases r with | cons d0 r => cases d0; cases r with | cons d1 r => cases d1; exact ⟨xa, _, rfl, hx, fun s h => by cases h; rfl⟩
        | set s e =>
          obtain ⟨xa, xs, rfl, hx, r⟩ := dx5.tup_inv
          cases r with | cons d0 r => cases d0; cases r with | cons d1 r => cases d1; exact ⟨xa, _, rfl, hx, fun s h => by cases h; rfl⟩
        | put fi z i e =>
          obtain ⟨xa, xs, rfl, hx, r⟩ := dx5.tup_inv
          cases r with | cons d0 r => cases d0; exact ⟨xa, _, rfl, hx, fun s h => by cases h⟩
        | unl e t =>
          obtain ⟨xa, xs, rfl, hx, r⟩ := dx5.tup_inv
          cases r with | cons d0 r => cases d0; exact ⟨xa, _, rfl, hx, fun s h => by cases h⟩
        | jump t =>
          obtain ⟨xa, xs, rfl, hx, r⟩ := dx5.tup_inv
          cases r with | cons d0 r => cases d0; exact ⟨xa, _, rfl, hx, fun s h => by cases h⟩
        | retry =>
          obtain ⟨xa, xs, rfl, hx, r⟩ := dx5.tup_inv
          cases r with | cons d0 r => cases d0; exact ⟨xa, _, rfl, hx, fun s h => by cases h⟩
      have hkin : ∀ y : Ins, V.bl (inV (.str y.kd) [.str "set", .str "load", .str "count"]) = V.bl (slotV y).isSome := fun y => by
        cases y
        · show V.bl (inV (.str "load") [.str "set", .str "load", .str "count"]) = .bl true; decide +kernel
        · show V.bl (inV (.str "set") [.str "set", .str "load", .str "count"]) = .bl true; decide +kernel
        · show V.bl (inV (.str "put") [.str "set", .str "load", .str "count"]) = .bl false; decide +kernel
        · show V.bl (inV (.str "unless") [.str "set", .str "load", .str "count"]) = .bl false; decide +kernel
        · show V.bl (inV (.str "jump") [.str "set", .str "load", .str "count"]) = .bl false; decide +kernel
        · show V.bl (inV (.str "retry") [.str "set", .str "load", .str "count"]) = .bl false; decide +kernel
      refine ⟨et_test (Evl.ev_is (ev_inU (ev_ixt (j := 0) ev_v hxa rfl) (eu_tup (ea_cons ev_c (ea_cons ev_c (ea_cons ev_c ea_nil))) (by decide)) rfl rfl) (hkin y)), fun v hv => ?_⟩
      obtain ⟨s, hs, rfl⟩ : ∃ s, slotOf y = some s ∧ V.int (s : Nat) = v := by
        unfold slotV at hv
        cases h : slotOf y with
        | none => rw [h] at hv; cases hv
        | some s => rw [h] at hv; exact ⟨s, rfl, Option.some.inj hv⟩
      exact ev_ixt (j := 1) ev_v hxa (hk0 s hs)
    have e05 := Ex.trans e04 e5
    refine s_retX ?_
    refine ka_cons ev_v fun H6 e6 => ?_
    have e06 := Ex.trans e05 e6
    have hcut : ((tr.fr.map V.int).take (nmV th.nx).length) ++ List.replicate ((((1 + m : Nat) : Int) - ((nmV th.nx).length : Int)).toNat) (V.int 0) = (frW (nmV th.nx).length m tr.fr).map V.int := by
      unfold frW
      rw [List.map_append, List.map_take, List.map_replicate]
      congr 2
      omega
    have hnm : (nmV th.nx).length ≤ 1 := by cases th.nx <;> decide
    have hm := B.hm
    refine ka_consL (ys := (frW (nmV th.nx).length m tr.fr).map V.int) (by
      rw [← hcut]
      exact el_cat (el_listS (es_take ev_v (Same.sqT e06 hfa) ev_v)) (el_rep ev_c (ev_op ev_v ev_v rv_I0) (by omega) (by omega)) (by rw [List.length_take, List.length_replicate]; omega)) fun fl H7 n7 e7 h7 => ?_
    refine ka_cons ev_v fun H8 e8 => ?_
    have e08 := Ex.trans (Ex.trans e06 e7) e8
    refine ka_consL (el_listT (ev_ixt (j := 0) ev_v (Same.sqT e08 hsa) rfl) (Same.sqT e08 hsm)) fun ml H9 n9 e9 h9 => ?_
    have e09 := Ex.trans e08 e9
    refine ⟨ia, fl, ml, icv, _, _, is, (nmV th.nx).length, fu, ws', b, rfl, sqL_of (e09 _ _ hia), ri.mono e09, sqL_of (e9 _ _ (e8 _ _ h7)), sqL_of h9, B.hdep, B.run, fun o dxo r' w' fi' la' H10 e10 ho hb => ?_⟩
    exact q o dxo r' w' fi' la' H10 (Ex.trans e09 e10) ho fun h => let ⟨a1, a2, a3, a4, a5⟩ := hb h; ⟨a1, a2, a3, Evl.fresh_back e09 a4, Evl.fresh_back e09 a5⟩
end
end HK


set_option maxRecDepth 100000
set_option maxHeartbeats 4000000
/-! W4: World.case, possible. -/
namespace HK
open PySem PySem.Spec PyProof.Rows L2
open Evl (Ex Ev EvT EvA EvL EvU RetV ev_var ev_c ev_op ev_un ea_nil ea_cons et_test et_B et_and et_or et_not ev_call ev_cb rv_I0 rv_I rv_eq rv_ixL rv_ixT ev_inU ev_niU eu_tup el_lst ev_len el_list q_when q_if q_asg q_drop s_asg s_ret s_if s_drop)
def CaseM (ths : List Th) (cs : List (List TI × Nat)) (st : Stt) (n : Nat) (r : Bool) : Prop :=
  (r = false ∧ ∃ tr, st.ths[n]? = some tr ∧ tr.on = false) ∨ ∃ th code tr is m fu ws', AtBlk ths cs st n th code tr is m fu ws' r
def spCase (K : PySem.W.Frag) (CW CP CT : Addr) : Sp := fun vs H Q _ => ∃ (p : Addr) (N : Int) (ths : List Th) (cs : List (List TI × Nat)) (st : Stt) (v : V) (n : Nat) (r : Bool), vs = [.ref p, v, .int n] ∧ WoAt K CW CP CT H p N ths cs ∧ DV K H st.toD v ∧ CaseM ths cs st n r ∧ RetV (if r then .int 4 else .non) H Q
def stepsOf (n : Nat) (r : Nat → Bool) : List Nat := (List.range n).filter r
def spPoss (K : PySem.W.Frag) (CW CP CT : Addr) : Sp := fun vs H Q _ => ∃ (p : Addr) (N : Int) (ths : List Th) (cs : List (List TI × Nat)) (st : Stt) (v : V) (r : Nat → Bool), vs = [.ref p, v] ∧ WoAt K CW CP CT H p N ths cs ∧ DV K H st.toD v ∧ cs.length < 1000 ∧ st.ths.length < 1000 ∧ (∀ n, n < cs.length → CaseM ths cs st n (r n)) ∧
  Evl.RetL ((stepsOf cs.length r).map fun (i : Nat) => V.int (i : Int)) H Q
section
variable {K : PySem.W.Frag} {σ : L2.St} {H : Hp} {t : TT} {te : TE}
theorem el_lcT {a : Addr} {xs : List V} {tl : TE} {j : Nat} {vs : List Nat} (f : Nat → Bool) (v : Nat → V) (h : Ev tl σ H (.ref a)) (hx : SqT K H a xs) (hz : xs.length ≤ 40000) (hw : ∀ x, wipe ((wipe σ vs).set j (some x)) vs = wipe σ vs)
    (ht : ∀ (i : Nat) (x : V) H1, Ex H H1 → xs[i]? = some x → EvT t ((wipe σ vs).set j (some x)) H1 (f i)) (he : ∀ (i : Nat) (x : V) H1, Ex H H1 → xs[i]? = some x → f i = true → Ev te ((wipe σ vs).set j (some x)) H1 (v i)) :
    EvL (tLc (iTup K tl) (gName j) t te vs) σ H (Evl.given xs.length f v) := fun H0 e Q q => h H0 e _ fun H1 e1 => ⟨a, rfl, ⟨xs, Evl.ex_t (e.trans e1) hx⟩, fun Dl hD =>
  lc_tup (xs := xs) (Evl.Cw H1 f v Dl) ⟨hD, Ex.new hD, upd_same⟩ (fun i H' _ p => Evl.ex_t ((e.trans e1).trans p.2.1) hx) (fun i x H' hi p => ⟨hw x, Evl.cw_turn p (by have := (List.getElem?_eq_some_iff.mp hi).1; omega) (ht i x H1 (e.trans e1) hi) (fun hf => he i x H1 (e.trans e1) hi hf)⟩)
    (fun H' p => q Dl H' (Evl.fresh_back e1 p.1) (e1.trans p.2.1) p.2.2)⟩
theorem et_fldNe {ta : TE} {C : Addr} {ks : List Str} {f s s' : Str} {i : Nat} {b : Bool} (hc : ClsF K C ks) (h : ∀ H1, Ex H H1 → ∀ Q : VK, (∀ o dx vs H2, Ex H1 H2 → H2 o = some (.ins C dx (ks.zip vs)) → vs[i]? = some (.str s') → Q (.ref o) H2) → ta σ H1 Q)
    (e : (!decide (s' = s)) = b) (hi : ixS f ks = some i := by decide +kernel) : EvT (tTest (tOp rNe (tFld K ta f) (tC (.str s)))) σ H b := fun H1 e1 Q q =>
  h H1 e1 _ fun o dx vs H2 e2 ho hv => ⟨o, C, dx, _, .str s', rfl, ho, hc.cl, hc.na f (ixS_mem hi), fz_lk hi hv, rfl, b, by
    have e2 : (!decide (V.str s' = V.str s)) = b := by rw [← e]; exact congrArg (!·) (decide_eq_decide.mpr ⟨fun q => V.str.inj q, fun q => by rw [q]⟩)
    rw [e2], q H2 e2⟩
theorem given_const {n : Nat} {v : V} : Evl.given n (fun _ => true) (fun _ => v) = List.replicate n v := by
  induction n with
  | zero => rfl
  | succ n ih => rw [Evl.given_yes (n := n) (f := fun _ => true) (v := fun _ => v) rfl, ih, List.replicate_succ']
end
abbrev sWorldCase : Stmt := inClass (top 41) 5
abbrev sWorldPossible : Stmt := inClass (top 41) 6
section
variable {P : Program} {w : World} {K : PySem.W.Frag} {mg : Str → Option Value} {base : Heap} {aR CW CP CT CO : Addr}
theorem ok_case (T : Tx K mg aR) (c : ClsF K CW ksWo) (cO : ClsF K CO ksO) (F : MethAt K CW "case" "World.case" sWorldCase) (m_outcome : Met P w K mg base 11 CW "outcome" (spOutc K CW CP CT CO)) : Met P w K mg base 12 CW "case" (spCase K CW CP CT) := by
  have S : FnScope ["self", "state", "number", "at", "frame", "ticks", "said", "mode", "instruction"] ["self", "state", "number"] (defScope sWorldCase) := ⟨rfl, rfl, rfl, by decide +kernel, rfl, by decide +kernel, by decide +kernel⟩
  refine met_mk c.cl F S (fun _ _ _ _ _ _ us hl => match us, hl with | [_, _, _], _ => rfl) (fun vs H Q E h => ?_) (fun f cdv A outer s H vs Q E hr h => ?_)
  · obtain ⟨p, N, ths, cs, st, v, n, r, rfl, _⟩ := h
    rfl
  · obtain ⟨p, N, ths, cs, st, v, n, r, rfl, W, ds, hC, q⟩ := h
    have W0 := W
    have ds0 := ds
    obtain ⟨dx, pg, cl, kl, cvs, hp, hpg, hcl, rcl, hkl⟩ := W
    obtain ⟨sa, sm, sth, tvs, rfl, hsa, hsm, hsth, rth⟩ := stt_inv ds
    refine ⟨_, (pss_cons (ps_asg (pe_ix ix_tup (pe_ix ix_tup (pv 1) pe_int (fun _ _ => rfl)) (pv 2) (fun _ _ => rfl)) (pg_tup rfl (pgs_cons (pg_name (i := 3) S.nd rfl (Or.inl rfl)) (pgs_cons (pg_name (i := 4) S.nd rfl (Or.inl rfl)) (pgs_cons (pg_name (i := 5) S.nd rfl (Or.inl rfl)) (pgs_cons (pg_name (i := 6) S.nd rfl (Or.inl rfl)) (pgs_cons (pg_name (i := 7) S.nd rfl (Or.inl rfl)) pgs_nil)))))))
  (pss_cons (ps_if (pt_cmpR op_ne (pv 7) pe_str (nomark _))
  (pss_one (ps_ret pe_non))
  pss_nil)
  (pss_cons (ps_set (i := 8) S.nd rfl (Or.inl rfl) (pe_ix ix_list (pe_ix ix_list (pe_fld (pv 0) rfl) (pv 2) (fun _ _ => rfl)) (pv 3) (fun _ _ => rfl)))
  (pss_cons (ps_if (pt_cmpR op_eq (pe_ix ix_tup (pv 8) pe_int (fun _ _ => rfl)) pe_str (nomark _))
  pss_never
  pss_nil)
  (pss_cons (ps_if (PW.pt (pw_and (pt_cmpR op_notN (pe_ix ix_tup (pv 8) pe_int (fun _ _ => rfl)) pe_non (nomark _)) (pw_and1 (pt_cmpR op_eq (pv 5) (pe_un un_neg pe_int) (nomark _)))))
  (pss_one (ps_ret pe_int))
  pss_nil)
  (pss_cons (ps_if (pt_cmpR op_ne (pe_fld (pe_mt m_outcome hr (pv 0) (pa_cons (pv 1) (pa_cons (pv 2) pa_nil))) rfl) pe_str (nomark _))
  (pss_one (ps_ret pe_int))
  pss_nil)
  (pss_cons (ps_if (PW.pt (pw_and (pt_cmpR op_notN (pe_ix ix_tup (pv 8) pe_int (fun _ _ => rfl)) pe_non (nomark _)) (pw_and1 (pt_cmpR op_eq (pv 5) pe_int (nomark _)))))
  (pss_one (ps_ret pe_int))
  pss_nil)
  (pss_one (ps_ret pe_non))))))))), ?_⟩
    rcases hC with ⟨rfl, tr, htr, hoff⟩ | ⟨th, code, tr, is, m, fu, ws', B⟩
    · obtain ⟨vt, hvt, dt⟩ := DVs.map_at rth htr
      obtain ⟨ta, fa, sd, rfl, hta, hfa, hsd⟩ := tr_inv dt
      refine q_unp (ev_ixtv (ev_ixt (j := 1) ev_v hsa rfl) hsth ev_v hvt) hta rfl fun H1 e1 => ?_
      refine ⟨_, _, rfl, _, _, rfl, _, _, rfl, _, _, rfl, _, _, rfl, rfl, ?_⟩
      rw [hoff]
      dsimp only [gName]
      refine q_when (b := true) (et_neS ev_v ev_c) (fun _ H2 e2 => ?_) (fun z => nomatch z)
      exact s_ret ev_c fun H3 e3 => q H3 (Ex.trans (Ex.trans e1 e2) e3)
    · obtain ⟨k, hcs⟩ := B.hcs
      obtain ⟨t, hat⟩ := B.hat
      obtain ⟨vc, hvc, dc⟩ := DVs.map_at rcl hcs
      obtain ⟨ca, cv, rfl, hca, rc⟩ := dc.lst_inv
      obtain ⟨vb, hvb, db⟩ := DVs.map_at rc hat
      obtain ⟨ba, bxs, rfl, hba, rb⟩ := db.tup_inv
      obtain ⟨_, vi, _, _, rfl, d0, d1, d2, d3⟩ := dvs4 rb
      cases d0; cases d2; cases d3
      obtain ⟨vt, hvt, dt⟩ := DVs.map_at rth B.htr
      obtain ⟨ta, fa, sd, rfl, hta, hfa, hsd⟩ := tr_inv dt
      refine q_unp (ev_ixtv (ev_ixt (j := 1) ev_v hsa rfl) hsth ev_v hvt) hta rfl fun H1 e1 => ?_
      refine ⟨_, _, rfl, _, _, rfl, _, _, rfl, _, _, rfl, _, _, rfl, rfl, ?_⟩
      rw [B.hon]
      dsimp only [gName]
      refine q_when (b := false) (et_neS ev_v ev_c) (fun z => nomatch z) fun _ H2 e2 => ?_
      have e02 := Ex.trans e1 e2
      refine q_asg (ev_ixl (ev_ixl (ev_fz (i := 1) ev_v (e02 _ _ hp) c rfl) (sqL_of (e02 _ _ hcl)) ev_v hvc) (sqL_of (e02 _ _ hca)) ev_v hvb) fun H3 e3 => ?_
      have e03 := Ex.trans e02 e3
      refine q_when (b := false) (et_eqS (ev_ixt (j := 0) ev_v (Same.sqT e03 hba) rfl) ev_c) (fun z => nomatch z) fun _ H4 e4 => ?_
      have e04 := Ex.trans e03 e4
      refine q_when (b := false) (Evl.et_is (et_and (a := false) (b := false) (Evl.et_is (et_test (ev_op (ev_ixt (j := 2) ev_v (Same.sqT e04 hba) rfl) ev_c (Evl.rv_val (z := .bl (!decide (V.non = V.non))) fun H3 _ Q q => ⟨rfl, q⟩))) (by simp)) fun z => nomatch z) rfl) (fun z => nomatch z) fun _ H5 e5 => ?_
      have e05 := Ex.trans e04 e5
      refine q_when (b := r) ?_ (fun hb H6 e6 => ?_) (fun hb H6 e6 => ?_)
      · refine et_fldNe (i := 0) (s' := if r then "done" else "retry") cO (fun H6 e6 Q q => ?_) (by cases r <;> decide +kernel)
        have e06 := Ex.trans e05 e6
        refine go_meth ev_v (e06 _ _ hp) (fz_none (by decide +kernel)) (ea_cons ev_v (ea_cons ev_v ea_nil)) fun H7 e7 => ?_
        have e07 := Ex.trans e06 e7
        exact ⟨p, N, ths, cs, st, .ref sa, n, th, code, tr, is, m, fu, ws', r, rfl, W0.grow e07, ds0.mono e07, B, fun o dxo r' w' fi' la' H9 e9 ho _ => q o dxo _ H9 (Ex.trans e7 e9) ho rfl⟩
      · rw [hb] at q
        exact s_ret ev_c fun H7 e7 => q H7 (Ex.trans (Ex.trans e05 e6) e7)
      · rw [hb] at q
        have e06 := Ex.trans e05 e6
        refine q_when (b := false) (Evl.et_is (et_and (a := false) (b := false) (Evl.et_is (et_test (ev_op (ev_ixt (j := 2) ev_v (Same.sqT e06 hba) rfl) ev_c (Evl.rv_val (z := .bl (!decide (V.non = V.non))) fun H3 _ Q q => ⟨rfl, q⟩))) (by simp)) fun z => nomatch z) rfl) (fun z => nomatch z) fun _ H7 e7 => ?_
        exact s_ret ev_c fun H8 e8 => q H8 (Ex.trans (Ex.trans e06 e7) e8)
theorem ok_poss (T : Tx K mg aR) (c : ClsF K CW ksWo) (F : MethAt K CW "possible" "World.possible" sWorldPossible) (m_case : Met P w K mg base 12 CW "case" (spCase K CW CP CT)) : Met P w K mg base 13 CW "possible" (spPoss K CW CP CT) := by
  have S : FnScope ["self", "state", "steps", "number", "thread"] ["self", "state"] (defScope sWorldPossible) := ⟨rfl, rfl, rfl, by decide +kernel, rfl, by decide +kernel, by decide +kernel⟩
  refine met_mk c.cl F S (fun _ _ _ _ _ _ us hl => match us, hl with | [_, _], _ => rfl) (fun vs H Q E h => ?_) (fun f cdv A outer s H vs Q E hr h => ?_)
  · obtain ⟨p, N, ths, cs, st, v, r, rfl, _⟩ := h
    rfl
  · obtain ⟨p, N, ths, cs, st, v, r, rfl, W, ds, hl1, hl2, hC, q⟩ := h
    have W0 := W
    have ds0 := ds
    obtain ⟨dx, pg, cl, kl, cvs, hp, hpg, hcl, rcl, hkl⟩ := W
    obtain ⟨sa, sm, sth, tvs, rfl, hsa, hsm, hsth, rth⟩ := stt_inv ds
    have hlc : cvs.length = cs.length := by rw [← rcl.length, List.length_map]
    have hlt : tvs.length = st.ths.length := by rw [← rth.length, List.length_map]
    obtain ⟨t_, gTICK⟩ := T.gTICK
    refine ⟨_, (pss_cons (ps_setLc (i := 2) (own := [("number", 3)]) rfl S.nd rfl rfl (sw_true rfl rfl rfl (by decide +kernel)) (pi_range1 rfl T.b.range (pa_cons (pe_callB call_len_seq (by rfl) T.b.len (by decide +kernel) (pa_cons (pe_fld (pv 0) rfl) pa_nil)) pa_nil)) (blkOk_by (own := [("number", 3)]) (N := ["self", "state", "steps", "number", "thread"]) (sc := defScope sWorldPossible) (by decide +kernel)) (fun _ _ _ _ _ => (pg_name (i := 3) S.nd rfl (Or.inl rfl))) (fun _ _ _ _ _ => (pts_one (pt_cmpR op_notN (pe_mt m_case hr (pv 0) (pa_cons (pv 1) (pa_cons (pv 3) pa_nil))) pe_non (nomark _)))) (fun _ _ _ _ _ => (pv 3)))
  (pss_cons (ps_if (pt_val (pe_callB (cr_any rfl) (by rfl) T.b.any (by decide +kernel) (pa_cons (pe_lc (own := [("thread", 4)]) rfl S.nd (pi_tup (pe_ix ix_tup (pv 1) pe_int (fun _ _ => rfl))) (blkOk_by (own := [("thread", 4)]) (N := ["self", "state", "steps", "number", "thread"]) (sc := defScope sWorldPossible) (by decide +kernel)) (fun _ _ _ _ _ => (pg_name (i := 4) S.nd rfl (Or.inl rfl))) (fun _ _ _ _ _ => pts_nil) (fun _ _ _ _ _ => (pe_and (pe_cmpR op_gt (pe_ix (r := rIxT K) ix_tup (pv 4) pe_int (fun _ _ => rfl)) pe_int (nomark _)) (pe_one (pe_cmpR op_eq (pe_ix (r := rIxT K) ix_tup (pv 4) pe_int (fun _ _ => rfl)) pe_str (nomark _)))))) pa_nil)))
  pss_never
  pss_nil)
  (pss_one (ps_ret (pv 2))))), ?_⟩
    refine Evl.q_asgL (xs := (stepsOf cs.length r).map fun (i : Nat) => V.int (i : Int)) ?_ fun sl H1 n1 e1 h1 => ?_
    · refine el_is (Evl.el_lcR1 r (fun i => .int (i : Nat)) (n := (cs.length : Int)) (ea_cons (Evl.ev_is (ev_lenl (ev_fz (i := 1) ev_v hp c rfl) (sqL_of hcl)) (by rw [hlc])) ea_nil) (by omega) (fun _ => rfl) (fun i H1 e1 hi => ?_) (fun i H1 e1 hi _ => ev_v)) rfl
      refine Evl.et_is (et_test (ev_op (ev_meth (z := if r i then .int 4 else .non) ev_v (e1 _ _ hp) (fz_none (by decide +kernel)) (ea_cons ev_v (ea_cons ev_v ea_nil)) fun H2 e2 Q q E => ?_) ev_c (Evl.rv_val (z := .bl (!decide ((if r i then V.int 4 else V.non) = V.non))) fun H3 _ Q q => ⟨rfl, q⟩))) (by cases r i <;> simp)
      exact ⟨p, N, ths, cs, st, .ref sa, i, r i, rfl, W0.grow (Ex.trans e1 e2), ds0.mono (Ex.trans e1 e2), hC i (by omega), q⟩
    refine q_when (b := false) (Evl.et_is (et_test (ev_anyL (bs := List.replicate tvs.length false) ?_)) (by simp)) (fun z => nomatch z) fun _ H2 e2 => ?_
    · rw [List.map_replicate, ← given_const]
      refine el_lcT (fun _ => true) (fun _ => .bl false) (ev_ixt (j := 1) ev_v (Same.sqT e1 hsa) rfl) (Same.sqT e1 hsth) (by omega) (fun _ => rfl) (fun _ _ _ _ _ => et_yes) fun i x H2 e2 hx _ => ?_
      have hil : i < st.ths.length := by rw [← hlt]; exact (List.getElem?_eq_some_iff.mp hx).1
      obtain ⟨vt, hvt, dt⟩ := DVs.map_at rth (List.getElem?_eq_getElem hil)
      rw [hx] at hvt
      cases hvt
      obtain ⟨ta, fa, sd, rfl, hta, _, _⟩ := tr_inv dt
      exact Evl.ev_andV (a := false) (b := false) (ev_op (ev_ixt (j := 2) ev_v (Same.sqT (Ex.trans e1 e2) hta) rfl) ev_c rv_I0) (fun z => nomatch z)
    · exact s_ret ev_v fun H3 e3 => q sl H3 n1 (Ex.trans (Ex.trans e1 e2) e3) ((Ex.trans e2 e3) _ _ h1)
end
end HK


set_option maxRecDepth 100000
set_option maxHeartbeats 4000000
/-! W5: World.block_done. -/
namespace HK
open PySem PySem.Spec PyProof.Rows L2
open Evl (Ex Ev EvT EvA EvL EvU RetV ev_var ev_c ev_op ev_un ea_nil ea_cons et_test et_B et_and et_or et_not ev_call ev_cb rv_I0 rv_I rv_eq rv_ixL rv_ixT ev_inU ev_niU eu_tup el_lst ev_len el_list q_when q_if q_asg q_drop s_asg s_ret s_if s_drop)
def wrV (wrs : List (Nat × Int)) : List (Key × V) := wrs.map fun cx => (Sum.inl (cx.1 : Int), V.int cx.2)
def memW (mem : List Int) (wrs : List (Nat × Int)) : List Int := wrs.foldl (fun m cx => m.set cx.1 cx.2) mem
/-- a block that is done: the memory and the thread behind it -/
def BD (ths : List Th) (cs : List (List TI × Nat)) (st : Stt) (n : Nat) (mem' : List Int) (tr' : Tr) : Prop := ∃ (th : Th) (code : List TI) (tr : Tr) (is : List Ins) (m fu fu2 : Nat) (ws' : WS) (wrs : List (Nat × Int)) (fi : List Int) (i' : Nat) (said' : List Int),
  AtBlk ths cs st n th code tr is m fu ws' true ∧ ws'.wr = wrV wrs ∧ (∀ cx ∈ wrs, cx.1 < st.mem.length) ∧ ws'.fr.take (nmV th.nx).length = fi.map V.int ∧ goM code (fi ++ tr.fr.drop fi.length) fu2 (tr.at_ + 1) tr.said = some (i', said') ∧
  tr.fr.length < 1000 ∧ fi.length ≤ tr.fr.length ∧ fi.length < 1000 ∧ st.mem.length < 1000 ∧ wrs.length < 1000 ∧ tr.said.length < 1000 ∧ mem' = memW st.mem wrs ∧ tr' = ⟨i', fi ++ tr.fr.drop fi.length, said', decide (i' < code.length)⟩
def dBD (mem' : List Int) (tr' : Tr) : D := .tup [.tup (mem'.map D.int), tr'.toD]
def spBD (K : PySem.W.Frag) (CW CP CT : Addr) : Sp := fun vs H Q _ => ∃ (p : Addr) (N : Int) (ths : List Th) (cs : List (List TI × Nat)) (st : Stt) (v : V) (n : Nat) (mem' : List Int) (tr' : Tr), vs = [.ref p, v, .int n] ∧ WoAt K CW CP CT H p N ths cs ∧ DV K H st.toD v ∧ BD ths cs st n mem' tr' ∧ Ret K H Q (dBD mem' tr')
abbrev sWorldBlockDone : Stmt := inClass (top 41) 10
theorem memW_len (mem : List Int) (wrs : List (Nat × Int)) : (memW mem wrs).length = mem.length := by
  unfold memW
  induction wrs generalizing mem with
  | nil => rfl
  | cons x r ih => rw [List.foldl_cons, ih, List.length_set]
theorem memW_snoc (mem : List Int) (wrs : List (Nat × Int)) (x : Nat × Int) : memW mem (wrs ++ [x]) = (memW mem wrs).set x.1 x.2 := by
  unfold memW
  rw [List.foldl_append]
  rfl
section
variable {K : PySem.W.Frag} {σ : L2.St} {H : Hp} {ta tb te td : TE} {xs ys : List V} {D' : Ends}
theorem es_drop {a : Addr} {n : Nat} (h : Ev te σ H (.ref a)) (hx : SqT K H a xs) (hb : Ev tb σ H (.int (n : Int))) (hn : n ≤ xs.length) : EvS K (tSl (rSlA K) te (tPart tb) tNoPart) σ H (xs.drop n) := fun H1 e Q q =>
  h H1 e _ fun H2 e2 => hb H2 (Ex.trans e e2) _ fun H3 e3 => ⟨(n : Int), rfl, a, xs, rfl, Same.sqT (Ex.trans (Ex.trans e e2) e3) hx, fun hw => by
    refine q a H3 (Ex.trans e2 e3) ?_
    have hl : min n xs.length = 0 := by rw [← HT.sIx_nat]; exact hw.1
    have : n = 0 ∨ xs.length = 0 := by omega
    have hd : xs.drop n = xs := by
      rcases this with h | h
      · rw [h]; rfl
      · rw [List.length_eq_zero_iff.mp h]; simp
    rw [hd]
    exact Same.sqT (Ex.trans (Ex.trans e e2) e3) hx, fun _ p hp => by
    have hc : cutV xs (some (n : Int)) none = xs.drop n := by
      unfold cutV
      rw [HT.sIx_nat, HT.sIx_none, Nat.min_eq_left hn]
      exact List.take_of_length_le (by rw [List.length_drop]; omega)
    rw [hc]
    exact q p _ (Ex.trans (Ex.trans e2 e3) (Ex.new hp)) (sqT_of upd_same)⟩
/-- t + (): -/
theorem es_cat0 {a : Addr} (ha : Ev ta σ H (.ref a)) (hx : SqT K H a xs) (hb : EvU tb σ H []) (hz : xs.length ≤ 100000) : EvS K (tOp (rCatA K) ta tb) σ H xs := fun H1 e Q q =>
  ha H1 e _ fun H2 e2 => hb H2 (Ex.trans e e2) _ fun b H3 nb e3 h3 => ⟨a, b, xs, [], rfl, rfl, Same.sqT (Ex.trans (Ex.trans e e2) e3) hx, sqT_of h3, by rw [sizeLine_eq, List.length_nil]; omega,
    fun h0 => by rw [h0] at q; exact q b H3 (Ex.trans e2 e3) (sqT_of h3), fun _ _ => q a H3 (Ex.trans e2 e3) (Same.sqT (Ex.trans (Ex.trans e e2) e3) hx), fun _ h => absurd rfl h⟩
theorem q_asgS {i : Nat} {u : TS} (h : EvS K te σ H xs) (k : ∀ a H1, Ex H H1 → SqT K H1 a xs → u D' (σ.set i (some (.ref a))) H1) : tSeq (tAsg te (gName i)) u D' σ H := h H (Ex.refl H) _ fun a H1 e1 hx => k a H1 e1 hx
/-- for a, b in d.items(), d locked -/
theorem s_forItems {d : Addr} {od : Obj} {kvs : List (Key × V)} {g : TG} {tu : TS} (h : Ev td σ H (.ref d)) (hd : H d = some (.frz od (.dK kvs))) (Pv : Nat → L2.St → Hp → Prop) (h0 : ∀ H1, Ex H H1 → Pv 0 σ H1) (hl : ∀ i σ' H', Pv i σ' H' → H' d = some (.frz od (.dK kvs)))
    (hs : ∀ i k v T σ' H', kvs[i]? = some (k, v) → Pv i σ' H' → H' T = none → g (.ref T) σ' (upd H' T (.tup [kV k, v])) fun σ2 H2 => tu { D' with nx := Pv (i + 1), ct := Pv (i + 1), bk := D'.nx } σ2 H2) (he : ∀ σ' H', Pv kvs.length σ' H' → D'.nx σ' H') :
    tFor (iItems td) g tu D' σ H := h H (Ex.refl H) _ fun H1 e1 => ⟨d, od, kvs, rfl, e1 _ _ hd, for_it walk_items Pv (h0 H1 e1) (fun i σ' H' _ p => hl i σ' H' p) (fun i x σ' H' H'' hi p y => by
      obtain ⟨T, x1, y1, rfl, nT, rfl, h1, h2⟩ := y
      have hk : kvs[i]? = some kvs[i] := List.getElem?_eq_getElem hi
      dsimp only at h1 h2
      rw [hk] at h1 h2
      cases h1; cases h2
      exact hs i kvs[i].1 kvs[i].2 T σ' H' hk p nT) he⟩
end
section
variable {P : Program} {w : World} {K : PySem.W.Frag} {mg : Str → Option Value} {base : Heap} {aR CW CP CT CO : Addr}
theorem ok_bd (T : Tx K mg aR) (c : ClsF K CW ksWo) (cO : ClsF K CO ksO) (F : MethAt K CW "block_done" "World.block_done" sWorldBlockDone) (m_outcome : Met P w K mg base 11 CW "outcome" (spOutc K CW CP CT CO)) (m_going_on : Met P w K mg base 7 CW "going_on" (spGo K CW CP CT)) : Met P w K mg base 12 CW "block_done" (spBD K CW CP CT) := by
  have S : FnScope ["self", "state", "number", "memory", "at", "frame", "ticks", "said", "mode", "outcome", "cell", "value", "values", "words"] ["self", "state", "number"] (defScope sWorldBlockDone) := ⟨rfl, rfl, rfl, by decide +kernel, rfl, by decide +kernel, by decide +kernel⟩
  refine met_mk c.cl F S (fun _ _ _ _ _ _ us hl => match us, hl with | [_, _, _], _ => rfl) (fun vs H Q E h => ?_) (fun f cdv A outer s H vs Q E hr h => ?_)
  · obtain ⟨p, N, ths, cs, st, v, n, mem', tr', rfl, _⟩ := h
    rfl
  · obtain ⟨p, N, ths, cs, st, v, n, mem', tr', rfl, W, ds, ⟨th, code, tr, is, m, fu, fu2, ws', wrs, fi, i', said', B, hwr, hwl, hfi, hgo, z1, z6, z2, z3, z4, z5, rfl, rfl⟩, q⟩ := h
    have W0 := W
    have ds0 := ds
    obtain ⟨dx, pg, cl, kl, cvs, hp, hpg, hcl, rcl, hkl⟩ := W
    obtain ⟨sa, sm, sth, tvs, rfl, hsa, hsm, hsth, rth⟩ := stt_inv ds
    obtain ⟨k, hcs⟩ := B.hcs
    obtain ⟨vt, hvt, dt⟩ := DVs.map_at rth B.htr
    obtain ⟨ta, fa, sd, rfl, hta, hfa, hsd⟩ := tr_inv dt
    refine ⟨_, (pss_cons (ps_set (i := 3) S.nd rfl (Or.inl rfl) (pe_callTy call_list_of (by rfl) T.b.list (by decide +kernel) (pa_cons (pe_ix ix_tup (pv 1) pe_int (fun _ _ => rfl)) pa_nil)))
  (pss_cons (ps_asg (pe_ix ix_tup (pe_ix ix_tup (pv 1) pe_int (fun _ _ => rfl)) (pv 2) (fun _ _ => rfl)) (pg_tup rfl (pgs_cons (pg_name (i := 4) S.nd rfl (Or.inl rfl)) (pgs_cons (pg_name (i := 5) S.nd rfl (Or.inl rfl)) (pgs_cons (pg_name (i := 6) S.nd rfl (Or.inl rfl)) (pgs_cons (pg_name (i := 7) S.nd rfl (Or.inl rfl)) (pgs_cons (pg_name (i := 8) S.nd rfl (Or.inl rfl)) pgs_nil)))))))
  (pss_cons (ps_set (i := 9) S.nd rfl (Or.inl rfl) (pe_mt m_outcome hr (pv 0) (pa_cons (pv 1) (pa_cons (pv 2) pa_nil))))
  (pss_cons (ps_if (pt_cmpR op_eq (pe_fld (pv 9) rfl) pe_str (nomark _))
  (pss_one (ps_ret (pe_tup (pa_cons (pe_ix ix_tup (pv 1) pe_int (fun _ _ => rfl)) (pa_cons (pe_tup (pa_cons (pv 4) (pa_cons (pv 5) (pa_cons (pv 6) (pa_cons (pv 7) (pa_cons (pe_fld (pv 9) rfl) pa_nil)))))) pa_nil)))))
  pss_nil)
  (pss_cons (ps_lock (ps_for PassesOwn.never rfl (pi_items (pe_fld (pv 9) rfl)) (pg_tup rfl (pgs_cons (pg_name (i := 10) S.nd rfl (Or.inl rfl)) (pgs_cons (pg_name (i := 11) S.nd rfl (Or.inl rfl)) pgs_nil)))
  (pss_one (ps_asg (pv 11) (pg_sub (pv 3) (pv 10) set_list)))))
  (pss_cons (ps_set (i := 12) S.nd rfl (Or.inl rfl) (pe_op op_cat (pe_fld (pv 9) rfl) (pe_callTy call_list_of (by rfl) T.b.list (by decide +kernel) (pa_cons (pe_slice sl_tupA (pv 5) (po_some (pe_callB call_len_seq (by rfl) T.b.len (by decide +kernel) (pa_cons (pe_fld (pv 9) rfl) pa_nil))) po_none) pa_nil))))
  (pss_cons (ps_set (i := 13) S.nd rfl (Or.inl rfl) (pe_op op_catA (pv 7) (pe_callTy call_tuple_of (by rfl) T.b.tuple (by decide +kernel) (pa_cons (pe_fld (pv 9) rfl) pa_nil))))
  (pss_one (ps_ret (pe_tup (pa_cons (pe_callTy call_tuple_of (by rfl) T.b.tuple (by decide +kernel) (pa_cons (pv 3) pa_nil)) (pa_cons (pe_mt m_going_on hr (pv 0) (pa_cons (pv 2) (pa_cons (pe_op op_add (pv 4) pe_int) (pa_cons (pv 12) (pa_cons (pe_un un_neg pe_int) (pa_cons (pv 13) pa_nil)))))) pa_nil)))))))))))), ?_⟩
    refine Evl.q_asgL (el_listT (ev_ixt (j := 0) ev_v hsa rfl) hsm) fun ml H1 n1 e1 h1 => ?_
    refine q_unp (ev_ixtv (ev_ixt (j := 1) ev_v (Same.sqT e1 hsa) rfl) (Same.sqT e1 hsth) ev_v hvt) (Same.sqT e1 hta) rfl fun H2 e2 => ?_
    refine ⟨_, _, rfl, _, _, rfl, _, _, rfl, _, _, rfl, _, _, rfl, rfl, ?_⟩
    rw [B.hon]
    have e02 := Ex.trans e1 e2
    refine q_asgX (go_meth ev_v (e02 _ _ hp) (fz_none (by decide +kernel)) (ea_cons ev_v (ea_cons ev_v ea_nil)) fun H3 e3 => ?_)
    have e03 := Ex.trans e02 e3
    refine ⟨p, N, ths, cs, st, .ref sa, n, th, code, tr, is, m, fu, ws', true, rfl, W0.grow e03, ds0.mono e03, B, fun o dxo r' w' fi' la' H4 e4 ho hdone => ?_⟩
    obtain ⟨hw4, hf4, hl4, nf3, nl3⟩ := hdone rfl
    dsimp only [gName]
    refine q_when (b := false) (et_eqS (ev_fz (i := 0) ev_v ho cO rfl) ev_c) (fun z => nomatch z) fun _ H5 e5 => ?_
    have ho5 := e5 _ _ ho
    have hw5 := e5 _ _ hw4
    have hm5 : H5 ml = some (.lst (st.mem.map V.int)) := (Ex.trans (Ex.trans (Ex.trans e2 e3) e4) e5) _ _ h1
    have e05 : Ex H H5 := Ex.trans (Ex.trans e03 e4) e5
    have nod : o ≠ w' := ne_of ho5 hw5 (by intro z; cases z)
    have nmd : ml ≠ w' := ne_of hm5 hw5 (by intro z; cases z)
    rw [hwr] at hw5
    refine ⟨w', _, hw5, trivial, fun od => ?_⟩
    have hL : Ev (tFld K (tVar 9) "writes") [some (.ref p), some (.ref sa), some (.int n), some (.ref ml), some (.int tr.at_), some (.ref fa), some (.int (-1)), some (.ref sd), some (.str "on"), some (.ref o), none, none, none, none] (upd H5 w' (.frz od (.dK (wrV wrs)))) (.ref w') := ev_fz (i := 2) ev_v (by rw [upd_ne nod]; exact ho5) cO rfl
    refine s_forItems hL upd_same (fun i σ' H' => H' w' = some (.frz od (.dK (wrV wrs))) ∧ (∀ b u, b ≠ w' → b ≠ ml → H5 b = some u → H' b = some u) ∧ H' ml = some (.lst ((memW st.mem (wrs.take i)).map V.int)) ∧ ∃ v10 v11 : Option V, σ' = [some (.ref p), some (.ref sa), some (.int n), some (.ref ml), some (.int tr.at_), some (.ref fa), some (.int (-1)), some (.ref sd), some (.str "on"), some (.ref o), v10, v11, none, none])
      (fun H6 e6 => ⟨e6 _ _ upd_same, fun b u nb _ h => e6 b u (by rw [upd_ne nb]; exact h), e6 _ _ (by rw [upd_ne nmd]; exact hm5), none, none, rfl⟩) (fun i σ' H' h => h.1) ?_ ?_
    · rintro i kk vv T0 σ' H7 hkv0 ⟨hw7, b7, hm7, v10, v11, rfl⟩ nT
      have hil : i < wrs.length := by
        have := (List.getElem?_eq_some_iff.mp hkv0).1
        unfold wrV at this
        rwa [List.length_map] at this
      have hkv : (wrV wrs)[i]? = some (Sum.inl (wrs[i].1 : Int), V.int wrs[i].2) := by unfold wrV; rw [List.getElem?_map, List.getElem?_eq_getElem hil]; rfl
      rw [hkv] at hkv0
      cases hkv0
      refine ⟨T0, _, rfl, sqT_of upd_same, rfl, _, _, rfl, _, _, rfl, rfl, ?_⟩
      have e8 : Ex H7 (upd H7 T0 (.tup [kV (Sum.inl (wrs[i].1 : Int)), V.int wrs[i].2])) := Ex.new nT
      generalize hH8 : upd H7 T0 (.tup [kV (Sum.inl (wrs[i].1 : Int)), V.int wrs[i].2]) = H8 at e8
      refine s_setl (j := wrs[i].1) (e8 _ _ hm7) ev_v ev_v ev_v (by rw [List.length_map, memW_len]; exact hwl _ (List.getElem_mem hil)) fun H9 b9 h9 => ?_
      have htk : wrs.take (i + 1) = wrs.take i ++ [wrs[i]] := by
        rw [List.take_add_one, List.getElem?_eq_getElem hil]
        rfl
      refine ⟨b9 _ _ nmd.symm (e8 _ _ hw7), fun b u nb nb2 h => b9 _ _ nb2 (e8 _ _ (b7 b u nb nb2 h)), ?_, _, _, rfl⟩
      rw [h9, htk, memW_snoc, List.map_set]
    · rintro σ' H7 ⟨hw7, b7, hm7, v10, v11, rfl⟩
      refine ⟨hw7, ?_⟩
      have hall : wrs.take (wrV wrs).length = wrs := by unfold wrV; rw [List.length_map, List.take_length]
      rw [hall] at hm7
      generalize hH8 : upd H7 w' (.dK (wrV wrs)) = H8
      have b8 : ExB ml H5 H8 := fun b u nb h => by
        rw [← hH8]
        by_cases hb : b = w'
        · subst hb
          rw [upd_same, ← h, hw5]
        · rw [upd_ne hb]
          exact b7 b u hb nb h
      have hm8 : H8 ml = some (.lst ((memW st.mem wrs).map V.int)) := by rw [← hH8, upd_ne nmd]; exact hm7
      have nmlH : H ml = none := n1
      have e08 : Ex H H8 := ExB.ex e05 nmlH b8
      have nof : o ≠ ml := ne_of ho5 hm5 (by intro z; cases z)
      have ho8 := b8 _ _ nof ho5
      have hml3 : H3 ml = some (.lst (st.mem.map V.int)) := (Ex.trans e2 e3) _ _ h1
      have nfm : fi' ≠ ml := (ne_of_none hml3 nf3).symm
      have nlm : la' ≠ ml := (ne_of_none hml3 nl3).symm
      have hf8 : H8 fi' = some (.lst (fi.map V.int)) := by rw [← hfi]; exact b8 _ _ nfm (e5 _ _ hf4)
      have hl8 : H8 la' = some (.lst []) := b8 _ _ nlm (e5 _ _ hl4)
      by_cases hfl : fi.length ≤ tr.fr.length
      · refine Evl.q_asgL (el_cat1 (ev_fz (i := 3) ev_v ho8 cO rfl) hf8 (el_listS (es_drop (n := fi.length) ev_v (Same.sqT e08 hfa) (Evl.ev_is (ev_lenl (ev_fz (i := 3) ev_v ho8 cO rfl) (sqL_of hf8)) (by rw [List.length_map])) (by rw [List.length_map]; exact hfl))) (by rw [List.length_map, List.length_drop, List.length_map]; omega)) fun vl H9 n9 e9 h9 => ?_
        have hvl : fi.map V.int ++ (tr.fr.map V.int).drop fi.length = (fi ++ tr.fr.drop fi.length).map V.int := by rw [List.map_append, List.map_drop]
        rw [hvl] at h9
        have e09 := Ex.trans e08 e9
        refine q_asgS (es_cat0 ev_v (Same.sqT e09 hsd) (eu_tupL (ev_fz (i := 4) ev_v (e9 _ _ ho8) cO rfl) (sqL_of (e9 _ _ hl8))) (by rw [List.length_map]; omega)) fun wa H10 e10 hwa => ?_
        have e010 := Ex.trans e09 e10
        refine st_ret (K := K) (dBD (memW st.mem wrs) ⟨i', fi ++ tr.fr.drop fi.length, said', decide (i' < code.length)⟩) (evd_tup (evds_cons (evd_u (eu_tupL ev_v (sqL_of ((Ex.trans e9 e10) _ _ hm8))) (dvs_ints _)) (evds_cons ?_ evds_nil))) fun v H11 e11 d11 => q v H11 (Ex.trans e010 e11) d11
        have dsd : DV K H10 (.tup (tr.said.map D.int)) (.ref wa) := .tup hwa (dvs_ints _)
        refine evd_meth (ds := [.int n, .int ((tr.at_ + 1 : Nat) : Int), .lst ((fi ++ tr.fr.drop fi.length).map D.int), .int (-1), .tup (tr.said.map D.int)]) ev_v (e010 _ _ hp) (fz_none (by decide +kernel)) (evds_cons (evd_var (.int _)) (evds_cons (evd_ev (ev_op ev_v ev_c rv_I0) (.int _)) (evds_cons (evd_var (.lst (e10 _ _ h9) (dvs_ints _))) (evds_cons (evd_ev (ev_un ev_c Evl.ru_neg) (.int _)) (evds_cons (evd_var dsd) evds_nil))))) fun us H11 e11 r11 Q q => ?_
        obtain ⟨_, _, _, _, _, rfl, d0, d1, d2, d3, d4⟩ := dvs5 r11
        cases d0; cases d1; cases d3
        obtain ⟨fa', xs', rfl, hfa', rfa⟩ := d2.lst_inv
        obtain ⟨sa', ys', rfl, hsa', rsa⟩ := d4.tup_inv
        rw [dvs_ints_inv rfa] at hfa'
        rw [dvs_ints_inv rsa] at hsa'
        exact ⟨p, N, ths, cs, n, k, tr.at_ + 1, i', fu2, fa', sa', code, fi ++ tr.fr.drop fi.length, tr.said, said', rfl, W0.grow (Ex.trans e010 e11), hcs, sqL_of hfa', hsa', hgo, q⟩
      · exact absurd z6 hfl
end
end HK


set_option maxRecDepth 100000
set_option maxHeartbeats 4000000
/-! W6: World.after, end_of. -/
namespace HK
open PySem PySem.Spec PyProof.Rows L2
open Evl (Ex Ev EvT EvA EvL EvU RetV ev_var ev_c ev_op ev_un ea_nil ea_cons et_test et_B et_and et_or et_not ev_call ev_cb rv_I0 rv_I rv_eq rv_ixL rv_ixT ev_inU ev_niU eu_tup el_lst ev_len el_list q_when q_if q_asg q_drop s_asg s_ret s_if s_drop)
def spAfter (K : PySem.W.Frag) (CW CP CT : Addr) : Sp := fun vs H Q _ => ∃ (p : Addr) (N : Int) (ths : List Th) (cs : List (List TI × Nat)) (st : Stt) (v : V) (n : Nat) (mem' : List Int) (tr' : Tr), vs = [.ref p, v, .int n] ∧ WoAt K CW CP CT H p N ths cs ∧ DV K H st.toD v ∧ BD ths cs st n mem' tr' ∧ st.ths.length < 1000 ∧ Ret K H Q (Stt.toD ⟨mem', st.ths.set n tr'⟩)
def dEnd (st : Stt) : D := .tup [.tup (st.mem.map D.int), .tup (st.ths.map fun t => .tup [.str (if t.on then "asleep" else "ended")]), .tup (st.ths.map fun t => .tup (t.said.map D.int))]
def spEnd (K : PySem.W.Frag) (CW CP CT : Addr) : Sp := fun vs H Q _ => ∃ (p : Addr) (N : Int) (ths : List Th) (cs : List (List TI × Nat)) (st : Stt) (v : V) (r : Nat → Bool), vs = [.ref p, v] ∧ WoAt K CW CP CT H p N ths cs ∧ DV K H st.toD v ∧ cs.length < 1000 ∧ st.ths.length < 1000 ∧ (∀ n, n < cs.length → CaseM ths cs st n (r n)) ∧
  (stepsOf cs.length r ≠ [] → RetV .non H Q) ∧ (stepsOf cs.length r = [] → Ret K H Q (dEnd st))
abbrev sWorldAfter : Stmt := inClass (top 41) 7
abbrev sWorldEndOf : Stmt := inClass (top 41) 11
section
variable {K : PySem.W.Frag} {σ : L2.St} {H : Hp} {ta te : TE} {t : TA} {C p dx : Addr} {fs : List (Str × V)} {m : Str} {sp : Sp} {vs xs : List V}
theorem el_meth (h : Ev ta σ H (.ref p)) (ho : H p = some (.ins C dx fs)) (hl : fs.lookup m = none) (ht : EvA t σ H vs) (hs : Evl.SpL sp (.ref p :: vs) H xs) : EvL (tMeth C m sp [] E0 ta t) σ H xs := fun H1 e Q q =>
  h H1 e _ fun H2 e2 => ⟨p, dx, fs, rfl, e2 _ _ (e _ _ ho), hl, ht H2 (Ex.trans e e2) _ fun H3 e3 => by
    rw [List.append_nil]
    exact hs H3 (Ex.trans (Ex.trans e e2) e3) Q (fun l H4 nl e4 hl4 => q l H4 (Evl.fresh_back (Ex.trans e2 e3) nl) (Ex.trans (Ex.trans e2 e3) e4) hl4) E0⟩
theorem ev_lenT {a : Addr} (ha : Ev ta σ H (.ref a)) (h : SqT K H a xs) : Ev (tCB (Evl.rLenS K) (tCons ta tNil)) σ H (.int (xs.length : Int)) := fun H1 e Q q =>
  ha H1 e _ fun H2 e2 => ⟨a, xs, rfl, .inr (Same.sqT (Ex.trans e e2) h), q H2 e2⟩
theorem said_vals : ∀ {ths : List Tr} {tvs : List V}, DVs K H (ths.map Tr.toD) tvs → ∃ sds : List V, sds.length = ths.length ∧ DVs K H (ths.map fun t => .tup (t.said.map D.int)) sds ∧ ∀ (i : Nat) (x : V), tvs[i]? = some x → ∃ (ta fa : Addr) (tr : Tr) (s : V), x = .ref ta ∧ ths[i]? = some tr ∧ sds[i]? = some s ∧ SqT K H ta [.int tr.at_, .ref fa, .int (-1), s, .str (if tr.on then "on" else "ended")]
  | [], _, .nil => ⟨[], rfl, .nil, fun i x h => by simp at h⟩
  | tr :: r, _, .cons h t => by
    obtain ⟨sds, h1, h2, h3⟩ := said_vals t
    obtain ⟨ta, fa, sd, rfl, g1, g2, g3⟩ := tr_inv h
    refine ⟨.ref sd :: sds, by simp [h1], .cons (.tup g3 (dvs_ints _)) h2, fun i x hx => ?_⟩
    cases i with
    | zero => cases hx; exact ⟨ta, fa, tr, .ref sd, rfl, rfl, rfl, g1⟩
    | succ i => exact h3 i x (by simpa using hx)
end
section
variable {P : Program} {w : World} {K : PySem.W.Frag} {mg : Str → Option Value} {base : Heap} {aR CW CP CT CO : Addr}
theorem ok_after (T : Tx K mg aR) (c : ClsF K CW ksWo) (F : MethAt K CW "after" "World.after" sWorldAfter) (m_possible : Met P w K mg base 13 CW "possible" (spPoss K CW CP CT)) (m_case : Met P w K mg base 12 CW "case" (spCase K CW CP CT)) (m_block_done : Met P w K mg base 12 CW "block_done" (spBD K CW CP CT)) :
    Met P w K mg base 14 CW "after" (spAfter K CW CP CT) := by
  have S : FnScope ["self", "state", "step", "memory", "threads", "case", "later", "thread"] ["self", "state", "step"] (defScope sWorldAfter) := ⟨rfl, rfl, rfl, by decide +kernel, rfl, by decide +kernel, by decide +kernel⟩
  refine met_mk c.cl F S (fun _ _ _ _ _ _ us hl => match us, hl with | [_, _, _], _ => rfl) (fun vs H Q E h => ?_) (fun f cdv A outer s H vs Q E hr h => ?_)
  · obtain ⟨p, N, ths, cs, st, v, n, mem', tr', rfl, _⟩ := h
    rfl
  · obtain ⟨p, N, ths, cs, st, v, n, mem', tr', rfl, W, ds, hB, hlt, q⟩ := h
    have W0 := W
    have ds0 := ds
    obtain ⟨dx, pg, cl, kl, cvs, hp, hpg, hcl, rcl, hkl⟩ := W
    obtain ⟨sa, sm, sth, tvs, rfl, hsa, hsm, hsth, rth⟩ := stt_inv ds
    obtain ⟨t_, gTICK⟩ := T.gTICK
    have hlv : tvs.length = st.ths.length := by rw [← rth.length, List.length_map]
    have hnl : n < st.ths.length := by
      obtain ⟨th, code, tr, is, m, fu, fu2, ws', wrs, fi, i', said', B, _⟩ := hB
      exact (List.getElem?_eq_some_iff.mp B.htr).1
    have hCase : CaseM ths cs st n true := by
      obtain ⟨th, code, tr, is, m, fu, fu2, ws', wrs, fi, i', said', B, _⟩ := hB
      exact .inr ⟨th, code, tr, is, m, fu, ws', B⟩
    refine ⟨_, (pss_cons (ps_asg (pv 1) (pg_tup rfl (pgs_cons (pg_name (i := 3) S.nd rfl (Or.inl rfl)) (pgs_cons (pg_name (i := 4) S.nd rfl (Or.inl rfl)) pgs_nil))))
  (pss_cons (ps_if (pt_cmpR op_eq (pv 2) (pe_glob (v := .str "tick") rfl gTICK ⟨_, rfl⟩) (nomark _))
  pss_never
  pss_nil)
  (pss_cons (ps_if (pt_not (pt_chain op_le op_lt pe_int (pv 2) (pe_callB call_len_seq (by rfl) T.b.len (by decide +kernel) (pa_cons (pv 4) pa_nil))))
  (pss_one ps_never)
  pss_nil)
  (pss_cons (ps_set (i := 5) S.nd rfl (Or.inl rfl) (pe_mt m_case hr (pv 0) (pa_cons (pv 1) (pa_cons (pv 2) pa_nil))))
  (pss_cons (ps_if (pt_cmpR op_isN (pv 5) pe_non (nomark _))
  (pss_one ps_never)
  pss_nil)
  (pss_cons (ps_set (i := 6) S.nd rfl (Or.inl rfl) (pe_callTy call_list_of (by rfl) T.b.list (by decide +kernel) (pa_cons (pv 4) pa_nil)))
  (pss_cons (ps_if (pt_cmpR op_eq (pv 5) pe_int (nomark _))
  (pss_one (ps_asg (pe_mt m_block_done hr (pv 0) (pa_cons (pv 1) (pa_cons (pv 2) pa_nil))) (pg_tup rfl (pgs_cons (pg_name (i := 3) S.nd rfl (Or.inl rfl)) (pgs_cons (pg_sub (pv 6) (pv 2) set_list) pgs_nil)))))
  pss_never)
  (pss_one (ps_ret (pe_tup (pa_cons (pv 3) (pa_cons (pe_callTy call_tuple_of (by rfl) T.b.tuple (by decide +kernel) (pa_cons (pv 6) pa_nil)) pa_nil)))))))))))), ?_⟩
    refine q_unp ev_v hsa rfl fun H1 e1 => ?_
    refine ⟨_, _, rfl, _, _, rfl, rfl, ?_⟩
    refine q_when (b := false) (Evl.et_is (et_test (ev_op ev_v ev_c (rv_eq rfl))) (by simp)) (fun z => nomatch z) fun _ H2 e2 => ?_
    refine q_when (b := false) (Evl.et_is (et_not (et_chain (i := 0) (j := n) (k := tvs.length) ev_c ev_v (ev_lenT ev_v (Same.sqT (Ex.trans e1 e2) hsth)))) ?_) (fun z => nomatch z) fun _ H3 e3 => ?_
    · have h1 : decide ((0 : Int) ≤ (n : Int)) = true := decide_eq_true (by omega)
      have h2 : decide ((n : Int) < (tvs.length : Int)) = true := decide_eq_true (by omega)
      rw [h1, h2]
      rfl
    have e03 := Ex.trans (Ex.trans e1 e2) e3
    refine q_asg (v := .int 4) (ev_meth ev_v (e03 _ _ hp) (fz_none (by decide +kernel)) (ea_cons ev_v (ea_cons ev_v ea_nil)) fun H4 e4 Q q E => ⟨p, N, ths, cs, st, .ref sa, n, true, rfl, W0.grow (Ex.trans e03 e4), ds0.mono (Ex.trans e03 e4), hCase, q⟩) fun H4 e4 => ?_
    refine q_when (b := false) (Evl.et_is (et_test (ev_op ev_v ev_c (Evl.rv_val (z := .bl (decide (V.int 4 = V.non))) fun H3 _ Q q => ⟨rfl, q⟩))) (by simp)) (fun z => nomatch z) fun _ H5 e5 => ?_
    have e05 := Ex.trans (Ex.trans e03 e4) e5
    refine Evl.q_asgL (el_listT ev_v (Same.sqT e05 hsth)) fun ll H6 n6 e6 h6 => ?_
    have e06 := Ex.trans e05 e6
    refine q_if (b := true) (Evl.et_is (et_eqI ev_v ev_c) (by decide)) (fun _ H7 e7 => ?_) (fun z => nomatch z)
    have e07 := Ex.trans e06 e7
    refine s_asgX (go_meth ev_v (e07 _ _ hp) (fz_none (by decide +kernel)) (ea_cons ev_v (ea_cons ev_v ea_nil)) fun H8 e8 => ?_)
    have e08 := Ex.trans e07 e8
    refine ⟨p, N, ths, cs, st, .ref sa, n, mem', tr', rfl, W0.grow e08, ds0.mono e08, hB, fun v9 H9 e9 d9 => ?_⟩
    obtain ⟨da, xs, rfl, hda, r9⟩ := d9.tup_inv
    obtain ⟨vm, vt, rfl, dm, dt⟩ := dvs2 r9
    have h9 : H9 ll = some (.lst tvs) := (Ex.trans (Ex.trans e7 e8) e9) _ _ h6
    have e09 := Ex.trans e08 e9
    refine ⟨da, _, rfl, hda, rfl, _, _, rfl, _, _, rfl, ?_⟩
    refine (ev_v : Ev (tVar 6) [some (.ref p), some (.ref sa), some (.int n), some vm, some (.ref sth), some (.int 4), some (.ref ll), none] H9 (.ref ll)) H9 (Ex.refl _) _ fun H10 e10 => ?_
    refine (ev_v : Ev (tVar 2) [some (.ref p), some (.ref sa), some (.int n), some vm, some (.ref sth), some (.int 4), some (.ref ll), none] H10 (.int n)) H10 (Ex.refl _) _ fun H11 e11 => ?_
    have e9b := Ex.trans e10 e11
    refine ⟨ll, tvs, n, n, rfl, rfl, e9b _ _ h9, Evl.ixN_nat (by omega), rfl, ?_⟩
    have b12 : ExB ll H9 (upd H11 ll (.lst (tvs.set n vt))) := ExB.upd e9b
    generalize hH12 : upd H11 ll (.lst (tvs.set n vt)) = H12 at b12
    have h12 : H12 ll = some (.lst (tvs.set n vt)) := by rw [← hH12]; exact upd_same
    have nllH : H ll = none := Evl.fresh_back e05 n6
    have e012 : Ex H H12 := ExB.ex e09 nllH b12
    have tup12 : Tups H9 H12 := ExB.tups b12 h9 nt_lst
    have dm12 : DV K H12 (.tup (mem'.map D.int)) vm := dm.tups tup12 (by
      have h : ∀ xs : List Int, D.fls (xs.map D.int) = true := fun xs => by
        induction xs with
        | nil => rfl
        | cons x r ih => show (true && D.fls (r.map D.int)) = true; rw [ih]; rfl
      exact h mem')
    have r12 : DVs K H12 ((st.ths.set n tr').map Tr.toD) (tvs.set n vt) := by
      rw [List.map_set]
      exact ((rth.mono e09).tups tup12 (Tr.fls _)).set (dt.tups tup12 tr'.fl)
    exact st_ret (K := K) (Stt.toD ⟨mem', st.ths.set n tr'⟩) (evd_tup (evds_cons (evd_var dm12) (evds_cons (evd_u (eu_tupL ev_v (sqL_of h12)) r12) evds_nil))) fun v H13 e13 d13 => q v H13 (Ex.trans e012 e13) d13
theorem ok_end (T : Tx K mg aR) (c : ClsF K CW ksWo) (F : MethAt K CW "end_of" "World.end_of" sWorldEndOf) (m_possible : Met P w K mg base 13 CW "possible" (spPoss K CW CP CT)) : Met P w K mg base 14 CW "end_of" (spEnd K CW CP CT) := by
  have S : FnScope ["self", "state", "ends", "thread"] ["self", "state"] (defScope sWorldEndOf) := ⟨rfl, rfl, rfl, by decide +kernel, rfl, by decide +kernel, by decide +kernel⟩
  refine met_mk c.cl F S (fun _ _ _ _ _ _ us hl => match us, hl with | [_, _], _ => rfl) (fun vs H Q E h => ?_) (fun f cdv A outer s H vs Q E hr h => ?_)
  · obtain ⟨p, N, ths, cs, st, v, r, rfl, _⟩ := h
    rfl
  · obtain ⟨p, N, ths, cs, st, v, r, rfl, W, ds, hl1, hl2, hC, q1, q2⟩ := h
    have W0 := W
    have ds0 := ds
    obtain ⟨dx, pg, cl, kl, cvs, hp, hpg, hcl, rcl, hkl⟩ := W
    obtain ⟨sa, sm, sth, tvs, rfl, hsa, hsm, hsth, rth⟩ := stt_inv ds
    have hlv : tvs.length = st.ths.length := by rw [← rth.length, List.length_map]
    refine ⟨_, (pss_cons (ps_if (pt_cmpR op_gt (pe_callB call_len_seq (by rfl) T.b.len (by decide +kernel) (pa_cons (pe_mt m_possible hr (pv 0) (pa_cons (pv 1) pa_nil)) pa_nil)) pe_int (nomark _))
  (pss_one (ps_ret pe_non))
  pss_nil)
  (pss_cons (ps_set (i := 2) S.nd rfl (Or.inl rfl) (pe_lst pa_nil))
  (pss_cons (ps_for PassesOwn.never rfl (pi_tup (pe_ix ix_tup (pv 1) pe_int (fun _ _ => rfl))) (pg_name (i := 3) S.nd rfl (Or.inl rfl))
  (pss_one (ps_if (pt_cmpR op_eq (pe_ix ix_tup (pv 3) pe_int (fun _ _ => rfl)) pe_str (nomark _))
  (pss_one (ps_expr (pe_bm PySem.F.plainAttrs_list PySem.F.slot_list_append PySem.F.type_list_append mt_append (pv 2) (pa_cons (pe_tup (pa_cons pe_str pa_nil)) pa_nil))))
  (pss_one (ps_if (pt_cmpR op_eq (pe_ix ix_tup (pv 3) pe_int (fun _ _ => rfl)) pe_str (nomark _))
  (pss_one (ps_expr (pe_bm PySem.F.plainAttrs_list PySem.F.slot_list_append PySem.F.type_list_append mt_append (pv 2) (pa_cons (pe_tup (pa_cons pe_str pa_nil)) pa_nil))))
  pss_never)))))
  (pss_one (ps_ret (pe_tup (pa_cons (pe_ix ix_tup (pv 1) pe_int (fun _ _ => rfl)) (pa_cons (pe_callTy call_tuple_of (by rfl) T.b.tuple (by decide +kernel) (pa_cons (pv 2) pa_nil)) (pa_cons (pe_callTy call_tuple_of (by rfl) T.b.tuple (by decide +kernel) (pa_cons (pe_lc (own := [("thread", 3)]) rfl S.nd (pi_tup (pe_ix ix_tup (pv 1) pe_int (fun _ _ => rfl))) (blkOk_by (own := [("thread", 3)]) (N := ["self", "state", "ends", "thread"]) (sc := defScope sWorldEndOf) (by decide +kernel)) (fun _ _ _ _ _ => (pg_name (i := 3) S.nd rfl (Or.inl rfl))) (fun _ _ _ _ _ => pts_nil) (fun _ _ _ _ _ => (pe_ix (r := rIxT K) ix_tup (pv 3) pe_int (fun _ _ => rfl)))) pa_nil)) pa_nil))))))))), ?_⟩
    have hP : EvL (tMeth CW "possible" (spPoss K CW CP CT) [] E0 (tVar 0) (tCons (tVar 1) tNil)) [some (.ref p), some (.ref sa), none, none] H ((stepsOf cs.length r).map fun (i : Nat) => V.int (i : Int)) :=
      el_meth ev_v hp (fz_none (by decide +kernel)) (ea_cons ev_v ea_nil) fun H1 e1 Q q E => ⟨p, N, ths, cs, st, .ref sa, r, rfl, W0.grow e1, ds0.mono e1, hl1, hl2, hC, fun l H2 nl e2 hl => q l H2 nl e2 hl⟩
    by_cases hs : stepsOf cs.length r = []
    · have q := q2 hs
      refine q_when (b := false) (Evl.et_is (et_test (ev_op (Evl.ev_lenN hP) ev_c rv_I0)) (by rw [hs]; rfl)) (fun z => nomatch z) fun _ H1 e1 => ?_
      refine Evl.q_asgL (el_lst ea_nil (by decide)) fun el H2 n2 e2 h2 => ?_
      have e02 := Ex.trans e1 e2
      have neH : H el = none := Evl.fresh_back e1 n2
      refine Evl.q_forT (ev_ixt (j := 1) ev_v (Same.sqT e02 hsa) rfl) (Same.sqT e02 hsth) (fun i σ' H' => Ex H H' ∧ ∃ (v3 : Option V) (vs : List V), σ' = [some (.ref p), some (.ref sa), some (.ref el), v3] ∧ H' el = some (.lst vs) ∧ DVs K H' ((st.ths.take i).map fun t => .tup [.str (if t.on then "asleep" else "ended")]) vs)
        (fun H3 e3 => ⟨Ex.trans e02 e3, none, [], rfl, e3 _ _ h2, .nil⟩) (fun i σ' H' _ h => Same.sqT h.1 hsth) (fun i x σ' H3 hx h => ?_) (fun σ' H3 h => ?_)
      · obtain ⟨e3, v3, vs, rfl, he3, rv⟩ := h
        have hil : i < st.ths.length := by rw [← hlv]; exact (List.getElem?_eq_some_iff.mp hx).1
        obtain ⟨vt, hvt, dt⟩ := DVs.map_at rth (List.getElem?_eq_getElem hil)
        rw [hx] at hvt
        cases hvt
        obtain ⟨ta, fa, sd, rfl, hta, hfa, hsd⟩ := tr_inv dt
        have htk : st.ths.take (i + 1) = st.ths.take i ++ [st.ths[i]] := by
          rw [List.take_add_one, List.getElem?_eq_getElem hil]
          rfl
        have hlvs : vs.length ≤ i := by
          rw [← rv.length, List.length_map, List.length_take]
          omega
        have hfl : ∀ l : List Tr, D.fls (l.map fun t => .tup [.str (if t.on then "asleep" else "ended")]) = true := fun l => by
          induction l with
          | nil => rfl
          | cons t l ih => show (true && D.fls (l.map fun t : Tr => D.tup [.str (if t.on then "asleep" else "ended")])) = true; rw [ih]; rfl
        have fin : ∀ u H4, ExB el H3 H4 → H4 el = some (.lst (vs ++ [u])) → DV K H4 (.tup [.str (if st.ths[i].on then "asleep" else "ended")]) u → (Ex H H4 ∧ ∃ (v3 : Option V) (vs : List V), [some (V.ref p), some (V.ref sa), some (V.ref el), some (V.ref ta)] = [some (.ref p), some (.ref sa), some (.ref el), v3] ∧ H4 el = some (.lst vs) ∧ DVs K H4 ((st.ths.take (i + 1)).map fun t => .tup [.str (if t.on then "asleep" else "ended")]) vs) := fun u H4 b4 h4 d4 => by
          refine ⟨ExB.ex e3 neH b4, _, vs ++ [u], rfl, h4, ?_⟩
          rw [htk, List.map_append]
          exact (rv.tups (ExB.tups b4 he3 nt_lst) (hfl _)).append (.single d4)
        cases hon : st.ths[i].on with
        | true =>
          rw [hon] at fin hta
          refine q_t (et_eqS (ev_ixt (j := 4) ev_v (Same.sqT e3 hta) rfl) ev_c) fun H4 e4 => ?_
          exact s_appD (d := .tup [.str "asleep"]) (e4 _ _ he3) ev_v (evd_tup (evds_cons evd_str evds_nil)) (by omega) fun u H5 b5 h5 d5 => fin u H5 (ExB.trans (ExB.of e4) b5) h5 d5
        | false =>
          rw [hon] at fin hta
          refine q_e (et_eqS (ev_ixt (j := 4) ev_v (Same.sqT e3 hta) rfl) ev_c) fun H4 e4 => ?_
          refine q_t (et_eqS (ev_ixt (j := 4) ev_v (Same.sqT (Ex.trans e3 e4) hta) rfl) ev_c) fun H5 e5 => ?_
          exact s_appD (d := .tup [.str "ended"]) ((Ex.trans e4 e5) _ _ he3) ev_v (evd_tup (evds_cons evd_str evds_nil)) (by omega) fun u H6 b6 h6 d6 => fin u H6 (ExB.trans (ExB.of (Ex.trans e4 e5)) b6) h6 d6
      · obtain ⟨e3, v3, vs, rfl, he3, rv⟩ := h
        rw [hlv, List.take_length] at rv
        obtain ⟨sds, hs1, hs2, hs3⟩ := said_vals (rth.mono e3)
        refine st_ret (K := K) (dEnd st) (evd_tup (evds_cons (evd_ev (ev_ixt (j := 0) ev_v (Same.sqT e3 hsa) rfl) (.tup (Same.sqT e3 hsm) (dvs_ints _))) (evds_cons (evd_u (eu_tupL ev_v (sqL_of he3)) rv) (evds_cons (evd_u (eu_tupNL (xs := sds) ?_) hs2) evds_nil)))) fun v H4 e4 d4 => q v H4 (Ex.trans e3 e4) d4
        have hgv : Evl.given tvs.length (fun _ => true) (fun i => sds.getD i .non) = sds := by
          have : ∀ n, n ≤ sds.length → Evl.given n (fun _ => true) (fun i => sds.getD i .non) = sds.take n := fun n hn => by
            induction n with
            | zero => rfl
            | succ n ih =>
              rw [Evl.given_yes (n := n) (f := fun _ => true) (v := fun i => sds.getD i .non) rfl, ih (by omega), List.take_add_one, List.getElem?_eq_getElem (by omega)]
              rw [List.getD_eq_getElem?_getD, List.getElem?_eq_getElem (by omega)]
              rfl
          rw [this _ (by omega), hlv, ← hs1, List.take_length]
        refine el_is (el_lcT (fun _ => true) (fun i => sds.getD i .non) (ev_ixt (j := 1) ev_v (Same.sqT e3 hsa) rfl) (Same.sqT e3 hsth) (by omega) (fun _ => rfl) (fun _ _ _ _ _ => et_yes) fun i x H4 e4 hx _ => ?_) hgv
        obtain ⟨ta, fa, tr, s, rfl, hi, hsi, hta⟩ := hs3 i x hx
        rw [List.getD_eq_getElem?_getD, hsi]
        exact ev_ixt (j := 3) ev_v (Same.sqT e4 hta) rfl
    · have q := q1 hs
      refine q_when (b := true) (Evl.et_is (et_test (ev_op (Evl.ev_lenN hP) ev_c rv_I0)) ?_) (fun _ H1 e1 => ?_) (fun z => nomatch z)
      · have : 0 < (stepsOf cs.length r).length := List.length_pos_iff.mpr hs
        rw [List.length_map]
        exact decide_eq_true (by omega)
      · exact s_ret ev_c fun H2 e2 => q H2 (Ex.trans e1 e2)
end
end HK


set_option maxRecDepth 100000
set_option maxHeartbeats 4000000
/-! S2: dicts whose keys are nested tuples. -/
namespace HK
open PySem PySem.Spec PyProof.Rows L2
open Evl (Ex Ev EvT EvA EvL EvU RetV ev_var ev_c ev_op ev_un ea_nil ea_cons et_test et_B et_and et_or et_not ev_call ev_cb rv_I0 rv_I rv_eq rv_ixL rv_ixT ev_inU ev_niU eu_tup el_lst ev_len el_list q_when q_if q_asg q_drop s_asg s_ret s_if s_drop)
mutual
def D.nk : D → NestedKey
  | .non => .none
  | .int i => .num i
  | .str s => .text s
  | .tup l => .tup (D.nks l)
  | .lst _ => .none
def D.nks : List D → List NestedKey
  | [] => []
  | d :: r => d.nk :: D.nks r
end
section
variable {X : Cx} {pins : List (Addr × Obj)} {σ : L2.St} {H : Hp} {s : Shared}
mutual
theorem nk_of (I : Inv X pins σ H s) : ∀ {d : D} {v : V} {u : Value}, d.fl = true → DV X.K H d v → RelV v u → NestedIs s.heap d.nk u
  | _, _, _, _, .non, r => by cases (show _ = Value.none from r); exact .none
  | _, _, _, _, .int i, r => by obtain ⟨t, rfl⟩ := r; exact .int _ _
  | _, _, _, _, .str x, r => by obtain ⟨t, rfl⟩ := r; exact .text _ _
  | _, _, _, f, .tup h q, r => by
    cases r
    obtain ⟨its, rv, ⟨o, h1, h2, n, h3⟩, _⟩ := I.tuple h
    exact .tup h1 h2 h3 (by simpa using nks_of I f q rv)
  | _, _, _, f, .lst _ _, _ => nomatch f
theorem nks_of (I : Inv X pins σ H s) : ∀ {ds : List D} {vs : List V} {us : List Value}, D.fls ds = true → DVs X.K H ds vs → Vals vs us → NestedAll s.heap (D.nks ds) us
  | _, _, _, _, .nil, r => by cases r; exact .nil
  | _, _, _, f, .cons h t, r => by
    cases r with
    | cons r1 r2 => exact .cons (nk_of I (Bool.and_eq_true_iff.mp f).1 h r1) (nks_of I (Bool.and_eq_true_iff.mp f).2 t r2)
end
end
/-- at b stands the key k -/
def NK (K : PySem.W.Frag) (H : Hp) (k : NestedKey) (b : Addr) : Prop := ∃ d, DV K H d (.ref b) ∧ d.fl = true ∧ d.nk = k ∧ k.depth ≤ 8
abbrev NEs := List (NestedKey × Addr × Value)
def RawN (P : Program) (w : World) (h : Heap) (a : Addr) (xs : NEs) : Prop := (a == sysModules) = false ∧ xs.length ≤ sizeLine ∧ ∃ o es ep, h.get? a = some o ∧ o.ExactDict ∧ o.data = .dict es ep ∧ es.toList = xs.map (entryOfKey (nestedKind P w)) ∧ (xs.map (·.1)).Nodup
def DNo (P : Program) (w : World) (a : Addr) (xs : NEs) : HO := .ext fun h => RawN P w h a xs
section
variable {X : Cx} {pins : List (Addr × Obj)} {σ : L2.St} {H : Hp} {s : Shared} {a b : Addr} {xs : NEs} {k : NestedKey}
theorem dn_of (I : Inv X pins σ H s) (h : H a = some (DNo X.prog X.w a xs)) (hk : ∀ z ∈ xs, NK X.K H z.1 z.2.1) : s.heap.DictOfH (nestedKind X.prog X.w) a xs ∧ (a == sysModules) = false ∧ xs.length ≤ sizeLine := by
  obtain ⟨⟨h1, h0, o, es, ep, h2, h3, h4, h5, h6⟩, _⟩ := (show ObjOk X.prog X.w H s.heap a (DNo X.prog X.w a xs) from I.hok a _ h)
  refine ⟨⟨o, es, ep, h2, h3, h4, h5, fun x hx => ?_, h6⟩, h1, h0⟩
  obtain ⟨d, dv, f, e, dp⟩ := hk x hx
  refine ⟨?_, dp⟩
  rw [← e]
  exact nk_of I f dv rfl
theorem nk_is (I : Inv X pins σ H s) (hk : NK X.K H k b) : (nestedKind X.prog X.w).is s.heap k b := by
  obtain ⟨d, dv, f, e, dp⟩ := hk
  refine ⟨?_, dp⟩
  rw [← e]
  exact nk_of I f dv rfl
theorem dn_ok {P : Program} {w : World} {h : Heap} (r : RawN P w h a xs) : ObjOk P w H h a (DNo P w a xs) := by
  obtain ⟨h1, h0, o, es, ep, h2, h3⟩ := r
  exact ⟨⟨h1, h0, o, es, ep, h2, h3⟩, ⟨o, h2⟩, fun x y q e => by
    obtain ⟨g1, g0, o', es', ep', g2, g3⟩ := q
    exact ⟨g1, g0, o', es', ep', e _ g2, g3⟩⟩
end
theorem nroom {A : Around} {P : Program} {w : World} (h : A.units + 64 < cLine) : (nestedKind P w).room A.in1 := by
  show A.in1.units + 8 < cLine
  rw [Around.in1_units]
  omega
def tNNotIn (P : Program) (w : World) (K : PySem.W.Frag) (ty td : TE) : TE := fun σ H Q => ty σ H fun y H1 => td σ H1 fun x H2 => ∃ a xs k b, x = .ref a ∧ y = .ref b ∧ H2 a = some (DNo P w a xs) ∧ (∀ z ∈ xs, NK K H2 z.1 z.2.1) ∧ NK K H2 k b ∧ Q (.bl (!(atKey xs k).isSome)) H2
def tNGet (P : Program) (w : World) (K : PySem.W.Frag) (td ty : TE) : TE := fun σ H Q => td σ H fun x H1 => ty σ H1 fun y H2 => ∃ a xs k b p l, x = .ref a ∧ y = .ref b ∧ H2 a = some (DNo P w a xs) ∧ (∀ z ∈ xs, NK K H2 z.1 z.2.1) ∧ NK K H2 k b ∧ atKey xs k = some (p, .ref l) ∧ Q (.ref l) H2
def sNPut (P : Program) (w : World) (K : PySem.W.Frag) (td ty tv : TE) : TS := fun D σ H => tv σ H fun v H1 => td σ H1 fun x H2 => ty σ H2 fun y H3 => ∃ a xs k b l, x = .ref a ∧ y = .ref b ∧ v = .ref l ∧ H3 a = some (DNo P w a xs) ∧ (∀ z ∈ xs, NK K H3 z.1 z.2.1) ∧ NK K H3 k b ∧ xs.length < sizeLine ∧
  D.nx σ (upd H3 a (DNo P w a (storedH xs k b (.ref l))))
def tNDisp (P : Program) (w : World) (K : PySem.W.Frag) (tk tv : TE) : TE := fun σ H Q => ∀ p, H p = none → tk σ (upd H p (DNo P w p [])) fun x H1 => tv σ H1 fun y H2 => ∃ k b l, x = .ref b ∧ y = .ref l ∧ H2 p = some (DNo P w p []) ∧ NK K H2 k b ∧ Q (.ref p) (upd H2 p (DNo P w p [(k, b, .ref l)]))
section
variable {X : Cx} {o i e value k v : Expr} {pos pos' : Pos} {td ty tv tk : TE}
theorem pc_nnotin (hu : X.A.units + 64 < cLine) (hi : PE X i ty) (ho : PE X o td) : PC X .NotIn i o (tNNotIn X.prog X.w X.K ty td) := by
  refine ⟨fun pins s σ H Q I h => ?_⟩
  refine thn (hi.run pins s σ H _ I h) fun iv s1 ⟨y, H1, I1, ry, q1⟩ => thn (ho.run pins s1 σ H1 _ I1 q1) fun u s2 ⟨x, H2, I2, rx, a, xs, k, b, ex, ey, ha, hk, hb, q2⟩ => ?_
  subst ex ey
  obtain rfl : u = Value.ref a := rx
  obtain rfl : iv = Value.ref b := ry
  obtain ⟨dd, hd, _⟩ := dn_of I2 ha hk
  exact wpAny_notIn_heap (nroom hu) (nk_is I2 hb) hd dd ⟨.bl _, H2, I2.tok _, rfl, q2⟩
theorem pe_nget (hu : X.A.units + 64 < cLine) (ho : PE X o td) (hi : PE X i ty) (hs : NoSl i) : PE X (.Subscript o i pos) (tNGet X.prog X.w X.K td ty) := by
  refine ⟨fun pins s σ H Q I h => ?_⟩
  refine subD_of PySem.F.slot_dict_getitem.lookup hs (thn (ho.run pins s σ H _ I h) fun u s1 ⟨x, H1, I1, rx, q1⟩ => thn (hi.run pins s1 σ H1 _ I1 q1) fun iv s2 ⟨y, H2, I2, ry, a, xs, k, b, p, l, ex, ey, ha, hk, hb, hp, q2⟩ => ?_)
  subst ex ey
  obtain rfl : u = Value.ref a := rx
  obtain rfl : iv = Value.ref b := ry
  obtain ⟨dd, hd, _⟩ := dn_of I2 ha hk
  exact ⟨dd.typeIs, wpAny_getItem_heap (nroom hu) (nk_is I2 hb) dd hp ⟨.ref l, H2, I2.tok _, rfl, q2⟩⟩
theorem ps_nput (hu : X.A.units + 64 < cLine) (ho : PE X o td) (hi : PE X i ty) (hv : PE X value tv) (hs : swapsWith value (some (.Subscript o i pos')) pos.line X.env = pure false) :
    PS X (.Assign [.Subscript o i pos'] value pos) (sNPut X.prog X.w X.K td ty tv) := by
  refine ⟨fun pins s σ H D I h => ?_⟩
  refine wpAny_Assign_Subscript (thn (hv.run pins s σ H _ I h) fun r s1 ⟨v, H1, I1, rv, q1⟩ => thn (ho.run pins s1 σ H1 _ I1 q1) fun u s2 ⟨x, H2, I2, rx, q2⟩ => thn (hi.run pins s2 σ H2 _ I2 q2) fun iv s3 ⟨y, H3, I3, ry, a, xs, k, b, l, ex, ey, ev, ha, hk, hb, hz, q3⟩ => ?_) hs
  subst ex ey ev
  obtain rfl : u = Value.ref a := rx
  obtain rfl : iv = Value.ref b := ry
  obtain rfl : r = Value.ref l := rv
  obtain ⟨dd, hd, hsz⟩ := dn_of I3 ha hk
  refine wpAny_setItem_heap (hsz := hsz) (nroom hu) (nk_is I3 hb) dd fun h' dd' hs' => ⟨σ, _, ?_, q3⟩
  obtain ⟨o, es, ep, h1, h2, h3, h4, _, h6⟩ := dd'
  refine d_write I3 (by rw [ha]; exact True.intro) hs' ⟨o, h1⟩ (dn_ok ⟨hd, ?_, o, es, ep, h1, h2, h3, h4, h6⟩)
  have := storedH_length xs k b (Value.ref l)
  omega
theorem pe_ndisp (hu : X.A.units + 64 < cLine) (hk : PE X k tk) (hv : PE X v tv) : PE X (.Dict [some k] [v] pos) (tNDisp X.prog X.w X.K tk tv) := by
  refine ⟨fun pins s σ H Q I q => ?_⟩
  have hn := I.hok.fresh (Nat.le_refl s.heap.objs.size)
  have hnew : RawN X.prog X.w (s.heap.push { cls := .type "dict", data := .dict #[] }) s.heap.objs.size [] := ⟨beq_eq_false_iff_ne.mpr (Ne.symm (Nat.ne_of_lt I.big)), Nat.zero_le _, _, #[], 0, Heap.get?_push_size _ rfl, ⟨rfl, rfl, rfl⟩, rfl, rfl, List.nodup_nil⟩
  have I1 := I.laid (a := s.heap.objs.size) (o := DNo X.prog X.w s.heap.objs.size []) (h' := s.heap.push { cls := .type "dict", data := .dict #[] }) (t' := s.toks) (fun _ _ q => Heap.get?_push_of_some _ q) (Nat.le_refl _) (dn_ok hnew)
  have hu8 : (nestedKind X.prog X.w).room X.A := by show X.A.units + 8 < cLine; omega
  have hlen : (pairTrees [some k] [v] X.env pos).length = 1 := pairTrees_length _ _ _ _ rfl rfl
  rw [arm_eval_Dict, zip_pairTrees [some k] [v] X.env pos rfl rfl, dictDisplay_pairs _ (by show pairTrees [some k] [v] X.env pos ≠ []; intro z; rw [z] at hlen; cases hlen) (by rw [hlen]; decide)]
  refine wpAny_bind (wpAny_standAt (wpAny_bind (wpAny_subDictH (knd := nestedKind X.prog X.w) (Q := fun d s' => wpAny (model X.prog X.w) X.A (pure (Value.ref d)) _ X.xe s') hu8 (by rw [hlen]; decide)
    (thn ((pps_cons hk hv pps_nil).run pins _ σ _ (fun ps H2 => match ps with
      | [(x, y)] => ∃ k b l, x = .ref b ∧ y = .ref l ∧ H2 s.heap.objs.size = some (DNo X.prog X.w s.heap.objs.size []) ∧ NK X.K H2 k b ∧ Q (.ref s.heap.objs.size) (upd H2 s.heap.objs.size (DNo X.prog X.w s.heap.objs.size [(k, b, .ref l)]))
      | _ => False) I1 (q _ hn)) fun ws s2 ⟨ps, H2, I2, rel, hq⟩ => ?_))))
  match ps, hq, rel with
  | [(x, y)], hq, rel =>
    obtain ⟨kk, b, l, rfl, rfl, he, hb, q2⟩ := hq
    cases rel with
    | @cons p0 w0 ps0 ws0 r t =>
      cases t
      obtain ⟨w1, w2⟩ := w0
      obtain ⟨r1, r2⟩ := r
      obtain rfl : w1 = Value.ref b := r1
      obtain rfl : w2 = Value.ref l := r2
      obtain ⟨dd, hd, _⟩ := dn_of I2 he (fun z hz => by simp at hz)
      refine ⟨[(kk, b, .ref l)], ⟨rfl, rfl, nk_is I2 hb, trivial⟩, dd, fun h' tk' dd' hs' => wpAny_pure ⟨.ref s.heap.objs.size, _, ?_, rfl, q2⟩⟩
      have e1 : storedAllH [] [(kk, b, Value.ref l)] = [(kk, b, Value.ref l)] := rfl
      rw [e1] at dd'
      obtain ⟨o, es, ep, h1, h2, h3, h4, _, h6⟩ := dd'
      exact d_write I2 (by rw [he]; exact True.intro) hs' ⟨o, h1⟩ (dn_ok ⟨hd, by rw [sizeLine_eq, List.length_singleton]; omega, o, es, ep, h1, h2, h3, h4, h6⟩)
end
end HK


set_option maxRecDepth 100000
set_option maxHeartbeats 4000000
/-! X1: searched. -/
namespace HK
open PySem PySem.Spec PyProof.Rows L2
open Evl (Ex Ev EvT EvA EvL EvU RetV ev_var ev_c ev_op ev_un ea_nil ea_cons et_test et_B et_and et_or et_not ev_call ev_cb rv_I0 rv_I rv_eq rv_ixL rv_ixT ev_inU ev_niU eu_tup el_lst ev_len el_list q_when q_if q_asg q_drop s_asg s_ret s_if s_drop)
def Stt.key (s : Stt) : NestedKey := s.toD.nk
theorem depth_ints : ∀ xs : List Int, NestedKey.depthAll (D.nks (xs.map D.int)) = 0
  | [] => rfl
  | x :: r => by
    show max 0 (NestedKey.depthAll (D.nks (r.map D.int))) = 0
    rw [depth_ints r]
    rfl
theorem Tr.depth (t : Tr) : t.toD.nk.depth ≤ 2 := by
  show max 0 (max (NestedKey.depthAll (D.nks (t.fr.map D.int)) + 1) (max 0 (max (NestedKey.depthAll (D.nks (t.said.map D.int)) + 1) (max 0 0)))) + 1 ≤ 2
  rw [depth_ints, depth_ints]
  decide
theorem depth_trs : ∀ l : List Tr, NestedKey.depthAll (D.nks (l.map Tr.toD)) ≤ 2
  | [] => by decide
  | t :: r => by
    show max t.toD.nk.depth (NestedKey.depthAll (D.nks (r.map Tr.toD))) ≤ 2
    exact Nat.max_le.mpr ⟨t.depth, depth_trs r⟩
theorem Stt.depth (s : Stt) : s.key.depth ≤ 8 := by
  show max (NestedKey.depthAll (D.nks (s.mem.map D.int)) + 1) (max (NestedKey.depthAll (D.nks (s.ths.map Tr.toD)) + 1) 0) + 1 ≤ 8
  rw [depth_ints]
  have := depth_trs s.ths
  omega
theorem Stt.fl (s : Stt) : s.toD.fl = true := by
  have h : ∀ xs : List Int, D.fls (xs.map D.int) = true := fun xs => by
    induction xs with
    | nil => rfl
    | cons x r ih => show (true && D.fls (r.map D.int)) = true; rw [ih]; rfl
  show (D.fls (s.mem.map D.int) && (D.fls (s.ths.map Tr.toD) && true)) = true
  rw [h, Tr.fls]
  rfl
theorem Stt.nk {K : PySem.W.Frag} {H : Hp} {s : Stt} {b : Addr} (d : DV K H s.toD (.ref b)) : NK K H s.key b := ⟨s.toD, d, s.fl, rfl, s.depth⟩
/-- a system of states, told by α -/
structure Sys (N : Int) (ths : List Th) (cs : List (List TI × Nat)) (α : Type) where
  S : α → Stt
  all : List α
  first : α
  r : α → Nat → Bool
  next : α → Nat → α
  hfirst : first ∈ all
  trs : List Tr
  hS : S first = ⟨List.replicate (N + 2).toNat 0, trs⟩
  hgo : GoFirst ths cs trs
  hcs : GoAll N ths cs
  hN : 0 ≤ N ∧ N ≤ 10
  hlen : all.length < 1000 ∧ ths.length < 1000
  hths : ∀ x ∈ all, (S x).ths.length < 1000
  hcase : ∀ x ∈ all, ∀ n, n < cs.length → CaseM ths cs (S x) n (r x n)
  hnext : ∀ x ∈ all, ∀ n ∈ stepsOf cs.length (r x), next x n ∈ all ∧ ∃ mem' tr', BD ths cs (S x) n mem' tr' ∧ S (next x n) = ⟨mem', (S x).ths.set n tr'⟩
def OrdAt (K : PySem.W.Frag) (H : Hp) (sl : Addr) (ks : List NestedKey) (es : NEs) : Prop := es.map (·.1) = ks ∧ ∀ z ∈ es, NK K H z.1 z.2.1 ∧ ∃ (l : Addr) (ns : List V), z.2.2 = .ref l ∧ l ≠ sl ∧ H l = some (.lst ns) ∧ ns.length < ks.length
structure SI (P : Program) (w : World) (K : PySem.W.Frag) (H H' : Hp) (sl od : Addr) {N : Int} {ths : List Th} {cs : List (List TI × Nat)} {α : Type} (Y : Sys N ths cs α) (xs : List α) (svs : List V) (es : NEs) : Prop where
  ex : Ex H H'
  hs : H' sl = some (.lst svs)
  rs : DVs K H' (xs.map fun x => (Y.S x).toD) svs
  hd : H' od = some (DNo P w od es)
  ho : OrdAt K H' sl (xs.map fun x => (Y.S x).key) es
  sub : xs ⊆ Y.all
  nd : xs.Nodup
section
variable {P : Program} {w : World} {K : PySem.W.Frag} {CW CP CT : Addr} {H H' H2 : Hp} {wo sl od : Addr} {N : Int} {ths : List Th} {cs : List (List TI × Nat)} {α : Type} {Y : Sys N ths cs α} {xs : List α} {svs : List V} {es : NEs}
theorem NK.mono {k : NestedKey} {b : Addr} (e : Ex H H') (h : NK K H k b) : NK K H' k b := let ⟨d, a, r⟩ := h; ⟨d, a.mono e, r⟩
theorem NK.tups {k : NestedKey} {b : Addr} (e : Tups H H') (h : NK K H k b) : NK K H' k b := let ⟨d, a, f, r⟩ := h; ⟨d, a.tups e f, f, r⟩
theorem OrdAt.grow {ks : List NestedKey} (e : Ex H H') (h : OrdAt K H sl ks es) : OrdAt K H' sl ks es := ⟨h.1, fun z hz => by
  obtain ⟨a, l, ns, h1, h2, h3, h4⟩ := h.2 z hz
  exact ⟨a.mono e, l, ns, h1, h2, e _ _ h3, h4⟩⟩
theorem SI.grow (i : SI P w K H H' sl od Y xs svs es) (e : Ex H' H2) : SI P w K H H2 sl od Y xs svs es :=
  ⟨Ex.trans i.ex e, e _ _ i.hs, i.rs.mono e, e _ _ i.hd, i.ho.grow e, i.sub, i.nd⟩
theorem SI.len (i : SI P w K H H' sl od Y xs svs es) : xs.length ≤ Y.all.length := List.Nodup.length_le_of_subset i.nd i.sub
theorem atKey_none : ∀ {es : NEs} {k : NestedKey}, atKey es k = none → k ∉ es.map (·.1)
  | [], k, _ => by simp
  | z :: r, k, h => by
    unfold atKey at h
    rw [List.find?_cons] at h
    by_cases e : z.1 = k
    · rw [decide_eq_true e] at h
      cases h
    · rw [decide_eq_false e] at h
      have ih := atKey_none (es := r) (k := k) h
      simp only [List.map_cons, List.mem_cons, not_or]
      exact ⟨Ne.symm e, ih⟩
theorem atKey_mem : ∀ {es : NEs} {k : NestedKey}, k ∈ es.map (·.1) → ∃ p, atKey es k = some p ∧ (k, p) ∈ es
  | [], k, h => by simp at h
  | z :: r, k, h => by
    unfold atKey
    rw [List.find?_cons]
    by_cases e : z.1 = k
    · rw [decide_eq_true e]
      exact ⟨z.2, rfl, by rw [← e]; exact List.mem_cons_self⟩
    · rw [decide_eq_false e]
      simp only [List.map_cons, List.mem_cons] at h
      rcases h with h | h
      · exact absurd h.symm e
      · obtain ⟨p, h1, h2⟩ := atKey_mem (es := r) (k := k) h
        exact ⟨p, h1, List.mem_cons_of_mem _ h2⟩
end
section
variable {P : Program} {w : World} {K : PySem.W.Frag} {G H H' H1 H2 H3 : Hp} {sl od b l' : Addr} {N : Int} {ths : List Th} {cs : List (List TI × Nat)} {α : Type} {Y : Sys N ths cs α} {xs : List α} {svs : List V} {es : NEs}
theorem nt_dn {a : Addr} : (∀ ys, DNo P w a es ≠ .tup ys) ∧ ∀ ob u, DNo P w a es ≠ .frz ob u := ⟨fun _ z => (nomatch z), fun _ _ z => (nomatch z)⟩
theorem SI.add (i : SI P w K G H' sl od Y xs svs es) (gs : G sl = none) (go : G od = none) (hne : sl ≠ od) {y : α} (hy : y ∈ Y.all) (hk : atKey es (Y.S y).key = none) {ns : List V} (dv : DV K H' (Y.S y).toD (.ref b)) (b1 : ExB sl H' H1) (h1 : H1 sl = some (.lst (svs ++ [.ref b])))
    (e2 : Ex H1 H2) (nl : H1 l' = none) (hl : H2 l' = some (.lst ns)) (hns : ns.length < xs.length + 1) (b3 : ExB od H2 H3) (h3 : H3 od = some (DNo P w od (storedH es (Y.S y).key b (.ref l')))) : SI P w K G H3 sl od Y (xs ++ [y]) (svs ++ [.ref b]) (storedH es (Y.S y).key b (.ref l')) := by
  have hod2 : H2 od = some (DNo P w od es) := e2 _ _ (b1 _ _ hne.symm i.hd)
  have tp : Tups H' H3 := Tups.trans (Tups.trans (ExB.tups b1 i.hs nt_lst) (Tups.same e2)) (ExB.tups b3 hod2 nt_dn)
  have hst : storedH es (Y.S y).key b (.ref l') = es ++ [((Y.S y).key, b, .ref l')] := storedH_new hk b (.ref l')
  have hfl : ∀ l : List α, D.fls (l.map fun x => (Y.S x).toD) = true := fun l => by
    induction l with
    | nil => rfl
    | cons x l ih => show ((Y.S x).toD.fl && D.fls (l.map fun x => (Y.S x).toD)) = true; rw [Stt.fl, ih]; rfl
  have hlen : (xs.map fun x => (Y.S x).key).length = xs.length := List.length_map _
  have hns1 : l' ≠ sl := (ne_of_none h1 nl).symm
  have hno : l' ≠ od := ne_of hl hod2 (by intro z; cases z)
  refine ⟨ExB.ex (Ex.trans (ExB.ex i.ex gs b1) e2) go b3, b3 _ _ hne (e2 _ _ h1), ?_, h3, ?_, ?_, ?_⟩
  · rw [List.map_append]
    exact (i.rs.tups tp (hfl xs)).append (.single (dv.tups tp (Stt.fl _)))
  · rw [hst]
    refine ⟨by rw [List.map_append, List.map_append, i.ho.1]; rfl, fun z hz => ?_⟩
    rw [List.map_append, List.length_append, hlen]
    rcases List.mem_append.mp hz with hz | hz
    · obtain ⟨a, l, ms, q1, q2, q3, q4⟩ := i.ho.2 z hz
      rw [hlen] at q4
      have hlo : l ≠ od := ne_of (e2 _ _ (b1 _ _ q2 q3)) hod2 (by intro z; cases z)
      exact ⟨a.tups tp, l, ms, q1, q2, b3 _ _ hlo (e2 _ _ (b1 _ _ q2 q3)), by simp; omega⟩
    · rw [List.mem_singleton] at hz
      subst hz
      exact ⟨Stt.nk (dv.tups tp (Stt.fl _)), l', ns, rfl, hns1, b3 _ _ hno hl, by simpa using hns⟩
  · intro z hz
    rcases List.mem_append.mp hz with hz | hz
    · exact i.sub hz
    · rw [List.mem_singleton] at hz; rw [hz]; exact hy
  · have hny : y ∉ xs := fun hm => by
      refine atKey_none hk ?_
      rw [i.ho.1]
      exact List.mem_map.mpr ⟨y, hm, rfl⟩
    exact List.nodup_append.mpr ⟨i.nd, by simp, fun a ha b' hb e => by
      rw [List.mem_singleton] at hb
      subst hb
      subst e
      exact hny ha⟩
variable {σ : L2.St} {ty td : TE} {k : NestedKey}
theorem et_nnotin (hd : H od = some (DNo P w od es)) (hz : ∀ z ∈ es, NK K H z.1 z.2.1) (hk : NK K H k b) (h1 : Ev ty σ H (.ref b)) (h2 : Ev td σ H (.ref od)) : EvT (tB (tNNotIn P w K ty td)) σ H (!(atKey es k).isSome) := fun H1 e1 Q q =>
  h1 H1 e1 _ fun H2 e2 => h2 H2 (Ex.trans e1 e2) _ fun H3 e3 => ⟨od, es, k, b, rfl, rfl, (Ex.trans (Ex.trans e1 e2) e3) _ _ hd, fun z hz' => (hz z hz').mono (Ex.trans (Ex.trans e1 e2) e3), hk.mono (Ex.trans (Ex.trans e1 e2) e3), _, rfl, q H3 (Ex.trans e2 e3)⟩
theorem ev_nget {p l : Addr} (hd : H od = some (DNo P w od es)) (hz : ∀ z ∈ es, NK K H z.1 z.2.1) (hk : NK K H k b) (ha : atKey es k = some (p, .ref l)) (h1 : Ev td σ H (.ref od)) (h2 : Ev ty σ H (.ref b)) : Ev (tNGet P w K td ty) σ H (.ref l) := fun H1 e1 Q q =>
  h1 H1 e1 _ fun H2 e2 => h2 H2 (Ex.trans e1 e2) _ fun H3 e3 => ⟨od, es, k, b, p, l, rfl, rfl, (Ex.trans (Ex.trans e1 e2) e3) _ _ hd, fun z hz' => (hz z hz').mono (Ex.trans (Ex.trans e1 e2) e3), hk.mono (Ex.trans (Ex.trans e1 e2) e3), ha, q H3 (Ex.trans e2 e3)⟩
end
abbrev sSearched : Stmt := top 44
abbrev sReachable : Stmt := top 45
def spSearch (P : Program) (w : World) (K : PySem.W.Frag) (CP CT : Addr) : Sp := fun vs H Q _ => ∃ (p : Addr) (N : Int) (ths : List Th) (cs : List (List TI × Nat)) (α : Type) (Y : Sys N ths cs α), vs = [.ref p] ∧ PgAt K CP CT H p N ths ∧
  ∀ (t wo sl od : Addr) (xs : List α) (svs : List V) H', Ex H H' → SqT K H' t [.ref wo, .ref sl, .ref od] → H' sl = some (.lst svs) → DVs K H' (xs.map fun x => (Y.S x).toD) svs → xs ⊆ Y.all → xs.length ≤ Y.all.length → Q (.ref t) H'
def spReach (K : PySem.W.Frag) (CP CT : Addr) : Sp := fun vs H Q _ => ∃ (p : Addr) (N : Int) (ths : List Th) (cs : List (List TI × Nat)) (α : Type) (Y : Sys N ths cs α), vs = [.ref p] ∧ PgAt K CP CT H p N ths ∧
  ∀ (sl : Addr) (xs : List α) (svs : List V) H', Ex H H' → H' sl = some (.lst svs) → DVs K H' (xs.map fun x => (Y.S x).toD) svs → xs ⊆ Y.all → xs.length ≤ Y.all.length → Q (.ref sl) H'
section
variable {P : Program} {w : World} {K : PySem.W.Frag} {mg : Str → Option Value} {base : Heap} {aR CW CP CT : Addr}
theorem ok_searched (T : Tx K mg aR) (c : ClsF K CW ksWo) (F : DefAt K mg "searched" sSearched) (k_World : Mak P w K mg base 20 "World" CW (spWoNew K CW CP CT)) (m_first : Met P w K mg base 8 CW "first" (spFirst K CW CP CT)) (m_possible : Met P w K mg base 13 CW "possible" (spPoss K CW CP CT)) (m_after : Met P w K mg base 14 CW "after" (spAfter K CW CP CT)) :
    Cal P w K mg base 22 "searched" (spSearch P w K CP CT) := by
  have S : FnScope ["program", "world", "first", "states", "orders", "at", "state", "step", "after"] ["program"] (defScope sSearched) := ⟨rfl, rfl, rfl, by decide +kernel, rfl, by decide +kernel, by decide +kernel⟩
  refine cal_mk F S (fun _ _ _ _ _ _ us hl => match us, hl with | [_], _ => rfl) (fun vs H Q E h => ?_) (fun f cdv A outer s H vs Q E hr h => ?_)
  · obtain ⟨p, N, ths, cs, α, Y, rfl, _⟩ := h
    rfl
  · obtain ⟨p, N, ths, cs, α, Y, rfl, hpg, q⟩ := h
    obtain ⟨t_, gMOST_STATES⟩ := T.gMOST_STATES
    have hu := hr.units
    refine ⟨_, (pss_cons (ps_set (i := 1) S.nd rfl (Or.inl rfl) (pe_mk k_World hr (pa_cons (pv 0) pa_nil)))
  (pss_cons (ps_set (i := 2) S.nd rfl (Or.inl rfl) (pe_mt0 m_first hr (pv 1)))
  (pss_cons (ps_set (i := 3) S.nd rfl (Or.inl rfl) (pe_lst (pa_cons (pv 2) pa_nil)))
  (pss_cons (ps_set (i := 4) S.nd rfl (Or.inl rfl) (pe_ndisp hu (pv 2) (pe_lst pa_nil)))
  (pss_cons (ps_set (i := 5) S.nd rfl (Or.inl rfl) pe_int)
  (pss_cons (ps_while PassesOwn.never (pt_cmpR op_lt (pv 5) (pe_callB call_len_seq (by rfl) T.b.len (by decide +kernel) (pa_cons (pv 3) pa_nil)) (nomark _))
  (pss_cons (ps_set (i := 6) S.nd rfl (Or.inl rfl) (pe_ix ix_list (pv 3) (pv 5) (fun _ _ => rfl)))
  (pss_cons (ps_aug (i := 5) S.nd rfl (Or.inl rfl) pe_int ip_add)
  (pss_one (ps_for PassesOwn.never rfl (pi_list (pe_mt m_possible hr (pv 1) (pa_cons (pv 6) pa_nil))) (pg_name (i := 7) S.nd rfl (Or.inl rfl))
  (pss_cons (ps_set (i := 8) S.nd rfl (Or.inl rfl) (pe_mt m_after hr (pv 1) (pa_cons (pv 6) (pa_cons (pv 7) pa_nil))))
  (pss_one (ps_if (pt_cmp (pc_nnotin hu (pv 8) (pv 4)))
  (pss_cons (ps_if (pt_cmpR op_eq (pe_callB call_len_seq (by rfl) T.b.len (by decide +kernel) (pa_cons (pv 3) pa_nil)) (pe_glob (v := .int 3000) rfl gMOST_STATES ⟨_, rfl⟩) (nomark _))
  (pss_one ps_never)
  pss_nil)
  (pss_cons (ps_expr (pe_bm PySem.F.plainAttrs_list PySem.F.slot_list_append PySem.F.type_list_append mt_append (pv 3) (pa_cons (pv 8) pa_nil)))
  (pss_one (ps_nput hu (pv 4) (pv 8) (pe_op op_cat (pe_nget hu (pv 4) (pv 6) (fun _ _ => rfl)) (pe_lst (pa_cons (pv 7) pa_nil))) rfl))))
  pss_nil))))))))
  (pss_one (ps_ret (pe_tup (pa_cons (pv 1) (pa_cons (pv 3) (pa_cons (pv 4) pa_nil)))))))))))), ?_⟩
    refine q_asgX (go_make (ea_cons ev_v ea_nil) fun wo dxo H1 H2 e1 nwo e2 hwo => ?_)
    refine ⟨H1, wo, dxo, p, N, ths, cs, rfl, hwo, e2, nwo, hpg.grow e1, Y.hcs, Y.hlen.2, fun H3 e3 W3 => ⟨rfl, ?_⟩⟩
    have e03 := Ex.trans e1 e3
    dsimp only [gName]
    have W3' := W3
    obtain ⟨dxw, _, _, _, _, hpw, _⟩ := W3'
    refine q_asgX (go_meth ev_v hpw (fz_none (by decide +kernel)) ea_nil fun H4 e4 => ?_)
    refine ⟨wo, N, ths, cs, Y.trs, rfl, W3.grow e4, Y.hgo, Y.hN.1, Y.hN.2, Y.hlen.2, fun fv H5 e5 dfv => ?_⟩
    rw [← Y.hS] at dfv
    have e05 := Ex.trans (Ex.trans e03 e4) e5
    have W5 := (W3.grow e4).grow e5
    dsimp only [gName]
    refine Evl.q_asgL (xs := [fv]) (el_lst (ea_cons ev_v ea_nil) (by simp)) fun sl H6 n6 e6 h6 => ?_
    have e06 := Ex.trans e05 e6
    obtain ⟨fa, fxs, hfa, _, _⟩ := dfv.tup_inv
    subst hfa
    refine q_asgX ?_
    intro od nod
    have eod : Ex H6 (upd H6 od (DNo P w od [])) := Ex.new nod
    refine ⟨_, rfl, ?_⟩
    refine (el_lst ea_nil (by decide) : EvL (tLst tNil) _ (upd H6 od (DNo P w od [])) []) _ (Ex.refl _) _ fun l0 H7 n7 e7 h7 => ?_
    have e67 := Ex.trans eod e7
    refine ⟨(Y.S Y.first).key, fa, l0, rfl, rfl, e7 _ _ upd_same, Stt.nk (dfv.mono (Ex.trans e6 e67)), ?_⟩
    have n6od : H6 od = none := nod
    have e68 : Ex H6 (upd H7 od (DNo P w od [((Y.S Y.first).key, fa, .ref l0)])) := Ex.mut e67 n6od
    have hne : sl ≠ od := ne_of_none h6 n6od
    have nl0s : l0 ≠ sl := (ne_of_none (eod _ _ h6) n7).symm
    have nl0o : l0 ≠ od := ne_of h7 (e7 _ _ upd_same) (by intro z; cases z)
    have hl8 : upd H7 od (DNo P w od [((Y.S Y.first).key, fa, .ref l0)]) l0 = some (.lst []) := by rw [upd_ne nl0o]; exact h7
    have h8s := e68 _ _ h6
    have hod8 : upd H7 od (DNo P w od [((Y.S Y.first).key, fa, .ref l0)]) od = some (DNo P w od [((Y.S Y.first).key, fa, .ref l0)]) := upd_same
    obtain ⟨H8, hH8⟩ : ∃ H8, H8 = upd H7 od (DNo P w od [((Y.S Y.first).key, fa, .ref l0)]) := ⟨_, rfl⟩
    rw [← hH8] at e68 hl8 h8s hod8
    have e58 := Ex.trans e6 e68
    have gs : H5 sl = none := n6
    have go : H5 od = none := Evl.fresh_back e6 n6od
    have i8 : SI P w K H5 H8 sl od Y [Y.first] [.ref fa] [((Y.S Y.first).key, fa, .ref l0)] :=
      ⟨e58, h8s, .cons (dfv.mono e58) .nil, hod8, ⟨rfl, fun z hz => by
        rw [List.mem_singleton] at hz
        subst hz
        exact ⟨Stt.nk (dfv.mono e58), l0, [], rfl, nl0s, hl8, by simp⟩⟩, fun z hz => by rw [List.mem_singleton] at hz; rw [hz]; exact Y.hfirst, by simp⟩
    dsimp only [gName]
    refine q_asg ev_c fun H9 e9 => ?_
    have e9' : Ex H8 H9 := by rw [hH8]; exact e9
    have i9 := i8.grow e9'
    refine Evl.q_while (fun m σ H' => ∃ (xs : List α) (svs : List V) (es : NEs) (i : Nat) (v6 v7 v8 : Option V), σ = [some (.ref p), some (.ref wo), some (.ref fa), some (.ref sl), some (.ref od), some (.int i), v6, v7, v8] ∧ SI P w K H5 H' sl od Y xs svs es ∧ i ≤ xs.length ∧ m + i = Y.all.length + 1)
      (Y.all.length + 1) ⟨_, _, _, 0, none, none, none, rfl, i9, Nat.zero_le _, rfl⟩ ?_
    rintro m σ H10 ⟨xs, svs, es, i, v6, v7, v8, rfl, hi, hix, hm⟩
    have hsl : svs.length = xs.length := by rw [← hi.rs.length, List.length_map]
    have hxl := hi.len
    have hal := Y.hlen.1
    refine ⟨decide (i < xs.length), Evl.et_is (et_test (ev_op ev_v (ev_lenl ev_v (sqL_of hi.hs)) rv_I0)) (by rw [hsl]; exact decide_eq_decide.mpr (by omega)), fun hb H11 e11 => ?_, fun hb H11 e11 => ?_⟩
    · have hlt : i < xs.length := of_decide_eq_true hb
      have hi11 := hi.grow e11
      obtain ⟨m', rfl⟩ : ∃ m', m = m' + 1 := ⟨m - 1, by omega⟩
      have hxi : xs[i]? = some xs[i] := List.getElem?_eq_getElem hlt
      obtain ⟨sv, hsv, dsv⟩ := DVs.map_at hi11.rs hxi
      have hxa : xs[i] ∈ Y.all := hi.sub (List.getElem_mem hlt)
      refine ⟨fun σ2 H2 => ∃ (xs : List α) (svs : List V) (es : NEs) (i : Nat) (v6 v7 v8 : Option V), σ2 = [some (.ref p), some (.ref wo), some (.ref fa), some (.ref sl), some (.ref od), some (.int i), v6, v7, v8] ∧ SI P w K H5 H2 sl od Y xs svs es ∧ i ≤ xs.length ∧ m' + i = Y.all.length + 1, fun σ2 H2 hN => ⟨m', Nat.lt_succ_self _, hN⟩, ?_⟩
      refine q_asg (ev_ixl ev_v (sqL_of hi11.hs) ev_v hsv) fun H12 e12 => ?_
      refine Evl.q_aug rfl ev_c fun H13 e13 => ?_
      have hi13 := (hi11.grow e12).grow e13
      have d13 := (dsv.mono e12).mono e13
      obtain ⟨sb, sxs, hsb, _, _⟩ := d13.tup_inv
      subst hsb
      have W13 := W5.grow hi13.ex
      have hpw13 : H13 wo = some (.ins CW dxw _) := hi13.ex _ _ ((Ex.trans e4 e5) _ _ hpw)
      refine Evl.s_forNL (xs := (stepsOf cs.length (Y.r xs[i])).map fun (i : Nat) => V.int (i : Int)) (el_meth ev_v hpw13 (fz_none (by decide +kernel)) (ea_cons ev_v ea_nil) fun H14 e14 Q q E => ?_)
        (fun pl j σ2 H2 => ∃ (xs2 : List α) (svs2 : List V) (es2 : NEs) (v7 v8 : Option V), σ2 = [some (.ref p), some (.ref wo), some (.ref fa), some (.ref sl), some (.ref od), some (.int ((i + 1 : Nat) : Int)), some (.ref sb), v7, v8] ∧ SI P w K H5 H2 sl od Y xs2 svs2 es2 ∧ xs2[i]? = some xs[i] ∧ svs2[i]? = some (.ref sb) ∧ pl ≠ sl ∧ pl ≠ od ∧ H2 pl = some (.lst ((stepsOf cs.length (Y.r xs[i])).map fun (i : Nat) => V.int (i : Int)))) ?_ (fun pl j σ2 H2 _ h => ?_) ?_ ?_
      · exact ⟨wo, N, ths, cs, Y.S xs[i], .ref sb, Y.r xs[i], rfl, W13.grow e14, d13.mono e14, (by have h1 := Y.hcs.1; have h2 := Y.hlen.2; omega), Y.hths _ hxa, Y.hcase _ hxa, fun l H15 nl e15 hl => q l H15 nl e15 hl⟩
      · exact fun pl H14 npl e14 hpl => ⟨xs, svs, es, _, _, rfl, hi13.grow e14, hxi, hsv, (ne_of_none hi13.hs npl).symm, (ne_of_none hi13.hd npl).symm, hpl⟩
      · obtain ⟨xs2, svs2, es2, v7, v8, rfl, hi2, hx2, hs2, np1, np2, hpl⟩ := h
        exact sqL_of hpl
      · rintro pl j x σ2 H14 hxj ⟨xs2, svs2, es2, v7, v8, rfl, hi2, hx2, hs2, np1, np2, hpl⟩
        have hjl : j < (stepsOf cs.length (Y.r xs[i])).length := by
          have := (List.getElem?_eq_some_iff.mp hxj).1
          rwa [List.length_map] at this
        obtain ⟨n, hn, rfl⟩ : ∃ n, n ∈ stepsOf cs.length (Y.r xs[i]) ∧ x = V.int ((n : Nat) : Int) := by
          rw [List.getElem?_map, List.getElem?_eq_getElem hjl] at hxj
          exact ⟨_, List.getElem_mem hjl, (Option.some.inj hxj).symm⟩
        obtain ⟨hya, mem', tr', hBD, hSy⟩ := Y.hnext _ hxa n hn
        dsimp only [gName]
        have hxl2 := hi2.len
        have W14 := W5.grow hi2.ex
        have hpw14 := hi2.ex _ _ ((Ex.trans e4 e5) _ _ hpw)
        obtain ⟨sv2, hsv2, dsv2⟩ := DVs.map_at hi2.rs hx2
        rw [hs2] at hsv2
        cases hsv2
        refine q_asgX (go_meth ev_v hpw14 (fz_none (by decide +kernel)) (ea_cons ev_v (ea_cons ev_v ea_nil)) fun H15 e15 => ?_)
        refine ⟨wo, N, ths, cs, Y.S xs[i], .ref sb, n, mem', tr', rfl, W14.grow e15, dsv2.mono e15, hBD, Y.hths _ hxa, fun av H16 e16 dav => ?_⟩
        rw [← hSy] at dav
        have e46 := Ex.trans e15 e16
        have hi16 := hi2.grow e46
        obtain ⟨ab, axs, hab, _, _⟩ := dav.tup_inv
        subst hab
        dsimp only [gName]
        refine Evl.s_when (et_nnotin (b := ab) hi16.hd (fun z hz => (hi16.ho.2 z hz).1) (Stt.nk dav) ev_v ev_v) (fun hb H17 e17 => ?_) (fun hb H17 e17 => ?_)
        · have hnone : atKey es2 (Y.S (Y.next xs[i] n)).key = none := by
            cases h : atKey es2 (Y.S (Y.next xs[i] n)).key with
            | none => rfl
            | some z => rw [h] at hb; cases hb
          have hi17 := hi16.grow e17
          have hsl2 : svs2.length = xs2.length := by rw [← hi2.rs.length, List.length_map]
          refine q_when (b := false) (Evl.et_is (et_eqI (ev_lenl ev_v (sqL_of hi17.hs)) ev_c) (by rw [hsl2]; exact decide_eq_false (by omega))) (fun z => nomatch z) fun _ H18 e18 => ?_
          have hi18 := hi17.grow e18
          refine q_appl hi18.hs ev_v ev_v (by omega) fun H19 b19 h19 => ?_
          have d18 := dav.mono (Ex.trans e17 e18)
          have hne' := hne
          have hod19 : H19 od = some (DNo P w od es2) := b19 _ _ hne.symm hi18.hd
          have tp19 : Tups H18 H19 := ExB.tups b19 hi18.hs nt_lst
          have hz19 : ∀ z ∈ es2, NK K H19 z.1 z.2.1 := fun z hz => (hi18.ho.2 z hz).1.tups tp19
          have hkm : (Y.S xs[i]).key ∈ es2.map (·.1) := by
            rw [hi18.ho.1]
            exact List.mem_map.mpr ⟨xs[i], List.mem_of_getElem? hx2, rfl⟩
          obtain ⟨⟨pb, pv⟩, hat, hmem⟩ := atKey_mem hkm
          obtain ⟨_, l, ns, hpv, hls, hll, hns⟩ := hi18.ho.2 _ hmem
          dsimp only at hpv
          subst hpv
          rw [List.length_map] at hns
          have dx19 : NK K H19 (Y.S xs[i]).key sb := (Stt.nk (dsv2.mono (Ex.trans (Ex.trans e46 e17) e18))).tups tp19
          have dy19 : NK K H19 (Y.S (Y.next xs[i] n)).key ab := (Stt.nk d18).tups tp19
          have hl19 : H19 l = some (.lst ns) := b19 _ _ hls hll
          refine (el_cat1 (ev_nget (P := P) (w := w) hod19 hz19 dx19 hat ev_v ev_v) hl19 (el_lst (ea_cons ev_v ea_nil) (by simp)) (by rw [List.length_singleton]; omega) : EvL (tOp rCat (tNGet P w K (tVar 4) (tVar 6)) (tLst (tCons (tVar 7) tNil))) [some (.ref p), some (.ref wo), some (.ref fa), some (.ref sl), some (.ref od), some (.int ((i + 1 : Nat) : Int)), some (.ref sb), some (.int n), some (.ref ab)] H19 (ns ++ [.int n])) H19 (Ex.refl _) _ fun l' H20 nl' e20 hl' => ?_
          refine (ev_v : Ev (tVar 4) [some (.ref p), some (.ref wo), some (.ref fa), some (.ref sl), some (.ref od), some (.int ((i + 1 : Nat) : Int)), some (.ref sb), some (.int n), some (.ref ab)] H20 (.ref od)) H20 (Ex.refl _) _ fun H21 e21 => ?_
          refine (ev_v : Ev (tVar 8) [some (.ref p), some (.ref wo), some (.ref fa), some (.ref sl), some (.ref od), some (.int ((i + 1 : Nat) : Int)), some (.ref sb), some (.int n), some (.ref ab)] H21 (.ref ab)) H21 (Ex.refl _) _ fun H22 e22 => ?_
          have e192 : Ex H19 H22 := Ex.trans (Ex.trans e20 e21) e22
          have hes : es2.length = xs2.length := by
            have := congrArg List.length hi18.ho.1
            rwa [List.length_map, List.length_map] at this
          refine ⟨od, es2, _, ab, l', rfl, rfl, rfl, e192 _ _ hod19, fun z hz => (hz19 z hz).mono e192, dy19.mono e192, by rw [sizeLine_eq]; omega, ?_⟩
          have b23 : ExB od H22 (upd H22 od (DNo P w od (storedH es2 (Y.S (Y.next xs[i] n)).key ab (.ref l')))) := ExB.upd (Ex.refl _)
          have hi23 := hi18.add gs go hne hya hnone d18 b19 h19 e192 nl' ((Ex.trans e21 e22) _ _ hl') (by rw [List.length_append, List.length_singleton]; omega) b23 upd_same
          refine ⟨_, _, _, _, _, rfl, hi23, ?_, ?_, np1, np2, ?_⟩
          · rw [List.getElem?_append_left (List.getElem?_eq_some_iff.mp hx2).1]; exact hx2
          · rw [List.getElem?_append_left (List.getElem?_eq_some_iff.mp hs2).1]; exact hs2
          · exact b23 _ _ np2 (e192 _ _ (b19 _ _ np1 ((Ex.trans (Ex.trans e46 e17) e18) _ _ hpl)))
        · exact ⟨xs2, svs2, es2, _, _, rfl, hi16.grow e17, hx2, hs2, np1, np2, (Ex.trans e46 e17) _ _ hpl⟩
      · rintro pl σ2 H14 ⟨xs2, svs2, es2, v7, v8, rfl, hi2, hx2, hs2, np1, np2, hpl⟩
        have := (List.getElem?_eq_some_iff.mp hx2).1
        exact ⟨xs2, svs2, es2, i + 1, _, _, _, rfl, hi2, this, by omega⟩
    · have hi11 := hi.grow e11
      refine s_retX ?_
      have hE : EvU (tTup (tCons (tVar 1) (tCons (tVar 3) (tCons (tVar 4) tNil)))) [some (.ref p), some (.ref wo), some (.ref fa), some (.ref sl), some (.ref od), some (.int i), v6, v7, v8] H11 [.ref wo, .ref sl, .ref od] := eu_tup (ea_cons ev_v (ea_cons ev_v (ea_cons ev_v ea_nil))) (by simp)
      refine hE H11 (Ex.refl _) _ fun t H12 nt e12 ht => ?_
      exact q t wo sl od xs svs H12 (Ex.trans (Ex.trans e05 hi11.ex) e12) (sqT_of ht) (e12 _ _ hi11.hs) (hi11.rs.mono e12) hi11.sub hi11.len
theorem ok_reach (T : Tx K mg aR) (F : DefAt K mg "reachable" sReachable) (c_searched : Cal P w K mg base 22 "searched" (spSearch P w K CP CT)) : Cal P w K mg base 23 "reachable" (spReach K CP CT) := by
  have S : FnScope ["program"] ["program"] (defScope sReachable) := ⟨rfl, rfl, rfl, by decide +kernel, rfl, by decide +kernel, by decide +kernel⟩
  refine cal_mk F S (fun _ _ _ _ _ _ us hl => match us, hl with | [_], _ => rfl) (fun vs H Q E h => ?_) (fun f cdv A outer s H vs Q E hr h => ?_)
  · obtain ⟨p, N, ths, cs, α, Y, rfl, _⟩ := h
    rfl
  · obtain ⟨p, N, ths, cs, α, Y, rfl, hpg, q⟩ := h
    refine ⟨_, (pss_one (ps_ret (pe_ix ix_tup (pe_c c_searched hr (pa_cons (pv 0) pa_nil)) pe_int (fun _ _ => rfl)))), ?_⟩
    refine s_retX ?_
    refine go_call (ea_cons ev_v ea_nil) fun H1 e1 => ?_
    refine ⟨p, N, ths, cs, α, Y, rfl, hpg.grow e1, fun t wo sl od xs svs H2 e2 ht hs hr hsub hlen => ?_⟩
    exact ⟨t, _, 1, _, rfl, rfl, ht, rfl, q sl xs svs H2 (Ex.trans e1 e2) hs hr hsub hlen⟩
end
end HK


set_option maxRecDepth 100000
set_option maxHeartbeats 4000000
/-! S3: list(reversed(xs)). -/
namespace HK
open PySem PySem.Calls PySem.Spec PyProof.Rows L2 PySem.W
theorem lri_len : typeLookup (.type "list_reverseiterator") "__len__" = pure none := by rw [typeLookup_type, builtinLookup_eq_fast]; kernel_rfl
theorem lri_hintL : typeLookup (.type "list_reverseiterator") "__length_hint__" = pure (some (.builtin "list_reverseiterator.__length_hint__")) := by rw [typeLookup_type, builtinLookup_eq_fast]; kernel_rfl
section
variable {prog : Program} {w : World} {A : Around} {E : Value → Shared → Prop} {s : Shared} {r : Addr} {Q : Bool → Shared → Prop}
theorem lri_hint (hT : s.TypeIs (.ref r) "list_reverseiterator") (h : ∀ b, Q b s) : wpAny (model prog w) A (Builtin.List.listLengthHint (.ref r)) Q E s := by
  unfold Builtin.List.listLengthHint
  refine wpAny_bind (wpAny_specialOf hT lri_len ?_)
  refine wpAny_ite_split (fun hab => absurd hab (by decide)) (fun _ => ?_)
  refine wpAny_ite_split (fun hab => absurd hab (by decide)) (fun _ => ?_)
  refine wpAny_bind (wpAny_specialOf hT lri_hintL ?_)
  generalize hid : ("list_reverseiterator.__length_hint__" : String) = id0
  wp_delta
  rw [show splitId id0 = some ("list_reverseiterator", "__length_hint__") from by subst hid; decide +kernel]
  subst hid
  refine wpAny_bind (wpAny_isInstance (T := "list_reverseiterator") (b := true) hT (by rw [isSubtype_type]; kernel_rfl) ?_)
  refine wpAny_ite_split (fun hab => absurd hab (by decide)) (fun _ => ?_)
  refine wpAny_ite_split (fun _ => ?_) (fun hab => absurd (by decide +kernel) hab)
  refine wpAny_ite_split (fun hab => absurd hab (by decide +kernel)) (fun _ => ?_)
  exact wpAny_pure (h _)
end
section
variable {prog : Program} {w : World} {A : Around} {E : Value → Shared → Prop} {s : Shared} {I l : Addr} {items : Array Value}
theorem lri_extend {R : Result → Shared → Prop} (hh : A.handled = none) (hit : s.heap.IsRevIter I l ((items.size : Int) - 1)) (hl : s.heap.IsList l items) (hne : l ≠ I) (S : Addr) (hSI : S ≠ I) (hSl : S ≠ l) (res : Value) (c₀ : Nat) (hS : s.heap.get? S = some { cls := .type "list", data := .seq #[] c₀ })
    (hR : ∀ h' tk acc' c', (∀ b o, b ≠ S → b ≠ I → s.heap.get? b = some o → h'.get? b = some o) → h'.get? S = some { cls := .type "list", dict := none, data := .seq acc' c', slots := #[] } → ItemsOf (fun i v => items[items.size - 1 - i]? = some v) acc' items.size → R (.ok (.ret res)) { s with heap := h', toks := tk }) (hn : items.size ≤ sizeLine) :
    wpAny (model prog w) A.in1 (Builtin.List.listExtendWith (.ref S) (.ref I) res)
      (fun fin s' => match fin with | .done f => R (.ok f) s' | .again c' => c'.quiet = true ∧ codeAny (model prog w) A c' R s') (fun e s' => R (.error e) s') s := by
  have hSf : S ∉ [I, l] := by simp only [List.mem_cons, List.not_mem_nil, or_false, not_or]; exact ⟨hSI, hSl⟩
  have W := Walks.listRev (prog := prog) (w := w) (A := A.in1) hh I l hne items
  have st0 : ∀ h : Heap, h.IsRevIter I l ((items.size : Int) - 1) → h.IsList l items → (0 ≤ items.size ∧ h.IsRevIter I l ((items.size : Int) - 1 - ((0 : Nat) : Int)) ∧ h.IsList l items) := fun h a b => by
    have e : (items.size : Int) - 1 - ((0 : Nat) : Int) = (items.size : Int) - 1 := by omega
    rw [e]
    exact ⟨Nat.zero_le _, a, b⟩
  have key : ∀ (h : Heap) (c₁ tk : Nat), (0 ≤ items.size ∧ h.IsRevIter I l ((items.size : Int) - 1 - ((0 : Nat) : Int)) ∧ h.IsList l items) → (∀ b o, b ≠ S → s.heap.get? b = some o → h.get? b = some o) →
      h.get? S = some { cls := .type "list", data := .seq #[] c₁ } → codeAny (model prog w) A (.builtin "list.extend.loop" ⟨[.ref S, .ref I, res], []⟩) R { s with heap := h, toks := tk } := by
    intro h c₁ tk hst hk hS₁
    refine codeAny_extend_loopS W.toS hn S hSf res items.size 0 _ #[] c₁ rfl (Nat.zero_le _) hst hS₁ (ItemsOf.nil _) fun s' acc' c' hm hS' hacc => ?_
    rw [Moved.eq_with hm]
    refine hR s'.heap s'.toks acc' c' (fun b o hb hb2 e => hm.heap b o (fun hmem => ?_) (hk b o hb e)) hS' hacc
    rcases List.mem_cons.mp hmem with e' | hmem
    · exact hb e'
    · exact hb2 (List.mem_singleton.mp hmem)
  unfold Builtin.List.listExtendWith
  refine wpAny_bind (wpAny_typeOf (T := "list_reverseiterator") hit.typeIs ?_)
  have h1 : Builtin.List.listSameRef (.ref S) (.ref I) = false := by simp [Builtin.List.listSameRef, hSI]
  have h2 : (Value.type "list_reverseiterator" == Value.type "list") = false := by decide
  have h3 : (Value.type "list_reverseiterator" == Value.type "tuple") = false := by decide
  simp only [h1, h2, h3, Bool.or_false, Bool.false_eq_true, if_false]
  refine wpAny_bind (wpAny_pyIter_revIter hit ?_)
  refine wpAny_bind (wpAny_holding (lri_hint hit.typeIs fun b => ?_))
  refine wpAny_ite_split (fun _ => ?_) (fun _ => wpAny_pure ⟨plainId_quiet PySem.F.plain_extend_loop _, key _ c₀ _ (st0 _ hit hl) (fun b o _ e => e) hS⟩)
  refine wpAny_bind (wpAny_rule ?_)
  refine wpAny_bind ?_
  show wpAny _ _ (updateSeq S (·.push .none) >>= fun _ => updateSeq S (·.pop)) _ _ _
  refine wpAny_bind (wpAny_updateSeq hS rfl ?_)
  have hS₂ := Heap.get?_update_self (Obj.mapSeq (·.push Value.none)) hS rfl
  refine wpAny_updateSeq (hz := by seq_fits) hS₂ rfl ?_
  have hS₃ := Heap.get?_update_self (Obj.mapSeq (·.pop)) hS₂ rfl
  have oth : ∀ b o, b ≠ S → s.heap.get? b = some o → ((s.heap.update S (Obj.mapSeq (·.push Value.none))).update S (Obj.mapSeq (·.pop))).get? b = some o := fun b o hb e =>
    (Heap.get?_update_other _ _ (Ne.symm hb)).trans ((Heap.get?_update_other _ _ (Ne.symm hb)).trans e)
  refine wpAny_pure ⟨plainId_quiet PySem.F.plain_extend_loop _, key _ _ _ (st0 _ (hit.at fun o e => oth _ _ hSI.symm e) (hl.at fun o e => oth _ _ hSl.symm e)) oth hS₃⟩
theorem call_list_rev {Q : Value → Shared → Prop} (hh : A.handled = none) (hit : s.heap.IsRevIter I l ((items.size : Int) - 1)) (hl : s.heap.IsList l items) (hne : l ≠ I) (hn : items.size ≤ sizeLine)
    (hQ : ∀ h' tk acc' c', (∀ b o, b ≠ I → s.heap.get? b = some o → h'.get? b = some o) → h'.get? s.heap.objs.size = some { cls := .type "list", dict := none, data := .seq acc' c', slots := #[] } → ItemsOf (fun i v => items[items.size - 1 - i]? = some v) acc' items.size → Q (.ref s.heap.objs.size) { s with heap := h', toks := tk }) :
    wpAny (model prog w) A (call (.type "list") [.ref I]) Q E s := by
  refine callType_codes (Q₁ := fun obj s₁ => obj = .ref s.heap.objs.size ∧ s₁ = { s with heap := s.heap.push { cls := .type "list", data := .seq #[] } }) PySem.F.called_list (PySem.F.typeCall_list_1 _) PySem.F.entry_list_init
    (code_list_new _ ⟨rfl, rfl⟩) fun obj s₁ h₁ => ?_
  obtain ⟨rfl, rfl⟩ := h₁
  have hS : (s.heap.push { cls := .type "list", data := .seq #[] }).get? s.heap.objs.size = some { cls := .type "list", data := .seq #[] } := Heap.get?_push_size _ rfl
  obtain ⟨oi, hoi, _⟩ := id hit
  obtain ⟨ol, hol, _⟩ := id hl
  have ltI := Heap.lt_size hoi
  have ltl := Heap.lt_size hol
  refine ⟨⟨_, hS, rfl⟩, PySem.F.args_list_init_2 _ _, ?_⟩
  show wpAny _ _ (do let old ← Builtin.List.listItems (.ref s.heap.objs.size); Builtin.List.listUpdate (.ref s.heap.objs.size) (fun _ => #[]); letGo old.toList.reverse; Builtin.List.listExtendWith (.ref s.heap.objs.size) (.ref I) .none) _ _ _
  refine wpAny_bind ?_
  unfold Builtin.List.listItems
  refine wpAny_bind (wpAny_seqItems hS rfl (wpAny_pure ?_))
  show wpAny _ _ (updateSeq s.heap.objs.size (fun _ => #[]) >>= fun _ => letGo (#[] : Array Value).toList.reverse >>= fun _ => Builtin.List.listExtendWith (.ref s.heap.objs.size) (.ref I) .none) _ _ _
  refine wpAny_bind (wpAny_updateSeq hS rfl ?_)
  have hS₂ := Heap.get?_update_self (Obj.mapSeq (fun _ => (#[] : Array Value))) hS rfl
  have oth : ∀ b o, b ≠ s.heap.objs.size → s.heap.get? b = some o → ((s.heap.push { cls := .type "list", data := .seq #[] }).update s.heap.objs.size (Obj.mapSeq (fun _ => (#[] : Array Value)))).get? b = some o :=
    fun b o hb e => (Heap.get?_update_other _ _ (Ne.symm hb)).trans (Heap.get?_push_of_some _ e)
  refine wpAny_bind (wpAny_letGo ?_)
  refine lri_extend (A := A.in1) hh (hit.at fun o e => oth _ _ (Nat.ne_of_lt ltI) e) (hl.at fun o e => oth _ _ (Nat.ne_of_lt ltl) e) hne _ (Nat.ne_of_gt ltI) (Nat.ne_of_gt ltl) .none _ hS₂ (fun h' tk acc' c' hk hS' hacc => ?_) hn
  exact ⟨rfl, hQ h' tk acc' c' (fun b o hb e => hk b o (Nat.ne_of_lt (Heap.lt_size e)) hb (oth b o (Nat.ne_of_lt (Heap.lt_size e)) e)) hS' hacc⟩
end
/-- list(reversed(x)), x a list: a new list -/
def tLstRev (K : PySem.W.Frag) (te : TE) : TE := fun σ H Q => te σ H fun v H1 => ∃ (a : Addr) (xs : List V), v = .ref a ∧ SqL K H1 a xs ∧ ∀ q, H1 q = none → Q (.ref q) (upd H1 q (.lst xs.reverse))
section
variable {X : Cx}
theorem pe_lstRev {e : Expr} {te : TE} {p p2 pos pos2 : Pos} (hc : X.calm = true) (hg : Gl X "list") (hm : X.mg "list" = none) (hg2 : Gl X "reversed") (hm2 : X.mg "reversed" = none) (he : PE X e te)
    (hs : starEach [e] X.env = (false, eval e X.env) :: starEach [] X.env := by rfl)
    (hs2 : starEach [.Call (.Name "reversed" p2) [e] [] pos2] X.env = (false, eval (.Call (.Name "reversed" p2) [e] [] pos2) X.env) :: starEach [] X.env := by rfl) :
    PE X (.Call (.Name "list" p) [.Call (.Name "reversed" p2) [e] [] pos2] [] pos) (tLstRev X.K te) := by
  refine ⟨fun pins s σ H Q I h => ?_⟩
  refine Call_ (ld_blt I hg hm (by rfl) (PyProof.Rows.callWith_type1 (args_cons (Call_ (ld_blt I hg2 hm2 PyProof.Rows.boot_reversed (PyProof.Rows.callWith_type1 (args_cons (thn (he.run pins s σ H _ I h) fun u s1 ⟨v, H1, I1, r1, q1⟩ => args_nil ?_) hs) hs rfl))) hs2) hs2 rfl))
  obtain ⟨a, xs, ev, hq, q⟩ := q1
  subst ev
  obtain rfl : u = Value.ref a := r1
  obtain ⟨its, rv, p', hz⟩ := I1.list hq
  refine call_reversed_list p'.isList (args_nil ?_)
  have k0 : ∀ b o, s1.heap.get? b = some o → (s1.heap.push (revObj a ((its.toArray.size : Int) - 1))).get? b = some o := fun b o e => Heap.get?_push_of_some _ e
  have I2 : Inv X pins σ H1 { s1 with heap := s1.heap.push (revObj a ((its.toArray.size : Int) - 1)) } := I1.kept (t' := s1.toks) k0
  have hl := p'.isList
  obtain ⟨ol, hol, _⟩ := id hl
  have hne : a ≠ s1.heap.objs.size := Nat.ne_of_lt (Heap.lt_size hol)
  have hn : its.toArray.size ≤ sizeLine := by rw [List.size_toArray, ← rv.length]; exact hz
  refine call_list_rev (s := { s1 with heap := s1.heap.push (revObj a ((its.toArray.size : Int) - 1)) }) (I1.ok.hd hc) ⟨_, Heap.get?_push_size _ rfl, rfl, rfl⟩ (hl.push _) hne hn fun h' tk acc c' hk hS hi => ?_
  have hle : s1.heap.objs.size ≤ (s1.heap.push (revObj a ((its.toArray.size : Int) - 1))).objs.size := by
    have e := Heap.lt_size (Heap.get?_push_size s1.heap (o := revObj a ((its.toArray.size : Int) - 1)) rfl)
    exact Nat.le_of_lt e
  refine ⟨.ref _, upd H1 _ (.lst xs.reverse), I1.laid (t' := tk) (fun b o e => hk b o (Nat.ne_of_lt (Heap.lt_size e)) (Heap.get?_push_of_some _ e)) hle (show ObjOk X.prog X.w _ _ _ (.lst xs.reverse) from ⟨by rw [List.length_reverse]; exact hz, acc.toList, c', RT.vals_rev rv hi, ?_⟩), rfl, q _ (I1.hok.fresh hle)⟩
  rw [Array.toArray_toList]
  exact hS
end
end HK


set_option maxRecDepth 100000
set_option maxHeartbeats 4000000
/-! L1: _law_draws, _law_take. -/
namespace HK
open PySem PySem.Spec PyProof.Rows L2
open Evl (Ex Ev EvT EvA EvL EvU RetV ev_var ev_c ev_op ev_un ea_nil ea_cons et_test et_B et_and et_or et_not ev_call ev_cb rv_I0 rv_I rv_eq rv_ixL rv_ixT ev_inU ev_niU eu_tup el_lst ev_len el_list q_when q_if q_asg q_drop s_asg s_ret s_if s_drop)
def spDraws (K : PySem.W.Frag) : Sp := fun vs H Q _ => ∃ (a : Addr) (cells : List Int), vs = [.ref a] ∧ SqL K H a (cells.map V.int) ∧ cells.length ≤ 64 ∧ ∀ (l : Addr) (ds : List Int) H', H l = none → Ex H H' → H' l = some (.lst (ds.map V.int)) → Q (.ref l) H'
def spTake : Sp := fun vs H Q _ => ∃ (l : Addr) (ds : List Int) (b : Int), vs = [.ref l, .int b] ∧ H l = some (.lst (ds.map V.int)) ∧ 0 < b ∧ ∀ (r : Int) (ds' : List Int) H', ExB l H H' → H' l = some (.lst (ds'.map V.int)) → 0 ≤ r → r < b → Q (.int r) H'
abbrev sLawDraws : Stmt := top 50
abbrev sLawTake : Stmt := top 51
section
variable {K : PySem.W.Frag} {σ : L2.St} {H : Hp} {ta te : TE} {D' : Ends} {u : TS}
theorem ev_abs {i : Int} (ha : Ev ta σ H (.int i)) : Ev (tCB (fun xs H Q => ∃ i, xs = [.int i] ∧ Q (.int (if i < 0 then -i else i)) H) (tCons ta tNil)) σ H (.int (if i < 0 then -i else i)) := fun H1 e Q q => ha H1 e _ fun H2 e2 => ⟨i, rfl, q H2 e2⟩
theorem q_appI {l : Addr} {ds : List Int} {i : Int} (hl : H l = some (.lst (ds.map V.int))) (ha : Ev ta σ H (.ref l)) (h : Ev te σ H (.int i)) (hz : ds.length < 100000) (k : ∀ H', ExB l H H' → H' l = some (.lst ((ds ++ [i]).map V.int)) → u D' σ H') : tSeq (tDrop (tBM K "list" rAppend ta (tCons te tNil))) u D' σ H :=
  q_appl hl ha h (by rw [List.length_map]; exact hz) fun H' b h' => k H' b (by rw [h', List.map_append]; rfl)
theorem s_appI {l : Addr} {ds : List Int} {i : Int} (hl : H l = some (.lst (ds.map V.int))) (ha : Ev ta σ H (.ref l)) (h : Ev te σ H (.int i)) (hz : ds.length < 100000) (k : ∀ H', ExB l H H' → H' l = some (.lst ((ds ++ [i]).map V.int)) → D'.nx σ H') : tDrop (tBM K "list" rAppend ta (tCons te tNil)) D' σ H :=
  s_appl hl ha h (by rw [List.length_map]; exact hz) fun H' b h' => k H' b (by rw [h', List.map_append]; rfl)
end
section
variable {P : Program} {w : World} {K : PySem.W.Frag} {mg : Str → Option Value} {base : Heap} {aR : Addr}
theorem ok_draws (T : Tx K mg aR) (F : DefAt K mg "_law_draws" sLawDraws) : Cal P w K mg base 1 "_law_draws" (spDraws K) := by
  have S : FnScope ["_law_script", "_law_draws_here", "_law_cell", "_law_number", "_law_first", "_law_k", "_law_seed"] ["_law_script"] (defScope sLawDraws) := ⟨rfl, rfl, rfl, by decide +kernel, rfl, by decide +kernel, by decide +kernel⟩
  refine cal_mk F S (fun _ _ _ _ _ _ us hl => match us, hl with | [_], _ => rfl) (fun vs H Q E h => ?_) (fun f cdv A outer s H vs Q E hr h => ?_)
  · obtain ⟨a, cells, rfl, _⟩ := h
    rfl
  · obtain ⟨a, cells, rfl, ha, hc, k⟩ := h
    refine ⟨_, (pss_cons (ps_set (i := 1) S.nd rfl (Or.inl rfl) (pe_lst pa_nil))
  (pss_cons (ps_for PassesOwn.never rfl (pi_list (pv 0)) (pg_name (i := 2) S.nd rfl (Or.inl rfl))
  (pss_cons (ps_set (i := 3) S.nd rfl (Or.inl rfl) (pe_callB call_abs (by rfl) T.b.abs (by decide +kernel) (pa_cons (pv 2) pa_nil)))
  (Evl.pss_cut (ps_if (pt_cmpR op_lt (pv 3) (pe_op op_pow pe_int pe_int) (nomark _))
  (pss_cons (ps_set (i := 4) S.nd rfl (Or.inl rfl) (pe_op op_mod (pe_callTy call_int1 (by rfl) T.b.int (by decide +kernel) (pa_cons (pe_op op_add (pe_op op_mul (pv 3) pe_int) pe_int) pa_nil)) pe_int))
  (pss_cons (ps_expr (pe_bm PySem.F.plainAttrs_list PySem.F.slot_list_append PySem.F.type_list_append mt_append (pv 1) (pa_cons (pe_op op_mod (pe_callTy call_int1 (by rfl) T.b.int (by decide +kernel) (pa_cons (pe_op op_add (pe_op op_mul (pv 4) pe_int) (pv 3)) pa_nil)) pe_int) pa_nil)))
  (pss_cons (ps_expr (pe_bm PySem.F.plainAttrs_list PySem.F.slot_list_append PySem.F.type_list_append mt_append (pv 1) (pa_cons (pe_op op_mod (pe_callTy call_int1 (by rfl) T.b.int (by decide +kernel) (pa_cons (pe_op op_add (pv 4) (pe_op op_fdiv (pv 3) pe_int)) pa_nil)) pe_int) pa_nil)))
  (pss_one (ps_set (i := 3) S.nd rfl (Or.inl rfl) pe_int)))))
  pss_nil)
  (pss_one (ps_for PassesOwn.never rfl (pi_range1 rfl T.b.range (pa_cons pe_int pa_nil)) (pg_name (i := 5) S.nd rfl (Or.inl rfl))
  (pss_one (ps_if (pt_cmpR op_gt (pv 3) pe_int (nomark _))
  (pss_cons (ps_expr (pe_bm PySem.F.plainAttrs_list PySem.F.slot_list_append PySem.F.type_list_append mt_append (pv 1) (pa_cons (pe_op op_mod (pe_callTy call_int1 (by rfl) T.b.int (by decide +kernel) (pa_cons (pv 3) pa_nil)) pe_int) pa_nil)))
  (pss_one (ps_set (i := 3) S.nd rfl (Or.inl rfl) (pe_op op_fdiv (pv 3) pe_int))))
  pss_nil)))))))
  (pss_cons (ps_set (i := 6) S.nd rfl (Or.inl rfl) pe_int)
  (Evl.pss_cut (ps_if (pt_cmpR op_gt (pe_callB call_len_seq (by rfl) T.b.len (by decide +kernel) (pa_cons (pv 0) pa_nil)) pe_int (nomark _))
  (pss_one (ps_set (i := 6) S.nd rfl (Or.inl rfl) (pe_op op_add pe_int (pe_callB call_abs (by rfl) T.b.abs (by decide +kernel) (pa_cons (pe_ix ix_list (pv 0) pe_int (fun _ _ => rfl)) pa_nil)))))
  pss_nil)
  (pss_cons (ps_for PassesOwn.never rfl (pi_range1 rfl T.b.range (pa_cons pe_int pa_nil)) (pg_name (i := 5) S.nd rfl (Or.inl rfl))
  (pss_cons (ps_set (i := 6) S.nd rfl (Or.inl rfl) (pe_op op_mod (pe_callTy call_int1 (by rfl) T.b.int (by decide +kernel) (pa_cons (pe_op op_add (pe_op op_mul (pv 6) pe_int) pe_int) pa_nil)) pe_int))
  (pss_one (ps_expr (pe_bm PySem.F.plainAttrs_list PySem.F.slot_list_append PySem.F.type_list_append mt_append (pv 1) (pa_cons (pe_op op_fdiv (pv 6) pe_int) pa_nil))))))
  (pss_one (ps_ret (pe_lstRev rfl rfl T.b.list rfl T.b.reversed (pv 1))))))))), ?_⟩
    refine Evl.q_asgL (el_lst ea_nil (by decide)) fun l H1 n1 e1 h1 => ?_
    have hmod : ∀ {σ : L2.St} {H : Hp} {te : TE} {i j : Int} (h : Ev te σ H (.int i)), 0 < j → Ev (tOp (rI (fun _ j => 0 < j) fun i j => .int (i % j)) te (tC (.int j))) σ H (.int (i % j)) := fun h hj => ev_op h ev_c (rv_I hj)
    refine Evl.q_forLn ev_v (Same.seq e1 ha) (fun i σ2 H2 => Ex H H2 ∧ ∃ (ds : List Int) (v2 v3 v4 v5 : Option V), σ2 = [some (.ref a), some (.ref l), v2, v3, v4, v5, none] ∧ H2 l = some (.lst (ds.map V.int)) ∧ ds.length ≤ 62 * i)
      (fun H2 e2 => ⟨Ex.trans e1 e2, [], none, none, none, none, rfl, e2 _ _ h1, Nat.zero_le _⟩) (fun i σ2 H2 _ h => Same.seq h.1 ha) (fun i x σ2 H2 hx h => ?_) (fun σ2 H2 h => ?_)
    · obtain ⟨e2, ds, v2, v3, v4, v5, rfl, hl, hd⟩ := h
      have hil : i < cells.length := by
        have := (List.getElem?_eq_some_iff.mp hx).1
        rwa [List.length_map] at this
      obtain ⟨c, rfl⟩ : ∃ c : Int, x = .int c := by
        rw [List.getElem?_map, List.getElem?_eq_getElem hil] at hx
        exact ⟨_, (Option.some.inj hx).symm⟩
      refine q_asg (ev_abs ev_v) fun H3 e3 => ?_
      generalize (if c < 0 then -c else c) = n0
      refine Evl.q_cut (M := fun σ' H' => Ex H H' ∧ ∃ (ds : List Int) (n4 : Int) (v4 : Option V), σ' = [some (.ref a), some (.ref l), some (.int c), some (.int n4), v4, v5, none] ∧ H' l = some (.lst (ds.map V.int)) ∧ ds.length ≤ 62 * i + 2) ?_ ?_
      · have hl3 := e3 _ _ hl
        have hlt : EvT (tTest (tOp (rI0 fun i j => .bl (decide (i < j))) (tVar 3) (tOp (rI CPow fun i j => .int (i ^ j.toNat)) (tC (.int 10)) (tC (.int 18))))) [some (.ref a), some (.ref l), some (.int c), some (.int n0), v4, v5, none] H3 (decide (n0 < (10 : Int) ^ (18 : Int).toNat)) :=
          et_test (ev_op ev_v (ev_op ev_c ev_c (rv_I ⟨by decide, by decide, by decide⟩)) rv_I0)
        refine Evl.s_when hlt (fun hb H4 e4 => ?_) (fun hb H4 e4 => ?_)
        · have hn0 : n0 < (10 : Int) ^ (18 : Int).toNat := of_decide_eq_true hb
          refine q_asg (hmod (ev_int1 (ev_op (ev_op ev_v ev_c (rv_I (.inr ⟨by decide, by decide⟩))) ev_c rv_I0)) (by decide)) fun H5 e5 => ?_
          refine q_appI ((Ex.trans e4 e5) _ _ hl3) ev_v (hmod (ev_int1 (ev_op (ev_op ev_v ev_c (rv_I (.inr ⟨by decide, by decide⟩))) ev_v rv_I0)) (by decide)) (by omega) fun H6 b6 h6 => ?_
          refine q_appI h6 ev_v (hmod (ev_int1 (ev_op ev_v (ev_op ev_v ev_c (rv_I ⟨by decide, by decide⟩)) rv_I0)) (by decide)) (by rw [List.length_append, List.length_singleton]; omega) fun H7 b7 h7 => ?_
          have nl : H l = none := n1
          refine s_asg ev_c fun H8 e8 => ⟨Ex.trans (ExB.ex (ExB.ex (Ex.trans (Ex.trans e2 e3) (Ex.trans e4 e5)) nl b6) nl b7) e8, _, 0, _, rfl, e8 _ _ h7, by simp only [List.length_append, List.length_singleton]; omega⟩
        · exact ⟨Ex.trans (Ex.trans e2 e3) e4, ds, n0, _, rfl, e4 _ _ hl3, by omega⟩
      · rintro σ' H4 ⟨e4, ds4, n4, v4', rfl, hl4, hd4⟩
        refine Evl.s_forR1 (n := 60) (ea_cons ev_c ea_nil) (by decide) (fun j σ' H' => Ex H H' ∧ ∃ (ds : List Int) (n5 : Int) (v5 : Option V), σ' = [some (.ref a), some (.ref l), some (.int c), some (.int n5), v4', v5, none] ∧ H' l = some (.lst (ds.map V.int)) ∧ ds.length ≤ 62 * i + 2 + j)
          (fun H5 e5 => ⟨Ex.trans e4 e5, ds4, n4, _, rfl, e5 _ _ hl4, hd4⟩) ?_ ?_
        · rintro j σ' H5 hj ⟨e5, ds5, n5, v5', rfl, hl5, hd5⟩
          refine Evl.s_when (et_test (ev_op ev_v ev_c rv_I0)) (fun hb H6 e6 => ?_) (fun hb H6 e6 => ?_)
          · refine q_appI (e6 _ _ hl5) ev_v (hmod (ev_int1 ev_v) (by decide)) (by omega) fun H7 b7 h7 => ?_
            refine s_asg (ev_op ev_v ev_c (rv_I ⟨by decide, by decide⟩)) fun H8 e8 => ⟨Ex.trans (ExB.ex (Ex.trans e5 e6) n1 b7) e8, _, _, _, rfl, e8 _ _ h7, by simp only [List.length_append, List.length_singleton]; omega⟩
          · exact ⟨Ex.trans e5 e6, ds5, n5, _, rfl, e6 _ _ hl5, by omega⟩
        · rintro σ' H5 ⟨e5, ds5, n5, v5', rfl, hl5, hd5⟩
          refine ⟨e5, ds5, _, _, _, _, rfl, hl5, ?_⟩
          have : (60 : Int).toNat = 60 := rfl
          rw [this] at hd5
          omega
    · obtain ⟨e2, ds, v2, v3, v4, v5, rfl, hl, hd⟩ := h
      rw [List.length_map] at hd
      refine q_asg ev_c fun H3 e3 => ?_
      refine Evl.q_cut (M := fun σ' H' => Ex H H' ∧ ∃ (n6 : Int), σ' = [some (.ref a), some (.ref l), v2, v3, v4, v5, some (.int n6)] ∧ H' l = some (.lst (ds.map V.int))) ?_ ?_
      · refine Evl.s_when (b := decide (0 < cells.length)) (Evl.et_is (et_test (ev_op (ev_lenl ev_v (Same.seq (Ex.trans e2 e3) ha)) ev_c rv_I0)) (by rw [List.length_map]; exact decide_eq_decide.mpr (by omega))) (fun hb H4 e4 => ?_) (fun hb H4 e4 => ?_)
        · have h0 : 0 < cells.length := of_decide_eq_true hb
          have hc0 : (cells.map V.int)[0]? = some (.int cells[0]) := by rw [List.getElem?_map, List.getElem?_eq_getElem h0]; rfl
          refine s_asg (ev_op ev_c (ev_abs (ev_ixl (K := K) (xs := cells.map V.int) ev_v (Same.seq (Ex.trans (Ex.trans e2 e3) e4) ha) (ev_c (v := .int ((0 : Nat) : Int))) hc0)) rv_I0) fun H5 e5 => ⟨Ex.trans (Ex.trans (Ex.trans e2 e3) e4) e5, _, rfl, (Ex.trans (Ex.trans e3 e4) e5) _ _ hl⟩
        · exact ⟨Ex.trans (Ex.trans e2 e3) e4, 1, rfl, (Ex.trans e3 e4) _ _ hl⟩
      · rintro σ' H4 ⟨e4, n6, rfl, hl4⟩
        refine Evl.q_forR1 (n := 240) (ea_cons ev_c ea_nil) (by decide) (fun j σ' H' => Ex H H' ∧ ∃ (ds : List Int) (n6 : Int) (v5 : Option V), σ' = [some (.ref a), some (.ref l), v2, v3, v4, v5, some (.int n6)] ∧ H' l = some (.lst (ds.map V.int)) ∧ ds.length ≤ 4000 + j)
          (fun H5 e5 => ⟨Ex.trans e4 e5, ds, n6, _, rfl, e5 _ _ hl4, by omega⟩) ?_ ?_
        · rintro j σ' H5 hj ⟨e5, ds5, n5, v5', rfl, hl5, hd5⟩
          refine q_asg (hmod (ev_int1 (ev_op (ev_op ev_v ev_c (rv_I (.inr ⟨by decide, by decide⟩))) ev_c rv_I0)) (by decide)) fun H6 e6 => ?_
          refine s_appI (e6 _ _ hl5) ev_v (ev_op ev_v ev_c (rv_I ⟨by decide, by decide⟩)) (by omega) fun H7 b7 h7 => ⟨ExB.ex (Ex.trans e5 e6) n1 b7, _, _, _, rfl, h7, by simp only [List.length_append, List.length_singleton]; omega⟩
        · rintro σ' H5 ⟨e5, ds5, n5, v5', rfl, hl5, hd5⟩
          refine s_retX ?_
          refine (ev_v : Ev (tVar 1) [some (.ref a), some (.ref l), v2, v3, v4, v5', some (.int n5)] H5 (.ref l)) H5 (Ex.refl _) _ fun H6 e6 => ?_
          refine ⟨l, _, rfl, sqL_of (e6 _ _ hl5), fun q hq => ?_⟩
          refine k q ds5.reverse _ (Evl.fresh_back (Ex.trans e5 e6) hq) (Ex.trans (Ex.trans e5 e6) (Ex.new hq)) ?_
          rw [List.map_reverse]
          exact upd_same
theorem ok_take (T : Tx K mg aR) (F : DefAt K mg "_law_take" sLawTake) : Cal P w K mg base 1 "_law_take" spTake := by
  have S : FnScope ["_law_draws_here", "_law_bound"] ["_law_draws_here", "_law_bound"] (defScope sLawTake) := ⟨rfl, rfl, rfl, by decide +kernel, rfl, by decide +kernel, by decide +kernel⟩
  refine cal_mk F S (fun _ _ _ _ _ _ us hl => match us, hl with | [_, _], _ => rfl) (fun vs H Q E h => ?_) (fun f cdv A outer s H vs Q E hr h => ?_)
  · obtain ⟨l, ds, b, rfl, _⟩ := h
    rfl
  · obtain ⟨l, ds, b, rfl, hl, hb, k⟩ := h
    refine ⟨_, (pss_cons (ps_if (pt_cmpR op_eq (pe_callB call_len_seq (by rfl) T.b.len (by decide +kernel) (pa_cons (pv 0) pa_nil)) pe_int (nomark _))
  (pss_one (ps_ret pe_int))
  pss_nil)
  (pss_one (ps_ret (pe_op op_mod (pe_callTy call_int1 (by rfl) T.b.int (by decide +kernel) (pa_cons (pe_bm0 PySem.F.plainAttrs_list PySem.F.slot_list_pop PySem.F.type_list_pop mt_pop (pv 0)) pa_nil)) (pv 1))))), ?_⟩
    refine q_when (b := decide (ds.length = 0)) (Evl.et_is (et_eqI (ev_lenl ev_v (sqL_of hl)) ev_c) (by rw [List.length_map]; exact decide_eq_decide.mpr (by omega))) (fun h0 H1 e1 => ?_) (fun h0 H1 e1 => ?_)
    · exact s_ret ev_c fun H2 e2 => k 0 ds H2 (ExB.of (Ex.trans e1 e2)) ((Ex.trans e1 e2) _ _ hl) (Int.le_refl _) hb
    · have hne : 0 < ds.length := by have := of_decide_eq_false h0; omega
      refine s_retX ?_
      have hlast : (ds.map V.int)[(ds.map V.int).length - 1]? = some (.int (ds[ds.length - 1]'(by omega))) := by
        rw [List.length_map, List.getElem?_map, List.getElem?_eq_getElem (by omega)]
        rfl
      dsimp only [tOp, tCB, tCons, tBM0]
      refine (ev_v : Ev (tVar 0) [some (.ref l), some (.int b)] H1 (.ref l)) H1 (Ex.refl _) _ fun H2 e2 => ?_
      have hl2 := (Ex.trans e1 e2) _ _ hl
      refine ⟨.inl ⟨rfl, _, sqL_of hl2⟩, l, _, _, rfl, rfl, hl2, hlast, ?_⟩
      refine .inl ⟨_, rfl, ?_⟩
      refine (ev_v : Ev (tVar 1) [some (.ref l), some (.int b)] _ (.int b)) _ (Ex.refl _) _ fun H3 e3 => ?_
      refine ⟨_, _, rfl, rfl, hb, ?_⟩
      refine k _ ds.dropLast H3 (ExB.trans (ExB.upd (Ex.trans e1 e2)) (ExB.of e3)) ?_ (Int.emod_nonneg _ (by omega)) (Int.emod_lt_of_pos _ hb)
      rw [List.map_dropLast]
      exact e3 _ _ upd_same
end
end HK


set_option maxRecDepth 100000
set_option maxHeartbeats 4000000
/-! L3: _law_fine. -/
namespace HK
open PySem PySem.Spec PyProof.Rows L2
open Evl (Ex Ev EvT EvA EvL EvU RetV ev_var ev_c ev_op ev_un ea_nil ea_cons et_test et_B et_and et_or et_not ev_call ev_cb rv_I0 rv_I rv_eq rv_ixL rv_ixT ev_inU ev_niU eu_tup el_lst ev_len el_list q_when q_if q_asg q_drop s_asg s_ret s_if s_drop)
def ownM (k : Nat) (got : List Int) : List Int := got.filter fun i => decide (i / 100 = (k : Int))
def sentM (st : Stt) (p : Nat) : Nat := ((st.ths.take p).map fun t => t.said.length).sum
structure FineM (st : Stt) (p N : Nat) : Prop where
  ex : ∃ tr left, st.ths[p]? = some tr ∧ st.mem[N + 1]? = some left ∧ ((sentM st p : Nat) : Int) - (tr.said.length : Int) = left ∧ 0 ≤ left ∧ left ≤ (N : Int) ∧ tr.said.length < 1000 ∧ ∀ k, k < p → ∃ trk, st.ths[k]? = some trk ∧ ownM k tr.said = trk.said.take (ownM k tr.said).length ∧ trk.said.length < 1000
def spFine (K : PySem.W.Frag) : Sp := fun vs H Q _ => ∃ (st : Stt) (v : V) (p N : Nat), vs = [v, .int p, .int N] ∧ DV K H st.toD v ∧ FineM st p N ∧ p < 1000 ∧ RetV (.bl true) H Q
abbrev sLawFine : Stmt := top 52
section
variable {K : PySem.W.Frag} {H : Hp}
theorem dp_ints : ∀ xs : List Int, DpAll K H (xs.map V.int) (xs.map PyData.int)
  | [] => .nil
  | x :: r => .cons (.int x) (dp_ints r)
theorem own_map (k : Nat) (got : List Int) : (got.filterMap fun i => if i / 100 = (k : Int) then some (V.int i) else none) = (ownM k got).map V.int := by
  induction got with
  | nil => rfl
  | cons x r ih =>
    unfold ownM at ih ⊢
    by_cases h : x / 100 = (k : Int)
    · simp only [List.filterMap_cons, h, if_true, List.filter_cons, decide_true, List.map_cons, ih]
    · simp only [List.filterMap_cons, h, if_false, List.filter_cons, decide_false, ih, Bool.false_eq_true]
end
section
variable {P : Program} {w : World} {K : PySem.W.Frag} {mg : Str → Option Value} {base : Heap} {aR : Addr}
theorem ok_fine (T : Tx K mg aR) (F : DefAt K mg "_law_fine" sLawFine) : Cal P w K mg base 1 "_law_fine" (spFine K) := by
  have S : FnScope ["_law_state", "_law_senders", "_law_size", "_law_got", "_law_sent", "_law_k", "_law_told", "_law_own", "_law_left", "_law_number"] ["_law_state", "_law_senders", "_law_size"] (defScope sLawFine) := ⟨rfl, rfl, rfl, by decide +kernel, rfl, by decide +kernel, by decide +kernel⟩
  refine cal_mk F S (fun _ _ _ _ _ _ us hl => match us, hl with | [_, _, _], _ => rfl) (fun vs H Q E h => ?_) (fun f cdv A outer s H vs Q E hr h => ?_)
  · obtain ⟨st, v, p, N, rfl, _⟩ := h
    rfl
  · obtain ⟨st, v, p, N, rfl, ds, ⟨tr, left, htr, hmem, hleft, l1, l2, hlt, hall⟩, hp, k⟩ := h
    have hu := hr.units
    refine ⟨_, (pss_cons (ps_set (i := 3) S.nd rfl (Or.inl rfl) (pe_callTy call_list_of (by rfl) T.b.list (by decide +kernel) (pa_cons (pe_ix ix_tup (pe_ix ix_tup (pe_ix ix_tup (pv 0) pe_int (fun _ _ => rfl)) (pv 1) (fun _ _ => rfl)) pe_int (fun _ _ => rfl)) pa_nil)))
  (pss_cons (ps_set (i := 4) S.nd rfl (Or.inl rfl) pe_int)
  (pss_cons (ps_for PassesOwn.never rfl (pi_range1 rfl T.b.range (pa_cons (pv 1) pa_nil)) (pg_name (i := 5) S.nd rfl (Or.inr rfl))
  (pss_cons (ps_set (i := 6) S.nd rfl (Or.inl rfl) (pe_callTy call_list_of (by rfl) T.b.list (by decide +kernel) (pa_cons (pe_ix ix_tup (pe_ix ix_tup (pe_ix ix_tup (pv 0) pe_int (fun _ _ => rfl)) (pv 5) (fun _ _ => rfl)) pe_int (fun _ _ => rfl)) pa_nil)))
  (pss_cons (ps_set (i := 4) S.nd rfl (Or.inl rfl) (pe_op op_add (pv 4) (pe_callB call_len_seq (by rfl) T.b.len (by decide +kernel) (pa_cons (pv 6) pa_nil))))
  (pss_cons (ps_setLc (i := 7) (own := [("_law_number", 9)]) rfl S.nd rfl rfl (sw_true rfl rfl rfl (by decide +kernel)) (pi_list (pv 3)) (blkOk_by (own := [("_law_number", 9)]) (N := ["_law_state", "_law_senders", "_law_size", "_law_got", "_law_sent", "_law_k", "_law_told", "_law_own", "_law_left", "_law_number"]) (sc := defScope sLawFine) (by decide +kernel)) (fun _ _ _ _ _ => (pg_name (i := 9) S.nd rfl (Or.inl rfl))) (fun _ _ _ _ _ => (pts_one (pt_cmpR op_eq (pe_op op_fdiv (pv 9) pe_int) (pv 5) (nomark _)))) (fun _ _ _ _ _ => (pv 9)))
  (pss_one (ps_if (pt_cmpR (op_neD hu) (pv 7) (pe_slice sl_list (pv 6) po_none (po_some (pe_callB call_len_seq (by rfl) T.b.len (by decide +kernel) (pa_cons (pv 7) pa_nil)))) (nomark _))
  (pss_one (ps_ret pe_bl))
  pss_nil))))))
  (pss_cons (ps_set (i := 8) S.nd rfl (Or.inl rfl) (pe_op op_sub (pv 4) (pe_callB call_len_seq (by rfl) T.b.len (by decide +kernel) (pa_cons (pv 3) pa_nil))))
  (pss_one (ps_ret (pe_and (pe_chain op_le op_le pe_int (pv 8) (pv 2)) (pe_one (pe_cmpR op_eq (pe_ix ix_tup (pe_ix ix_tup (pv 0) pe_int (fun _ _ => rfl)) (pe_op op_add (pv 2) pe_int) (fun _ _ => rfl)) (pv 8) (nomark _)))))))))), ?_⟩
    obtain ⟨sa, sm, sth, tvs, rfl, hsa, hsm, hsth, rth⟩ := stt_inv ds
    have hlv : tvs.length = st.ths.length := by rw [← rth.length, List.length_map]
    obtain ⟨vt, hvt, dt⟩ := DVs.map_at rth htr
    obtain ⟨ta, fa, sd, rfl, hta, hfa, hsd⟩ := tr_inv dt
    refine Evl.q_asgL (el_listT (ev_ixt (j := 3) (ev_ixtv (ev_ixt (j := 1) ev_v hsa rfl) hsth ev_v hvt) hta rfl) hsd) fun gl H1 n1 e1 h1 => ?_
    refine q_asg ev_c fun H2 e2 => ?_
    have e02 := Ex.trans e1 e2
    have h2 := e2 _ _ h1
    refine Evl.q_forR1 (n := (p : Int)) (ea_cons ev_v ea_nil) (by omega) (fun i σ' H' => Ex H2 H' ∧ ∃ (v5 v6 v7 : Option V), σ' = [some (.ref sa), some (.int p), some (.int N), some (.ref gl), some (.int ((sentM st i : Nat) : Int)), v5, v6, v7, none, none]) (fun H3 e3 => ⟨e3, none, none, none, rfl⟩) ?_ ?_
    · rintro i σ' H3 hi ⟨e3, v5, v6, v7, rfl⟩
      obtain ⟨trk, hk1, hk2, hk3⟩ := hall i (by omega)
      obtain ⟨vk, hvk, dk⟩ := DVs.map_at rth hk1
      obtain ⟨ka, kf, ks, rfl, hka, _, hks⟩ := tr_inv dk
      have e03 := Ex.trans e02 e3
      refine Evl.q_asgL (el_listT (ev_ixt (j := 3) (ev_ixtv (ev_ixt (j := 1) ev_v (Same.sqT e03 hsa) rfl) (Same.sqT e03 hsth) ev_v hvk) (Same.sqT e03 hka) rfl) (Same.sqT e03 hks)) fun tl H4 n4 e4 h4 => ?_
      refine q_asg (Evl.ev_is (ev_op ev_v (ev_lenl ev_v (sqL_of h4)) rv_I0) (w := .int ((sentM st (i + 1) : Nat) : Int)) ?_) fun H5 e5 => ?_
      · have : sentM st (i + 1) = sentM st i + trk.said.length := by
          unfold sentM
          rw [List.take_add_one, hk1]
          simp
        rw [this, List.length_map, Int.natCast_add]
      have e35 := Ex.trans e4 e5
      have h5 : H5 gl = some (.lst (tr.said.map V.int)) := (Ex.trans e3 e35) _ _ h2
      refine Evl.q_asgL (xs := (ownM i tr.said).map V.int) (el_is (el_lcF (l := tr.said) (g := fun x => if x / 100 = (i : Int) then some (V.int x) else none) ev_v (sqL_of h5) (by rw [List.length_map]) (by rw [List.length_map]; omega) (fun _ => rfl) fun j x y H6 e6 hx hy => ?_) (own_map i tr.said)) fun ol H6 n6 e6 h6 => ?_
      · have hxy : x = .int y := by rw [List.getElem?_map, hy] at hx; exact (Option.some.inj hx).symm
        subst hxy
        refine ⟨Evl.et_is (et_eqI (ev_op ev_v ev_c (rv_I ⟨by decide, by decide⟩)) ev_v) ?_, fun v hv => ?_⟩
        · by_cases h : y / 100 = (i : Int)
          · rw [if_pos h]; exact decide_eq_true h
          · rw [if_neg h]; exact decide_eq_false h
        · split at hv
          · cases hv; exact ev_v
          · cases hv
      have h6t : H6 tl = some (.lst (trk.said.map V.int)) := (Ex.trans e5 e6) _ _ h4
      have hol : (ownM i tr.said).length ≤ tr.said.length := List.length_filter_le _ _
      refine Evl.s_when (b := false) (et_test (Evl.ev_opL ev_v (el_take (n := (ownM i tr.said).length) ev_v (sqL_of h6t) (Evl.ev_is (ev_lenl ev_v (sqL_of h6)) (by rw [List.length_map]))) fun q H7 hq e7 => ?_)) (fun z => nomatch z) fun _ H7 e7 => ?_
      · rw [← List.map_take, ← hk2] at hq
        intro H8 e8 Q q'
        refine ⟨_, _, .lst (sqL_of ((Ex.trans e7 e8) _ _ h6)) (dp_ints _), .lst (sqL_of (e8 _ _ hq)) (dp_ints _), PySem.W.ke_shaped_ints _, PySem.W.ke_shaped_ints _, ?_⟩
        rw [SeqAt.eqv_refl _ (SeqAt.canLay_of_shaped (PySem.W.ke_shaped_ints _))]
        exact q' H8 (Ex.refl _)
      · exact ⟨Ex.trans (Ex.trans e3 e35) (Ex.trans e6 e7), _, _, _, rfl⟩
    · rintro σ' H3 ⟨e3, v5, v6, v7, rfl⟩
      have hpn : (p : Int).toNat = p := Int.toNat_natCast p
      rw [hpn]
      have h3 := e3 _ _ h2
      have e03 := Ex.trans e02 e3
      refine q_asg (v := .int left) (Evl.ev_is (ev_op ev_v (ev_lenl ev_v (sqL_of h3)) rv_I0) (by rw [List.length_map, hleft])) fun H4 e4 => ?_
      have e04 := Ex.trans e03 e4
      have hmv : (st.mem.map V.int)[N + 1]? = some (.int left) := by rw [List.getElem?_map, hmem]; rfl
      refine s_ret (v := .bl true) (Evl.ev_is (Evl.ev_andV (a := true) (b := true) (Evl.ev_is (ev_chain (i := 0) (j := left) (k := N) ev_c ev_v ev_v) ?_) fun _ => Evl.ev_is (ev_eqI (ev_ixtv (j := N + 1) (ev_ixt (j := 0) ev_v (Same.sqT e04 hsa) rfl) (Same.sqT e04 hsm) (Evl.ev_is (ev_op ev_v ev_c rv_I0) (by rfl)) hmv) ev_v) (by simp)) rfl) fun H5 e5 => k H5 (Ex.trans e04 e5)
      rw [decide_eq_true l1, decide_eq_true l2]
      rfl
end
end HK


set_option maxRecDepth 100000
set_option maxHeartbeats 4000000
/-! P1: the plain law: codes, runs. -/
namespace HK
open PySem PySem.Spec PyProof.Rows L2
def sendSt (N e : Int) : List St := [.iff (.bin .same (.cell (.num (N + 1))) (.num N)), .put (.bin .rest (.bin .plus (.cell (.num N)) (.cell (.num (N + 1)))) (.num N)) (.num e), .put (.num (N + 1)) (.bin .plus (.cell (.num (N + 1))) (.num 1))]
def recvSt (N : Int) : List St := [.iff (.bin .same (.cell (.num (N + 1))) (.num 0)), .set (.cell (.cell (.num N))), .put (.num N) (.bin .rest (.bin .plus (.cell (.num N)) (.num 1)) (.num N)), .put (.num (N + 1)) (.bin .minus (.cell (.num (N + 1))) (.num 1))]
def sendBody (N : Int) (its : List Int) : List TSt := its.flatMap fun e => [.blk (sendSt N e), .say (.num e)]
def recvBody (N : Int) : Nat → List TSt
  | 0 => []
  | n + 1 => recvBody N n ++ [.blk (recvSt N), .say .loc]
def sendIns (N : Int) (b : Nat) (e : Int) : List Ins := [.load b 0 (N + 2) (.num (N + 1)), .unl (.bin .same (.slot b) (.num N)) 4, .retry, .jump 4, .load (b + 1) 0 (N + 2) (.num N), .set (b + 2) (.slot (b + 1)), .load (b + 3) 0 (N + 2) (.num (N + 1)),
  .put 0 (N + 2) (.bin .rest (.bin .plus (.slot (b + 2)) (.slot (b + 3))) (.num N)) (.num e), .load (b + 4) 0 (N + 2) (.num (N + 1)), .put 0 (N + 2) (.num (N + 1)) (.bin .plus (.slot (b + 4)) (.num 1))]
def recvIns (N : Int) (b : Nat) : List Ins := [.load b 0 (N + 2) (.num (N + 1)), .unl (.bin .same (.slot b) (.num 0)) 4, .retry, .jump 4, .load (b + 1) 0 (N + 2) (.num N), .load (b + 2) 0 (N + 2) (.slot (b + 1)), .set 0 (.slot (b + 2)), .load (b + 3) 0 (N + 2) (.num N),
  .put 0 (N + 2) (.num N) (.bin .rest (.bin .plus (.slot (b + 3)) (.num 1)) (.num N)), .load (b + 4) 0 (N + 2) (.num (N + 1)), .put 0 (N + 2) (.num (N + 1)) (.bin .minus (.slot (b + 4)) (.num 1))]
def sendCode (N : Int) : Nat → List Int → List TI
  | _, [] => []
  | j, e :: r => .blk (sendIns N (5 * j) e) (3 * j + 2) :: .jump (3 * j + 2) :: .say (.num e) :: sendCode N (j + 1) r
def recvCode (N : Int) : Nat → List TI
  | 0 => []
  | n + 1 => recvCode N n ++ [.blk (recvIns N (1 + 5 * n)) (3 * n + 2), .jump (3 * n + 2), .say (.slot 0)]
theorem go_send (N : Int) (its : List Int) (h : its.length ≤ 3) : Th.go ⟨false, sendBody N its⟩ N = some (sendCode N 0 its, 5 * its.length) := by
  match its, h with
  | [], _ => rfl
  | [a], _ => rfl
  | [a, b], _ => rfl
  | [a, b, c], _ => rfl
theorem go_recv (N : Int) (n : Nat) (h : n ≤ 5) : Th.go ⟨true, recvBody N n⟩ N = some (recvCode N n, 1 + 5 * n) := by
  match n, h with
  | 0, _ => rfl
  | 1, _ => rfl
  | 2, _ => rfl
  | 3, _ => rfl
  | 4, _ => rfl
  | 5, _ => rfl
end HK


set_option maxRecDepth 100000
set_option maxHeartbeats 4000000
/-! P2: the plain law: the blocks' runs. -/
namespace HK
open PySem PySem.Spec PyProof.Rows L2
def memC (N f c : Nat) (x0 x1 : Int) : List Int := if N = 1 then [x0, f, c] else [x0, x1, f, c]
abbrev fr00 (n : Nat) : List V := (List.replicate n (0 : Int)).map V.int
def prS (q : WS × Bool) : List (Key × V) × Bool := (q.1.wr, q.2)
theorem prS_ex {o : Option (WS × Bool)} {w : List (Key × V)} {b : Bool} (h : o.map prS = some (w, b)) : ∃ ws', o = some (ws', b) ∧ ws'.wr = w := by
  cases o with
  | none => cases h
  | some q =>
    obtain ⟨ws, b'⟩ := q
    cases h
    exact ⟨ws, rfl, rfl⟩
def item (k j d : Nat) : Int := 100 * k + 10 * j + d
theorem send_run (x0 x1 : Int) {N j k d f c : Nat} (hN : N = 1 ∨ N = 2) (hj : j < 3) (hk : k < 2) (hd : d < 10) (hf : f < N) (hc : c ≤ N) :
    (c = N → (runM (sendIns N (5 * j) (item k j d)) ((memC N f c x0 x1).map V.int) 30 ⟨0, fr00 (5 * j + 5), [], []⟩).map prS = some ([], false)) ∧
    (c < N → (runM (sendIns N (5 * j) (item k j d)) ((memC N f c x0 x1).map V.int) 30 ⟨0, fr00 (5 * j + 5), [], []⟩).map prS = some ([(Sum.inl (((f + c) % N : Nat) : Int), V.int (item k j d)), (Sum.inl ((N + 1 : Nat) : Int), V.int ((c + 1 : Nat) : Int))], true)) := by
  have hk' : k = 0 ∨ k = 1 := by omega
  have hj' : j = 0 ∨ j = 1 ∨ j = 2 := by omega
  have hd' : d = 0 ∨ d = 1 ∨ d = 2 ∨ d = 3 ∨ d = 4 ∨ d = 5 ∨ d = 6 ∨ d = 7 ∨ d = 8 ∨ d = 9 := by omega
  rcases hN with rfl | rfl
  · obtain rfl : f = 0 := by omega
    have hc' : c = 0 ∨ c = 1 := by omega
    rcases hk' with rfl | rfl <;> rcases hj' with rfl | rfl | rfl <;> rcases hd' with rfl | rfl | rfl | rfl | rfl | rfl | rfl | rfl | rfl | rfl <;> rcases hc' with rfl | rfl <;>
      first
      | exact ⟨fun h => absurd h (by decide), fun _ => by kernel_rfl⟩
      | exact ⟨fun _ => by kernel_rfl, fun h => absurd h (by decide)⟩
  · have hf' : f = 0 ∨ f = 1 := by omega
    have hc' : c = 0 ∨ c = 1 ∨ c = 2 := by omega
    rcases hf' with rfl | rfl <;> rcases hk' with rfl | rfl <;> rcases hj' with rfl | rfl | rfl <;> rcases hd' with rfl | rfl | rfl | rfl | rfl | rfl | rfl | rfl | rfl | rfl <;> rcases hc' with rfl | rfl | rfl <;>
      first
      | exact ⟨fun h => absurd h (by decide), fun _ => by kernel_rfl⟩
      | exact ⟨fun _ => by kernel_rfl, fun h => absurd h (by decide)⟩
def prR (q : WS × Bool) : List (Key × V) × List V × Bool := (q.1.wr, q.1.fr.take 1, q.2)
theorem prR_ex {o : Option (WS × Bool)} {w : List (Key × V)} {t : List V} {b : Bool} (h : o.map prR = some (w, t, b)) : ∃ ws', o = some (ws', b) ∧ ws'.wr = w ∧ ws'.fr.take 1 = t := by
  cases o with
  | none => cases h
  | some q =>
    obtain ⟨ws, b'⟩ := q
    cases h
    exact ⟨ws, rfl, rfl, rfl⟩
theorem recv_run (x x0 x1 : Int) {N j f c : Nat} (hN : N = 1 ∨ N = 2) (hj : j < 5) (hf : f < N) (hc : c ≤ N) :
    (c = 0 → (runM (recvIns N (1 + 5 * j)) ((memC N f c x0 x1).map V.int) 30 ⟨0, .int x :: fr00 (5 * j + 5), [], []⟩).map prS = some ([], false)) ∧
    (0 < c → (runM (recvIns N (1 + 5 * j)) ((memC N f c x0 x1).map V.int) 30 ⟨0, .int x :: fr00 (5 * j + 5), [], []⟩).map prR = some ([(Sum.inl ((N : Nat) : Int), V.int (((f + 1) % N : Nat) : Int)), (Sum.inl ((N + 1 : Nat) : Int), V.int ((c : Int) - 1))], [.int (if f = 0 then x0 else x1)], true)) := by
  have hj' : j = 0 ∨ j = 1 ∨ j = 2 ∨ j = 3 ∨ j = 4 := by omega
  rcases hN with rfl | rfl
  · obtain rfl : f = 0 := by omega
    have hc' : c = 0 ∨ c = 1 := by omega
    rcases hj' with rfl | rfl | rfl | rfl | rfl <;> rcases hc' with rfl | rfl <;>
      first
      | exact ⟨fun h => absurd h (by decide), fun _ => by kernel_rfl⟩
      | exact ⟨fun _ => by kernel_rfl, fun h => absurd h (by decide)⟩
  · have hf' : f = 0 ∨ f = 1 := by omega
    have hc' : c = 0 ∨ c = 1 ∨ c = 2 := by omega
    rcases hf' with rfl | rfl <;> rcases hj' with rfl | rfl | rfl | rfl | rfl <;> rcases hc' with rfl | rfl | rfl <;>
      first
      | exact ⟨fun h => absurd h (by decide), fun _ => by kernel_rfl⟩
      | exact ⟨fun _ => by kernel_rfl, fun h => absurd h (by decide)⟩
end HK


set_option maxRecDepth 100000
set_option maxHeartbeats 4000000
/-! P3: the plain law: the states. -/
namespace HK
open PySem PySem.Spec PyProof.Rows L2
def app {α : Type} (p : Nat) (f : Nat → α) (x : α) : List α := (List.range p).map f ++ [x]
section
variable {α : Type} {p : Nat} {f g : Nat → α} {x y : α}
theorem app_len : (app p f x).length = p + 1 := by simp [app]
theorem app_lt {i : Nat} (h : i < p) : (app p f x)[i]? = some (f i) := by
  unfold app
  rw [List.getElem?_append_left (by simpa using h), List.getElem?_map, List.getElem?_range h]
  rfl
theorem app_eq : (app p f x)[p]? = some x := by
  unfold app
  rw [List.getElem?_append_right (by simp)]
  simp
theorem app_congr (h : ∀ i, i < p → f i = g i) (e : x = y) : app p f x = app p g y := by
  subst e
  unfold app
  refine congrArg (· ++ [x]) (List.map_congr_left fun i hi => h i (List.mem_range.mp hi))
theorem app_set {i : Nat} (hi : i < p) : (app p f x).set i y = app p (fun j => if j = i then y else f j) x := by
  refine List.ext_getElem? fun j => ?_
  rw [List.getElem?_set]
  by_cases hj : j < p
  · rw [app_lt hj]
    by_cases e : i = j
    · subst e
      rw [if_pos rfl, if_pos (by rw [app_len]; omega), app_lt hj]
      simp
    · rw [if_neg e, app_lt hj, if_neg (Ne.symm e)]
  · rw [if_neg (by omega)]
    by_cases e : j = p
    · subst e
      rw [app_eq, app_eq]
    · rw [List.getElem?_eq_none (by rw [app_len]; omega), List.getElem?_eq_none (by rw [app_len]; omega)]
theorem app_setp : (app p f x).set p y = app p f y := by
  unfold app
  rw [List.set_append_right _ _ (by simp)]
  simp
end
/-- a case of the law -/
structure Cfg where
  N : Nat
  p : Nat
  its : Nat → List Int
  asked : Nat
  hN : N = 1 ∨ N = 2
  hp : p = 1 ∨ p = 2
  hm : ∀ k, (its k).length ≤ 3
  ht : (its 0).length + (its 1).length ≤ 4
  hi : ∀ k j e, (its k)[j]? = some e → k < p ∧ ∃ d, d < 10 ∧ e = item k j d
  ha : asked ≤ 5
namespace Cfg
variable (C : Cfg)
def ths : List Th := app C.p (fun k => ⟨false, sendBody C.N (C.its k)⟩) ⟨true, recvBody C.N C.asked⟩
def cs : List (List TI × Nat) := app C.p (fun k => (sendCode C.N 0 (C.its k), 5 * (C.its k).length)) (recvCode C.N C.asked, 1 + 5 * C.asked)
abbrev A := List Nat × Nat
def vals : List Nat → List Int
  | [] => []
  | k :: t => vals t ++ [(C.its k).getD (t.count k) 0]
def buf : List Nat → List Int
  | [] => List.replicate C.N 0
  | k :: t => (buf t).set (t.length % C.N) ((C.its k).getD (t.count k) 0)
def sdr (t : List Nat) (k : Nat) : Tr := ⟨3 * t.count k, List.replicate (5 * (C.its k).length) 0, (C.its k).take (t.count k), decide (t.count k < (C.its k).length)⟩
def rcv (t : List Nat) (r : Nat) : Tr := ⟨3 * r, (if r = 0 then -1 else (C.vals t).getD (r - 1) 0) :: List.replicate (5 * C.asked) 0, (C.vals t).take r, decide (r < C.asked)⟩
def S (x : A) : Stt := ⟨C.buf x.1 ++ [((x.2 % C.N : Nat) : Int), ((x.1.length - x.2 : Nat) : Int)], app C.p (C.sdr x.1) (C.rcv x.1 x.2)⟩
structure Ok (x : A) : Prop where
  mem : ∀ k ∈ x.1, k < C.p
  cnt : ∀ k, x.1.count k ≤ (C.its k).length
  rl : x.2 ≤ x.1.length
  ra : x.2 ≤ C.asked
  full : x.1.length - x.2 ≤ C.N
def words : Nat → List (List Nat)
  | 0 => [[]]
  | n + 1 => (words n).flatMap fun t => [t, 0 :: t, 1 :: t]
theorem words_mem : ∀ (n : Nat) (t : List Nat), t.length ≤ n → (∀ k ∈ t, k < 2) → t ∈ words n
  | 0, t, h, _ => by rw [List.length_eq_zero_iff.mp (Nat.le_zero.mp h)]; exact List.mem_singleton.mpr rfl
  | n + 1, [], _, _ => List.mem_flatMap.mpr ⟨[], words_mem n [] (Nat.zero_le _) (fun k h => by simp at h), List.mem_cons_self⟩
  | n + 1, k :: t, h, hk => by
    refine List.mem_flatMap.mpr ⟨t, words_mem n t (by simpa using h) (fun j hj => hk j (List.mem_cons_of_mem _ hj)), ?_⟩
    have : k < 2 := hk k List.mem_cons_self
    have : k = 0 ∨ k = 1 := by omega
    rcases this with rfl | rfl <;> simp
theorem count2 : ∀ t : List Nat, (∀ k ∈ t, k < 2) → t.count 0 + t.count 1 = t.length
  | [], _ => rfl
  | k :: t, h => by
    have ih := count2 t fun j hj => h j (List.mem_cons_of_mem _ hj)
    have : k < 2 := h k List.mem_cons_self
    have : k = 0 ∨ k = 1 := by omega
    rcases this with rfl | rfl <;> simp <;> omega
noncomputable def all : List A := open Classical in ((words 4).flatMap fun t => (List.range 6).map fun r => (t, r)).filter fun x => decide (C.Ok x)
theorem all_len : C.all.length < 1000 := by
  unfold all
  refine Nat.lt_of_le_of_lt (List.length_filter_le _ _) ?_
  decide +kernel
theorem p2 : C.p ≤ 2 := by rcases C.hp with h | h <;> omega
theorem p1 : 1 ≤ C.p := by rcases C.hp with h | h <;> omega
theorem N1 : 1 ≤ C.N := by rcases C.hN with h | h <;> omega
theorem N2 : C.N ≤ 2 := by rcases C.hN with h | h <;> omega
theorem Ok.len {C : Cfg} {x : A} (h : C.Ok x) : x.1.length ≤ 4 := by
  have h1 := count2 x.1 fun k hk => by have := h.mem k hk; have := C.p2; omega
  have h2 := h.cnt 0
  have h3 := h.cnt 1
  have h4 := C.ht
  omega
open Classical in
theorem all_ok {C : Cfg} {x : A} : x ∈ C.all ↔ C.Ok x := by
  unfold all
  rw [List.mem_filter]
  constructor
  · intro h
    exact of_decide_eq_true h.2
  · intro h
    refine ⟨List.mem_flatMap.mpr ⟨x.1, words_mem 4 x.1 h.len fun k hk => by have := h.mem k hk; have := C.p2; omega, List.mem_map.mpr ⟨x.2, List.mem_range.mpr ?_, rfl⟩⟩, decide_eq_true h⟩
    have := h.ra
    have := C.ha
    omega
theorem its_none {k : Nat} (h : C.p ≤ k) : C.its k = [] := by
  cases e : C.its k with
  | nil => rfl
  | cons a r =>
    have := (C.hi k 0 a (by rw [e]; rfl)).1
    omega
theorem vals_len : ∀ t : List Nat, (C.vals t).length = t.length
  | [] => rfl
  | k :: t => by unfold vals; rw [List.length_append, vals_len t]; rfl
theorem buf_len : ∀ t : List Nat, (C.buf t).length = C.N
  | [] => by unfold buf; exact List.length_replicate
  | k :: t => by unfold buf; rw [List.length_set, buf_len t]
theorem buf_at : ∀ (t : List Nat) (i : Nat), i < t.length → t.length - i ≤ C.N → (C.buf t)[i % C.N]? = (C.vals t)[i]?
  | [], i, h, _ => by simp at h
  | k :: t, i, h, hl => by
    have hN := C.N1
    unfold buf vals
    rw [List.length_cons] at h hl
    have hmod : t.length % C.N < C.N := Nat.mod_lt _ hN
    by_cases e : i = t.length
    · subst e
      rw [List.getElem?_set_self (by rw [buf_len]; exact hmod), List.getElem?_append_right (by rw [vals_len]; exact Nat.le_refl _), vals_len, Nat.sub_self]
      rfl
    · have hi : i < t.length := by omega
      have hne : t.length % C.N ≠ i % C.N := fun z => by
        rcases C.hN with h1 | h1
        · rw [h1] at hl; omega
        · rw [h1] at hl z; omega
      rw [List.getElem?_set_ne hne, buf_at t i hi (by omega), List.getElem?_append_left (by rw [vals_len]; exact hi)]
/-- which may go -/
def r (x : A) (n : Nat) : Bool := if n < C.p then decide (x.1.count n < (C.its n).length ∧ x.1.length - x.2 < C.N) else decide (x.2 < C.asked ∧ x.2 < x.1.length)
def next (x : A) (n : Nat) : A := if n < C.p then (n :: x.1, x.2) else (x.1, x.2 + 1)
theorem ok_first : C.Ok ([], 0) := ⟨fun k h => by simp at h, fun k => Nat.zero_le _, Nat.le_refl _, Nat.zero_le _, Nat.zero_le _⟩
theorem ok_next {C : Cfg} {x : A} (h : C.Ok x) {n : Nat} (hn : n < C.p + 1) (hr : C.r x n = true) : C.Ok (C.next x n) := by
  unfold r at hr
  unfold next
  by_cases hp : n < C.p
  · rw [if_pos hp] at hr ⊢
    obtain ⟨h1, h2⟩ := of_decide_eq_true hr
    refine ⟨fun k hk => ?_, fun k => ?_, ?_, h.ra, ?_⟩
    · rcases List.mem_cons.mp hk with rfl | hk
      · exact hp
      · exact h.mem k hk
    · rw [List.count_cons]
      have := h.cnt k
      split
      · rename_i e
        have : n = k := by simpa using e
        subst this
        omega
      · omega
    · have := h.rl
      show x.2 ≤ (n :: x.1).length
      rw [List.length_cons]; omega
    · show (n :: x.1).length - x.2 ≤ C.N
      have := h.rl
      rw [List.length_cons]; omega
  · rw [if_neg hp] at hr ⊢
    obtain ⟨h1, h2⟩ := of_decide_eq_true hr
    refine ⟨h.mem, h.cnt, h2, h1, ?_⟩
    have := h.full
    show x.1.length - (x.2 + 1) ≤ C.N
    omega
end Cfg
end HK


set_option maxRecDepth 100000
set_option maxHeartbeats 4000000
/-! P4: the plain law: the steps. -/
namespace HK
open PySem PySem.Spec PyProof.Rows L2
theorem sendCode_len (N : Int) : ∀ (its : List Int) (j : Nat), (sendCode N j its).length = 3 * its.length
  | [], j => rfl
  | e :: r, j => by
    unfold sendCode
    simp only [List.length_cons, sendCode_len N r (j + 1)]
    omega
theorem sendCode_at (N : Int) : ∀ (its : List Int) (j c : Nat) (e : Int), its[c]? = some e → (sendCode N j its)[3 * c]? = some (.blk (sendIns N (5 * (j + c)) e) (3 * (j + c) + 2)) ∧ (sendCode N j its)[3 * c + 1]? = some (.jump (3 * (j + c) + 2)) ∧ (sendCode N j its)[3 * c + 2]? = some (.say (.num e))
  | [], j, c, e, h => by simp at h
  | a :: r, j, 0, e, h => by
    cases h
    exact ⟨rfl, rfl, rfl⟩
  | a :: r, j, c + 1, e, h => by
    have ih := sendCode_at N r (j + 1) c e (by simpa using h)
    have e1 : j + 1 + c = j + (c + 1) := by omega
    rw [e1] at ih
    unfold sendCode
    have e2 : 3 * (c + 1) = 3 * c + 3 := by omega
    rw [e2]
    exact ⟨by simpa using ih.1, by simpa using ih.2.1, by simpa using ih.2.2⟩
theorem recvCode_len (N : Int) : ∀ n : Nat, (recvCode N n).length = 3 * n
  | 0 => rfl
  | n + 1 => by
    unfold recvCode
    rw [List.length_append, recvCode_len N n]
    simp only [List.length_cons, List.length_nil]
    omega
theorem recvCode_at (N : Int) : ∀ (n c : Nat), c < n → (recvCode N n)[3 * c]? = some (.blk (recvIns N (1 + 5 * c)) (3 * c + 2)) ∧ (recvCode N n)[3 * c + 1]? = some (.jump (3 * c + 2)) ∧ (recvCode N n)[3 * c + 2]? = some (.say (.slot 0))
  | 0, c, h => absurd h (Nat.not_lt_zero _)
  | n + 1, c, h => by
    unfold recvCode
    by_cases e : c = n
    · subst e
      rw [List.getElem?_append_right (by rw [recvCode_len]; omega), List.getElem?_append_right (by rw [recvCode_len]; omega), List.getElem?_append_right (by rw [recvCode_len]; omega), recvCode_len]
      have e1 : 3 * c - 3 * c = 0 := by omega
      have e2 : 3 * c + 1 - 3 * c = 1 := by omega
      have e3 : 3 * c + 2 - 3 * c = 2 := by omega
      rw [e1, e2, e3]
      exact ⟨rfl, rfl, rfl⟩
    · have ih := recvCode_at N n c (by omega)
      rw [List.getElem?_append_left (by rw [recvCode_len]; omega), List.getElem?_append_left (by rw [recvCode_len]; omega), List.getElem?_append_left (by rw [recvCode_len]; omega)]
      exact ih
/-- jump, say, then the end or the next block -/
theorem go3 {code : List TI} {fr said : List Int} {c : Nat} {f : Fx} {z : Int} (h1 : code[3 * c + 1]? = some (.jump (3 * c + 2))) (h2 : code[3 * c + 2]? = some (.say f)) (h3 : code[3 * (c + 1)]? = none ∨ ∃ is t, code[3 * (c + 1)]? = some (.blk is t))
    (hz : evalF (fr.map V.int) f = some z) (hs : said.length < 1000) (hd : f.dep ≤ 2) : goM code fr 3 (3 * c + 1) said = some (3 * (c + 1), said ++ [z]) := by
  have e3 : 3 * c + 2 + 1 = 3 * (c + 1) := by omega
  unfold goM
  rw [h1]
  dsimp only
  unfold goM
  rw [h2]
  dsimp only
  rw [hz]
  dsimp only
  rw [if_pos ⟨hs, hd⟩, e3]
  unfold goM
  rcases h3 with h3 | ⟨is, t, h3⟩
  · rw [h3]
  · rw [h3]
theorem chk_item {k j d : Nat} (hk : k < 2) (hj : j < 3) (hd : d < 10) : chk (item k j d) = some (item k j d) := by
  unfold chk
  rw [if_pos]
  unfold item
  omega
theorem slots_send (N : Int) (b : Nat) (e : Int) : slots (sendIns N b e) = [b, b + 1, b + 2, b + 3, b + 4] := rfl
theorem slots_recv (N : Int) (b : Nat) : slots (recvIns N b) = [b, b + 1, b + 2, 0, b + 3, b + 4] := rfl
namespace Cfg
variable (C : Cfg)
theorem ths_lt {k : Nat} (h : k < C.p) : C.ths[k]? = some ⟨false, sendBody C.N (C.its k)⟩ := app_lt h
theorem ths_eq : C.ths[C.p]? = some ⟨true, recvBody C.N C.asked⟩ := app_eq
theorem cs_lt {k : Nat} (h : k < C.p) : C.cs[k]? = some (sendCode C.N 0 (C.its k), 5 * (C.its k).length) := app_lt h
theorem cs_eq : C.cs[C.p]? = some (recvCode C.N C.asked, 1 + 5 * C.asked) := app_eq
theorem S_lt (x : A) {k : Nat} (h : k < C.p) : (C.S x).ths[k]? = some (C.sdr x.1 k) := app_lt h
theorem S_eq (x : A) : (C.S x).ths[C.p]? = some (C.rcv x.1 x.2) := app_eq
theorem mem_c (x : A) : ∃ x0 x1, (C.S x).mem = memC C.N (x.2 % C.N) (x.1.length - x.2) x0 x1 ∧ (if x.2 % C.N = 0 then x0 else x1) = (C.buf x.1).getD (x.2 % C.N) 0 := by
  have hl := C.buf_len x.1
  have hmod : x.2 % C.N < C.N := Nat.mod_lt _ C.N1
  rcases C.hN with h | h
  · rw [h] at hl hmod
    have h0 : x.2 % C.N = 0 := by rw [h]; omega
    match hb : C.buf x.1, hl with
    | [a], _ =>
      refine ⟨a, 0, ?_, by rw [if_pos h0, h0]; rfl⟩
      show C.buf x.1 ++ _ = memC _ _ _ _ _
      unfold memC
      rw [if_pos h, hb]
      rfl
  · rw [h] at hl hmod
    match hb : C.buf x.1, hl with
    | [a, b], _ =>
      refine ⟨a, b, ?_, ?_⟩
      · show C.buf x.1 ++ _ = memC _ _ _ _ _
        unfold memC
        rw [if_neg (by omega), hb]
        rfl
      · rw [h]
        have : x.2 % 2 = 0 ∨ x.2 % 2 = 1 := by omega
        rcases this with h0 | h0 <;> rw [h0] <;> rfl
theorem item_of {k j : Nat} {e : Int} (h : (C.its k)[j]? = some e) : ∃ d, d < 10 ∧ e = item k j d ∧ k < 2 ∧ j < 3 ∧ k < C.p := by
  obtain ⟨h1, d, h2, h3⟩ := C.hi k j e h
  have := C.p2
  have := C.hm k
  have := (List.getElem?_eq_some_iff.mp h).1
  exact ⟨d, h2, h3, by omega, by omega, h1⟩
theorem sender_at {C : Cfg} {x : A} (hx : C.Ok x) {k : Nat} (hk : k < C.p) (hc : x.1.count k < (C.its k).length) :
    ∃ ws' b e, (C.its k)[x.1.count k]? = some e ∧ AtBlk C.ths C.cs (C.S x) k ⟨false, sendBody C.N (C.its k)⟩ (sendCode C.N 0 (C.its k)) (C.sdr x.1 k) (sendIns C.N (5 * x.1.count k) e) (5 * x.1.count k + 4) 30 ws' b ∧
      b = decide (x.1.length - x.2 < C.N) ∧ (b = true → ws'.wr = [(Sum.inl (((x.2 % C.N + (x.1.length - x.2)) % C.N : Nat) : Int), V.int e), (Sum.inl ((C.N + 1 : Nat) : Int), V.int ((x.1.length - x.2 + 1 : Nat) : Int))]) := by
  have he : (C.its k)[x.1.count k]? = some (C.its k)[x.1.count k] := List.getElem?_eq_getElem hc
  obtain ⟨d, hd, hed, hk2, hj3, _⟩ := C.item_of he
  obtain ⟨x0, x1, hmem, _⟩ := C.mem_c x
  have hrun := send_run x0 x1 C.hN hj3 hk2 hd (Nat.mod_lt x.2 C.N1) hx.full
  rw [← hed] at hrun
  have hfr : (frW (nmV false).length (5 * x.1.count k + 4) (C.sdr x.1 k).fr).map V.int = fr00 (5 * x.1.count k + 5) := by
    unfold frW
    have e1 : (nmV false).length = 0 := rfl
    rw [e1, List.take_zero, List.nil_append]
    have e2 : 1 + (5 * x.1.count k + 4) - 0 = 5 * x.1.count k + 5 := by omega
    rw [e2]
  have mk : ∀ ws' b, runM (sendIns C.N (5 * x.1.count k) (C.its k)[x.1.count k]) ((memC C.N (x.2 % C.N) (x.1.length - x.2) x0 x1).map V.int) 30 ⟨0, fr00 (5 * x.1.count k + 5), [], []⟩ = some (ws', b) →
      AtBlk C.ths C.cs (C.S x) k ⟨false, sendBody C.N (C.its k)⟩ (sendCode C.N 0 (C.its k)) (C.sdr x.1 k) (sendIns C.N (5 * x.1.count k) (C.its k)[x.1.count k]) (5 * x.1.count k + 4) 30 ws' b := fun ws' b h => by
    refine ⟨C.ths_lt hk, ⟨_, C.cs_lt hk⟩, C.S_lt x hk, decide_eq_true hc, ⟨3 * x.1.count k + 2, ?_⟩, ?_, by omega, by show 10 < 1000; decide, ?_, ?_⟩
    · have := (sendCode_at C.N (C.its k) 0 (x.1.count k) _ he).1
      rwa [Nat.zero_add] at this
    · rw [slots_send]
      refine ⟨by simp, fun y hy => ?_⟩
      have e1 : (nmV false).length = 0 := rfl
      rw [e1] at hy
      simp only [List.mem_cons, List.not_mem_nil, or_false] at hy
      omega
    · intro i hi
      unfold sendIns at hi
      simp only [List.mem_cons, List.not_mem_nil, or_false] at hi
      rcases hi with rfl | rfl | rfl | rfl | rfl | rfl | rfl | rfl | rfl | rfl <;> exact Nat.le_of_ble_eq_true rfl
    · rw [hmem, hfr]
      exact h
  by_cases hl : x.1.length - x.2 < C.N
  · obtain ⟨ws', h1, h2⟩ := prS_ex (hrun.2 hl)
    exact ⟨ws', true, _, he, mk ws' true h1, (decide_eq_true hl).symm, fun _ => h2⟩
  · have := hx.full
    obtain ⟨ws', h1, h2⟩ := prS_ex (hrun.1 (by omega))
    exact ⟨ws', false, _, he, mk ws' false h1, (decide_eq_false hl).symm, fun z => (nomatch z)⟩
theorem recv_at {C : Cfg} {x : A} (hx : C.Ok x) (hr : x.2 < C.asked) :
    ∃ ws' b, AtBlk C.ths C.cs (C.S x) C.p ⟨true, recvBody C.N C.asked⟩ (recvCode C.N C.asked) (C.rcv x.1 x.2) (recvIns C.N (1 + 5 * x.2)) (1 + 5 * x.2 + 4) 30 ws' b ∧
      b = decide (x.2 < x.1.length) ∧ (b = true → ws'.wr = [(Sum.inl ((C.N : Nat) : Int), V.int (((x.2 % C.N + 1) % C.N : Nat) : Int)), (Sum.inl ((C.N + 1 : Nat) : Int), V.int ((x.1.length - x.2 : Nat) - 1 : Int))] ∧ ws'.fr.take 1 = [V.int ((C.vals x.1).getD x.2 0)]) := by
  obtain ⟨x0, x1, hmem, hx01⟩ := C.mem_c x
  have ha := C.ha
  have hrun := recv_run (if x.2 = 0 then -1 else (C.vals x.1).getD (x.2 - 1) 0) x0 x1 C.hN (show x.2 < 5 by omega) (Nat.mod_lt x.2 C.N1) hx.full
  have hfr : (frW (nmV true).length (1 + 5 * x.2 + 4) (C.rcv x.1 x.2).fr).map V.int = .int (if x.2 = 0 then -1 else (C.vals x.1).getD (x.2 - 1) 0) :: fr00 (5 * x.2 + 5) := by
    unfold frW
    have e1 : (nmV true).length = 1 := rfl
    have e2 : 1 + (1 + 5 * x.2 + 4) - 1 = 5 * x.2 + 5 := by omega
    rw [e1, e2]
    rfl
  have mk : ∀ ws' b, runM (recvIns C.N (1 + 5 * x.2)) ((memC C.N (x.2 % C.N) (x.1.length - x.2) x0 x1).map V.int) 30 ⟨0, .int (if x.2 = 0 then -1 else (C.vals x.1).getD (x.2 - 1) 0) :: fr00 (5 * x.2 + 5), [], []⟩ = some (ws', b) →
      AtBlk C.ths C.cs (C.S x) C.p ⟨true, recvBody C.N C.asked⟩ (recvCode C.N C.asked) (C.rcv x.1 x.2) (recvIns C.N (1 + 5 * x.2)) (1 + 5 * x.2 + 4) 30 ws' b := fun ws' b h => by
    refine ⟨C.ths_eq, ⟨_, C.cs_eq⟩, C.S_eq x, decide_eq_true hr, ⟨3 * x.2 + 2, (recvCode_at C.N C.asked x.2 hr).1⟩, ?_, by omega, by show 11 < 1000; decide, ?_, ?_⟩
    · rw [slots_recv]
      refine ⟨by simp, fun y hy => ?_⟩
      have e1 : (nmV true).length = 1 := rfl
      rw [e1] at hy
      simp only [List.mem_cons, List.not_mem_nil, or_false] at hy
      omega
    · intro i hi
      unfold recvIns at hi
      simp only [List.mem_cons, List.not_mem_nil, or_false] at hi
      rcases hi with rfl | rfl | rfl | rfl | rfl | rfl | rfl | rfl | rfl | rfl | rfl <;> exact Nat.le_of_ble_eq_true rfl
    · rw [hmem, hfr]
      exact h
  by_cases hl : x.2 < x.1.length
  · obtain ⟨ws', h1, h2, h3⟩ := prR_ex (hrun.2 (by omega))
    refine ⟨ws', true, mk ws' true h1, (decide_eq_true hl).symm, fun _ => ⟨h2, ?_⟩⟩
    rw [h3, hx01]
    have hb := C.buf_at x.1 x.2 hl hx.full
    rw [List.getD_eq_getElem?_getD, List.getD_eq_getElem?_getD, hb]
  · have := hx.rl
    obtain ⟨ws', h1, h2⟩ := prS_ex (hrun.1 (by omega))
    exact ⟨ws', false, mk ws' false h1, (decide_eq_false hl).symm, fun z => (nomatch z)⟩
theorem case_ok {C : Cfg} {x : A} (hx : C.Ok x) {n : Nat} (hn : n < C.p + 1) : CaseM C.ths C.cs (C.S x) n (C.r x n) := by
  unfold r
  by_cases hp : n < C.p
  · rw [if_pos hp]
    by_cases hc : x.1.count n < (C.its n).length
    · obtain ⟨ws', b, e, _, hA, hb, _⟩ := sender_at hx hp hc
      have : decide (x.1.count n < (C.its n).length ∧ x.1.length - x.2 < C.N) = b := by
        rw [hb]
        exact decide_eq_decide.mpr ⟨fun h => h.2, fun h => ⟨hc, h⟩⟩
      rw [this]
      exact .inr ⟨_, _, _, _, _, _, _, hA⟩
    · rw [decide_eq_false fun h => hc h.1]
      exact .inl ⟨rfl, _, C.S_lt x hp, decide_eq_false hc⟩
  · obtain rfl : n = C.p := by omega
    rw [if_neg hp]
    by_cases hc : x.2 < C.asked
    · obtain ⟨ws', b, hA, hb, _⟩ := recv_at hx hc
      have : decide (x.2 < C.asked ∧ x.2 < x.1.length) = b := by
        rw [hb]
        exact decide_eq_decide.mpr ⟨fun h => h.2, fun h => ⟨hc, h⟩⟩
      rw [this]
      exact .inr ⟨_, _, _, _, _, _, _, hA⟩
    · rw [decide_eq_false fun h => hc h.1]
      exact .inl ⟨rfl, _, C.S_eq x, decide_eq_false hc⟩
end Cfg
end HK


set_option maxRecDepth 100000
set_option maxHeartbeats 4000000
/-! P5: the plain law: the system, what each state keeps. -/
namespace HK
open PySem PySem.Spec PyProof.Rows L2
theorem getD_take {l : List Int} {i n : Nat} (h : i < n) : (l.take n).getD i 0 = l.getD i 0 := by
  rw [List.getD_eq_getElem?_getD, List.getD_eq_getElem?_getD, List.getElem?_take, if_pos h]
theorem take_snoc {l : List Int} {n : Nat} (h : n < l.length) : l.take (n + 1) = l.take n ++ [l.getD n 0] := by
  rw [List.take_add_one, List.getD_eq_getElem?_getD, List.getElem?_eq_getElem h]
  rfl
namespace Cfg
variable {C : Cfg}
theorem step_send {x : A} (hx : C.Ok x) {k : Nat} (hk : k < C.p) (hr : C.r x k = true) : ∃ mem' tr', BD C.ths C.cs (C.S x) k mem' tr' ∧ C.S (C.next x k) = ⟨mem', (C.S x).ths.set k tr'⟩ := by
  have hr' := hr
  unfold r at hr'
  rw [if_pos hk] at hr'
  obtain ⟨hc, hl⟩ := of_decide_eq_true hr'
  obtain ⟨ws', b, e, he, hA, hb, hw⟩ := sender_at hx hk hc
  rw [decide_eq_true hl] at hb
  subst hb
  obtain ⟨d, hd, hed, hk2, hj3, _⟩ := C.item_of he
  have hN := C.N1
  have hN2 := C.N2
  have hm := C.hm k
  have hlen := hx.len
  have hrl := hx.rl
  have hwr := hw rfl
  have hmod : (x.2 % C.N + (x.1.length - x.2)) % C.N = x.1.length % C.N := by
    rw [Nat.mod_add_mod]
    congr 1
    omega
  rw [hmod] at hwr
  have hmodlt : x.1.length % C.N < C.N := Nat.mod_lt _ hN
  have hml : (C.S x).mem.length = C.N + 2 := by
    show (C.buf x.1 ++ _).length = _
    rw [List.length_append, C.buf_len]
    rfl
  have hsc := sendCode_at C.N (C.its k) 0 (x.1.count k) e he
  rw [Nat.zero_add] at hsc
  refine ⟨memW (C.S x).mem [(x.1.length % C.N, e), (C.N + 1, ((x.1.length - x.2 + 1 : Nat) : Int))], ⟨3 * (x.1.count k + 1), List.replicate (5 * (C.its k).length) 0, (C.its k).take (x.1.count k) ++ [e], decide (3 * (x.1.count k + 1) < (sendCode C.N 0 (C.its k)).length)⟩, ?_, ?_⟩
  · refine ⟨_, _, _, _, _, _, 3, ws', [(x.1.length % C.N, e), (C.N + 1, ((x.1.length - x.2 + 1 : Nat) : Int))], [], 3 * (x.1.count k + 1), (C.its k).take (x.1.count k) ++ [e], hA, hwr, ?_, ?_, ?_, ?_, Nat.zero_le _, by decide, ?_, by show 2 < 1000; decide, ?_, rfl, rfl⟩
    · intro cx hcx
      simp only [List.mem_cons, List.not_mem_nil, or_false] at hcx
      rcases hcx with rfl | rfl
      · show x.1.length % C.N < _
        rw [hml]; omega
      · show C.N + 1 < _
        rw [hml]; omega
    · show ws'.fr.take 0 = []
      exact List.take_zero
    · refine go3 (c := x.1.count k) hsc.2.1 hsc.2.2 ?_ ?_ ?_ (Nat.zero_le _)
      · by_cases h : x.1.count k + 1 < (C.its k).length
        · have := (sendCode_at C.N (C.its k) 0 (x.1.count k + 1) _ (List.getElem?_eq_getElem h)).1
          exact .inr ⟨_, _, this⟩
        · exact .inl (List.getElem?_eq_none (by rw [sendCode_len]; omega))
      · rw [hed]
        exact chk_item hk2 hj3 hd
      · show ((C.its k).take (x.1.count k)).length < 1000
        rw [List.length_take]; omega
    · show (List.replicate (5 * (C.its k).length) (0 : Int)).length < 1000
      rw [List.length_replicate]; omega
    · rw [hml]; omega
    · show ((C.its k).take (x.1.count k)).length < 1000
      rw [List.length_take]; omega
  · unfold next
    rw [if_pos hk]
    have hgd : (C.its k).getD (x.1.count k) 0 = e := by rw [List.getD_eq_getElem?_getD, he]; rfl
    have e1 : C.buf (k :: x.1) ++ [((x.2 % C.N : Nat) : Int), (((k :: x.1).length - x.2 : Nat) : Int)] = memW (C.S x).mem [(x.1.length % C.N, e), (C.N + 1, ((x.1.length - x.2 + 1 : Nat) : Int))] := by
      show _ = (((C.buf x.1 ++ [((x.2 % C.N : Nat) : Int), ((x.1.length - x.2 : Nat) : Int)]).set (x.1.length % C.N) e).set (C.N + 1) ((x.1.length - x.2 + 1 : Nat) : Int))
      rw [List.set_append_left _ _ (by rw [C.buf_len]; exact hmodlt), List.set_append_right _ _ (by rw [List.length_set, C.buf_len]; omega), List.length_set, C.buf_len]
      have e2 : C.N + 1 - C.N = 1 := by omega
      have e3 : (k :: x.1).length - x.2 = x.1.length - x.2 + 1 := by rw [List.length_cons]; omega
      rw [e2, e3]
      conv => lhs; unfold buf
      rw [hgd]
      rfl
    unfold S
    dsimp only
    rw [e1]
    refine congrArg (Stt.mk _) ?_
    rw [app_set hk]
    refine app_congr (fun j hj => ?_) ?_
    · by_cases hjk : j = k
      · subst hjk
        rw [if_pos rfl]
        unfold sdr
        rw [List.count_cons_self, sendCode_len, take_snoc hc, hgd]
        congr 1
        exact decide_eq_decide.mpr (by omega)
      · rw [if_neg hjk]
        unfold sdr
        rw [List.count_cons_of_ne (Ne.symm hjk)]
    · unfold rcv
      have hv : C.vals (k :: x.1) = C.vals x.1 ++ [(C.its k).getD (x.1.count k) 0] := rfl
      have hvl := C.vals_len x.1
      rw [hv, List.take_append_of_le_length (by omega)]
      congr 1
      by_cases h0 : x.2 = 0
      · rw [if_pos h0, if_pos h0]
      · rw [if_neg h0, if_neg h0, List.getD_eq_getElem?_getD, List.getElem?_append_left (by omega), ← List.getD_eq_getElem?_getD]
theorem step_recv {x : A} (hx : C.Ok x) (hr : C.r x C.p = true) : ∃ mem' tr', BD C.ths C.cs (C.S x) C.p mem' tr' ∧ C.S (C.next x C.p) = ⟨mem', (C.S x).ths.set C.p tr'⟩ := by
  have hr' := hr
  unfold r at hr'
  rw [if_neg (Nat.lt_irrefl _)] at hr'
  obtain ⟨ha, hl⟩ := of_decide_eq_true hr'
  obtain ⟨ws', b, hA, hb, hw⟩ := recv_at hx ha
  rw [decide_eq_true hl] at hb
  subst hb
  obtain ⟨hwr, hfr⟩ := hw rfl
  have hN := C.N1
  have hN2 := C.N2
  have hA5 := C.ha
  have hlen := hx.len
  have hvl := C.vals_len x.1
  have hml : (C.S x).mem.length = C.N + 2 := by
    show (C.buf x.1 ++ _).length = _
    rw [List.length_append, C.buf_len]
    rfl
  have hrc := recvCode_at C.N C.asked x.2 ha
  have e0 : ((x.1.length - x.2 : Nat) : Int) - 1 = ((x.1.length - (x.2 + 1) : Nat) : Int) := by omega
  have e1 : (x.2 % C.N + 1) % C.N = (x.2 + 1) % C.N := Nat.mod_add_mod _ _ _
  rw [e0, e1] at hwr
  refine ⟨memW (C.S x).mem [(C.N, (((x.2 + 1) % C.N : Nat) : Int)), (C.N + 1, ((x.1.length - (x.2 + 1) : Nat) : Int))], ⟨3 * (x.2 + 1), [(C.vals x.1).getD x.2 0] ++ (C.rcv x.1 x.2).fr.drop 1, (C.vals x.1).take x.2 ++ [(C.vals x.1).getD x.2 0], decide (3 * (x.2 + 1) < (recvCode C.N C.asked).length)⟩, ?_, ?_⟩
  · refine ⟨_, _, _, _, _, _, 3, ws', [(C.N, (((x.2 + 1) % C.N : Nat) : Int)), (C.N + 1, ((x.1.length - (x.2 + 1) : Nat) : Int))], [(C.vals x.1).getD x.2 0], 3 * (x.2 + 1), (C.vals x.1).take x.2 ++ [(C.vals x.1).getD x.2 0], hA, hwr, ?_, hfr, ?_, ?_, ?_, by show 1 < 1000; decide, ?_, by show 2 < 1000; decide, ?_, rfl, rfl⟩
    · intro cx hcx
      simp only [List.mem_cons, List.not_mem_nil, or_false] at hcx
      rcases hcx with rfl | rfl
      · show C.N < _
        rw [hml]; omega
      · show C.N + 1 < _
        rw [hml]; omega
    · refine go3 (c := x.2) hrc.2.1 hrc.2.2 ?_ rfl ?_ (Nat.zero_le _)
      · by_cases h : x.2 + 1 < C.asked
        · exact .inr ⟨_, _, (recvCode_at C.N C.asked (x.2 + 1) h).1⟩
        · exact .inl (List.getElem?_eq_none (by rw [recvCode_len]; omega))
      · show ((C.vals x.1).take x.2).length < 1000
        rw [List.length_take]; omega
    · show (_ :: List.replicate (5 * C.asked) (0 : Int)).length < 1000
      rw [List.length_cons, List.length_replicate]; omega
    · show 1 ≤ (_ :: List.replicate (5 * C.asked) (0 : Int)).length
      rw [List.length_cons]; omega
    · rw [hml]; omega
    · show ((C.vals x.1).take x.2).length < 1000
      rw [List.length_take]; omega
  · unfold next
    rw [if_neg (Nat.lt_irrefl _)]
    have e2 : C.buf x.1 ++ [(((x.2 + 1) % C.N : Nat) : Int), ((x.1.length - (x.2 + 1) : Nat) : Int)] = memW (C.S x).mem [(C.N, (((x.2 + 1) % C.N : Nat) : Int)), (C.N + 1, ((x.1.length - (x.2 + 1) : Nat) : Int))] := by
      show _ = (((C.buf x.1 ++ [((x.2 % C.N : Nat) : Int), ((x.1.length - x.2 : Nat) : Int)]).set C.N (((x.2 + 1) % C.N : Nat) : Int)).set (C.N + 1) ((x.1.length - (x.2 + 1) : Nat) : Int))
      rw [List.set_append_right _ _ (by rw [C.buf_len]; omega), C.buf_len, List.set_append_right _ _ (by rw [C.buf_len]; omega), C.buf_len]
      have e3 : C.N + 1 - C.N = 1 := by omega
      rw [e3, Nat.sub_self]
      rfl
    unfold S
    dsimp only
    rw [e2]
    refine congrArg (Stt.mk _) ?_
    rw [app_setp]
    refine app_congr (fun j hj => rfl) ?_
    unfold rcv
    rw [if_neg (by omega), take_snoc (by omega), recvCode_len]
    congr 1
    exact decide_eq_decide.mpr (by omega)
theorem go_all : GoAll C.N C.ths C.cs := by
  refine ⟨by unfold cs ths; rw [app_len, app_len], fun i th h => ?_⟩
  have hil : i < C.p + 1 := by
    have := (List.getElem?_eq_some_iff.mp h).1
    unfold ths at this
    rwa [app_len] at this
  by_cases hi : i < C.p
  · rw [C.ths_lt hi] at h
    cases h
    refine ⟨?_, _, C.cs_lt hi, go_send _ _ (C.hm i)⟩
    intro s hs
    obtain ⟨e, _, hs⟩ := List.mem_flatMap.mp hs
    simp only [List.mem_cons, List.not_mem_nil, or_false] at hs
    rcases hs with rfl | rfl
    · intro s hs
      unfold sendSt at hs
      simp only [List.mem_cons, List.not_mem_nil, or_false] at hs
      rcases hs with rfl | rfl | rfl <;> exact Nat.le_of_ble_eq_true rfl
    · exact Nat.le_of_ble_eq_true rfl
  · obtain rfl : i = C.p := by omega
    rw [C.ths_eq] at h
    cases h
    refine ⟨?_, _, C.cs_eq, go_recv _ _ C.ha⟩
    have : ∀ n, ∀ s ∈ recvBody (C.N : Int) n, s.ok := fun n => by
      induction n with
      | zero => intro s hs; unfold recvBody at hs; simp at hs
      | succ n ih =>
        intro s hs
        unfold recvBody at hs
        rcases List.mem_append.mp hs with hs | hs
        · exact ih s hs
        · simp only [List.mem_cons, List.not_mem_nil, or_false] at hs
          rcases hs with rfl | rfl
          · intro s hs
            unfold recvSt at hs
            simp only [List.mem_cons, List.not_mem_nil, or_false] at hs
            rcases hs with rfl | rfl | rfl | rfl <;> exact Nat.le_of_ble_eq_true rfl
          · exact Nat.le_of_ble_eq_true rfl
    exact this C.asked
theorem goM_stop {code : List TI} {fr : List Int} (h : code[0]? = none ∨ ∃ is t, code[0]? = some (.blk is t)) : goM code fr 1 0 [] = some (0, []) := by
  unfold goM
  rcases h with h | ⟨is, t, h⟩ <;> rw [h]
theorem go_first : GoFirst C.ths C.cs (C.S ([], 0)).ths := by
  have hA5 := C.ha
  refine ⟨by show (app _ _ _).length = (app _ _ _).length; rw [app_len, app_len], by unfold cs ths; rw [app_len, app_len], fun i th code k tr h1 h2 h3 => ?_⟩
  have hil : i < C.p + 1 := by
    have := (List.getElem?_eq_some_iff.mp h1).1
    unfold ths at this
    rwa [app_len] at this
  by_cases hi : i < C.p
  · have hm := C.hm i
    rw [C.ths_lt hi] at h1
    rw [C.cs_lt hi] at h2
    rw [C.S_lt _ hi] at h3
    cases h1; cases h2; cases h3
    refine ⟨by omega, rfl, ?_, 1, ?_⟩
    · unfold sdr
      rw [sendCode_len]
      exact decide_eq_decide.mpr (by show 0 < _ ↔ 3 * 0 < _; omega)
    · refine goM_stop ?_
      by_cases h : 0 < (C.its i).length
      · exact .inr ⟨_, _, (sendCode_at C.N (C.its i) 0 0 _ (List.getElem?_eq_getElem h)).1⟩
      · exact .inl (List.getElem?_eq_none (by rw [sendCode_len]; omega))
  · obtain rfl : i = C.p := by omega
    rw [C.ths_eq] at h1
    rw [C.cs_eq] at h2
    rw [C.S_eq] at h3
    cases h1; cases h2; cases h3
    refine ⟨by omega, ?_, ?_, 1, ?_⟩
    · show (-1 : Int) :: List.replicate (5 * C.asked) 0 = [-1] ++ List.replicate (1 + 5 * C.asked - 1) 0
      have : 1 + 5 * C.asked - 1 = 5 * C.asked := by omega
      rw [this]
      rfl
    · unfold rcv
      rw [recvCode_len]
      exact decide_eq_decide.mpr (by show 0 < _ ↔ 3 * 0 < _; omega)
    · refine goM_stop ?_
      by_cases h : 0 < C.asked
      · exact .inr ⟨_, _, (recvCode_at C.N C.asked 0 h).1⟩
      · exact .inl (List.getElem?_eq_none (by rw [recvCode_len]; omega))
variable (C) in
noncomputable def sys : Sys C.N C.ths C.cs A where
  S := C.S
  all := C.all
  first := ([], 0)
  r := C.r
  next := C.next
  hfirst := all_ok.mpr C.ok_first
  trs := (C.S ([], 0)).ths
  hS := by
    have e : C.buf [] ++ [((0 % C.N : Nat) : Int), ((0 - 0 : Nat) : Int)] = List.replicate ((C.N : Int) + 2).toNat 0 := by
      unfold buf
      rcases C.hN with h | h <;> rw [h] <;> rfl
    show (⟨C.buf [] ++ [((0 % C.N : Nat) : Int), ((0 - 0 : Nat) : Int)], _⟩ : Stt) = _
    rw [e]
    rfl
  hgo := go_first
  hcs := go_all
  hN := ⟨by omega, by have := C.N2; omega⟩
  hlen := ⟨C.all_len, by unfold ths; rw [app_len]; have := C.p2; omega⟩
  hths := fun x _ => by
    show (app _ _ _).length < 1000
    rw [app_len]; have := C.p2; omega
  hcase := fun x hx n hn => case_ok (all_ok.mp hx) (by unfold cs at hn; rwa [app_len] at hn)
  hnext := fun x hx n hn => by
    have hx := all_ok.mp hx
    obtain ⟨h1, h2⟩ := List.mem_filter.mp hn
    have hnl : n < C.p + 1 := by
      have := List.mem_range.mp h1
      unfold cs at this
      rwa [app_len] at this
    refine ⟨all_ok.mpr (ok_next hx hnl h2), ?_⟩
    by_cases hk : n < C.p
    · exact step_send hx hk h2
    · obtain rfl : n = C.p := by omega
      exact step_recv hx h2
theorem own_item {k j d k' : Nat} (hd : d < 10) (hj : j < 3) : decide (item k j d / 100 = (k' : Int)) = decide (k = k') := by
  have h : item k j d / 100 = (k : Int) := by unfold item; omega
  rw [h]
  exact decide_eq_decide.mpr (by omega)
theorem own_vals : ∀ (t : List Nat), (∀ k, t.count k ≤ (C.its k).length) → ∀ k, ownM k (C.vals t) = (C.its k).take (t.count k)
  | [], _, k => by
    show [] = List.take 0 _
    rw [List.take_zero]
  | k' :: t, h, k => by
    have ht : ∀ k, t.count k ≤ (C.its k).length := fun k => Nat.le_trans (by rw [List.count_cons]; omega) (h k)
    have ih := own_vals t ht k
    have hc : t.count k' < (C.its k').length := by
      have := h k'
      rw [List.count_cons_self] at this
      omega
    have he : (C.its k')[t.count k']? = some (C.its k')[t.count k'] := List.getElem?_eq_getElem hc
    obtain ⟨d, hd, hed, _, hj, _⟩ := C.item_of he
    have hgd : (C.its k').getD (t.count k') 0 = item k' (t.count k') d := by rw [List.getD_eq_getElem?_getD, he, ← hed]; rfl
    show ownM k (C.vals t ++ [(C.its k').getD (t.count k') 0]) = _
    unfold ownM at ih ⊢
    rw [List.filter_append, ih, hgd]
    by_cases e : k' = k
    · subst e
      rw [List.count_cons_self, take_snoc hc, hgd]
      congr 1
      rw [List.filter_cons, own_item hd hj]
      simp
    · rw [List.count_cons_of_ne e]
      rw [List.filter_cons, own_item hd hj]
      simp [e]
theorem sent_len {x : A} (hx : C.Ok x) : sentM (C.S x) C.p = x.1.length := by
  have h2 := count2 x.1 fun k hk => by have := hx.mem k hk; have := C.p2; omega
  have ht : ∀ k, ((C.its k).take (x.1.count k)).length = x.1.count k := fun k => by
    rw [List.length_take]
    exact Nat.min_eq_left (hx.cnt k)
  unfold sentM S app
  rcases C.hp with h | h
  · have h1 := hx.cnt 1
    rw [C.its_none (by omega)] at h1
    rw [h]
    show ((List.map _ (List.take 1 [C.sdr x.1 0, C.rcv x.1 x.2])).sum) = _
    show ((C.sdr x.1 0).said.length + 0) = _
    have := ht 0
    show ((C.its 0).take (x.1.count 0)).length + 0 = _
    simp at h1
    have h3 : x.1.count 1 = 0 := by omega
    omega
  · rw [h]
    show ((C.sdr x.1 0).said.length + ((C.sdr x.1 1).said.length + 0)) = _
    have h0 := ht 0
    have h1 := ht 1
    show ((C.its 0).take (x.1.count 0)).length + (((C.its 1).take (x.1.count 1)).length + 0) = _
    omega
theorem fine {x : A} (hx : C.Ok x) : FineM (C.S x) C.p C.N := by
  have hlen := hx.len
  have hrl := hx.rl
  have hfull := hx.full
  have hvl := C.vals_len x.1
  refine ⟨_, ((x.1.length - x.2 : Nat) : Int), C.S_eq x, ?_, ?_, by omega, by omega, ?_, fun k hk => ⟨_, C.S_lt x hk, ?_, ?_⟩⟩
  · show (C.buf x.1 ++ _)[C.N + 1]? = _
    rw [List.getElem?_append_right (by rw [C.buf_len]; omega), C.buf_len]
    have : C.N + 1 - C.N = 1 := by omega
    rw [this]
    rfl
  · rw [sent_len hx]
    show ((x.1.length : Nat) : Int) - ((((C.vals x.1).take x.2).length : Nat) : Int) = _
    rw [List.length_take]
    omega
  · show ((C.vals x.1).take x.2).length < 1000
    rw [List.length_take]
    omega
  · show ownM k ((C.vals x.1).take x.2) = ((C.its k).take (x.1.count k)).take _
    have hp : ownM k ((C.vals x.1).take x.2) <+: ownM k (C.vals x.1) := List.IsPrefix.filter _ (List.take_prefix _ _)
    rw [own_vals x.1 hx.cnt k] at hp
    exact List.prefix_iff_eq_take.mp hp
  · show ((C.its k).take (x.1.count k)).length < 1000
    have := C.hm k
    rw [List.length_take]
    omega
/-- the end's condition -/
theorem end_ok {x : A} (hx : C.Ok x) (hs : stepsOf C.cs.length (C.r x) = []) : x.2 = min C.asked x.1.length ∧ min C.asked ((C.its 0).length + (C.its 1).length) ≤ x.2 := by
  have hcs : C.cs.length = C.p + 1 := by unfold cs; exact app_len
  have hno : ∀ n, n < C.p + 1 → C.r x n = false := fun n hn => by
    cases h : C.r x n with
    | false => rfl
    | true =>
      have : n ∈ stepsOf C.cs.length (C.r x) := List.mem_filter.mpr ⟨List.mem_range.mpr (by omega), h⟩
      rw [hs] at this
      simp at this
  have hra := hx.ra
  have hrl := hx.rl
  have hr := hno C.p (by omega)
  unfold r at hr
  rw [if_neg (Nat.lt_irrefl _)] at hr
  have hr := of_decide_eq_false hr
  have h2 := count2 x.1 fun k hk => by have := hx.mem k hk; have := C.p2; omega
  refine ⟨by omega, ?_⟩
  by_cases ha : x.2 < C.asked
  · have hrx : x.2 = x.1.length := by omega
    have hN := C.N1
    have hall : ∀ k, (C.its k).length ≤ x.1.count k := fun k => by
      by_cases hk : k < C.p
      · have := hno k (by omega)
        unfold r at this
        rw [if_pos hk] at this
        have := of_decide_eq_false this
        omega
      · rw [C.its_none (by omega)]
        exact Nat.zero_le _
    have := hall 0
    have := hall 1
    omega
  · omega
end Cfg
end HK


set_option maxRecDepth 100000
set_option maxHeartbeats 4000000
/-! AW: the library's defs once more, their data away from some objects W. -/
namespace HK
open PySem PySem.Spec PyProof.Rows L2
open Evl (Ex)
theorem DV.monoW {K : PySem.W.Frag} {W : Addr → Prop} {H H' : Hp} {d : D} {v : V} (h : DV K (mn H W) d v) (e : Ex H H') : DV K (mn H' W) d v := h.mono (mn_mono e)
theorem DVs.monoW {K : PySem.W.Frag} {W : Addr → Prop} {H H' : Hp} {d : List D} {v : List V} (h : DVs K (mn H W) d v) (e : Ex H H') : DVs K (mn H' W) d v := h.mono (mn_mono e)
theorem mn_tupsW {W : Addr → Prop} {H H' : Hp} (t : Tups H H') : Tups (mn H W) (mn H' W) := ⟨fun b xs h => by
  obtain ⟨n, h⟩ := mn_some h
  rw [mn_at n]
  exact t.1 _ _ h, fun b ob xs h => by
  obtain ⟨n, h⟩ := mn_some h
  rw [mn_at n]
  exact t.2 _ _ _ h⟩
def Dom (W : Addr → Prop) (H : Hp) : Prop := ∀ b, W b → H b ≠ none
theorem Dom.grow {W : Addr → Prop} {H H' : Hp} (d : Dom W H) (e : Ex H H') : Dom W H' := fun b w => by
  cases h : H b with
  | none => exact absurd h (d b w)
  | some o => rw [e _ _ h]; intro z; cases z
theorem Dom.new {W : Addr → Prop} {H : Hp} {p : Addr} (d : Dom W H) (h : H p = none) : ¬ W p := fun w => d p w h
def EvW (K : PySem.W.Frag) (W : Addr → Prop) (te : TE) (σ : L2.St) (H : Hp) (d : D) : Prop := ∀ H1, Same H H1 → ∀ Q : VK, (∀ v H2, Same H1 H2 → DV K (mn H2 W) d v → Q v H2) → te σ H1 Q
def EvWs (K : PySem.W.Frag) (W : Addr → Prop) (ta : TA) (σ : L2.St) (H : Hp) (ds : List D) : Prop := ∀ H1, Same H H1 → ∀ Q : List V → Hp → Prop, (∀ vs H2, Same H1 H2 → DVs K (mn H2 W) ds vs → Q vs H2) → ta σ H1 Q
abbrev RetW (K : PySem.W.Frag) (W : Addr → Prop) (H : Hp) (Q : VK) (d : D) : Prop := ∀ v H', Same H H' → DV K (mn H' W) d v → Q v H'
section
variable {K : PySem.W.Frag} {W : Addr → Prop} {σ : L2.St} {H H' : Hp} {te ta tb : TE} {tas : TA} {d : D} {ds : List D} {Q : VK}
theorem EvW.go (h : EvW K W te σ H d) (q : ∀ v H2, Same H H2 → DV K (mn H2 W) d v → Q v H2) : te σ H Q := h H (Same.refl H) Q q
theorem EvWs.go {Q : List V → Hp → Prop} (h : EvWs K W tas σ H ds) (q : ∀ vs H2, Same H H2 → DVs K (mn H2 W) ds vs → Q vs H2) : tas σ H Q := h H (Same.refl H) Q q
theorem evw_var {i : Nat} {v : V} (h : DV K (mn H W) d v) (e : σ[i]? = some (some v) := by rfl) : EvW K W (tVar i) σ H d := fun H1 s _ q => ⟨v, e, q v H1 (Same.refl H1) (h.mono (mn_mono s))⟩
theorem evw_str {s : Str} : EvW K W (tC (.str s)) σ H (.str s) := fun H1 _ _ q => q _ H1 (Same.refl H1) (.str s)
theorem evw_int {i : Int} : EvW K W (tC (.int i)) σ H (.int i) := fun H1 _ _ q => q _ H1 (Same.refl H1) (.int i)
theorem evw_non : EvW K W (tC .non) σ H .non := fun H1 _ _ q => q _ H1 (Same.refl H1) .non
theorem evw_ev {v : V} (h : Evl.Ev te σ H v) (dv : DV K (mn H W) d v) : EvW K W te σ H d := fun H1 s Q q => h H1 s Q fun H2 s2 => q v H2 s2 (dv.mono (mn_mono (Ex.trans s s2)))
theorem evw_ref {a : Addr} (h : ∀ H, DV K H d (.ref a)) : EvW K W (tC (.ref a)) σ H d := fun H1 s _ q => q _ H1 (Same.refl H1) (h _)
theorem evws_nil : EvWs K W tNil σ H [] := fun H1 _ _ q => q _ H1 (Same.refl H1) .nil
theorem evws_cons (ha : EvW K W ta σ H d) (hr : EvWs K W tas σ H ds) : EvWs K W (tCons ta tas) σ H (d :: ds) := fun H1 s Q q =>
  ha H1 s _ fun v H2 s2 dv => hr H2 (s.trans s2) _ fun vs H3 s3 dvs => q (v :: vs) H3 (s2.trans s3) (.cons (dv.mono (mn_mono s3)) dvs)
theorem mn_new {o : HO} {p : Addr} (hW : Dom W H) (hp : H p = none) : mn (upd H p o) W p = some o := by
  rw [mn_at (hW.new hp)]
  exact upd_same
theorem evw_tup (h : EvWs K W tas σ H ds) (hl : Nat.ble ds.length 1000 = true := by rfl) (hW : Dom W H := by assumption) : EvW K W (tTup tas) σ H (.tup ds) := fun H1 s Q q =>
  h H1 s _ fun vs H2 s2 dvs => ⟨by rw [← dvs.length]; exact sz1000 hl, fun p hp => q _ _ (s2.trans (Same.new hp)) (.tup (sqT_of (mn_new (hW.grow (Ex.trans s s2)) hp)) (dvs.mono (mn_mono (Same.new hp))))⟩
theorem evw_lst (h : EvWs K W tas σ H ds) (hl : Nat.ble ds.length 1000 = true := by rfl) (hW : Dom W H := by assumption) : EvW K W (tLst tas) σ H (.lst ds) := fun H1 s Q q =>
  h H1 s _ fun vs H2 s2 dvs => ⟨by rw [← dvs.length]; exact sz1000 hl, fun p hp => q _ _ (s2.trans (Same.new hp)) (.lst (mn_new (hW.grow (Ex.trans s s2)) hp) (dvs.mono (mn_mono (Same.new hp))))⟩
theorem evw_call {sp : Sp} (h : EvWs K W tas σ H ds) (hs : ∀ vs H1 Q E, Same H H1 → DVs K (mn H1 W) ds vs → RetW K W H1 Q d → sp vs H1 Q E) : EvW K W (tCall sp [] E0 tas) σ H d := fun H1 s Q q =>
  h H1 s _ fun vs H2 s2 dvs => by
    show sp (vs ++ []) H2 Q E0
    rw [List.append_nil]
    exact hs vs H2 Q E0 (s.trans s2) dvs fun v H3 s3 dv => q v H3 (s2.trans s3) dv
theorem evw_add {i j : Int} (ha : EvW K W ta σ H (.int i)) (hb : EvW K W tb σ H (.int j)) : EvW K W (tOp (rI0 fun i j => .int (i + j)) ta tb) σ H (.int (i + j)) := fun H1 s Q q =>
  ha H1 s _ fun v H2 s2 dv => hb H2 (s.trans s2) _ fun u H3 s3 du => by
    cases dv; cases du
    exact ⟨_, _, rfl, rfl, q _ H3 (s2.trans s3) (.int _)⟩
theorem evw_cat {xs ys : List D} (ha : EvW K W ta σ H (.lst xs)) (hb : EvW K W tb σ H (.lst ys)) (hl : xs.length + ys.length ≤ 100000 := by simp) (hW : Dom W H := by assumption) : EvW K W (tOp rCat ta tb) σ H (.lst (xs ++ ys)) := fun H1 s Q q =>
  ha H1 s _ fun v H2 s2 dv => hb H2 (s.trans s2) _ fun u H3 s3 du => by
    obtain ⟨a, vs, rfl, h1, r1⟩ := (dv.mono (mn_mono s3)).lst_inv
    obtain ⟨b, us, rfl, h2, r2⟩ := du.lst_inv
    refine ⟨_, _, _, _, rfl, rfl, mn_ex _ _ h1, mn_ex _ _ h2, by rw [← r1.length, ← r2.length, sizeLine_eq]; omega, fun p hp => ?_⟩
    exact q _ _ ((s2.trans s3).trans (Same.new hp)) (.lst (mn_new (hW.grow (Ex.trans (Ex.trans s s2) s3)) hp) (DVs.append (r1.mono (mn_mono (Same.new hp))) (r2.mono (mn_mono (Same.new hp)))))
end
section
variable {K : PySem.W.Frag} {W : Addr → Prop} {σ : L2.St} {H : Hp} {te : TE} {ta : TA} {d : D} {ds : List D} {u : TS} {D' : Ends} {i : Nat} {sp : Sp}
theorem sw_set (W : Addr → Prop) (d : D) (h : EvW K W te σ H d) (q : ∀ v H2, Same H H2 → DV K (mn H2 W) d v → u D' (σ.set i (some v)) H2) : tSeq (tAsg te (gName i)) u D' σ H := h.go q
theorem sw_setL (W : Addr → Prop) (h : EvWs K W ta σ H ds) (q : ∀ p vs H2, Same H H2 → H2 p = none → DVs K (mn H2 W) ds vs → u D' (σ.set i (some (.ref p))) (upd H2 p (.lst vs))) (hl : Nat.ble ds.length 1000 = true := by rfl) : tSeq (tAsg (tLst ta) (gName i)) u D' σ H :=
  h.go fun vs H2 s2 dvs => ⟨by rw [← dvs.length]; exact sz1000 hl, fun p hp => q p vs H2 s2 hp dvs⟩
theorem sw_ret (W : Addr → Prop) (d : D) (h : EvW K W te σ H d) (q : ∀ v H2, Same H H2 → DV K (mn H2 W) d v → D'.rt v H2) : tRet te D' σ H := h.go q
end
/-! ### promises -/
def spNumberW (K : PySem.W.Frag) : Sp := fun vs H Q _ => ∃ (W : Addr → Prop) (n : Int), Dom W H ∧ DVs K (mn H W) [.int n] vs ∧ RetW K W H Q (dNum n)
def spCellW (K : PySem.W.Frag) : Sp := fun vs H Q _ => ∃ (W : Addr → Prop) (x : Str) (n : Int), Dom W H ∧ DVs K (mn H W) [.str x, .int n] vs ∧ RetW K W H Q (dCell x n)
def spPutW (K : PySem.W.Frag) : Sp := fun vs H Q _ => ∃ (W : Addr → Prop) (x : Str) (n : Int) (e : D), Dom W H ∧ DVs K (mn H W) [.str x, .int n, e] vs ∧ RetW K W H Q (dPut x n e)
def spRetryIfW (K : PySem.W.Frag) : Sp := fun vs H Q _ => ∃ (W : Addr → Prop) (e : D), Dom W H ∧ DVs K (mn H W) [e] vs ∧ RetW K W H Q (dRetryIf e)
def spBlockW (K : PySem.W.Frag) : Sp := fun vs H Q _ => ∃ (W : Addr → Prop) (e : D), Dom W H ∧ DVs K (mn H W) [e] vs ∧ RetW K W H Q (dBlock e)
def spChannelW (K : PySem.W.Frag) : Sp := fun vs H Q _ => ∃ (W : Addr → Prop) (x : Str) (n : Int), Dom W H ∧ DVs K (mn H W) [.str x, .int n] vs ∧ 1 ≤ n ∧ n ≤ 10 ∧ RetW K W H Q (.tup [.str x, .int (n + 2), .int 0])
def spSendW (K : PySem.W.Frag) : Sp := fun vs H Q _ => ∃ (W : Addr → Prop) (x : Str) (n : Int) (e : D), Dom W H ∧ DVs K (mn H W) [.str x, .int n, e] vs ∧ 1 ≤ n ∧ n ≤ 10 ∧ RetW K W H Q (.lst [dSend x n e])
def spReceiveW (K : PySem.W.Frag) : Sp := fun vs H Q _ => ∃ (W : Addr → Prop) (c : Str) (n : Int) (x : Str), Dom W H ∧ DVs K (mn H W) [.str c, .int n, .str x] vs ∧ 1 ≤ n ∧ n ≤ 10 ∧ RetW K W H Q (.lst [dReceive c n x])
section
variable {P : Program} {w : World} {K : PySem.W.Frag} {mg : Str → Option Value} {base : Heap} {aR : Addr}
theorem okw_number (T : Tx K mg aR) (F : DefAt K mg "_number" sNumber) : Cal P w K mg base 1 "_number" (spNumberW K) := by
  have S : FnScope ["n"] ["n"] (defScope sNumber) := ⟨rfl, rfl, rfl, by decide +kernel, rfl, by decide +kernel, by decide +kernel⟩
  refine cal_mk F S (fun _ _ _ _ _ _ us hl => match us, hl with | [_], _ => rfl) (fun vs H Q E h => ?_) (fun f cdv A outer s H vs Q E hr h => ?_)
  · obtain ⟨_, n, _, h, _⟩ := h
    exact h.length.symm
  · obtain ⟨W, n, hW, h, k⟩ := h
    obtain ⟨x, rfl, h1⟩ := dvs1 h
    refine ⟨_, (pss_one (ps_ret (pe_tup (pa_cons pe_str (pa_cons (pv 0) pa_nil))))), ?_⟩
    exact (evw_tup (evws_cons evw_str (evws_cons (evw_var h1) evws_nil))).go k
theorem okw_cell (T : Tx K mg aR) (F : DefAt K mg "_cell" sCell) (c_number : Cal P w K mg base 1 "_number" (spNumberW K)) : Cal P w K mg base 2 "_cell" (spCellW K) := by
  have S : FnScope ["name", "n"] ["name", "n"] (defScope sCell) := ⟨rfl, rfl, rfl, by decide +kernel, rfl, by decide +kernel, by decide +kernel⟩
  refine cal_mk F S (fun _ _ _ _ _ _ us hl => match us, hl with | [_, _], _ => rfl) (fun vs H Q E h => ?_) (fun f cdv A outer s H vs Q E hr h => ?_)
  · obtain ⟨_, x, n, _, h, _⟩ := h
    exact h.length.symm
  · obtain ⟨W, x, n, hW, h, k⟩ := h
    obtain ⟨_, _, rfl, h1, h2⟩ := dvs2 h
    refine ⟨_, (pss_one (ps_ret (pe_tup (pa_cons pe_str (pa_cons (pv 0) (pa_cons (pe_c c_number hr (pa_cons (pv 1) pa_nil)) pa_nil)))))), ?_⟩
    exact (evw_tup (evws_cons evw_str (evws_cons (evw_var h1) (evws_cons (evw_call (evws_cons (evw_var h2) evws_nil) fun vs H1 Q E s a r => ⟨W, n, Dom.grow (by assumption) s, a, r⟩) evws_nil)))).go k
theorem okw_put (T : Tx K mg aR) (F : DefAt K mg "_put" sPut) (c_number : Cal P w K mg base 1 "_number" (spNumberW K)) : Cal P w K mg base 2 "_put" (spPutW K) := by
  have S : FnScope ["name", "n", "expression"] ["name", "n", "expression"] (defScope sPut) := ⟨rfl, rfl, rfl, by decide +kernel, rfl, by decide +kernel, by decide +kernel⟩
  refine cal_mk F S (fun _ _ _ _ _ _ us hl => match us, hl with | [_, _, _], _ => rfl) (fun vs H Q E h => ?_) (fun f cdv A outer s H vs Q E hr h => ?_)
  · obtain ⟨_, x, n, e, _, h, _⟩ := h
    exact h.length.symm
  · obtain ⟨W, x, n, e, hW, h, k⟩ := h
    obtain ⟨_, _, _, rfl, h1, h2, h3⟩ := dvs3 h
    refine ⟨_, (pss_one (ps_ret (pe_tup (pa_cons pe_str (pa_cons (pv 0) (pa_cons (pe_c c_number hr (pa_cons (pv 1) pa_nil)) (pa_cons (pv 2) pa_nil))))))), ?_⟩
    exact (evw_tup (evws_cons evw_str (evws_cons (evw_var h1) (evws_cons (evw_call (evws_cons (evw_var h2) evws_nil) fun vs H1 Q E s a r => ⟨W, n, Dom.grow (by assumption) s, a, r⟩) (evws_cons (evw_var h3) evws_nil))))).go k
theorem okw_retry_if (T : Tx K mg aR) (F : DefAt K mg "_retry_if" sRetryIf) : Cal P w K mg base 1 "_retry_if" (spRetryIfW K) := by
  have S : FnScope ["expression"] ["expression"] (defScope sRetryIf) := ⟨rfl, rfl, rfl, by decide +kernel, rfl, by decide +kernel, by decide +kernel⟩
  refine cal_mk F S (fun _ _ _ _ _ _ us hl => match us, hl with | [_], _ => rfl) (fun vs H Q E h => ?_) (fun f cdv A outer s H vs Q E hr h => ?_)
  · obtain ⟨_, n, _, h, _⟩ := h
    exact h.length.symm
  · obtain ⟨W, n, hW, h, k⟩ := h
    obtain ⟨x, rfl, h1⟩ := dvs1 h
    refine ⟨_, (pss_one (ps_ret (pe_tup (pa_cons pe_str (pa_cons (pv 0) (pa_cons (pe_lst (pa_cons (pe_glob (v := .ref aR) rfl T.gRETRY rfl) pa_nil)) (pa_cons (pe_lst pa_nil) pa_nil))))))), ?_⟩
    exact (evw_tup (evws_cons evw_str (evws_cons (evw_var h1) (evws_cons (evw_lst (evws_cons (evw_ref fun H => .tup (T.retry H) (.cons (.str _) .nil)) evws_nil)) (evws_cons (evw_lst evws_nil) evws_nil))))).go k
theorem okw_block (T : Tx K mg aR) (F : DefAt K mg "_block" sBlock) : Cal P w K mg base 1 "_block" (spBlockW K) := by
  have S : FnScope ["body"] ["body"] (defScope sBlock) := ⟨rfl, rfl, rfl, by decide +kernel, rfl, by decide +kernel, by decide +kernel⟩
  refine cal_mk F S (fun _ _ _ _ _ _ us hl => match us, hl with | [_], _ => rfl) (fun vs H Q E h => ?_) (fun f cdv A outer s H vs Q E hr h => ?_)
  · obtain ⟨_, n, _, h, _⟩ := h
    exact h.length.symm
  · obtain ⟨W, n, hW, h, k⟩ := h
    obtain ⟨x, rfl, h1⟩ := dvs1 h
    refine ⟨_, (pss_one (ps_ret (pe_tup (pa_cons pe_str (pa_cons pe_non (pa_cons (pv 0) (pa_cons (pe_lst pa_nil) pa_nil))))))), ?_⟩
    exact (evw_tup (evws_cons evw_str (evws_cons evw_non (evws_cons (evw_var h1) (evws_cons (evw_lst evws_nil) evws_nil))))).go k
theorem okw_channel (T : Tx K mg aR) (F : DefAt K mg "channel" sChannel) (c_check : Cal P w K mg base 1 "_check" spCheck) : Cal P w K mg base 2 "channel" (spChannelW K) := by
  have S : FnScope ["name", "n"] ["name", "n"] (defScope sChannel) := ⟨rfl, rfl, rfl, by decide +kernel, rfl, by decide +kernel, by decide +kernel⟩
  refine cal_mk F S (fun _ _ _ _ _ _ us hl => match us, hl with | [_, _], _ => rfl) (fun vs H Q E h => ?_) (fun f cdv A outer s H vs Q E hr h => ?_)
  · obtain ⟨_, x, n, _, h, _⟩ := h
    exact h.length.symm
  · obtain ⟨W, x, n, hW, h, l1, l2, k⟩ := h
    obtain ⟨_, _, rfl, h1, h2⟩ := dvs2 h
    cases h1; cases h2
    refine ⟨_, (pss_cons (ps_expr (pe_c c_check hr (pa_cons (pv 1) (pa_cons pe_int (pa_cons pe_int pa_nil)))))
  (pss_one (ps_ret (pe_tup (pa_cons (pv 0) (pa_cons (pe_op op_add (pv 1) pe_int) (pa_cons pe_int pa_nil))))))), ?_⟩
    refine ⟨_, rfl, n, 1, 10, rfl, l1, l2, ?_⟩
    dsimp only
    exact (evw_tup (evws_cons (evw_var (.str x)) (evws_cons (evw_add (evw_var (.int n)) evw_int) (evws_cons evw_int evws_nil)))).go k
theorem okw_send (T : Tx K mg aR) (F : DefAt K mg "send" sSend) (c_check : Cal P w K mg base 1 "_check" spCheck) (c_number : Cal P w K mg base 1 "_number" (spNumberW K)) (c_cell : Cal P w K mg base 2 "_cell" (spCellW K))
    (c_put : Cal P w K mg base 2 "_put" (spPutW K)) (c_retry_if : Cal P w K mg base 1 "_retry_if" (spRetryIfW K)) (c_block : Cal P w K mg base 1 "_block" (spBlockW K)) : Cal P w K mg base 3 "send" (spSendW K) := by
  have S : FnScope ["name", "n", "expression", "count", "place", "body"] ["name", "n", "expression"] (defScope sSend) := ⟨rfl, rfl, rfl, by decide +kernel, rfl, by decide +kernel, by decide +kernel⟩
  refine cal_mk F S (fun _ _ _ _ _ _ us hl => match us, hl with | [_, _, _], _ => rfl) (fun vs H Q E h => ?_) (fun f cdv A outer s H vs Q E hr h => ?_)
  · obtain ⟨_, x, n, e, _, h, _⟩ := h
    exact h.length.symm
  · obtain ⟨W, x, n, e, hW, h, l1, l2, k⟩ := h
    obtain ⟨_, _, u, rfl, h1, h2, h3⟩ := dvs3 h
    cases h1; cases h2
    refine ⟨_, (pss_cons (ps_expr (pe_c c_check hr (pa_cons (pv 1) (pa_cons pe_int (pa_cons pe_int pa_nil)))))
  (pss_cons (ps_set (i := 3) S.nd rfl (Or.inl rfl) (pe_c c_cell hr (pa_cons (pv 0) (pa_cons (pe_op op_add (pv 1) pe_int) pa_nil))))
  (pss_cons (ps_set (i := 4) S.nd rfl (Or.inl rfl) (pe_tup (pa_cons pe_str (pa_cons (pe_tup (pa_cons pe_str (pa_cons (pe_c c_cell hr (pa_cons (pv 0) (pa_cons (pv 1) pa_nil))) (pa_cons (pv 3) pa_nil)))) (pa_cons (pe_c c_number hr (pa_cons (pv 1) pa_nil)) pa_nil)))))
  (pss_cons (ps_set (i := 5) S.nd rfl (Or.inl rfl) (pe_lst (pa_cons (pe_c c_retry_if hr (pa_cons (pe_tup (pa_cons pe_str (pa_cons (pv 3) (pa_cons (pe_c c_number hr (pa_cons (pv 1) pa_nil)) pa_nil)))) pa_nil)) (pa_cons (pe_tup (pa_cons pe_str (pa_cons (pv 0) (pa_cons (pv 4) (pa_cons (pv 2) pa_nil))))) pa_nil))))
  (pss_one (ps_ret (pe_lst (pa_cons (pe_c c_block hr (pa_cons (pe_op op_cat (pv 5) (pe_lst (pa_cons (pe_c c_put hr (pa_cons (pv 0) (pa_cons (pe_op op_add (pv 1) pe_int) (pa_cons (pe_tup (pa_cons pe_str (pa_cons (pv 3) (pa_cons (pe_c c_number hr (pa_cons pe_int pa_nil)) pa_nil)))) pa_nil)))) pa_nil))) pa_nil)) pa_nil)))))))), ?_⟩
    refine ⟨_, rfl, n, 1, 10, rfl, l1, l2, ?_⟩
    dsimp only
    refine sw_set W (K := K) (dCell x (n + 1)) ?_ fun v1 H1 s1 d1 => have hWn : Dom W H1 := Dom.grow (by assumption) s1; ?_
    · exact evw_call (evws_cons (evw_var (.str x)) (evws_cons (evw_add (evw_var (.int n)) evw_int) evws_nil)) fun vs H1 Q E s a r => ⟨W, x, n + 1, Dom.grow (by assumption) s, a, r⟩
    refine sw_set W (K := K) (dBin "rest" (dBin "plus" (dCell x n) (dCell x (n + 1))) (dNum n)) ?_ fun v2 H2 s2 d2 => have hWn : Dom W H2 := Dom.grow (by assumption) s2; ?_
    · exact evw_tup (evws_cons evw_str (evws_cons (evw_tup (evws_cons evw_str (evws_cons (evw_call (evws_cons (evw_var (.str x)) (evws_cons (evw_var (.int n)) evws_nil)) fun vs H1 Q E s a r => ⟨W, x, n, Dom.grow (by assumption) s, a, r⟩) (evws_cons (evw_var d1) evws_nil))))
        (evws_cons (evw_call (evws_cons (evw_var (.int n)) evws_nil) fun vs H1 Q E s a r => ⟨W, n, Dom.grow (by assumption) s, a, r⟩) evws_nil)))
    refine sw_set W (K := K) (.lst [dRetryIf (dBin "same" (dCell x (n + 1)) (dNum n)), .tup [.str "put", .str x, dBin "rest" (dBin "plus" (dCell x n) (dCell x (n + 1))) (dNum n), e]]) ?_ fun v3 H3 s3 d3 => have hWn : Dom W H3 := Dom.grow (by assumption) s3; ?_
    · exact evw_lst (evws_cons (evw_call (evws_cons (evw_tup (evws_cons evw_str (evws_cons (evw_var (d1.monoW s2)) (evws_cons (evw_call (evws_cons (evw_var (.int n)) evws_nil) fun vs H1 Q E s a r => ⟨W, n, Dom.grow (by assumption) s, a, r⟩) evws_nil)))) evws_nil) fun vs H1 Q E s a r => ⟨W, _, Dom.grow (by assumption) s, a, r⟩)
        (evws_cons (evw_tup (evws_cons evw_str (evws_cons (evw_var (.str x)) (evws_cons (evw_var d2) (evws_cons (evw_var (h3.monoW (s1.trans s2))) evws_nil))))) evws_nil))
    refine sw_ret W (K := K) (.lst [dSend x n e]) ?_ fun v4 H4 s4 d4 => have hWn : Dom W H4 := Dom.grow (by assumption) s4; ?_
    · exact evw_lst (evws_cons (evw_call (evws_cons (evw_cat (evw_var d3) (evw_lst (evws_cons (evw_call (evws_cons (evw_var (.str x)) (evws_cons (evw_add (evw_var (.int n)) evw_int)
        (evws_cons (evw_tup (evws_cons evw_str (evws_cons (evw_var (d1.monoW (s2.trans s3))) (evws_cons (evw_call (evws_cons evw_int evws_nil) fun vs H1 Q E s a r => ⟨W, 1, Dom.grow (by assumption) s, a, r⟩) evws_nil)))) evws_nil))) fun vs H1 Q E s a r => ⟨W, _, _, _, Dom.grow (by assumption) s, a, r⟩) evws_nil))) evws_nil) fun vs H1 Q E s a r => ⟨W, _, Dom.grow (by assumption) s, a, r⟩) evws_nil)
    exact k _ _ (((s1.trans s2).trans s3).trans s4) d4
theorem okw_receive (T : Tx K mg aR) (F : DefAt K mg "receive" sReceive) (c_check : Cal P w K mg base 1 "_check" spCheck) (c_number : Cal P w K mg base 1 "_number" (spNumberW K)) (c_cell : Cal P w K mg base 2 "_cell" (spCellW K))
    (c_put : Cal P w K mg base 2 "_put" (spPutW K)) (c_retry_if : Cal P w K mg base 1 "_retry_if" (spRetryIfW K)) (c_block : Cal P w K mg base 1 "_block" (spBlockW K)) : Cal P w K mg base 3 "receive" (spReceiveW K) := by
  have S : FnScope ["name", "n", "x", "first", "count", "body"] ["name", "n", "x"] (defScope sReceive) := ⟨rfl, rfl, rfl, by decide +kernel, rfl, by decide +kernel, by decide +kernel⟩
  refine cal_mk F S (fun _ _ _ _ _ _ us hl => match us, hl with | [_, _, _], _ => rfl) (fun vs H Q E h => ?_) (fun f cdv A outer s H vs Q E hr h => ?_)
  · obtain ⟨_, x, n, e, _, h, _⟩ := h
    exact h.length.symm
  · obtain ⟨W, c, n, x, hW, h, l1, l2, k⟩ := h
    obtain ⟨_, _, _, rfl, h1, h2, h3⟩ := dvs3 h
    cases h1; cases h2; cases h3
    refine ⟨_, (pss_cons (ps_expr (pe_c c_check hr (pa_cons (pv 1) (pa_cons pe_int (pa_cons pe_int pa_nil)))))
  (pss_cons (ps_set (i := 3) S.nd rfl (Or.inl rfl) (pe_c c_cell hr (pa_cons (pv 0) (pa_cons (pv 1) pa_nil))))
  (pss_cons (ps_set (i := 4) S.nd rfl (Or.inl rfl) (pe_c c_cell hr (pa_cons (pv 0) (pa_cons (pe_op op_add (pv 1) pe_int) pa_nil))))
  (pss_cons (ps_set (i := 5) S.nd rfl (Or.inl rfl) (pe_lst (pa_cons (pe_c c_retry_if hr (pa_cons (pe_tup (pa_cons pe_str (pa_cons (pv 4) (pa_cons (pe_c c_number hr (pa_cons pe_int pa_nil)) pa_nil)))) pa_nil)) (pa_cons (pe_tup (pa_cons pe_str (pa_cons (pv 2) (pa_cons (pe_tup (pa_cons pe_str (pa_cons (pv 0) (pa_cons (pv 3) pa_nil)))) pa_nil)))) pa_nil))))
  (pss_cons (ps_expr (pe_bm PySem.F.plainAttrs_list PySem.F.slot_list_append PySem.F.type_list_append mt_append (pv 5) (pa_cons (pe_c c_put hr (pa_cons (pv 0) (pa_cons (pv 1) (pa_cons (pe_tup (pa_cons pe_str (pa_cons (pe_tup (pa_cons pe_str (pa_cons (pv 3) (pa_cons (pe_c c_number hr (pa_cons pe_int pa_nil)) pa_nil)))) (pa_cons (pe_c c_number hr (pa_cons (pv 1) pa_nil)) pa_nil)))) pa_nil)))) pa_nil)))
  (pss_one (ps_ret (pe_lst (pa_cons (pe_c c_block hr (pa_cons (pe_op op_cat (pv 5) (pe_lst (pa_cons (pe_c c_put hr (pa_cons (pv 0) (pa_cons (pe_op op_add (pv 1) pe_int) (pa_cons (pe_tup (pa_cons pe_str (pa_cons (pv 4) (pa_cons (pe_c c_number hr (pa_cons pe_int pa_nil)) pa_nil)))) pa_nil)))) pa_nil))) pa_nil)) pa_nil))))))))), ?_⟩
    refine ⟨_, rfl, n, 1, 10, rfl, l1, l2, ?_⟩
    dsimp only
    refine sw_set W (K := K) (dCell c n) ?_ fun v1 H1 s1 d1 => have hWn : Dom W H1 := Dom.grow (by assumption) s1; ?_
    · exact evw_call (evws_cons (evw_var (.str c)) (evws_cons (evw_var (.int n)) evws_nil)) fun vs H1 Q E s a r => ⟨W, c, n, Dom.grow (by assumption) s, a, r⟩
    refine sw_set W (K := K) (dCell c (n + 1)) ?_ fun v2 H2 s2 d2 => have hWn : Dom W H2 := Dom.grow (by assumption) s2; ?_
    · exact evw_call (evws_cons (evw_var (.str c)) (evws_cons (evw_add (evw_var (.int n)) evw_int) evws_nil)) fun vs H1 Q E s a r => ⟨W, c, n + 1, Dom.grow (by assumption) s, a, r⟩
    refine sw_setL W (K := K) (ds := [dRetryIf (dBin "same" (dCell c (n + 1)) (dNum 0)), .tup [.str "set", .str x, .tup [.str "cell", .str c, dCell c n]]]) ?_ fun p vs H3 s3 np r3 => have hW3 : Dom W H3 := Dom.grow (by assumption) s3; have hW3' : Dom W (upd H3 p (.lst vs)) := hW3.grow (Ex.new np); ?_
    · exact (evws_cons (evw_call (evws_cons (evw_tup (evws_cons evw_str (evws_cons (evw_var d2) (evws_cons (evw_call (evws_cons evw_int evws_nil) fun vs H1 Q E s a r => ⟨W, 0, Dom.grow (by assumption) s, a, r⟩) evws_nil)))) evws_nil) fun vs H1 Q E s a r => ⟨W, _, Dom.grow (by assumption) s, a, r⟩)
        (evws_cons (evw_tup (evws_cons evw_str (evws_cons (evw_var (.str x)) (evws_cons (evw_tup (evws_cons evw_str (evws_cons (evw_var (.str c)) (evws_cons (evw_var (d1.monoW s2)) evws_nil)))) evws_nil)))) evws_nil))
    refine ⟨_, rfl, .inl ⟨rfl, _, sqL_of upd_same⟩, ?_⟩
    refine EvWs.go (K := K) (W := W) (ds := [dPut c n (dBin "rest" (dBin "plus" (dCell c n) (dNum 1)) (dNum n))]) ?_ fun vs4 H4 s4 d4 => ?_
    · exact evws_cons (evw_call (evws_cons (evw_var (.str c)) (evws_cons (evw_var (.int n)) (evws_cons (evw_tup (evws_cons evw_str (evws_cons (evw_tup (evws_cons evw_str (evws_cons (evw_var (d1.monoW ((s2.trans s3).trans (Same.new np))))
        (evws_cons (evw_call (evws_cons evw_int evws_nil) fun vs H1 Q E s a r => ⟨W, 1, Dom.grow (by assumption) s, a, r⟩) evws_nil)))) (evws_cons (evw_call (evws_cons (evw_var (.int n)) evws_nil) fun vs H1 Q E s a r => ⟨W, n, Dom.grow (by assumption) s, a, r⟩) evws_nil)))) evws_nil))) fun vs H1 Q E s a r => ⟨W, _, _, _, Dom.grow (by assumption) s, a, r⟩) evws_nil
    obtain ⟨v4, rfl, e4⟩ := dvs1 d4
    have b4 : H4 p = some (.lst vs) := s4 _ _ upd_same
    refine ⟨p, _, _, rfl, rfl, b4, ?_, ?_⟩
    · rw [← r3.length]
      exact Nat.lt_of_lt_of_le (by decide : 2 < 100) (by decide)
    have s35 : Same H3 (upd H4 p (.lst (vs ++ [v4]))) := ((Same.new np).trans s4).mut np
    generalize hH5 : upd H4 p (.lst (vs ++ [v4])) = H5 at s35
    have b5 : H5 p = some (.lst (vs ++ [v4])) := by rw [← hH5]; exact upd_same
    have b5m : mn H5 W p = some (.lst (vs ++ [v4])) := by rw [mn_at (hW3.new np)]; exact b5
    have hW5 : Dom W H5 := hW3.grow s35
    have d5 : DV K (mn H5 W) (dPut c n (dBin "rest" (dBin "plus" (dCell c n) (dNum 1)) (dNum n))) v4 := by rw [← hH5]; exact e4.tups (mn_tupsW (Tups.upd b4 nt_lst)) rfl
    dsimp only
    refine sw_ret W (K := K) (.lst [dReceive c n x]) ?_ fun v6 H6 s6 d6 => have hWn : Dom W H6 := Dom.grow (by assumption) s6; ?_
    · exact evw_lst (evws_cons (evw_call (evws_cons (evw_cat (evw_var (.lst b5m ((r3.monoW s35).append (.cons d5 .nil)))) (evw_lst (evws_cons (evw_call (evws_cons (evw_var (.str c)) (evws_cons (evw_add (evw_var (.int n)) evw_int)
        (evws_cons (evw_tup (evws_cons evw_str (evws_cons (evw_var (d2.monoW (s3.trans s35))) (evws_cons (evw_call (evws_cons evw_int evws_nil) fun vs H1 Q E s a r => ⟨W, 1, Dom.grow (by assumption) s, a, r⟩) evws_nil)))) evws_nil))) fun vs H1 Q E s a r => ⟨W, _, _, _, Dom.grow (by assumption) s, a, r⟩) evws_nil))) evws_nil) fun vs H1 Q E s a r => ⟨W, _, Dom.grow (by assumption) s, a, r⟩) evws_nil)
    exact k _ _ ((((s1.trans s2).trans s3).trans s35).trans s6) d6
end
end HK


set_option maxRecDepth 100000
set_option maxHeartbeats 4000000
/-! L4: words for the law; Thread(..) away from W. -/
namespace HK
open PySem PySem.Spec PyProof.Rows L2
open Evl (Ex Ev EvT EvA EvL EvU RetV ev_var ev_c ev_op ev_un ea_nil ea_cons et_test et_B et_and et_or et_not ev_call ev_cb rv_I0 rv_I rv_eq rv_ixL rv_ixT ev_inU ev_niU eu_tup el_lst ev_len el_list q_when q_if q_asg q_drop s_asg s_ret s_if s_drop)
section
variable {K : PySem.W.Frag} {σ : L2.St} {H : Hp} {ta tb te tl : TE} {tr : TA} {x : V} {Q : VK} {r : R2}
theorem go_opR (ha : Ev ta σ H x) (hb : ∀ H1, Ex H H1 → tb σ H1 fun y H2 => r x y H2 Q) : tOp r ta tb σ H Q := ha H (Ex.refl H) _ hb
theorem ka_raw {Q : List V → Hp → Prop} (h : te σ H fun x H1 => tr σ H1 fun xs H2 => Q (x :: xs) H2) : tCons te tr σ H Q := h
theorem take_go {l : Addr} {ds : List Int} {b : Int} (hl : H l = some (.lst (ds.map V.int))) (hb : 0 < b) (h1 : Ev tl σ H (.ref l)) (h2 : Ev tb σ H (.int b)) (k : ∀ (r : Int) (ds' : List Int) H', ExB l H H' → H' l = some (.lst (ds'.map V.int)) → 0 ≤ r → r < b → Q (.int r) H') :
    tCall spTake [] E0 (tCons tl (tCons tb tNil)) σ H Q := go_call (ea_cons h1 (ea_cons h2 ea_nil)) fun H1 e1 => ⟨l, ds, b, rfl, e1 _ _ hl, hb, fun r ds' H' b' h' r0 rb => k r ds' H' (ExB.trans (ExB.of e1) b') h' r0 rb⟩
end
def spThNewW (K : PySem.W.Frag) (CT : Addr) : Sp := fun vs H Q _ => ∃ (W : Addr → Prop) (G : Hp) (p dx : Addr) (nm : V) (va bo : Addr) (th : Th), vs = [.ref p, nm, .ref va, .ref bo] ∧ H p = some (.ins CT dx []) ∧ Ex G H ∧ Dom W G ∧ G p = none ∧ DV K (mn G W) (dVars th.nx) (.ref va) ∧ DV K (mn G W) (.lst (th.body.map TSt.toD)) (.ref bo) ∧
  ∀ H', Ex G H' → ThAt K CT (mn H' W) p th → Q .non H'
section
variable {P : Program} {w : World} {K : PySem.W.Frag} {mg : Str → Option Value} {base : Heap} {aR CW CP CT : Addr}
theorem okw_thnew (T : Tx K mg aR) (c : ClsF K CT ksTh) (F : InitAt K mg "Thread" CT "Thread.__init__" sThreadInit) : Mak P w K mg base 1 "Thread" CT (spThNewW K CT) := by
  have S : FnScope ["self", "name", "variables", "body"] ["self", "name", "variables", "body"] (defScope sThreadInit) := ⟨rfl, rfl, rfl, by decide +kernel, rfl, by decide +kernel, by decide +kernel⟩
  refine mak_mk F S (fun _ _ _ _ _ _ us hl => match us, hl with | [_, _, _, _], _ => rfl) (fun vs H Q E h => ?_) (fun f cdv A outer s H vs Q E hr h => ?_)
  · obtain ⟨W, G, p, dx, nm, va, bo, th, rfl, _⟩ := h
    rfl
  · obtain ⟨W, G, p, dx, nm, va, bo, th, rfl, hp, eG, hW, gp, dva, dbo, k⟩ := h
    have na : ∀ f, f ∈ ksTh → NoAttr K CT f := c.na
    refine ⟨_, (pss_cons (ps_fld (pv 0) (pv 1) rfl)
  (pss_cons (ps_fld (pv 0) (pe_callTy call_list_of (by rfl) T.b.list (by decide +kernel) (pa_cons (pv 2) pa_nil)) rfl)
  (pss_one (ps_fld (pv 0) (pe_callTy call_list_of (by rfl) T.b.list (by decide +kernel) (pa_cons (pv 3) pa_nil)) rfl)))), ?_⟩
    obtain ⟨_, xs, hh, hva, r1⟩ := dva.lst_inv; cases hh
    obtain ⟨_, ys, hh, hbo, r2⟩ := dbo.lst_inv; cases hh
    refine q_fldN (ks := []) (vs := []) ev_v ev_v hp c.cl (na _ (by decide +kernel)) fun H1 b1 p1 => ?_
    have g1 : Ex G H1 := ExB.ex eG gp b1
    refine q_fldNL (el_list ev_v (sqL_of (g1 _ _ (mn_ex _ _ hva)))) ev_v p1 c.cl (na _ (by decide +kernel)) fun l2 H2 n2 b2 l2h p2 => ?_
    have g2 : Ex G H2 := ExB.ex g1 gp b2
    refine s_fldNL (el_list ev_v (sqL_of (g2 _ _ (mn_ex _ _ hbo)))) ev_v p2 c.cl (na _ (by decide +kernel)) fun l3 H3 n3 b3 l3h p3 => ?_
    have g3 : Ex G H3 := ExB.ex g2 gp b3
    have q2 : l2 ≠ p := (ne_of_none p1 n2).symm
    have w2 : ¬ W l2 := (hW.grow g1).new n2
    have w3 : ¬ W l3 := (hW.grow g2).new n3
    have wp : ¬ W p := hW.new gp
    exact k H3 g3 ⟨dx, l2, l3, nm, by rw [mn_at wp]; exact p3, .lst (by rw [mn_at w2]; exact b3 _ _ q2 l2h) (r1.monoW g3), .lst (by rw [mn_at w3]; exact l3h) (r2.monoW g3)⟩
end
end HK


set_option maxRecDepth 100000
set_option maxHeartbeats 4000000
/-! L5: law. -/
namespace HK
open PySem PySem.Spec PyProof.Rows L2
open Evl (Ex Ev EvT EvA EvL EvU RetV ev_var ev_c ev_op ev_un ea_nil ea_cons et_test et_B et_and et_or et_not ev_call ev_cb rv_I0 rv_I rv_eq rv_ixL rv_ixT ev_inU ev_niU eu_tup el_lst ev_len el_list q_when q_if q_asg q_drop s_asg s_ret s_if s_drop)
def spLaw (K : PySem.W.Frag) : Sp := fun vs H Q _ => ∃ (a : Addr) (ns : List Int), vs = [.ref a] ∧ SqL K H a (ns.map V.int) ∧ ns.length ≤ 63 ∧ ∀ H', Q (.bl true) H'
abbrev sLaw : Stmt := top 53
theorem tsD_send (N : Nat) (cur : List Int) (e : Int) : ((sendBody N (cur ++ [e])).map TSt.toD) = (sendBody N cur).map TSt.toD ++ [dSend "c" N (dNum e)] ++ [.tup [.str "say", dNum e]] := by
  unfold sendBody
  rw [List.flatMap_append, List.map_append, List.append_assoc]
  rfl
theorem tsD_recv (N n : Nat) : ((recvBody N (n + 1)).map TSt.toD) = (recvBody N n).map TSt.toD ++ [dReceive "c" N "x"] ++ [.tup [.str "say", .tup [.str "local", .str "x"]]] := by
  conv => lhs; unfold recvBody
  rw [List.map_append, List.append_assoc]
  rfl
theorem send_blen (N : Int) (cur : List Int) : (sendBody N cur).length = 2 * cur.length := by
  induction cur with
  | nil => rfl
  | cons e r ih =>
    show ((sendBody N r).length + 1 + 1) = _
    rw [ih, List.length_cons]; omega
theorem recv_blen (N : Int) (n : Nat) : (recvBody N n).length = 2 * n := by
  induction n with
  | zero => rfl
  | succ n ih =>
    unfold recvBody
    rw [List.length_append, ih]
    show _ + 2 = _
    omega
theorem ev_ab {K : PySem.W.Frag} {σ : L2.St} {H : Hp} {tb : TE} {i : Nat} (hi : i < 2) (hb : Ev tb σ H (.int (i : Int))) : ∃ z : Str, Ev (tOp (fun x y H Q => ∃ (z : Str) (i : Int) (c : _), x = V.str z ∧ y = .int i ∧ 0 ≤ i ∧ i < 2 ^ 63 ∧ i < z.length ∧ z.cps[i.toNat]? = some c ∧ Q (.str ⟨#[c]⟩) H) (tC (.str "ab")) tb) σ H (.str z) := by
  match i, hi with
  | 0, _ => exact ⟨_, ev_op ev_c hb fun H1 e Q q => ⟨"ab", 0, _, rfl, rfl, by decide, by decide, by decide, rfl, q H1 (Ex.refl _)⟩⟩
  | 1, _ => exact ⟨_, ev_op ev_c hb fun H1 e Q q => ⟨"ab", 1, _, rfl, rfl, by decide, by decide, by decide, rfl, q H1 (Ex.refl _)⟩⟩
def WL (l tl : Addr) : Addr → Prop := fun b => b = l ∨ b = tl
theorem mn_exB {l tl p : Addr} {H H' : Hp} (hp : WL l tl p) (b : ExB p H H') : Ex (mn H (WL l tl)) (mn H' (WL l tl)) := fun c o h => by
  obtain ⟨n, h⟩ := mn_some h
  rw [mn_at n]
  exact b _ _ (fun q => n (q ▸ hp)) h
theorem w2_l {l tl : Addr} : WL l tl l := .inl rfl
theorem w2_tl {l tl : Addr} : WL l tl tl := .inr rfl
structure LInv (K : PySem.W.Frag) (CT : Addr) (H : Hp) (l tl : Addr) (ps : List Addr) (N p : Nat) (its : Nat → List Int) (n : Nat) : Prop where
  ne : tl ≠ l
  hl : ∃ ds : List Int, H l = some (.lst (ds.map V.int))
  ht : H tl = some (.lst (ps.map V.ref))
  hn : ps.length = n
  th : ∀ i q, ps[i]? = some q → ThAt K CT (mn H (WL l tl)) q ⟨false, sendBody N (its i)⟩
  no : ∀ i, n ≤ i → its i = []
  len : ∀ i, (its i).length ≤ 4 - p
  item : ∀ k j e, (its k)[j]? = some e → k < p ∧ ∃ d, d < 10 ∧ e = item k j d
namespace LInv
variable {K : PySem.W.Frag} {CT : Addr} {H H' : Hp} {l tl : Addr} {ps : List Addr} {N p n : Nat} {its : Nat → List Int}
theorem grow (I : LInv K CT H l tl ps N p its n) (e : Ex H H') : LInv K CT H' l tl ps N p its n :=
  ⟨I.ne, I.hl.imp fun _ h => e _ _ h, e _ _ I.ht, I.hn, fun i q h => (I.th i q h).grow (mn_mono e), I.no, I.len, I.item⟩
theorem growB {ds : List Int} (I : LInv K CT H l tl ps N p its n) (e : ExB l H H') (h : H' l = some (.lst (ds.map V.int))) : LInv K CT H' l tl ps N p its n :=
  ⟨I.ne, ⟨ds, h⟩, e _ _ I.ne I.ht, I.hn, fun i q h => (I.th i q h).grow (mn_exB w2_l e), I.no, I.len, I.item⟩
theorem dom (I : LInv K CT H l tl ps N p its n) : Dom (WL l tl) H := fun b w => by
  obtain ⟨ds, h⟩ := I.hl
  rcases w with rfl | rfl
  · rw [h]; simp
  · rw [I.ht]; simp
end LInv
section
variable {K : PySem.W.Frag} {σ : L2.St} {H : Hp} {ta tb te tl : TE} {Q : VK} {D' : Ends} {tu tz : TS} {j : Nat} {g : TG}
theorem s_appX {l : Addr} {xs : List V} (ha : Ev ta σ H (.ref l)) (hl : H l = some (.lst xs)) (h : ∀ H1, Ex H H1 → te σ H1 fun x H2 => ∃ l' xs' y, V.ref l = .ref l' ∧ [x] = [y] ∧ H2 l' = some (.lst xs') ∧ xs'.length < sizeLine ∧ D'.nx σ (upd H2 l' (.lst (xs' ++ [y])))) :
    tDrop (tBM K "list" rAppend ta (tCons te tNil)) D' σ H := ha H (Ex.refl H) _ fun H1 e1 => ⟨.inl ⟨rfl, xs, sqL_of (e1 _ _ hl)⟩, h H1 e1⟩
theorem q_appX {l : Addr} {xs : List V} (ha : Ev ta σ H (.ref l)) (hl : H l = some (.lst xs)) (h : ∀ H1, Ex H H1 → te σ H1 fun x H2 => ∃ l' xs' y, V.ref l = .ref l' ∧ [x] = [y] ∧ H2 l' = some (.lst xs') ∧ xs'.length < sizeLine ∧ tz D' σ (upd H2 l' (.lst (xs' ++ [y])))) :
    tSeq (tDrop (tBM K "list" rAppend ta (tCons te tNil))) tz D' σ H := s_appX (D' := { D' with nx := tz D' }) ha hl h
theorem sw_setS {W : Addr → Prop} {i : Nat} (d : D) (h : EvW K W te σ H d) (q : ∀ v H2, Same H H2 → DV K (mn H2 W) d v → D'.nx (σ.set i (some v)) H2) : tAsg te (gName i) D' σ H := h.go q
theorem ev_min2 {i j : Int} (ha : Ev ta σ H (.int i)) (hb : Ev tb σ H (.int j)) : Ev (tCB (fun xs H Q => ∃ i j : Int, xs = [.int i, .int j] ∧ Q (.int (if j < i then j else i)) H) (tCons ta (tCons tb tNil))) σ H (.int (if j < i then j else i)) :=
  ev_cb (ea_cons ha (ea_cons hb ea_nil)) fun H1 _ Q q => ⟨i, j, rfl, q H1 (Ex.refl _)⟩
theorem said_at {ths : List Tr} {svs : List V} (r : DVs K H (ths.map fun t => .tup (t.said.map D.int)) svs) {k : Nat} {t : Tr} (h : ths[k]? = some t) : ∃ (tk : Addr) (xs : List V), svs[k]? = some (.ref tk) ∧ SqT K H tk xs ∧ xs.length = t.said.length := by
  obtain ⟨v, hv, dv⟩ := DVs.map_at r h
  obtain ⟨tk, xs, rfl, h1, r1⟩ := dv.tup_inv
  exact ⟨tk, xs, hv, h1, by rw [← r1.length, List.length_map]⟩
theorem et_nn {x : V} {b : Bool} (ha : Ev ta σ H x) (hb : (!decide (x = .non)) = b) : EvT (tTest (tOp (fun x y H Q => y = .non ∧ Q (.bl (!decide (x = .non))) H) ta (tC .non))) σ H b := et_test (ev_op ha ev_c fun H1 _ Q q => ⟨rfl, by rw [hb]; exact q H1 (Ex.refl _)⟩)
theorem q_forTake (h : te σ H fun x H1 => tSeq (tFor (iRng1 (tCons (tC x) tNil)) (gName j) tu) tz D' σ H1) : tSeq (tFor (iRng1 (tCons te tNil)) (gName j) tu) tz D' σ H := h
theorem q_forCall (h : te σ H fun x H1 => tSeq (tFor (iList K (tC x)) g tu) tz D' σ H1) : tSeq (tFor (iList K te) g tu) tz D' σ H := h
end
section
variable {P : Program} {w : World} {K : PySem.W.Frag} {mg : Str → Option Value} {base : Heap} {aR CW CP CT : Addr}
theorem ok_law (T : Tx K mg aR) {f : Addr} {fd : FuncData} (F : Fun K "law" "law" sLaw f fd) (c_law_draws : Cal P w K mg base 1 "_law_draws" (spDraws K)) (c_law_take : Cal P w K mg base 1 "_law_take" spTake) (c_send : Cal P w K mg base 3 "send" (spSendW K)) (c_receive : Cal P w K mg base 3 "receive" (spReceiveW K)) (c_channel : Cal P w K mg base 2 "channel" (spChannelW K))
    (k_Thread : Mak P w K mg base 1 "Thread" CT (spThNewW K CT)) (k_Program : Mak P w K mg base 1 "Program" CP (spPgNew K CP CT)) (k_World : Mak P w K mg base 20 "World" CW (spWoNew K CW CP CT)) (c_reachable : Cal P w K mg base 23 "reachable" (spReach K CP CT)) (c_law_fine : Cal P w K mg base 1 "_law_fine" (spFine K)) (m_end_of : Met P w K mg base 14 CW "end_of" (spEnd K CW CP CT)) : FnOk P w K mg base CX0 24 f fd ["_law_script"] (spLaw K) := by
  have S : FnScope ["_law_script", "_law_draws_here", "_law_size", "_law_senders", "_law_threads", "_law_total", "_law_k", "_law_body", "_law_j", "_law_number", "_law_asked", "_law_program", "_law_world", "_law_state", "_law_end", "_law_sent"] ["_law_script"] (defScope sLaw) := ⟨rfl, rfl, rfl, by decide +kernel, rfl, by decide +kernel, by decide +kernel⟩
  refine F.ok S (fun vs H Q E h => ?_) (fun cdv A outer s H vs Q E hr h => ?_)
  · obtain ⟨a, ns, rfl, _⟩ := h
    rfl
  · obtain ⟨a, ns, rfl, ha, hn, k⟩ := h
    have hu := hr.units
    refine ⟨_, (pss_cons (ps_set (i := 1) S.nd rfl (Or.inl rfl) (pe_c c_law_draws hr (pa_cons (pv 0) pa_nil)))
  (pss_cons (ps_set (i := 2) S.nd rfl (Or.inl rfl) (pe_op op_add pe_int (pe_c c_law_take hr (pa_cons (pv 1) (pa_cons pe_int pa_nil)))))
  (pss_cons (ps_set (i := 3) S.nd rfl (Or.inl rfl) (pe_op op_add pe_int (pe_c c_law_take hr (pa_cons (pv 1) (pa_cons pe_int pa_nil)))))
  (pss_cons (ps_set (i := 4) S.nd rfl (Or.inl rfl) (pe_lst pa_nil))
  (pss_cons (ps_set (i := 5) S.nd rfl (Or.inl rfl) pe_int)
  (pss_cons (ps_for PassesOwn.never rfl (pi_range1 rfl T.b.range (pa_cons (pv 3) pa_nil)) (pg_name (i := 6) S.nd rfl (Or.inl rfl))
  (pss_cons (ps_set (i := 7) S.nd rfl (Or.inl rfl) (pe_lst pa_nil))
  (pss_cons (ps_for PassesOwn.never rfl (pi_range1 rfl T.b.range (pa_cons (pe_c c_law_take hr (pa_cons (pv 1) (pa_cons (pe_op op_add (pe_op op_sub pe_int (pv 3)) pe_int) pa_nil))) pa_nil)) (pg_name (i := 8) S.nd rfl (Or.inl rfl))
  (pss_cons (ps_set (i := 9) S.nd rfl (Or.inl rfl) (pe_tup (pa_cons pe_str (pa_cons (pe_op op_add (pe_op op_add (pe_op op_mul pe_int (pv 6)) (pe_op op_mul pe_int (pv 8))) (pe_c c_law_take hr (pa_cons (pv 1) (pa_cons pe_int pa_nil)))) pa_nil))))
  (pss_cons (ps_set (i := 7) S.nd rfl (Or.inl rfl) (pe_op op_cat (pe_op op_cat (pv 7) (pe_c c_send hr (pa_cons pe_str (pa_cons (pv 2) (pa_cons (pv 9) pa_nil))))) (pe_lst (pa_cons (pe_tup (pa_cons pe_str (pa_cons (pv 9) pa_nil))) pa_nil))))
  (pss_one (ps_set (i := 5) S.nd rfl (Or.inl rfl) (pe_op op_add (pv 5) pe_int))))))
  (pss_one (ps_expr (pe_bm PySem.F.plainAttrs_list PySem.F.slot_list_append PySem.F.type_list_append mt_append (pv 4) (pa_cons (pe_mk k_Thread hr (pa_cons (pe_item_str pe_str (pv 6) (fun _ _ => rfl)) (pa_cons (pe_lst pa_nil) (pa_cons (pv 7) pa_nil)))) pa_nil)))))))
  (pss_cons (ps_set (i := 10) S.nd rfl (Or.inl rfl) (pe_callB (call_max2 rfl) (by rfl) T.b.max (by decide +kernel) (pa_cons pe_int (pa_cons (pe_op op_sub (pe_op op_add (pv 5) pe_int) (pe_c c_law_take hr (pa_cons (pv 1) (pa_cons pe_int pa_nil)))) pa_nil))))
  (pss_cons (ps_set (i := 7) S.nd rfl (Or.inl rfl) (pe_lst pa_nil))
  (pss_cons (ps_for PassesOwn.never rfl (pi_range1 rfl T.b.range (pa_cons (pv 10) pa_nil)) (pg_name (i := 8) S.nd rfl (Or.inl rfl))
  (pss_one (ps_set (i := 7) S.nd rfl (Or.inl rfl) (pe_op op_cat (pe_op op_cat (pv 7) (pe_c c_receive hr (pa_cons pe_str (pa_cons (pv 2) (pa_cons pe_str pa_nil))))) (pe_lst (pa_cons (pe_tup (pa_cons pe_str (pa_cons (pe_tup (pa_cons pe_str (pa_cons pe_str pa_nil))) pa_nil))) pa_nil))))))
  (pss_cons (ps_expr (pe_bm PySem.F.plainAttrs_list PySem.F.slot_list_append PySem.F.type_list_append mt_append (pv 4) (pa_cons (pe_mk k_Thread hr (pa_cons pe_str (pa_cons (pe_lst (pa_cons (pe_tup (pa_cons pe_str (pa_cons (pe_un un_neg pe_int) pa_nil))) pa_nil)) (pa_cons (pv 7) pa_nil)))) pa_nil)))
  (pss_cons (ps_set (i := 11) S.nd rfl (Or.inl rfl) (pe_mk k_Program hr (pa_cons (pe_lst (pa_cons (pe_c c_channel hr (pa_cons pe_str (pa_cons (pv 2) pa_nil))) pa_nil)) (pa_cons (pv 4) pa_nil))))
  (pss_cons (ps_set (i := 12) S.nd rfl (Or.inl rfl) (pe_mk k_World hr (pa_cons (pv 11) pa_nil)))
  (pss_cons (ps_for PassesOwn.never rfl (pi_list (pe_c c_reachable hr (pa_cons (pv 11) pa_nil))) (pg_name (i := 13) S.nd rfl (Or.inl rfl))
  (pss_cons (ps_if (pt_not (pt_val (pe_c c_law_fine hr (pa_cons (pv 13) (pa_cons (pv 3) (pa_cons (pv 2) pa_nil))))))
  (pss_one (ps_ret pe_bl))
  pss_nil)
  (pss_cons (ps_set (i := 14) S.nd rfl (Or.inr rfl) (pe_mt m_end_of hr (pv 12) (pa_cons (pv 13) pa_nil)))
  (pss_one (ps_if (pt_cmpR op_notN (pv 14) pe_non (nomark _))
  (pss_cons (ps_set (i := 15) S.nd rfl (Or.inl rfl) (pe_callB (cr_sum rfl) (by rfl) T.b.sum (by decide +kernel) (pa_cons (pe_lc (own := [("_law_k", 6)]) rfl S.nd (pi_range1 rfl T.b.range (pa_cons (pv 3) pa_nil)) (blkOk_by (own := [("_law_k", 6)]) (N := ["_law_script", "_law_draws_here", "_law_size", "_law_senders", "_law_threads", "_law_total", "_law_k", "_law_body", "_law_j", "_law_number", "_law_asked", "_law_program", "_law_world", "_law_state", "_law_end", "_law_sent"]) (sc := defScope sLaw) (by decide +kernel)) (fun _ _ _ _ _ => (pg_name (i := 6) S.nd rfl (Or.inl rfl))) (fun _ _ _ _ _ => pts_nil) (fun _ _ _ _ _ => (pe_callB (r := Evl.rLenS K) call_len_seq (by rfl) T.b.len (by decide +kernel) (pa_cons (pe_ix (r := rIxT K) ix_tup (pe_ix (r := rIxT K) ix_tup (pv 14) pe_int (fun _ _ => rfl)) (pv 6) (fun _ _ => rfl)) pa_nil)))) pa_nil)))
  (pss_one (ps_if (PW.pt (pw_or (pt_cmpR op_ne (pe_callB call_len_seq (by rfl) T.b.len (by decide +kernel) (pa_cons (pe_ix ix_tup (pe_ix ix_tup (pv 14) pe_int (fun _ _ => rfl)) (pv 3) (fun _ _ => rfl)) pa_nil)) (pe_callB (call_min2 rfl) (by rfl) T.b.min (by decide +kernel) (pa_cons (pv 10) (pa_cons (pv 15) pa_nil))) (nomark _)) (pw_or1 (pt_cmpR op_gt (pe_callB (call_min2 rfl) (by rfl) T.b.min (by decide +kernel) (pa_cons (pv 10) (pa_cons (pv 5) pa_nil))) (pe_callB call_len_seq (by rfl) T.b.len (by decide +kernel) (pa_cons (pe_ix ix_tup (pe_ix ix_tup (pv 14) pe_int (fun _ _ => rfl)) (pv 3) (fun _ _ => rfl)) pa_nil)) (nomark _)))))
  (pss_one (ps_ret pe_bl))
  pss_nil)))
  pss_nil)))))
  (pss_one (ps_ret pe_bl))))))))))))))), ?_⟩
    refine q_asgX (go_call (ea_cons ev_v ea_nil) fun H1 e1 => ⟨a, ns, rfl, Same.seq e1 ha, by omega, fun l ds0 H2 n2 e2 h2 => ?_⟩)
    refine q_asgX (go_opR ev_c fun H3 e3 => take_go (e3 _ _ h2) (by decide) ev_v ev_c fun r1 ds1 H4 b4 h4 r0 rb => ⟨_, _, rfl, rfl, ?_⟩)
    obtain ⟨N, hNe, hN⟩ : ∃ N : Nat, 1 + r1 = (N : Int) ∧ (N = 1 ∨ N = 2) := ⟨(1 + r1).toNat, by omega, by omega⟩
    dsimp only
    rw [hNe]
    clear rb r0 hNe
    refine q_asgX (go_opR ev_c fun H5 e5 => take_go (e5 _ _ h4) (by decide) ev_v ev_c fun r2 ds2 H6 b6 h6 r0 rb => ⟨_, _, rfl, rfl, ?_⟩)
    obtain ⟨p, hpe, hp⟩ : ∃ p : Nat, 1 + r2 = (p : Int) ∧ (p = 1 ∨ p = 2) := ⟨(1 + r2).toNat, by omega, by omega⟩
    dsimp only
    rw [hpe]
    clear rb r0 hpe
    refine Evl.q_asgL (el_lst ea_nil (by decide)) fun tl H7 n7 e7 h7 => ?_
    refine q_asg ev_c fun H8 e8 => ?_
    have h78 := e8 _ _ h7
    have h68 := (Ex.trans e7 e8) _ _ h6
    have netl : tl ≠ l := fun q => by rw [q, h6] at n7; cases n7
    refine Evl.q_forR1 (n := (p : Int)) (ea_cons ev_v ea_nil) (by omega) (fun i σ' H' => ∃ (its : Nat → List Int) (ps : List Addr) (v6 v7 v8 v9 : Option V), σ' = [some (.ref a), some (.ref l), some (.int N), some (.int p), some (.ref tl), some (.int (((its 0).length + (its 1).length : Nat) : Int)), v6, v7, v8, v9, none, none, none, none, none, none] ∧ LInv K CT H' l tl ps N p its i) (fun H9 e9 => ?_) ?_ ?_
    · refine ⟨fun _ => [], [], none, none, none, none, rfl, ⟨netl, ⟨ds2, e9 _ _ h68⟩, e9 _ _ h78, rfl, fun i q h => by simp at h, fun _ _ => rfl, fun _ => Nat.zero_le _, fun k j e h => by simp at h⟩⟩
    · rintro i σ' H9 hi ⟨its, ps, v6, v7, v8, v9, rfl, I⟩
      refine Evl.q_asgL (el_lst ea_nil (by decide)) fun bl H10 n10 e10 h10 => ?_
      have I10 := I.grow e10
      obtain ⟨ds10, hl10⟩ := I10.hl
      refine q_forTake (take_go hl10 (b := 4 - (p : Int) + 1) (by omega) ev_v (ev_op (ev_op ev_c ev_v rv_I0) ev_c rv_I0) fun r ds11 H11 b11 h11 r0 rb => ?_)
      have I11 := I10.growB b11 h11
      refine Evl.q_forR1 (n := r) (ea_cons ev_c ea_nil) (by omega) (fun j σ' H' => ∃ (cur : List Int) (bl : Addr) (v8 v9 : Option V), σ' = [some (.ref a), some (.ref l), some (.int N), some (.int p), some (.ref tl), some (.int (((its 0).length + (its 1).length + cur.length : Nat) : Int)), some (.int (i : Int)), some (.ref bl), v8, v9, none, none, none, none, none, none] ∧
        LInv K CT H' l tl ps N p its i ∧ cur.length = j ∧ (∀ (j : Nat) (e : Int), cur[j]? = some e → ∃ d, d < 10 ∧ e = item i j d) ∧ DV K (mn H' (WL l tl)) (.lst ((sendBody N cur).map TSt.toD)) (.ref bl)) (fun H12 e12 => ?_) ?_ ?_
      · refine ⟨[], bl, _, _, rfl, I11.grow e12, rfl, fun j e h => by simp at h, ?_⟩
        refine DV.mono (mn_mono e12) ?_
        refine DV.mono (mn_exB w2_l b11) ?_
        refine .lst (xs := []) ?_ .nil
        rw [mn_at fun w => I.dom.new n10 w]
        exact h10
      · rintro j σ' H12 hj ⟨cur, bl2, v8', v9', rfl, I12, c1, c2, c3⟩
        obtain ⟨ds12, hl12⟩ := I12.hl
        refine q_asgX (ka_cons ev_c fun H13 e13 => ka_raw (go_opR (ev_op (ev_op ev_c ev_v (rv_I (.inr ⟨by omega, by omega⟩))) (ev_op ev_c ev_v (rv_I (.inr ⟨by omega, by omega⟩))) rv_I0) fun H14 e14 => take_go ((Ex.trans e13 e14) _ _ hl12) (by decide) ev_v ev_c fun d ds15 H15 b15 h15 d0 db => ⟨_, _, rfl, rfl, ?_⟩))
        obtain ⟨dn, rfl, hdn⟩ : ∃ dn : Nat, d = (dn : Int) ∧ dn < 10 := ⟨d.toNat, by omega, by omega⟩
        refine ⟨by show 2 ≤ _; decide, fun q hq => ?_⟩
        have hit : (100 * (i : Int) + 10 * (j : Int) + (dn : Int)) = item i j dn := rfl
        dsimp only [gName]
        rw [hit]
        have I15 := (I12.grow (Ex.trans e13 e14)).growB b15 h15
        have I16 := I15.grow (Ex.new (o := .tup [.str "number", .int (item i j dn)]) hq)
        have c15 : DV K (mn (upd H15 q (.tup [.str "number", .int (item i j dn)])) (WL l tl)) (.lst ((sendBody N cur).map TSt.toD)) (.ref bl2) :=
          ((c3.monoW (Ex.trans e13 e14)).mono (mn_exB w2_l b15)).monoW (Ex.new hq)
        have dq : DV K (mn (upd H15 q (.tup [.str "number", .int (item i j dn)])) (WL l tl)) (dNum (item i j dn)) (.ref q) := .tup (sqT_of (mn_new I15.dom hq)) (.cons (.str _) (.cons (.int _) .nil))
        have hW := I16.dom
        generalize hH16 : upd H15 q (.tup [.str "number", .int (item i j dn)]) = H16 at I16 c15 dq hW
        have hbl := send_blen N cur
        refine sw_set (WL l tl) (K := K) (.lst ((sendBody N cur).map TSt.toD ++ [dSend "c" N (dNum (item i j dn))] ++ [.tup [.str "say", dNum (item i j dn)]])) ?_ fun v17 H17 s17 d17 => ?_
        · exact evw_cat (evw_cat (evw_var c15) (evw_call (evws_cons evw_str (evws_cons (evw_var (.int _)) (evws_cons (evw_var dq) evws_nil))) fun vs H1 Q E s a r => ⟨WL l tl, _, _, _, Dom.grow (by assumption) s, a, by omega, by omega, r⟩) (by rw [List.length_map, hbl]; show _ + 1 ≤ _; omega))
            (evw_lst (evws_cons (evw_tup (evws_cons evw_str (evws_cons (evw_var dq) evws_nil))) evws_nil)) (by rw [List.length_append, List.length_map, hbl]; show _ + 1 + 1 ≤ _; omega)
        rw [← tsD_send] at d17
        obtain ⟨bl3, _, rfl, _⟩ := d17.lst_inv
        refine s_asg (Evl.ev_is (ev_op ev_v ev_c rv_I0) (w := .int (((its 0).length + (its 1).length + (cur ++ [item i j dn]).length : Nat) : Int)) ?_) fun H18 e18 => ?_
        · rw [List.length_append, List.length_singleton]
          rfl
        · refine ⟨cur ++ [item i j dn], bl3, _, _, rfl, I16.grow (Ex.trans s17 e18), by rw [List.length_append, List.length_singleton, c1], fun j' e he => ?_, d17.monoW e18⟩
          by_cases hjj : j' < cur.length
          · rw [List.getElem?_append_left hjj] at he
            exact c2 j' e he
          · rw [List.getElem?_append_right (by omega)] at he
            have : j' - cur.length = 0 := by
              have := (List.getElem?_eq_some_iff.mp he).1
              simp at this
              omega
            rw [this] at he
            have hjj' : j' = j := by omega
            exact ⟨dn, hdn, by rw [hjj']; exact (Option.some.inj he).symm⟩
      · rintro σ' H12 ⟨cur, bl2, v8', v9', rfl, I12, c1, c2, c3⟩
        have hrn : cur.length ≤ 4 - p := by omega
        obtain ⟨nm, hnm⟩ := ev_ab (K := K) (σ := [some (.ref a), some (.ref l), some (.int N), some (.int p), some (.ref tl), some (.int (((its 0).length + (its 1).length + cur.length : Nat) : Int)), some (.int (i : Int)), some (.ref bl2), v8', v9', none, none, none, none, none, none]) (H := H12) (tb := tVar 6) (i := i) (by omega) ev_v
        refine s_appX ev_v I12.ht fun H13 e13 => ?_
        refine ka_cons (hnm.mono e13) fun H14 e14 => ?_
        refine ka_consL (ys := []) (el_lst ea_nil (by decide)) fun va H15 n15 e15 h15 => ?_
        refine ka_cons ev_v fun H16 e16 => ?_
        refine (ea_nil : EvA tNil _ _ []) H16 (Ex.refl _) _ fun H17 e17 => ?_
        intro x dxo nx nd ne
        have e1217 := Ex.trans (Ex.trans e13 e14) (Ex.trans e15 (Ex.trans e16 e17))
        have eN : Ex H17 (upd (upd H17 dxo (.own x)) x (.ins CT dxo [])) := Ex.trans (Ex.new nd) (Ex.new (by rw [upd_ne ne.symm]; exact nx))
        have I17 := I12.grow e1217
        have nva : ¬ WL l tl va := (I12.dom.grow (Ex.trans e13 e14)).new n15
        refine ⟨WL l tl, H17, x, dxo, _, va, bl2, ⟨false, sendBody N cur⟩, rfl, upd_same, eN, I17.dom, nx, .lst (xs := []) ?_ .nil, c3.monoW e1217, fun H18 e18 t18 => ⟨rfl, ?_⟩⟩
        · rw [mn_at nva]
          exact (Ex.trans e16 e17) _ _ h15
        have I18 := I17.grow e18
        refine ⟨tl, _, _, rfl, rfl, I18.ht, ?_, ?_⟩
        · rw [List.length_map, I18.hn]
          exact Evl.sz_lt (by omega)
        have e1218 := Ex.trans e1217 e18
        obtain ⟨its2, hi1, hi2⟩ : ∃ f : Nat → List Int, f i = cur ∧ ∀ m, m ≠ i → f m = its m := ⟨fun m => if m = i then cur else its m, if_pos rfl, fun m h => if_neg h⟩
        have hni := I12.no i (Nat.le_refl i)
        have htot : (its 0).length + (its 1).length + cur.length = (its2 0).length + (its2 1).length := by
          have h01 : i = 0 ∨ i = 1 := by omega
          rcases h01 with rfl | rfl
          · rw [hi1, hi2 1 (by decide), hni, List.length_nil]; omega
          · rw [hi1, hi2 0 (by decide), hni, List.length_nil]; omega
        have eU : Ex (mn H18 (WL l tl)) (mn (upd H18 tl (.lst (ps.map V.ref ++ [.ref x]))) (WL l tl)) := mn_exB w2_tl (ExB.upd (Ex.refl _))
        obtain ⟨ds18, hl18⟩ := I18.hl
        refine ⟨its2, ps ++ [x], _, _, _, _, by rw [htot], ⟨I18.ne, ⟨ds18, by rw [upd_ne I18.ne.symm]; exact hl18⟩, by rw [upd_same, List.map_append]; rfl, by rw [List.length_append, I18.hn, List.length_singleton], fun m q hq => ?_, fun m hm => ?_, fun m => ?_, fun k' j' e he => ?_⟩⟩
        · by_cases hmi : m < ps.length
          · rw [List.getElem?_append_left hmi] at hq
            have := I18.hn
            rw [hi2 m (by omega)]
            exact (I18.th m q hq).grow eU
          · rw [List.getElem?_append_right (by omega)] at hq
            have hm0 : m - ps.length = 0 := by
              have := (List.getElem?_eq_some_iff.mp hq).1
              simp at this
              omega
            rw [hm0] at hq
            have hqx : x = q := Option.some.inj hq
            have hme : m = i := by have := I18.hn; omega
            rw [hme, hi1, ← hqx]
            exact t18.grow eU
        · rw [hi2 m (by omega)]
          exact I18.no m (by omega)
        · by_cases hmi : m = i
          · rw [hmi, hi1]; exact hrn
          · rw [hi2 m hmi]; exact I18.len m
        · by_cases hmi : k' = i
          · rw [hmi, hi1] at he
            rw [hmi]
            exact ⟨by omega, c2 j' e he⟩
          · rw [hi2 k' hmi] at he
            exact I18.item k' j' e he
    · rintro σ' H9 ⟨its, ps, v6, v7, v8, v9, rfl, I⟩
      rw [Int.toNat_natCast] at I
      refine q_asgX (ka_cons ev_c fun H10 e10 => ka_raw (go_opR (ev_op ev_v ev_c rv_I0) fun H11 e11 => ?_))
      obtain ⟨ds9, hl9⟩ := I.hl
      refine take_go ((Ex.trans e10 e11) _ _ hl9) (by decide) ev_v ev_c fun r ds12 H12 b12 h12 r0 rb => ⟨_, _, rfl, rfl, ?_⟩
      refine ⟨_, _, rfl, ?_⟩
      have I12 := (I.grow (Ex.trans e10 e11)).growB b12 h12
      have hT : (its 0).length + (its 1).length ≤ 4 := by
        have h0 := I.len 0
        have h1 := I.len 1
        rcases hp with rfl | rfl
        · rw [I.no 1 (Nat.le_refl _)]; rw [List.length_nil]; omega
        · omega
      generalize hTe : (its 0).length + (its 1).length = T0 at hT ⊢
      obtain ⟨A0, hA, hA5⟩ : ∃ A0 : Nat, (if ((T0 : Int) + 1 - r) > 0 then ((T0 : Int) + 1 - r) else 0) = (A0 : Int) ∧ A0 ≤ 5 := ⟨((T0 : Int) + 1 - r).toNat, by split <;> omega, by omega⟩
      dsimp only [gName]
      rw [hA]
      refine Evl.q_asgL (el_lst ea_nil (by decide)) fun bl H13 n13 e13 h13 => ?_
      refine Evl.q_forR1 (n := (A0 : Int)) (ea_cons ev_v ea_nil) (by omega) (fun j σ' H' => ∃ (bl : Addr) (v8 : Option V), σ' = [some (.ref a), some (.ref l), some (.int N), some (.int p), some (.ref tl), some (.int (T0 : Int)), v6, some (.ref bl), v8, v9, some (.int (A0 : Int)), none, none, none, none, none] ∧
        LInv K CT H' l tl ps N p its p ∧ DV K (mn H' (WL l tl)) (.lst ((recvBody N j).map TSt.toD)) (.ref bl)) (fun H14 e14 => ?_) ?_ ?_
      · refine ⟨bl, _, rfl, I12.grow (Ex.trans e13 e14), ?_⟩
        refine .lst (xs := []) ?_ .nil
        rw [mn_at fun w => I12.dom.new n13 w]
        exact e14 _ _ h13
      · rintro j σ' H14 hj ⟨bl2, v8', rfl, I14, c3⟩
        have hbl := recv_blen N j
        have hW := I14.dom
        refine sw_setS (W := WL l tl) (K := K) (.lst ((recvBody N j).map TSt.toD ++ [dReceive "c" N "x"] ++ [.tup [.str "say", .tup [.str "local", .str "x"]]])) ?_ fun v15 H15 s15 d15 => ?_
        · exact evw_cat (evw_cat (evw_var c3) (evw_call (evws_cons evw_str (evws_cons (evw_var (.int _)) (evws_cons evw_str evws_nil))) fun vs H1 Q E s a r => ⟨WL l tl, _, _, _, Dom.grow (by assumption) s, a, by omega, by omega, r⟩) (by rw [List.length_map, hbl]; show _ + 1 ≤ _; omega))
            (evw_lst (evws_cons (evw_tup (evws_cons evw_str (evws_cons (evw_tup (evws_cons evw_str (evws_cons evw_str evws_nil))) evws_nil))) evws_nil)) (by rw [List.length_append, List.length_map, hbl]; show _ + 1 + 1 ≤ _; omega)
        · rw [← tsD_recv] at d15
          obtain ⟨bl3, _, rfl, _⟩ := d15.lst_inv
          exact ⟨bl3, _, rfl, I14.grow s15, d15⟩
      · rintro σ' H14 ⟨bl2, v8', rfl, I14, c3⟩
        rw [Int.toNat_natCast] at c3
        refine q_appX ev_v I14.ht fun H15 e15 => ?_
        refine ka_cons ev_c fun H16 e16 => ?_
        have hW16 := I14.dom.grow (Ex.trans e15 e16)
        refine ka_raw ((evw_lst (W := WL l tl) (K := K) (ds := [.tup [.str "x", .int (-1)]]) (evws_cons (evw_tup (evws_cons evw_str (evws_cons (evw_ev (ev_un ev_c Evl.ru_neg) (.int _)) evws_nil))) evws_nil)).go fun va H17 s17 d17 => ?_)
        obtain ⟨va, vx, rfl, _⟩ := id d17.lst_inv
        refine ka_cons ev_v fun H18 e18 => ?_
        refine (ea_nil : EvA tNil _ _ []) H18 (Ex.refl _) _ fun H19 e19 => ?_
        intro x dxo nx nd ne
        have e1419 := Ex.trans (Ex.trans e15 e16) (Ex.trans s17 (Ex.trans e18 e19))
        have eN : Ex H19 (upd (upd H19 dxo (.own x)) x (.ins CT dxo [])) := Ex.trans (Ex.new nd) (Ex.new (by rw [upd_ne ne.symm]; exact nx))
        have I19 := I14.grow e1419
        refine ⟨WL l tl, H19, x, dxo, _, va, bl2, ⟨true, recvBody N A0⟩, rfl, upd_same, eN, I19.dom, nx, d17.monoW (Ex.trans e18 e19), c3.monoW e1419, fun H20 e20 t20 => ⟨rfl, ?_⟩⟩
        have I20 := I19.grow e20
        refine ⟨tl, _, _, rfl, rfl, I20.ht, ?_, ?_⟩
        · rw [List.length_map, I20.hn]
          exact Evl.sz_lt (by omega)
        have eU : Ex (mn H20 (WL l tl)) (mn (upd H20 tl (.lst (ps.map V.ref ++ [.ref x]))) (WL l tl)) := mn_exB w2_tl (ExB.upd (Ex.refl _))
        have htl : (upd H20 tl (.lst (ps.map V.ref ++ [.ref x]))) tl = some (.lst ((ps ++ [x]).map V.ref)) := by rw [upd_same, List.map_append]; rfl
        have hm3 : ∀ k, (its k).length ≤ 3 := fun k => by have := I.len k; omega
        obtain ⟨C, hCN, hCp, hCi, hCa⟩ : ∃ C : Cfg, C.N = N ∧ C.p = p ∧ C.its = its ∧ C.asked = A0 := ⟨⟨N, p, its, A0, hN, hp, hm3, by omega, I.item, hA5⟩, rfl, rfl, rfl, rfl⟩
        subst hCN; subst hCp; subst hCi; subst hCa
        have hths : ThAts K CT (upd H20 tl (.lst (ps.map V.ref ++ [.ref x]))) (ps ++ [x]) C.ths := by
          refine ⟨by rw [List.length_append, I20.hn]; unfold Cfg.ths; rw [app_len]; rfl, fun m q th hq hth => ?_⟩
          have hpn := I20.hn
          by_cases hmi : m < ps.length
          · rw [List.getElem?_append_left hmi] at hq
            rw [C.ths_lt (by omega)] at hth
            cases hth
            exact ((I20.th m q hq).grow eU).grow mn_ex
          · rw [List.getElem?_append_right (by omega)] at hq
            have hm0 : m - ps.length = 0 := by
              have := (List.getElem?_eq_some_iff.mp hq).1
              simp at this
              omega
            rw [hm0] at hq
            have hqx : x = q := Option.some.inj hq
            have hme : m = C.p := by omega
            rw [hme, C.ths_eq] at hth
            cases hth
            rw [← hqx]
            exact (t20.grow eU).grow mn_ex
        generalize upd H20 tl (.lst (ps.map V.ref ++ [.ref x])) = H21 at htl hths ⊢
        have hWF : Dom (fun _ => False) H21 := fun _ w => w.elim
        have hCN := C.N2
        have hCN1 := C.N1
        refine q_asgX ?_
        refine ka_raw ((evw_lst (W := fun _ => False) (K := K) (ds := [.tup [.str "c", .int ((C.N : Int) + 2), .int 0]]) (evws_cons (evw_call (evws_cons evw_str (evws_cons (evw_var (.int _)) evws_nil)) fun vs H1 Q E s a r => ⟨fun _ => False, _, _, Dom.grow (by assumption) s, a, by omega, by omega, r⟩) evws_nil)).go fun ce H22 s22 d22 => ?_)
        obtain ⟨ce, _, rfl, _⟩ := id d22.lst_inv
        refine ka_cons ev_v fun H23 e23 => (ea_nil : EvA tNil _ _ []) H23 (Ex.refl _) _ fun H24 e24 => ?_
        intro pg dpg nx2 nd2 ne2
        have eN2 : Ex H24 (upd (upd H24 dpg (.own pg)) pg (.ins CP dpg [])) := Ex.trans (Ex.new nd2) (Ex.new (by rw [upd_ne ne2.symm]; exact nx2))
        have e2124 := Ex.trans s22 (Ex.trans e23 e24)
        refine ⟨H24, pg, dpg, ce, tl, ps ++ [x], (C.N : Int), C.ths, rfl, upd_same, eN2, nx2, (d22.mono mn_ex).mono (Ex.trans e23 e24), e2124 _ _ htl, hths.grow e2124, fun H25 e25 g25 => ⟨rfl, ?_⟩⟩
        refine q_asgX ?_
        refine ka_cons ev_v fun H26 e26 => (ea_nil : EvA tNil _ _ []) H26 (Ex.refl _) _ fun H27 e27 => ?_
        intro wo dwo nx3 nd3 ne3
        have eN3 : Ex H27 (upd (upd H27 dwo (.own wo)) wo (.ins CW dwo [])) := Ex.trans (Ex.new nd3) (Ex.new (by rw [upd_ne ne3.symm]; exact nx3))
        have g27 := g25.grow (Ex.trans e26 e27)
        have hcs : C.cs.length = C.p + 1 := by unfold Cfg.cs; rw [app_len]
        refine ⟨H27, wo, dwo, pg, (C.N : Int), C.ths, C.cs, rfl, upd_same, eN3, nx3, g27, C.go_all, by unfold Cfg.ths; rw [app_len]; omega, fun H28 e28 w28 => ⟨rfl, ?_⟩⟩
        refine q_forCall (go_call (ea_cons ev_v ea_nil) fun H29 e29 => ⟨pg, (C.N : Int), C.ths, C.cs, _, C.sys, rfl, g27.grow (Ex.trans e28 e29), fun sl xs svs H30 e30 hsl hsv hsub hxl => ?_⟩)
        refine Evl.q_forLn ev_c (sqL_of hsl) (fun i σ' H' => Ex H30 H' ∧ ∃ (v13 v14 v15 : Option V), σ' = [some (.ref a), some (.ref l), some (.int C.N), some (.int C.p), some (.ref tl), some (.int (T0 : Int)), v6, some (.ref bl2), v8', v9, some (.int (C.asked : Int)), some (.ref pg), some (.ref wo), v13, v14, v15])
          (fun H31 e31 => ⟨e31, _, _, _, rfl⟩) (fun i σ' H' _ h => Same.seq h.1 (sqL_of hsl)) (fun i y σ' H' hy h => ?_) (fun σ' H' h => ?_)
        · obtain ⟨e31, v13, v14, v15, rfl⟩ := h
          have hil : i < xs.length := by
            have h1 := (List.getElem?_eq_some_iff.mp hy).1
            rw [← hsv.length, List.length_map] at h1
            exact h1
          have hxi : xs[i]? = some xs[i] := List.getElem?_eq_getElem hil
          obtain ⟨y', hy', dy⟩ := DVs.map_at hsv hxi
          rw [hy] at hy'
          cases hy'
          generalize hxx : xs[i] = xx at hxi dy
          have hok : C.Ok xx := Cfg.all_ok.mp (hsub (by rw [← hxx]; exact List.getElem_mem _))
          have dy : DV K H30 (C.S xx).toD y := dy
          refine q_when (b := false) (et_not (a := true) (et_test (ev_calln (ea_cons ev_v (ea_cons ev_v (ea_cons ev_v ea_nil))) fun H1 e1 Q q E => ⟨C.S xx, y, C.p, C.N, rfl, dy.mono (Ex.trans e31 e1), C.fine hok, by omega, q⟩))) (fun q => nomatch q) fun _ H32 e32 => ?_
          have e2832 := Ex.trans (Ex.trans e29 e30) (Ex.trans e31 e32)
          obtain ⟨dw, pgw, cl, kl, cvs, hwo, _⟩ := id w28
          refine q_asgX (go_meth ev_v (e2832 _ _ hwo) (fz_none (by decide +kernel)) (ea_cons ev_v ea_nil) fun H33 e33 => ⟨wo, (C.N : Int), C.ths, C.cs, C.S xx, y, C.r xx, rfl, w28.grow (Ex.trans e2832 e33), dy.mono (Ex.trans e31 (Ex.trans e32 e33)), by omega, by show (app _ _ _).length < _; rw [app_len]; omega, fun n hn => Cfg.case_ok hok (by omega), fun hne H34 e34 => ?_, fun heq v34 H34 e34 d34 => ?_⟩)
          · refine Evl.s_when (b := false) (et_nn ev_v rfl) (fun q => nomatch q) fun _ H35 e35 => ⟨Ex.trans (Ex.trans (Ex.trans e31 e32) (Ex.trans e33 e34)) e35, _, _, _, rfl⟩
          · obtain ⟨ea, es, rfl, hea, res⟩ := d34.tup_inv
            obtain ⟨_, _, sv, rfl, _, _, d3⟩ := dvs3 res
            obtain ⟨sd, sds, rfl, hsd, rsd⟩ := d3.tup_inv
            obtain ⟨hx2, hx3⟩ := Cfg.end_ok hok heq
            have hrl := hok.rl
            have hcv := C.vals_len xx.1
            obtain ⟨tr, trs, htr, hst, hlr⟩ := said_at rsd (C.S_eq xx)
            have hlr : trs.length = xx.2 := by
              rw [hlr]
              show ((C.vals xx.1).take xx.2).length = _
              rw [List.length_take]; omega
            have h2 := Cfg.count2 xx.1 fun k hk => by have := hok.mem k hk; have := C.p2; omega
            have hsum : (((List.range C.p).map fun k => ((xx.1.count k : Nat) : Int))).sum = ((xx.1.length : Nat) : Int) := by
              rcases C.hp with h | h
              · have h1 := hok.cnt 1
                rw [C.its_none (by omega), List.length_nil] at h1
                rw [h]
                show ((xx.1.count 0 : Nat) : Int) + 0 = _
                omega
              · rw [h]
                show ((xx.1.count 0 : Nat) : Int) + (((xx.1.count 1 : Nat) : Int) + 0) = _
                omega
            have hgv : Evl.given (C.p : Int).toNat (fun _ => true) (fun k => V.int ((xx.1.count k : Nat) : Int)) = (((List.range C.p).map fun k => ((xx.1.count k : Nat) : Int))).map V.int := by
              unfold Evl.given
              rw [Int.toNat_natCast, List.filter_eq_self.mpr fun _ _ => rfl, List.map_map]
              rfl
            have hp2 := C.p2
            refine Evl.s_when (b := true) (et_nn ev_v rfl) (fun _ H35 e35 => ?_) (fun q => nomatch q)
            have hea5 := Same.sqT e35 hea
            have hsd5 := Same.sqT e35 hsd
            refine q_asg (v := .int ((xx.1.length : Nat) : Int)) ?_ fun H36 e36 => ?_
            · refine fun H1 e1 Q q => ?_
              refine ka_consL (ys := (((List.range C.p).map fun k => ((xx.1.count k : Nat) : Int))).map V.int) ((el_is (Evl.el_lcR1 (n := (C.p : Int)) (fun _ => true) (fun k => V.int ((xx.1.count k : Nat) : Int)) (ea_cons ev_v ea_nil) (by omega) (fun _ => rfl) (fun _ _ _ _ => et_yes) (fun k H2 e2 hk _ => ?_)) hgv).mono e1) fun sl2 H2 n2 e2 h2' => ?_
              · obtain ⟨tk, ts, htk, hts, hlt⟩ := said_at rsd (C.S_lt xx (k := k) (by omega))
                refine Evl.ev_is (ev_lenT (ev_ixtv (ev_ixt (j := 2) ev_v (Same.sqT e2 hea5) rfl) (Same.sqT e2 hsd5) ev_v htk) (Same.sqT (Ex.trans e35 e2) hts)) ?_
                rw [hlt]
                show V.int (((((C.its k).take (xx.1.count k)).length : Nat)) : Int) = _
                rw [List.length_take, Nat.min_eq_left (hok.cnt k)]
              · exact ⟨sl2, _, rfl, sqL_of h2', by rw [hsum]; exact q H2 e2⟩
            · have hst6 := Same.sqT (Ex.trans e35 e36) hst
              refine Evl.s_when (b := false) (Evl.et_is (et_or (a := false) (b := false) (Evl.et_is (et_test (ev_op (ev_lenT (ev_ixtv (ev_ixt (j := 2) ev_v (Same.sqT e36 hea5) rfl) (Same.sqT e36 hsd5) ev_v htr) hst6) (ev_min2 ev_v ev_v) (Evl.rv_ne rfl))) ?_) fun _ => Evl.et_is (et_test (ev_op (ev_min2 ev_v ev_v) (ev_lenT (ev_ixtv (ev_ixt (j := 2) ev_v (Same.sqT e36 hea5) rfl) (Same.sqT e36 hsd5) ev_v htr) hst6) rv_I0)) ?_) rfl) (fun q => nomatch q) fun _ H37 e37 => ⟨Ex.trans (Ex.trans (Ex.trans e31 e32) (Ex.trans e33 e34)) (Ex.trans e35 (Ex.trans e36 e37)), _, _, _, rfl⟩
              · rw [hlr]
                have : (if ((xx.1.length : Nat) : Int) < (C.asked : Int) then ((xx.1.length : Nat) : Int) else (C.asked : Int)) = (xx.2 : Int) := by split <;> omega
                rw [this]
                simp
              · rw [hlr]
                refine decide_eq_false ?_
                have : (C.asked : Int) ≤ xx.2 ∨ (T0 : Int) ≤ xx.2 := by omega
                split <;> omega
        · obtain ⟨e31, v13, v14, v15, rfl⟩ := h
          exact s_ret ev_c fun H2 e2 => k H2
end
end HK


set_option maxRecDepth 100000
set_option maxHeartbeats 4000000
/-! H1: facts of the head. -/
namespace HK
open PySem PySem.Spec PyProof.Rows L2
theorem funOf {K : PySem.W.Frag} {x q : Str} {st : Stmt} {f : Addr} {fd : FuncData} (F : FunD K x q (defArgs st) (defBody st) (defScope st) [] [] f fd) : Fun K x q st f fd := by
  obtain ⟨oc, od, dV, kV, doc, pm, an, cdv, ct, osl, h1, h2, h3, h4, _⟩ := F.ex
  rcases h4 with ⟨_, rfl⟩ | ⟨h, _⟩
  · exact ⟨⟨oc, od, kV, doc, pm, an, cdv, ct, osl, h1, h2, h3⟩, F.kp⟩
  · exact absurd rfl h
open He (ba) in
theorem sup_at {P : Program} {K : PySem.W.Frag} {mg : Str → Option Value} {x qual file : Str} {st : Stmt} (hB : supB K x qual file = true) (hW : supW K x = supV qual st) (hfile : ((P.main.file : Str) == file) = true)
    (hs : (P.main.scope.names.lookup ("super" : Str)).isSome = false) (mk : Mk K (He.ga K x) (He.ma K (He.ga K x) "__init__")) (g : mg x = some (.ref (He.ga K x))) : SupAt P K mg x (He.ga K x) qual st (He.ma K (He.ga K "Translator") "__init__") := by
  unfold supB at hB
  unfold supW supV at hW
  cases q : K.lookup (He.ma K (He.ga K x) "__init__") with
  | none => rw [q] at hB; cases hB
  | some o =>
    obtain ⟨oc, od, dt, osl⟩ := o
    rw [q] at hB hW
    cases dt with
    | func fd =>
      obtain ⟨n1, n2, n3, n4, n5, n6, n7, n8, n9, n10, n11, n12, n13, n14, n15⟩ := fd
      dsimp only at hB hW
      simp only [Option.some.injEq, Prod.mk.injEq] at hW
      obtain ⟨h1, h2, h3, h4, h5, h6, h7, h8, h9⟩ := hW
      subst h1 h2 h3 h4 h5 h6 h8 h9
      cases n7 with
      | nil => cases hB
      | cons z r =>
        obtain ⟨za, cc⟩ := z
        cases r with
        | cons _ _ => cases hB
        | nil =>
          cases n13 with
          | ref cda =>
            dsimp only at hB
            obtain ⟨b1, hB⟩ := ba hB
            obtain ⟨b2, hB⟩ := ba hB
            obtain ⟨b3, hB⟩ := ba hB
            obtain ⟨b4, hB⟩ := ba hB
            obtain ⟨b5, hB⟩ := ba hB
            obtain ⟨b6, hB⟩ := ba hB
            obtain ⟨b7, hB⟩ := ba hB
            obtain ⟨b8, hB⟩ := ba hB
            obtain ⟨b9, b10⟩ := ba hB
            have hza : za = ("__class__" : Str) := by
              have : ([za] : List Str) = [("__class__" : Str)] := h7
              exact (List.cons.inj this).1
            subst hza
            cases q3 : K.lookup cda with
            | none => rw [q3] at b3; cases b3
            | some o3 =>
              obtain ⟨oc3, od3, dt3, osl3⟩ := o3
              rw [q3] at b3
              cases dt3 with
              | fields vs =>
                dsimp only at b3
                cases q4 : (vs[2]? : Option Value) with
                | none => rw [q4] at b3; cases b3
                | some v4 =>
                  rw [q4] at b3
                  cases v4 with
                  | str fl tf =>
                    have e4 : fl = file := of_decide_eq_true b3
                    subst e4
                    cases q5 : K.lookup cc with
                    | none => rw [q5] at b4; cases b4
                    | some o5 =>
                      obtain ⟨oc5, od5, dt5, osl5⟩ := o5
                      rw [q5] at b4
                      cases dt5 with
                      | cell cv =>
                        cases cv with
                        | none => cases b4
                        | some u =>
                          cases u with
                          | ref D =>
                            have eD : D = He.ga K x := of_decide_eq_true b4
                            subst eD
                            obtain ⟨cdD, hcd⟩ := Option.isSome_iff_exists.mp b5
                            exact ⟨_, cc, cda, oc, n9, n10, n11, n14, oc3, oc5, od, n12, od3, od5, osl, osl3, osl5, vs, fl, tf, cdD, q, b1, b2, q3, q4, hfile, q5, hcd, of_decide_eq_true b6, He.eqO_ok b7, of_decide_eq_true b8, b9, He.eqO_ok b10, hs, mk, g⟩
                          | _ => cases b4
                      | _ => cases b4
                  | _ => cases b3
              | _ => cases b3
          | _ => cases hB
    | _ => cases hB
end HK


set_option maxRecDepth 100000
set_option maxHeartbeats 8000000
/-! H2: the chain, from the head's facts to law (written by h2.py). -/
namespace HK
open PySem PySem.Spec PyProof.Rows L2
abbrev Pg : Program := (PySem.Challenge.rw_handshaker_k11_whole_channels_in_all_ord).prog
theorem file_ok : ((Pg.main.file : Str) == ("/claim/cut.py" : Str)) = true := by kernel_rfl
theorem sup_ok : (Pg.main.scope.names.lookup ("super" : Str)).isSome = false := by kernel_rfl
theorem facts {w : World} {K : PySem.W.Frag} {h : Heap} {mg : Str → Option Value} {f : Addr} (X : K.In h) (G : h.Ns mainGlobals mg) (hfa : mg ("law" : Str) = some (.ref f)) (c : SaysX K) :
    ∃ fd : FuncData, (∀ (s : Shared) (v : Value), BindsTo s fd ⟨[v], []⟩ [("_law_script", v)]) ∧ ∀ base : Heap, K.In base → base.Ns mainGlobals mg → FnOk Pg w K mg base CX0 24 f fd ["_law_script"] (spLaw K) := by
  have cd : He.SaysD fa fn K := congrArg (fun z : AlX => z.1) c
  have cB : (He.tupB K "RETRY" [.str "retry"] && (supB K "BlockTranslator" "BlockTranslator.__init__" "/claim/cut.py" && supB K "ThreadTranslator" "ThreadTranslator.__init__" "/claim/cut.py")) = true := congrArg (fun z : AlX => z.2.1) c
  have cW1 : supW K "BlockTranslator" = supV "BlockTranslator.__init__" (inClass (top 27) 0) := congrArg (fun z : AlX => z.2.2.1) c
  have cW2 : supW K "ThreadTranslator" = supV "ThreadTranslator.__init__" (inClass (top 28) 0) := congrArg (fun z : AlX => z.2.2.2) c
  obtain ⟨cT, cB⟩ := He.ba cB
  obtain ⟨cS1, cS2⟩ := He.ba cB
  have e := hfa.symm.trans (He.glo_ok X G (cd.fact 24 (f := .glo "law") rfl))
  cases e
  have r0 : ∃ fd, FunD K "_number" "_number" (defArgs sNumber) (defBody sNumber) (defScope sNumber) [] [] (He.ga K "_number") fd := cd.def_ 0 (d := ⟨("_number", none), "_number", "_number", defArgs sNumber, defBody sNumber, defScope sNumber, [], []⟩) rfl
  obtain ⟨fd0, F0⟩ := r0
  have D__number : DefAt K mg "_number" sNumber := ⟨_, _, funOf F0, (He.glo_ok X G (cd.fact 0 (f := .glo "_number") rfl))⟩
  have r1 : ∃ fd, FunD K "_cell" "_cell" (defArgs sCell) (defBody sCell) (defScope sCell) [] [] (He.ga K "_cell") fd := cd.def_ 1 (d := ⟨("_cell", none), "_cell", "_cell", defArgs sCell, defBody sCell, defScope sCell, [], []⟩) rfl
  obtain ⟨fd1, F1⟩ := r1
  have D__cell : DefAt K mg "_cell" sCell := ⟨_, _, funOf F1, (He.glo_ok X G (cd.fact 1 (f := .glo "_cell") rfl))⟩
  have r2 : ∃ fd, FunD K "_put" "_put" (defArgs sPut) (defBody sPut) (defScope sPut) [] [] (He.ga K "_put") fd := cd.def_ 2 (d := ⟨("_put", none), "_put", "_put", defArgs sPut, defBody sPut, defScope sPut, [], []⟩) rfl
  obtain ⟨fd2, F2⟩ := r2
  have D__put : DefAt K mg "_put" sPut := ⟨_, _, funOf F2, (He.glo_ok X G (cd.fact 2 (f := .glo "_put") rfl))⟩
  have r3 : ∃ fd, FunD K "_retry_if" "_retry_if" (defArgs sRetryIf) (defBody sRetryIf) (defScope sRetryIf) [] [] (He.ga K "_retry_if") fd := cd.def_ 3 (d := ⟨("_retry_if", none), "_retry_if", "_retry_if", defArgs sRetryIf, defBody sRetryIf, defScope sRetryIf, [], []⟩) rfl
  obtain ⟨fd3, F3⟩ := r3
  have D__retry_if : DefAt K mg "_retry_if" sRetryIf := ⟨_, _, funOf F3, (He.glo_ok X G (cd.fact 3 (f := .glo "_retry_if") rfl))⟩
  have r4 : ∃ fd, FunD K "_block" "_block" (defArgs sBlock) (defBody sBlock) (defScope sBlock) [] [] (He.ga K "_block") fd := cd.def_ 4 (d := ⟨("_block", none), "_block", "_block", defArgs sBlock, defBody sBlock, defScope sBlock, [], []⟩) rfl
  obtain ⟨fd4, F4⟩ := r4
  have D__block : DefAt K mg "_block" sBlock := ⟨_, _, funOf F4, (He.glo_ok X G (cd.fact 4 (f := .glo "_block") rfl))⟩
  have r5 : ∃ fd, FunD K "_check" "_check" (defArgs sCheck) (defBody sCheck) (defScope sCheck) [] [] (He.ga K "_check") fd := cd.def_ 5 (d := ⟨("_check", none), "_check", "_check", defArgs sCheck, defBody sCheck, defScope sCheck, [], []⟩) rfl
  obtain ⟨fd5, F5⟩ := r5
  have D__check : DefAt K mg "_check" sCheck := ⟨_, _, funOf F5, (He.glo_ok X G (cd.fact 5 (f := .glo "_check") rfl))⟩
  have r6 : ∃ fd, FunD K "channel" "channel" (defArgs sChannel) (defBody sChannel) (defScope sChannel) [] [] (He.ga K "channel") fd := cd.def_ 6 (d := ⟨("channel", none), "channel", "channel", defArgs sChannel, defBody sChannel, defScope sChannel, [], []⟩) rfl
  obtain ⟨fd6, F6⟩ := r6
  have D_channel : DefAt K mg "channel" sChannel := ⟨_, _, funOf F6, (He.glo_ok X G (cd.fact 6 (f := .glo "channel") rfl))⟩
  have r7 : ∃ fd, FunD K "send" "send" (defArgs sSend) (defBody sSend) (defScope sSend) [] [] (He.ga K "send") fd := cd.def_ 7 (d := ⟨("send", none), "send", "send", defArgs sSend, defBody sSend, defScope sSend, [], []⟩) rfl
  obtain ⟨fd7, F7⟩ := r7
  have D_send : DefAt K mg "send" sSend := ⟨_, _, funOf F7, (He.glo_ok X G (cd.fact 7 (f := .glo "send") rfl))⟩
  have r8 : ∃ fd, FunD K "receive" "receive" (defArgs sReceive) (defBody sReceive) (defScope sReceive) [] [] (He.ga K "receive") fd := cd.def_ 8 (d := ⟨("receive", none), "receive", "receive", defArgs sReceive, defBody sReceive, defScope sReceive, [], []⟩) rfl
  obtain ⟨fd8, F8⟩ := r8
  have D_receive : DefAt K mg "receive" sReceive := ⟨_, _, funOf F8, (He.glo_ok X G (cd.fact 8 (f := .glo "receive") rfl))⟩
  have r9 : ∃ fd, FunD K "checked" "checked" (defArgs sChecked) (defBody sChecked) (defScope sChecked) [] [] (He.ga K "checked") fd := cd.def_ 9 (d := ⟨("checked", none), "checked", "checked", defArgs sChecked, defBody sChecked, defScope sChecked, [], []⟩) rfl
  obtain ⟨fd9, F9⟩ := r9
  have D_checked : DefAt K mg "checked" sChecked := ⟨_, _, funOf F9, (He.glo_ok X G (cd.fact 9 (f := .glo "checked") rfl))⟩
  have r10 : ∃ fd, FunD K "first_memory" "first_memory" (defArgs sFirstMemory) (defBody sFirstMemory) (defScope sFirstMemory) [] [] (He.ga K "first_memory") fd := cd.def_ 10 (d := ⟨("first_memory", none), "first_memory", "first_memory", defArgs sFirstMemory, defBody sFirstMemory, defScope sFirstMemory, [], []⟩) rfl
  obtain ⟨fd10, F10⟩ := r10
  have D_first_memory : DefAt K mg "first_memory" sFirstMemory := ⟨_, _, funOf F10, (He.glo_ok X G (cd.fact 10 (f := .glo "first_memory") rfl))⟩
  have r11 : ∃ fd, FunD K "place_of" "place_of" (defArgs sPlaceOf) (defBody sPlaceOf) (defScope sPlaceOf) [] [] (He.ga K "place_of") fd := cd.def_ 11 (d := ⟨("place_of", none), "place_of", "place_of", defArgs sPlaceOf, defBody sPlaceOf, defScope sPlaceOf, [], []⟩) rfl
  obtain ⟨fd11, F11⟩ := r11
  have D_place_of : DefAt K mg "place_of" sPlaceOf := ⟨_, _, funOf F11, (He.glo_ok X G (cd.fact 11 (f := .glo "place_of") rfl))⟩
  have r12 : ∃ fd, FunD K "combined" "combined" (defArgs sCombined) (defBody sCombined) (defScope sCombined) [] [] (He.ga K "combined") fd := cd.def_ 12 (d := ⟨("combined", none), "combined", "combined", defArgs sCombined, defBody sCombined, defScope sCombined, [], []⟩) rfl
  obtain ⟨fd12, F12⟩ := r12
  have D_combined : DefAt K mg "combined" sCombined := ⟨_, _, funOf F12, (He.glo_ok X G (cd.fact 12 (f := .glo "combined") rfl))⟩
  have r13 : ∃ fd, FunD K "has_cells" "has_cells" (defArgs sHasCells) (defBody sHasCells) (defScope sHasCells) [] [] (He.ga K "has_cells") fd := cd.def_ 13 (d := ⟨("has_cells", none), "has_cells", "has_cells", defArgs sHasCells, defBody sHasCells, defScope sHasCells, [], []⟩) rfl
  obtain ⟨fd13, F13⟩ := r13
  have D_has_cells : DefAt K mg "has_cells" sHasCells := ⟨_, _, funOf F13, (He.glo_ok X G (cd.fact 13 (f := .glo "has_cells") rfl))⟩
  have r14 : ∃ fd, FunD K "is_still" "is_still" (defArgs sIsStill) (defBody sIsStill) (defScope sIsStill) [] [] (He.ga K "is_still") fd := cd.def_ 14 (d := ⟨("is_still", none), "is_still", "is_still", defArgs sIsStill, defBody sIsStill, defScope sIsStill, [], []⟩) rfl
  obtain ⟨fd14, F14⟩ := r14
  have D_is_still : DefAt K mg "is_still" sIsStill := ⟨_, _, funOf F14, (He.glo_ok X G (cd.fact 14 (f := .glo "is_still") rfl))⟩
  have r15 : ∃ fd, FunD K "flat_thread" "flat_thread" (defArgs sFlatThread) (defBody sFlatThread) (defScope sFlatThread) [] [] (He.ga K "flat_thread") fd := cd.def_ 15 (d := ⟨("flat_thread", none), "flat_thread", "flat_thread", defArgs sFlatThread, defBody sFlatThread, defScope sFlatThread, [], []⟩) rfl
  obtain ⟨fd15, F15⟩ := r15
  have D_flat_thread : DefAt K mg "flat_thread" sFlatThread := ⟨_, _, funOf F15, (He.glo_ok X G (cd.fact 15 (f := .glo "flat_thread") rfl))⟩
  have r16 : ∃ fd, FunD K "ended" "ended" (defArgs sEnded) (defBody sEnded) (defScope sEnded) [V.non] [] (He.ga K "ended") fd := cd.def_ 16 (d := ⟨("ended", none), "ended", "ended", defArgs sEnded, defBody sEnded, defScope sEnded, [.non], []⟩) rfl
  obtain ⟨fd16, F16⟩ := r16
  have r17 : ∃ fd, FunD K "evaluate_slots" "evaluate_slots" (defArgs sEvaluateSlots) (defBody sEvaluateSlots) (defScope sEvaluateSlots) [] [] (He.ga K "evaluate_slots") fd := cd.def_ 17 (d := ⟨("evaluate_slots", none), "evaluate_slots", "evaluate_slots", defArgs sEvaluateSlots, defBody sEvaluateSlots, defScope sEvaluateSlots, [], []⟩) rfl
  obtain ⟨fd17, F17⟩ := r17
  have D_evaluate_slots : DefAt K mg "evaluate_slots" sEvaluateSlots := ⟨_, _, funOf F17, (He.glo_ok X G (cd.fact 17 (f := .glo "evaluate_slots") rfl))⟩
  have r18 : ∃ fd, FunD K "walk_block" "walk_block" (defArgs sWalkBlock) (defBody sWalkBlock) (defScope sWalkBlock) [] [] (He.ga K "walk_block") fd := cd.def_ 18 (d := ⟨("walk_block", none), "walk_block", "walk_block", defArgs sWalkBlock, defBody sWalkBlock, defScope sWalkBlock, [], []⟩) rfl
  obtain ⟨fd18, F18⟩ := r18
  have D_walk_block : DefAt K mg "walk_block" sWalkBlock := ⟨_, _, funOf F18, (He.glo_ok X G (cd.fact 18 (f := .glo "walk_block") rfl))⟩
  have r19 : ∃ fd, FunD K "searched" "searched" (defArgs sSearched) (defBody sSearched) (defScope sSearched) [] [] (He.ga K "searched") fd := cd.def_ 19 (d := ⟨("searched", none), "searched", "searched", defArgs sSearched, defBody sSearched, defScope sSearched, [], []⟩) rfl
  obtain ⟨fd19, F19⟩ := r19
  have D_searched : DefAt K mg "searched" sSearched := ⟨_, _, funOf F19, (He.glo_ok X G (cd.fact 19 (f := .glo "searched") rfl))⟩
  have r20 : ∃ fd, FunD K "reachable" "reachable" (defArgs sReachable) (defBody sReachable) (defScope sReachable) [] [] (He.ga K "reachable") fd := cd.def_ 20 (d := ⟨("reachable", none), "reachable", "reachable", defArgs sReachable, defBody sReachable, defScope sReachable, [], []⟩) rfl
  obtain ⟨fd20, F20⟩ := r20
  have D_reachable : DefAt K mg "reachable" sReachable := ⟨_, _, funOf F20, (He.glo_ok X G (cd.fact 20 (f := .glo "reachable") rfl))⟩
  have r21 : ∃ fd, FunD K "_law_draws" "_law_draws" (defArgs sLawDraws) (defBody sLawDraws) (defScope sLawDraws) [] [] (He.ga K "_law_draws") fd := cd.def_ 21 (d := ⟨("_law_draws", none), "_law_draws", "_law_draws", defArgs sLawDraws, defBody sLawDraws, defScope sLawDraws, [], []⟩) rfl
  obtain ⟨fd21, F21⟩ := r21
  have D__law_draws : DefAt K mg "_law_draws" sLawDraws := ⟨_, _, funOf F21, (He.glo_ok X G (cd.fact 21 (f := .glo "_law_draws") rfl))⟩
  have r22 : ∃ fd, FunD K "_law_take" "_law_take" (defArgs sLawTake) (defBody sLawTake) (defScope sLawTake) [] [] (He.ga K "_law_take") fd := cd.def_ 22 (d := ⟨("_law_take", none), "_law_take", "_law_take", defArgs sLawTake, defBody sLawTake, defScope sLawTake, [], []⟩) rfl
  obtain ⟨fd22, F22⟩ := r22
  have D__law_take : DefAt K mg "_law_take" sLawTake := ⟨_, _, funOf F22, (He.glo_ok X G (cd.fact 22 (f := .glo "_law_take") rfl))⟩
  have r23 : ∃ fd, FunD K "_law_fine" "_law_fine" (defArgs sLawFine) (defBody sLawFine) (defScope sLawFine) [] [] (He.ga K "_law_fine") fd := cd.def_ 23 (d := ⟨("_law_fine", none), "_law_fine", "_law_fine", defArgs sLawFine, defBody sLawFine, defScope sLawFine, [], []⟩) rfl
  obtain ⟨fd23, F23⟩ := r23
  have D__law_fine : DefAt K mg "_law_fine" sLawFine := ⟨_, _, funOf F23, (He.glo_ok X G (cd.fact 23 (f := .glo "_law_fine") rfl))⟩
  have r24 : ∃ fd, FunD K "law" "law" (defArgs sLaw) (defBody sLaw) (defScope sLaw) [] [] (He.ga K "law") fd := cd.def_ 24 (d := ⟨("law", none), "law", "law", defArgs sLaw, defBody sLaw, defScope sLaw, [], []⟩) rfl
  obtain ⟨fd24, F24⟩ := r24
  have r25 : ∃ fd, FunD K "add" "Translator.add" (defArgs sTranslatorAdd) (defBody sTranslatorAdd) (defScope sTranslatorAdd) [] [] (He.ma K (He.ga K "BlockTranslator") "add") fd := cd.def_ 25 (d := ⟨("BlockTranslator", some "add"), "add", "Translator.add", defArgs sTranslatorAdd, defBody sTranslatorAdd, defScope sTranslatorAdd, [], []⟩) rfl
  obtain ⟨fd25, F25⟩ := r25
  have M_BlockTranslator_add : MethAt K (He.ga K "BlockTranslator") "add" "Translator.add" sTranslatorAdd := ⟨_, _, funOf F25, He.meth_ok (cd.fact 96 (f := .meth "BlockTranslator" "add") rfl)⟩
  have r26 : ∃ fd, FunD K "new_slot" "Translator.new_slot" (defArgs sTranslatorNewSlot) (defBody sTranslatorNewSlot) (defScope sTranslatorNewSlot) [] [] (He.ma K (He.ga K "BlockTranslator") "new_slot") fd := cd.def_ 26 (d := ⟨("BlockTranslator", some "new_slot"), "new_slot", "Translator.new_slot", defArgs sTranslatorNewSlot, defBody sTranslatorNewSlot, defScope sTranslatorNewSlot, [], []⟩) rfl
  obtain ⟨fd26, F26⟩ := r26
  have M_BlockTranslator_new_slot : MethAt K (He.ga K "BlockTranslator") "new_slot" "Translator.new_slot" sTranslatorNewSlot := ⟨_, _, funOf F26, He.meth_ok (cd.fact 97 (f := .meth "BlockTranslator" "new_slot") rfl)⟩
  have r27 : ∃ fd, FunD K "kept" "Translator.kept" (defArgs sTranslatorKept) (defBody sTranslatorKept) (defScope sTranslatorKept) [] [] (He.ma K (He.ga K "BlockTranslator") "kept") fd := cd.def_ 27 (d := ⟨("BlockTranslator", some "kept"), "kept", "Translator.kept", defArgs sTranslatorKept, defBody sTranslatorKept, defScope sTranslatorKept, [], []⟩) rfl
  obtain ⟨fd27, F27⟩ := r27
  have M_BlockTranslator_kept : MethAt K (He.ga K "BlockTranslator") "kept" "Translator.kept" sTranslatorKept := ⟨_, _, funOf F27, He.meth_ok (cd.fact 98 (f := .meth "BlockTranslator" "kept") rfl)⟩
  have r28 : ∃ fd, FunD K "renamed" "Translator.renamed" (defArgs sTranslatorRenamed) (defBody sTranslatorRenamed) (defScope sTranslatorRenamed) [] [] (He.ma K (He.ga K "BlockTranslator") "renamed") fd := cd.def_ 28 (d := ⟨("BlockTranslator", some "renamed"), "renamed", "Translator.renamed", defArgs sTranslatorRenamed, defBody sTranslatorRenamed, defScope sTranslatorRenamed, [], []⟩) rfl
  obtain ⟨fd28, F28⟩ := r28
  have M_BlockTranslator_renamed : MethAt K (He.ga K "BlockTranslator") "renamed" "Translator.renamed" sTranslatorRenamed := ⟨_, _, funOf F28, He.meth_ok (cd.fact 99 (f := .meth "BlockTranslator" "renamed") rfl)⟩
  have r29 : ∃ fd, FunD K "expression" "Translator.expression" (defArgs sTranslatorExpression) (defBody sTranslatorExpression) (defScope sTranslatorExpression) [] [] (He.ma K (He.ga K "BlockTranslator") "expression") fd := cd.def_ 29 (d := ⟨("BlockTranslator", some "expression"), "expression", "Translator.expression", defArgs sTranslatorExpression, defBody sTranslatorExpression, defScope sTranslatorExpression, [], []⟩) rfl
  obtain ⟨fd29, F29⟩ := r29
  have M_BlockTranslator_expression : MethAt K (He.ga K "BlockTranslator") "expression" "Translator.expression" sTranslatorExpression := ⟨_, _, funOf F29, He.meth_ok (cd.fact 100 (f := .meth "BlockTranslator" "expression") rfl)⟩
  have r30 : ∃ fd, FunD K "statements" "Translator.statements" (defArgs sTranslatorStatements) (defBody sTranslatorStatements) (defScope sTranslatorStatements) [] [] (He.ma K (He.ga K "BlockTranslator") "statements") fd := cd.def_ 30 (d := ⟨("BlockTranslator", some "statements"), "statements", "Translator.statements", defArgs sTranslatorStatements, defBody sTranslatorStatements, defScope sTranslatorStatements, [], []⟩) rfl
  obtain ⟨fd30, F30⟩ := r30
  have M_BlockTranslator_statements : MethAt K (He.ga K "BlockTranslator") "statements" "Translator.statements" sTranslatorStatements := ⟨_, _, funOf F30, He.meth_ok (cd.fact 101 (f := .meth "BlockTranslator" "statements") rfl)⟩
  have r31 : ∃ fd, FunD K "branches" "Translator.branches" (defArgs sTranslatorBranches) (defBody sTranslatorBranches) (defScope sTranslatorBranches) [] [] (He.ma K (He.ga K "BlockTranslator") "branches") fd := cd.def_ 31 (d := ⟨("BlockTranslator", some "branches"), "branches", "Translator.branches", defArgs sTranslatorBranches, defBody sTranslatorBranches, defScope sTranslatorBranches, [], []⟩) rfl
  obtain ⟨fd31, F31⟩ := r31
  have M_BlockTranslator_branches : MethAt K (He.ga K "BlockTranslator") "branches" "Translator.branches" sTranslatorBranches := ⟨_, _, funOf F31, He.meth_ok (cd.fact 102 (f := .meth "BlockTranslator" "branches") rfl)⟩
  have r32 : ∃ fd, FunD K "statement" "BlockTranslator.statement" (defArgs sBlockTranslatorStatement) (defBody sBlockTranslatorStatement) (defScope sBlockTranslatorStatement) [] [] (He.ma K (He.ga K "BlockTranslator") "statement") fd := cd.def_ 32 (d := ⟨("BlockTranslator", some "statement"), "statement", "BlockTranslator.statement", defArgs sBlockTranslatorStatement, defBody sBlockTranslatorStatement, defScope sBlockTranslatorStatement, [], []⟩) rfl
  obtain ⟨fd32, F32⟩ := r32
  have M_BlockTranslator_statement : MethAt K (He.ga K "BlockTranslator") "statement" "BlockTranslator.statement" sBlockTranslatorStatement := ⟨_, _, funOf F32, He.meth_ok (cd.fact 103 (f := .meth "BlockTranslator" "statement") rfl)⟩
  have r33 : ∃ fd, FunD K "put" "BlockTranslator.put" (defArgs sBlockTranslatorPut) (defBody sBlockTranslatorPut) (defScope sBlockTranslatorPut) [] [] (He.ma K (He.ga K "BlockTranslator") "put") fd := cd.def_ 33 (d := ⟨("BlockTranslator", some "put"), "put", "BlockTranslator.put", defArgs sBlockTranslatorPut, defBody sBlockTranslatorPut, defScope sBlockTranslatorPut, [], []⟩) rfl
  obtain ⟨fd33, F33⟩ := r33
  have M_BlockTranslator_put : MethAt K (He.ga K "BlockTranslator") "put" "BlockTranslator.put" sBlockTranslatorPut := ⟨_, _, funOf F33, He.meth_ok (cd.fact 104 (f := .meth "BlockTranslator" "put") rfl)⟩
  have r34 : ∃ fd, FunD K "add" "Translator.add" (defArgs sTranslatorAdd) (defBody sTranslatorAdd) (defScope sTranslatorAdd) [] [] (He.ma K (He.ga K "ThreadTranslator") "add") fd := cd.def_ 34 (d := ⟨("ThreadTranslator", some "add"), "add", "Translator.add", defArgs sTranslatorAdd, defBody sTranslatorAdd, defScope sTranslatorAdd, [], []⟩) rfl
  obtain ⟨fd34, F34⟩ := r34
  have M_ThreadTranslator_add : MethAt K (He.ga K "ThreadTranslator") "add" "Translator.add" sTranslatorAdd := ⟨_, _, funOf F34, He.meth_ok (cd.fact 105 (f := .meth "ThreadTranslator" "add") rfl)⟩
  have r35 : ∃ fd, FunD K "renamed" "Translator.renamed" (defArgs sTranslatorRenamed) (defBody sTranslatorRenamed) (defScope sTranslatorRenamed) [] [] (He.ma K (He.ga K "ThreadTranslator") "renamed") fd := cd.def_ 35 (d := ⟨("ThreadTranslator", some "renamed"), "renamed", "Translator.renamed", defArgs sTranslatorRenamed, defBody sTranslatorRenamed, defScope sTranslatorRenamed, [], []⟩) rfl
  obtain ⟨fd35, F35⟩ := r35
  have M_ThreadTranslator_renamed : MethAt K (He.ga K "ThreadTranslator") "renamed" "Translator.renamed" sTranslatorRenamed := ⟨_, _, funOf F35, He.meth_ok (cd.fact 106 (f := .meth "ThreadTranslator" "renamed") rfl)⟩
  have r36 : ∃ fd, FunD K "statements" "Translator.statements" (defArgs sTranslatorStatements) (defBody sTranslatorStatements) (defScope sTranslatorStatements) [] [] (He.ma K (He.ga K "ThreadTranslator") "statements") fd := cd.def_ 36 (d := ⟨("ThreadTranslator", some "statements"), "statements", "Translator.statements", defArgs sTranslatorStatements, defBody sTranslatorStatements, defScope sTranslatorStatements, [], []⟩) rfl
  obtain ⟨fd36, F36⟩ := r36
  have M_ThreadTranslator_statements : MethAt K (He.ga K "ThreadTranslator") "statements" "Translator.statements" sTranslatorStatements := ⟨_, _, funOf F36, He.meth_ok (cd.fact 107 (f := .meth "ThreadTranslator" "statements") rfl)⟩
  have r37 : ∃ fd, FunD K "statement" "ThreadTranslator.statement" (defArgs sThreadTranslatorStatement) (defBody sThreadTranslatorStatement) (defScope sThreadTranslatorStatement) [] [] (He.ma K (He.ga K "ThreadTranslator") "statement") fd := cd.def_ 37 (d := ⟨("ThreadTranslator", some "statement"), "statement", "ThreadTranslator.statement", defArgs sThreadTranslatorStatement, defBody sThreadTranslatorStatement, defScope sThreadTranslatorStatement, [], []⟩) rfl
  obtain ⟨fd37, F37⟩ := r37
  have M_ThreadTranslator_statement : MethAt K (He.ga K "ThreadTranslator") "statement" "ThreadTranslator.statement" sThreadTranslatorStatement := ⟨_, _, funOf F37, He.meth_ok (cd.fact 108 (f := .meth "ThreadTranslator" "statement") rfl)⟩
  have r38 : ∃ fd, FunD K "block" "ThreadTranslator.block" (defArgs sThreadTranslatorBlock) (defBody sThreadTranslatorBlock) (defScope sThreadTranslatorBlock) [] [] (He.ma K (He.ga K "ThreadTranslator") "block") fd := cd.def_ 38 (d := ⟨("ThreadTranslator", some "block"), "block", "ThreadTranslator.block", defArgs sThreadTranslatorBlock, defBody sThreadTranslatorBlock, defScope sThreadTranslatorBlock, [], []⟩) rfl
  obtain ⟨fd38, F38⟩ := r38
  have M_ThreadTranslator_block : MethAt K (He.ga K "ThreadTranslator") "block" "ThreadTranslator.block" sThreadTranslatorBlock := ⟨_, _, funOf F38, He.meth_ok (cd.fact 109 (f := .meth "ThreadTranslator" "block") rfl)⟩
  have r39 : ∃ fd, FunD K "__init__" "Translator.__init__" (defArgs sTranslatorInit) (defBody sTranslatorInit) (defScope sTranslatorInit) [] [] (He.ma K (He.ga K "Translator") "__init__") fd := cd.def_ 39 (d := ⟨("Translator", some "__init__"), "__init__", "Translator.__init__", defArgs sTranslatorInit, defBody sTranslatorInit, defScope sTranslatorInit, [], []⟩) rfl
  obtain ⟨fd39, F39⟩ := r39
  have r40 : ∃ fd, FunD K "__init__" "Outcome.__init__" (defArgs sOutcomeInit) (defBody sOutcomeInit) (defScope sOutcomeInit) [] [("reason", V.non)] (He.ma K (He.ga K "Outcome") "__init__") fd := cd.def_ 40 (d := ⟨("Outcome", some "__init__"), "__init__", "Outcome.__init__", defArgs sOutcomeInit, defBody sOutcomeInit, defScope sOutcomeInit, [], [("reason", .non)]⟩) rfl
  obtain ⟨fd40, F40⟩ := r40
  have r41 : ∃ fd, FunD K "__init__" "Walk.__init__" (defArgs sWalkInit) (defBody sWalkInit) (defScope sWalkInit) [] [] (He.ma K (He.ga K "Walk") "__init__") fd := cd.def_ 41 (d := ⟨("Walk", some "__init__"), "__init__", "Walk.__init__", defArgs sWalkInit, defBody sWalkInit, defScope sWalkInit, [], []⟩) rfl
  obtain ⟨fd41, F41⟩ := r41
  have I_Walk : InitAt K mg "Walk" (He.ga K "Walk") "Walk.__init__" sWalkInit := ⟨_, _, funOf F41, He.mkr_ok (cd.fact 73 (f := .mkr "Walk") rfl), (He.glo_ok X G (cd.fact 28 (f := .glo "Walk") rfl))⟩
  have r42 : ∃ fd, FunD K "cell" "Walk.cell" (defArgs sWalkCell) (defBody sWalkCell) (defScope sWalkCell) [] [] (He.ma K (He.ga K "Walk") "cell") fd := cd.def_ 42 (d := ⟨("Walk", some "cell"), "cell", "Walk.cell", defArgs sWalkCell, defBody sWalkCell, defScope sWalkCell, [], []⟩) rfl
  obtain ⟨fd42, F42⟩ := r42
  have M_Walk_cell : MethAt K (He.ga K "Walk") "cell" "Walk.cell" sWalkCell := ⟨_, _, funOf F42, He.meth_ok (cd.fact 110 (f := .meth "Walk" "cell") rfl)⟩
  have r43 : ∃ fd, FunD K "value" "Walk.value" (defArgs sWalkValue) (defBody sWalkValue) (defScope sWalkValue) [] [] (He.ma K (He.ga K "Walk") "value") fd := cd.def_ 43 (d := ⟨("Walk", some "value"), "value", "Walk.value", defArgs sWalkValue, defBody sWalkValue, defScope sWalkValue, [], []⟩) rfl
  obtain ⟨fd43, F43⟩ := r43
  have M_Walk_value : MethAt K (He.ga K "Walk") "value" "Walk.value" sWalkValue := ⟨_, _, funOf F43, He.meth_ok (cd.fact 111 (f := .meth "Walk" "value") rfl)⟩
  have r44 : ∃ fd, FunD K "run" "Walk.run" (defArgs sWalkRun) (defBody sWalkRun) (defScope sWalkRun) [] [] (He.ma K (He.ga K "Walk") "run") fd := cd.def_ 44 (d := ⟨("Walk", some "run"), "run", "Walk.run", defArgs sWalkRun, defBody sWalkRun, defScope sWalkRun, [], []⟩) rfl
  obtain ⟨fd44, F44⟩ := r44
  have M_Walk_run : MethAt K (He.ga K "Walk") "run" "Walk.run" sWalkRun := ⟨_, _, funOf F44, He.meth_ok (cd.fact 112 (f := .meth "Walk" "run") rfl)⟩
  have r45 : ∃ fd, FunD K "do" "Walk.do" (defArgs sWalkDo) (defBody sWalkDo) (defScope sWalkDo) [] [] (He.ma K (He.ga K "Walk") "do") fd := cd.def_ 45 (d := ⟨("Walk", some "do"), "do", "Walk.do", defArgs sWalkDo, defBody sWalkDo, defScope sWalkDo, [], []⟩) rfl
  obtain ⟨fd45, F45⟩ := r45
  have M_Walk_do : MethAt K (He.ga K "Walk") "do" "Walk.do" sWalkDo := ⟨_, _, funOf F45, He.meth_ok (cd.fact 113 (f := .meth "Walk" "do") rfl)⟩
  have r46 : ∃ fd, FunD K "load" "Walk.load" (defArgs sWalkLoad) (defBody sWalkLoad) (defScope sWalkLoad) [] [] (He.ma K (He.ga K "Walk") "load") fd := cd.def_ 46 (d := ⟨("Walk", some "load"), "load", "Walk.load", defArgs sWalkLoad, defBody sWalkLoad, defScope sWalkLoad, [], []⟩) rfl
  obtain ⟨fd46, F46⟩ := r46
  have M_Walk_load : MethAt K (He.ga K "Walk") "load" "Walk.load" sWalkLoad := ⟨_, _, funOf F46, He.meth_ok (cd.fact 114 (f := .meth "Walk" "load") rfl)⟩
  have r47 : ∃ fd, FunD K "put" "Walk.put" (defArgs sWalkPut) (defBody sWalkPut) (defScope sWalkPut) [] [] (He.ma K (He.ga K "Walk") "put") fd := cd.def_ 47 (d := ⟨("Walk", some "put"), "put", "Walk.put", defArgs sWalkPut, defBody sWalkPut, defScope sWalkPut, [], []⟩) rfl
  obtain ⟨fd47, F47⟩ := r47
  have M_Walk_put : MethAt K (He.ga K "Walk") "put" "Walk.put" sWalkPut := ⟨_, _, funOf F47, He.meth_ok (cd.fact 115 (f := .meth "Walk" "put") rfl)⟩
  have r48 : ∃ fd, FunD K "__init__" "World.__init__" (defArgs sWorldInit) (defBody sWorldInit) (defScope sWorldInit) [] [] (He.ma K (He.ga K "World") "__init__") fd := cd.def_ 48 (d := ⟨("World", some "__init__"), "__init__", "World.__init__", defArgs sWorldInit, defBody sWorldInit, defScope sWorldInit, [], []⟩) rfl
  obtain ⟨fd48, F48⟩ := r48
  have I_World : InitAt K mg "World" (He.ga K "World") "World.__init__" sWorldInit := ⟨_, _, funOf F48, He.mkr_ok (cd.fact 83 (f := .mkr "World") rfl), (He.glo_ok X G (cd.fact 29 (f := .glo "World") rfl))⟩
  have r49 : ∃ fd, FunD K "first" "World.first" (defArgs sWorldFirst) (defBody sWorldFirst) (defScope sWorldFirst) [] [] (He.ma K (He.ga K "World") "first") fd := cd.def_ 49 (d := ⟨("World", some "first"), "first", "World.first", defArgs sWorldFirst, defBody sWorldFirst, defScope sWorldFirst, [], []⟩) rfl
  obtain ⟨fd49, F49⟩ := r49
  have M_World_first : MethAt K (He.ga K "World") "first" "World.first" sWorldFirst := ⟨_, _, funOf F49, He.meth_ok (cd.fact 116 (f := .meth "World" "first") rfl)⟩
  have r50 : ∃ fd, FunD K "going_on" "World.going_on" (defArgs sWorldGoingOn) (defBody sWorldGoingOn) (defScope sWorldGoingOn) [] [] (He.ma K (He.ga K "World") "going_on") fd := cd.def_ 50 (d := ⟨("World", some "going_on"), "going_on", "World.going_on", defArgs sWorldGoingOn, defBody sWorldGoingOn, defScope sWorldGoingOn, [], []⟩) rfl
  obtain ⟨fd50, F50⟩ := r50
  have M_World_going_on : MethAt K (He.ga K "World") "going_on" "World.going_on" sWorldGoingOn := ⟨_, _, funOf F50, He.meth_ok (cd.fact 117 (f := .meth "World" "going_on") rfl)⟩
  have r51 : ∃ fd, FunD K "one_instruction" "World.one_instruction" (defArgs sWorldOneInstruction) (defBody sWorldOneInstruction) (defScope sWorldOneInstruction) [] [] (He.ma K (He.ga K "World") "one_instruction") fd := cd.def_ 51 (d := ⟨("World", some "one_instruction"), "one_instruction", "World.one_instruction", defArgs sWorldOneInstruction, defBody sWorldOneInstruction, defScope sWorldOneInstruction, [], []⟩) rfl
  obtain ⟨fd51, F51⟩ := r51
  have M_World_one_instruction : MethAt K (He.ga K "World") "one_instruction" "World.one_instruction" sWorldOneInstruction := ⟨_, _, funOf F51, He.meth_ok (cd.fact 118 (f := .meth "World" "one_instruction") rfl)⟩
  have r52 : ∃ fd, FunD K "outcome" "World.outcome" (defArgs sWorldOutcome) (defBody sWorldOutcome) (defScope sWorldOutcome) [] [] (He.ma K (He.ga K "World") "outcome") fd := cd.def_ 52 (d := ⟨("World", some "outcome"), "outcome", "World.outcome", defArgs sWorldOutcome, defBody sWorldOutcome, defScope sWorldOutcome, [], []⟩) rfl
  obtain ⟨fd52, F52⟩ := r52
  have M_World_outcome : MethAt K (He.ga K "World") "outcome" "World.outcome" sWorldOutcome := ⟨_, _, funOf F52, He.meth_ok (cd.fact 119 (f := .meth "World" "outcome") rfl)⟩
  have r53 : ∃ fd, FunD K "case" "World.case" (defArgs sWorldCase) (defBody sWorldCase) (defScope sWorldCase) [] [] (He.ma K (He.ga K "World") "case") fd := cd.def_ 53 (d := ⟨("World", some "case"), "case", "World.case", defArgs sWorldCase, defBody sWorldCase, defScope sWorldCase, [], []⟩) rfl
  obtain ⟨fd53, F53⟩ := r53
  have M_World_case : MethAt K (He.ga K "World") "case" "World.case" sWorldCase := ⟨_, _, funOf F53, He.meth_ok (cd.fact 120 (f := .meth "World" "case") rfl)⟩
  have r54 : ∃ fd, FunD K "possible" "World.possible" (defArgs sWorldPossible) (defBody sWorldPossible) (defScope sWorldPossible) [] [] (He.ma K (He.ga K "World") "possible") fd := cd.def_ 54 (d := ⟨("World", some "possible"), "possible", "World.possible", defArgs sWorldPossible, defBody sWorldPossible, defScope sWorldPossible, [], []⟩) rfl
  obtain ⟨fd54, F54⟩ := r54
  have M_World_possible : MethAt K (He.ga K "World") "possible" "World.possible" sWorldPossible := ⟨_, _, funOf F54, He.meth_ok (cd.fact 121 (f := .meth "World" "possible") rfl)⟩
  have r55 : ∃ fd, FunD K "after" "World.after" (defArgs sWorldAfter) (defBody sWorldAfter) (defScope sWorldAfter) [] [] (He.ma K (He.ga K "World") "after") fd := cd.def_ 55 (d := ⟨("World", some "after"), "after", "World.after", defArgs sWorldAfter, defBody sWorldAfter, defScope sWorldAfter, [], []⟩) rfl
  obtain ⟨fd55, F55⟩ := r55
  have M_World_after : MethAt K (He.ga K "World") "after" "World.after" sWorldAfter := ⟨_, _, funOf F55, He.meth_ok (cd.fact 122 (f := .meth "World" "after") rfl)⟩
  have r56 : ∃ fd, FunD K "block_done" "World.block_done" (defArgs sWorldBlockDone) (defBody sWorldBlockDone) (defScope sWorldBlockDone) [] [] (He.ma K (He.ga K "World") "block_done") fd := cd.def_ 56 (d := ⟨("World", some "block_done"), "block_done", "World.block_done", defArgs sWorldBlockDone, defBody sWorldBlockDone, defScope sWorldBlockDone, [], []⟩) rfl
  obtain ⟨fd56, F56⟩ := r56
  have M_World_block_done : MethAt K (He.ga K "World") "block_done" "World.block_done" sWorldBlockDone := ⟨_, _, funOf F56, He.meth_ok (cd.fact 123 (f := .meth "World" "block_done") rfl)⟩
  have r57 : ∃ fd, FunD K "end_of" "World.end_of" (defArgs sWorldEndOf) (defBody sWorldEndOf) (defScope sWorldEndOf) [] [] (He.ma K (He.ga K "World") "end_of") fd := cd.def_ 57 (d := ⟨("World", some "end_of"), "end_of", "World.end_of", defArgs sWorldEndOf, defBody sWorldEndOf, defScope sWorldEndOf, [], []⟩) rfl
  obtain ⟨fd57, F57⟩ := r57
  have M_World_end_of : MethAt K (He.ga K "World") "end_of" "World.end_of" sWorldEndOf := ⟨_, _, funOf F57, He.meth_ok (cd.fact 124 (f := .meth "World" "end_of") rfl)⟩
  have r58 : ∃ fd, FunD K "__init__" "Thread.__init__" (defArgs sThreadInit) (defBody sThreadInit) (defScope sThreadInit) [] [] (He.ma K (He.ga K "Thread") "__init__") fd := cd.def_ 58 (d := ⟨("Thread", some "__init__"), "__init__", "Thread.__init__", defArgs sThreadInit, defBody sThreadInit, defScope sThreadInit, [], []⟩) rfl
  obtain ⟨fd58, F58⟩ := r58
  have I_Thread : InitAt K mg "Thread" (He.ga K "Thread") "Thread.__init__" sThreadInit := ⟨_, _, funOf F58, He.mkr_ok (cd.fact 88 (f := .mkr "Thread") rfl), (He.glo_ok X G (cd.fact 30 (f := .glo "Thread") rfl))⟩
  have r59 : ∃ fd, FunD K "__init__" "Program.__init__" (defArgs sProgramInit) (defBody sProgramInit) (defScope sProgramInit) [] [] (He.ma K (He.ga K "Program") "__init__") fd := cd.def_ 59 (d := ⟨("Program", some "__init__"), "__init__", "Program.__init__", defArgs sProgramInit, defBody sProgramInit, defScope sProgramInit, [], []⟩) rfl
  obtain ⟨fd59, F59⟩ := r59
  have I_Program : InitAt K mg "Program" (He.ga K "Program") "Program.__init__" sProgramInit := ⟨_, _, funOf F59, He.mkr_ok (cd.fact 93 (f := .mkr "Program") rfl), (He.glo_ok X G (cd.fact 31 (f := .glo "Program") rfl))⟩
  have C_Outcome : ClsF K (He.ga K "Outcome") ksO := by
    refine ⟨He.cls_ok (cd.fact 52 (f := .cls "Outcome") rfl), fun k hk => ?_⟩
    simp only [ksO, List.mem_cons, List.not_mem_nil, or_false] at hk
    rcases hk with rfl | rfl | rfl | rfl | rfl | rfl
    · exact He.noat_ok (cd.fact 54 (f := .noat "Outcome" "kind") rfl)
    · exact He.noat_ok (cd.fact 55 (f := .noat "Outcome" "reads") rfl)
    · exact He.noat_ok (cd.fact 56 (f := .noat "Outcome" "writes") rfl)
    · exact He.noat_ok (cd.fact 57 (f := .noat "Outcome" "finals") rfl)
    · exact He.noat_ok (cd.fact 58 (f := .noat "Outcome" "later") rfl)
    · exact He.noat_ok (cd.fact 59 (f := .noat "Outcome" "reason") rfl)
  have C_BlockTranslator : ClsF K (He.ga K "BlockTranslator") ksT := by
    refine ⟨He.cls_ok (cd.fact 60 (f := .cls "BlockTranslator") rfl), fun k hk => ?_⟩
    simp only [ksT, List.mem_cons, List.not_mem_nil, or_false] at hk
    rcases hk with rfl | rfl | rfl | rfl
    · exact He.noat_ok (cd.fact 62 (f := .noat "BlockTranslator" "names") rfl)
    · exact He.noat_ok (cd.fact 63 (f := .noat "BlockTranslator" "code") rfl)
    · exact He.noat_ok (cd.fact 64 (f := .noat "BlockTranslator" "count") rfl)
    · exact He.noat_ok (cd.fact 65 (f := .noat "BlockTranslator" "cells") rfl)
  have C_ThreadTranslator : ClsF K (He.ga K "ThreadTranslator") ksT := by
    refine ⟨He.cls_ok (cd.fact 66 (f := .cls "ThreadTranslator") rfl), fun k hk => ?_⟩
    simp only [ksT, List.mem_cons, List.not_mem_nil, or_false] at hk
    rcases hk with rfl | rfl | rfl | rfl
    · exact He.noat_ok (cd.fact 68 (f := .noat "ThreadTranslator" "names") rfl)
    · exact He.noat_ok (cd.fact 69 (f := .noat "ThreadTranslator" "code") rfl)
    · exact He.noat_ok (cd.fact 70 (f := .noat "ThreadTranslator" "count") rfl)
    · exact He.noat_ok (cd.fact 71 (f := .noat "ThreadTranslator" "cells") rfl)
  have C_Walk : ClsF K (He.ga K "Walk") ksW := by
    refine ⟨He.cls_ok (cd.fact 72 (f := .cls "Walk") rfl), fun k hk => ?_⟩
    simp only [ksW, List.mem_cons, List.not_mem_nil, or_false] at hk
    rcases hk with rfl | rfl | rfl | rfl | rfl | rfl | rfl | rfl
    · exact He.noat_ok (cd.fact 74 (f := .noat "Walk" "code") rfl)
    · exact He.noat_ok (cd.fact 75 (f := .noat "Walk" "frame") rfl)
    · exact He.noat_ok (cd.fact 76 (f := .noat "Walk" "memory") rfl)
    · exact He.noat_ok (cd.fact 77 (f := .noat "Walk" "at") rfl)
    · exact He.noat_ok (cd.fact 78 (f := .noat "Walk" "reads") rfl)
    · exact He.noat_ok (cd.fact 79 (f := .noat "Walk" "writes") rfl)
    · exact He.noat_ok (cd.fact 80 (f := .noat "Walk" "later") rfl)
    · exact He.noat_ok (cd.fact 81 (f := .noat "Walk" "noted") rfl)
  have C_World : ClsF K (He.ga K "World") ksWo := by
    refine ⟨He.cls_ok (cd.fact 82 (f := .cls "World") rfl), fun k hk => ?_⟩
    simp only [ksWo, List.mem_cons, List.not_mem_nil, or_false] at hk
    rcases hk with rfl | rfl | rfl
    · exact He.noat_ok (cd.fact 84 (f := .noat "World" "program") rfl)
    · exact He.noat_ok (cd.fact 85 (f := .noat "World" "codes") rfl)
    · exact He.noat_ok (cd.fact 86 (f := .noat "World" "counts") rfl)
  have C_Thread : ClsF K (He.ga K "Thread") ksTh := by
    refine ⟨He.cls_ok (cd.fact 87 (f := .cls "Thread") rfl), fun k hk => ?_⟩
    simp only [ksTh, List.mem_cons, List.not_mem_nil, or_false] at hk
    rcases hk with rfl | rfl | rfl
    · exact He.noat_ok (cd.fact 89 (f := .noat "Thread" "name") rfl)
    · exact He.noat_ok (cd.fact 90 (f := .noat "Thread" "variables") rfl)
    · exact He.noat_ok (cd.fact 91 (f := .noat "Thread" "body") rfl)
  have C_Program : ClsF K (He.ga K "Program") ksP := by
    refine ⟨He.cls_ok (cd.fact 92 (f := .cls "Program") rfl), fun k hk => ?_⟩
    simp only [ksP, List.mem_cons, List.not_mem_nil, or_false] at hk
    rcases hk with rfl | rfl
    · exact He.noat_ok (cd.fact 94 (f := .noat "Program" "cells") rfl)
    · exact He.noat_ok (cd.fact 95 (f := .noat "Program" "threads") rfl)
  have T : Tx K mg (He.ga K "RETRY") := ⟨⟨He.free_ok X G (cd.fact 34 (f := .free "len") rfl), He.free_ok X G (cd.fact 35 (f := .free "range") rfl), He.free_ok X G (cd.fact 36 (f := .free "list") rfl), He.free_ok X G (cd.fact 37 (f := .free "tuple") rfl), He.free_ok X G (cd.fact 38 (f := .free "dict") rfl), He.free_ok X G (cd.fact 39 (f := .free "int") rfl), He.free_ok X G (cd.fact 40 (f := .free "max") rfl), He.free_ok X G (cd.fact 41 (f := .free "min") rfl), He.free_ok X G (cd.fact 42 (f := .free "any") rfl), He.free_ok X G (cd.fact 43 (f := .free "sum") rfl), He.free_ok X G (cd.fact 44 (f := .free "abs") rfl), He.free_ok X G (cd.fact 45 (f := .free "enumerate") rfl), He.free_ok X G (cd.fact 46 (f := .free "isinstance") rfl), He.free_ok X G (cd.fact 47 (f := .free "reversed") rfl), He.free_ok X G (cd.fact 48 (f := .free "super") rfl)⟩, (He.glo_ok X G (cd.fact 32 (f := .glo "RETRY") rfl)), fun H => He.tupB_ok cT H, He.int_ok X G (cd.fact 49 (f := .int "MOST_VALUE" 1000000000) rfl), He.int_ok X G (cd.fact 50 (f := .int "MOST_STATES" 3000) rfl), He.str_ok X G (cd.fact 51 (f := .str "TICK" "tick") rfl)⟩
  have O_at : OutAt K mg (He.ga K "Outcome") := ⟨_, _, F40, He.mkr_ok (cd.fact 53 (f := .mkr "Outcome") rfl), (He.glo_ok X G (cd.fact 25 (f := .glo "Outcome") rfl))⟩
  have E_at : EndAt K mg := ⟨_, _, F16, (He.glo_ok X G (cd.fact 16 (f := .glo "ended") rfl))⟩
  have TI : TInitAt K (He.ma K (He.ga K "Translator") "__init__") := ⟨_, funOf F39⟩
  have S_BlockTranslator : SupAt Pg K mg "BlockTranslator" (He.ga K "BlockTranslator") "BlockTranslator.__init__" (inClass (top 27) 0) (He.ma K (He.ga K "Translator") "__init__") := sup_at cS1 cW1 file_ok sup_ok (He.mkr_ok (cd.fact 61 (f := .mkr "BlockTranslator") rfl)) (He.glo_ok X G (cd.fact 26 (f := .glo "BlockTranslator") rfl))
  have S_ThreadTranslator : SupAt Pg K mg "ThreadTranslator" (He.ga K "ThreadTranslator") "ThreadTranslator.__init__" (inClass (top 28) 0) (He.ma K (He.ga K "Translator") "__init__") := sup_at cS2 cW2 file_ok sup_ok (He.mkr_ok (cd.fact 67 (f := .mkr "ThreadTranslator") rfl)) (He.glo_ok X G (cd.fact 27 (f := .glo "ThreadTranslator") rfl))
  refine ⟨fd24, fun s v => ?_, fun base _ _ => ?_⟩
  · have b := FunD.bindsA (ps := ["_law_script"]) F24 fun _ _ _ _ _ _ us hl => match us, hl with | [_], _ => rfl
    exact b s [v] rfl
  · skip
    have c_check : Cal Pg w K mg base 1 "_check" spCheck := ok_check T D__check
    have w_number : Cal Pg w K mg base 1 "_number" (spNumberW K) := okw_number T D__number
    have w_cell : Cal Pg w K mg base 2 "_cell" (spCellW K) := okw_cell T D__cell w_number
    have w_put : Cal Pg w K mg base 2 "_put" (spPutW K) := okw_put T D__put w_number
    have w_retry_if : Cal Pg w K mg base 1 "_retry_if" (spRetryIfW K) := okw_retry_if T D__retry_if
    have w_block : Cal Pg w K mg base 1 "_block" (spBlockW K) := okw_block T D__block
    have w_channel : Cal Pg w K mg base 2 "channel" (spChannelW K) := okw_channel T D_channel c_check
    have w_send : Cal Pg w K mg base 3 "send" (spSendW K) := okw_send T D_send c_check w_number w_cell w_put w_retry_if w_block
    have w_receive : Cal Pg w K mg base 3 "receive" (spReceiveW K) := okw_receive T D_receive c_check w_number w_cell w_put w_retry_if w_block
    have c_checked : Cal Pg w K mg base 1 "checked" spChecked := ok_checked T D_checked
    have c_combined : Cal Pg w K mg base 2 "combined" spCombined := ok_combined T D_combined c_checked
    have c_eval : Cal Pg w K mg base 5 "evaluate_slots" (spEval K 2) := ok_eval T D_evaluate_slots c_checked c_combined
    have m_wcell : Met Pg w K mg base 1 (He.ga K "Walk") "cell" spWCell := ok_wcell T C_Walk M_Walk_cell
    have m_wvalue : Met Pg w K mg base 6 (He.ga K "Walk") "value" (spWValue K (He.ga K "Walk")) := ok_wvalue T C_Walk M_Walk_value c_eval
    have m_wput : Met Pg w K mg base 7 (He.ga K "Walk") "put" (spWDo K (He.ga K "Walk") Ins.isPut) := ok_wput T C_Walk M_Walk_put m_wcell m_wvalue
    have m_wload : Met Pg w K mg base 7 (He.ga K "Walk") "load" (spWDo K (He.ga K "Walk") Ins.isLoad) := ok_wload T C_Walk M_Walk_load m_wcell m_wvalue
    have m_wdo : Met Pg w K mg base 8 (He.ga K "Walk") "do" (spWDo K (He.ga K "Walk") fun _ => True) := ok_wdo T C_Walk M_Walk_do m_wvalue m_wload m_wput
    have m_wrun : Met Pg w K mg base 9 (He.ga K "Walk") "run" (spWRun K (He.ga K "Walk")) := ok_wrun T C_Walk M_Walk_run m_wdo
    have k_Walk : Mak Pg w K mg base 1 "Walk" (He.ga K "Walk") (spWInit K (He.ga K "Walk")) := ok_winit T C_Walk I_Walk
    have k_Outcome : OutK Pg w K mg base (He.ga K "Outcome") := ok_outcome T C_Outcome O_at
    have c_ended : EndK Pg w K mg base (He.ga K "Outcome") := ok_ended T k_Outcome E_at
    have c_walk_block : Cal Pg w K mg base 10 "walk_block" (spWalkBlock K (He.ga K "Outcome")) := ok_walk_block T C_Walk D_walk_block k_Walk m_wrun k_Outcome c_ended
    have c_has : Cal Pg w K mg base 5 "has_cells" (spHas K 3) := ok_has T D_has_cells 3
    have c_still : Cal Pg w K mg base 1 "is_still" (spStill K) := ok_still T D_is_still
    have c_place : Cal Pg w K mg base 1 "place_of" (spPlace K) := ok_place T D_place_of
    have c_first_memory : Cal Pg w K mg base 1 "first_memory" (spFirstMem K) := ok_first_memory T D_first_memory
    have b_add : Met Pg w K mg base 1 (He.ga K "BlockTranslator") "add" (spAdd K (He.ga K "BlockTranslator")) := ok_add T C_BlockTranslator M_BlockTranslator_add
    have b_new : Met Pg w K mg base 1 (He.ga K "BlockTranslator") "new_slot" (spNewSlot K (He.ga K "BlockTranslator")) := ok_new_slot T C_BlockTranslator M_BlockTranslator_new_slot
    have b_kept : Met Pg w K mg base 2 (He.ga K "BlockTranslator") "kept" (spKept K (He.ga K "BlockTranslator")) := ok_kept T C_BlockTranslator M_BlockTranslator_kept b_add b_new
    have b_ren : Met Pg w K mg base 1 (He.ga K "BlockTranslator") "renamed" (spRenamed K (He.ga K "BlockTranslator")) := ok_renamed T C_BlockTranslator M_BlockTranslator_renamed
    have b_expr : Met Pg w K mg base 9 (He.ga K "BlockTranslator") "expression" (spExpr K (He.ga K "BlockTranslator") 3) := ok_expr T C_BlockTranslator M_BlockTranslator_expression b_add b_new b_kept b_ren c_has c_still c_place 3 (Nat.le_refl _)
    have b_put : Met Pg w K mg base 10 (He.ga K "BlockTranslator") "put" (spStmt K (He.ga K "BlockTranslator") fun s => ∃ i e, s = .put i e) := ok_bput T C_BlockTranslator M_BlockTranslator_put b_add b_kept b_expr c_has c_still c_place
    have b_stmts : Met Pg w K mg base 15 (He.ga K "BlockTranslator") "statements" (spStmts K (He.ga K "BlockTranslator") fun _ => True) := ok_bstmts T C_BlockTranslator M_BlockTranslator_statements M_BlockTranslator_branches M_BlockTranslator_statement b_add b_expr b_put
    obtain ⟨bfi, bGi, bBi⟩ := ok_tinit (P := Pg) (w := w) (base := base) T C_BlockTranslator TI
    have k_BlockTranslator : Mak Pg w K mg base 2 "BlockTranslator" (He.ga K "BlockTranslator") (spTrNew K (He.ga K "BlockTranslator")) := ok_trnew T C_BlockTranslator TI (ok_sup S_BlockTranslator bGi bBi C_BlockTranslator.cl (C_BlockTranslator.na "cells" (by simp [ksT])) T.b.super rfl (fun _ _ _ _ => rfl) rfl rfl (fun _ _ _ _ _ _ _ us hl => match us, hl with | [_, _, _], _ => rfl))
    obtain ⟨tfi, tGi, tBi⟩ := ok_tinit (P := Pg) (w := w) (base := base) T C_ThreadTranslator TI
    have k_ThreadTranslator : Mak Pg w K mg base 2 "ThreadTranslator" (He.ga K "ThreadTranslator") (spTrNew K (He.ga K "ThreadTranslator")) := ok_trnew T C_ThreadTranslator TI (ok_sup S_ThreadTranslator tGi tBi C_ThreadTranslator.cl (C_ThreadTranslator.na "cells" (by simp [ksT])) T.b.super rfl (fun _ _ _ _ => rfl) rfl rfl (fun _ _ _ _ _ _ _ us hl => match us, hl with | [_, _, _], _ => rfl))
    have t_add : Met Pg w K mg base 1 (He.ga K "ThreadTranslator") "add" (spAdd K (He.ga K "ThreadTranslator")) := ok_add T C_ThreadTranslator M_ThreadTranslator_add
    have t_ren : Met Pg w K mg base 1 (He.ga K "ThreadTranslator") "renamed" (spRenamed K (He.ga K "ThreadTranslator")) := ok_renamed T C_ThreadTranslator M_ThreadTranslator_renamed
    have St : FnScope ["self", "statement", "kind", "condition"] ["self", "statement"] (defScope sThreadTranslatorStatement) := ⟨rfl, rfl, rfl, by decide +kernel, rfl, by decide +kernel, by decide +kernel⟩
    have t_no : Met Pg w K mg base 1 (He.ga K "ThreadTranslator") "statement" (spTStmt K (He.ga K "ThreadTranslator") fun _ => False) := (met_no C_ThreadTranslator.cl M_ThreadTranslator_statement St (fun _ _ _ _ _ _ us hl => match us, hl with | [_, _], _ => rfl)).imp fun vs H Q E h => by obtain ⟨_, _, _, _, _, _, _, _, _, _, _, _, _, h, _⟩ := h; exact h
    have t_ts : Met Pg w K mg base 2 (He.ga K "ThreadTranslator") "statements" (spTStmts K (He.ga K "ThreadTranslator") fun _ => False) := ok_tstmts T C_ThreadTranslator M_ThreadTranslator_statements t_no
    have t_block : Met Pg w K mg base 16 (He.ga K "ThreadTranslator") "block" (spTStmt K (He.ga K "ThreadTranslator") fun s => ∃ ss, s = .blk ss) := ok_tblock T C_ThreadTranslator C_BlockTranslator M_ThreadTranslator_block t_add k_BlockTranslator b_stmts t_ts
    have t_stmt : Met Pg w K mg base 17 (He.ga K "ThreadTranslator") "statement" (spTStmt K (He.ga K "ThreadTranslator") fun _ => True) := ok_tstmt T C_ThreadTranslator M_ThreadTranslator_statement t_add t_ren t_block
    have t_stmts : Met Pg w K mg base 18 (He.ga K "ThreadTranslator") "statements" (spTStmts K (He.ga K "ThreadTranslator") fun _ => True) := ok_tstmts T C_ThreadTranslator M_ThreadTranslator_statements t_stmt
    have c_flat : Cal Pg w K mg base 19 "flat_thread" (spFlat K (He.ga K "Thread")) := ok_flat T C_ThreadTranslator C_Thread D_flat_thread k_ThreadTranslator t_stmts
    have k_Thread : Mak Pg w K mg base 1 "Thread" (He.ga K "Thread") (spThNewW K (He.ga K "Thread")) := okw_thnew T C_Thread I_Thread
    have k_Program : Mak Pg w K mg base 1 "Program" (He.ga K "Program") (spPgNew K (He.ga K "Program") (He.ga K "Thread")) := ok_pgnew T C_Program I_Program
    have k_World : Mak Pg w K mg base 20 "World" (He.ga K "World") (spWoNew K (He.ga K "World") (He.ga K "Program") (He.ga K "Thread")) := ok_wonew T C_World C_Program I_World c_flat
    have o_one : Met Pg w K mg base 6 (He.ga K "World") "one_instruction" (spOne K) := ok_one T C_World M_World_one_instruction c_eval
    have o_go : Met Pg w K mg base 7 (He.ga K "World") "going_on" (spGo K (He.ga K "World") (He.ga K "Program") (He.ga K "Thread")) := ok_go T C_World M_World_going_on o_one
    have o_first : Met Pg w K mg base 8 (He.ga K "World") "first" (spFirst K (He.ga K "World") (He.ga K "Program") (He.ga K "Thread")) := ok_first T C_World C_Program C_Thread M_World_first o_go c_first_memory
    have o_outc : Met Pg w K mg base 11 (He.ga K "World") "outcome" (spOutc K (He.ga K "World") (He.ga K "Program") (He.ga K "Thread") (He.ga K "Outcome")) := ok_outc T C_World C_Program C_Thread M_World_outcome c_walk_block
    have o_case : Met Pg w K mg base 12 (He.ga K "World") "case" (spCase K (He.ga K "World") (He.ga K "Program") (He.ga K "Thread")) := ok_case T C_World C_Outcome M_World_case o_outc
    have o_poss : Met Pg w K mg base 13 (He.ga K "World") "possible" (spPoss K (He.ga K "World") (He.ga K "Program") (He.ga K "Thread")) := ok_poss T C_World M_World_possible o_case
    have o_bd : Met Pg w K mg base 12 (He.ga K "World") "block_done" (spBD K (He.ga K "World") (He.ga K "Program") (He.ga K "Thread")) := ok_bd T C_World C_Outcome M_World_block_done o_outc o_go
    have o_after : Met Pg w K mg base 14 (He.ga K "World") "after" (spAfter K (He.ga K "World") (He.ga K "Program") (He.ga K "Thread")) := ok_after T C_World M_World_after o_poss o_case o_bd
    have o_end : Met Pg w K mg base 14 (He.ga K "World") "end_of" (spEnd K (He.ga K "World") (He.ga K "Program") (He.ga K "Thread")) := ok_end T C_World M_World_end_of o_poss
    have c_searched : Cal Pg w K mg base 22 "searched" (spSearch Pg w K (He.ga K "Program") (He.ga K "Thread")) := ok_searched T C_World D_searched k_World o_first o_poss o_after
    have c_reach : Cal Pg w K mg base 23 "reachable" (spReach K (He.ga K "Program") (He.ga K "Thread")) := ok_reach T D_reachable c_searched
    have c_draws : Cal Pg w K mg base 1 "_law_draws" (spDraws K) := ok_draws T D__law_draws
    have c_take : Cal Pg w K mg base 1 "_law_take" spTake := ok_take T D__law_take
    have c_fine : Cal Pg w K mg base 1 "_law_fine" (spFine K) := ok_fine T D__law_fine
    exact ok_law T (funOf F24) c_draws c_take w_send w_receive w_channel k_Thread k_Program k_World c_reach c_fine o_end
end HK


set_option maxRecDepth 100000
set_option maxHeartbeats 0
open PySem PySem.W PySem.Calls PyProof.Rows
theorem PySem.Challenge.cw_handshaker_k11_whole_channels_in_all_ord_holds : PySem.Challenge.rw_handshaker_k11_whole_channels_in_all_ord.Holds := by
  w_on; o_law
  refine HandSHeadRun.head_any (r := OpenLaw.row PySem.Challenge.rw_handshaker_k11_whole_channels_in_all_ord) (q := view (OpenLaw.row PySem.Challenge.rw_handshaker_k11_whole_channels_in_all_ord).prog [53]) (H := HK.hookX) (ob := HK.obX) (M := 6000) (loose := HK.loose) (d := HandSHeadRun.topDef (OpenLaw.row PySem.Challenge.rw_handshaker_k11_whole_channels_in_all_ord).prog 53) (kwd := []) HK.obX_eq
    (by kernel_rfl) (fun s => by kernel_rfl) HK.runX (by kernel_rfl) (by kernel_rfl) (by kernel_rfl) (by rfl) (by first | assumption | decide +kernel) (by decide +kernel) ⟨rfl, rfl, rfl, rfl, rfl, by decide +kernel⟩ ?hw ?hc
  case hw => w_witness2
  case hc =>
    refine L2.walk_ofE (l := PySem.Challenge.rw_handshaker_k11_whole_channels_in_all_ord) (n := 63) (k := 24) (x := "_law_script") (CX := L2.CX0) rfl (by decide) (by kernel_rfl) ⟨rfl, by decide, by decide⟩ ?F (fun _ _ _ _ z => z)
    intro w mg fa h Y G hmg0
    obtain ⟨K, KX, c⟩ := Y
    have hmg : mg ("law" : PySem.Str) = some (.ref fa) := by
      have e : (HandSHeadRun.topDef (OpenLaw.row PySem.Challenge.rw_handshaker_k11_whole_channels_in_all_ord).prog 53).name = ("law" : PySem.Str) := by kernel_rfl
      rw [← e]
      exact hmg0
    obtain ⟨fd, hb, hF⟩ := HK.facts (w := w) KX G hmg c
    exact ⟨K, fd, HK.spLaw K, KX, hb, fun H a ns hl _ hS => ⟨a, ns, rfl, hS, hl, fun _ => rfl⟩, hF⟩

