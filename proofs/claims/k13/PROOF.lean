import PyProof.Rows.All
import Wide.All
import OpenK.AllK
import Wide.FinOn
import HandS.ForMost
import HandS.ForExc
import HandS.IsInst
import HandS.ExcIs
import HandS.TupAny
import HandS.SortInts
import HandS.Wide
import HandS.Finally
import HandS.Zip
import HandS.More
import HandS.Flow
import HandS.Strs
import HandS.CallRecv
import HandS.Defaults
import PySem.Challenge.RW_chainkept_k13_whole_any_row_of_deeds
import KE.KStateDown
import HandS.Head0
import HandS.Head1
import HandS.Head2
import HandS.HeadEnd
import HandS.HeadHook1
import HandS.HeadHook2
import HandS.HeadHook3
import HandS.HeadHook4
set_option Elab.async false
set_option linter.all false
set_option maxRecDepth 100000
set_option maxHeartbeats 0
/-! Chain kept, the base: where each def stands, how it is called. -/
namespace Ck
open PySem PySem.Spec PyProof.Rows L2

/-- the i-th statement of the text -/
def top (i : Nat) : Stmt := PySem.Challenge.pw_chainkept_k13_whole_any_row_of_deeds.main.body.getD i (.Pass ⟨0, 0, 0, 0⟩)

/-- a def of the text -/
abbrev FDf (K : PySem.W.Frag) (x q : Str) (st : Stmt) (f : Addr) (fd : FuncData) : Prop := FunD K x q (defArgs st) (defBody st) (defScope st) [] [] f fd
structure GD (K : PySem.W.Frag) (mg : Str → Option Value) (x : Str) (st : Stmt) : Prop where
  ex : ∃ (f : Addr) (fd : FuncData), FDf K x x st f fd ∧ mg x = some (.ref f)
structure MD (K : PySem.W.Frag) (C : Addr) (m q : Str) (st : Stmt) : Prop where
  cl : Cls K C
  ex : ∃ (f : Addr) (fd : FuncData), FDf K m q st f fd ∧ Meth K C m f
structure ND (K : PySem.W.Frag) (mg : Str → Option Value) (x : Str) (C : Addr) (q : Str) (st : Stmt) : Prop where
  mgC : mg x = some (.ref C)
  ex : ∃ (f : Addr) (fd : FuncData), FDf K "__init__" q st f fd ∧ Mk K C f

/-- how a def's names and parameters lie -/
structure Sc (st : Stmt) (N ps : List Str) : Prop where
  sc : FnScope N ps (defScope st)
  bd : ∀ (x q : Str) (kV doc pm : Value) (an : Option Addr) (cdv ct : Value) (us : List Value), us.length = ps.length →
    bindArgs (PySem.W.fnOf x q (defArgs st) (defBody st) (defScope st) .none kV doc pm an cdv ct) ⟨us, []⟩ = pure (ps.zip us)

section
variable (P : Program) (w : World) (K : PySem.W.Frag) (mg : Str → Option Value) (base : Heap)
/-- what may be called by name -/
structure Cal (k : Nat) (x : Str) (sp : Sp) : Prop where
  ex : ∃ (f : Addr) (fd : FuncData) (ps : List Str), FnOk P w K mg base CX0 k f fd ps sp ∧ mg x = some (.ref f) ∧ PySem.W.keepIn K (.ref f) = true ∧ Binds K fd ps []
structure Met (k : Nat) (C : Addr) (m : Str) (sp : Sp) : Prop where
  cl : Cls K C
  ex : ∃ (f : Addr) (fd : FuncData) (ps : List Str), Meth K C m f ∧ FnOk P w K mg base CX0 k f fd ps sp ∧ Binds K fd ps []
/-- a method that may raise -/
structure MetX (k : Nat) (C : Addr) (m : Str) (sp : Sp) : Prop where
  cl : Cls K C
  ex : ∃ (f : Addr) (fd : FuncData) (ps : List Str), Meth K C m f ∧ FnOk P w K mg base (L2.CX P w) k f fd ps sp ∧ Binds K fd ps []
structure Mak (k : Nat) (x : Str) (C : Addr) (sp : Sp) : Prop where
  ex : ∃ (f : Addr) (fd : FuncData) (ps : List Str), Mk K C f ∧ FnOk P w K mg base CX0 k f fd ps sp ∧ mg x = some (.ref C) ∧ Binds K fd ps []
end

section
variable {P : Program} {w : World} {K : PySem.W.Frag} {mg : Str → Option Value} {base : Heap}
/-- the body of a def, for a promise -/
abbrev Bod (P : Program) (w : World) (K : PySem.W.Frag) (mg : Str → Option Value) (base : Heap) (k : Nat) (x : Str) (st : Stmt) (N : List Str) (sp : Sp) : Prop :=
  ∀ (f : Addr) (cdv : Value) (A : Around) (outer : List Env) (s : Shared) (H : Hp) (vs : List V) (Q : VK) (E : XK), Room k (A.deeper (envOfC x (defScope st) s.heap.objs.size f cdv)) → sp vs H Q E →
    ∃ t, PSs (cxOf CX0 P w K mg base N x (defScope st) f cdv A outer s H E).nox (defBody st) t ∧ t { nx := fun _ H' => Q .non H', rt := Q } (start N vs) H
abbrev BodX (P : Program) (w : World) (K : PySem.W.Frag) (mg : Str → Option Value) (base : Heap) (k : Nat) (x : Str) (st : Stmt) (N : List Str) (sp : Sp) : Prop :=
  ∀ (f : Addr) (cdv : Value) (A : Around) (outer : List Env) (s : Shared) (H : Hp) (vs : List V) (Q : VK) (E : XK), Room k (A.deeper (envOfC x (defScope st) s.heap.objs.size f cdv)) → sp vs H Q E →
    ∃ t, PSs (cxOf (L2.CX P w) P w K mg base N x (defScope st) f cdv A outer s H E) (defBody st) t ∧ t { nx := fun _ H' => Q .non H', rt := Q } (start N vs) H
theorem fok {x q : Str} {st : Stmt} {f : Addr} {fd : FuncData} {N ps : List Str} {k : Nat} {sp : Sp} (F : FDf K x q st f fd) (S : FnScope N ps (defScope st)) (len : ∀ vs H Q E, sp vs H Q E → vs.length = ps.length)
    (b : Bod P w K mg base k q st N sp) : FnOk P w K mg base CX0 (k + 1) f fd ps sp :=
  F.ok S len fun cdv A outer s H vs Q E hr h => by
    obtain ⟨t, h1, h2⟩ := b f cdv A outer s H vs Q E hr h
    exact ⟨t, h1.nox, h2⟩
theorem cal_mk {x : Str} {st : Stmt} {N ps : List Str} {k : Nat} {sp : Sp} (D : GD K mg x st) (S : Sc st N ps) (len : ∀ vs H Q E, sp vs H Q E → vs.length = ps.length) (b : Bod P w K mg base k x st N sp) : Cal P w K mg base (k + 1) x sp := by
  obtain ⟨f, fd, F, g⟩ := D.ex
  exact ⟨f, fd, ps, fok F S.sc len b, g, F.kp, F.bindsN fun kV doc pm an cdv ct us hl => S.bd x x kV doc pm an cdv ct us hl⟩
theorem met_mk {C : Addr} {m q : Str} {st : Stmt} {N ps : List Str} {k : Nat} {sp : Sp} (D : MD K C m q st) (S : Sc st N ps) (len : ∀ vs H Q E, sp vs H Q E → vs.length = ps.length) (b : Bod P w K mg base k q st N sp) : Met P w K mg base (k + 1) C m sp := by
  obtain ⟨f, fd, F, g⟩ := D.ex
  exact ⟨D.cl, f, fd, ps, g, fok F S.sc len b, F.bindsN fun kV doc pm an cdv ct us hl => S.bd m q kV doc pm an cdv ct us hl⟩
theorem metX_mk {C : Addr} {m q : Str} {st : Stmt} {N ps : List Str} {k : Nat} {sp : Sp} (D : MD K C m q st) (S : Sc st N ps) (len : ∀ vs H Q E, sp vs H Q E → vs.length = ps.length) (b : BodX P w K mg base k q st N sp) : MetX P w K mg base (k + 1) C m sp := by
  obtain ⟨f, fd, F, g⟩ := D.ex
  exact ⟨D.cl, f, fd, ps, g, F.ok S.sc len fun cdv A outer s H vs Q E hr h => b f cdv A outer s H vs Q E hr h, F.bindsN fun kV doc pm an cdv ct us hl => S.bd m q kV doc pm an cdv ct us hl⟩
theorem mak_mk {C : Addr} {x q : Str} {st : Stmt} {N ps : List Str} {k : Nat} {sp : Sp} (D : ND K mg x C q st) (S : Sc st N ps) (len : ∀ vs H Q E, sp vs H Q E → vs.length = ps.length) (b : Bod P w K mg base k q st N sp) : Mak P w K mg base (k + 1) x C sp := by
  obtain ⟨f, fd, F, g⟩ := D.ex
  exact ⟨f, fd, ps, g, fok F S.sc len b, D.mgC, F.bindsN fun kV doc pm an cdv ct us hl => S.bd "__init__" q kV doc pm an cdv ct us hl⟩
end

section
variable {X : Cx} {k j : Nat} {C : Addr} {x m : Str} {sp : Sp} {p pos apos : Pos} {e o : Expr} {es : List Expr} {ta : TE} {t : TA}
/-- f(e, ..) -/
theorem pc (c : Cal X.prog X.w X.K X.mg X.base k x sp) (hr : Room j X.A) (hk : k ≤ j) (hg : Gl X x) (ha : PA X (e :: es) t)
    (hdb : (x == ("__debug__" : Str)) = false := by decide) (he : starEach (e :: es) X.env = (false, eval e X.env) :: starEach es X.env := by rfl) (hpl : (backTo pos (starEach es X.env)).any (·.1) = false := by rfl) :
    PE X (.Call (.Name x p) (e :: es) [] pos) (tCall sp [] E0 t) := by
  obtain ⟨f, fd, ps, F, hm, kp, b⟩ := c.ex
  exact pe_call F (hr.mono hk) hg hm kp b .nil pass0 ha hdb he hpl
/-- C(e, ..) -/
theorem pk (c : Mak X.prog X.w X.K X.mg X.base k x C sp) (hr : Room j X.A) (hk : k + 1 ≤ j) (hg : Gl X x) (ha : PA X (e :: es) t)
    (hdb : (x == ("__debug__" : Str)) = false := by decide) (he : starEach (e :: es) X.env = (false, eval e X.env) :: starEach es X.env := by rfl) (hpl : (backTo pos (starEach es X.env)).any (·.1) = false := by rfl) :
    PE X (.Call (.Name x p) (e :: es) [] pos) (tMake C sp [] E0 t) := by
  obtain ⟨f, fd, ps, M, F, hm, b⟩ := c.ex
  exact pe_make M F (hr.mono hk) hg hm b .nil pass0 ha hdb he hpl
/-- o.m(e, ..) -/
theorem pm {pl : Sem Bool} (c : Met X.prog X.w X.K X.mg X.base k C m sp) (hr : Room j X.A) (hk : k ≤ j) (he : PE X o ta) (ha : PA X (e :: es) t)
    (hst : starEach (e :: es) X.env = (false, eval e X.env) :: starEach es X.env := by rfl) (hpl : (backTo pos (starEach es X.env)).any (·.1) = false := by rfl)
    (ht : eval (.Call (.Attribute o m apos) (e :: es) [] pos) X.env = (do
      let ov ← eval o X.env
      standAt apos.atName
      let (f, first) ← holding [ov] (getMethod ov m pl)
      callWith pos f first (backTo pos (starEach (e :: es) X.env)) (backToKw pos (keywordEach [] X.env))) := by rfl) :
    PE X (.Call (.Attribute o m apos) (e :: es) [] pos) (tMeth C m sp [] E0 ta t) := by
  obtain ⟨f, fd, ps, hm, F, b⟩ := c.ex
  exact pe_meth (pl := pl) he c.cl hm F (hr.mono hk) b .nil pass0 ha hst hpl ht
/-- o.m() -/
theorem pm0 {pl : Sem Bool} (c : Met X.prog X.w X.K X.mg X.base k C m sp) (hr : Room j X.A) (hk : k ≤ j) (he : PE X o ta)
    (ht : eval (.Call (.Attribute o m apos) [] [] pos) X.env = (do
      let ov ← eval o X.env
      standAt apos.atName
      let (f, first) ← holding [ov] (getMethod ov m pl)
      callWith pos f first (backTo pos (starEach [] X.env)) (backToKw pos (keywordEach [] X.env))) := by rfl) :
    PE X (.Call (.Attribute o m apos) [] [] pos) (tMeth C m sp [] E0 ta tNil) := by
  obtain ⟨f, fd, ps, hm, F, b⟩ := c.ex
  exact pe_meth0 (pl := pl) he c.cl hm F (hr.mono hk) b .nil pass0 ht
/-- a constant of the module -/
theorem pgl {v : V} {pos : Pos} (h : ∃ u, X.mg x = some u ∧ RelV v u) (hg : Gl X x) (hd : (x == ("__debug__" : Str)) = false := by decide) : PE X (.Name x pos) (tC v) := by
  obtain ⟨u, h1, h2⟩ := h
  exact pe_glob hg h1 h2 hd
end
end Ck

namespace Ck
open PySem PySem.Spec PyProof.Rows L2
abbrev s_is_whole : Stmt := top 14
abbrev N_is_whole : List Str := ["thing"]
theorem sc_is_whole : Sc s_is_whole N_is_whole ["thing"] := ⟨⟨rfl, rfl, rfl, by decide +kernel, rfl, by decide +kernel, by decide +kernel⟩, fun _ _ _ _ _ _ _ _ us hl => match us, hl with | [_], _ => rfl⟩
abbrev s_is_count : Stmt := top 15
abbrev N_is_count : List Str := ["thing", "least"]
theorem sc_is_count : Sc s_is_count N_is_count ["thing", "least"] := ⟨⟨rfl, rfl, rfl, by decide +kernel, rfl, by decide +kernel, by decide +kernel⟩, fun _ _ _ _ _ _ _ _ us hl => match us, hl with | [_, _], _ => rfl⟩
abbrev s_is_name : Stmt := top 16
abbrev N_is_name : List Str := ["thing", "letter"]
theorem sc_is_name : Sc s_is_name N_is_name ["thing"] := ⟨⟨rfl, rfl, rfl, by decide +kernel, rfl, by decide +kernel, by decide +kernel⟩, fun _ _ _ _ _ _ _ _ us hl => match us, hl with | [_], _ => rfl⟩
abbrev s_is_row : Stmt := top 17
abbrev N_is_row : List Str := ["thing"]
theorem sc_is_row : Sc s_is_row N_is_row ["thing"] := ⟨⟨rfl, rfl, rfl, by decide +kernel, rfl, by decide +kernel, by decide +kernel⟩, fun _ _ _ _ _ _ _ _ us hl => match us, hl with | [_], _ => rfl⟩
abbrev s_last_worth : Stmt := top 18
abbrev N_last_worth : List Str := ["rows", "key", "found", "row"]
theorem sc_last_worth : Sc s_last_worth N_last_worth ["rows", "key"] := ⟨⟨rfl, rfl, rfl, by decide +kernel, rfl, by decide +kernel, by decide +kernel⟩, fun _ _ _ _ _ _ _ _ us hl => match us, hl with | [_, _], _ => rfl⟩
abbrev s_place_in : Stmt := top 19
abbrev N_place_in : List Str := ["rows", "asker", "number", "k", "row"]
theorem sc_place_in : Sc s_place_in N_place_in ["rows", "asker", "number"] := ⟨⟨rfl, rfl, rfl, by decide +kernel, rfl, by decide +kernel, by decide +kernel⟩, fun _ _ _ _ _ _ _ _ us hl => match us, hl with | [_, _, _], _ => rfl⟩
abbrev s_are_houses : Stmt := top 23
abbrev N_are_houses : List Str := ["thing", "one"]
theorem sc_are_houses : Sc s_are_houses N_are_houses ["thing"] := ⟨⟨rfl, rfl, rfl, by decide +kernel, rfl, by decide +kernel, by decide +kernel⟩, fun _ _ _ _ _ _ _ _ us hl => match us, hl with | [_], _ => rfl⟩
abbrev s_C_init : Stmt := inClass (top 24) 0
abbrev N_C_init : List Str := ["self", "number", "houses"]
theorem sc_C_init : Sc s_C_init N_C_init ["self", "number", "houses"] := ⟨⟨rfl, rfl, rfl, by decide +kernel, rfl, by decide +kernel, by decide +kernel⟩, fun _ _ _ _ _ _ _ _ us hl => match us, hl with | [_, _, _], _ => rfl⟩
abbrev s_C_place : Stmt := inClass (top 24) 1
abbrev N_C_place : List Str := ["self", "name"]
theorem sc_C_place : Sc s_C_place N_C_place ["self", "name"] := ⟨⟨rfl, rfl, rfl, by decide +kernel, rfl, by decide +kernel, by decide +kernel⟩, fun _ _ _ _ _ _ _ _ us hl => match us, hl with | [_, _], _ => rfl⟩
abbrev s_C_ahead_of : Stmt := inClass (top 24) 2
abbrev N_C_ahead_of : List Str := ["self", "name", "at"]
theorem sc_C_ahead_of : Sc s_C_ahead_of N_C_ahead_of ["self", "name"] := ⟨⟨rfl, rfl, rfl, by decide +kernel, rfl, by decide +kernel, by decide +kernel⟩, fun _ _ _ _ _ _ _ _ us hl => match us, hl with | [_, _], _ => rfl⟩
abbrev s_C_behind : Stmt := inClass (top 24) 3
abbrev N_C_behind : List Str := ["self", "name", "at"]
theorem sc_C_behind : Sc s_C_behind N_C_behind ["self", "name"] := ⟨⟨rfl, rfl, rfl, by decide +kernel, rfl, by decide +kernel, by decide +kernel⟩, fun _ _ _ _ _ _ _ _ us hl => match us, hl with | [_, _], _ => rfl⟩
abbrev s_is_letter : Stmt := top 25
abbrev N_is_letter : List Str := ["thing", "row"]
theorem sc_is_letter : Sc s_is_letter N_is_letter ["thing"] := ⟨⟨rfl, rfl, rfl, by decide +kernel, rfl, by decide +kernel, by decide +kernel⟩, fun _ _ _ _ _ _ _ _ us hl => match us, hl with | [_], _ => rfl⟩
abbrev s_H_init : Stmt := inClass (top 27) 0
abbrev N_H_init : List Str := ["self", "name"]
theorem sc_H_init : Sc s_H_init N_H_init ["self", "name"] := ⟨⟨rfl, rfl, rfl, by decide +kernel, rfl, by decide +kernel, by decide +kernel⟩, fun _ _ _ _ _ _ _ _ us hl => match us, hl with | [_, _], _ => rfl⟩
abbrev s_H_chain_number : Stmt := inClass (top 27) 1
abbrev N_H_chain_number : List Str := ["self"]
theorem sc_H_chain_number : Sc s_H_chain_number N_H_chain_number ["self"] := ⟨⟨rfl, rfl, rfl, by decide +kernel, rfl, by decide +kernel, by decide +kernel⟩, fun _ _ _ _ _ _ _ _ us hl => match us, hl with | [_], _ => rfl⟩
abbrev s_H_log : Stmt := inClass (top 27) 2
abbrev N_H_log : List Str := ["self"]
theorem sc_H_log : Sc s_H_log N_H_log ["self"] := ⟨⟨rfl, rfl, rfl, by decide +kernel, rfl, by decide +kernel, by decide +kernel⟩, fun _ _ _ _ _ _ _ _ us hl => match us, hl with | [_], _ => rfl⟩
abbrev s_H_told_many : Stmt := inClass (top 27) 3
abbrev N_H_told_many : List Str := ["self"]
theorem sc_H_told_many : Sc s_H_told_many N_H_told_many ["self"] := ⟨⟨rfl, rfl, rfl, by decide +kernel, rfl, by decide +kernel, by decide +kernel⟩, fun _ _ _ _ _ _ _ _ us hl => match us, hl with | [_], _ => rfl⟩
abbrev s_H_is_ready : Stmt := inClass (top 27) 4
abbrev N_H_is_ready : List Str := ["self"]
theorem sc_H_is_ready : Sc s_H_is_ready N_H_is_ready ["self"] := ⟨⟨rfl, rfl, rfl, by decide +kernel, rfl, by decide +kernel, by decide +kernel⟩, fun _ _ _ _ _ _ _ _ us hl => match us, hl with | [_], _ => rfl⟩
abbrev s_H_waiting : Stmt := inClass (top 27) 5
abbrev N_H_waiting : List Str := ["self"]
theorem sc_H_waiting : Sc s_H_waiting N_H_waiting ["self"] := ⟨⟨rfl, rfl, rfl, by decide +kernel, rfl, by decide +kernel, by decide +kernel⟩, fun _ _ _ _ _ _ _ _ us hl => match us, hl with | [_], _ => rfl⟩
abbrev s_H_stands : Stmt := inClass (top 27) 6
abbrev N_H_stands : List Str := ["self"]
theorem sc_H_stands : Sc s_H_stands N_H_stands ["self"] := ⟨⟨rfl, rfl, rfl, by decide +kernel, rfl, by decide +kernel, by decide +kernel⟩, fun _ _ _ _ _ _ _ _ us hl => match us, hl with | [_], _ => rfl⟩
abbrev s_H_is_tail : Stmt := inClass (top 27) 7
abbrev N_H_is_tail : List Str := ["self"]
theorem sc_H_is_tail : Sc s_H_is_tail N_H_is_tail ["self"] := ⟨⟨rfl, rfl, rfl, by decide +kernel, rfl, by decide +kernel, by decide +kernel⟩, fun _ _ _ _ _ _ _ _ us hl => match us, hl with | [_], _ => rfl⟩
abbrev s_H_letter : Stmt := inClass (top 27) 8
abbrev N_H_letter : List Str := ["self", "kind", "to", "more"]
theorem sc_H_letter : Sc s_H_letter N_H_letter ["self", "kind", "to", "more"] := ⟨⟨rfl, rfl, rfl, by decide +kernel, rfl, by decide +kernel, by decide +kernel⟩, fun _ _ _ _ _ _ _ _ us hl => match us, hl with | [_, _, _, _], _ => rfl⟩
abbrev s_H_rows_behind : Stmt := inClass (top 27) 9
abbrev N_H_rows_behind : List Str := ["self", "first"]
theorem sc_H_rows_behind : Sc s_H_rows_behind N_H_rows_behind ["self", "first"] := ⟨⟨rfl, rfl, rfl, by decide +kernel, rfl, by decide +kernel, by decide +kernel⟩, fun _ _ _ _ _ _ _ _ us hl => match us, hl with | [_, _], _ => rfl⟩
abbrev s_H_told_ahead : Stmt := inClass (top 27) 10
abbrev N_H_told_ahead : List Str := ["self", "to"]
theorem sc_H_told_ahead : Sc s_H_told_ahead N_H_told_ahead ["self"] := ⟨⟨rfl, rfl, rfl, by decide +kernel, rfl, by decide +kernel, by decide +kernel⟩, fun _ _ _ _ _ _ _ _ us hl => match us, hl with | [_], _ => rfl⟩
abbrev s_H_asked_tail : Stmt := inClass (top 27) 11
abbrev N_H_asked_tail : List Str := ["self", "ask"]
theorem sc_H_asked_tail : Sc s_H_asked_tail N_H_asked_tail ["self"] := ⟨⟨rfl, rfl, rfl, by decide +kernel, rfl, by decide +kernel, by decide +kernel⟩, fun _ _ _ _ _ _ _ _ us hl => match us, hl with | [_], _ => rfl⟩
abbrev s_H_told_all : Stmt := inClass (top 27) 12
abbrev N_H_told_all : List Str := ["self", "told", "row"]
theorem sc_H_told_all : Sc s_H_told_all N_H_told_all ["self"] := ⟨⟨rfl, rfl, rfl, by decide +kernel, rfl, by decide +kernel, by decide +kernel⟩, fun _ _ _ _ _ _ _ _ us hl => match us, hl with | [_], _ => rfl⟩
abbrev s_H_answered_all : Stmt := inClass (top 27) 13
abbrev N_H_answered_all : List Str := ["self", "told", "ask"]
theorem sc_H_answered_all : Sc s_H_answered_all N_H_answered_all ["self"] := ⟨⟨rfl, rfl, rfl, by decide +kernel, rfl, by decide +kernel, by decide +kernel⟩, fun _ _ _ _ _ _ _ _ us hl => match us, hl with | [_], _ => rfl⟩
abbrev s_H_adopt : Stmt := inClass (top 27) 14
abbrev N_H_adopt : List Str := ["self", "chain"]
theorem sc_H_adopt : Sc s_H_adopt N_H_adopt ["self", "chain"] := ⟨⟨rfl, rfl, rfl, by decide +kernel, rfl, by decide +kernel, by decide +kernel⟩, fun _ _ _ _ _ _ _ _ us hl => match us, hl with | [_, _], _ => rfl⟩
abbrev s_H_write : Stmt := inClass (top 27) 15
abbrev N_H_write : List Str := ["self", "row", "place"]
theorem sc_H_write : Sc s_H_write N_H_write ["self", "row"] := ⟨⟨rfl, rfl, rfl, by decide +kernel, rfl, by decide +kernel, by decide +kernel⟩, fun _ _ _ _ _ _ _ _ us hl => match us, hl with | [_, _], _ => rfl⟩
abbrev s_H_read : Stmt := inClass (top 27) 16
abbrev N_H_read : List Str := ["self", "ask", "key"]
theorem sc_H_read : Sc s_H_read N_H_read ["self", "ask", "key"] := ⟨⟨rfl, rfl, rfl, by decide +kernel, rfl, by decide +kernel, by decide +kernel⟩, fun _ _ _ _ _ _ _ _ us hl => match us, hl with | [_, _, _], _ => rfl⟩
abbrev s_H_take : Stmt := inClass (top 27) 17
abbrev N_H_take : List Str := ["self", "letter"]
theorem sc_H_take : Sc s_H_take N_H_take ["self", "letter"] := ⟨⟨rfl, rfl, rfl, by decide +kernel, rfl, by decide +kernel, by decide +kernel⟩, fun _ _ _ _ _ _ _ _ us hl => match us, hl with | [_, _], _ => rfl⟩
abbrev s_H_take_rows : Stmt := inClass (top 27) 18
abbrev N_H_take_rows : List Str := ["self", "sender", "first", "rows", "had"]
theorem sc_H_take_rows : Sc s_H_take_rows N_H_take_rows ["self", "sender", "first", "rows"] := ⟨⟨rfl, rfl, rfl, by decide +kernel, rfl, by decide +kernel, by decide +kernel⟩, fun _ _ _ _ _ _ _ _ us hl => match us, hl with | [_, _, _, _], _ => rfl⟩
abbrev s_H_take_told : Stmt := inClass (top 27) 19
abbrev N_H_take_told : List Str := ["self", "sender", "many"]
theorem sc_H_take_told : Sc s_H_take_told N_H_take_told ["self", "sender", "many"] := ⟨⟨rfl, rfl, rfl, by decide +kernel, rfl, by decide +kernel, by decide +kernel⟩, fun _ _ _ _ _ _ _ _ us hl => match us, hl with | [_, _, _], _ => rfl⟩
abbrev s_H_take_which : Stmt := inClass (top 27) 20
abbrev N_H_take_which : List Str := ["self", "sender", "ask"]
theorem sc_H_take_which : Sc s_H_take_which N_H_take_which ["self", "sender", "ask"] := ⟨⟨rfl, rfl, rfl, by decide +kernel, rfl, by decide +kernel, by decide +kernel⟩, fun _ _ _ _ _ _ _ _ us hl => match us, hl with | [_, _, _], _ => rfl⟩
abbrev s_H_take_that : Stmt := inClass (top 27) 21
abbrev N_H_take_that : List Str := ["self", "sender", "ask", "many", "key"]
theorem sc_H_take_that : Sc s_H_take_that N_H_take_that ["self", "sender", "ask", "many"] := ⟨⟨rfl, rfl, rfl, by decide +kernel, rfl, by decide +kernel, by decide +kernel⟩, fun _ _ _ _ _ _ _ _ us hl => match us, hl with | [_, _, _, _], _ => rfl⟩
abbrev s_H_again : Stmt := inClass (top 27) 22
abbrev N_H_again : List Str := ["self"]
theorem sc_H_again : Sc s_H_again N_H_again ["self"] := ⟨⟨rfl, rfl, rfl, by decide +kernel, rfl, by decide +kernel, by decide +kernel⟩, fun _ _ _ _ _ _ _ _ us hl => match us, hl with | [_], _ => rfl⟩
abbrev s_l_cell_at : Stmt := top 29
abbrev N_l_cell_at : List Str := ["_law_script", "_law_k"]
theorem sc_l_cell_at : Sc s_l_cell_at N_l_cell_at ["_law_script", "_law_k"] := ⟨⟨rfl, rfl, rfl, by decide +kernel, rfl, by decide +kernel, by decide +kernel⟩, fun _ _ _ _ _ _ _ _ us hl => match us, hl with | [_, _], _ => rfl⟩
abbrev s_l_source : Stmt := top 30
abbrev N_l_source : List Str := ["_law_cell"]
theorem sc_l_source : Sc s_l_source N_l_source ["_law_cell"] := ⟨⟨rfl, rfl, rfl, by decide +kernel, rfl, by decide +kernel, by decide +kernel⟩, fun _ _ _ _ _ _ _ _ us hl => match us, hl with | [_], _ => rfl⟩
abbrev s_l_next : Stmt := top 31
abbrev N_l_next : List Str := ["_law_source_here", "_law_many", "_law_primes", "_law_prime", "_law_figure", "_law_found"]
theorem sc_l_next : Sc s_l_next N_l_next ["_law_source_here", "_law_many"] := ⟨⟨rfl, rfl, rfl, by decide +kernel, rfl, by decide +kernel, by decide +kernel⟩, fun _ _ _ _ _ _ _ _ us hl => match us, hl with | [_, _], _ => rfl⟩
abbrev s_l_word : Stmt := top 32
abbrev N_l_word : List Str := ["_law_source_here", "_law_word_here", "_law_k"]
theorem sc_l_word : Sc s_l_word N_l_word ["_law_source_here"] := ⟨⟨rfl, rfl, rfl, by decide +kernel, rfl, by decide +kernel, by decide +kernel⟩, fun _ _ _ _ _ _ _ _ us hl => match us, hl with | [_], _ => rfl⟩
abbrev s_l_row : Stmt := top 33
abbrev N_l_row : List Str := ["_law_source_here", "_law_k", "_law_far", "_law_key", "_law_asker"]
theorem sc_l_row : Sc s_l_row N_l_row ["_law_source_here", "_law_k"] := ⟨⟨rfl, rfl, rfl, by decide +kernel, rfl, by decide +kernel, by decide +kernel⟩, fun _ _ _ _ _ _ _ _ us hl => match us, hl with | [_, _], _ => rfl⟩
abbrev s_l_log : Stmt := top 34
abbrev N_l_log : List Str := ["_law_source_here", "_law_many", "_law_k"]
theorem sc_l_log : Sc s_l_log N_l_log ["_law_source_here", "_law_many"] := ⟨⟨rfl, rfl, rfl, by decide +kernel, rfl, by decide +kernel, by decide +kernel⟩, fun _ _ _ _ _ _ _ _ us hl => match us, hl with | [_, _], _ => rfl⟩
abbrev s_l_last : Stmt := top 35
abbrev N_l_last : List Str := ["_law_rows", "_law_key", "_law_found", "_law_row_here"]
theorem sc_l_last : Sc s_l_last N_l_last ["_law_rows", "_law_key"] := ⟨⟨rfl, rfl, rfl, by decide +kernel, rfl, by decide +kernel, by decide +kernel⟩, fun _ _ _ _ _ _ _ _ us hl => match us, hl with | [_, _], _ => rfl⟩
abbrev s_l_house : Stmt := top 36
abbrev N_l_house : List Str := ["_law_name"]
theorem sc_l_house : Sc s_l_house N_l_house ["_law_name"] := ⟨⟨rfl, rfl, rfl, by decide +kernel, rfl, by decide +kernel, by decide +kernel⟩, fun _ _ _ _ _ _ _ _ us hl => match us, hl with | [_], _ => rfl⟩
abbrev s_l_ahead : Stmt := top 37
abbrev N_l_ahead : List Str := ["_law_house_here", "_law_at"]
theorem sc_l_ahead : Sc s_l_ahead N_l_ahead ["_law_house_here"] := ⟨⟨rfl, rfl, rfl, by decide +kernel, rfl, by decide +kernel, by decide +kernel⟩, fun _ _ _ _ _ _ _ _ us hl => match us, hl with | [_], _ => rfl⟩
abbrev s_l_behind : Stmt := top 38
abbrev N_l_behind : List Str := ["_law_house_here", "_law_names_here", "_law_at"]
theorem sc_l_behind : Sc s_l_behind N_l_behind ["_law_house_here"] := ⟨⟨rfl, rfl, rfl, by decide +kernel, rfl, by decide +kernel, by decide +kernel⟩, fun _ _ _ _ _ _ _ _ us hl => match us, hl with | [_], _ => rfl⟩
abbrev s_l_letter : Stmt := top 39
abbrev N_l_letter : List Str := ["_law_house_here", "_law_kind", "_law_to", "_law_more"]
theorem sc_l_letter : Sc s_l_letter N_l_letter ["_law_house_here", "_law_kind", "_law_to", "_law_more"] := ⟨⟨rfl, rfl, rfl, by decide +kernel, rfl, by decide +kernel, by decide +kernel⟩, fun _ _ _ _ _ _ _ _ us hl => match us, hl with | [_, _, _, _], _ => rfl⟩
abbrev s_l_told_up : Stmt := top 40
abbrev N_l_told_up : List Str := ["_law_house_here"]
theorem sc_l_told_up : Sc s_l_told_up N_l_told_up ["_law_house_here"] := ⟨⟨rfl, rfl, rfl, by decide +kernel, rfl, by decide +kernel, by decide +kernel⟩, fun _ _ _ _ _ _ _ _ us hl => match us, hl with | [_], _ => rfl⟩
abbrev s_l_rows_down : Stmt := top 41
abbrev N_l_rows_down : List Str := ["_law_house_here", "_law_first"]
theorem sc_l_rows_down : Sc s_l_rows_down N_l_rows_down ["_law_house_here", "_law_first"] := ⟨⟨rfl, rfl, rfl, by decide +kernel, rfl, by decide +kernel, by decide +kernel⟩, fun _ _ _ _ _ _ _ _ us hl => match us, hl with | [_, _], _ => rfl⟩
abbrev s_l_asked : Stmt := top 42
abbrev N_l_asked : List Str := ["_law_house_here", "_law_ask"]
theorem sc_l_asked : Sc s_l_asked N_l_asked ["_law_house_here"] := ⟨⟨rfl, rfl, rfl, by decide +kernel, rfl, by decide +kernel, by decide +kernel⟩, fun _ _ _ _ _ _ _ _ us hl => match us, hl with | [_], _ => rfl⟩
abbrev s_l_written : Stmt := top 43
abbrev N_l_written : List Str := ["_law_house_here", "_law_found", "_law_row_here"]
theorem sc_l_written : Sc s_l_written N_l_written ["_law_house_here"] := ⟨⟨rfl, rfl, rfl, by decide +kernel, rfl, by decide +kernel, by decide +kernel⟩, fun _ _ _ _ _ _ _ _ us hl => match us, hl with | [_], _ => rfl⟩
abbrev s_l_adopted : Stmt := top 44
abbrev N_l_adopted : List Str := ["_law_house_here", "_law_number", "_law_names_here", "_law_told", "_law_ask"]
theorem sc_l_adopted : Sc s_l_adopted N_l_adopted ["_law_house_here", "_law_number", "_law_names_here"] := ⟨⟨rfl, rfl, rfl, by decide +kernel, rfl, by decide +kernel, by decide +kernel⟩, fun _ _ _ _ _ _ _ _ us hl => match us, hl with | [_, _, _], _ => rfl⟩
abbrev s_l_stands : Stmt := top 45
abbrev N_l_stands : List Str := ["_law_house_here"]
theorem sc_l_stands : Sc s_l_stands N_l_stands ["_law_house_here"] := ⟨⟨rfl, rfl, rfl, by decide +kernel, rfl, by decide +kernel, by decide +kernel⟩, fun _ _ _ _ _ _ _ _ us hl => match us, hl with | [_], _ => rfl⟩
abbrev s_l_put : Stmt := top 46
abbrev N_l_put : List Str := ["_law_house_here", "_law_row_here", "_law_k", "_law_one"]
theorem sc_l_put : Sc s_l_put N_l_put ["_law_house_here", "_law_row_here"] := ⟨⟨rfl, rfl, rfl, by decide +kernel, rfl, by decide +kernel, by decide +kernel⟩, fun _ _ _ _ _ _ _ _ us hl => match us, hl with | [_, _], _ => rfl⟩
abbrev s_l_read : Stmt := top 47
abbrev N_l_read : List Str := ["_law_house_here", "_law_ask", "_law_key", "_law_unsure", "_law_row_here"]
theorem sc_l_read : Sc s_l_read N_l_read ["_law_house_here", "_law_ask", "_law_key"] := ⟨⟨rfl, rfl, rfl, by decide +kernel, rfl, by decide +kernel, by decide +kernel⟩, fun _ _ _ _ _ _ _ _ us hl => match us, hl with | [_, _, _], _ => rfl⟩
abbrev s_l_took : Stmt := top 48
abbrev N_l_took : List Str := ["_law_house_here", "_law_letter_here", "_law_many", "_law_key"]
theorem sc_l_took : Sc s_l_took N_l_took ["_law_house_here", "_law_letter_here"] := ⟨⟨rfl, rfl, rfl, by decide +kernel, rfl, by decide +kernel, by decide +kernel⟩, fun _ _ _ _ _ _ _ _ us hl => match us, hl with | [_, _], _ => rfl⟩
abbrev s_l_took_rows : Stmt := top 49
abbrev N_l_took_rows : List Str := ["_law_house_here", "_law_letter_here", "_law_had"]
theorem sc_l_took_rows : Sc s_l_took_rows N_l_took_rows ["_law_house_here", "_law_letter_here"] := ⟨⟨rfl, rfl, rfl, by decide +kernel, rfl, by decide +kernel, by decide +kernel⟩, fun _ _ _ _ _ _ _ _ us hl => match us, hl with | [_, _], _ => rfl⟩
abbrev s_l_tried : Stmt := top 50
abbrev N_l_tried : List Str := ["_law_house_here"]
theorem sc_l_tried : Sc s_l_tried N_l_tried ["_law_house_here"] := ⟨⟨rfl, rfl, rfl, by decide +kernel, rfl, by decide +kernel, by decide +kernel⟩, fun _ _ _ _ _ _ _ _ us hl => match us, hl with | [_], _ => rfl⟩
abbrev s_l_same : Stmt := top 51
abbrev N_l_same : List Str := ["_law_house_here", "_law_model", "_law_number"]
theorem sc_l_same : Sc s_l_same N_l_same ["_law_house_here", "_law_model"] := ⟨⟨rfl, rfl, rfl, by decide +kernel, rfl, by decide +kernel, by decide +kernel⟩, fun _ _ _ _ _ _ _ _ us hl => match us, hl with | [_, _], _ => rfl⟩
abbrev s_l_brought : Stmt := top 52
abbrev N_l_brought : List Str := ["_law_found", "_law_due", "_law_good"]
theorem sc_l_brought : Sc s_l_brought N_l_brought ["_law_found", "_law_due"] := ⟨⟨rfl, rfl, rfl, by decide +kernel, rfl, by decide +kernel, by decide +kernel⟩, fun _ _ _ _ _ _ _ _ us hl => match us, hl with | [_, _], _ => rfl⟩
abbrev s_l_world : Stmt := top 53
abbrev N_l_world : List Str := ["_law_source_here", "_law_world_here"]
theorem sc_l_world : Sc s_l_world N_l_world ["_law_source_here"] := ⟨⟨rfl, rfl, rfl, by decide +kernel, rfl, by decide +kernel, by decide +kernel⟩, fun _ _ _ _ _ _ _ _ us hl => match us, hl with | [_], _ => rfl⟩
abbrev s_l_names : Stmt := top 54
abbrev N_l_names : List Str := ["_law_world_here"]
theorem sc_l_names : Sc s_l_names N_l_names ["_law_world_here"] := ⟨⟨rfl, rfl, rfl, by decide +kernel, rfl, by decide +kernel, by decide +kernel⟩, fun _ _ _ _ _ _ _ _ us hl => match us, hl with | [_], _ => rfl⟩
abbrev s_l_changed : Stmt := top 55
abbrev N_l_changed : List Str := ["_law_source_here", "_law_world_here", "_law_model", "_law_kind", "_law_names_here"]
theorem sc_l_changed : Sc s_l_changed N_l_changed ["_law_source_here", "_law_world_here", "_law_model"] := ⟨⟨rfl, rfl, rfl, by decide +kernel, rfl, by decide +kernel, by decide +kernel⟩, fun _ _ _ _ _ _ _ _ us hl => match us, hl with | [_, _, _], _ => rfl⟩
abbrev s_l_new_row : Stmt := top 56
abbrev N_l_new_row : List Str := ["_law_source_here", "_law_world_here", "_law_row_here"]
theorem sc_l_new_row : Sc s_l_new_row N_l_new_row ["_law_source_here", "_law_world_here"] := ⟨⟨rfl, rfl, rfl, by decide +kernel, rfl, by decide +kernel, by decide +kernel⟩, fun _ _ _ _ _ _ _ _ us hl => match us, hl with | [_, _], _ => rfl⟩
abbrev s_l_letter_for : Stmt := top 57
abbrev N_l_letter_for : List Str := ["_law_source_here", "_law_world_here", "_law_model", "_law_kind", "_law_number", "_law_names_here", "_law_sender", "_law_many", "_law_ask", "_law_first", "_law_rows", "_law_far"]
theorem sc_l_letter_for : Sc s_l_letter_for N_l_letter_for ["_law_source_here", "_law_world_here", "_law_model"] := ⟨⟨rfl, rfl, rfl, by decide +kernel, rfl, by decide +kernel, by decide +kernel⟩, fun _ _ _ _ _ _ _ _ us hl => match us, hl with | [_, _, _], _ => rfl⟩
abbrev s_l_said : Stmt := top 58
abbrev N_l_said : List Str := ["_law_house_here", "_law_kind", "_law_thing", "_law_key", "_law_found", "_law_word_here", "_law_kinds", "e"]
theorem sc_l_said : Sc s_l_said N_l_said ["_law_house_here", "_law_kind", "_law_thing", "_law_key"] := ⟨⟨rfl, rfl, rfl, by decide +kernel, rfl, by decide +kernel, by decide +kernel⟩, fun _ _ _ _ _ _ _ _ us hl => match us, hl with | [_, _, _, _], _ => rfl⟩
abbrev s_l_wrote : Stmt := top 59
abbrev N_l_wrote : List Str := ["_law_source_here", "_law_house_here", "_law_model", "_law_world_here", "_law_row_here", "_law_due", "_law_found"]
theorem sc_l_wrote : Sc s_l_wrote N_l_wrote ["_law_source_here", "_law_house_here", "_law_model", "_law_world_here"] := ⟨⟨rfl, rfl, rfl, by decide +kernel, rfl, by decide +kernel, by decide +kernel⟩, fun _ _ _ _ _ _ _ _ us hl => match us, hl with | [_, _, _, _], _ => rfl⟩
abbrev s_l_asked_one : Stmt := top 60
abbrev N_l_asked_one : List Str := ["_law_source_here", "_law_house_here", "_law_model", "_law_world_here", "_law_ask", "_law_key", "_law_due", "_law_found"]
theorem sc_l_asked_one : Sc s_l_asked_one N_l_asked_one ["_law_source_here", "_law_house_here", "_law_model", "_law_world_here"] := ⟨⟨rfl, rfl, rfl, by decide +kernel, rfl, by decide +kernel, by decide +kernel⟩, fun _ _ _ _ _ _ _ _ us hl => match us, hl with | [_, _, _, _], _ => rfl⟩
abbrev s_l_deed : Stmt := top 61
abbrev N_l_deed : List Str := ["_law_source_here", "_law_house_here", "_law_model", "_law_world_here", "_law_kind", "_law_letter_here", "_law_number", "_law_names_here"]
theorem sc_l_deed : Sc s_l_deed N_l_deed ["_law_source_here", "_law_house_here", "_law_model", "_law_world_here"] := ⟨⟨rfl, rfl, rfl, by decide +kernel, rfl, by decide +kernel, by decide +kernel⟩, fun _ _ _ _ _ _ _ _ us hl => match us, hl with | [_, _, _, _], _ => rfl⟩
abbrev s_law : Stmt := top 62
abbrev N_law : List Str := ["_law_script", "_law_source_here", "_law_world_here", "_law_house_here", "_law_model", "_law_cell"]
theorem sc_law : Sc s_law N_law ["_law_script"] := ⟨⟨rfl, rfl, rfl, by decide +kernel, rfl, by decide +kernel, by decide +kernel⟩, fun _ _ _ _ _ _ _ _ us hl => match us, hl with | [_], _ => rfl⟩
end Ck

namespace Ckh
open PySem PySem.Spec PyProof.Rows L2 Ck
abbrev R : PySem.W.OpenRow := PySem.W.OpenLaw.row PySem.Challenge.rw_chainkept_k13_whole_any_row_of_deeds
def loose0 : List Str := ["ChainError", "NoChain", "NoPlace", "NoRow", "NotHead", "NoRoom", "NoAsk", "NotReady", "NoLetter", "ALPHABET", "MOST_LETTERS", "MOST_ROWS", "is_whole", "is_count", "is_name", "is_row", "last_worth", "place_in", "MOST_HOUSES", "LENGTHS"]
def loose1 : List Str := ["are_houses", "Chain", "is_letter", "House", "_law_cell_at", "_law_source", "_law_next", "_law_word", "_law_row", "_law_log", "_law_last", "_law_house", "_law_ahead", "_law_behind", "_law_letter", "_law_told_up", "_law_rows_down", "_law_asked", "_law_written", "_law_adopted"]
def loose2 : List Str := ["_law_stands", "_law_put", "_law_read", "_law_took", "_law_took_rows", "_law_tried", "_law_same", "_law_brought", "_law_world", "_law_names", "_law_changed", "_law_new_row", "_law_letter_for", "_law_said", "_law_wrote", "_law_asked_one", "_law_deed"]
abbrev loose : List Str := loose0 ++ (loose1 ++ (loose2))
def D_is_whole : He.DefD := ⟨("is_whole", none), "is_whole", "is_whole", defArgs s_is_whole, defBody s_is_whole, defScope s_is_whole, [], []⟩
def D_is_count : He.DefD := ⟨("is_count", none), "is_count", "is_count", defArgs s_is_count, defBody s_is_count, defScope s_is_count, [], []⟩
def D_is_name : He.DefD := ⟨("is_name", none), "is_name", "is_name", defArgs s_is_name, defBody s_is_name, defScope s_is_name, [], []⟩
def D_is_row : He.DefD := ⟨("is_row", none), "is_row", "is_row", defArgs s_is_row, defBody s_is_row, defScope s_is_row, [], []⟩
def D_last_worth : He.DefD := ⟨("last_worth", none), "last_worth", "last_worth", defArgs s_last_worth, defBody s_last_worth, defScope s_last_worth, [], []⟩
def D_place_in : He.DefD := ⟨("place_in", none), "place_in", "place_in", defArgs s_place_in, defBody s_place_in, defScope s_place_in, [], []⟩
def D_are_houses : He.DefD := ⟨("are_houses", none), "are_houses", "are_houses", defArgs s_are_houses, defBody s_are_houses, defScope s_are_houses, [], []⟩
def D_C_init : He.DefD := ⟨("Chain", some "__init__"), "__init__", "Chain.__init__", defArgs s_C_init, defBody s_C_init, defScope s_C_init, [], []⟩
def D_C_place : He.DefD := ⟨("Chain", some "place"), "place", "Chain.place", defArgs s_C_place, defBody s_C_place, defScope s_C_place, [], []⟩
def D_C_ahead_of : He.DefD := ⟨("Chain", some "ahead_of"), "ahead_of", "Chain.ahead_of", defArgs s_C_ahead_of, defBody s_C_ahead_of, defScope s_C_ahead_of, [], []⟩
def D_C_behind : He.DefD := ⟨("Chain", some "behind"), "behind", "Chain.behind", defArgs s_C_behind, defBody s_C_behind, defScope s_C_behind, [], []⟩
def D_is_letter : He.DefD := ⟨("is_letter", none), "is_letter", "is_letter", defArgs s_is_letter, defBody s_is_letter, defScope s_is_letter, [], []⟩
def D_H_init : He.DefD := ⟨("House", some "__init__"), "__init__", "House.__init__", defArgs s_H_init, defBody s_H_init, defScope s_H_init, [], []⟩
def D_H_chain_number : He.DefD := ⟨("House", some "chain_number"), "chain_number", "House.chain_number", defArgs s_H_chain_number, defBody s_H_chain_number, defScope s_H_chain_number, [], []⟩
def D_H_log : He.DefD := ⟨("House", some "log"), "log", "House.log", defArgs s_H_log, defBody s_H_log, defScope s_H_log, [], []⟩
def D_H_told_many : He.DefD := ⟨("House", some "told_many"), "told_many", "House.told_many", defArgs s_H_told_many, defBody s_H_told_many, defScope s_H_told_many, [], []⟩
def D_H_is_ready : He.DefD := ⟨("House", some "is_ready"), "is_ready", "House.is_ready", defArgs s_H_is_ready, defBody s_H_is_ready, defScope s_H_is_ready, [], []⟩
def D_H_waiting : He.DefD := ⟨("House", some "waiting"), "waiting", "House.waiting", defArgs s_H_waiting, defBody s_H_waiting, defScope s_H_waiting, [], []⟩
def D_H_stands : He.DefD := ⟨("House", some "stands"), "stands", "House.stands", defArgs s_H_stands, defBody s_H_stands, defScope s_H_stands, [], []⟩
def D_H_is_tail : He.DefD := ⟨("House", some "is_tail"), "is_tail", "House.is_tail", defArgs s_H_is_tail, defBody s_H_is_tail, defScope s_H_is_tail, [], []⟩
def D_H_letter : He.DefD := ⟨("House", some "letter"), "letter", "House.letter", defArgs s_H_letter, defBody s_H_letter, defScope s_H_letter, [], []⟩
def D_H_rows_behind : He.DefD := ⟨("House", some "rows_behind"), "rows_behind", "House.rows_behind", defArgs s_H_rows_behind, defBody s_H_rows_behind, defScope s_H_rows_behind, [], []⟩
def D_H_told_ahead : He.DefD := ⟨("House", some "told_ahead"), "told_ahead", "House.told_ahead", defArgs s_H_told_ahead, defBody s_H_told_ahead, defScope s_H_told_ahead, [], []⟩
def D_H_asked_tail : He.DefD := ⟨("House", some "asked_tail"), "asked_tail", "House.asked_tail", defArgs s_H_asked_tail, defBody s_H_asked_tail, defScope s_H_asked_tail, [], []⟩
def D_H_told_all : He.DefD := ⟨("House", some "told_all"), "told_all", "House.told_all", defArgs s_H_told_all, defBody s_H_told_all, defScope s_H_told_all, [], []⟩
def D_H_answered_all : He.DefD := ⟨("House", some "answered_all"), "answered_all", "House.answered_all", defArgs s_H_answered_all, defBody s_H_answered_all, defScope s_H_answered_all, [], []⟩
def D_H_adopt : He.DefD := ⟨("House", some "adopt"), "adopt", "House.adopt", defArgs s_H_adopt, defBody s_H_adopt, defScope s_H_adopt, [], []⟩
def D_H_write : He.DefD := ⟨("House", some "write"), "write", "House.write", defArgs s_H_write, defBody s_H_write, defScope s_H_write, [], []⟩
def D_H_read : He.DefD := ⟨("House", some "read"), "read", "House.read", defArgs s_H_read, defBody s_H_read, defScope s_H_read, [], []⟩
def D_H_take : He.DefD := ⟨("House", some "take"), "take", "House.take", defArgs s_H_take, defBody s_H_take, defScope s_H_take, [], []⟩
def D_H_take_rows : He.DefD := ⟨("House", some "take_rows"), "take_rows", "House.take_rows", defArgs s_H_take_rows, defBody s_H_take_rows, defScope s_H_take_rows, [], []⟩
def D_H_take_told : He.DefD := ⟨("House", some "take_told"), "take_told", "House.take_told", defArgs s_H_take_told, defBody s_H_take_told, defScope s_H_take_told, [], []⟩
def D_H_take_which : He.DefD := ⟨("House", some "take_which"), "take_which", "House.take_which", defArgs s_H_take_which, defBody s_H_take_which, defScope s_H_take_which, [], []⟩
def D_H_take_that : He.DefD := ⟨("House", some "take_that"), "take_that", "House.take_that", defArgs s_H_take_that, defBody s_H_take_that, defScope s_H_take_that, [], []⟩
def D_H_again : He.DefD := ⟨("House", some "again"), "again", "House.again", defArgs s_H_again, defBody s_H_again, defScope s_H_again, [], []⟩
def D_l_cell_at : He.DefD := ⟨("_law_cell_at", none), "_law_cell_at", "_law_cell_at", defArgs s_l_cell_at, defBody s_l_cell_at, defScope s_l_cell_at, [], []⟩
def D_l_source : He.DefD := ⟨("_law_source", none), "_law_source", "_law_source", defArgs s_l_source, defBody s_l_source, defScope s_l_source, [], []⟩
def D_l_next : He.DefD := ⟨("_law_next", none), "_law_next", "_law_next", defArgs s_l_next, defBody s_l_next, defScope s_l_next, [], []⟩
def D_l_word : He.DefD := ⟨("_law_word", none), "_law_word", "_law_word", defArgs s_l_word, defBody s_l_word, defScope s_l_word, [], []⟩
def D_l_row : He.DefD := ⟨("_law_row", none), "_law_row", "_law_row", defArgs s_l_row, defBody s_l_row, defScope s_l_row, [], []⟩
def D_l_log : He.DefD := ⟨("_law_log", none), "_law_log", "_law_log", defArgs s_l_log, defBody s_l_log, defScope s_l_log, [], []⟩
def D_l_last : He.DefD := ⟨("_law_last", none), "_law_last", "_law_last", defArgs s_l_last, defBody s_l_last, defScope s_l_last, [], []⟩
def D_l_house : He.DefD := ⟨("_law_house", none), "_law_house", "_law_house", defArgs s_l_house, defBody s_l_house, defScope s_l_house, [], []⟩
def D_l_ahead : He.DefD := ⟨("_law_ahead", none), "_law_ahead", "_law_ahead", defArgs s_l_ahead, defBody s_l_ahead, defScope s_l_ahead, [], []⟩
def D_l_behind : He.DefD := ⟨("_law_behind", none), "_law_behind", "_law_behind", defArgs s_l_behind, defBody s_l_behind, defScope s_l_behind, [], []⟩
def D_l_letter : He.DefD := ⟨("_law_letter", none), "_law_letter", "_law_letter", defArgs s_l_letter, defBody s_l_letter, defScope s_l_letter, [], []⟩
def D_l_told_up : He.DefD := ⟨("_law_told_up", none), "_law_told_up", "_law_told_up", defArgs s_l_told_up, defBody s_l_told_up, defScope s_l_told_up, [], []⟩
def D_l_rows_down : He.DefD := ⟨("_law_rows_down", none), "_law_rows_down", "_law_rows_down", defArgs s_l_rows_down, defBody s_l_rows_down, defScope s_l_rows_down, [], []⟩
def D_l_asked : He.DefD := ⟨("_law_asked", none), "_law_asked", "_law_asked", defArgs s_l_asked, defBody s_l_asked, defScope s_l_asked, [], []⟩
def D_l_written : He.DefD := ⟨("_law_written", none), "_law_written", "_law_written", defArgs s_l_written, defBody s_l_written, defScope s_l_written, [], []⟩
def D_l_adopted : He.DefD := ⟨("_law_adopted", none), "_law_adopted", "_law_adopted", defArgs s_l_adopted, defBody s_l_adopted, defScope s_l_adopted, [], []⟩
def D_l_stands : He.DefD := ⟨("_law_stands", none), "_law_stands", "_law_stands", defArgs s_l_stands, defBody s_l_stands, defScope s_l_stands, [], []⟩
def D_l_put : He.DefD := ⟨("_law_put", none), "_law_put", "_law_put", defArgs s_l_put, defBody s_l_put, defScope s_l_put, [], []⟩
def D_l_read : He.DefD := ⟨("_law_read", none), "_law_read", "_law_read", defArgs s_l_read, defBody s_l_read, defScope s_l_read, [], []⟩
def D_l_took : He.DefD := ⟨("_law_took", none), "_law_took", "_law_took", defArgs s_l_took, defBody s_l_took, defScope s_l_took, [], []⟩
def D_l_took_rows : He.DefD := ⟨("_law_took_rows", none), "_law_took_rows", "_law_took_rows", defArgs s_l_took_rows, defBody s_l_took_rows, defScope s_l_took_rows, [], []⟩
def D_l_tried : He.DefD := ⟨("_law_tried", none), "_law_tried", "_law_tried", defArgs s_l_tried, defBody s_l_tried, defScope s_l_tried, [], []⟩
def D_l_same : He.DefD := ⟨("_law_same", none), "_law_same", "_law_same", defArgs s_l_same, defBody s_l_same, defScope s_l_same, [], []⟩
def D_l_brought : He.DefD := ⟨("_law_brought", none), "_law_brought", "_law_brought", defArgs s_l_brought, defBody s_l_brought, defScope s_l_brought, [], []⟩
def D_l_world : He.DefD := ⟨("_law_world", none), "_law_world", "_law_world", defArgs s_l_world, defBody s_l_world, defScope s_l_world, [], []⟩
def D_l_names : He.DefD := ⟨("_law_names", none), "_law_names", "_law_names", defArgs s_l_names, defBody s_l_names, defScope s_l_names, [], []⟩
def D_l_changed : He.DefD := ⟨("_law_changed", none), "_law_changed", "_law_changed", defArgs s_l_changed, defBody s_l_changed, defScope s_l_changed, [], []⟩
def D_l_new_row : He.DefD := ⟨("_law_new_row", none), "_law_new_row", "_law_new_row", defArgs s_l_new_row, defBody s_l_new_row, defScope s_l_new_row, [], []⟩
def D_l_letter_for : He.DefD := ⟨("_law_letter_for", none), "_law_letter_for", "_law_letter_for", defArgs s_l_letter_for, defBody s_l_letter_for, defScope s_l_letter_for, [], []⟩
def D_l_said : He.DefD := ⟨("_law_said", none), "_law_said", "_law_said", defArgs s_l_said, defBody s_l_said, defScope s_l_said, [], []⟩
def D_l_wrote : He.DefD := ⟨("_law_wrote", none), "_law_wrote", "_law_wrote", defArgs s_l_wrote, defBody s_l_wrote, defScope s_l_wrote, [], []⟩
def D_l_asked_one : He.DefD := ⟨("_law_asked_one", none), "_law_asked_one", "_law_asked_one", defArgs s_l_asked_one, defBody s_l_asked_one, defScope s_l_asked_one, [], []⟩
def D_l_deed : He.DefD := ⟨("_law_deed", none), "_law_deed", "_law_deed", defArgs s_l_deed, defBody s_l_deed, defScope s_l_deed, [], []⟩
def D_law : He.DefD := ⟨("law", none), "law", "law", defArgs s_law, defBody s_law, defScope s_law, [], []⟩
def fn0 : List He.DefD := [D_is_whole, D_is_count, D_is_name, D_is_row, D_last_worth, D_place_in, D_are_houses, D_C_init, D_C_place, D_C_ahead_of, D_C_behind, D_is_letter, D_H_init, D_H_chain_number, D_H_log, D_H_told_many, D_H_is_ready, D_H_waiting, D_H_stands, D_H_is_tail]
def fn1 : List He.DefD := [D_H_letter, D_H_rows_behind, D_H_told_ahead, D_H_asked_tail, D_H_told_all, D_H_answered_all, D_H_adopt, D_H_write, D_H_read, D_H_take, D_H_take_rows, D_H_take_told, D_H_take_which, D_H_take_that, D_H_again, D_l_cell_at, D_l_source, D_l_next, D_l_word, D_l_row]
def fn2 : List He.DefD := [D_l_log, D_l_last, D_l_house, D_l_ahead, D_l_behind, D_l_letter, D_l_told_up, D_l_rows_down, D_l_asked, D_l_written, D_l_adopted, D_l_stands, D_l_put, D_l_read, D_l_took, D_l_took_rows, D_l_tried, D_l_same, D_l_brought, D_l_world]
def fn3 : List He.DefD := [D_l_names, D_l_changed, D_l_new_row, D_l_letter_for, D_l_said, D_l_wrote, D_l_asked_one, D_l_deed, D_law]
def fn : List He.DefD := fn0 ++ (fn1 ++ (fn2 ++ (fn3)))
def fa0 : List He.Fa := [.free "isinstance", .free "len", .free "all", .free "set", .free "list", .free "tuple", .free "sorted", .free "max", .free "min", .free "range", .free "enumerate", .free "int", .free "str", .free "bool", .int "MOST_LETTERS" 8, .int "MOST_ROWS" 200, .int "MOST_HOUSES" 7, .str "ALPHABET" "abcdefghijklmnopqrstuvwxyz", .glo "LENGTHS", .cls "House"]
def fa1 : List He.Fa := [.cls "Chain", .noat "House" "name", .noat "House" "own", .noat "House" "kept", .noat "House" "sure", .noat "House" "able", .noat "House" "asks", .noat "Chain" "number", .noat "Chain" "houses", .glo "Chain", .glo "House", .glo "NotHead", .glo "NoAsk", .glo "NotReady", .glo "ChainError", .exc "NotHead", .exm "NotHead" "ChainError" true, .exc "NoAsk", .exm "NoAsk" "ChainError" true, .exc "NotReady"]
def fa2 : List He.Fa := [.exm "NotReady" "ChainError" true, .glo "is_whole", .glo "is_count", .glo "is_name", .glo "is_row", .glo "last_worth", .glo "place_in", .glo "are_houses", .mkr "Chain", .meth "Chain" "place", .meth "Chain" "ahead_of", .meth "Chain" "behind", .glo "is_letter", .mkr "House", .meth "House" "chain_number", .meth "House" "log", .meth "House" "told_many", .meth "House" "is_ready", .meth "House" "waiting", .meth "House" "stands"]
def fa3 : List He.Fa := [.meth "House" "is_tail", .meth "House" "letter", .meth "House" "rows_behind", .meth "House" "told_ahead", .meth "House" "asked_tail", .meth "House" "told_all", .meth "House" "answered_all", .meth "House" "adopt", .meth "House" "write", .meth "House" "read", .meth "House" "take", .meth "House" "take_rows", .meth "House" "take_told", .meth "House" "take_which", .meth "House" "take_that", .meth "House" "again", .glo "_law_cell_at", .glo "_law_source", .glo "_law_next", .glo "_law_word"]
def fa4 : List He.Fa := [.glo "_law_row", .glo "_law_log", .glo "_law_last", .glo "_law_house", .glo "_law_ahead", .glo "_law_behind", .glo "_law_letter", .glo "_law_told_up", .glo "_law_rows_down", .glo "_law_asked", .glo "_law_written", .glo "_law_adopted", .glo "_law_stands", .glo "_law_put", .glo "_law_read", .glo "_law_took", .glo "_law_took_rows", .glo "_law_tried", .glo "_law_same", .glo "_law_brought"]
def fa5 : List He.Fa := [.glo "_law_world", .glo "_law_names", .glo "_law_changed", .glo "_law_new_row", .glo "_law_letter_for", .glo "_law_said", .glo "_law_wrote", .glo "_law_asked_one", .glo "_law_deed", .glo "law"]
def fa : List He.Fa := fa0 ++ (fa1 ++ (fa2 ++ (fa3 ++ (fa4 ++ (fa5)))))
def exs : List (PySem.W.Frag → Bool) := [fun K => He.eqO (PySem.W.findIn K (.ref (He.ga K "NotHead")) "__getattribute__") (some (some (.builtin "BaseException.__getattribute__"))),
  fun K => He.eqO (PySem.W.findIn K (.ref (He.ga K "NotHead")) "__getattr__") (some none),
  fun K => decide (PySem.W.subIn K (.ref (He.ga K "NotHead")) (.type "BaseException") = some true),
  fun K => PySem.W.hasDictIn K (He.ga K "NotHead"),
  fun K => He.eqO (PySem.W.findIn K (.ref (He.ga K "NotHead")) "__class__") (some (some (.builtin "object.__class__"))),
  fun K => decide (PySem.W.mroIn K (He.ga K "NotHead") (.type "object") = some true),
  fun K => He.eqO (PySem.W.findIn K (.ref (He.ga K "NoAsk")) "__getattribute__") (some (some (.builtin "BaseException.__getattribute__"))),
  fun K => He.eqO (PySem.W.findIn K (.ref (He.ga K "NoAsk")) "__getattr__") (some none),
  fun K => decide (PySem.W.subIn K (.ref (He.ga K "NoAsk")) (.type "BaseException") = some true),
  fun K => PySem.W.hasDictIn K (He.ga K "NoAsk"),
  fun K => He.eqO (PySem.W.findIn K (.ref (He.ga K "NoAsk")) "__class__") (some (some (.builtin "object.__class__"))),
  fun K => decide (PySem.W.mroIn K (He.ga K "NoAsk") (.type "object") = some true),
  fun K => He.eqO (PySem.W.findIn K (.ref (He.ga K "NotReady")) "__getattribute__") (some (some (.builtin "BaseException.__getattribute__"))),
  fun K => He.eqO (PySem.W.findIn K (.ref (He.ga K "NotReady")) "__getattr__") (some none),
  fun K => decide (PySem.W.subIn K (.ref (He.ga K "NotReady")) (.type "BaseException") = some true),
  fun K => PySem.W.hasDictIn K (He.ga K "NotReady"),
  fun K => He.eqO (PySem.W.findIn K (.ref (He.ga K "NotReady")) "__class__") (some (some (.builtin "object.__class__"))),
  fun K => decide (PySem.W.mroIn K (He.ga K "NotReady") (.type "object") = some true),
  fun K => decide (PySem.W.kitOne K (.ref (He.ga K "NotHead")) (.ref (He.ga K "NotHead")) = some true),
  fun K => decide (PySem.W.kitOne K (.ref (He.ga K "NotHead")) (.ref (He.ga K "NoAsk")) = some false),
  fun K => decide (PySem.W.kitOne K (.ref (He.ga K "NotHead")) (.ref (He.ga K "NotReady")) = some false),
  fun K => decide (PySem.W.kitOne K (.ref (He.ga K "NoAsk")) (.ref (He.ga K "NotHead")) = some false),
  fun K => decide (PySem.W.kitOne K (.ref (He.ga K "NoAsk")) (.ref (He.ga K "NoAsk")) = some true),
  fun K => decide (PySem.W.kitOne K (.ref (He.ga K "NoAsk")) (.ref (He.ga K "NotReady")) = some false),
  fun K => decide (PySem.W.kitOne K (.ref (He.ga K "NotReady")) (.ref (He.ga K "NotHead")) = some false),
  fun K => decide (PySem.W.kitOne K (.ref (He.ga K "NotReady")) (.ref (He.ga K "NoAsk")) = some false),
  fun K => decide (PySem.W.kitOne K (.ref (He.ga K "NotReady")) (.ref (He.ga K "NotReady")) = some true),
  fun K => decide (PySem.W.kitOne K (.ref (He.ga K "Chain")) (.ref (He.ga K "Chain")) = some true),
  fun K => He.eqO (PySem.W.findIn K (.ref (He.ga K "Chain")) "__class__") (some (some (.builtin "object.__class__"))),
  fun K => He.eqO (PySem.W.specialIn K (.builtin "object.__class__") "__get__") (some (some (.builtin "getset_descriptor.__get__"))),
  fun K => decide (PySem.W.takesIn K (.builtin "object.__class__") = some true),
  fun K => decide (PySem.W.mroIn K (He.ga K "Chain") (.type "object") = some true),
  fun K => He.valsB K (He.ga K "LENGTHS") [("rows", .int 6), ("told", .int 5), ("which", .int 5), ("that", .int 6)],
  fun K => !(decide (He.ga K "NotHead" = He.ga K "NoAsk") || (decide (He.ga K "NotHead" = He.ga K "NotReady") || decide (He.ga K "NoAsk" = He.ga K "NotReady")))]
def ex (K : PySem.W.Frag) : Bool := exs.all fun f => f K
def ts : List He.Tab := [(fun K => He.ga K "LENGTHS", ["rows", "told", "which", "that"])]
abbrev hk : PySem.W.Hook := He.hookX 6 fa fn ts [] ex
def ob (s : PySem.W.SharedT) : He.AlX := He.obsX 6 fa fn ts [] ex (HandSHeadRun.getT s)
theorem ob_eq (s : PySem.W.SharedT) : ob s = hk.obs s.abs := He.obsX_eq (HandSHeadRun.getT_eq s)
/-! the law stands at 62 -/
theorem run_false (w : World) : HandSHeadRun.RunEq R (PySem.W.view R.prog [62]) hk ob 20000 loose (w.withFollow "special-get-raises" false) := by
  intro os
  kernel_rfl
theorem run_true (w : World) : HandSHeadRun.RunEq R (PySem.W.view R.prog [62]) hk ob 20000 loose (w.withFollow "special-get-raises" true) := by
  intro os
  kernel_rfl
theorem run (w : World) : HandSHeadRun.RunEq R (PySem.W.view R.prog [62]) hk ob 20000 loose w :=
  PySem.W.byRow2 "special-get-raises" (P := fun w => HandSHeadRun.RunEq R (PySem.W.view R.prog [62]) hk ob 20000 loose w) run_false run_true w
end Ckh

/-! Chain kept: the plain side (rows, chains, what a house is, what a deed makes of it), how it lies in the heap, the promises. -/
namespace Ck
open PySem PySem.Spec PyProof.Rows L2

/-! ### names, rows -/
def alpha : Str := "abcdefghijklmnopqrstuvwxyz"
structure NameOk (x : Str) : Prop where
  lo : 1 ≤ x.length
  hi : x.length ≤ 8
  al : ∀ c ∈ x.cps.toList, c ∈ alpha.cps.toList
def nameB (x : Str) : Bool := decide (1 ≤ x.length) && (decide (x.length ≤ 8) && x.cps.toList.all fun c => alpha.cps.toList.contains c)
theorem nameOk_of {x : Str} (h : nameB x = true) : NameOk x := by
  unfold nameB at h
  simp only [Bool.and_eq_true, decide_eq_true_eq, List.all_eq_true, List.contains_iff_mem] at h
  exact ⟨h.1, h.2.1, h.2.2⟩
structure Row where
  ad : Addr
  asker : Str
  num : Int
  key : Str
  worth : Int
def Row.vs (r : Row) : List V := [.str r.asker, .int r.num, .str r.key, .int r.worth]
def Row.v (r : Row) : V := .ref r.ad
def Row.d (r : Row) : PyData := .tuple [.str r.asker, .int r.num, .str r.key, .int r.worth]
structure Row.Ok (r : Row) : Prop where
  a : NameOk r.asker
  n : 1 ≤ r.num
  k : NameOk r.key
  w : 0 ≤ r.worth
abbrev RowAt (H : Hp) (r : Row) : Prop := H r.ad = some (.tup r.vs)
structure RowsOk (H : Hp) (l : List Row) : Prop where
  at_ : ∀ r ∈ l, RowAt H r
  ok : ∀ r ∈ l, r.Ok
/-- one of some, or None -/
def oi : Option Int → V
  | none => .non
  | some i => .int i
def oiD : Option Int → PyData
  | none => .none
  | some i => .int i
def ov : Option Str → V
  | none => .non
  | some x => .str x
def lastW (rows : List Row) (key : Str) : Option Int := rows.foldl (fun f r => if r.key = key then some r.worth else f) none
def idxW (rows : List Row) (asker : Str) (num : Int) : Option Nat := rows.findIdx? fun r => decide (r.asker = asker) && decide (r.num = num)

/-! ### chains -/
structure Ch where
  num : Int
  A : List Str
  B : List Str
def Ch.all (c : Ch) : List Str := c.A ++ ("me" : Str) :: c.B
structure Houses (ns : List Str) : Prop where
  ok : ∀ x ∈ ns, NameOk x
  nd : ns.Nodup
  lo : 1 ≤ ns.length
  hi : ns.length ≤ 7
structure Ch.Ok (c : Ch) : Prop where
  n : 1 ≤ c.num
  h : Houses c.all
def Ch.ah (c : Ch) : Option Str := c.A.getLast?
def Ch.bh (c : Ch) : Option Str := c.B.head?
def Ch.tl (c : Ch) : Str := c.B.getLastD "me"

/-! ### a house -/
structure HS where
  ch : Option Ch
  log : List Row
  told : Nat
  ready : Bool
  asks : List (Int × Str)
def HS.new : HS := ⟨none, [], 0, false, []⟩
structure HS.Ok (s : HS) : Prop where
  ch : ∀ c, s.ch = some c → c.Ok
  told : s.told ≤ s.log.length
  len : s.log.length ≤ 150
  nd : (s.asks.map (·.1)).Nodup
  few : s.asks.length ≤ 50
def sortA (l : List (Int × Str)) : List Int := (l.map (·.1)).mergeSort
def keyA (l : List (Int × Str)) (k : Int) : Option Str := (l.find? fun q => decide (q.1 = k)).map (·.2)
abbrev Res := HS × List PyData × List PyData
def letD (kind : Str) (c : Ch) (to : Str) (more : List PyData) : PyData := .tuple ([.str kind, .int c.num, .str "me", .str to] ++ more)
def rowsD (c : Ch) (to : Str) (log : List Row) (first : Nat) : PyData := letD "rows" c to [.int (first : Int), .tuple ((log.drop (first - 1)).map Row.d)]
def toldUp (c : Ch) (told : Nat) : List PyData := match c.ah with
  | none => []
  | some x => [letD "told" c x [.int (told : Int)]]
def whichD (c : Ch) (k : Int) : PyData := letD "which" c c.tl [.int k]
def askedD (c : Ch) (s : HS) : List PyData := (sortA s.asks).map (whichD c)
def wroteD (r : Row) : PyData := .tuple [.str "written", .str r.asker, .int r.num]
def writtenD (s : HS) : List PyData := (s.log.drop s.told).map wroteD
def worthD (k : Int) (o : Option Int) : PyData := .tuple [.str "worth", .int k, oiD o]
def answersD (s : HS) : List PyData := (sortA s.asks).map fun k => worthD k (lastW s.log ((keyA s.asks k).getD Str.empty))
def HS.tellAll (s : HS) : HS := { s with told := s.log.length }
def HS.elder (s : HS) (n : Int) : Bool := match s.ch with
  | none => false
  | some c => decide (n ≤ c.num)
def HS.stands (s : HS) : Bool := s.ch.isSome && s.ready
def HS.taken (s : HS) (c : Ch) : HS := { s with ch := some c, ready := s.ready || decide (c.num = 1) }
def adopted (s : HS) (c : Ch) : Res :=
  if s.elder c.num = true then (s, [], []) else
  if (s.taken c).ready = false then (s.taken c, [], []) else
  match c.bh with
  | none => ({ (s.taken c).tellAll with asks := [] }, writtenD (s.taken c) ++ answersD (s.taken c), toldUp c s.log.length)
  | some b => (s.taken c, [], rowsD c b s.log 1 :: askedD c s)
def HS.plus (s : HS) (l : List Row) : HS := { s with log := s.log ++ l }
def put (s : HS) (r : Row) : Option Res := match s.ch with
  | none => none
  | some c => if s.ready = false ∨ c.A ≠ [] then none else
    match idxW s.log r.asker r.num with
    | some k => some (s, if k < s.told then [wroteD r] else [], [])
    | none => match c.bh with
      | none => some ((s.plus [r]).tellAll, writtenD (s.plus [r]), [])
      | some b => some (s.plus [r], [], [rowsD c b (s.plus [r]).log (s.log.length + 1)])
inductive Rd1 where
  | ask | ready | ok (r : Res)
def HS.ask (s : HS) (k : Int) (key : Str) : HS := { s with asks := s.asks ++ [(k, key)] }
def HS.drop (s : HS) (k : Int) : HS := { s with asks := s.asks.filter fun q => !decide (q.1 = k) }
def rd (s : HS) (k : Int) (key : Str) : Rd1 :=
  if (keyA s.asks k).isSome = true then .ask else
  match s.ch with
  | none => .ready
  | some c => if s.ready = false then .ready else
    if c.B = [] ∨ lastW (s.log.drop s.told) key = none then .ok (s, [worthD k (lastW s.log key)], []) else .ok (s.ask k key, [], [whichD c k])
/-- a letter to this house; ra: where its rows stand -/
inductive Lt where
  | rows (num : Int) (by_ : Str) (first : Nat) (l : List Row) (ra : Addr)
  | told (num : Int) (by_ : Str) (many : Int)
  | which (num : Int) (by_ : Str) (ask : Int)
  | that (num : Int) (by_ : Str) (ask many : Int)
def Lt.num : Lt → Int
  | .rows n .. | .told n .. | .which n .. | .that n .. => n
def Lt.by_ : Lt → Str
  | .rows _ b .. | .told _ b .. | .which _ b .. | .that _ b .. => b
def Lt.vs : Lt → List V
  | .rows n b f _ ra => [.str "rows", .int n, .str b, .str "me", .int (f : Int), .ref ra]
  | .told n b m => [.str "told", .int n, .str b, .str "me", .int m]
  | .which n b k => [.str "which", .int n, .str b, .str "me", .int k]
  | .that n b k m => [.str "that", .int n, .str b, .str "me", .int k, .int m]
def Lt.At (H : Hp) (a : Addr) (x : Lt) : Prop := H a = some (.tup x.vs) ∧ match x with
  | .rows _ _ _ l ra => H ra = some (.tup (l.map Row.v)) ∧ RowsOk H l
  | _ => True
def Lt.Ok (x : Lt) : Prop := 1 ≤ x.num ∧ NameOk x.by_ ∧ match x with
  | .rows _ _ f l _ => 1 ≤ f ∧ l.length ≤ 100
  | .told _ _ m => 0 ≤ m
  | .which _ _ k => 1 ≤ k
  | .that _ _ k m => 1 ≤ k ∧ 0 ≤ m
def HS.able (s : HS) (f : Nat) : HS := { s with ready := s.ready || decide (f = 1) }
def tookRows (s : HS) (c : Ch) (b : Str) (f : Nat) (l : List Row) : Res :=
  if ¬ c.ah = some b ∨ s.log.length + 1 < f then (s, [], []) else
  let s1 := (s.plus (l.drop (s.log.length + 1 - f))).able f
  if s1.ready = false then (s1, [], []) else
  match c.bh with
  | none => (s1.tellAll, writtenD s1, toldUp c s1.log.length)
  | some t => if s1.log.length = s.log.length then (s1, [], []) else (s1, [], [rowsD c t s1.log (s.log.length + 1)])
def tookTold (s : HS) (c : Ch) (b : Str) (m : Int) : Res :=
  if ¬ c.bh = some b ∨ (s.log.length : Int) < m then (s, [], []) else
  ({ s with told := max s.told m.toNat }, [], toldUp c (max s.told m.toNat))
def tookWhich (s : HS) (c : Ch) (b : Str) (k : Int) : Res :=
  if s.ready = false ∨ ¬ c.B = [] then (s, [], []) else (s, [], [letD "that" c b [.int k, .int (s.told : Int)]])
def tookThat (s : HS) (c : Ch) (b : Str) (k m : Int) : Res :=
  if ¬ b = c.tl ∨ (keyA s.asks k).isSome = false ∨ (s.log.length : Int) < m then (s, [], []) else
  (s.drop k, [worthD k (lastW (s.log.take m.toNat) ((keyA s.asks k).getD Str.empty))], [])
def took (s : HS) (x : Lt) : Res := match s.ch with
  | none => (s, [], [])
  | some c => if ¬ x.num = c.num then (s, [], []) else match x with
    | .rows _ b f l _ => tookRows s c b f l
    | .told _ b m => tookTold s c b m
    | .which _ b k => tookWhich s c b k
    | .that _ b k m => tookThat s c b k m
def tried (s : HS) : Res := match s.ch with
  | none => (s, [], [])
  | some c => if s.ready = false then (s, [], []) else
    match c.bh with
    | none => (s, [], toldUp c s.told ++ askedD c s)
    | some b => (s, [], rowsD c b s.log 1 :: askedD c s)

/-! ### in the heap -/
/-- all but some stands as it stood -/
def Fr (S : List Addr) (H H' : Hp) : Prop := ∀ b o, H b = some o → b ∉ S → H' b = some o
mutual
inductive TD (H : Hp) : V → PyData → Prop
  | non : TD H .non .none
  | bl (b : Bool) : TD H (.bl b) (.bool b)
  | int (i : Int) : TD H (.int i) (.int i)
  | str (x : Str) : TD H (.str x) (.str x)
  | tup {a : Addr} {xs : List V} {ds : List PyData} : H a = some (.tup xs) → TDs H xs ds → TD H (.ref a) (.tuple ds)
inductive TDs (H : Hp) : List V → List PyData → Prop
  | nil : TDs H [] []
  | cons {v : V} {vs : List V} {d : PyData} {ds : List PyData} : TD H v d → TDs H vs ds → TDs H (v :: vs) (d :: ds)
end
/-- at a a list of such -/
def LD (H : Hp) (a : Addr) (ds : List PyData) : Prop := ∃ xs, H a = some (.lst xs) ∧ TDs H xs ds
/-- v: a new pair of two new lists -/
structure Brought (H H' : Hp) (v : V) (T L : List PyData) : Prop where
  ex : ∃ t a b, v = .ref t ∧ H' t = some (.tup [.ref a, .ref b]) ∧ LD H' a T ∧ LD H' b L ∧ a ≠ b ∧ H t = none ∧ H a = none ∧ H b = none
structure Ad where
  (CH CC LA EH EA ER EC : Addr)
def hF (own : V) (l : Addr) (told : Nat) (ready : Bool) (d : Addr) : List (Str × V) := [("name", .str "me"), ("own", own), ("kept", .ref l), ("sure", .int (told : Int)), ("able", .bl ready), ("asks", .ref d)]
def cF (n : Int) (hl : Addr) : List (Str × V) := [("number", .int n), ("houses", .ref hl)]
def kvA (l : List (Int × Str)) : List (Key × V) := l.map fun q => (Sum.inl q.1, V.str q.2)
structure HX where
  (p l d ca hl : Addr)
def ChAt (A : Ad) (H : Hp) (ca hl : Addr) (c : Ch) : Prop := (∃ dx, H ca = some (.ins A.CC dx (cF c.num hl))) ∧ H hl = some (.lst (c.all.map V.str))
def ownV (s : HS) (ca : Addr) : V := match s.ch with
  | none => .non
  | some _ => .ref ca
structure HA (A : Ad) (H : Hp) (x : HX) (s : HS) : Prop where
  ob : ∃ dx, H x.p = some (.ins A.CH dx (hF (ownV s x.ca) x.l s.told s.ready x.d))
  lst : H x.l = some (.lst (s.log.map Row.v))
  rows : RowsOk H s.log
  asks : H x.d = some (.dK (kvA s.asks))
  ch : match s.ch with
    | none => x.ca = x.p ∧ x.hl = x.l
    | some c => ChAt A H x.ca x.hl c
structure MX where
  (m l d ct cl : Addr)
def mF (cv : V) (l : Addr) (told : Nat) (ready : Bool) (d : Addr) : List (Key × V) :=
  [(.inr "name", .str "me"), (.inr "chain", cv), (.inr "log", .ref l), (.inr "told", .int (told : Int)), (.inr "ready", .bl ready), (.inr "asks", .ref d)]
def McAt (H : Hp) (ct cl : Addr) (c : Ch) : Prop := H ct = some (.tup [.int c.num, .ref cl]) ∧ H cl = some (.lst (c.all.map V.str))
structure MA (H : Hp) (x : MX) (s : HS) : Prop where
  ob : H x.m = some (.dK (mF (ownV s x.ct) x.l s.told s.ready x.d))
  lst : H x.l = some (.lst (s.log.map Row.v))
  rows : RowsOk H s.log
  asks : H x.d = some (.dK (kvA s.asks))
  ch : match s.ch with
    | none => x.ct = x.m ∧ x.cl = x.l
    | some c => McAt H x.ct x.cl c
structure WX where
  (w ah be ms : Addr)
structure WS where
  num : Int
  more : Int
  asks : Int
  A : List Str
  B : List Str
  master : List Row
def wF (s : WS) (x : WX) : List (Key × V) := [(.inr "number", .int s.num), (.inr "more", .int s.more), (.inr "asks", .int s.asks), (.inr "ahead", .ref x.ah), (.inr "behind", .ref x.be), (.inr "master", .ref x.ms)]
structure WA (H : Hp) (x : WX) (s : WS) : Prop where
  ob : H x.w = some (.dK (wF s x))
  ahd : H x.ah = some (.lst (s.A.map V.str))
  bhd : H x.be = some (.lst (s.B.map V.str))
  ne : x.ah ≠ x.be
  mst : H x.ms = some (.lst (s.master.map Row.v))
  rows : RowsOk H s.master
  nem : x.ms ≠ x.ah ∧ x.ms ≠ x.be
/-- a source at a, asked at most n times -/
def Src (H : Hp) (a : Addr) (n : Nat) : Prop := ∃ x y z : Int, H a = some (.lst [.int x, .int y, .int z]) ∧ 0 ≤ x ∧ 0 ≤ y ∧ y ≤ (n : Int) ∧ 0 ≤ z ∧ z < 2147483647

/-! ### what the text's top has laid -/
structure ExcF (K : PySem.W.Frag) (mg : Str → Option Value) (nm : Str) (C : Addr) : Prop where
  x : PySem.W.excIn K C [.type "ValueError", .type "Exception", .type "BaseException", .type "object"] "ValueError.__new__" = true
  g : mg nm = some (.ref C)
  k : PySem.W.keepIn K (.ref C) = true
  b : PySem.W.subIn K (.ref C) (.type "BaseException") = some true
  t : PySem.W.typeIn K (.ref C) = some (.type "type")
  c : ExcC K C
structure Txt (w : World) (K : PySem.W.Frag) (mg : Str → Option Value) (A : Ad) : Prop where
  b_isinstance : mg "isinstance" = none
  b_len : mg "len" = none
  b_all : mg "all" = none
  b_set : mg "set" = none
  b_list : mg "list" = none
  b_tuple : mg "tuple" = none
  b_sorted : mg "sorted" = none
  b_max : mg "max" = none
  b_min : mg "min" = none
  b_range : mg "range" = none
  b_enumerate : mg "enumerate" = none
  b_int : mg "int" = none
  b_str : mg "str" = none
  b_bool : mg "bool" = none
  g_MOST_LETTERS : ∃ u, mg "MOST_LETTERS" = some u ∧ RelV (.int 8) u
  g_MOST_ROWS : ∃ u, mg "MOST_ROWS" = some u ∧ RelV (.int 200) u
  g_MOST_HOUSES : ∃ u, mg "MOST_HOUSES" = some u ∧ RelV (.int 7) u
  g_ALPHABET : ∃ u, mg "ALPHABET" = some u ∧ RelV (.str alpha) u
  g_LENGTHS : ∃ u, mg "LENGTHS" = some u ∧ RelV (.ref A.LA) u
  kd : ∃ es n, KDict K w A.LA es n
  k_rows : ∃ u, PySem.W.nsIn K A.LA "rows" = some (some u) ∧ RelV (.int 6) u
  k_told : ∃ u, PySem.W.nsIn K A.LA "told" = some (some u) ∧ RelV (.int 5) u
  k_which : ∃ u, PySem.W.nsIn K A.LA "which" = some (some u) ∧ RelV (.int 5) u
  k_that : ∃ u, PySem.W.nsIn K A.LA "that" = some (some u) ∧ RelV (.int 6) u
  clH : Cls K A.CH
  clC : Cls K A.CC
  h_name : NoAttr K A.CH "name"
  h_own : NoAttr K A.CH "own"
  h_kept : NoAttr K A.CH "kept"
  h_sure : NoAttr K A.CH "sure"
  h_able : NoAttr K A.CH "able"
  h_asks : NoAttr K A.CH "asks"
  c_number : NoAttr K A.CC "number"
  c_houses : NoAttr K A.CC "houses"
  x_Chain : ∃ u, mg "Chain" = some u ∧ RelV (.ref A.CC) u
  x_NotHead : ∃ u, mg "NotHead" = some u ∧ RelV (.ref A.EH) u
  x_NoAsk : ∃ u, mg "NoAsk" = some u ∧ RelV (.ref A.EA) u
  x_NotReady : ∃ u, mg "NotReady" = some u ∧ RelV (.ref A.ER) u
  e_NotHead : ExcF K mg "NotHead" A.EH
  e_NoAsk : ExcF K mg "NoAsk" A.EA
  e_NotReady : ExcF K mg "NotReady" A.ER
  g_CE : mg "ChainError" = some (.ref A.EC)
  mHC : PySem.W.exmOne K (.ref A.EH) (.ref A.EC) = some true
  mAC : PySem.W.exmOne K (.ref A.EA) (.ref A.EC) = some true
  mRC : PySem.W.exmOne K (.ref A.ER) (.ref A.EC) = some true
  kHH : PySem.W.kitOne K (.ref A.EH) (.ref A.EH) = some true
  kHA : PySem.W.kitOne K (.ref A.EH) (.ref A.EA) = some false
  kHR : PySem.W.kitOne K (.ref A.EH) (.ref A.ER) = some false
  kAH : PySem.W.kitOne K (.ref A.EA) (.ref A.EH) = some false
  kAA : PySem.W.kitOne K (.ref A.EA) (.ref A.EA) = some true
  kAR : PySem.W.kitOne K (.ref A.EA) (.ref A.ER) = some false
  kRH : PySem.W.kitOne K (.ref A.ER) (.ref A.EH) = some false
  kRA : PySem.W.kitOne K (.ref A.ER) (.ref A.EA) = some false
  kRR : PySem.W.kitOne K (.ref A.ER) (.ref A.ER) = some true
  kCC : PySem.W.kitOne K (.ref A.CC) (.ref A.CC) = some true
  iC1 : PySem.W.findIn K (.ref A.CC) "__class__" = some (some (.builtin "object.__class__"))
  iC2 : PySem.W.specialIn K (.builtin "object.__class__") "__get__" = some (some (.builtin "getset_descriptor.__get__"))
  iC3 : PySem.W.takesIn K (.builtin "object.__class__") = some true
  iC4 : PySem.W.mroIn K A.CC (.type "object") = some true
  neEH : A.EH ≠ A.EA ∧ A.EH ≠ A.ER ∧ A.EA ≠ A.ER
end Ck

/-! Chain kept: frames, data in tuples, the promises. -/
namespace Ck
open PySem PySem.Spec PyProof.Rows L2

/-! ### frames -/
section
variable {H H1 H2 : Hp} {S S' : List Addr} {a b p : Addr} {o : HO}
theorem Fr.refl (H : Hp) : Fr S H H := fun _ _ h _ => h
theorem Fr.trans (x : Fr S H H1) (y : Fr S H1 H2) : Fr S H H2 := fun b o e n => y b o (x b o e n) n
theorem Fr.mono (x : Fr S H H1) (h : ∀ a ∈ S, a ∈ S') : Fr S' H H1 := fun b o e n => x b o e fun m => n (h b m)
theorem Fr.ofSame (x : Same H H1) : Fr S H H1 := fun b o e _ => x b o e
theorem Fr.same (x : Fr [] H H1) : Same H H1 := fun b o e => x b o e (by simp)
theorem Fr.upd (x : Fr S H H1) (h : a ∈ S) : Fr S H (upd H1 a o) := fun b u e n => by
  rw [upd_ne (fun q => n (by rw [q]; exact h))]
  exact x b u e n
theorem Fr.new (x : Fr S H H1) (h : H a = none) : Fr S H (L2.upd H1 a o) := fun b u e n => by
  rw [upd_ne (ne_of_none e h)]
  exact x b u e n
/-- what was new may be forgotten -/
theorem Fr.less (x : Fr (p :: S) H H1) (h : H p = none) : Fr S H H1 := fun b u e n => x b u e fun m => by
  rcases List.mem_cons.mp m with q | q
  · rw [q, h] at e
    cases e
  · exact n q
theorem Fr.none (x : Fr S H H1) (h : H1 a = none) (n : a ∉ S) : H a = none := by
  cases e : H a with
  | none => rfl
  | some u =>
    rw [x a u e n] at h
    cases h
theorem Same.new (h : H a = none) : Same H (L2.upd H a o) := fun b u e => by
  rw [upd_ne (ne_of_none e h)]
  exact e
theorem Same.put {H' : Hp} (x : Same H H') (h : H a = none) : Same H (L2.upd H' a o) := fun b u e => by
  rw [upd_ne (ne_of_none e h)]
  exact x b u e
/-- tuples stay where none of those that change is one -/
theorem Fr.tup {xs : List V} (x : Fr S H H1) (h : ∀ a ∈ S, ∀ ys, H a ≠ some (.tup ys)) (e : H b = some (.tup xs)) : H1 b = some (.tup xs) := x b _ e fun m => h b m xs e
end
/-- the tuples of H stand in H' -/
def Tups (H H' : Hp) : Prop := ∀ a xs, H a = some (.tup xs) → H' a = some (.tup xs)
theorem Tups.ofSame {H H' : Hp} (x : Same H H') : Tups H H' := fun a _ e => x a _ e
theorem Tups.trans {H H1 H2 : Hp} (x : Tups H H1) (y : Tups H1 H2) : Tups H H2 := fun a xs e => y a xs (x a xs e)
theorem Fr.tups {H H' : Hp} {S : List Addr} (x : Fr S H H') (h : ∀ a ∈ S, ∀ ys, H a ≠ some (.tup ys)) : Tups H H' := fun a xs e => x.tup h e
theorem RowsOk.to {H H' : Hp} {l : List Row} (x : RowsOk H l) (t : Tups H H') : RowsOk H' l := ⟨fun r h => t _ _ (x.at_ r h), x.ok⟩
theorem RowsOk.nil {H : Hp} : RowsOk H [] := ⟨fun _ h => (by cases h), fun _ h => (by cases h)⟩
theorem RowsOk.sub {H : Hp} {l l' : List Row} (x : RowsOk H l) (h : ∀ r ∈ l', r ∈ l) : RowsOk H l' := ⟨fun r m => x.at_ r (h r m), fun r m => x.ok r (h r m)⟩
theorem RowsOk.app {H : Hp} {l l' : List Row} (x : RowsOk H l) (y : RowsOk H l') : RowsOk H (l ++ l') :=
  ⟨fun r m => (List.mem_append.mp m).elim (x.at_ r) (y.at_ r), fun r m => (List.mem_append.mp m).elim (x.ok r) (y.ok r)⟩
mutual
theorem TD.to {H H' : Hp} (t : Tups H H') : ∀ {d : PyData} {v : V}, TD H v d → TD H' v d
  | _, _, .non => .non
  | _, _, .bl b => .bl b
  | _, _, .int i => .int i
  | _, _, .str x => .str x
  | _, _, .tup e s => .tup (t _ _ e) (TDs.to t s)
theorem TDs.to {H H' : Hp} (t : Tups H H') : ∀ {ds : List PyData} {vs : List V}, TDs H vs ds → TDs H' vs ds
  | _, _, .nil => .nil
  | _, _, .cons h s => .cons (TD.to t h) (TDs.to t s)
end
mutual
theorem TD.dp {K : PySem.W.Frag} {H : Hp} : ∀ {d : PyData} {v : V}, TD H v d → Dp K H v d
  | _, _, .non => .non
  | _, _, .bl b => .bl b
  | _, _, .int i => .int i
  | _, _, .str x => .str x
  | _, _, .tup e s => .tup (SqT.of e) (TDs.dp s)
theorem TDs.dp {K : PySem.W.Frag} {H : Hp} : ∀ {ds : List PyData} {vs : List V}, TDs H vs ds → DpAll K H vs ds
  | _, _, .nil => .nil
  | _, _, .cons h s => .cons (TD.dp h) (TDs.dp s)
end
theorem TDs.app {H : Hp} : ∀ {vs us : List V} {ds es : List PyData}, TDs H vs ds → TDs H us es → TDs H (vs ++ us) (ds ++ es)
  | _, _, _, _, .nil, s => s
  | _, _, _, _, .cons h t, s => .cons h (TDs.app t s)
theorem TDs.rows {H : Hp} : ∀ {l : List Row}, RowsOk H l → TDs H (l.map Row.v) (l.map Row.d)
  | [], _ => .nil
  | r :: l, x => .cons (.tup (x.at_ r (by simp)) (.cons (.str _) (.cons (.int _) (.cons (.str _) (.cons (.int _) .nil))))) (TDs.rows (x.sub fun r m => List.mem_cons_of_mem _ m))

/-! ### the promises: rows and chains -/
def sp_is_whole : Sp := fun vs H Q _ => ∃ i : Int, vs = [.int i] ∧ Q (.bl true) H
def sp_is_count : Sp := fun vs H Q _ => ∃ i l : Int, vs = [.int i, .int l] ∧ Q (.bl (decide (l ≤ i))) H
def sp_is_name : Sp := fun vs H Q _ => ∃ x : Str, vs = [.str x] ∧ NameOk x ∧ ∀ H', Same H H' → Q (.bl true) H'
def sp_is_row : Sp := fun vs H Q _ => ∃ r : Row, vs = [.ref r.ad] ∧ RowAt H r ∧ r.Ok ∧ ∀ H', Same H H' → Q (.bl true) H'
def sp_last_worth : Sp := fun vs H Q _ => ∃ (a : Addr) (l : List Row) (key : Str), vs = [.ref a, .str key] ∧ H a = some (.lst (l.map Row.v)) ∧ RowsOk H l ∧ Q (oi (lastW l key)) H
def sp_place_in : Sp := fun vs H Q _ => ∃ (a : Addr) (l : List Row) (x : Str) (n : Int), vs = [.ref a, .str x, .int n] ∧ H a = some (.lst (l.map Row.v)) ∧ RowsOk H l ∧ NameOk x ∧ ∀ H', Same H H' → Q (oi ((idxW l x n).map fun k => (k : Int) + 1)) H'
def sp_are_houses : Sp := fun vs H Q _ => ∃ (a : Addr) (ns : List Str), vs = [.ref a] ∧ H a = some (.lst (ns.map V.str)) ∧ Houses ns ∧ ∀ H', Same H H' → Q (.bl true) H'
def sp_C_init (A : Ad) : Sp := fun vs H Q _ => ∃ (p dx a : Addr) (n : Int) (ns : List Str), vs = [.ref p, .int n, .ref a] ∧ H p = some (.ins A.CC dx []) ∧ 1 ≤ n ∧ H a = some (.lst (ns.map V.str)) ∧ Houses ns ∧
  ∀ (H' : Hp) (hl : Addr), H hl = none → H' p = some (.ins A.CC dx (cF n hl)) → H' hl = some (.lst (ns.map V.str)) → Fr [p] H H' → Q .non H'
def sp_C_place (A : Ad) : Sp := fun vs H Q _ => ∃ (a hl : Addr) (c : Ch), vs = [.ref a, .str "me"] ∧ ChAt A H a hl c ∧ c.Ok ∧ ∀ H', Same H H' → Q (.int (c.A.length : Int)) H'
def sp_C_ahead_of (A : Ad) : Sp := fun vs H Q _ => ∃ (a hl : Addr) (c : Ch), vs = [.ref a, .str "me"] ∧ ChAt A H a hl c ∧ c.Ok ∧ ∀ H', Same H H' → Q (ov c.ah) H'
def sp_C_behind (A : Ad) : Sp := fun vs H Q _ => ∃ (a hl : Addr) (c : Ch), vs = [.ref a, .str "me"] ∧ ChAt A H a hl c ∧ c.Ok ∧ ∀ H', Same H H' → Q (ov c.bh) H'
def sp_is_letter : Sp := fun vs H Q _ => ∃ (a : Addr) (x : Lt), vs = [.ref a] ∧ x.At H a ∧ x.Ok ∧ ∀ H', Same H H' → Q (.bl true) H'

/-! ### a house -/
def sp_H_init (A : Ad) : Sp := fun vs H Q _ => ∃ p dx : Addr, vs = [.ref p, .str "me"] ∧ H p = some (.ins A.CH dx []) ∧
  ∀ (H' : Hp) (l d : Addr), H l = none → H d = none → HA A H' ⟨p, l, d, p, l⟩ HS.new → Fr [p] H H' → Q .non H'
def sp_H_chain_number (A : Ad) : Sp := fun vs H Q _ => ∃ (x : HX) (s : HS), vs = [.ref x.p] ∧ HA A H x s ∧ Q (oi (s.ch.map Ch.num)) H
def sp_H_log (A : Ad) : Sp := fun vs H Q _ => ∃ (x : HX) (s : HS), vs = [.ref x.p] ∧ HA A H x s ∧ ∀ a, H a = none → Q (.ref a) (upd H a (.lst (s.log.map Row.v)))
def sp_H_told_many (A : Ad) : Sp := fun vs H Q _ => ∃ (x : HX) (s : HS), vs = [.ref x.p] ∧ HA A H x s ∧ Q (.int (s.told : Int)) H
def sp_H_is_ready (A : Ad) : Sp := fun vs H Q _ => ∃ (x : HX) (s : HS), vs = [.ref x.p] ∧ HA A H x s ∧ Q (.bl s.ready) H
def sp_H_waiting (A : Ad) : Sp := fun vs H Q _ => ∃ (x : HX) (s : HS), vs = [.ref x.p] ∧ HA A H x s ∧ s.asks.length ≤ 50 ∧ ∀ a, H a = none → Q (.ref a) (upd H a (.lst ((sortA s.asks).map V.int)))
def sp_H_stands (A : Ad) : Sp := fun vs H Q _ => ∃ (x : HX) (s : HS), vs = [.ref x.p] ∧ HA A H x s ∧ Q (.bl s.stands) H
def sp_H_is_tail (A : Ad) : Sp := fun vs H Q _ => ∃ (x : HX) (s : HS) (c : Ch), vs = [.ref x.p] ∧ HA A H x s ∧ s.ch = some c ∧ c.Ok ∧ Q (.bl c.B.isEmpty) H
def sp_H_letter (A : Ad) : Sp := fun vs H Q _ => ∃ (x : HX) (s : HS) (c : Ch) (kind to : Str) (m : Addr) (ms : List V), vs = [.ref x.p, .str kind, .str to, .ref m] ∧ HA A H x s ∧ s.ch = some c ∧ H m = some (.tup ms) ∧ ms ≠ [] ∧ ms.length ≤ 100 ∧
  ∀ (H' : Hp) (a : Addr), H a = none → Same H H' → H' a = some (.tup ([.str kind, .int c.num, .str "me", .str to] ++ ms)) → Q (.ref a) H'
def sp_H_rows_behind (A : Ad) : Sp := fun vs H Q _ => ∃ (x : HX) (s : HS) (c : Ch) (b : Str) (f : Nat), vs = [.ref x.p, .int (f : Int)] ∧ HA A H x s ∧ s.ch = some c ∧ c.Ok ∧ c.bh = some b ∧ 1 ≤ f ∧ s.log.length ≤ 1000 ∧
  ∀ (H' : Hp) (v : V), Same H H' → TD H' v (rowsD c b s.log f) → Q v H'
def sp_H_told_ahead (A : Ad) : Sp := fun vs H Q _ => ∃ (x : HX) (s : HS) (c : Ch), vs = [.ref x.p] ∧ HA A H x s ∧ s.ch = some c ∧ c.Ok ∧ ∀ (H' : Hp) (a : Addr), H a = none → Same H H' → LD H' a (toldUp c s.told) → Q (.ref a) H'
def sp_H_asked_tail (A : Ad) : Sp := fun vs H Q _ => ∃ (x : HX) (s : HS) (c : Ch), vs = [.ref x.p] ∧ HA A H x s ∧ s.ch = some c ∧ c.Ok ∧ s.asks.length ≤ 50 ∧ ∀ (H' : Hp) (a : Addr), H a = none → Same H H' → LD H' a (askedD c s) → Q (.ref a) H'
def sp_H_told_all (A : Ad) : Sp := fun vs H Q _ => ∃ (x : HX) (s : HS), vs = [.ref x.p] ∧ HA A H x s ∧ s.log.length ≤ 1000 ∧ ∀ (H' : Hp) (a : Addr), H a = none → Fr [x.p] H H' → HA A H' x s.tellAll → LD H' a (writtenD s) → Q (.ref a) H'
def sp_H_answered_all (A : Ad) : Sp := fun vs H Q _ => ∃ (x : HX) (s : HS), vs = [.ref x.p] ∧ HA A H x s ∧ s.Ok ∧
  ∀ (H' : Hp) (a d' : Addr), H a = none → H d' = none → Fr [x.p] H H' → HA A H' { x with d := d' } { s with asks := [] } → LD H' a (answersD s) → Q (.ref a) H'
/-- a deed of a house: behind it stands what r tells -/
def HDone (A : Ad) (H : Hp) (x : HX) (Q : VK) (r : Res) : Prop :=
  ∀ (H' : Hp) (v : V) (x' : HX), x'.p = x.p → x'.l = x.l → (x'.d = x.d ∨ H x'.d = none) → x'.ca = x.ca → x'.hl = x.hl → HA A H' x' r.1 → Brought H H' v r.2.1 r.2.2 → Fr [x.p, x.l, x.d] H H' → Q v H'
def sp_H_adopt (A : Ad) : Sp := fun vs H Q _ => ∃ (x : HX) (s : HS) (ca hl : Addr) (c : Ch), vs = [.ref x.p, .ref ca] ∧ HA A H x s ∧ s.Ok ∧ ChAt A H ca hl c ∧ c.Ok ∧
  ∀ (H' : Hp) (v : V) (x' : HX), x'.p = x.p → x'.l = x.l → (x'.d = x.d ∨ H x'.d = none) → (x'.hl = x.hl ∨ x'.hl = hl) → HA A H' x' (adopted s c).1 → Brought H H' v (adopted s c).2.1 (adopted s c).2.2 → Fr [x.p] H H' → Q v H'
def sp_H_write (A : Ad) : Sp := fun vs H Q E => ∃ (x : HX) (s : HS) (r : Row), vs = [.ref x.p, .ref r.ad] ∧ HA A H x s ∧ s.Ok ∧ RowAt H r ∧ r.Ok ∧ s.log.length < 150 ∧ match put s r with
  | none => ∀ H', Same H H' → E (.ref A.EH) none H'
  | some q => HDone A H x Q q
def sp_H_read (A : Ad) : Sp := fun vs H Q E => ∃ (x : HX) (s : HS) (k : Int) (key : Str), vs = [.ref x.p, .int k, .str key] ∧ HA A H x s ∧ s.Ok ∧ 1 ≤ k ∧ NameOk key ∧ match rd s k key with
  | .ask => ∀ H', Same H H' → E (.ref A.EA) none H'
  | .ready => ∀ H', Same H H' → E (.ref A.ER) none H'
  | .ok q => HDone A H x Q q
def sp_H_take (A : Ad) : Sp := fun vs H Q _ => ∃ (x : HX) (s : HS) (a : Addr) (y : Lt), vs = [.ref x.p, .ref a] ∧ HA A H x s ∧ s.Ok ∧ y.At H a ∧ y.Ok ∧ HDone A H x Q (took s y)
def sp_H_take_rows (A : Ad) : Sp := fun vs H Q _ => ∃ (x : HX) (s : HS) (c : Ch) (b : Str) (f : Nat) (l : List Row) (ra : Addr), vs = [.ref x.p, .str b, .int (f : Int), .ref ra] ∧ HA A H x s ∧ s.Ok ∧ s.ch = some c ∧ 1 ≤ f ∧ l.length ≤ 100 ∧ H ra = some (.tup (l.map Row.v)) ∧ RowsOk H l ∧ HDone A H x Q (tookRows s c b f l)
def sp_H_take_told (A : Ad) : Sp := fun vs H Q _ => ∃ (x : HX) (s : HS) (c : Ch) (b : Str) (m : Int), vs = [.ref x.p, .str b, .int m] ∧ HA A H x s ∧ s.Ok ∧ s.ch = some c ∧ 0 ≤ m ∧ HDone A H x Q (tookTold s c b m)
def sp_H_take_which (A : Ad) : Sp := fun vs H Q _ => ∃ (x : HX) (s : HS) (c : Ch) (b : Str) (k : Int), vs = [.ref x.p, .str b, .int k] ∧ HA A H x s ∧ s.Ok ∧ s.ch = some c ∧ HDone A H x Q (tookWhich s c b k)
def sp_H_take_that (A : Ad) : Sp := fun vs H Q _ => ∃ (x : HX) (s : HS) (c : Ch) (b : Str) (k m : Int), vs = [.ref x.p, .str b, .int k, .int m] ∧ HA A H x s ∧ s.Ok ∧ s.ch = some c ∧ 0 ≤ m ∧ HDone A H x Q (tookThat s c b k m)
def sp_H_again (A : Ad) : Sp := fun vs H Q _ => ∃ (x : HX) (s : HS), vs = [.ref x.p] ∧ HA A H x s ∧ s.Ok ∧ HDone A H x Q (tried s)

/-! ### the house led in the law -/
def sp_l_house : Sp := fun vs H Q _ => vs = [.str "me"] ∧ ∀ (H' : Hp) (m l d : Addr), H m = none → H l = none → H d = none → MA H' ⟨m, l, d, m, l⟩ HS.new → Same H H' → Q (.ref m) H'
def sp_l_last : Sp := sp_last_worth
def sp_l_ahead : Sp := fun vs H Q _ => ∃ (x : MX) (s : HS) (c : Ch), vs = [.ref x.m] ∧ MA H x s ∧ s.ch = some c ∧ c.Ok ∧ Q (ov c.ah) H
def sp_l_behind : Sp := fun vs H Q _ => ∃ (x : MX) (s : HS) (c : Ch), vs = [.ref x.m] ∧ MA H x s ∧ s.ch = some c ∧ c.Ok ∧ Q (ov c.bh) H
def sp_l_letter : Sp := fun vs H Q _ => ∃ (x : MX) (s : HS) (c : Ch) (kind to : Str) (m : Addr) (ms : List V), vs = [.ref x.m, .str kind, .str to, .ref m] ∧ MA H x s ∧ s.ch = some c ∧ H m = some (.tup ms) ∧ ms ≠ [] ∧ ms.length ≤ 100 ∧
  ∀ (H' : Hp) (a : Addr), H a = none → Same H H' → H' a = some (.tup ([.str kind, .int c.num, .str "me", .str to] ++ ms)) → Q (.ref a) H'
def sp_l_told_up : Sp := fun vs H Q _ => ∃ (x : MX) (s : HS) (c : Ch), vs = [.ref x.m] ∧ MA H x s ∧ s.ch = some c ∧ c.Ok ∧ ∀ (H' : Hp) (a : Addr), H a = none → Same H H' → LD H' a (toldUp c s.told) → Q (.ref a) H'
def sp_l_rows_down : Sp := fun vs H Q _ => ∃ (x : MX) (s : HS) (c : Ch) (b : Str) (f : Nat), vs = [.ref x.m, .int (f : Int)] ∧ MA H x s ∧ s.ch = some c ∧ c.Ok ∧ c.bh = some b ∧ 1 ≤ f ∧ s.log.length ≤ 1000 ∧
  ∀ (H' : Hp) (v : V), Same H H' → TD H' v (rowsD c b s.log f) → Q v H'
def sp_l_asked : Sp := fun vs H Q _ => ∃ (x : MX) (s : HS) (c : Ch), vs = [.ref x.m] ∧ MA H x s ∧ s.ch = some c ∧ c.Ok ∧ s.asks.length ≤ 50 ∧ ∀ (H' : Hp) (a : Addr), H a = none → Same H H' → LD H' a (askedD c s) → Q (.ref a) H'
def sp_l_written : Sp := fun vs H Q _ => ∃ (x : MX) (s : HS), vs = [.ref x.m] ∧ MA H x s ∧ s.log.length ≤ 1000 ∧ ∀ (H' : Hp) (a : Addr), H a = none → Fr [x.m] H H' → MA H' x s.tellAll → LD H' a (writtenD s) → Q (.ref a) H'
def sp_l_stands : Sp := fun vs H Q _ => ∃ (x : MX) (s : HS), vs = [.ref x.m] ∧ MA H x s ∧ Q (.bl s.stands) H
/-- a deed of the house that is led -/
def MDone (H : Hp) (x : MX) (Q : VK) (r : Res) : Prop :=
  ∀ (H' : Hp) (v : V) (x' : MX), x'.m = x.m → x'.l = x.l → x'.d = x.d → x'.ct = x.ct → x'.cl = x.cl → MA H' x' r.1 → Brought H H' v r.2.1 r.2.2 → Fr [x.m, x.l, x.d] H H' → Q v H'
def sp_l_adopted : Sp := fun vs H Q _ => ∃ (x : MX) (s : HS) (a : Addr) (c : Ch), vs = [.ref x.m, .int c.num, .ref a] ∧ MA H x s ∧ s.Ok ∧ c.Ok ∧ H a = some (.lst (c.all.map V.str)) ∧
  ∀ (H' : Hp) (v : V) (x' : MX), x'.m = x.m → x'.l = x.l → x'.d = x.d → (x'.cl = x.cl ∨ H x'.cl = none) → MA H' x' (adopted s c).1 → Brought H H' v (adopted s c).2.1 (adopted s c).2.2 → Fr [x.m, x.d] H H' → Q v H'
def sp_l_put : Sp := fun vs H Q _ => ∃ (x : MX) (s : HS) (r : Row), vs = [.ref x.m, .ref r.ad] ∧ MA H x s ∧ s.Ok ∧ RowAt H r ∧ r.Ok ∧ s.log.length < 150 ∧ match put s r with
  | none => ∀ H', Same H H' → Q (.str "head") H'
  | some q => MDone H x Q q
def sp_l_read : Sp := fun vs H Q _ => ∃ (x : MX) (s : HS) (k : Int) (key : Str), vs = [.ref x.m, .int k, .str key] ∧ MA H x s ∧ s.Ok ∧ match rd s k key with
  | .ask => ∀ H', Same H H' → Q (.str "ask") H'
  | .ready => ∀ H', Same H H' → Q (.str "ready") H'
  | .ok q => MDone H x Q q
def sp_l_took : Sp := fun vs H Q _ => ∃ (x : MX) (s : HS) (a : Addr) (y : Lt), vs = [.ref x.m, .ref a] ∧ MA H x s ∧ s.Ok ∧ y.At H a ∧ y.Ok ∧ MDone H x Q (took s y)
def sp_l_took_rows : Sp := fun vs H Q _ => ∃ (x : MX) (s : HS) (c : Ch) (n : Int) (b : Str) (f : Nat) (l : List Row) (ra a : Addr), vs = [.ref x.m, .ref a] ∧ MA H x s ∧ s.Ok ∧ s.ch = some c ∧ (Lt.rows n b f l ra).At H a ∧ (Lt.rows n b f l ra).Ok ∧ MDone H x Q (tookRows s c b f l)
def sp_l_tried : Sp := fun vs H Q _ => ∃ (x : MX) (s : HS), vs = [.ref x.m] ∧ MA H x s ∧ s.Ok ∧ MDone H x Q (tried s)
def sp_l_same (A : Ad) : Sp := fun vs H Q _ => ∃ (x : HX) (y : MX) (s : HS), vs = [.ref x.p, .ref y.m] ∧ HA A H x s ∧ MA H y s ∧ s.Ok ∧ ∀ H', Same H H' → Q (.bl true) H'
/-- data that may be compared -/
def Cmp (ds : List PyData) : Prop := SeqAt.shaped (.list ds) = true
def sp_l_brought : Sp := fun vs H Q _ => ∃ (t a b t' a' b' : Addr) (T L : List PyData), vs = [.ref t, .ref t'] ∧ H t = some (.tup [.ref a, .ref b]) ∧ LD H a T ∧ LD H b L ∧ H t' = some (.tup [.ref a', .ref b']) ∧ LD H a' T ∧ LD H b' L ∧ a ≠ b ∧ Cmp T ∧ Cmp L ∧
  ∀ H', Fr [a, b] H H' → Q (.bl true) H'

/-! ### the law's source and world -/
def sp_l_cell_at (K : PySem.W.Frag) : Sp := fun vs H Q _ => ∃ (a : Addr) (ns : List Int), vs = [.ref a, .int 0] ∧ SqL K H a (ns.map V.int) ∧ ∀ i : Int, Q (.int i) H
def sp_l_source : Sp := fun vs H Q _ => ∃ i : Int, vs = [.int i] ∧ ∀ (H' : Hp) (a : Addr), H a = none → Same H H' → Src H' a 0 → Q (.ref a) H'
def sp_l_next : Sp := fun vs H Q _ => ∃ (a : Addr) (n : Nat) (m : Int), vs = [.ref a, .int m] ∧ Src H a n ∧ n ≤ 1000000 ∧ 1 ≤ m ∧ m ≤ 1000000000 ∧ ∀ (H' : Hp) (r : Int), 0 ≤ r → r < m → Src H' a (n + 1) → Fr [a] H H' → Q (.int r) H'
def sp_l_word : Sp := fun vs H Q _ => ∃ (a : Addr) (n : Nat), vs = [.ref a] ∧ Src H a n ∧ n ≤ 900000 ∧ ∀ (H' : Hp) (x : Str), NameOk x → Src H' a (n + 20) → Fr [a] H H' → Q (.str x) H'
def sp_l_row : Sp := fun vs H Q _ => ∃ (a : Addr) (n : Nat) (k : Int), vs = [.ref a, .int k] ∧ Src H a n ∧ n ≤ 800000 ∧ 0 ≤ k ∧ k ≤ 100000 ∧ ∀ (H' : Hp) (r : Row), H r.ad = none → RowAt H' r → r.Ok → Src H' a (n + 100) → Fr [a] H H' → Q (.ref r.ad) H'
def sp_l_log : Sp := fun vs H Q _ => ∃ (a : Addr) (n : Nat) (m : Int), vs = [.ref a, .int m] ∧ Src H a n ∧ n ≤ 700000 ∧ 0 ≤ m ∧ m ≤ 100 ∧
  ∀ (H' : Hp) (t : Addr) (l : List Row), H t = none → H' t = some (.lst (l.map Row.v)) → RowsOk H' l → (l.length : Int) = m → Src H' a (n + 10000) → Fr [a] H H' → Q (.ref t) H'
/-- names of the world -/
structure WS.Ok (s : WS) (n : Nat) : Prop where
  num : 1 ≤ s.num
  more : 0 ≤ s.more ∧ 2 * s.more ≤ (s.B.length : Int) + (n : Int)
  asks : 0 ≤ s.asks ∧ s.asks ≤ (n : Int)
  h : Houses (s.A ++ ("me" : Str) :: s.B)
  ps : ∀ x ∈ s.A, x ∈ ([("pa" : Str), ("pb" : Str), ("pc" : Str)] : List Str)
  bs : ∀ x ∈ s.B, x ∈ ([("qa" : Str), ("qb" : Str), ("qc" : Str)] : List Str) ∨ ∃ i : Nat, 1 ≤ i ∧ (i : Int) ≤ s.more ∧ ∃ c : Nat, alpha.cps.toList[i]? = some c ∧ x = ("new" : Str) ++ (⟨#[c]⟩ : Str)
  mas : s.master.length ≤ 14 + n
def sp_l_world : Sp := fun vs H Q _ => ∃ (a : Addr), vs = [.ref a] ∧ Src H a 0 ∧
  ∀ (H' : Hp) (x : WX) (s : WS), H x.w = none → H x.ah = none → H x.be = none → H x.ms = none → WA H' x s → s.Ok 0 → s.num = 1 → Src H' a 20000 → Fr [a] H H' → Q (.ref x.w) H'
def sp_l_names : Sp := fun vs H Q _ => ∃ (x : WX) (s : WS), vs = [.ref x.w] ∧ WA H x s ∧ s.A.length ≤ 10 ∧ s.B.length ≤ 10 ∧ ∀ (H' : Hp) (a : Addr), H a = none → Same H H' → H' a = some (.lst ((s.A ++ ("me" : Str) :: s.B).map V.str)) → Q (.ref a) H'
def sp_l_changed : Sp := fun vs H Q _ => ∃ (a : Addr) (n : Nat) (x : WX) (s : WS) (y : MX) (h : HS) (t : Nat), vs = [.ref a, .ref x.w, .ref y.m] ∧ Src H a n ∧ n ≤ 100000 ∧ WA H x s ∧ s.Ok t ∧ t ≤ 43 ∧ MA H y h ∧ h.log.length ≤ 14 + t ∧ a ≠ x.ah ∧ a ≠ x.be ∧ a ≠ x.ms ∧ a ≠ y.l ∧ x.w ≠ y.m ∧ x.w ≠ y.d ∧ y.l ≠ x.ah ∧ y.l ≠ x.be ∧
  ∀ (H' : Hp) (x' : WX) (s' : WS), x'.w = x.w → x'.ah = x.ah → x'.be = x.be → (x'.ms = x.ms ∨ H x'.ms = none) → WA H' x' s' → s'.Ok (t + 1) → Src H' a (n + 2) → Fr [a, x.w, x.ah, x.be] H H' → Q .non H'
def sp_l_new_row : Sp := fun vs H Q _ => ∃ (a : Addr) (n : Nat) (x : WX) (s : WS), vs = [.ref a, .ref x.w] ∧ Src H a n ∧ n ≤ 100000 ∧ WA H x s ∧ s.master.length ≤ 100 ∧ a ≠ x.ms ∧ ∀ (H' : Hp) (r : Row), RowAt H' r → r.Ok → Src H' a (n + 103) → Fr [a] H H' → Q (.ref r.ad) H'
def sp_l_letter_for : Sp := fun vs H Q _ => ∃ (a : Addr) (n : Nat) (x : WX) (s : WS) (y : MX) (h : HS) (t : Nat), vs = [.ref a, .ref x.w, .ref y.m] ∧ Src H a n ∧ n ≤ 100000 ∧ WA H x s ∧ s.Ok t ∧ t ≤ 43 ∧ MA H y h ∧ h.Ok ∧ a ≠ x.ah ∧ a ≠ x.be ∧ a ≠ x.ms ∧ a ≠ y.l ∧
  ∀ (H' : Hp) (z : Addr) (b : Lt), b.At H' z → b.Ok → Fr [a] H H' → (∀ num by_ f l ra, b = .rows num by_ f l ra → l.length ≤ s.master.length + 1 - f) → Q (.ref z) H'
end Ck

/-! Chain kept: one step of a reading at a time. -/
namespace Ck
open PySem PySem.Spec PyProof.Rows L2
section
variable {σ : L2.St} {H H1 : Hp} {Q : VK} {QB : Bool → Hp → Prop} {D : Ends} {i : Nat} {v x y : V} {ta tb te tv : TE} {t u c : TT} {ts us : TS} {g : TG} {tr : TA} {r : R2} {K : PySem.W.Frag} {b : Bool}
theorem n_seq (h : ts { D with nx := us D } σ H) : tSeq ts us D σ H := h
theorem n_ifs (h : c σ H fun b H1 => if b = true then ts D σ H1 else us D σ H1) : tIfS c ts us D σ H := h
theorem n_asg (h : te σ H fun x H1 => g x σ H1 D.nx) : tAsg te g D σ H := h
theorem n_name {Qn : L2.St → Hp → Prop} (h : Qn (σ.set i (some v)) H) : gName i v σ H Qn := h
theorem n_ret (h : te σ H D.rt) : tRet te D σ H := h
theorem n_drop (h : te σ H fun _ H1 => D.nx σ H1) : tDrop te D σ H := h
theorem n_next (h : D.nx σ H) : tNext D σ H := h
theorem n_var (e : σ[i]? = some (some v)) (h : Q v H) : tVar i σ H Q := ⟨v, e, h⟩
theorem n_c (h : Q v H) : tC v σ H Q := h
theorem n_op (h : ta σ H fun x H1 => tb σ H1 fun y H2 => r x y H2 Q) : tOp r ta tb σ H Q := h
theorem n_un {r : V → Hp → VK → Prop} (h : ta σ H fun x H1 => r x H1 Q) : tUn r ta σ H Q := h
theorem n_test (h : te σ H fun x H' => ∃ k, x = .bl k ∧ QB k H') : tTest te σ H QB := h
theorem n_B (h : te σ H fun x H' => ∃ k, x = .bl k ∧ QB k H') : tB te σ H QB := h
theorem n_ex {Pb : Bool → Prop} (h : Pb b) : ∃ k, V.bl b = V.bl k ∧ Pb k := ⟨b, rfl, h⟩
theorem n_exI {i : Int} {Pb : Int → Prop} (h : Pb i) : ∃ k, V.int i = V.int k ∧ Pb k := ⟨i, rfl, h⟩
theorem n_and (h : t σ H fun c H1 => if c = true then u σ H1 QB else QB false H1) : tAnd t u σ H QB := h
theorem n_or (h : t σ H fun c H1 => if c = true then QB true H1 else u σ H1 QB) : tOr t u σ H QB := h
theorem n_not (h : t σ H fun c H1 => QB (!c) H1) : tNot t σ H QB := h
theorem n_andV (h : ta σ H fun x H1 => ∃ c, x = .bl c ∧ if c = true then tb σ H1 Q else Q (.bl false) H1) : tAndV ta tb σ H Q := h
theorem n_orV (h : ta σ H fun x H1 => ∃ c, x = .bl c ∧ if c = true then Q (.bl true) H1 else tb σ H1 Q) : tOrV ta tb σ H Q := h
theorem n_notV (h : ta σ H fun x H1 => ∃ c, x = .bl c ∧ Q (.bl (!c)) H1) : tNotV ta σ H Q := h
theorem n_cons {Qa : List V → Hp → Prop} (h : ta σ H fun x H1 => tr σ H1 fun xs H2 => Qa (x :: xs) H2) : tCons ta tr σ H Qa := h
theorem n_nil {Qa : List V → Hp → Prop} (h : Qa [] H) : tNil σ H Qa := h
theorem n_cb {r : List V → Hp → VK → Prop} (h : tr σ H fun vs H1 => r vs H1 Q) : tCB r tr σ H Q := h
theorem n_call {sp : Sp} {dvs : List V} {E : XK} (h : tr σ H fun vs H1 => sp (vs ++ dvs) H1 Q E) : tCall sp dvs E tr σ H Q := h
theorem n_I0 {gg : Int → Int → V} {i j : Int} (h : Q (gg i j) H) : rI0 gg (.int i) (.int j) H Q := ⟨i, j, rfl, rfl, h⟩
theorem n_I {C : Int → Int → Prop} {gg : Int → Int → V} {i j : Int} (hc : C i j) (h : Q (gg i j) H) : rI C gg (.int i) (.int j) H Q := ⟨i, j, rfl, rfl, hc, h⟩
theorem n_eq (hs : scal x y = true) (h : Q (.bl (decide (x = y))) H) : rEq x y H Q := ⟨hs, h⟩
theorem n_ne (hs : scal x y = true) (h : Q (.bl (!decide (x = y))) H) : rNe x y H Q := ⟨hs, h⟩
theorem n_ite (h : ∀ b', b' = b → if b' = true then ts D σ H else us D σ H) : if b = true then ts D σ H else us D σ H := h b rfl
theorem n_for {wi : TI} (h : wi σ H fun J H1 => ∃ W : Nat → Nat → L2.St → Hp → Prop, (∃ m, W 0 m σ H1) ∧ ∀ i m σ H, W i m σ H → (J.stop i H ∧ D.nx σ H) ∨ (J.go i H ∧ ∃ N : L2.St → Hp → Prop, (∀ σ' H', N σ' H' → ∃ m', m' < m ∧ W (i + 1) m' σ' H') ∧ ∀ x H', J.yld i H x H' → g x σ H' fun σ2 H2 => ts { D with nx := N, ct := N, bk := D.nx } σ2 H2)) : tFor wi g ts D σ H := h
theorem n_dpop1 (h : ta σ H fun x H1 => ∃ a, x = .ref a ∧ IsD H1 a ∧ tb σ H1 fun y H2 => ∃ kvs k v, H2 a = some (.dK kvs) ∧ y = kV k ∧ valV kvs k = some v ∧ Q v (upd H2 a (.dK (dropK kvs k)))) : tDPop1 ta tb σ H Q := h
theorem n_din (h : ta σ H fun y H1 => tb σ H1 fun x H2 => ∃ a o, x = .ref a ∧ DGet H2 a y o ∧ Q (.bl o.isSome) H2) : tDIn ta tb σ H Q := h
theorem n_dnotin (h : ta σ H fun y H1 => tb σ H1 fun x H2 => ∃ a o, x = .ref a ∧ DGet H2 a y o ∧ Q (.bl (!o.isSome)) H2) : tDNotIn ta tb σ H Q := h
theorem n_dput (h : tv σ H fun v H1 => ta σ H1 fun x H2 => tb σ H2 fun y H3 => ∃ a H4, x = .ref a ∧ DPut H3 a y v H4 ∧ D.nx σ H4) : sDPut ta tb tv D σ H := h
theorem n_nn {P : Prop} (h : P) : V.non = V.non ∧ P := ⟨rfl, h⟩
theorem n_rU {gg : Int → V} {i : Int} (h : Q (gg i) H) : rU gg (.int i) H Q := ⟨i, rfl, h⟩
theorem n_iT {c : Bool} {A B : Prop} (e : c = true) (h : A) : if c = true then A else B := by rw [e]; exact L2.iteT h
theorem n_iF {c : Bool} {A B : Prop} (e : c = false) (h : B) : if c = true then A else B := by rw [e]; exact L2.iteF h
theorem n_fld {f : Str} (h : ta σ H fun x H1 => ∃ a C dx fs v, x = .ref a ∧ H1 a = some (.ins C dx fs) ∧ Cls K C ∧ NoAttr K C f ∧ fs.lookup f = some v ∧ Q v H1) : tFld K ta f σ H Q := h
theorem n_fldx {f : Str} {a C dx : Addr} {fs : List (Str × V)} (e : H a = some (.ins C dx fs)) (cl : Cls K C) (no : NoAttr K C f) (l : fs.lookup f = some v) (h : Q v H) :
    ∃ a' C dx fs v, V.ref a = .ref a' ∧ H a' = some (.ins C dx fs) ∧ Cls K C ∧ NoAttr K C f ∧ fs.lookup f = some v ∧ Q v H := ⟨a, C, dx, fs, v, rfl, e, cl, no, l, h⟩
theorem n_tup (h : tr σ H fun xs H1 => xs.length ≤ sizeLine ∧ ∀ p, H1 p = none → Q (.ref p) (upd H1 p (.tup xs))) : tTup tr σ H Q := h
theorem n_lst (h : tr σ H fun xs H1 => xs.length ≤ sizeLine ∧ ∀ p, H1 p = none → Q (.ref p) (upd H1 p (.lst xs))) : tLst tr σ H Q := h
theorem n_ixT {p : Addr} {xs : List V} {i : Int} (e : SqT K H p xs) (l : atI xs i = some v) (h : Q v H) : rIxT K (.ref p) (.int i) H Q := ⟨p, xs, i, v, rfl, rfl, e, l, h⟩
theorem n_ixL {p : Addr} {xs : List V} {i : Int} (e : SqL K H p xs) (l : atI xs i = some v) (h : Q v H) : rIxL K (.ref p) (.int i) H Q := ⟨p, xs, i, v, rfl, rfl, e, l, h⟩
theorem n_len {p : Addr} {xs : List V} (e : SqL K H p xs ∨ SqT K H p xs) (h : Q (.int xs.length) H) : ∃ p' ys, [V.ref p] = [.ref p'] ∧ (SqL K H p' ys ∨ SqT K H p' ys) ∧ Q (.int ys.length) H := ⟨p, xs, rfl, e, h⟩
theorem n_isi {t : Value} {n : String} {b : Bool} (ty : TyX K H x t) (k : PySem.W.kitOne K t (.type n) = some b) (h : Q (.bl b) H) : rIsi K [x, .ty n] H Q := ⟨x, .ty n, t, .type n, b, rfl, ClsV.ty _, ty, k, h⟩
theorem n_isN (h : Q (.bl (decide (x = .non))) H) : y = .non → (y = .non ∧ Q (.bl (decide (x = .non))) H) := fun e => ⟨e, h⟩
theorem n_sl {rr : V → Option Int → Option Int → Hp → VK → Prop} {tl th : TO} (h : te σ H fun x H1 => tl σ H1 fun l H2 => th σ H2 fun u H3 => rr x l u H3 Q) : tSl rr te tl th σ H Q := h
theorem n_part {Qo : Option Int → Hp → Prop} (h : te σ H fun x H1 => ∃ i, x = .int i ∧ Qo (some i) H1) : tPart te σ H Qo := h
theorem n_nopart {Qo : Option Int → Hp → Prop} (h : Qo none H) : tNoPart σ H Qo := h
theorem n_chain {r' : R2} {tc : TE} (h : ta σ H fun x H1 => tb σ H1 fun y H2 => r x y H2 fun z H3 => ∃ k, z = .bl k ∧ (if k = true then tc σ H3 fun w' H4 => r' y w' H4 Q else Q (.bl false) H3)) : tChain r r' ta tb tc σ H Q := h
theorem n_dget (h : ta σ H fun x H1 => tb σ H1 fun y H2 => ∃ a v, x = .ref a ∧ DGet H2 a y (some v) ∧ Q v H2) : tDGet ta tb σ H Q := h
theorem n_dgetx {a : Addr} {kvs : List (Key × V)} {z : Str} (e : H a = some (.dK kvs)) (l : valV kvs (.inr z) = some v) (h : Q v H) : ∃ a' v, V.ref a = .ref a' ∧ DGet H a' (.str z) (some v) ∧ Q v H :=
  ⟨a, v, rfl, by rw [← l]; exact DGet.k (k := Sum.inr z) e, h⟩
theorem n_meth {C : Addr} {m : Str} {sp : Sp} {dvs : List V} {E : XK} (h : ta σ H fun x H1 => ∃ a dx fs, x = .ref a ∧ H1 a = some (.ins C dx fs) ∧ fs.lookup m = none ∧ tr σ H1 fun vs H2 => sp (x :: (vs ++ dvs)) H2 Q E) : tMeth C m sp dvs E ta tr σ H Q := h
theorem n_methx {a C dx : Addr} {fs : List (Str × V)} {m : Str} {P : Prop} (e : H a = some (.ins C dx fs)) (l : fs.lookup m = none) (h : P) : ∃ a' dx fs, V.ref a = .ref a' ∧ H a' = some (.ins C dx fs) ∧ fs.lookup m = none ∧ P := ⟨a, dx, fs, rfl, e, l, h⟩
theorem n_bm {T : String} {rr : V → List V → Hp → VK → Prop} (h : ta σ H fun x H1 => tyV K T x H1 ∧ tr σ H1 fun xs H2 => rr x xs H2 Q) : tBM K T rr ta tr σ H Q := h
theorem n_bm0 {T : String} {rr : V → List V → Hp → VK → Prop} (h : ta σ H fun x H1 => tyV K T x H1 ∧ rr x [] H1 Q) : tBM0 K T rr ta σ H Q := h
theorem n_sfld {f : Str} (h : tv σ H fun y H1 => ta σ H1 fun x H2 => ∃ a C dx fs, x = .ref a ∧ H2 a = some (.ins C dx fs) ∧ Cls K C ∧ NoAttr K C f ∧ fs.length < 1000 ∧ D.nx σ (upd H2 a (.ins C dx (putF f y fs)))) : sFld K ta tv f D σ H := h
theorem n_sfldx {f : Str} {a C dx : Addr} {fs : List (Str × V)} (e : H a = some (.ins C dx fs)) (cl : Cls K C) (no : NoAttr K C f) (l : fs.length < 1000) (h : D.nx σ (upd H a (.ins C dx (putF f y fs)))) :
    ∃ a' C dx fs, V.ref a = .ref a' ∧ H a' = some (.ins C dx fs) ∧ Cls K C ∧ NoAttr K C f ∧ fs.length < 1000 ∧ D.nx σ (upd H a' (.ins C dx (putF f y fs))) := ⟨a, C, dx, fs, rfl, e, cl, no, l, h⟩
theorem n_lty {p : Addr} {xs : List V} (e : H p = some (.lst xs)) : tyV K "list" (.ref p) H := Or.inl ⟨rfl, _, Or.inl (Or.inl e)⟩
end
/-! ### a house's fields -/
section
variable {own : V} {l d : Addr} {t : Nat} {r : Bool} {n : Int}
theorem lk1 {k : Str} {v : V} {q : List (Str × V)} : List.lookup k ((k, v) :: q) = some v := by
  have e : (k == k) = true := beq_self_eq_true k
  simp only [List.lookup, e]
theorem lk2 {k g : Str} {v : V} {q : List (Str × V)} {o : Option V} (h : (k == g) = false) (e : List.lookup k q = o) : List.lookup k ((g, v) :: q) = o := by
  simp only [List.lookup, h]
  exact e
theorem hF_name : (hF own l t r d).lookup ("name" : Str) = some (.str "me") := lk1
theorem hF_own : (hF own l t r d).lookup ("own" : Str) = some own := lk2 (by decide +kernel) lk1
theorem hF_kept : (hF own l t r d).lookup ("kept" : Str) = some (.ref l) := lk2 (by decide +kernel) (lk2 (by decide +kernel) lk1)
theorem hF_sure : (hF own l t r d).lookup ("sure" : Str) = some (.int (t : Int)) := lk2 (by decide +kernel) (lk2 (by decide +kernel) (lk2 (by decide +kernel) lk1))
theorem hF_able : (hF own l t r d).lookup ("able" : Str) = some (.bl r) := lk2 (by decide +kernel) (lk2 (by decide +kernel) (lk2 (by decide +kernel) (lk2 (by decide +kernel) lk1)))
theorem hF_asks : (hF own l t r d).lookup ("asks" : Str) = some (.ref d) := lk2 (by decide +kernel) (lk2 (by decide +kernel) (lk2 (by decide +kernel) (lk2 (by decide +kernel) (lk2 (by decide +kernel) lk1))))
theorem cF_number : (cF n l).lookup ("number" : Str) = some (.int n) := lk1
theorem cF_houses : (cF n l).lookup ("houses" : Str) = some (.ref l) := lk2 (by decide +kernel) lk1
/-- a name that is no field -/
def noF (m : Str) : Bool := !(m == ("name" : Str)) && (!(m == ("own" : Str)) && (!(m == ("kept" : Str)) && (!(m == ("sure" : Str)) && (!(m == ("able" : Str)) && (!(m == ("asks" : Str)) && (!(m == ("number" : Str)) && !(m == ("houses" : Str))))))))
theorem hF_no {m : Str} (h : noF m = true) : (hF own l t r d).lookup m = none := by
  unfold noF at h
  simp only [Bool.and_eq_true, Bool.not_eq_true'] at h
  obtain ⟨h1, h2, h3, h4, h5, h6, _⟩ := h
  exact lk2 h1 (lk2 h2 (lk2 h3 (lk2 h4 (lk2 h5 (lk2 h6 rfl)))))
theorem cF_no {m : Str} (h : noF m = true) : (cF n l).lookup m = none := by
  unfold noF at h
  simp only [Bool.and_eq_true, Bool.not_eq_true'] at h
  obtain ⟨_, _, _, _, _, _, h1, h2⟩ := h
  exact lk2 h1 (lk2 h2 rfl)
theorem put1 {f : Str} {v x : V} {q : List (Str × V)} : putF f v ((f, x) :: q) = (f, v) :: q := if_pos rfl
theorem put2 {f g : Str} {v x : V} {q q' : List (Str × V)} (h : ¬ g = f) (e : putF f v q = q') : putF f v ((g, x) :: q) = (g, x) :: q' := by rw [← e]; exact if_neg h
theorem put_own {o : V} : putF "own" o (hF own l t r d) = hF o l t r d := put2 (by decide +kernel) put1
theorem put_sure {k : Nat} : putF "sure" (.int (k : Int)) (hF own l t r d) = hF own l k r d := put2 (by decide +kernel) (put2 (by decide +kernel) (put2 (by decide +kernel) put1))
theorem put_able {b : Bool} : putF "able" (.bl b) (hF own l t r d) = hF own l t b d := put2 (by decide +kernel) (put2 (by decide +kernel) (put2 (by decide +kernel) (put2 (by decide +kernel) put1)))
theorem put_asks {e : Addr} : putF "asks" (.ref e) (hF own l t r d) = hF own l t r e := put2 (by decide +kernel) (put2 (by decide +kernel) (put2 (by decide +kernel) (put2 (by decide +kernel) (put2 (by decide +kernel) put1))))
theorem new_h : putF "asks" (.ref d) (putF "able" (.bl false) (putF "sure" (.int 0) (putF "kept" (.ref l) (putF "own" .non (putF "name" (.str "me") []))))) = hF .non l 0 false d := by
  show putF "asks" (.ref d) (putF "able" (.bl false) (putF "sure" (.int 0) (putF "kept" (.ref l) (putF "own" .non [("name", .str "me")])))) = _
  rw [put2 (q' := [("own", V.non)]) (by decide +kernel) rfl, put2 (q' := [("own", V.non), ("kept", V.ref l)]) (by decide +kernel) (put2 (by decide +kernel) rfl),
    put2 (q' := [("own", V.non), ("kept", V.ref l), ("sure", V.int 0)]) (by decide +kernel) (put2 (by decide +kernel) (put2 (by decide +kernel) rfl)),
    put2 (q' := [("own", V.non), ("kept", V.ref l), ("sure", V.int 0), ("able", V.bl false)]) (by decide +kernel) (put2 (by decide +kernel) (put2 (by decide +kernel) (put2 (by decide +kernel) rfl))),
    put2 (q' := [("own", V.non), ("kept", V.ref l), ("sure", V.int 0), ("able", V.bl false), ("asks", V.ref d)]) (by decide +kernel) (put2 (by decide +kernel) (put2 (by decide +kernel) (put2 (by decide +kernel) (put2 (by decide +kernel) rfl))))]
  rfl
theorem new_c : putF "houses" (.ref l) (putF "number" (.int n) []) = cF n l := put2 (by decide +kernel) rfl
end
/-! ### the led house's entries -/
section
variable {cv : V} {l d : Addr} {t : Nat} {r : Bool} {κ : Type} [DecidableEq κ]
theorem vk1 {k : κ} {v : V} {q : List (κ × V)} : valV ((k, v) :: q) k = some v := by simp [valV]
theorem vk2 {k g : κ} {v : V} {q : List (κ × V)} {o : Option V} (h : g ≠ k) (e : valV q k = o) : valV ((g, v) :: q) k = o := by
  rw [← e]
  simp [valV, h]
theorem kne {a b : Str} (h : (a == b) = false) : (Sum.inr a : Key) ≠ Sum.inr b := fun e => by
  have q := Sum.inr.inj e
  rw [q, beq_self_eq_true] at h
  cases h
theorem mF_name : valV (mF cv l t r d) (.inr "name") = some (.str "me") := vk1
theorem mF_chain : valV (mF cv l t r d) (.inr "chain") = some cv := vk2 (kne (by decide +kernel)) vk1
theorem mF_log : valV (mF cv l t r d) (.inr "log") = some (.ref l) := vk2 (kne (by decide +kernel)) (vk2 (kne (by decide +kernel)) vk1)
theorem mF_told : valV (mF cv l t r d) (.inr "told") = some (.int (t : Int)) := vk2 (kne (by decide +kernel)) (vk2 (kne (by decide +kernel)) (vk2 (kne (by decide +kernel)) vk1))
theorem mF_ready : valV (mF cv l t r d) (.inr "ready") = some (.bl r) := vk2 (kne (by decide +kernel)) (vk2 (kne (by decide +kernel)) (vk2 (kne (by decide +kernel)) (vk2 (kne (by decide +kernel)) vk1)))
theorem mF_asks : valV (mF cv l t r d) (.inr "asks") = some (.ref d) := vk2 (kne (by decide +kernel)) (vk2 (kne (by decide +kernel)) (vk2 (kne (by decide +kernel)) (vk2 (kne (by decide +kernel)) (vk2 (kne (by decide +kernel)) vk1))))
theorem pu1 {k : κ} {v x : V} {q : List (κ × V)} (h : ∀ p ∈ q, p.1 ≠ k) : putK ((k, x) :: q) k v = (k, v) :: q := by
  unfold putK
  rw [if_pos (by simp)]
  show (if k = k then (k, v) else (k, x)) :: q.map _ = _
  rw [if_pos rfl]
  congr 1
  have : ∀ l : List (κ × V), (∀ p ∈ l, p.1 ≠ k) → l.map (fun kv => if kv.1 = k then (kv.1, v) else kv) = l := fun l => by
    induction l with
    | nil => intro _; rfl
    | cons a r ih =>
      intro h
      rw [List.map_cons, if_neg (h a (by simp)), ih fun p m => h p (List.mem_cons_of_mem _ m)]
  exact this q h
theorem pu2 {k g : κ} {v x : V} {q q' : List (κ × V)} (h : g ≠ k) (hs : (q.any fun kv => decide (kv.1 = k)) = true) (e : putK q k v = q') : putK ((g, x) :: q) k v = (g, x) :: q' := by
  rw [← e]
  unfold putK
  rw [if_pos (by rw [List.any_cons, hs, Bool.or_true]), if_pos hs, List.map_cons, if_neg h]
end
end Ck

/-! Chain kept: comprehensions whose elements change nothing. -/
namespace Ck
open PySem PySem.Spec PyProof.Rows L2
theorem Tups.upd {H : Hp} {D : Addr} {xs : List V} {o : HO} (h : H D = some (.lst xs)) : Tups H (L2.upd H D o) := fun a ys e => by
  rw [upd_ne (fun q => by rw [q, h] at e; cases e)]
  exact e
theorem Tups.updN {H : Hp} {D : Addr} {o : HO} (h : H D = none) : Tups H (L2.upd H D o) := Tups.ofSame (Same.new h)
/-- what an element is, whatever changes but tuples -/
def Keeps (R : Nat → V → Hp → Prop) : Prop := ∀ j v H2 H3, R j v H2 → Tups H2 H3 → R j v H3
/-- what a comprehension asks once its list is there -/
def LcG (J : It) (i : Nat) (te : TE) (own : List Nat) (σ : L2.St) (Q : VK) (H1 : Hp) : Prop :=
  ∀ D, H1 D = none → ∃ W : Nat → Nat → Hp → Prop, (∃ m, W 0 m (upd H1 D (.lst []))) ∧ ∀ i' m H, W i' m H →
      (J.stop i' H ∧ Q (.ref D) H) ∨ (J.go i' H ∧ ∃ Nx : Hp → Prop, (∀ H', Nx H' → ∃ m', m' < m ∧ W (i' + 1) m' H') ∧ ∀ x H', J.yld i' H x H' → gName i x (wipe σ own) H' fun σ2 H2 => wipe σ2 own = wipe σ own ∧ tYes σ2 H2 fun b H3 =>
        if b = true then te σ2 H3 fun y H4 => ∃ acc, H4 D = some (.lst acc) ∧ acc.length < sizeLine ∧ Nx (upd H4 D (.lst (acc ++ [y]))) else Nx H3)
section
variable {K : PySem.W.Frag} {σ : L2.St} {H H1 : Hp} {Q : VK} {ta te : TE} {i : Nat} {own : List Nat}
theorem n_lc (h : ta σ H fun x H1 => ∃ a, x = .ref a ∧ (∃ xs, SqL K H1 a xs) ∧ LcG (Itl K a) i te own σ Q H1) : tLc (iList K ta) (gName i) tYes te own σ H Q := h
theorem n_lcT (h : ta σ H fun x H1 => ∃ a, x = .ref a ∧ (∃ xs, SqT K H1 a xs) ∧ LcG (Itt K a) i te own σ Q H1) : tLc (iTup K ta) (gName i) tYes te own σ H Q := h
theorem n_lcS (h : ta σ H fun v H1 => ∃ x, v = .str x ∧ LcG (Its x) i te own σ Q H1) : tLc (iStr ta) (gName i) tYes te own σ H Q := h
theorem n_iL {R : It → Hp → Prop} (h : ta σ H fun x H1 => ∃ a, x = .ref a ∧ (∃ xs, SqL K H1 a xs) ∧ R (Itl K a) H1) : iList K ta σ H R := h
theorem n_iE {R : It → Hp → Prop} {tr : TA} (h : tr σ H fun vs H1 => ∃ a xs, vs = [.ref a] ∧ SqL K H1 a xs ∧ R (Ite K a) H1) : iEnum K tr σ H R := h
theorem n_iR {R : It → Hp → Prop} {tr : TA} (h : tr σ H fun vs H1 => ∃ j : Int, vs = [.int j] ∧ -(2 ^ 62) ≤ j ∧ j < 2 ^ 62 ∧ R (Itr 0 j.toNat) H1) : iRng1 tr σ H R := h
theorem n_gTup {n : Nat} {gs : TGs} {v : V} {Qn : L2.St → Hp → Prop} (h : ∃ a xs, v = .ref a ∧ SqT K H a xs ∧ xs.length = n ∧ gs xs σ H Qn) : gTup K n gs v σ H Qn := h
theorem n_gCons {g : TG} {gs : TGs} {v : V} {vs : List V} {Qn : L2.St → Hp → Prop} (h : g v σ H fun σ' H' => gs vs σ' H' Qn) : gCons g gs (v :: vs) σ H Qn := ⟨v, vs, rfl, h⟩
theorem n_gNil {Qn : L2.St → Hp → Prop} (h : Qn σ H) : gNil [] σ H Qn := ⟨rfl, h⟩
/-- one more element -/
theorem lc_more {R : Nat → V → Hp → Prop} (kR : Keeps R) {H2 H3 : Hp} {D : Addr} {ys : List V} {j : Nat} {v : V} (s2 : Same H1 H2) (h2 : H2 D = some (.lst ys)) (hl : ys.length = j) (hR : ∀ m y, ys[m]? = some y → R m y H2) (hD : H1 D = none)
    (s3 : Same H2 H3) (r : R j v H3) (hj : j < 100000) : ∃ acc, H3 D = some (.lst acc) ∧ acc.length < sizeLine ∧ (Same H1 (upd H3 D (.lst (acc ++ [v]))) ∧ ∃ ys, (upd H3 D (.lst (acc ++ [v]))) D = some (.lst ys) ∧ ys.length = j + 1 ∧ ∀ m y, ys[m]? = some y → R m y (upd H3 D (.lst (acc ++ [v])))) := by
  have h3 := s3 _ _ h2
  refine ⟨ys, h3, Nat.lt_trans (m := 100000) (by omega) (by decide), Same.put (s2.trans s3) hD, ys ++ [v], upd_same, by rw [List.length_append, hl]; rfl, fun m y e => ?_⟩
  by_cases hm : m < ys.length
  · rw [List.getElem?_append_left hm] at e
    exact kR m y _ _ (hR m y e) ((Tups.ofSame s3).trans (Tups.upd h3))
  · rw [List.getElem?_append_right (by omega)] at e
    have hm2 : m - ys.length = 0 := by
      have := (List.getElem?_eq_some_iff.mp e).1
      simp at this
      omega
    rw [hm2] at e
    have e2 : v = y := by simpa using e
    have e3 : m = j := by omega
    rw [← e2, e3]
    exact kR j v _ _ r (Tups.upd h3)
theorem lcg_list {a : Addr} {xs : List V} (R : Nat → V → Hp → Prop) (hx : H1 a = some (.lst xs)) (hz : xs.length < 100000) (hw : ∀ x, wipe ((wipe σ own).set i (some x)) own = wipe σ own) (kR : Keeps R)
    (el : ∀ j x, xs[j]? = some x → ∀ H2, Same H1 H2 → ∀ Qe : VK, (∀ v H3, Same H2 H3 → R j v H3 → Qe v H3) → te ((wipe σ own).set i (some x)) H2 Qe)
    (k : ∀ D H2 ys, H1 D = none → Same H1 H2 → H2 D = some (.lst ys) → ys.length = xs.length → (∀ j y, ys[j]? = some y → R j y H2) → Q (.ref D) H2) : LcG (Itl K a) i te own σ Q H1 := by
  intro D hD
  refine lc_list (K := K) (a := a) (xs := xs) (fun j H2 => Same H1 H2 ∧ ∃ ys, H2 D = some (.lst ys) ∧ ys.length = j ∧ ∀ m y, ys[m]? = some y → R m y H2) ⟨Same.new hD, [], upd_same, rfl, fun m y e => by simp at e⟩
    (fun j H2 _ p => .inl (.inl (p.1 _ _ hx))) ?_ ?_
  · rintro j x H2 hj ⟨s2, ys, h2, hl, hR⟩
    refine ⟨hw x, ?_⟩
    have := (List.getElem?_eq_some_iff.mp hj).1
    exact el j x hj H2 s2 _ fun v H3 s3 r => lc_more kR s2 h2 hl hR hD s3 r (by omega)
  · rintro H2 ⟨s2, ys, h2, hl, hR⟩
    exact k D H2 ys hD s2 h2 hl hR
theorem lcg_tup {a : Addr} {xs : List V} (R : Nat → V → Hp → Prop) (hx : H1 a = some (.tup xs)) (hz : xs.length < 100000) (hw : ∀ x, wipe ((wipe σ own).set i (some x)) own = wipe σ own) (kR : Keeps R)
    (el : ∀ j x, xs[j]? = some x → ∀ H2, Same H1 H2 → ∀ Qe : VK, (∀ v H3, Same H2 H3 → R j v H3 → Qe v H3) → te ((wipe σ own).set i (some x)) H2 Qe)
    (k : ∀ D H2 ys, H1 D = none → Same H1 H2 → H2 D = some (.lst ys) → ys.length = xs.length → (∀ j y, ys[j]? = some y → R j y H2) → Q (.ref D) H2) : LcG (Itt K a) i te own σ Q H1 := by
  intro D hD
  refine lc_tup (K := K) (a := a) (xs := xs) (fun j H2 => Same H1 H2 ∧ ∃ ys, H2 D = some (.lst ys) ∧ ys.length = j ∧ ∀ m y, ys[m]? = some y → R m y H2) ⟨Same.new hD, [], upd_same, rfl, fun m y e => by simp at e⟩
    (fun j H2 _ p => .inl (.inl (p.1 _ _ hx))) ?_ ?_
  · rintro j x H2 hj ⟨s2, ys, h2, hl, hR⟩
    refine ⟨hw x, ?_⟩
    have := (List.getElem?_eq_some_iff.mp hj).1
    exact el j x hj H2 s2 _ fun v H3 s3 r => lc_more kR s2 h2 hl hR hD s3 r (by omega)
  · rintro H2 ⟨s2, ys, h2, hl, hR⟩
    exact k D H2 ys hD s2 h2 hl hR
theorem lcg_str {z : Str} (R : Nat → V → Hp → Prop) (hz : z.cps.size < 100000) (hw : ∀ x, wipe ((wipe σ own).set i (some x)) own = wipe σ own) (kR : Keeps R)
    (el : ∀ j c, z.cps[j]? = some c → ∀ H2, Same H1 H2 → ∀ Qe : VK, (∀ v H3, Same H2 H3 → R j v H3 → Qe v H3) → te ((wipe σ own).set i (some (.str ⟨#[c]⟩))) H2 Qe)
    (k : ∀ D H2 ys, H1 D = none → Same H1 H2 → H2 D = some (.lst ys) → ys.length = z.cps.size → (∀ j y, ys[j]? = some y → R j y H2) → Q (.ref D) H2) : LcG (Its z) i te own σ Q H1 := by
  intro D hD
  refine ⟨fun j m H2 => m = z.cps.size - j ∧ j ≤ z.cps.size ∧ (Same H1 H2 ∧ ∃ ys, H2 D = some (.lst ys) ∧ ys.length = j ∧ ∀ m y, ys[m]? = some y → R m y H2),
    ⟨z.cps.size, rfl, Nat.zero_le _, Same.new hD, [], upd_same, rfl, fun m y e => by simp at e⟩, ?_⟩
  rintro j m H2 ⟨rfl, hj, s2, ys, h2, hl, hR⟩
  by_cases hlt : j < z.cps.size
  · refine .inr ⟨hlt, fun H' => j + 1 ≤ z.cps.size ∧ (Same H1 H' ∧ ∃ ys, H' D = some (.lst ys) ∧ ys.length = j + 1 ∧ ∀ m y, ys[m]? = some y → R m y H'), fun H' p => ⟨z.cps.size - (j + 1), by omega, rfl, p.1, p.2⟩, ?_⟩
    rintro x H' ⟨rfl, c, hc, rfl⟩
    refine ⟨hw _, ?_⟩
    refine el j c hc H' s2 _ fun v H3 s3 r => ?_
    obtain ⟨acc, a1, a2, a3⟩ := lc_more kR s2 h2 hl hR hD s3 r (by omega)
    exact ⟨acc, a1, a2, hlt, a3⟩
  · exact .inl ⟨Nat.le_of_not_lt hlt, k D H2 ys hD s2 h2 (by omega) hR⟩
end
section
variable {X : Cx}
/-- within a comprehension: the written part by its name -/
theorem fldK (K : PySem.W.Frag) {e : Expr} {ta : TE} {f : Str} {pos : Pos} (he : PE X e ta) (hb : attributeBase e f X.env (eval e X.env) = eval e X.env := by rfl) (hK : X.K = K := by rfl) : PE X (.Attribute e f pos) (tFld K ta f) := by
  subst hK
  exact pe_fld he hb
theorem ixTK (K : PySem.W.Frag) {a b : Expr} {ta tb : TE} {pos : Pos} (ha : PE X a ta) (hb : PE X b tb) (hs : PlainIx b) (hK : X.K = K := by rfl) : PE X (.Subscript a b pos) (tOp (rIxT K) ta tb) := by
  subst hK
  exact pe_ix ix_tup ha hb hs
theorem ixLK (K : PySem.W.Frag) {a b : Expr} {ta tb : TE} {pos : Pos} (ha : PE X a ta) (hb : PE X b tb) (hs : PlainIx b) (hK : X.K = K := by rfl) : PE X (.Subscript a b pos) (tOp (rIxL K) ta tb) := by
  subst hK
  exact pe_ix ix_list ha hb hs
end
/-- a list of these -/
theorem lst_of {ys xs : List V} (hl : ys.length = xs.length) (h : ∀ (j : Nat) (y : V), ys[j]? = some y → xs[j]? = some y) : ys = xs := by
  refine List.ext_getElem? fun j => ?_
  cases e : ys[j]? with
  | some y => exact (h j y e).symm
  | none =>
    have := List.getElem?_eq_none_iff.mp e
    exact (List.getElem?_eq_none_iff.mpr (by omega)).symm
theorem tds_of {H : Hp} : ∀ {ds : List PyData} {ys : List V}, ys.length = ds.length → (∀ (j : Nat) (y : V), ys[j]? = some y → ∃ d, ds[j]? = some d ∧ TD H y d) → TDs H ys ds
  | [], [], _, _ => .nil
  | [], _ :: _, h, _ => by simp at h
  | _ :: _, [], h, _ => by simp at h
  | d :: ds, y :: ys, h, k => by
    obtain ⟨d', e, t⟩ := k 0 y rfl
    have e2 : d = d' := by simpa using e
    rw [← e2] at t
    exact .cons t (tds_of (by simpa using h) fun j y' e => by
      obtain ⟨d2, e3, t2⟩ := k (j + 1) y' (by simpa using e)
      exact ⟨d2, by simpa using e3, t2⟩)
/-- the j-th of ds -/
def Rds (ds : List PyData) (j : Nat) (v : V) (H : Hp) : Prop := ∃ d, ds[j]? = some d ∧ TD H v d
theorem rds_keeps {ds : List PyData} : Keeps (Rds ds) := fun j v H2 H3 ⟨d, e, t⟩ tu => ⟨d, e, TD.to tu t⟩
theorem ld_of {H : Hp} {D : Addr} {ds : List PyData} {ys : List V} (h : H D = some (.lst ys)) (hl : ys.length = ds.length) (k : ∀ (j : Nat) (y : V), ys[j]? = some y → Rds ds j y H) : LD H D ds := ⟨ys, h, tds_of hl k⟩
def Rvs (xs : List V) (j : Nat) (v : V) (_ : Hp) : Prop := xs[j]? = some v
theorem rvs_keeps {xs : List V} : Keeps (Rvs xs) := fun _ _ _ _ e _ => e
end Ck

/-! Chain kept: four rules of Python that lacked. -/
namespace Ck
open PySem PySem.Spec PyProof.Rows L2
/-! ### list.extend(a tuple) -/
theorem ext_tup (l : Addr) (us : Array Value) (n : Nat) (b : Addr) (vs : Array Value) (m : Nat) (dd : Option Addr) (sl : Array (Option Value)) (h1 : ¬(!us.isEmpty && Builtin.List.listTooLong (us.size + vs.size)) = true) (h2 : us.size ≤ sizeLine) (h3 : us.size + vs.size ≤ sizeLine + 1) :
    Meets (Builtin.«list.extend» ⟨[.ref l, .ref b], []⟩) (fun _ R s => s.heap.get? l = some { cls := .type "list", dict := none, data := .seq us n, slots := #[] } ∧ s.heap.get? b = some { cls := .type "tuple", dict := dd, data := .seq vs m, slots := sl } ∧
      R (.ok (.ret Value.none)) { s with heap := s.heap.update l (Obj.mapSeq fun x => x ++ vs), toks := s.toks }) :=
  .of_wp fun prog w A R s h => by
    obtain ⟨hp, gg, dr, tk, os⟩ := s
    obtain ⟨a1, a2, a3⟩ := h
    have q1 := AutoSeq1.idx_int
    have q2 := AutoSeq1.sub_tuple_tuple
    have q3 := AutoSeq1.sub_list_list
    have q4 := AutoSeq1.sub_tuple_list
    have q5 := AutoSeq1.sub_list_tuple
    have q6 : (us ++ vs).size ≤ sizeLine + 1 := by rw [Array.size_append]; exact h3
    wp_walk using (wpAny_updateSeq a1 rfl (hz := h2) (_hz' := q6)), AutoSeq1.wpAny_loadPart' a1, AutoSeq1.wpAny_loadPart' a2
    exact ⟨_, rfl, a3⟩
def rExtT (K : PySem.W.Frag) : V → List V → Hp → VK → Prop := fun x vs H Q => ∃ l b xs zs, x = .ref l ∧ vs = [.ref b] ∧ H l = some (.lst xs) ∧ SqT K H b zs ∧ xs.length + zs.length ≤ sizeLine ∧ Q .non (upd H l (.lst (xs ++ zs)))
section
variable {X : Cx}
theorem mt_extendT : MtM X "list.extend" (rExtT X.K) := by
  intro pins s σ H x vs v us Q I rx rv h
  obtain ⟨l, b, xs, zs, rfl, rfl, a1, a2, a3, q⟩ := h
  cases rx
  obtain ⟨u, rfl, ru⟩ := rv.one
  cases ru
  obtain ⟨z, its, n, r, hl, e⟩ := I.lstM a1
  obtain ⟨ts, r2, ⟨⟨oc, od, ot, os⟩, e2, c2, m, d2⟩, z2⟩ := I.tuple a2
  simp only at c2 d2
  subst c2 d2
  have l2 := r2.length
  have sz : its.toArray.size + ts.toArray.size ≤ sizeLine := by rw [List.size_toArray, List.size_toArray]; omega
  have nl : ¬ (!its.toArray.isEmpty && Builtin.List.listTooLong (its.toArray.size + ts.toArray.size)) = true := by
    rw [notLongL sz, Bool.and_false]
    exact Bool.false_ne_true
  refine call_meets F.slot_list_extend ⟨_, e, rfl⟩ F.entry_list_extend (F.args_list_extend_2 _ _) (ext_tup l its.toArray n b ts.toArray m od os nl (by rw [List.size_toArray]; omega) (by omega)) ⟨e, e2, ?_⟩
  refine ⟨.non, _, I.lset (its' := its ++ ts) a1 e (by simp) (r.append r2) ?_, rfl, q⟩
  rw [List.length_append]
  omega
/-! ### list.count of True, False -/
def bk (k : Bool) (v : Value) : Bool := match v with
  | .bool b => b == k
  | _ => false
theorem bk_at {k : Bool} {s : Shared} {A : Around} : ∀ {bs : List Bool} {us : List Value}, Vals (bs.map V.bl) us → ∀ y ∈ us, SeqAt.EqAt A s y (.bool k) (bk k y)
  | [], _, .nil => fun y hy => by cases hy
  | b :: bs, _, .cons r t => fun y hy => by
    rcases List.mem_cons.mp hy with e | e
    · have r2 : _ = Value.bool b := r
      rw [e, r2]
      exact SeqAt.EqAt.bool_bool b k
    · exact bk_at t y e
theorem bk_count {k : Bool} : ∀ {bs : List Bool} {us : List Value}, Vals (bs.map V.bl) us → us.countP (bk k) = bs.count k
  | [], _, .nil => rfl
  | b :: bs, _, .cons r t => by
    have r2 : _ = Value.bool b := r
    rw [List.countP_cons, List.count_cons, bk_count t, r2]
    rfl
def rCntB (K : PySem.W.Frag) : V → List V → Hp → VK → Prop := fun x xs H Q => ∃ (p : Addr) (bs : List Bool) (k : Bool), x = .ref p ∧ xs = [.bl k] ∧ SqL K H p (bs.map V.bl) ∧ Q (.int (bs.count k : Nat)) H
theorem mt_countB : MtR X "list.count" (rCntB X.K) := by
  intro pins s σ H x xs v us Q I rx rxs h
  obtain ⟨p, bs, k, rfl, rfl, hs, q⟩ := h
  cases rx
  obtain ⟨u, rfl, ru⟩ := rxs.one
  have eu : u = Value.bool k := ru
  subst eu
  obtain ⟨its, rv, ⟨⟨oc, od, ot, os⟩, n, ho, c1, _, d1⟩, _⟩ := I.list hs
  simp only at c1 d1
  subst c1 d1
  refine call_meets PySem.F.slot_list_count ⟨_, ho, rfl⟩ PySem.F.entry_list_count (PySem.F.args_list_count_2 _ _) (SeqAt.list_countAt p its.toArray n od os (.bool k) (bk k)) ⟨ho, fun y hy => bk_at rv y (by simpa using hy), ?_⟩
  have e : its.toArray.toList.countP (bk k) = bs.count k := bk_count rv
  exact ⟨.int (bs.count k : Nat), H, I.tok _, ⟨s.toks, by rw [e]⟩, q⟩
/-! ### T.get(k, x), T a table that the top has written -/
def tKGet (K : PySem.W.Frag) (d : Addr) (td ty tx : TE) : TE := fun σ H Q => td σ H fun x H1 => x = .ref d ∧ ty σ H1 fun y H2 => tx σ H2 fun z H3 => ∃ (k : Str) (v : V) (u : Value), y = .str k ∧ PySem.W.nsIn K d k = some (some u) ∧ RelV v u ∧ Q v H3
theorem n_kget {σ : L2.St} {H : Hp} {Q : VK} {K : PySem.W.Frag} {d : Addr} {td ty tx : TE} (h : td σ H fun x H1 => x = .ref d ∧ ty σ H1 fun y H2 => tx σ H2 fun z H3 => ∃ (k : Str) (v : V) (u : Value), y = .str k ∧ PySem.W.nsIn K d k = some (some u) ∧ RelV v u ∧ Q v H3) : tKGet K d td ty tx σ H Q := h
theorem pe_kget {d : Addr} {es : Array DictEntry} {n : Nat} {o e f : Expr} {td ty tx : TE} {apos cpos : Pos} (D : KDict X.K X.w d es n) (ho : PE X o td) (he : PE X e ty) (hf : PE X f tx) (m : M2 X o "get" apos e f cpos) :
    PE X (.Call (.Attribute o "get" apos) [e, f] [] cpos) (tKGet X.K d td ty tx) := by
  refine ⟨fun pins s σ H Q I h => ?_⟩
  refine wpAny_Call_method m.base m.few m.line PySem.F.plainAttrs_dict PySem.F.slot_dict_get PySem.F.type_dict_get (thn (ho.run pins s σ H _ I h) fun u s1 ⟨x, H1, I1, rx, ex, q1⟩ => ?_)
  subst ex
  obtain rfl : u = Value.ref d := rx
  have hm := PySem.W.mapOf_K (prog := X.prog) (w := X.w) I1.kIn D.at_ D.lit
  refine ⟨⟨_, I1.kIn _ _ D.at_, rfl⟩, fun a ea => ?_, ?_⟩
  · cases ea
    exact ⟨_, I1.kIn _ _ D.at_, rfl⟩
  rw [m.trees]
  refine Calls.callWith_builtin rfl (Calls.evalArgs_plain (Calls.spliced_cons (thn (he.run pins s1 σ H1 _ I1 q1) fun iv s2 ⟨y, H2, I2, ry, q2⟩ =>
    Calls.spliced_cons (thn (hf.run pins s2 σ H2 _ I2 q2) fun fv s3 ⟨z, H3, I3, rz, k, v, u, ey, en, ru, q3⟩ => Calls.spliced_nil ?_))))
  subst ey
  obtain ⟨t, rfl⟩ := ry
  have hm3 := PySem.W.mapOf_K (prog := X.prog) (w := X.w) I3.kIn D.at_ D.lit
  refine call_meetsIn PySem.F.slot_dict_get hm3.typeIs PySem.F.entry_dict_get (PySem.F.args_dict_get_3 _ _ _) (meets_dict_get_default (strKind X.prog X.w) d (strKind_is X.prog X.w k t) D.low fv) ⟨_, hm3, ?_⟩
  rw [PySem.W.find_K D.at_ en]
  exact ⟨v, H3, I3.tok _, ru, q3⟩
end
/-! ### len(set(xs)), xs texts, no two alike -/
theorem nd_take {xs : List Str} (hn : xs.Nodup) {i : Nat} (hi : i < xs.length) : (xs.take i).any (· == xs[i]) = false := by
  refine Bool.eq_false_iff.mpr fun h => ?_
  obtain ⟨y, hy, ey⟩ := List.any_eq_true.mp h
  obtain ⟨j, hj, e⟩ := List.mem_take_iff_getElem.mp hy
  have e2 : y = xs[i] := eq_of_beq ey
  have e3 := (List.getElem_inj hn).mp (e.trans e2)
  omega
section
variable {prog : Program} {w : World} {A : Around}
theorem strs_into {I : Addr} {fp wr : List Addr} {G : Array GenState → Array GenState → Prop} {n : Nat} {Pv : Nat → Value → Prop} {St : Nat → Shared → Prop} {R : Result → Shared → Prop} (W : WalksS prog w A.in1 I fp wr G n Pv St) (S : Addr) (hS0 : S ∉ fp) (xs : List Str)
    (hsz : xs.length = n) (hnd : xs.Nodup) (hb : n + 1 < scanBound) (hv : ∀ i v, Pv i v → ∃ x t, xs[i]? = some x ∧ v = .str x t) : ∀ (k i : Nat) (s : Shared), k + i = n → St i s → s.heap.SetOf (PySem.strKind prog w) S (fun z => (xs.take i).any (· == z)) i →
      (∀ s', Moved (S :: wr) G s s' → s'.heap.SetOf (PySem.strKind prog w) S (fun z => (xs.take n).any (· == z)) n → R (.ok (.ret .none)) s') → codeAny (model prog w) A (.builtin "set.update.loop" ⟨[.ref S, .ref I], []⟩) R s
  | 0, i, s, hk, hst, hS, hR => by
    have hi : i = n := by omega
    subst hi
    refine codeAny_builtin PyProof.Rows.F.entry_set_update_loop ?_
    rw [Around.under_plainId PyProof.Rows.F.plain_set_update_loop _]
    show wpAny _ A.in1 (pyNext (.ref I) >>= _) _ _ s
    refine wpAny_bind (W.done s _ _ hst fun s' mv => ?_)
    show wpAny _ A.in1 (ret Value.none) _ _ s'
    refine wpAny_pure (hR s' (mv.mono fun b hb => List.mem_cons_of_mem _ hb) ?_)
    obtain ⟨o, es, ep, t, ho, r⟩ := hS
    exact ⟨o, es, ep, t, mv.heap S _ (fun q => hS0 (W.sub _ q)) ho, r⟩
  | k + 1, i, s, hk, hst, hS, hR => by
    have hi : i < n := by omega
    refine codeAny_builtin PyProof.Rows.F.entry_set_update_loop ?_
    rw [Around.under_plainId PyProof.Rows.F.plain_set_update_loop _]
    show wpAny _ A.in1 (pyNext (.ref I) >>= _) _ _ s
    refine wpAny_bind (W.item i s _ _ hi hst fun v s' hp st' mv => ?_)
    obtain ⟨x, t, hx, rfl⟩ := hv i v hp
    obtain ⟨hxl, hxe⟩ := List.getElem?_eq_some_iff.mp hx
    have hS1 : s'.heap.SetOf (PySem.strKind prog w) S (fun z => (xs.take i).any (· == z)) i := by
      obtain ⟨o, es, ep, tb, ho, r⟩ := hS
      exact ⟨o, es, ep, tb, mv.heap S _ (fun q => hS0 (W.sub _ q)) ho, r⟩
    show wpAny _ A.in1 (holding [Value.str x t] (setAdd S (.str x t)) >>= _) _ _ s'
    refine wpAny_bind (wpAny_holding ?_)
    unfold setAdd
    refine wpAny_holding ?_
    refine wpAny_bind ((PySem.strKind prog w).pyHash (k := x) (strKind_is _ _ _ _) ?_)
    refine wpAny_setAddHashed_of (knd := PySem.strKind prog w) (s := { s' with toks := s'.toks + 1 }) (strKind_is _ _ _ _) rfl hS1 (by omega) fun h' sb hS2 => ?_
    have no : (xs.take i).any (· == x) = false := by rw [← hxe]; exact nd_take hnd hxl
    have hS3 : h'.SetOf (PySem.strKind prog w) S (fun z => (xs.take (i + 1)).any (· == z)) (i + 1) := by
      refine PyProof.Rows.SetOf_congr hS2 (fun z => ?_) (by rw [no]; rfl)
      rw [List.take_add_one, hx, List.any_append]
      congr 1
      show decide (z = x) = [x].any (· == z)
      rw [List.any_cons, List.any_nil, Bool.or_false]
      by_cases e : z = x
      · rw [e, decide_eq_true rfl, beq_self_eq_true]
      · rw [decide_eq_false e]
        exact (beq_eq_false_iff_ne.mpr fun q => e q.symm).symm
    refine wpAny_pure ⟨plainId_quiet PyProof.Rows.F.plain_set_update_loop _, strs_into W S hS0 xs hsz hnd hb hv k (i + 1) _ (by omega) (W.frame _ s' _ _ st' (Nat.le_succ _) fun b hb o e => ?_) hS3 fun s2 mv2 hS4 => ?_⟩
    · rw [sb.2 b fun q => hS0 (by rw [← q]; exact hb)]
      exact e
    · refine hR s2 (Moved.trans W.gtrans ((mv.mono fun b hb => List.mem_cons_of_mem _ hb).then_heap (Nat.le_succ _) fun b o hb e => ?_) mv2) hS4
      rw [sb.2 b fun q => hb (by rw [q]; exact List.mem_cons_self)]
      exact e
end
end Ck

/-! Chain kept: len(set(a list of unlike texts)). -/
namespace Ck
open PySem PySem.Spec PyProof.Rows L2
abbrev set0 (led : Bool) : Obj := { cls := .type "set", dict := none, data := .set #[] 0 (.fresh 0 0 led) }
section
variable {prog : Program} {w : World} {A : Around} {E : Value → Shared → Prop} {s : Shared}
theorem set_strs {l : Addr} {us : Array Value} {xs : List Str} {Q : Value → Shared → Prop} (hh : A.handled = none) (hl : s.heap.IsList l us) (hv : ∀ (i : Nat) (v : Value), us[i]? = some v → ∃ x t, xs[i]? = some x ∧ v = .str x t) (hz : xs.length = us.size)
    (hnd : xs.Nodup) (hb : us.size + 1 < scanBound)
    (h : ∀ (h' : Heap) (tk : Nat), h'.SetOf (PySem.strKind prog w) s.heap.objs.size (fun z => (xs.take us.size).any (· == z)) us.size → (∀ b o, b < s.heap.objs.size → s.heap.get? b = some o → h'.get? b = some o) → Q (.ref s.heap.objs.size) { s with heap := h', toks := tk }) :
    wpAny (model prog w) A (call (.type "set") [.ref l]) Q E s := by
  obtain ⟨c0, t0, m0⟩ := PySem.F.called_set.mro
  have m1 := PySem.F.called_set.made
  have m2 := PySem.F.called_set.sub
  refine wpAny_call (codeAny_of_tree ?_)
  show wpAny _ _ (callAny (.type "set") _) _ _ _
  refine wpAny_pure ⟨Code.quiet_builtin _ (by decide +kernel), codeAny_builtin PySem.F.entry_type_call ?_⟩
  rw [Around.under_plain (weight_type_call_type "set" [.ref l] []) rfl]
  have m3 := PySem.F.called_set.notType
  have m4 := PySem.F.called_set.canCreate
  have m5 := PySem.F.typeCall_set_1 (.ref l)
  repeat any_goals first | assumption | wp_step
  refine codeAny_mono (code_set_new_1 (.ref l) (E := E) (Q₁ := fun ob s1 => ∃ led : Bool, ob = .ref s.heap.objs.size ∧ s1 = { s with heap := s.heap.push (set0 led) }) fun led => ⟨led, rfl, rfl⟩) fun r s1 hr => ?_
  cases r with
  | error e => exact hr
  | ok fl =>
    cases fl with
    | ret ob =>
      obtain ⟨led, rfl, rfl⟩ := hr
      have g1 : (s.heap.push (set0 led)).get? s.heap.objs.size = some (set0 led) := Heap.get?_push_size _ rfl
      have g2 : Shared.TypeIs { s with heap := s.heap.push (set0 led) } (.ref s.heap.objs.size) "set" := ⟨_, g1, rfl⟩
      have m6 := PySem.F.called_set.init.lookup
      have m7 := PySem.F.called_set.init.bind (.ref s.heap.objs.size)
      repeat any_goals first | assumption | wp_step
      refine codeAny_mono (codeAny_call_builtin (R := wants (fun r s2 => r = .none ∧ ∃ h' tk, s2 = { s with heap := h', toks := tk } ∧ h'.SetOf (PySem.strKind prog w) s.heap.objs.size (fun z => (xs.take us.size).any (· == z)) us.size ∧
          (∀ b o, b < s.heap.objs.size → s.heap.get? b = some o → h'.get? b = some o)) E) PySem.F.called_set.init.plain PySem.F.entry_set_init (check_set_init_1 g2 ?_)) fun r2 s2 hr2 => ?_
      · obtain ⟨ol, hol, k1, nl, k2⟩ := hl
        obtain ⟨oc, od, oa, os⟩ := ol
        simp only at k1 k2
        subst k1 k2
        have g3 : (s.heap.push (set0 led)).get? l = some { cls := .type "list", dict := od, data := .seq us nl, slots := os } := Heap.get?_push_of_some _ hol
        have b1 := PySem.F.sub_list_set
        have b2 := PySem.F.sub_list_frozenset
        have b3 : (Value.type "list" == Value.type "dict") = false := by decide
        have g4 : (s.heap.push (set0 led)).IsList l us := ⟨_, g3, rfl, nl, rfl⟩
        unfold Builtin.«set.__init__» noKeywords Builtin.Frozenset.updateFrom
        generalize hp : pyIter = pI
        wp_walk
        subst hp
        refine wpAny_pyIter_list g4 ?_
        refine wpAny_bind (wpAny_runValue ?_)
        have lS : l < s.heap.objs.size := Heap.lt_size hol
        have h3 : A.in1.in1.in1.handled = none := by simp [hh]
        have n1 : l ≠ (s.heap.push (set0 led)).objs.size := by
          rw [Heap.size_push]
          exact Nat.ne_of_lt (Nat.lt_succ_of_lt lS)
        have n2 : s.heap.objs.size ∉ [(s.heap.push (set0 led)).objs.size, l] := by
          rw [Heap.size_push]
          intro q
          rcases List.mem_cons.mp q with q | q
          · exact absurd q (Nat.ne_of_lt (Nat.lt_succ_self _))
          · exact absurd (List.mem_singleton.mp q) (Nat.ne_of_gt lS)
        refine strs_into ((Walks.list h3 _ l n1 us).toS) s.heap.objs.size n2 xs hz hnd hb hv us.size 0 _ rfl ⟨⟨_, Heap.get?_push_size _ rfl, rfl, rfl⟩, (g4.push _)⟩ ?_ ?_
        · have g5 : ((s.heap.push (set0 led)).push { cls := .type "list_iterator", data := .fields #[.ref l, .int 0 0] }).get? s.heap.objs.size = some (set0 led) := Heap.get?_push_of_some _ g1
          exact PyProof.Rows.SetOf_congr ((PyProof.Rows.setObjOf_fresh (knd := PySem.strKind prog w) led).setOf g5 (by unfold scanBound; omega)) (fun _ => rfl) rfl
        · intro s' mv hS
          obtain ⟨h', g', d', tk', os'⟩ := s'
          obtain rfl : g' = s.gens := mv.gens
          obtain rfl : d' = s.drawn := mv.drawn
          obtain rfl : os' = s.os := mv.os
          show wpAny _ _ _ _ _ _
          refine wpAny_pure ?_
          show wpAny _ _ (ret Value.none) _ _ _
          refine wpAny_pure ⟨rfl, h', tk', rfl, hS, fun b o hb e => ?_⟩
          refine mv.heap b o (fun q => ?_) (Heap.get?_push_of_some _ (Heap.get?_push_of_some _ e))
          rcases List.mem_cons.mp q with q | q
          · exact absurd q (Nat.ne_of_lt hb)
          · rw [Heap.size_push] at q
            exact absurd (List.mem_singleton.mp q) (Nat.ne_of_lt (Nat.lt_succ_of_lt hb))
      · cases r2 with
        | error e => exact hr2
        | ok f2 =>
          cases f2 with
          | ret r =>
            obtain ⟨rfl, h', tk, rfl, hS, hk⟩ := hr2
            repeat any_goals first | assumption | wp_step
            exact h _ _ hS hk
          | _ => exact hr2.elim
    | _ => exact hr.elim
end
def tLenSetS (ta : TE) : TE := fun σ H Q => ta σ H fun x H1 => ∃ (l : Addr) (xs : List Str), x = .ref l ∧ H1 l = some (.lst (xs.map V.str)) ∧ xs.Nodup ∧ xs.length ≤ 1000 ∧ Q (.int (xs.length : Nat)) H1
theorem n_lss {σ : L2.St} {H : Hp} {Q : VK} {ta : TE} (h : ta σ H fun x H1 => ∃ (l : Addr) (xs : List Str), x = .ref l ∧ H1 l = some (.lst (xs.map V.str)) ∧ xs.Nodup ∧ xs.length ≤ 1000 ∧ Q (.int (xs.length : Nat)) H1) : tLenSetS ta σ H Q := h
theorem pe_lenSetS {X : Cx} {a : Expr} {ta : TE} {p p2 q pos : Pos} (hg : Gl X "len") (hm : X.mg "len" = none) (hg2 : Gl X "set") (hm2 : X.mg "set" = none) (ha : PE X a ta) (hc : X.calm = true := by rfl)
    (na : starEach [a] X.env = (false, eval a X.env) :: starEach [] X.env := by rfl) : PE X (.Call (.Name "len" p) [.Call (.Name "set" p2) [a] [] q] [] pos) (tLenSetS ta) := by
  refine ⟨fun pins s σ H Q I h => ?_⟩
  refine Call_ (ld_blt I hg hm boot_len ?_)
  refine PyProof.Rows.callWith_builtin1 (PyProof.Rows.args_cons ?_ rfl) rfl rfl
  refine Call_ (ld_blt I hg2 hm2 boot_set ?_)
  refine PyProof.Rows.callWith_type1 (PyProof.Rows.args_cons (thn (ha.run pins s σ H _ I h) fun v s1 ⟨x, H1, I1, r1, q1⟩ => PyProof.Rows.args_nil ?_) na) na rfl
  obtain ⟨l, xs, rfl, hx, hnd, hl, q1⟩ := q1
  cases r1
  obtain ⟨its, r, pl, hz⟩ := I1.list (.inl (.inl hx))
  have e1 : xs.length = its.toArray.size := by rw [List.size_toArray, ← r.length, List.length_map]
  refine set_strs (I1.ok.hd hc) pl.isList (xs := xs) (fun i v hv => ?_) e1 hnd (by rw [← e1]; unfold scanBound; omega) fun h' tk hS hk => ?_
  · have hi : i < xs.length := by
      have := (Array.getElem?_eq_some_iff.mp hv).1
      omega
    obtain ⟨u, e2, t, e3⟩ := r.get (i := i) (x := V.str xs[i]) (by rw [List.getElem?_map, List.getElem?_eq_getElem hi]; rfl)
    have e4 : v = u := by
      have e5 : its.toArray[i]? = its[i]? := by simp
      rw [e5, e2] at hv
      exact (Option.some.inj hv).symm
    exact ⟨xs[i], t, List.getElem?_eq_getElem hi, e4.trans e3⟩
  · refine PyProof.Rows.args_nil ?_
    rw [← e1] at hS
    obtain ⟨o, es, ep, t, ho, hex, hd, _, _, _, hf, hn⟩ := hS
    have I2 : Inv X pins σ H1 { s1 with heap := h', toks := tk } := I1.kept fun b o e => hk b o (Heap.lt_size e) e
    exact call_len_set ho hex hd hf (by rw [hn]; omega) ⟨.int xs.length, H1, I2.tok _, ⟨_, by rw [hn]⟩, q1⟩
end Ck

/-! Chain kept: plain lemmas. -/
namespace Ck
open PySem PySem.Spec PyProof.Rows L2
/-! ### slices -/
theorem cut_to {xs : List V} {n : Nat} : cutV xs none (some (n : Int)) = xs.take n := by
  unfold cutV
  rw [HT.sIx_none, HT.sIx_nat, Nat.sub_zero, List.drop_zero]
  by_cases h : n ≤ xs.length
  · rw [Nat.min_eq_left h]
  · rw [Nat.min_eq_right (by omega), List.take_length, List.take_of_length_le (by omega)]
theorem cut_from {xs : List V} {n : Nat} : cutV xs (some (n : Int)) none = xs.drop n := by
  unfold cutV
  rw [HT.sIx_none, HT.sIx_nat]
  by_cases h : n ≤ xs.length
  · rw [Nat.min_eq_left h, List.take_of_length_le (by rw [List.length_drop]; omega)]
  · rw [Nat.min_eq_right (by omega), List.drop_length, List.take_nil, List.drop_of_length_le (by omega)]
theorem cut_mid {xs : List V} {n m : Nat} (h : n ≤ m) : cutV xs (some (n : Int)) (some (m : Int)) = (xs.drop n).take (m - n) := by
  unfold cutV
  rw [HT.sIx_nat, HT.sIx_nat]
  by_cases h1 : n ≤ xs.length
  · rw [Nat.min_eq_left h1]
    by_cases h2 : m ≤ xs.length
    · rw [Nat.min_eq_left h2]
    · rw [Nat.min_eq_right (by omega), List.take_of_length_le (by rw [List.length_drop]; omega), List.take_of_length_le (by rw [List.length_drop]; omega)]
  · rw [Nat.min_eq_right (show xs.length ≤ n by omega), List.drop_length, List.take_nil, List.drop_of_length_le (by omega), List.take_nil]
/-! ### data that may be compared -/
structure Sh (n : Nat) (d : PyData) : Prop where
  l : d.canLay0 = true
  d : d.depth ≤ n
theorem Sh.mono {n m : Nat} {d : PyData} (h : Sh n d) (k : n ≤ m) : Sh m d := ⟨h.l, Nat.le_trans h.d k⟩
theorem sh_int {n : Nat} {i : Int} : Sh n (.int i) := ⟨rfl, Nat.zero_le _⟩
theorem sh_non {n : Nat} : Sh n .none := ⟨rfl, Nat.zero_le _⟩
theorem sh_str {n : Nat} {x : Str} (h : x.cps.all (· < 0x110000) = true) : Sh n (.str x) := ⟨h, Nat.zero_le _⟩
theorem sh_all {n : Nat} : ∀ {ds : List PyData}, (∀ d ∈ ds, Sh n d) → PyData.canLayAll0 ds = true ∧ PyData.depthAll ds ≤ n
  | [], _ => ⟨rfl, Nat.zero_le _⟩
  | d :: ds, h => by
    obtain ⟨a, b⟩ := sh_all fun e m => h e (List.mem_cons_of_mem _ m)
    have c := h d (by simp)
    refine ⟨?_, ?_⟩
    · show (d.canLay0 && PyData.canLayAll0 ds) = true
      rw [c.l, a]
      rfl
    · show max d.depth (PyData.depthAll ds) ≤ n
      exact Nat.max_le.mpr ⟨c.d, b⟩
theorem sh_tup {n : Nat} {ds : List PyData} (h : ∀ d ∈ ds, Sh n d) : Sh (n + 1) (.tuple ds) := by
  obtain ⟨a, b⟩ := sh_all h
  exact ⟨a, Nat.succ_le_succ b⟩
theorem sh_lst {n : Nat} {ds : List PyData} (h : ∀ d ∈ ds, Sh n d) : Sh (n + 1) (.list ds) := by
  obtain ⟨a, b⟩ := sh_all h
  exact ⟨a, Nat.succ_le_succ b⟩
theorem Sh.shaped {n : Nat} {d : PyData} (h : Sh n d) (k : n ≤ 64) : SeqAt.shaped d = true := by
  unfold SeqAt.shaped
  rw [h.l, decide_eq_true (Nat.le_trans h.d k)]
  rfl
theorem Sh.self {n : Nat} {d : PyData} (h : Sh n d) : PyData.eqv d d = true := SeqAt.eqv_refl d h.l
theorem alpha_low : ∀ c ∈ alpha.cps.toList, c < 0x110000 := by
  have h : alpha.cps.toList.all (fun c => decide (c < 0x110000)) = true := by decide +kernel
  intro c hc
  exact of_decide_eq_true (List.all_eq_true.mp h c hc)
theorem NameOk.low {x : Str} (h : NameOk x) : x.cps.all (· < 0x110000) = true := by
  rw [← Array.all_toList]
  exact List.all_eq_true.mpr fun c hc => decide_eq_true (alpha_low c (h.al c hc))
theorem NameOk.sh {n : Nat} {x : Str} (h : NameOk x) : Sh n (.str x) := sh_str h.low
theorem eqv_an {a b : Str} {i j : Int} : PyData.eqv (.tuple [.str a, .int i]) (.tuple [.str b, .int j]) = (decide (a = b) && decide (i = j)) := by
  simp only [PyData.eqv, PyData.eqvAll, Bool.and_true]
  have e1 : (a == b) = decide (a = b) := by
    by_cases h : a = b
    · rw [h, beq_self_eq_true, decide_eq_true rfl]
    · rw [decide_eq_false h]
      exact beq_eq_false_iff_ne.mpr h
  have e2 : (i == j) = decide (i = j) := by
    by_cases h : i = j
    · rw [h, beq_self_eq_true, decide_eq_true rfl]
    · rw [decide_eq_false h]
      exact beq_eq_false_iff_ne.mpr h
  rw [e1, e2]
/-! ### for k, x in enumerate(..) -/
theorem for_enum {K : PySem.W.Frag} {a : Addr} {xs : List V} {g : TG} {tb : TS} {D : Ends} {σ : L2.St} {H : Hp} (Pv : Nat → L2.St → Hp → Prop) (h0 : Pv 0 σ H) (hl : ∀ i σ H, i ≤ xs.length → Pv i σ H → SqL K H a xs)
    (hs : ∀ i x σ H T, xs[i]? = some x → Pv i σ H → H T = none → g (.ref T) σ (upd H T (.tup [.int ((i : Nat) : Int), x])) fun σ2 H2 => tb { D with nx := Pv (i + 1), ct := Pv (i + 1), bk := D.nx } σ2 H2) (hd : ∀ σ H, Pv xs.length σ H → D.nx σ H) :
    ∃ W : Nat → Nat → L2.St → Hp → Prop, (∃ m, W 0 m σ H) ∧ ∀ i m σ H, W i m σ H →
      ((Ite K a).stop i H ∧ D.nx σ H) ∨ ((Ite K a).go i H ∧ ∃ N : L2.St → Hp → Prop, (∀ σ' H', N σ' H' → ∃ m', m' < m ∧ W (i + 1) m' σ' H') ∧ ∀ x H', (Ite K a).yld i H x H' → g x σ H' fun σ2 H2 => tb { D with nx := N, ct := N, bk := D.nx } σ2 H2) := by
  refine ⟨fun i m σ H => m = xs.length - i ∧ i ≤ xs.length ∧ Pv i σ H, ⟨xs.length, rfl, Nat.zero_le _, h0⟩, ?_⟩
  rintro i m σ H ⟨rfl, hi, p⟩
  have q := hl i σ H hi p
  by_cases c : i < xs.length
  · refine .inr ⟨⟨xs, xs[i], q, List.getElem?_eq_getElem c⟩, Pv (i + 1), fun σ' H' p' => ⟨xs.length - (i + 1), by omega, rfl, c, p'⟩, ?_⟩
    rintro v H' ⟨T, x, rfl, hT, rfl, hx⟩
    exact hs i x σ H T (hx xs q) p hT
  · have e : i = xs.length := by omega
    subst e
    exact .inl ⟨⟨xs, q, Nat.le_refl _⟩, hd σ H p⟩
/-! ### a chain -/
theorem Ch.all_at (c : Ch) : c.all[c.A.length]? = some ("me" : Str) := by
  unfold Ch.all
  rw [List.getElem?_append_right (Nat.le_refl _), Nat.sub_self]
  rfl
theorem Ch.len (c : Ch) : c.all.length = c.A.length + 1 + c.B.length := by
  unfold Ch.all
  rw [List.length_append, List.length_cons]
  omega
theorem Ch.Ok.noA {c : Ch} (h : c.Ok) : ("me" : Str) ∉ c.A := fun m => by
  have n := h.h.nd
  unfold Ch.all at n
  exact (List.nodup_append.mp n).2.2 _ m _ (by simp) rfl
theorem Ch.Ok.noB {c : Ch} (h : c.Ok) : ("me" : Str) ∉ c.B := fun m => by
  have n := h.h.nd
  unfold Ch.all at n
  exact (List.nodup_cons.mp (List.nodup_append.mp n).2.1).1 m
theorem Ch.all_ah (c : Ch) (h : c.A ≠ []) : ∃ x, c.ah = some x ∧ c.all[c.A.length - 1]? = some x := by
  unfold Ch.ah Ch.all
  have hp : 0 < c.A.length := List.length_pos_iff.mpr h
  refine ⟨c.A.getLast h, List.getLast?_eq_some_getLast h, ?_⟩
  rw [List.getElem?_append_left (by omega), List.getLast_eq_getElem h]
  exact List.getElem?_eq_getElem (by omega)
theorem Ch.ah_nil (c : Ch) (h : c.A = []) : c.ah = none := by
  unfold Ch.ah
  rw [h]
  rfl
theorem Ch.all_bh (c : Ch) (h : c.B ≠ []) : ∃ x, c.bh = some x ∧ c.all[c.A.length + 1]? = some x := by
  cases e : c.B with
  | nil => exact absurd e h
  | cons x r =>
    refine ⟨x, by unfold Ch.bh; rw [e]; rfl, ?_⟩
    unfold Ch.all
    rw [e, List.getElem?_append_right (by omega), show c.A.length + 1 - c.A.length = 1 by omega]
    rfl
theorem Ch.bh_nil (c : Ch) (h : c.B = []) : c.bh = none := by
  unfold Ch.bh
  rw [h]
  rfl
theorem Ch.all_tl (c : Ch) : c.all[c.all.length - 1]? = some c.tl := by
  unfold Ch.tl Ch.all
  cases e : c.B with
  | nil =>
    rw [List.length_append, List.getElem?_append_right (by simp)]
    simp
  | cons x r =>
    rw [List.length_append, List.getElem?_append_right (by simp)]
    have e2 : c.A.length + (("me" : Str) :: x :: r).length - 1 - c.A.length = r.length + 1 := by
      simp only [List.length_cons]
      omega
    rw [e2, List.getElem?_cons_succ]
    have : (x :: r).getLastD ("me" : Str) = (x :: r).getLast (by simp) := by simp [List.getLastD]
    rw [this, List.getLast_eq_getElem, List.getElem?_eq_getElem (by simp)]
    congr 1
theorem Ch.tl_me (c : Ch) (h : c.Ok) : c.tl = "me" ↔ c.B = [] := by
  constructor
  · intro e
    cases q : c.B with
    | nil => rfl
    | cons x r =>
      exfalso
      refine h.noB ?_
      rw [← e]
      unfold Ch.tl
      have : c.B.getLastD ("me" : Str) = (x :: r).getLast (by simp) := by rw [q]; simp [List.getLastD]
      rw [this, q]
      exact List.getLast_mem _
  · intro e
    unfold Ch.tl
    rw [e]
    rfl
theorem flat_strs (ns : List Str) : (ns.map V.str).all flatV = true := by
  refine List.all_eq_true.mpr fun v hv => ?_
  obtain ⟨x, _, rfl⟩ := List.mem_map.mp hv
  rfl
theorem inV_strs {x : Str} {ns : List Str} : inV (.str x) (ns.map V.str) = decide (x ∈ ns) := by
  unfold inV
  rw [List.any_map]
  by_cases h : x ∈ ns
  · rw [decide_eq_true h]
    exact List.any_eq_true.mpr ⟨x, h, beq_self_eq_true x⟩
  · rw [decide_eq_false h]
    refine Bool.eq_false_iff.mpr fun q => ?_
    obtain ⟨y, hy, e⟩ := List.any_eq_true.mp q
    have e2 : y = x := eq_of_beq (show (y == x) = true from e)
    exact h (by rw [← e2]; exact hy)
/-! ### the first row of an asker and a number -/
theorem idx_none {l : List Row} {x : Str} {n : Int} (h : ∀ (j : Nat) (r : Row), l[j]? = some r → ¬ (r.asker = x ∧ r.num = n)) : idxW l x n = none := by
  unfold idxW
  refine List.findIdx?_eq_none_iff.mpr fun r hr => ?_
  obtain ⟨j, hj⟩ := List.mem_iff_getElem?.mp hr
  refine Bool.eq_false_iff.mpr fun q => h j r hj ?_
  simpa using q
theorem idx_some {l : List Row} {x : Str} {n : Int} {i : Nat} {r : Row} (hi : l[i]? = some r) (e : r.asker = x ∧ r.num = n) (h : ∀ (j : Nat) (r : Row), j < i → l[j]? = some r → ¬ (r.asker = x ∧ r.num = n)) : idxW l x n = some i := by
  unfold idxW
  obtain ⟨h1, h2⟩ := List.getElem?_eq_some_iff.mp hi
  refine List.findIdx?_eq_some_iff_getElem.mpr ⟨h1, ?_, fun j hj => ?_⟩
  · rw [h2, decide_eq_true e.1, decide_eq_true e.2]
    rfl
  · have := h j l[j] hj (List.getElem?_eq_getElem (by omega))
    intro q
    refine this ?_
    simpa using q
end Ck

/-! Chain kept: a house in the heap, carried over changes. -/
namespace Ck
open PySem PySem.Spec PyProof.Rows L2
section
variable {A : Ad} {H H' : Hp} {x : HX} {y : MX} {z : WX} {s : HS} {ws : WS} {S : List Addr}
/-- nothing that changes is a tuple -/
def NT (H : Hp) (S : List Addr) : Prop := ∀ a ∈ S, ∀ ys, H a ≠ some (.tup ys)
theorem NT.nil : NT H [] := fun a h => by cases h
theorem NT.cons {a : Addr} {o : HO} (e : H a = some o) (h : ∀ ys, o ≠ .tup ys) (t : NT H S) : NT H (a :: S) := fun b hb ys q => by
  rcases List.mem_cons.mp hb with z | z
  · rw [z, e] at q
    exact h ys (Option.some.inj q)
  · exact t b z ys q
theorem HA.keep (h : HA A H x s) (p : H' x.p = H x.p) (l : H' x.l = H x.l) (d : H' x.d = H x.d) (ca : H' x.ca = H x.ca) (hl : H' x.hl = H x.hl) (t : Tups H H') : HA A H' x s := by
  obtain ⟨a1, a2, a3, a4, a5⟩ := h
  refine ⟨by rw [p]; exact a1, by rw [l]; exact a2, a3.to t, by rw [d]; exact a4, ?_⟩
  cases e : s.ch with
  | none =>
    rw [e] at a5
    exact a5
  | some c =>
    rw [e] at a5
    exact ⟨by rw [ca]; exact a5.1, by rw [hl]; exact a5.2⟩
theorem HA.there (h : HA A H x s) : (∃ o, H x.p = some o) ∧ (∃ o, H x.l = some o) ∧ (∃ o, H x.d = some o) ∧ (∃ o, H x.ca = some o) ∧ (∃ o, H x.hl = some o) := by
  obtain ⟨⟨dx, a1⟩, a2, a3, a4, a5⟩ := h
  refine ⟨⟨_, a1⟩, ⟨_, a2⟩, ⟨_, a4⟩, ?_, ?_⟩
  · cases e : s.ch with
    | none =>
      rw [e] at a5
      rw [a5.1]
      exact ⟨_, a1⟩
    | some c =>
      rw [e] at a5
      obtain ⟨dy, b1⟩ := a5.1
      exact ⟨_, b1⟩
  · cases e : s.ch with
    | none =>
      rw [e] at a5
      rw [a5.2]
      exact ⟨_, a2⟩
    | some c =>
      rw [e] at a5
      exact ⟨_, a5.2⟩
theorem Fr.at' {S : List Addr} {a : Addr} (f : Fr S H H') (h : ∃ o, H a = some o) (n : a ∉ S) : H' a = H a := by
  obtain ⟨o, e⟩ := h
  rw [e]
  exact f a o e n
theorem HA.fr (h : HA A H x s) (f : Fr S H H') (t : NT H S) (p : x.p ∉ S) (l : x.l ∉ S) (d : x.d ∉ S) (ca : x.ca ∉ S) (hl : x.hl ∉ S) : HA A H' x s := by
  obtain ⟨a1, a2, a3, a4, a5⟩ := h.there
  exact h.keep (f.at' a1 p) (f.at' a2 l) (f.at' a3 d) (f.at' a4 ca) (f.at' a5 hl) (Fr.tups f t)
theorem HA.same (h : HA A H x s) (f : Same H H') : HA A H' x s := h.fr (Fr.ofSame (S := []) f) NT.nil (by simp) (by simp) (by simp) (by simp) (by simp)
theorem MA.keep (h : MA H y s) (p : H' y.m = H y.m) (l : H' y.l = H y.l) (d : H' y.d = H y.d) (ct : H' y.ct = H y.ct) (cl : H' y.cl = H y.cl) (t : Tups H H') : MA H' y s := by
  obtain ⟨a1, a2, a3, a4, a5⟩ := h
  refine ⟨by rw [p]; exact a1, by rw [l]; exact a2, a3.to t, by rw [d]; exact a4, ?_⟩
  cases e : s.ch with
  | none =>
    rw [e] at a5
    exact a5
  | some c =>
    rw [e] at a5
    exact ⟨by rw [ct]; exact a5.1, by rw [cl]; exact a5.2⟩
theorem MA.there (h : MA H y s) : (∃ o, H y.m = some o) ∧ (∃ o, H y.l = some o) ∧ (∃ o, H y.d = some o) ∧ (∃ o, H y.ct = some o) ∧ (∃ o, H y.cl = some o) := by
  obtain ⟨a1, a2, a3, a4, a5⟩ := h
  refine ⟨⟨_, a1⟩, ⟨_, a2⟩, ⟨_, a4⟩, ?_, ?_⟩
  · cases e : s.ch with
    | none =>
      rw [e] at a5
      rw [a5.1]
      exact ⟨_, a1⟩
    | some c =>
      rw [e] at a5
      exact ⟨_, a5.1⟩
  · cases e : s.ch with
    | none =>
      rw [e] at a5
      rw [a5.2]
      exact ⟨_, a2⟩
    | some c =>
      rw [e] at a5
      exact ⟨_, a5.2⟩
theorem MA.fr (h : MA H y s) (f : Fr S H H') (t : NT H S) (p : y.m ∉ S) (l : y.l ∉ S) (d : y.d ∉ S) (ct : y.ct ∉ S) (cl : y.cl ∉ S) : MA H' y s := by
  obtain ⟨a1, a2, a3, a4, a5⟩ := h.there
  exact h.keep (f.at' a1 p) (f.at' a2 l) (f.at' a3 d) (f.at' a4 ct) (f.at' a5 cl) (Fr.tups f t)
theorem MA.same (h : MA H y s) (f : Same H H') : MA H' y s := h.fr (Fr.ofSame (S := []) f) NT.nil (by simp) (by simp) (by simp) (by simp) (by simp)
theorem WA.fr (h : WA H z ws) (f : Fr S H H') (t : NT H S) (w : z.w ∉ S) (ah : z.ah ∉ S) (be : z.be ∉ S) (ms : z.ms ∉ S) : WA H' z ws :=
  ⟨f _ _ h.ob w, f _ _ h.ahd ah, f _ _ h.bhd be, h.ne, f _ _ h.mst ms, h.rows.to (Fr.tups f t), h.nem⟩
theorem WA.same (h : WA H z ws) (f : Same H H') : WA H' z ws := h.fr (Fr.ofSame (S := []) f) NT.nil (by simp) (by simp) (by simp) (by simp)
theorem LD.to {a : Addr} {ds : List PyData} (h : LD H a ds) (e : H' a = H a) (t : Tups H H') : LD H' a ds := by
  obtain ⟨xs, h1, h2⟩ := h
  exact ⟨xs, by rw [e]; exact h1, TDs.to t h2⟩
theorem LD.same {a : Addr} {ds : List PyData} (h : LD H a ds) (f : Same H H') : LD H' a ds := by
  obtain ⟨xs, h1, h2⟩ := h
  exact ⟨xs, f _ _ h1, TDs.to (Tups.ofSame f) h2⟩
theorem LD.nil {a : Addr} (h : H a = some (.lst [])) : LD H a [] := ⟨[], h, .nil⟩
/-! ### what stands apart -/
theorem HA.pl (h : HA A H x s) : x.p ≠ x.l := by obtain ⟨dx, a⟩ := h.ob; exact ne_of a h.lst (by intro z; cases z)
theorem HA.pd (h : HA A H x s) : x.p ≠ x.d := by obtain ⟨dx, a⟩ := h.ob; exact ne_of a h.asks (by intro z; cases z)
theorem HA.ld (h : HA A H x s) : x.l ≠ x.d := ne_of h.lst h.asks (by intro z; cases z)
theorem lst_ne {ns : List Str} {l : List Row} (h : ns ≠ []) : HO.lst (ns.map V.str) ≠ HO.lst (l.map Row.v) := fun e => by
  injection e with e
  cases ns with
  | nil => exact h rfl
  | cons a r =>
    cases l with
    | nil => cases e
    | cons b q =>
      rw [List.map_cons, List.map_cons] at e
      injection e with e _
      cases e
theorem Ch.all_ne (c : Ch) : c.all ≠ [] := fun e => by
  have := c.len
  rw [e, List.length_nil] at this
  omega
theorem HA.chp {c : Ch} (h : HA A H x s) (e : s.ch = some c) : x.ca ≠ x.p ∧ x.ca ≠ x.l ∧ x.ca ≠ x.d ∧ x.hl ≠ x.p ∧ x.hl ≠ x.l ∧ x.hl ≠ x.d := by
  obtain ⟨⟨dx, a1⟩, a2, a3, a4, a5⟩ := h
  rw [e] at a5
  obtain ⟨⟨dy, b1⟩, b2⟩ := a5
  refine ⟨ne_of b1 a1 ?_, ne_of b1 a2 (by intro z; cases z), ne_of b1 a4 (by intro z; cases z), ne_of b2 a1 (by intro z; cases z), ne_of b2 a2 (lst_ne c.all_ne), ne_of b2 a4 (by intro z; cases z)⟩
  intro z
  injection z with z1 z2 z3
  unfold cF hF at z3
  have := congrArg List.length z3
  simp at this
theorem HA.chain {c : Ch} (h : HA A H x s) (e : s.ch = some c) : ChAt A H x.ca x.hl c := by
  have := h.ch
  rw [e] at this
  exact this
theorem HA.obC {c : Ch} (h : HA A H x s) (e : s.ch = some c) : ∃ dx, H x.p = some (.ins A.CH dx (hF (.ref x.ca) x.l s.told s.ready x.d)) := by
  obtain ⟨dx, a⟩ := h.ob
  unfold ownV at a
  rw [e] at a
  exact ⟨dx, a⟩
theorem HA.obN (h : HA A H x s) (e : s.ch = none) : ∃ dx, H x.p = some (.ins A.CH dx (hF .non x.l s.told s.ready x.d)) := by
  obtain ⟨dx, a⟩ := h.ob
  unfold ownV at a
  rw [e] at a
  exact ⟨dx, a⟩
theorem HA.own {c : Ch} (h : HA A H x s) (e : s.ch = some c) : ownV s x.ca = .ref x.ca := by unfold ownV; rw [e]
/-- the house's fields change, its log and asks stay -/
theorem HA.put {s' : HS} {ca hl dx : Addr} (h : HA A H x s) (f : Fr [x.p] H H') (e1 : H' x.p = some (.ins A.CH dx (hF (ownV s' ca) x.l s'.told s'.ready x.d))) (e2 : s'.log = s.log) (e3 : s'.asks = s.asks)
    (e4 : match s'.ch with
      | none => ca = x.p ∧ hl = x.l
      | some c => ChAt A H ca hl c) : HA A H' { x with ca := ca, hl := hl } s' := by
  obtain ⟨dx0, hp⟩ := h.ob
  refine ⟨⟨dx, e1⟩, by rw [e2]; exact f _ _ h.lst (by simp [h.pl.symm]), by rw [e2]; exact h.rows.to (Fr.tups f (NT.cons hp (by intro ys q; cases q) NT.nil)), by rw [e3]; exact f _ _ h.asks (by simp [h.pd.symm]), ?_⟩
  cases e : s'.ch with
  | none =>
    rw [e] at e4
    exact e4
  | some c =>
    rw [e] at e4
    obtain ⟨⟨dy, b1⟩, b2⟩ := e4
    refine ⟨⟨dy, f _ _ b1 ?_⟩, f _ _ b2 ?_⟩
    · intro q
      have q : ca = x.p := List.mem_singleton.mp q
      rw [q, hp] at b1
      have z := Option.some.inj b1
      injection z with z1 z2 z3
      have := congrArg List.length z3
      simp [cF, hF] at this
    · intro q
      have q : hl = x.p := List.mem_singleton.mp q
      rw [q, hp] at b2
      cases Option.some.inj b2
end
/-! ### sorted asks -/
theorem sortA_eq {l : List (Int × Str)} {ys : List Int} (p : ys.Perm (l.map (·.1))) (h : ys.Pairwise (· ≤ ·)) : ys = sortA l := by
  unfold sortA
  have q := List.pairwise_mergeSort (le := fun a b : Int => decide (a ≤ b)) (fun a b c h1 h2 => by simp at *; omega) (fun a b => by simp; omega) (l.map (·.1))
  exact PySem.W.ksm_same (p.trans (List.mergeSort_perm _ _).symm) h (q.imp fun h => by simpa using h)
theorem sortA_len (l : List (Int × Str)) : (sortA l).length = l.length := by
  unfold sortA
  rw [List.length_mergeSort, List.length_map]
theorem sortA_mem {l : List (Int × Str)} {k : Int} : k ∈ sortA l ↔ k ∈ l.map (·.1) := by
  unfold sortA
  rw [List.mem_mergeSort]
theorem kvA_keys (l : List (Int × Str)) : (kvA l).map (·.1) = (l.map (·.1)).map Sum.inl := by
  unfold kvA
  rw [List.map_map, List.map_map]
  rfl
theorem kvA_len (l : List (Int × Str)) : (kvA l).length = l.length := List.length_map ..
theorem kvA_val {l : List (Int × Str)} {k : Int} : valV (kvA l) (Sum.inl k) = (keyA l k).map V.str := by
  unfold keyA
  induction l with
  | nil => rfl
  | cons q r ih =>
    by_cases e : q.1 = k
    · show valV ((Sum.inl q.1, V.str q.2) :: kvA r) (Sum.inl k) = _
      rw [e, vk1, List.find?_cons_of_pos (by simp [e])]
      rfl
    · show valV ((Sum.inl q.1, V.str q.2) :: kvA r) (Sum.inl k) = _
      rw [vk2 (fun z => e (Sum.inl.inj z)) ih, List.find?_cons_of_neg (by simp [e])]
theorem keyA_some {l : List (Int × Str)} {k : Int} : (keyA l k).isSome = true ↔ k ∈ l.map (·.1) := by
  unfold keyA
  rw [Option.isSome_map, List.find?_isSome, List.mem_map]
  constructor
  · rintro ⟨q, h1, h2⟩
    exact ⟨q, h1, by simpa using h2⟩
  · rintro ⟨q, h1, h2⟩
    exact ⟨q, h1, by simpa using h2⟩
theorem atI_neg1 {α : Type} {xs : List α} {v : α} (h : xs[xs.length - 1]? = some v) : atI xs (-1) = some v := by
  have hl := (List.getElem?_eq_some_iff.mp h).1
  unfold atI ixN
  rw [if_neg (by decide), if_pos (by omega)]
  show xs[((-1 : Int) + (xs.length : Int)).toNat]? = some v
  rw [← h]
  congr 1
  omega
end Ck

/-! Chain kept: what a deed hands back. -/
namespace Ck
open PySem PySem.Spec PyProof.Rows L2
/-- all but S stands, and S too is tracked -/
structure Gr (S : List Addr) (H H1 : Hp) : Prop where
  fr : Fr S H H1
  th : ∀ q ∈ S, ∃ o, H1 q = some o
section
variable {S S' : List Addr} {H H1 H2 : Hp} {a b : Addr} {o : HO}
theorem Gr.fresh (g : Gr S H H1) (h : H1 a = none) : H a = none := g.fr.none h fun m => by
  obtain ⟨o, e⟩ := g.th a m
  rw [h] at e
  cases e
theorem Gr.ofSame (s : Same H H1) : Gr [] H H1 := ⟨Fr.ofSame s, fun q h => by cases h⟩
theorem Gr.same (g : Gr S H H1) (s : Same H1 H2) : Gr S H H2 := ⟨g.fr.trans (Fr.ofSame s), fun q h => by
  obtain ⟨o, e⟩ := g.th q h
  exact ⟨o, s _ _ e⟩⟩
theorem Gr.more (g : Gr S H H1) (f : Fr S' H1 H2) (h : ∀ a ∈ S', a ∈ S) (t : ∀ q ∈ S', ∃ o, H2 q = some o) : Gr S H H2 := ⟨g.fr.trans (f.mono h), fun q hq => by
  by_cases m : q ∈ S'
  · exact t q m
  · obtain ⟨o, e⟩ := g.th q hq
    exact ⟨o, f _ _ e m⟩⟩
theorem Gr.mono (g : Gr S H H1) (h : ∀ a ∈ S, a ∈ S') (t : ∀ q ∈ S', ∃ o, H1 q = some o) : Gr S' H H1 := ⟨g.fr.mono h, t⟩
theorem Gr.upd (g : Gr S H H1) (h : a ∈ S) : Gr S H (L2.upd H1 a o) := ⟨g.fr.upd h, fun q hq => by
  by_cases e : q = a
  · rw [e, upd_same]
    exact ⟨_, rfl⟩
  · rw [upd_ne e]
    exact g.th q hq⟩
/-- two new empty lists -/
theorem two0 (g : Gr S H H1) (fa : H1 a = none) (fb : L2.upd H1 a (.lst []) b = none) :
    Same H1 (L2.upd (L2.upd H1 a (.lst [])) b (.lst [])) ∧ LD (L2.upd (L2.upd H1 a (.lst [])) b (.lst [])) a [] ∧ LD (L2.upd (L2.upd H1 a (.lst [])) b (.lst [])) b [] ∧ a ≠ b ∧ H a = none ∧ H b = none := by
  have n : a ≠ b := ne_of_none upd_same fb
  have fb1 : H1 b = none := by rw [upd_ne n.symm] at fb; exact fb
  exact ⟨Same.put (Same.new fa) fb1, .nil (by rw [upd_ne n]; exact upd_same), .nil upd_same, n, g.fresh fa, g.fresh fb1⟩
/-- a new pair of two new lists -/
theorem pair_of {Q : VK} {T L : List PyData} (g : Gr S H H2) (la : LD H2 a T) (lb : LD H2 b L) (n : a ≠ b) (fa : H a = none) (fb : H b = none) (k : ∀ (H' : Hp) (v : V), Same H2 H' → Brought H H' v T L → Q v H') :
    [V.ref a, V.ref b].length ≤ sizeLine ∧ ∀ t, H2 t = none → Q (.ref t) (L2.upd H2 t (.tup [.ref a, .ref b])) := by
  refine ⟨by show 2 ≤ sizeLine; decide, fun t ht => ?_⟩
  have s : Same H2 (L2.upd H2 t (.tup [.ref a, .ref b])) := Same.new ht
  exact k _ _ s ⟨t, a, b, rfl, upd_same, la.same s, lb.same s, n, g.fresh ht, fa, fb⟩
/-- a deed of a house, its pair handed back -/
theorem h_pair {A : Ad} {x x' : HX} {Q : VK} {r : Res} (hd : HDone A H x Q r) (g : Gr [x.p, x.l, x.d] H H2) (e1 : x'.p = x.p) (e2 : x'.l = x.l) (e3 : x'.d = x.d ∨ H x'.d = none) (e4 : x'.ca = x.ca) (e5 : x'.hl = x.hl) (ha : HA A H2 x' r.1)
    (la : LD H2 a r.2.1) (lb : LD H2 b r.2.2) (n : a ≠ b) (fa : H a = none) (fb : H b = none) : [V.ref a, V.ref b].length ≤ sizeLine ∧ ∀ t, H2 t = none → Q (.ref t) (L2.upd H2 t (.tup [.ref a, .ref b])) :=
  pair_of g la lb n fa fb fun H' v s br => hd H' v x' e1 e2 e3 e4 e5 (ha.same s) br (g.fr.trans (Fr.ofSame s))
theorem HA.gr {A : Ad} {x : HX} {s : HS} (h : HA A H x s) (f : Same H H1) : Gr [x.p, x.l, x.d] H H1 := ⟨Fr.ofSame f, fun q hq => by
  obtain ⟨⟨o1, b1⟩, ⟨o2, b2⟩, ⟨o3, b3⟩, _, _⟩ := h.there
  simp only [List.mem_cons, List.not_mem_nil, or_false] at hq
  rcases hq with e | e | e
  · rw [e]; exact ⟨o1, f _ _ b1⟩
  · rw [e]; exact ⟨o2, f _ _ b2⟩
  · rw [e]; exact ⟨o3, f _ _ b3⟩⟩
theorem MA.gr {y : MX} {s : HS} (h : MA H y s) (f : Same H H1) : Gr [y.m, y.l, y.d] H H1 := ⟨Fr.ofSame f, fun q hq => by
  obtain ⟨⟨o1, b1⟩, ⟨o2, b2⟩, ⟨o3, b3⟩, _, _⟩ := h.there
  simp only [List.mem_cons, List.not_mem_nil, or_false] at hq
  rcases hq with e | e | e
  · rw [e]; exact ⟨o1, f _ _ b1⟩
  · rw [e]; exact ⟨o2, f _ _ b2⟩
  · rw [e]; exact ⟨o3, f _ _ b3⟩⟩
theorem m_pair {x x' : MX} {Q : VK} {r : Res} (hd : MDone H x Q r) (g : Gr [x.m, x.l, x.d] H H2) (e1 : x'.m = x.m) (e2 : x'.l = x.l) (e3 : x'.d = x.d) (e4 : x'.ct = x.ct) (e5 : x'.cl = x.cl) (ha : MA H2 x' r.1)
    (la : LD H2 a r.2.1) (lb : LD H2 b r.2.2) (n : a ≠ b) (fa : H a = none) (fb : H b = none) : [V.ref a, V.ref b].length ≤ sizeLine ∧ ∀ t, H2 t = none → Q (.ref t) (L2.upd H2 t (.tup [.ref a, .ref b])) :=
  pair_of g la lb n fa fb fun H' v s br => hd H' v x' e1 e2 e3 e4 e5 (ha.same s) br (g.fr.trans (Fr.ofSame s))
/-- the log of a house grows -/
theorem HA.grow {A : Ad} {x : HX} {s : HS} {l : List Row} (h : HA A H x s) (hl : RowsOk H l) : HA A (L2.upd H x.l (.lst ((s.log ++ l).map Row.v))) x (s.plus l) := by
  have tu : Tups H (L2.upd H x.l (.lst ((s.log ++ l).map Row.v))) := Tups.upd h.lst
  obtain ⟨dx, hp⟩ := h.ob
  refine ⟨⟨dx, by rw [upd_ne h.pl]; exact hp⟩, upd_same, (h.rows.app hl).to tu, by rw [upd_ne h.ld.symm]; exact h.asks, ?_⟩
  show match s.ch with
    | none => x.ca = x.p ∧ x.hl = x.l
    | some c => ChAt A _ x.ca x.hl c
  cases e : s.ch with
  | none =>
    have := h.ch
    rw [e] at this
    exact this
  | some c =>
    obtain ⟨⟨dy, b1⟩, b2⟩ := h.chain e
    obtain ⟨_, q1, _, _, q2, _⟩ := h.chp e
    exact ⟨⟨dy, by rw [upd_ne q1]; exact b1⟩, by rw [upd_ne q2]; exact b2⟩
/-- the asks of a house change -/
theorem HA.asked {A : Ad} {x : HX} {s : HS} {l : List (Int × Str)} (h : HA A H x s) : HA A (L2.upd H x.d (.dK (kvA l))) x { s with asks := l } := by
  have tu : Tups H (L2.upd H x.d (.dK (kvA l))) := fun b zs e => by
    rw [upd_ne (fun q => by rw [q, h.asks] at e; cases e)]
    exact e
  obtain ⟨dx, hp⟩ := h.ob
  refine ⟨⟨dx, by rw [upd_ne h.pd]; exact hp⟩, by rw [upd_ne h.ld]; exact h.lst, h.rows.to tu, upd_same, ?_⟩
  show match s.ch with
    | none => x.ca = x.p ∧ x.hl = x.l
    | some c => ChAt A _ x.ca x.hl c
  cases e : s.ch with
  | none =>
    have := h.ch
    rw [e] at this
    exact this
  | some c =>
    obtain ⟨⟨dy, b1⟩, b2⟩ := h.chain e
    obtain ⟨_, _, q1, _, _, q2⟩ := h.chp e
    exact ⟨⟨dy, by rw [upd_ne q1]; exact b1⟩, by rw [upd_ne q2]; exact b2⟩
/-- two lists, one behind the other -/
theorem LD.cat {a b : Addr} {T L : List PyData} (h : LD H a T) (k : LD H b L) : ∃ xs ys, H a = some (.lst xs) ∧ H b = some (.lst ys) ∧ TDs H (xs ++ ys) (T ++ L) ∧ xs.length = T.length ∧ ys.length = L.length := by
  obtain ⟨xs, h1, h2⟩ := h
  obtain ⟨ys, k1, k2⟩ := k
  have ln : ∀ {vs : List V} {ds : List PyData}, TDs H vs ds → vs.length = ds.length := by
    intro vs
    induction vs with
    | nil => intro ds h; cases h; rfl
    | cons v vs ih => intro ds h; cases h with | cons _ t => rw [List.length_cons, List.length_cons, ih t]
  exact ⟨xs, ys, h1, k1, TDs.app h2 k2, ln h2, ln k2⟩
theorem putK_new' {l : List (Int × Str)} {k : Int} {key : Str} (h : keyA l k = none) : putK (kvA l) (Sum.inl k) (.str key) = kvA (l ++ [(k, key)]) := by
  have e : valV (kvA l) (Sum.inl k) = none := by rw [kvA_val, h]; rfl
  have e2 : ((kvA l).any fun kv => decide (kv.1 = Sum.inl k)) = false := by rw [valV_any, e]; rfl
  unfold putK
  rw [e2, if_neg (by simp)]
  unfold kvA
  rw [List.map_append]
  rfl
theorem dropK_kvA {l : List (Int × Str)} {k : Int} : dropK (kvA l) (Sum.inl k) = kvA (l.filter fun q => !decide (q.1 = k)) := by
  unfold dropK kvA
  induction l with
  | nil => rfl
  | cons q r ih =>
    by_cases e : q.1 = k
    · rw [List.map_cons, List.filter_cons_of_neg (by simp [e]), List.filter_cons_of_neg (by simp [e])]
      exact ih
    · have e2 : (Sum.inl q.1 : Key) ≠ Sum.inl k := fun z => e (Sum.inl.inj z)
      rw [List.map_cons, List.filter_cons_of_pos (by simp [e2]), List.filter_cons_of_pos (by simp [e]), List.map_cons, ih]
end
end Ck

/-! Chain kept: the house that the law leads, in the heap. -/
namespace Ck
open PySem PySem.Spec PyProof.Rows L2
theorem at0 {α : Type} {xs : List α} {v : α} (h : xs[0]? = some v) : atI xs 0 = some v := by
  have hl := (List.getElem?_eq_some_iff.mp h).1
  unfold atI ixN
  rw [if_pos (by decide), if_pos (by omega)]
  exact h
theorem ov_ne {b : Str} {o : Option Str} : decide (V.str b = ov o) = decide (o = some b) := by
  cases o with
  | none => rfl
  | some x =>
    by_cases e : x = b
    · rw [e, decide_eq_true rfl, decide_eq_true]
      rfl
    · rw [decide_eq_false (fun z => e (by injection z with z; exact z.symm)), decide_eq_false (fun z => e (by injection z))]
theorem scal_ov {b : Str} {o : Option Str} : scal (.str b) (ov o) = true := by cases o <;> rfl
theorem dg {H : Hp} {a : Addr} {kvs : List (Key × V)} {z : Str} {v : V} (e : H a = some (.dK kvs)) (l : valV kvs (.inr z) = some v) : DGet H a (.str z) (some v) := by
  rw [← l]
  exact DGet.k (k := Sum.inr z) e
theorem dgi {H : Hp} {a : Addr} {l : List (Int × Str)} {k : Int} (e : H a = some (.dK (kvA l))) : DGet H a (.int k) ((keyA l k).map V.str) := by
  have := DGet.k (k := Sum.inl k) e
  rw [kvA_val] at this
  exact this
theorem td_oi (H : Hp) (o : Option Int) : TD H (oi o) (oiD o) := by
  cases o with
  | none => exact .non
  | some z => exact .int z
theorem HDone.same {A : Ad} {H H1 : Hp} {x : HX} {Q : VK} {r : Res} (hd : HDone A H x Q r) (s1 : Same H H1) : HDone A H1 x Q r := by
  intro H' v x' e1 e2 e3 e4 e5 h br fr
  have gone : ∀ a, H1 a = none → H a = none := fun a h => (Fr.ofSame (S := []) s1).none h (by simp)
  refine hd H' v x' e1 e2 (e3.imp id (gone _)) e4 e5 h ?_ ((Fr.ofSame s1).trans fr)
  obtain ⟨t, a, b, e, h1, h2, h3, h4, h5, h6, h7⟩ := br.ex
  exact ⟨t, a, b, e, h1, h2, h3, h4, gone _ h5, gone _ h6, gone _ h7⟩
theorem MDone.same {H H1 : Hp} {x : MX} {Q : VK} {r : Res} (hd : MDone H x Q r) (s1 : Same H H1) : MDone H1 x Q r := by
  intro H' v x' e1 e2 e3 e4 e5 h br fr
  have gone : ∀ a, H1 a = none → H a = none := fun a h => (Fr.ofSame (S := []) s1).none h (by simp)
  refine hd H' v x' e1 e2 e3 e4 e5 h ?_ ((Fr.ofSame s1).trans fr)
  obtain ⟨t, a, b, e, h1, h2, h3, h4, h5, h6, h7⟩ := br.ex
  exact ⟨t, a, b, e, h1, h2, h3, h4, gone _ h5, gone _ h6, gone _ h7⟩
section
variable {cv : V} {l d : Addr} {t : Nat} {r : Bool} {κ : Type} [DecidableEq κ]
theorem any1 {k : κ} {x : V} {q : List (κ × V)} : (((k, x) :: q).any fun kv => decide (kv.1 = k)) = true := by
  rw [List.any_cons, decide_eq_true rfl]
  rfl
theorem any2 {k g : κ} {x : V} {q : List (κ × V)} (h : (q.any fun kv => decide (kv.1 = k)) = true) : (((g, x) :: q).any fun kv => decide (kv.1 = k)) = true := by
  rw [List.any_cons, h, Bool.or_true]
theorem no0 {k : κ} : ∀ p ∈ ([] : List (κ × V)), p.1 ≠ k := fun _ h => by cases h
theorem no1 {k g : κ} {x : V} {q : List (κ × V)} (h : g ≠ k) (t : ∀ p ∈ q, p.1 ≠ k) : ∀ p ∈ (g, x) :: q, p.1 ≠ k := fun p hp => by
  rcases List.mem_cons.mp hp with e | e
  · rw [e]
    exact h
  · exact t p e
theorem mput_chain {o : V} : putK (mF cv l t r d) (.inr "chain") o = mF o l t r d :=
  pu2 (kne (by decide +kernel)) any1 (pu1 (no1 (kne (by decide +kernel)) (no1 (kne (by decide +kernel)) (no1 (kne (by decide +kernel)) (no1 (kne (by decide +kernel)) no0)))))
theorem mput_told {k : Nat} : putK (mF cv l t r d) (.inr "told") (.int (k : Int)) = mF cv l k r d :=
  pu2 (kne (by decide +kernel)) (any2 (any2 any1)) (pu2 (kne (by decide +kernel)) (any2 any1) (pu2 (kne (by decide +kernel)) any1 (pu1 (no1 (kne (by decide +kernel)) (no1 (kne (by decide +kernel)) no0)))))
theorem mput_ready {b : Bool} : putK (mF cv l t r d) (.inr "ready") (.bl b) = mF cv l t b d :=
  pu2 (kne (by decide +kernel)) (any2 (any2 (any2 any1))) (pu2 (kne (by decide +kernel)) (any2 (any2 any1)) (pu2 (kne (by decide +kernel)) (any2 any1) (pu2 (kne (by decide +kernel)) any1 (pu1 (no1 (kne (by decide +kernel)) no0)))))
end
section
variable {H H' : Hp} {x : MX} {s : HS}
theorem MA.ml (h : MA H x s) : x.m ≠ x.l := ne_of h.ob h.lst (by intro z; cases z)
theorem MA.ld (h : MA H x s) : x.l ≠ x.d := ne_of h.lst h.asks (by intro z; cases z)
theorem MA.md (h : MA H x s) : x.m ≠ x.d := ne_of h.ob h.asks (by
  intro z
  injection z with z
  unfold mF kvA at z
  cases e : s.asks with
  | nil => rw [e] at z; cases z
  | cons a q =>
    rw [e, List.map_cons] at z
    injection z with z _
    injection z with z _
    cases z)
theorem MA.chain {c : Ch} (h : MA H x s) (e : s.ch = some c) : McAt H x.ct x.cl c := by
  have := h.ch
  rw [e] at this
  exact this
theorem MA.obC {c : Ch} (h : MA H x s) (e : s.ch = some c) : H x.m = some (.dK (mF (.ref x.ct) x.l s.told s.ready x.d)) := by
  have a := h.ob
  unfold ownV at a
  rw [e] at a
  exact a
theorem MA.own {c : Ch} (e : s.ch = some c) : ownV s x.ct = .ref x.ct := by unfold ownV; rw [e]
theorem MA.chp {c : Ch} (h : MA H x s) (e : s.ch = some c) : x.ct ≠ x.m ∧ x.ct ≠ x.l ∧ x.ct ≠ x.d ∧ x.cl ≠ x.m ∧ x.cl ≠ x.l ∧ x.cl ≠ x.d := by
  obtain ⟨b1, b2⟩ := h.chain e
  refine ⟨ne_of b1 h.ob (by intro z; cases z), ne_of b1 h.lst (by intro z; cases z), ne_of b1 h.asks (by intro z; cases z), ne_of b2 h.ob (by intro z; cases z), ne_of b2 h.lst (lst_ne c.all_ne), ne_of b2 h.asks (by intro z; cases z)⟩
/-- its entries change, its log and asks stay -/
theorem MA.put {s' : HS} {ct cl : Addr} (h : MA H x s) (f : Fr [x.m] H H') (e1 : H' x.m = some (.dK (mF (ownV s' ct) x.l s'.told s'.ready x.d))) (e2 : s'.log = s.log) (e3 : s'.asks = s.asks)
    (e4 : match s'.ch with
      | none => ct = x.m ∧ cl = x.l
      | some c => McAt H ct cl c) : MA H' ⟨x.m, x.l, x.d, ct, cl⟩ s' := by
  have hp := h.ob
  refine ⟨e1, by rw [e2]; exact f _ _ h.lst (by simp [h.ml.symm]), by rw [e2]; exact h.rows.to (Fr.tups f (NT.cons hp (by intro ys q; cases q) NT.nil)), by rw [e3]; exact f _ _ h.asks (by simp [h.md.symm]), ?_⟩
  cases e : s'.ch with
  | none =>
    rw [e] at e4
    exact e4
  | some c =>
    rw [e] at e4
    obtain ⟨b1, b2⟩ := e4
    refine ⟨f _ _ b1 ?_, f _ _ b2 ?_⟩
    · intro q
      have q : ct = x.m := List.mem_singleton.mp q
      rw [q, hp] at b1
      cases Option.some.inj b1
    · intro q
      have q : cl = x.m := List.mem_singleton.mp q
      rw [q, hp] at b2
      cases Option.some.inj b2
theorem MA.grow {l : List Row} (h : MA H x s) (hl : RowsOk H l) : MA (L2.upd H x.l (.lst ((s.log ++ l).map Row.v))) x (s.plus l) := by
  have tu : Tups H (L2.upd H x.l (.lst ((s.log ++ l).map Row.v))) := Tups.upd h.lst
  refine ⟨by rw [upd_ne h.ml]; exact h.ob, upd_same, (h.rows.app hl).to tu, by rw [upd_ne h.ld.symm]; exact h.asks, ?_⟩
  show match s.ch with
    | none => x.ct = x.m ∧ x.cl = x.l
    | some c => McAt _ x.ct x.cl c
  cases e : s.ch with
  | none =>
    have := h.ch
    rw [e] at this
    exact this
  | some c =>
    obtain ⟨b1, b2⟩ := h.chain e
    obtain ⟨_, q1, _, _, q2, _⟩ := h.chp e
    exact ⟨by rw [upd_ne q1]; exact b1, by rw [upd_ne q2]; exact b2⟩
theorem MA.asked {l : List (Int × Str)} (h : MA H x s) : MA (L2.upd H x.d (.dK (kvA l))) x { s with asks := l } := by
  have tu : Tups H (L2.upd H x.d (.dK (kvA l))) := fun b zs e => by
    rw [upd_ne (fun q => by rw [q, h.asks] at e; cases e)]
    exact e
  refine ⟨by rw [upd_ne h.md]; exact h.ob, by rw [upd_ne h.ld]; exact h.lst, h.rows.to tu, upd_same, ?_⟩
  show match s.ch with
    | none => x.ct = x.m ∧ x.cl = x.l
    | some c => McAt _ x.ct x.cl c
  cases e : s.ch with
  | none =>
    have := h.ch
    rw [e] at this
    exact this
  | some c =>
    obtain ⟨b1, b2⟩ := h.chain e
    obtain ⟨_, _, q1, _, _, q2⟩ := h.chp e
    exact ⟨by rw [upd_ne q1]; exact b1, by rw [upd_ne q2]; exact b2⟩
/-- its told rows -/
theorem MA.tell {k : Nat} (h : MA H x s) : MA (L2.upd H x.m (.dK (mF (ownV s x.ct) x.l k s.ready x.d))) x { s with told := k } :=
  h.put (s' := { s with told := k }) (ct := x.ct) (cl := x.cl) (Fr.upd (Fr.refl H) (by simp)) upd_same rfl rfl h.ch
theorem MA.setR {b : Bool} (h : MA H x s) : MA (L2.upd H x.m (.dK (mF (ownV s x.ct) x.l s.told b x.d))) x { s with ready := b } :=
  h.put (s' := { s with ready := b }) (ct := x.ct) (cl := x.cl) (Fr.upd (Fr.refl H) (by simp)) upd_same rfl rfl h.ch
end
end Ck

/-! Chain kept: what a deed tells may be compared; what a deed keeps. -/
namespace Ck
open PySem PySem.Spec PyProof.Rows L2
theorem me_ok : NameOk ("me" : Str) := nameOk_of (by decide +kernel)
theorem Row.sh {n : Nat} {r : Row} (h : r.Ok) : Sh (n + 1) r.d := sh_tup fun d hd => by
  simp only [List.mem_cons, List.not_mem_nil, or_false] at hd
  rcases hd with e | e | e | e
  · rw [e]; exact h.a.sh
  · rw [e]; exact sh_int
  · rw [e]; exact h.k.sh
  · rw [e]; exact sh_int
theorem rows_sh {n : Nat} {l : List Row} (h : ∀ r ∈ l, r.Ok) : Sh (n + 2) (.tuple (l.map Row.d)) := sh_tup fun d hd => by
  obtain ⟨r, hr, rfl⟩ := List.mem_map.mp hd
  exact Row.sh (h r hr)
theorem kind_low {x : Str} (h : nameB x = true) : x.cps.all (· < 0x110000) = true := (nameOk_of h).low
/-! ### a comprehension with a test -/
theorem n_lcF {K : PySem.W.Frag} {σ : L2.St} {H : Hp} {Q : VK} {ta : TE} {g : TG} {tt : TT} {te : TE} {own : List Nat} (h : ta σ H fun x H1 => ∃ a, x = .ref a ∧ (∃ xs, SqL K H1 a xs) ∧ ∀ D, H1 D = none → ∃ W : Nat → Nat → Hp → Prop, (∃ m, W 0 m (upd H1 D (.lst []))) ∧ ∀ i' m H, W i' m H →
      ((Itl K a).stop i' H ∧ Q (.ref D) H) ∨ ((Itl K a).go i' H ∧ ∃ Nx : Hp → Prop, (∀ H', Nx H' → ∃ m', m' < m ∧ W (i' + 1) m' H') ∧ ∀ x H', (Itl K a).yld i' H x H' → g x (wipe σ own) H' fun σ2 H2 => wipe σ2 own = wipe σ own ∧ tt σ2 H2 fun b H3 =>
        if b = true then te σ2 H3 fun y H4 => ∃ acc, H4 D = some (.lst acc) ∧ acc.length < sizeLine ∧ Nx (upd H4 D (.lst (acc ++ [y]))) else Nx H3)) : tLc (iList K ta) g tt te own σ H Q := h
theorem lastW_snoc2 (l : List Row) (r : Row) (key : Str) : lastW (l ++ [r]) key = if r.key = key then some r.worth else lastW l key := by
  unfold lastW
  rw [List.foldl_append]
  rfl
theorem last_none {key : Str} : ∀ (n : Nat) (l : List Row), l.length = n → (lastW l key = none ↔ l.filter (fun r => decide (r.key = key)) = [])
  | 0, l, h => by
    rw [List.length_eq_zero_iff.mp h]
    exact ⟨fun _ => rfl, fun _ => rfl⟩
  | n + 1, l, h => by
    have hne : l ≠ [] := fun e => by rw [e] at h; cases h
    obtain ⟨l', r, rfl⟩ : ∃ l' r, l = l' ++ [r] := ⟨l.dropLast, l.getLast hne, (List.dropLast_concat_getLast hne).symm⟩
    have ih := last_none (key := key) n l' (by rw [List.length_append] at h; simpa using h)
    rw [lastW_snoc2, List.filter_append]
    by_cases e : r.key = key
    · rw [if_pos e]
      constructor
      · intro z; cases z
      · intro z
        have := (List.append_eq_nil_iff.mp z).2
        rw [List.filter_cons_of_pos (by simp [e])] at this
        cases this
    · rw [if_neg e, ih, List.filter_cons_of_neg (by simp [e])]
      simp
/-! ### what is told may be compared -/
def Shs (ds : List PyData) : Prop := ∀ d ∈ ds, Sh 10 d
theorem Shs.nil : Shs [] := fun d h => by cases h
theorem Shs.cons {d : PyData} {ds : List PyData} (h : Sh 10 d) (t : Shs ds) : Shs (d :: ds) := fun e m => by
  rcases List.mem_cons.mp m with q | q
  · rw [q]; exact h
  · exact t e q
theorem Shs.app {ds es : List PyData} (h : Shs ds) (t : Shs es) : Shs (ds ++ es) := fun e m => (List.mem_append.mp m).elim (h e) (t e)
theorem Shs.map {α : Type} {l : List α} {f : α → PyData} (h : ∀ a ∈ l, Sh 10 (f a)) : Shs (l.map f) := fun d m => by
  obtain ⟨a, ha, rfl⟩ := List.mem_map.mp m
  exact h a ha
theorem Shs.cmp {ds : List PyData} (h : Shs ds) : Cmp ds := (sh_lst h).shaped (by decide)
theorem letD_sh {kind to : Str} {c : Ch} {more : List PyData} (hk : nameB kind = true) (ht : NameOk to) (hm : ∀ d ∈ more, Sh 9 d) : Sh 10 (letD kind c to more) := sh_tup fun d hd => by
  rcases List.mem_append.mp hd with h | h
  · simp only [List.mem_cons, List.not_mem_nil, or_false] at h
    rcases h with e | e | e | e
    · rw [e]; exact sh_str (kind_low hk)
    · rw [e]; exact sh_int
    · rw [e]; exact me_ok.sh
    · rw [e]; exact ht.sh
  · exact hm d h
theorem Ch.Ok.ah {c : Ch} (h : c.Ok) {x : Str} (e : c.ah = some x) : NameOk x := h.h.ok x (List.mem_append_left _ (List.mem_of_getLast? e))
theorem Ch.Ok.bh {c : Ch} (h : c.Ok) {x : Str} (e : c.bh = some x) : NameOk x := h.h.ok x (List.mem_append_right _ (List.mem_cons_of_mem _ (List.mem_of_head? e)))
theorem Ch.Ok.tl {c : Ch} (h : c.Ok) : NameOk c.tl := h.h.ok _ (List.mem_of_getElem? c.all_tl)
theorem rowsD_sh {c : Ch} {b : Str} {log : List Row} {f : Nat} (hb : NameOk b) (h : ∀ r ∈ log, r.Ok) : Sh 10 (rowsD c b log f) := letD_sh (by decide +kernel) hb fun d hd => by
  simp only [List.mem_cons, List.not_mem_nil, or_false] at hd
  rcases hd with e | e
  · rw [e]; exact sh_int
  · rw [e]; exact rows_sh (n := 7) fun r hr => h r (List.mem_of_mem_drop hr)
theorem toldUp_sh {c : Ch} {t : Nat} (h : c.Ok) : Shs (toldUp c t) := by
  unfold toldUp
  cases e : c.ah with
  | none => exact Shs.nil
  | some x => exact Shs.cons (letD_sh (by decide +kernel) (h.ah e) fun d hd => by rw [List.mem_singleton.mp hd]; exact sh_int) Shs.nil
theorem whichD_sh {c : Ch} {k : Int} (h : c.Ok) : Sh 10 (whichD c k) := letD_sh (by decide +kernel) h.tl fun d hd => by rw [List.mem_singleton.mp hd]; exact sh_int
theorem askedD_sh {c : Ch} {s : HS} (h : c.Ok) : Shs (askedD c s) := Shs.map fun k _ => whichD_sh h
theorem wroteD_sh {r : Row} (h : r.Ok) : Sh 10 (wroteD r) := sh_tup (n := 9) fun d hd => by
  simp only [List.mem_cons, List.not_mem_nil, or_false] at hd
  rcases hd with e | e | e
  · rw [e]; exact sh_str (kind_low (by decide +kernel))
  · rw [e]; exact h.a.sh
  · rw [e]; exact sh_int
theorem writtenD_sh {s : HS} (h : ∀ r ∈ s.log, r.Ok) : Shs (writtenD s) := Shs.map fun r hr => wroteD_sh (h r (List.mem_of_mem_drop hr))
theorem worthD_sh {k : Int} {o : Option Int} : Sh 10 (worthD k o) := sh_tup (n := 9) fun d hd => by
  simp only [List.mem_cons, List.not_mem_nil, or_false] at hd
  rcases hd with e | e | e
  · rw [e]; exact sh_str (kind_low (by decide +kernel))
  · rw [e]; exact sh_int
  · rw [e]
    cases o with
    | none => exact sh_non
    | some i => exact sh_int
theorem answersD_sh {s : HS} : Shs (answersD s) := Shs.map fun k _ => worthD_sh
structure RSh (r : Res) : Prop where
  t : Shs r.2.1
  l : Shs r.2.2
theorem adopted_sh {s : HS} {c : Ch} (h : ∀ r ∈ s.log, r.Ok) (hc : c.Ok) : RSh (adopted s c) := by
  unfold adopted
  split
  · exact ⟨Shs.nil, Shs.nil⟩
  · split
    · exact ⟨Shs.nil, Shs.nil⟩
    · cases e : c.bh with
      | none => exact ⟨(writtenD_sh h).app answersD_sh, toldUp_sh hc⟩
      | some b => exact ⟨Shs.nil, Shs.cons (rowsD_sh (hc.bh e) h) (askedD_sh hc)⟩
theorem tried_sh {s : HS} (h : ∀ r ∈ s.log, r.Ok) (ok : s.Ok) : RSh (tried s) := by
  unfold tried
  cases ec : s.ch with
  | none => exact ⟨Shs.nil, Shs.nil⟩
  | some c =>
    have hc := ok.ch c ec
    dsimp only
    split
    · exact ⟨Shs.nil, Shs.nil⟩
    · cases e : c.bh with
      | none => exact ⟨Shs.nil, (toldUp_sh hc).app (askedD_sh hc)⟩
      | some b => exact ⟨Shs.nil, Shs.cons (rowsD_sh (hc.bh e) h) (askedD_sh hc)⟩
theorem plus_ok {s : HS} {l : List Row} (h : ∀ r ∈ s.log, r.Ok) (hl : ∀ r ∈ l, r.Ok) : ∀ r ∈ (s.plus l).log, r.Ok := fun r m => (List.mem_append.mp m).elim (h r) (hl r)
theorem put_sh {s : HS} {r : Row} {q : Res} (h : ∀ r ∈ s.log, r.Ok) (ok : s.Ok) (hr : r.Ok) (e : put s r = some q) : RSh q := by
  have hp : ∀ z ∈ (s.plus [r]).log, z.Ok := plus_ok h fun z hz => by rw [List.mem_singleton.mp hz]; exact hr
  unfold put at e
  cases ec : s.ch with
  | none => rw [ec] at e; cases e
  | some c =>
    have hc := ok.ch c ec
    rw [ec] at e
    dsimp only at e
    split at e
    · cases e
    · split at e
      · have e := Option.some.inj e
        rw [← e]
        refine ⟨?_, Shs.nil⟩
        split
        · exact Shs.cons (wroteD_sh hr) Shs.nil
        · exact Shs.nil
      · split at e
        · have e := Option.some.inj e
          rw [← e]
          exact ⟨writtenD_sh hp, Shs.nil⟩
        · rename_i b eb
          have e := Option.some.inj e
          rw [← e]
          exact ⟨Shs.nil, Shs.cons (rowsD_sh (hc.bh eb) hp) Shs.nil⟩
theorem rd_sh {s : HS} {k : Int} {key : Str} {q : Res} (ok : s.Ok) (e : rd s k key = .ok q) : RSh q := by
  unfold rd at e
  split at e
  · cases e
  · cases ec : s.ch with
    | none => rw [ec] at e; cases e
    | some c =>
      have hc := ok.ch c ec
      rw [ec] at e
      dsimp only at e
      split at e
      · cases e
      · split at e
        · injection e with e
          rw [← e]
          exact ⟨Shs.cons worthD_sh Shs.nil, Shs.nil⟩
        · injection e with e
          rw [← e]
          exact ⟨Shs.nil, Shs.cons (whichD_sh hc) Shs.nil⟩
theorem took_sh {s : HS} {y : Lt} (h : ∀ r ∈ s.log, r.Ok) (ok : s.Ok) (hy : y.Ok) (hl : ∀ n b f l ra, y = .rows n b f l ra → ∀ r ∈ l, r.Ok) : RSh (took s y) := by
  unfold took
  cases ec : s.ch with
  | none => exact ⟨Shs.nil, Shs.nil⟩
  | some c =>
    have hc := ok.ch c ec
    dsimp only
    split
    · exact ⟨Shs.nil, Shs.nil⟩
    · cases y with
      | rows n b f l ra =>
        dsimp only
        unfold tookRows
        split
        · exact ⟨Shs.nil, Shs.nil⟩
        · have hp : ∀ z ∈ ((s.plus (l.drop (s.log.length + 1 - f))).able f).log, z.Ok := plus_ok h fun z hz => hl n b f l ra rfl z (List.mem_of_mem_drop hz)
          dsimp only
          split
          · exact ⟨Shs.nil, Shs.nil⟩
          · cases e : c.bh with
            | none => exact ⟨writtenD_sh hp, toldUp_sh hc⟩
            | some t =>
              dsimp only
              split
              · exact ⟨Shs.nil, Shs.nil⟩
              · exact ⟨Shs.nil, Shs.cons (rowsD_sh (hc.bh e) hp) Shs.nil⟩
      | told n b m =>
        dsimp only
        unfold tookTold
        split
        · exact ⟨Shs.nil, Shs.nil⟩
        · exact ⟨Shs.nil, toldUp_sh hc⟩
      | which n b k =>
        dsimp only
        unfold tookWhich
        split
        · exact ⟨Shs.nil, Shs.nil⟩
        · exact ⟨Shs.nil, Shs.cons (letD_sh (by decide +kernel) hy.2.1 fun d hd => by
            simp only [List.mem_cons, List.not_mem_nil, or_false] at hd
            rcases hd with e | e
            · rw [e]; exact sh_int
            · rw [e]; exact sh_int) Shs.nil⟩
      | that n b k m =>
        dsimp only
        unfold tookThat
        split
        · exact ⟨Shs.nil, Shs.nil⟩
        · exact ⟨Shs.cons worthD_sh Shs.nil, Shs.nil⟩
/-! ### what a deed keeps -/
structure HS.At (s : HS) (t : Nat) : Prop where
  ok : s.Ok
  log : s.log.length ≤ 14 + t
  asks : s.asks.length ≤ t
theorem HS.At.mono {s : HS} {t u : Nat} (h : s.At t) (k : t ≤ u) : s.At u := ⟨h.ok, Nat.le_trans h.log (by omega), Nat.le_trans h.asks k⟩
theorem tellAll_ok {s : HS} (h : s.Ok) : s.tellAll.Ok := ⟨h.ch, Nat.le_refl _, h.len, h.nd, h.few⟩
theorem taken_ok {s : HS} {c : Ch} (h : s.Ok) (hc : c.Ok) : (s.taken c).Ok := ⟨fun d e => by rw [← Option.some.inj e]; exact hc, h.told, h.len, h.nd, h.few⟩
theorem plus_ok' {s : HS} {l : List Row} (h : s.Ok) (k : s.log.length + l.length ≤ 150) : (s.plus l).Ok := ⟨h.ch, Nat.le_trans h.told (by show _ ≤ (s.log ++ l).length; rw [List.length_append]; omega), by show (s.log ++ l).length ≤ 150; rw [List.length_append]; exact k, h.nd, h.few⟩
theorem adopted_at {s : HS} {c : Ch} {t : Nat} (h : s.At t) (hc : c.Ok) : (adopted s c).1.At t := by
  unfold adopted
  split
  · exact h
  · have h2 : (s.taken c).At t := ⟨taken_ok h.ok hc, h.log, h.asks⟩
    split
    · exact h2
    · split
      · exact ⟨⟨h2.ok.ch, Nat.le_refl _, h2.ok.len, List.nodup_nil, Nat.zero_le _⟩, h.log, Nat.zero_le _⟩
      · exact h2
theorem put_at {s : HS} {r : Row} {q : Res} {t : Nat} (h : s.At t) (ht : t ≤ 43) (e : put s r = some q) : q.1.At (t + 1) := by
  have h1 := h.mono (Nat.le_add_right t 1)
  have hp : (s.plus [r]).At (t + 1) := by
    have := h.log
    refine ⟨plus_ok' h.ok (by show s.log.length + 1 ≤ 150; omega), ?_, h1.asks⟩
    show (s.log ++ [r]).length ≤ _
    rw [List.length_append]
    show s.log.length + 1 ≤ _
    omega
  unfold put at e
  cases ec : s.ch with
  | none => rw [ec] at e; cases e
  | some c =>
    rw [ec] at e
    dsimp only at e
    split at e
    · cases e
    · split at e
      · have e := Option.some.inj e
        rw [← e]
        exact h1
      · split at e
        · have e := Option.some.inj e
          rw [← e]
          exact ⟨tellAll_ok hp.ok, hp.log, hp.asks⟩
        · have e := Option.some.inj e
          rw [← e]
          exact hp
theorem rd_at {s : HS} {k : Int} {key : Str} {q : Res} {t : Nat} (h : s.At t) (ht : t ≤ 43) (e : rd s k key = .ok q) : q.1.At (t + 1) := by
  have h1 := h.mono (Nat.le_add_right t 1)
  unfold rd at e
  split at e
  · cases e
  · rename_i nk
    cases ec : s.ch with
    | none => rw [ec] at e; cases e
    | some c =>
      rw [ec] at e
      dsimp only at e
      split at e
      · cases e
      · split at e
        · injection e with e
          rw [← e]
          exact h1
        · injection e with e
          rw [← e]
          have := h.asks
          have el : (s.ask k key).asks.length = s.asks.length + 1 := by show (s.asks ++ [(k, key)]).length = _; rw [List.length_append]; rfl
          refine ⟨⟨h.ok.ch, h.ok.told, h.ok.len, ?_, by rw [el]; omega⟩, h1.log, by rw [el]; omega⟩
          show ((s.asks ++ [(k, key)]).map (·.1)).Nodup
          rw [List.map_append]
          refine List.nodup_append.mpr ⟨h.ok.nd, by simp, fun a ha b hb => ?_⟩
          intro z
          rw [z] at ha
          have hb : b = k := by simpa using hb
          rw [hb] at ha
          exact nk (keyA_some.mpr ha)
theorem took_at {s : HS} {y : Lt} {t : Nat} (h : s.At t) (ht : t ≤ 43) (hl : ∀ n b f l ra, y = .rows n b f l ra → l.length ≤ 14 + t + 1 - f) : (took s y).1.At (t + 1) := by
  have h1 := h.mono (Nat.le_add_right t 1)
  unfold took
  cases ec : s.ch with
  | none => exact h1
  | some c =>
    dsimp only
    split
    · exact h1
    · cases y with
      | rows n b f l ra =>
        have hl := hl n b f l ra rfl
        dsimp only
        unfold tookRows
        split
        · exact h1
        · rename_i nb
          have nf : ¬ s.log.length + 1 < f := fun z => nb (.inr z)
          have lo := h.log
          have le : s.log.length + (l.drop (s.log.length + 1 - f)).length ≤ 14 + t := by rw [List.length_drop]; omega
          have hp : ((s.plus (l.drop (s.log.length + 1 - f))).able f).At (t + 1) := by
            have := plus_ok' (l := l.drop (s.log.length + 1 - f)) h.ok (by omega)
            exact ⟨⟨this.ch, this.told, this.len, this.nd, this.few⟩, by show (s.log ++ _).length ≤ _; rw [List.length_append]; omega, h1.asks⟩
          dsimp only
          split
          · exact hp
          · split
            · exact ⟨tellAll_ok hp.ok, hp.log, hp.asks⟩
            · split
              · exact hp
              · exact hp
      | told n b m =>
        dsimp only
        unfold tookTold
        split
        · exact h1
        · rename_i nb
          have : ¬ (s.log.length : Int) < m := fun z => nb (.inr z)
          have := h.ok.told
          exact ⟨⟨h.ok.ch, by show max s.told m.toNat ≤ s.log.length; exact Nat.max_le.mpr ⟨h.ok.told, by omega⟩, h.ok.len, h.ok.nd, h.ok.few⟩, h1.log, h1.asks⟩
      | which n b k =>
        dsimp only
        unfold tookWhich
        split
        · exact h1
        · exact h1
      | that n b k m =>
        dsimp only
        unfold tookThat
        split
        · exact h1
        · have le : (s.drop k).asks.length ≤ s.asks.length := List.length_filter_le _ _
          have a1 := h.ok.few
          have a2 := h1.asks
          exact ⟨⟨h.ok.ch, h.ok.told, h.ok.len, List.Sublist.nodup (List.Sublist.map _ List.filter_sublist) h.ok.nd, by show (s.drop k).asks.length ≤ 50; omega⟩, h1.log, by show (s.drop k).asks.length ≤ _; omega⟩
theorem tried_at {s : HS} {t : Nat} (h : s.At t) : (tried s).1.At t := by
  unfold tried
  split
  · exact h
  · split
    · exact h
    · split
      · exact h
      · exact h
end Ck

/-! Chain kept: the house, the house that the law leads, and the world, side by side. -/
namespace Ck
open PySem PySem.Spec PyProof.Rows L2
structure Sep (x : HX) (y : MX) (z : WX) : Prop where
  l : x.l ≠ y.l
  d : x.d ≠ y.d
  xa : x.l ≠ z.ah
  xb : x.l ≠ z.be
  xm : x.l ≠ z.ms
  ya : y.l ≠ z.ah
  yb : y.l ≠ z.be
  ym : y.l ≠ z.ms
  ha : x.hl ≠ z.ah
  hb : x.hl ≠ z.be
  ca : y.cl ≠ z.ah
  cb : y.cl ≠ z.be
structure All (A : Ad) (H : Hp) (x : HX) (y : MX) (z : WX) (s : HS) (ws : WS) (t : Nat) : Prop where
  ha : HA A H x s
  ma : MA H y s
  wa : WA H z ws
  at_ : s.At t
  wok : ws.Ok t
  sep : Sep x y z
theorem kv_mF {l : List (Int × Str)} {cv : V} {a d : Addr} {t : Nat} {r : Bool} : HO.dK (mF cv a t r d) ≠ HO.dK (kvA l) := by
  intro z
  injection z with z
  unfold mF kvA at z
  cases l with
  | nil => cases z
  | cons a q =>
    rw [List.map_cons] at z
    injection z with z _
    injection z with z _
    cases z
theorem kv_wF {l : List (Int × Str)} {s : WS} {x : WX} : HO.dK (wF s x) ≠ HO.dK (kvA l) := by
  intro z
  injection z with z
  unfold wF kvA at z
  cases l with
  | nil => cases z
  | cons a q =>
    rw [List.map_cons] at z
    injection z with z _
    injection z with z _
    cases z
theorem mF_wF {cv : V} {a d : Addr} {t : Nat} {r : Bool} {s : WS} {x : WX} : HO.dK (mF cv a t r d) ≠ HO.dK (wF s x) := by
  intro z
  injection z with z
  unfold mF wF at z
  injection z with z _
  injection z with z _
  have := Sum.inr.inj z
  exact absurd this (by decide +kernel)
section
variable {A : Ad} {H H1 H2 H3 : Hp} {x x1 : HX} {y y1 : MX} {z z1 : WX} {s s1 : HS} {ws ws1 : WS} {t : Nat}
/-- what a house's deed leaves of the other two -/
theorem keep_m (ha : HA A H x s) (ma : MA H y s1) (se : Sep x y z) (f : Fr [x.p, x.l, x.d] H H1) : MA H1 y s1 := by
  obtain ⟨dx, hp⟩ := ha.ob
  have nt : NT H [x.p, x.l, x.d] := NT.cons hp (by intro ys q; cases q) (NT.cons ha.lst (by intro ys q; cases q) (NT.cons ha.asks (by intro ys q; cases q) NT.nil))
  have n1 : y.m ∉ [x.p, x.l, x.d] := by
    have a := ne_of ma.ob hp (by intro q; cases q)
    have b := ne_of ma.ob ha.lst (by intro q; cases q)
    have c := ne_of ma.ob ha.asks kv_mF
    simp [a, b, c]
  have n2 : y.l ∉ [x.p, x.l, x.d] := by
    have a := ne_of ma.lst hp (by intro q; cases q)
    have c := ne_of ma.lst ha.asks (by intro q; cases q)
    simp [a, se.l.symm, c]
  have n3 : y.d ∉ [x.p, x.l, x.d] := by
    have a := ne_of ma.asks hp (by intro q; cases q)
    have b := ne_of ma.asks ha.lst (by intro q; cases q)
    simp [a, b, se.d.symm]
  have n45 : y.ct ∉ [x.p, x.l, x.d] ∧ y.cl ∉ [x.p, x.l, x.d] := by
    cases e : s1.ch with
    | none =>
      have := ma.ch
      rw [e] at this
      rw [this.1, this.2]
      exact ⟨n1, n2⟩
    | some c =>
      obtain ⟨b1, b2⟩ := ma.chain e
      have a := ne_of b1 hp (by intro q; cases q)
      have b := ne_of b1 ha.lst (by intro q; cases q)
      have d := ne_of b1 ha.asks (by intro q; cases q)
      have a' := ne_of b2 hp (by intro q; cases q)
      have b' := ne_of b2 ha.lst (lst_ne c.all_ne)
      have d' := ne_of b2 ha.asks (by intro q; cases q)
      exact ⟨by simp [a, b, d], by simp [a', b', d']⟩
  exact ma.fr f nt n1 n2 n3 n45.1 n45.2
theorem keep_wh (ha : HA A H x s) (wa : WA H z ws) (se : Sep x y z) (f : Fr [x.p, x.l, x.d] H H1) : WA H1 z ws := by
  obtain ⟨dx, hp⟩ := ha.ob
  have nt : NT H [x.p, x.l, x.d] := NT.cons hp (by intro ys q; cases q) (NT.cons ha.lst (by intro ys q; cases q) (NT.cons ha.asks (by intro ys q; cases q) NT.nil))
  have a1 := ne_of wa.ob hp (by intro q; cases q)
  have b1 := ne_of wa.ob ha.lst (by intro q; cases q)
  have c1 := ne_of wa.ob ha.asks kv_wF
  have a2 := ne_of wa.ahd hp (by intro q; cases q)
  have c2 := ne_of wa.ahd ha.asks (by intro q; cases q)
  have a3 := ne_of wa.bhd hp (by intro q; cases q)
  have c3 := ne_of wa.bhd ha.asks (by intro q; cases q)
  have a4 := ne_of wa.mst hp (by intro q; cases q)
  have c4 := ne_of wa.mst ha.asks (by intro q; cases q)
  exact wa.fr f nt (by simp [a1, b1, c1]) (by simp [a2, se.xa.symm, c2]) (by simp [a3, se.xb.symm, c3]) (by simp [a4, se.xm.symm, c4])
theorem keep_h (ha : HA A H x s) (ma : MA H y s1) (se : Sep x y z) (f : Fr [y.m, y.l, y.d] H H1) : HA A H1 x s := by
  obtain ⟨dx, hp⟩ := ha.ob
  have nt : NT H [y.m, y.l, y.d] := NT.cons ma.ob (by intro ys q; cases q) (NT.cons ma.lst (by intro ys q; cases q) (NT.cons ma.asks (by intro ys q; cases q) NT.nil))
  have n1 : x.p ∉ [y.m, y.l, y.d] := by
    have a := ne_of hp ma.ob (by intro q; cases q)
    have b := ne_of hp ma.lst (by intro q; cases q)
    have c := ne_of hp ma.asks (by intro q; cases q)
    simp [a, b, c]
  have n2 : x.l ∉ [y.m, y.l, y.d] := by
    have a := ne_of ha.lst ma.ob (by intro q; cases q)
    have c := ne_of ha.lst ma.asks (by intro q; cases q)
    simp [a, se.l, c]
  have n3 : x.d ∉ [y.m, y.l, y.d] := by
    have a := (ne_of ma.ob ha.asks kv_mF).symm
    have b := ne_of ha.asks ma.lst (by intro q; cases q)
    simp [a, b, se.d]
  have n45 : x.ca ∉ [y.m, y.l, y.d] ∧ x.hl ∉ [y.m, y.l, y.d] := by
    cases e : s.ch with
    | none =>
      have := ha.ch
      rw [e] at this
      rw [this.1, this.2]
      exact ⟨n1, n2⟩
    | some c =>
      obtain ⟨⟨dy, b1⟩, b2⟩ := ha.chain e
      have a := ne_of b1 ma.ob (by intro q; cases q)
      have b := ne_of b1 ma.lst (by intro q; cases q)
      have d := ne_of b1 ma.asks (by intro q; cases q)
      have a' := ne_of b2 ma.ob (by intro q; cases q)
      have b' := ne_of b2 ma.lst (lst_ne c.all_ne)
      have d' := ne_of b2 ma.asks (by intro q; cases q)
      exact ⟨by simp [a, b, d], by simp [a', b', d']⟩
  exact ha.fr f nt n1 n2 n3 n45.1 n45.2
theorem keep_wm (ma : MA H y s) (wa : WA H z ws) (se : Sep x y z) (f : Fr [y.m, y.l, y.d] H H1) : WA H1 z ws := by
  have nt : NT H [y.m, y.l, y.d] := NT.cons ma.ob (by intro ys q; cases q) (NT.cons ma.lst (by intro ys q; cases q) (NT.cons ma.asks (by intro ys q; cases q) NT.nil))
  have a1 := (ne_of ma.ob wa.ob mF_wF).symm
  have b1 := ne_of wa.ob ma.lst (by intro q; cases q)
  have c1 := ne_of wa.ob ma.asks kv_wF
  have a2 := ne_of wa.ahd ma.ob (by intro q; cases q)
  have c2 := ne_of wa.ahd ma.asks (by intro q; cases q)
  have a3 := ne_of wa.bhd ma.ob (by intro q; cases q)
  have c3 := ne_of wa.bhd ma.asks (by intro q; cases q)
  have a4 := ne_of wa.mst ma.ob (by intro q; cases q)
  have c4 := ne_of wa.mst ma.asks (by intro q; cases q)
  exact wa.fr f nt (by simp [a1, b1, c1]) (by simp [a2, se.ya.symm, c2]) (by simp [a3, se.yb.symm, c3]) (by simp [a4, se.ym.symm, c4])
/-- what the world's change leaves of the house -/
theorem keep_hw {a : Addr} {n : Nat} (hs : Src H a n) (ha : HA A H x s) (wa : WA H z ws) (se : Sep x y z) (f : Fr [a, z.w, z.ah, z.be] H H1) : HA A H1 x s := by
  obtain ⟨dx, hp⟩ := ha.ob
  obtain ⟨u, v, r, ea, _⟩ := hs
  have nt : NT H [a, z.w, z.ah, z.be] := NT.cons ea (by intro ys q; cases q) (NT.cons wa.ob (by intro ys q; cases q) (NT.cons wa.ahd (by intro ys q; cases q) (NT.cons wa.bhd (by intro ys q; cases q) NT.nil)))
  have sl : ∀ {l : List Row}, HO.lst (l.map Row.v) ≠ HO.lst [V.int u, .int v, .int r] := fun {l} q => by
    injection q with q
    cases l with
    | nil => cases q
    | cons b m =>
      rw [List.map_cons] at q
      injection q with q _
      cases q
  have ss : ∀ {l : List Str}, HO.lst (l.map V.str) ≠ HO.lst [V.int u, .int v, .int r] := fun {l} q => by
    injection q with q
    cases l with
    | nil => cases q
    | cons b m =>
      rw [List.map_cons] at q
      injection q with q _
      cases q
  have n1 : x.p ∉ [a, z.w, z.ah, z.be] := by
    have b0 := ne_of hp ea (by intro q; cases q)
    have b1 := ne_of hp wa.ob (by intro q; cases q)
    have b2 := ne_of hp wa.ahd (by intro q; cases q)
    have b3 := ne_of hp wa.bhd (by intro q; cases q)
    simp [b0, b1, b2, b3]
  have n2 : x.l ∉ [a, z.w, z.ah, z.be] := by
    have b0 := ne_of ha.lst ea sl
    have b1 := ne_of ha.lst wa.ob (by intro q; cases q)
    simp [b0, b1, se.xa, se.xb]
  have n3 : x.d ∉ [a, z.w, z.ah, z.be] := by
    have b0 := ne_of ha.asks ea (by intro q; cases q)
    have b1 := (ne_of wa.ob ha.asks kv_wF).symm
    have b2 := ne_of ha.asks wa.ahd (by intro q; cases q)
    have b3 := ne_of ha.asks wa.bhd (by intro q; cases q)
    simp [b0, b1, b2, b3]
  have n45 : x.ca ∉ [a, z.w, z.ah, z.be] ∧ x.hl ∉ [a, z.w, z.ah, z.be] := by
    cases e : s.ch with
    | none =>
      have := ha.ch
      rw [e] at this
      rw [this.1, this.2]
      exact ⟨n1, n2⟩
    | some c =>
      obtain ⟨⟨dy, c1⟩, c2⟩ := ha.chain e
      have b0 := ne_of c1 ea (by intro q; cases q)
      have b1 := ne_of c1 wa.ob (by intro q; cases q)
      have b2 := ne_of c1 wa.ahd (by intro q; cases q)
      have b3 := ne_of c1 wa.bhd (by intro q; cases q)
      have d0 := ne_of c2 ea ss
      have d1 := ne_of c2 wa.ob (by intro q; cases q)
      exact ⟨by simp [b0, b1, b2, b3], by simp [d0, d1, se.ha, se.hb]⟩
  exact ha.fr f nt n1 n2 n3 n45.1 n45.2
theorem keep_mw {a : Addr} {n : Nat} (hs : Src H a n) (ma : MA H y s) (wa : WA H z ws) (se : Sep x y z) (f : Fr [a, z.w, z.ah, z.be] H H1) : MA H1 y s := by
  obtain ⟨u, v, r, ea, _⟩ := hs
  have nt : NT H [a, z.w, z.ah, z.be] := NT.cons ea (by intro ys q; cases q) (NT.cons wa.ob (by intro ys q; cases q) (NT.cons wa.ahd (by intro ys q; cases q) (NT.cons wa.bhd (by intro ys q; cases q) NT.nil)))
  have sl : ∀ {l : List Row}, HO.lst (l.map Row.v) ≠ HO.lst [V.int u, .int v, .int r] := fun {l} q => by
    injection q with q
    cases l with
    | nil => cases q
    | cons b m =>
      rw [List.map_cons] at q
      injection q with q _
      cases q
  have ss : ∀ {l : List Str}, HO.lst (l.map V.str) ≠ HO.lst [V.int u, .int v, .int r] := fun {l} q => by
    injection q with q
    cases l with
    | nil => cases q
    | cons b m =>
      rw [List.map_cons] at q
      injection q with q _
      cases q
  have n1 : y.m ∉ [a, z.w, z.ah, z.be] := by
    have b0 := ne_of ma.ob ea (by intro q; cases q)
    have b1 := ne_of ma.ob wa.ob mF_wF
    have b2 := ne_of ma.ob wa.ahd (by intro q; cases q)
    have b3 := ne_of ma.ob wa.bhd (by intro q; cases q)
    simp [b0, b1, b2, b3]
  have n2 : y.l ∉ [a, z.w, z.ah, z.be] := by
    have b0 := ne_of ma.lst ea sl
    have b1 := ne_of ma.lst wa.ob (by intro q; cases q)
    simp [b0, b1, se.ya, se.yb]
  have n3 : y.d ∉ [a, z.w, z.ah, z.be] := by
    have b0 := ne_of ma.asks ea (by intro q; cases q)
    have b1 := (ne_of wa.ob ma.asks kv_wF).symm
    have b2 := ne_of ma.asks wa.ahd (by intro q; cases q)
    have b3 := ne_of ma.asks wa.bhd (by intro q; cases q)
    simp [b0, b1, b2, b3]
  have n45 : y.ct ∉ [a, z.w, z.ah, z.be] ∧ y.cl ∉ [a, z.w, z.ah, z.be] := by
    cases e : s.ch with
    | none =>
      have := ma.ch
      rw [e] at this
      rw [this.1, this.2]
      exact ⟨n1, n2⟩
    | some c =>
      obtain ⟨c1, c2⟩ := ma.chain e
      have b0 := ne_of c1 ea (by intro q; cases q)
      have b1 := ne_of c1 wa.ob (by intro q; cases q)
      have b2 := ne_of c1 wa.ahd (by intro q; cases q)
      have b3 := ne_of c1 wa.bhd (by intro q; cases q)
      have d0 := ne_of c2 ea ss
      have d1 := ne_of c2 wa.ob (by intro q; cases q)
      exact ⟨by simp [b0, b1, b2, b3], by simp [d0, d1, se.ca, se.cb]⟩
  exact ma.fr f nt n1 n2 n3 n45.1 n45.2
end
end Ck

/-! Chain kept: two deeds and what they brought. -/
namespace Ck
open PySem PySem.Spec PyProof.Rows L2
section
variable {A : Ad} {H H1 H2 H3 : Hp} {x x1 : HX} {y y1 : MX} {z z1 : WX} {s s1 : HS} {ws ws1 : WS} {t t1 : Nat} {v1 v2 : V} {T L : List PyData}
theorem keep_hz (ha : HA A H x s) (wa : WA H z ws) (f : Fr [z.w] H H1) : HA A H1 x s := by
  obtain ⟨dx, hp⟩ := ha.ob
  have nt : NT H [z.w] := NT.cons wa.ob (by intro ys q; cases q) NT.nil
  have n1 : x.p ∉ [z.w] := by
    have b1 := ne_of hp wa.ob (by intro q; cases q)
    simp [b1]
  have n2 : x.l ∉ [z.w] := by
    have b1 := ne_of ha.lst wa.ob (by intro q; cases q)
    simp [b1]
  have n3 : x.d ∉ [z.w] := by
    have b1 := (ne_of wa.ob ha.asks kv_wF).symm
    simp [b1]
  have n45 : x.ca ∉ [z.w] ∧ x.hl ∉ [z.w] := by
    cases e : s.ch with
    | none =>
      have := ha.ch
      rw [e] at this
      rw [this.1, this.2]
      exact ⟨n1, n2⟩
    | some c =>
      obtain ⟨⟨dy, c1⟩, c2⟩ := ha.chain e
      have b1 := ne_of c1 wa.ob (by intro q; cases q)
      have d1 := ne_of c2 wa.ob (by intro q; cases q)
      exact ⟨by simp [b1], by simp [d1]⟩
  exact ha.fr f nt n1 n2 n3 n45.1 n45.2
theorem keep_mz (ma : MA H y s) (wa : WA H z ws) (f : Fr [z.w] H H1) : MA H1 y s := by
  have nt : NT H [z.w] := NT.cons wa.ob (by intro ys q; cases q) NT.nil
  have n1 : y.m ∉ [z.w] := by
    have b1 := ne_of ma.ob wa.ob mF_wF
    simp [b1]
  have n2 : y.l ∉ [z.w] := by
    have b1 := ne_of ma.lst wa.ob (by intro q; cases q)
    simp [b1]
  have n3 : y.d ∉ [z.w] := by
    have b1 := (ne_of wa.ob ma.asks kv_wF).symm
    simp [b1]
  have n45 : y.ct ∉ [z.w] ∧ y.cl ∉ [z.w] := by
    cases e : s.ch with
    | none =>
      have := ma.ch
      rw [e] at this
      rw [this.1, this.2]
      exact ⟨n1, n2⟩
    | some c =>
      obtain ⟨c1, c2⟩ := ma.chain e
      have b1 := ne_of c1 wa.ob (by intro q; cases q)
      have d1 := ne_of c2 wa.ob (by intro q; cases q)
      exact ⟨by simp [b1], by simp [d1]⟩
  exact ma.fr f nt n1 n2 n3 n45.1 n45.2
theorem All.same (h : All A H x y z s ws t) (f : Same H H1) : All A H1 x y z s ws t := ⟨h.ha.same f, h.ma.same f, h.wa.same f, h.at_, h.wok, h.sep⟩
theorem Src.ne2 {a p : Addr} {n : Nat} {o : HO} (h : Src H a n) (hp : H p = some o) (k : ∀ x y z : Int, o ≠ .lst [.int x, .int y, .int z]) : p ≠ a := fun m => by
  obtain ⟨x, y, z, e, _⟩ := h
  rw [m, e] at hp
  exact k x y z (Option.some.inj hp).symm
theorem rows_ints {l : List Row} (u v r : Int) : HO.lst (l.map Row.v) ≠ HO.lst [V.int u, .int v, .int r] := fun q => by
  injection q with q
  cases l with
  | nil => cases q
  | cons b m =>
    rw [List.map_cons] at q
    injection q with q _
    cases q
theorem strs_ints {l : List Str} (u v r : Int) : HO.lst (l.map V.str) ≠ HO.lst [V.int u, .int v, .int r] := fun q => by
  injection q with q
  cases l with
  | nil => cases q
  | cons b m =>
    rw [List.map_cons] at q
    injection q with q _
    cases q
theorem All.src {a : Addr} {n : Nat} (h : All A H x y z s ws t) (hs : Src H a n) (f : Fr [a] H H1) : All A H1 x y z s ws t := by
  have g : Fr [a, z.w, z.ah, z.be] H H1 := f.mono fun q m => by rw [List.mem_singleton.mp m]; simp
  have nt : NT H [a] := by
    obtain ⟨u, v, r, e, _⟩ := hs
    exact NT.cons e (by intro ys q; cases q) NT.nil
  have n1 := hs.ne2 h.wa.ob (by intro x y z q; cases q)
  have n2 := hs.ne2 h.wa.ahd strs_ints
  have n3 := hs.ne2 h.wa.bhd strs_ints
  have n4 := hs.ne2 h.wa.mst rows_ints
  exact ⟨keep_hw hs h.ha h.wa h.sep g, keep_mw hs h.ma h.wa h.sep g, h.wa.fr f nt (by simp [n1]) (by simp [n2]) (by simp [n3]) (by simp [n4]), h.at_, h.wok, h.sep⟩
/-- where a deed may change something -/
def S9 (x : HX) (y : MX) (z : WX) : List Addr := [x.p, x.l, x.d, y.m, y.l, y.d, z.w, z.ah, z.be]
structure Two (A : Ad) (H H2 : Hp) (S : List Addr) (x1 : HX) (y1 : MX) (z1 : WX) (s1 : HS) (ws1 : WS) (t1 : Nat) (v1 v2 : V) (T L : List PyData) : Prop where
  all : All A H2 x1 y1 z1 s1 ws1 t1
  ex : ∃ t a b t' a' b', v1 = .ref t ∧ v2 = .ref t' ∧ H2 t = some (.tup [.ref a, .ref b]) ∧ LD H2 a T ∧ LD H2 b L ∧ H2 t' = some (.tup [.ref a', .ref b']) ∧ LD H2 a' T ∧ LD H2 b' L ∧ a ≠ b ∧
    (∀ q ∈ [x1.l, x1.hl, y1.l, y1.cl, z1.ah, z1.be, z1.ms], a ≠ q ∧ b ≠ q) ∧ H a = none ∧ H b = none
  fr : Fr S H H2
theorem Two.brought {S : List Addr} (tw : Two A H H2 S x1 y1 z1 s1 ws1 t1 v1 v2 T L) (cT : Cmp T) (cL : Cmp L) {Q : VK} {E : XK} (k : ∀ H3, All A H3 x1 y1 z1 s1 ws1 t1 → Fr S H H3 → Q (.bl true) H3) : sp_l_brought [v1, v2] H2 Q E := by
  obtain ⟨al, ⟨t, a, b, t', a', b', rfl, rfl, h1, h2, h3, h4, h5, h6, nab, nq, fa, fb⟩, fr⟩ := tw
  refine ⟨t, a, b, t', a', b', T, L, rfl, h1, h2, h3, h4, h5, h6, nab, cT, cL, fun H3 f => ?_⟩
  obtain ⟨as, ea, _⟩ := h2
  obtain ⟨bs, eb, _⟩ := h3
  have nt : NT H2 [a, b] := NT.cons ea (by intro ys q; cases q) (NT.cons eb (by intro ys q; cases q) NT.nil)
  have nl : ∀ {p : Addr} {o : HO}, H2 p = some o → (∀ xs, o ≠ .lst xs) → p ∉ [a, b] := fun e no m => by
    simp only [List.mem_cons, List.not_mem_nil, or_false] at m
    rcases m with q | q
    · rw [q, ea] at e; exact no _ (Option.some.inj e).symm
    · rw [q, eb] at e; exact no _ (Option.some.inj e).symm
  have nk : ∀ {q : Addr}, q ∈ [x1.l, x1.hl, y1.l, y1.cl, z1.ah, z1.be, z1.ms] → q ∉ [a, b] := fun {q} m => by
    have := nq q m
    simp [this.1.symm, this.2.symm]
  obtain ⟨dx, hp⟩ := al.ha.ob
  have nca : x1.ca ∉ [a, b] := by
    cases e : s1.ch with
    | none =>
      have := al.ha.ch
      rw [e] at this
      rw [this.1]
      exact nl hp (by intro xs q; cases q)
    | some c =>
      obtain ⟨⟨dy, c1⟩, _⟩ := al.ha.chain e
      exact nl c1 (by intro xs q; cases q)
  have nct : y1.ct ∉ [a, b] := by
    cases e : s1.ch with
    | none =>
      have := al.ma.ch
      rw [e] at this
      rw [this.1]
      exact nl al.ma.ob (by intro xs q; cases q)
    | some c =>
      obtain ⟨c1, _⟩ := al.ma.chain e
      exact nl c1 (by intro xs q; cases q)
  refine k H3 ⟨al.ha.fr f nt (nl hp (by intro xs q; cases q)) (nk (by simp)) (nl al.ha.asks (by intro xs q; cases q)) nca (nk (by simp)),
    al.ma.fr f nt (nl al.ma.ob (by intro xs q; cases q)) (nk (by simp)) (nl al.ma.asks (by intro xs q; cases q)) nct (nk (by simp)),
    al.wa.fr f nt (nl al.wa.ob (by intro xs q; cases q)) (nk (by simp)) (nk (by simp)) (nk (by simp)), al.at_, al.wok, al.sep⟩ ?_
  exact Fr.less (p := a) (Fr.less (p := b) ((fr.mono fun q m => List.mem_cons_of_mem _ (List.mem_cons_of_mem _ m)).trans (f.mono fun q m => by
    simp only [List.mem_cons, List.not_mem_nil, or_false] at m ⊢
    rcases m with e | e
    · exact .inr (.inl e)
    · exact .inl e)) fb) fa
/-- the house, then the house that is led -/
theorem two_hm (al : All A H x y z s ws t) (e1 : x1.p = x.p) (e2 : x1.l = x.l) (e3 : x1.d = x.d ∨ H x1.d = none) (e4 : ∃ o, H x1.hl = some o) (e5 : x1.hl ≠ z.ah) (e6 : x1.hl ≠ z.be) (ha : HA A H1 x1 s1) (br : Brought H H1 v1 T L) (f1 : Fr [x.p, x.l, x.d] H H1)
    (d1 : y1.m = y.m) (d2 : y1.l = y.l) (d3 : y1.d = y.d) (d4 : y1.cl = y.cl ∨ H1 y1.cl = none) (ma : MA H2 y1 s1) (br2 : Brought H1 H2 v2 T L) (f2 : Fr [y.m, y.l, y.d] H1 H2) (at1 : s1.At t1) (ok1 : ws.Ok t1) :
    Two A H H2 (S9 x y z) x1 y1 z s1 ws t1 v1 v2 T L := by
  have ma1 := keep_m al.ha al.ma al.sep f1
  have wa1 := keep_wh al.ha al.wa al.sep f1
  have xd : x1.d ≠ y.d := by
    rcases e3 with e | e
    · rw [e]; exact al.sep.d
    · exact (ne_of_none al.ma.asks e).symm
  have se1 : Sep x1 y z := ⟨by rw [e2]; exact al.sep.l, xd, by rw [e2]; exact al.sep.xa, by rw [e2]; exact al.sep.xb, by rw [e2]; exact al.sep.xm, al.sep.ya, al.sep.yb, al.sep.ym, e5, e6, al.sep.ca, al.sep.cb⟩
  have ha2 := keep_h ha ma1 se1 f2
  have wa2 := keep_wm ma1 wa1 se1 f2
  have se2 : Sep x1 y1 z := by
    refine ⟨by rw [d2]; exact se1.l, by rw [d3]; exact se1.d, se1.xa, se1.xb, se1.xm, by rw [d2]; exact se1.ya, by rw [d2]; exact se1.yb, by rw [d2]; exact se1.ym, e5, e6, ?_, ?_⟩
    · rcases d4 with e | e
      · rw [e]; exact al.sep.ca
      · exact (ne_of_none wa1.ahd e).symm
    · rcases d4 with e | e
      · rw [e]; exact al.sep.cb
      · exact (ne_of_none wa1.bhd e).symm
  obtain ⟨p, a, b, rfl, h1, h2, h3, nab, fp, fa, fb⟩ := br.ex
  obtain ⟨p', a', b', rfl, h1', h2', h3', nab', fp', fa', fb'⟩ := br2.ex
  have nt : NT H1 [y.m, y.l, y.d] := NT.cons ma1.ob (by intro ys q; cases q) (NT.cons ma1.lst (by intro ys q; cases q) (NT.cons ma1.asks (by intro ys q; cases q) NT.nil))
  have nab3 : ∀ q, H q = none → q ∉ [y.m, y.l, y.d] := fun q hq m => by
    obtain ⟨⟨o1, b1⟩, ⟨o2, b2⟩, ⟨o3, b3⟩, _, _⟩ := al.ma.there
    simp only [List.mem_cons, List.not_mem_nil, or_false] at m
    rcases m with e | e | e
    · rw [← e, hq] at b1; cases b1
    · rw [← e, hq] at b2; cases b2
    · rw [← e, hq] at b3; cases b3
  have exA : ∃ o, H1 a = some o := by obtain ⟨xs, e, _⟩ := h2; exact ⟨_, e⟩
  have exB : ∃ o, H1 b = some o := by obtain ⟨xs, e, _⟩ := h3; exact ⟨_, e⟩
  have tu := Fr.tups f2 nt
  refine ⟨⟨ha2, ma, wa2, at1, ok1, se2⟩, ⟨p, a, b, p', a', b', rfl, rfl, f2 _ _ h1 (nab3 p fp), h2.to (f2.at' exA (nab3 a fa)) tu, h3.to (f2.at' exB (nab3 b fb)) tu, h1', h2', h3', nab, ?_, fa, fb⟩, ?_⟩
  · have old : ∀ {q : Addr}, (∃ o, H q = some o) → a ≠ q ∧ b ≠ q := fun ⟨o, e⟩ => ⟨(ne_of_none e fa).symm, (ne_of_none e fb).symm⟩
    obtain ⟨_, tl, _, _, thl⟩ := al.ha.there
    obtain ⟨_, ml, _, _, mcl⟩ := al.ma.there
    intro q m
    simp only [List.mem_cons, List.not_mem_nil, or_false] at m
    rcases m with e | e | e | e | e | e | e
    · rw [e, e2]; exact old tl
    · rw [e]; exact old e4
    · rw [e, d2]; exact old ml
    · rw [e]
      rcases d4 with e | e
      · rw [e]; exact old mcl
      · obtain ⟨_, ea⟩ := exA
        obtain ⟨_, eb⟩ := exB
        exact ⟨ne_of_none ea e, ne_of_none eb e⟩
    · rw [e]; exact old ⟨_, al.wa.ahd⟩
    · rw [e]; exact old ⟨_, al.wa.bhd⟩
    · rw [e]; exact old ⟨_, al.wa.mst⟩
  · unfold S9
    exact (f1.mono fun q m => by simp only [List.mem_cons, List.not_mem_nil, or_false] at m ⊢; rcases m with e | e | e <;> simp [e]).trans (f2.mono fun q m => by simp only [List.mem_cons, List.not_mem_nil, or_false] at m ⊢; rcases m with e | e | e <;> simp [e])
/-- the house that is led, then the house -/
theorem two_mh (al : All A H x y z s ws t) (d1 : y1.m = y.m) (d2 : y1.l = y.l) (d3 : y1.d = y.d) (d4 : y1.cl = y.cl) (ma : MA H1 y1 s1) (br2 : Brought H H1 v2 T L) (f1 : Fr [y.m, y.l, y.d] H H1)
    (e1 : x1.p = x.p) (e2 : x1.l = x.l) (e3 : x1.d = x.d ∨ H1 x1.d = none) (e5 : x1.hl = x.hl) (ha : HA A H2 x1 s1) (br : Brought H1 H2 v1 T L) (f2 : Fr [x.p, x.l, x.d] H1 H2) (at1 : s1.At t1) (ok1 : ws.Ok t1) :
    Two A H H2 (S9 x y z) x1 y1 z s1 ws t1 v1 v2 T L := by
  have ha1 := keep_h al.ha al.ma al.sep f1
  have wa1 := keep_wm al.ma al.wa al.sep f1
  have se1 : Sep x y1 z := ⟨by rw [d2]; exact al.sep.l, by rw [d3]; exact al.sep.d, al.sep.xa, al.sep.xb, al.sep.xm, by rw [d2]; exact al.sep.ya, by rw [d2]; exact al.sep.yb, by rw [d2]; exact al.sep.ym, al.sep.ha, al.sep.hb, by rw [d4]; exact al.sep.ca, by rw [d4]; exact al.sep.cb⟩
  have ma2 := keep_m ha1 ma se1 f2
  have wa2 := keep_wh ha1 wa1 se1 f2
  have xd : x1.d ≠ y1.d := by
    rcases e3 with e | e
    · rw [e]; exact se1.d
    · exact (ne_of_none ma.asks e).symm
  have se2 : Sep x1 y1 z := ⟨by rw [e2]; exact se1.l, xd, by rw [e2]; exact se1.xa, by rw [e2]; exact se1.xb, by rw [e2]; exact se1.xm, se1.ya, se1.yb, se1.ym, by rw [e5]; exact se1.ha, by rw [e5]; exact se1.hb, se1.ca, se1.cb⟩
  obtain ⟨p, a, b, rfl, h1, h2, h3, nab, fp, fa, fb⟩ := br.ex
  obtain ⟨p', a', b', rfl, h1', h2', h3', nab', fp', fa', fb'⟩ := br2.ex
  obtain ⟨dx, hp⟩ := ha1.ob
  have nt : NT H1 [x.p, x.l, x.d] := NT.cons hp (by intro ys q; cases q) (NT.cons ha1.lst (by intro ys q; cases q) (NT.cons ha1.asks (by intro ys q; cases q) NT.nil))
  have nn : ∀ q, H q = none → q ∉ [x.p, x.l, x.d] := fun q hq m => by
    obtain ⟨⟨o1, b1⟩, ⟨o2, b2⟩, ⟨o3, b3⟩, _, _⟩ := al.ha.there
    simp only [List.mem_cons, List.not_mem_nil, or_false] at m
    rcases m with e | e | e
    · rw [← e, hq] at b1; cases b1
    · rw [← e, hq] at b2; cases b2
    · rw [← e, hq] at b3; cases b3
  have exA : ∃ o, H1 a' = some o := by obtain ⟨xs, e, _⟩ := h2'; exact ⟨_, e⟩
  have exB : ∃ o, H1 b' = some o := by obtain ⟨xs, e, _⟩ := h3'; exact ⟨_, e⟩
  have tu := Fr.tups f2 nt
  have gone : ∀ q, H1 q = none → H q = none := fun q h => f1.none h fun m => by
    obtain ⟨⟨o1, b1⟩, ⟨o2, b2⟩, ⟨o3, b3⟩, _, _⟩ := ma.there
    simp only [List.mem_cons, List.not_mem_nil, or_false] at m
    rcases m with e | e | e
    · rw [← d1] at e; rw [← e, h] at b1; cases b1
    · rw [← d2] at e; rw [← e, h] at b2; cases b2
    · rw [← d3] at e; rw [← e, h] at b3; cases b3
  refine ⟨⟨ha, ma2, wa2, at1, ok1, se2⟩, ⟨p, a, b, p', a', b', rfl, rfl, h1, h2, h3, f2 _ _ h1' (nn p' fp'), h2'.to (f2.at' exA (nn a' fa')) tu, h3'.to (f2.at' exB (nn b' fb')) tu, nab, ?_, gone a fa, gone b fb⟩, ?_⟩
  · have old : ∀ {q : Addr}, (∃ o, H1 q = some o) → a ≠ q ∧ b ≠ q := fun ⟨o, e⟩ => ⟨(ne_of_none e fa).symm, (ne_of_none e fb).symm⟩
    obtain ⟨_, tl, _, _, thl⟩ := ha1.there
    obtain ⟨_, ml, _, _, mcl⟩ := ma.there
    intro q m
    simp only [List.mem_cons, List.not_mem_nil, or_false] at m
    rcases m with e | e | e | e | e | e | e
    · rw [e, e2]; exact old tl
    · rw [e, e5]; exact old thl
    · rw [e]; exact old ml
    · rw [e]; exact old mcl
    · rw [e]; exact old ⟨_, wa1.ahd⟩
    · rw [e]; exact old ⟨_, wa1.bhd⟩
    · rw [e]; exact old ⟨_, wa1.mst⟩
  · unfold S9
    exact (f1.mono fun q m => by simp only [List.mem_cons, List.not_mem_nil, or_false] at m ⊢; rcases m with e | e | e <;> simp [e]).trans (f2.mono fun q m => by simp only [List.mem_cons, List.not_mem_nil, or_false] at m ⊢; rcases m with e | e | e <;> simp [e])
/-- what a deed leaves -/
def After (A : Ad) (H : Hp) (S : List Addr) (x : HX) (y : MX) (z : WX) (t : Nat) (Q : VK) : Prop :=
  ∀ (H' : Hp) (x1 : HX) (y1 : MX) (z1 : WX) (s1 : HS) (ws1 : WS), x1.p = x.p → y1.m = y.m → z1.w = z.w → All A H' x1 y1 z1 s1 ws1 t → Fr S H H' → Q (.bl true) H'
def sp_deed (A : Ad) (m : Nat) : Sp := fun vs H Q _ => ∃ (a : Addr) (n : Nat) (x : HX) (y : MX) (z : WX) (s : HS) (ws : WS) (t : Nat), vs = [.ref a, .ref x.p, .ref y.m, .ref z.w] ∧ Src H a n ∧ n ≤ m ∧ All A H x y z s ws t ∧ t ≤ 42 ∧ After A H (a :: S9 x y z) x y z (t + 1) Q
def sp_l_wrote (A : Ad) : Sp := sp_deed A 100000
def sp_l_asked_one (A : Ad) : Sp := sp_deed A 100000
def sp_l_deed (A : Ad) : Sp := sp_deed A 1000
end
end Ck

namespace Ck
open PySem PySem.Spec PyProof.Rows L2
local macro_rules | `(tactic| walk_at "v") => `(tactic| (first | with_reducible refine n_seq ?_ | with_reducible refine n_ifs ?_ | with_reducible refine n_asg ?_ | with_reducible refine n_name ?_ | with_reducible refine n_ret ?_ | with_reducible refine n_drop ?_ | with_reducible refine n_next ?_ | ((with_reducible refine' n_var ?e ?_); (case e => rfl)) | with_reducible refine n_c ?_ | with_reducible refine n_op ?_ | with_reducible refine n_un ?_ | with_reducible refine n_test ?_ | with_reducible refine n_B ?_ | with_reducible refine n_ex ?_ | with_reducible refine n_and ?_ | with_reducible refine n_or ?_ | with_reducible refine n_not ?_ | with_reducible refine n_andV ?_ | with_reducible refine n_orV ?_ | with_reducible refine n_notV ?_ | with_reducible refine n_cons ?_ | with_reducible refine n_nil ?_ | with_reducible refine n_cb ?_ | with_reducible refine n_call ?_ | with_reducible refine n_I0 ?_ | with_reducible refine n_tup ?_ | with_reducible refine n_lst ?_ | with_reducible refine n_sl ?_ | with_reducible refine n_part ?_ | with_reducible refine n_nopart ?_ | with_reducible refine n_exI ?_ | with_reducible refine n_chain ?_ | with_reducible refine n_dget ?_ | with_reducible refine n_meth ?_ | with_reducible refine n_bm ?_ | with_reducible refine n_bm0 ?_ | with_reducible refine n_sfld ?_ | with_reducible refine n_fld ?_ | with_reducible refine n_for ?_ | with_reducible refine n_iL ?_ | with_reducible refine n_iE ?_ | with_reducible refine n_iR ?_ | with_reducible refine n_lc ?_ | with_reducible refine n_lcT ?_ | with_reducible refine n_lcS ?_ | with_reducible refine n_gTup ?_ | with_reducible refine n_gCons ?_ | with_reducible refine n_gNil ?_ | ((with_reducible refine n_eq ?e ?_); (case e => rfl)) | ((with_reducible refine n_ne ?e ?_); (case e => rfl)) | ((with_reducible refine n_iT ?e ?_); (case e => rfl)) | ((with_reducible refine n_iF ?e ?_); (case e => rfl))))
local macro_rules | `(tactic| walk_at "vv") => `(tactic| repeat walk_at "v")
section
variable {P : Program} {w : World} {K : PySem.W.Frag} {mg : Str → Option Value} {base : Heap} {A : Ad}
theorem ok_is_whole (T : Txt w K mg A) (D : GD K mg "is_whole" s_is_whole) : Cal P w K mg base 1 "is_whole" sp_is_whole := by
  have S := sc_is_whole.sc
  refine cal_mk D sc_is_whole (fun vs H Q E h => by obtain ⟨i, rfl, _⟩ := h; rfl) fun f cdv A0 outer s H vs Q E hr h => ?_
  obtain ⟨i, rfl, h⟩ := h
  refine ⟨_, (pss_one (ps_ret (pe_and (pe_callB call_isi (by rfl) T.b_isinstance (by decide +kernel) (pa_cons (pv 0) (pa_cons (pe_bltn (v := .ty "int") (u := .type "int") rfl T.b_int (by decide +kernel) rfl) pa_nil))) (pe_one (pe_not (pe_callB call_isi (by rfl) T.b_isinstance (by decide +kernel) (pa_cons (pv 0) (pa_cons (pe_bltn (v := .ty "bool") (u := .type "bool") rfl T.b_bool (by decide +kernel) rfl) pa_nil)))))))), ?_⟩
  walk_at "vv"
  refine n_isi (.base (.int i)) (kit_ty (r := true) ?_) ?_
  · decide +kernel
  walk_at "vv"
  refine n_isi (.base (.int i)) (kit_ty (r := false) ?_) ?_
  · decide +kernel
  walk_at "vv"
  exact h
theorem ok_is_count (T : Txt w K mg A) (D : GD K mg "is_count" s_is_count) (c_is_whole : Cal P w K mg base 1 "is_whole" sp_is_whole) : Cal P w K mg base 2 "is_count" sp_is_count := by
  have S := sc_is_count.sc
  refine cal_mk D sc_is_count (fun vs H Q E h => by obtain ⟨i, l, rfl, _⟩ := h; rfl) fun f cdv A0 outer s H vs Q E hr h => ?_
  obtain ⟨i, l, rfl, h⟩ := h
  refine ⟨_, (pss_one (ps_ret (pe_and (pc c_is_whole hr (by decide) rfl (pa_cons (pv 0) pa_nil)) (pe_one (pe_cmpR op_ge (pv 0) (pv 1) (nomark _)))))), ?_⟩
  walk_at "vv"
  refine ⟨i, rfl, ?_⟩
  walk_at "vv"
  exact h
theorem ok_is_name (T : Txt w K mg A) (D : GD K mg "is_name" s_is_name) : Cal P w K mg base 1 "is_name" sp_is_name := by
  have S := sc_is_name.sc
  refine cal_mk D sc_is_name (fun vs H Q E h => by obtain ⟨x, rfl, _⟩ := h; rfl) fun f cdv A0 outer s H vs Q E hr h => ?_
  obtain ⟨x, rfl, nm, h⟩ := h
  refine ⟨_, (pss_cons (ps_if (PW.pt (pw_or (pt_not (pt_val (pe_callB call_isi (by rfl) T.b_isinstance (by decide +kernel) (pa_cons (pv 0) (pa_cons (pe_bltn (v := .ty "str") (u := .type "str") rfl T.b_str (by decide +kernel) rfl) pa_nil))))) (pw_or1 (pt_not (pt_chain op_le op_le pe_int (pe_callB call_len_str (by rfl) T.b_len PySem.boot_len (pa_cons (pv 0) pa_nil)) (pgl T.g_MOST_LETTERS rfl))))))
          (pss_one (ps_ret pe_bl))
          pss_nil)
        (pss_one (ps_ret (pe_callB (cr_all rfl) (by rfl) T.b_all (by decide +kernel) (pa_cons (pe_lc (own := [("letter", 1)]) (g := gName 1) (by rfl) S.nd (pi_str (pv 0)) (blkOk_by (own := [("letter", 1)]) (N := N_is_name) (sc := defScope s_is_name) (by decide +kernel)) (fun _ _ _ _ _ => pg_name (i := 1) S.nd rfl (Or.inl rfl)) (fun _ _ _ _ _ => pts_nil) (fun _ _ _ _ _ => (pe_cmpR op_in_sign (pv 1) (pgl T.g_ALPHABET rfl) rfl))) pa_nil))))), ?_⟩
  walk_at "vv"
  refine n_isi (.base (.str x)) (kit_ty (r := true) ?_) ?_
  · decide +kernel
  walk_at "vv"
  refine ⟨x, rfl, Nat.le_trans nm.hi (by decide), ?_⟩
  walk_at "vv"
  refine n_iT (decide_eq_true (by have := nm.lo; omega)) ?_
  walk_at "vv"
  refine n_iF (by rw [decide_eq_true (by have := nm.hi; omega)]; rfl) ?_
  walk_at "vv"
  have hsz : x.cps.size ≤ 8 := nm.hi
  refine ⟨x, rfl, lcg_str (Rvs (List.replicate x.cps.size (.bl true))) (by omega) (fun _ => rfl) rvs_keeps (fun j c hc H2 s2 Qe k => ?_) fun D H2 ys hD s2 h2 hl hR => ?_⟩
  · walk_at "vv"
    refine ⟨c, alpha, rfl, rfl, ?_⟩
    have hm : c ∈ x.cps.toList := by
      obtain ⟨h1, h2⟩ := Array.getElem?_eq_some_iff.mp hc
      rw [← h2]
      exact Array.getElem_mem_toList h1
    rw [decide_eq_true (nm.al c hm)]
    refine k _ _ (Same.refl _) ?_
    show (List.replicate _ _)[j]? = _
    rw [List.getElem?_replicate, if_pos (Array.getElem?_eq_some_iff.mp hc).1]
  · walk_at "vv"
    have e : ys = (List.replicate x.cps.size true).map V.bl := by
      rw [List.map_replicate]
      exact lst_of (by rw [hl, List.length_replicate]) hR
    refine ⟨D, List.replicate x.cps.size true, rfl, SqL.of (by rw [← e]; exact h2), ?_⟩
    have e2 : (List.replicate x.cps.size true).all id = true := by simp
    rw [e2]
    exact h _ s2
theorem ok_is_row (T : Txt w K mg A) (D : GD K mg "is_row" s_is_row) (c_is_name : Cal P w K mg base 1 "is_name" sp_is_name) (c_is_count : Cal P w K mg base 2 "is_count" sp_is_count) : Cal P w K mg base 3 "is_row" sp_is_row := by
  have S := sc_is_row.sc
  refine cal_mk D sc_is_row (fun vs H Q E h => by obtain ⟨r, rfl, _⟩ := h; rfl) fun f cdv A0 outer s H vs Q E hr h => ?_
  obtain ⟨r, rfl, ra, ok, h⟩ := h
  refine ⟨_, (pss_cons (ps_if (PW.pt (pw_or (pt_not (pt_val (pe_callB call_isi (by rfl) T.b_isinstance (by decide +kernel) (pa_cons (pv 0) (pa_cons (pe_bltn (v := .ty "tuple") (u := .type "tuple") rfl T.b_tuple (by decide +kernel) rfl) pa_nil))))) (pw_or1 (pt_cmpR op_ne (pe_callB call_len_seq (by rfl) T.b_len PySem.boot_len (pa_cons (pv 0) pa_nil)) pe_int (nomark _)))))
          (pss_one (ps_ret pe_bl))
          pss_nil)
        (pss_one (ps_ret (pe_and (pc c_is_name hr (by decide) rfl (pa_cons (pe_ix ix_tup (pv 0) pe_int (fun _ _ => rfl)) pa_nil)) (pe_and (pc c_is_count hr (by decide) rfl (pa_cons (pe_ix ix_tup (pv 0) pe_int (fun _ _ => rfl)) (pa_cons pe_int pa_nil))) (pe_and (pc c_is_name hr (by decide) rfl (pa_cons (pe_ix ix_tup (pv 0) pe_int (fun _ _ => rfl)) pa_nil)) (pe_one (pc c_is_count hr (by decide) rfl (pa_cons (pe_ix ix_tup (pv 0) pe_int (fun _ _ => rfl)) (pa_cons pe_int pa_nil)))))))))), ?_⟩
  walk_at "vv"
  refine n_isi (.base (.tup ra)) (kit_ty (r := true) ?_) ?_
  · decide +kernel
  walk_at "vv"
  refine ⟨_, _, rfl, .inr (SqT.of ra), ?_⟩
  walk_at "vv"
  refine n_ixT (SqT.of ra) (v := .str r.asker) rfl ?_
  walk_at "vv"
  refine ⟨r.asker, rfl, ok.a, fun H1 s1 => ?_⟩
  have ra1 := s1 _ _ ra
  walk_at "vv"
  refine n_ixT (SqT.of ra1) (v := .int r.num) rfl ?_
  walk_at "vv"
  refine ⟨r.num, 1, rfl, ?_⟩
  rw [decide_eq_true ok.n]
  walk_at "vv"
  refine n_ixT (SqT.of ra1) (v := .str r.key) rfl ?_
  walk_at "vv"
  refine ⟨r.key, rfl, ok.k, fun H2 s2 => ?_⟩
  have ra2 := s2 _ _ ra1
  walk_at "vv"
  refine n_ixT (SqT.of ra2) (v := .int r.worth) rfl ?_
  walk_at "vv"
  refine ⟨r.worth, 0, rfl, ?_⟩
  rw [decide_eq_true ok.w]
  exact h _ (s1.trans s2)
theorem lastW_snoc {l : List Row} {r : Row} {key : Str} : lastW (l ++ [r]) key = if r.key = key then some r.worth else lastW l key := by
  unfold lastW
  rw [List.foldl_append]
  rfl
theorem ok_last_worth (T : Txt w K mg A) (D : GD K mg "last_worth" s_last_worth) : Cal P w K mg base 1 "last_worth" sp_last_worth := by
  have S := sc_last_worth.sc
  refine cal_mk D sc_last_worth (fun vs H Q E h => by obtain ⟨a, l, key, rfl, _⟩ := h; rfl) fun f cdv A0 outer s H vs Q E hr h => ?_
  obtain ⟨a, l, key, rfl, hl, hR, h⟩ := h
  refine ⟨_, (pss_cons (ps_set (i := 2) S.nd rfl (Or.inl rfl) pe_non)
        (pss_cons (ps_for PassesOwn.never rfl (pi_list (pv 0)) (pg_name (i := 3) S.nd rfl (Or.inl rfl))
          (pss_one (ps_if (pt_cmpR op_eq (pe_ix ix_tup (pv 3) pe_int (fun _ _ => rfl)) (pv 1) (nomark _))
            (pss_one (ps_set (i := 2) S.nd rfl (Or.inl rfl) (pe_ix ix_tup (pv 3) pe_int (fun _ _ => rfl))))
            pss_nil)))
        (pss_one (ps_ret (pv 2))))), ?_⟩
  walk_at "vv"
  refine ⟨a, rfl, ⟨_, SqL.of hl⟩, for_list (K := K) (a := a) (xs := l.map Row.v) (fun i σ H' => H' = H ∧ ∃ v, σ = [some (.ref a), some (.str key), some (oi (lastW (l.take i) key)), v]) ⟨rfl, none, rfl⟩ (fun i σ H' _ p => by rw [p.1]; exact SqL.of hl) ?_ ?_⟩
  · rintro i x σ H' hi ⟨rfl, v, rfl⟩
    obtain ⟨r, hr1, rfl⟩ : ∃ r, l[i]? = some r ∧ x = Row.v r := by
      rw [List.getElem?_map] at hi
      obtain ⟨r, h1, h2⟩ := Option.map_eq_some_iff.mp hi
      exact ⟨r, h1, h2.symm⟩
    have ra := hR.at_ r (List.mem_of_getElem? hr1)
    have et : l.take (i + 1) = l.take i ++ [r] := by rw [List.take_add_one, hr1]; rfl
    walk_at "vv"
    refine n_ixT (SqT.of ra) (v := .str r.key) rfl ?_
    walk_at "vv"
    by_cases e : r.key = key
    · refine n_iT (by rw [e]; exact decide_eq_true rfl) ?_
      walk_at "vv"
      refine n_ixT (SqT.of ra) (v := .int r.worth) rfl ?_
      walk_at "vv"
      refine ⟨rfl, some (.ref r.ad), ?_⟩
      rw [et, lastW_snoc, if_pos e]
      rfl
    · refine n_iF (decide_eq_false fun q => e (by injection q)) ?_
      walk_at "vv"
      refine ⟨rfl, some (.ref r.ad), ?_⟩
      rw [et, lastW_snoc, if_neg e]
      rfl
  · rintro σ H' ⟨rfl, v, rfl⟩
    walk_at "vv"
    rw [List.length_map, List.take_length] at *
    exact h
end
end Ck

namespace Ck
open PySem PySem.Spec PyProof.Rows L2
local macro_rules | `(tactic| walk_at "v") => `(tactic| (first | with_reducible refine n_seq ?_ | with_reducible refine n_ifs ?_ | with_reducible refine n_asg ?_ | with_reducible refine n_name ?_ | with_reducible refine n_ret ?_ | with_reducible refine n_drop ?_ | with_reducible refine n_next ?_ | ((with_reducible refine' n_var ?e ?_); (case e => rfl)) | with_reducible refine n_c ?_ | with_reducible refine n_op ?_ | with_reducible refine n_un ?_ | with_reducible refine n_test ?_ | with_reducible refine n_B ?_ | with_reducible refine n_ex ?_ | with_reducible refine n_and ?_ | with_reducible refine n_or ?_ | with_reducible refine n_not ?_ | with_reducible refine n_andV ?_ | with_reducible refine n_orV ?_ | with_reducible refine n_notV ?_ | with_reducible refine n_cons ?_ | with_reducible refine n_nil ?_ | with_reducible refine n_cb ?_ | with_reducible refine n_call ?_ | with_reducible refine n_I0 ?_ | with_reducible refine n_tup ?_ | with_reducible refine n_lst ?_ | with_reducible refine n_sl ?_ | with_reducible refine n_part ?_ | with_reducible refine n_nopart ?_ | with_reducible refine n_exI ?_ | with_reducible refine n_chain ?_ | with_reducible refine n_dget ?_ | with_reducible refine n_meth ?_ | with_reducible refine n_bm ?_ | with_reducible refine n_bm0 ?_ | with_reducible refine n_sfld ?_ | with_reducible refine n_fld ?_ | with_reducible refine n_for ?_ | with_reducible refine n_lss ?_ | with_reducible refine n_kget ?_ | with_reducible refine n_iL ?_ | with_reducible refine n_iE ?_ | with_reducible refine n_iR ?_ | with_reducible refine n_lc ?_ | with_reducible refine n_lcT ?_ | with_reducible refine n_lcS ?_ | with_reducible refine n_gTup ?_ | with_reducible refine n_gCons ?_ | with_reducible refine n_gNil ?_ | ((with_reducible refine n_eq ?e ?_); (case e => rfl)) | ((with_reducible refine n_ne ?e ?_); (case e => rfl)) | ((with_reducible refine n_iT ?e ?_); (case e => rfl)) | ((with_reducible refine n_iF ?e ?_); (case e => rfl))))
local macro_rules | `(tactic| walk_at "vv") => `(tactic| repeat walk_at "v")
section
variable {P : Program} {w : World} {K : PySem.W.Frag} {mg : Str → Option Value} {base : Heap} {A : Ad}
theorem ok_place_in (T : Txt w K mg A) (D : GD K mg "place_in" s_place_in) : Cal P w K mg base 1 "place_in" sp_place_in := by
  have S := sc_place_in.sc
  refine cal_mk D sc_place_in (fun vs H Q E h => by obtain ⟨a, l, x, n, rfl, _⟩ := h; rfl) fun f cdv A0 outer s H vs Q E hr h => ?_
  obtain ⟨a, l, x, n, rfl, hl, hR, hx, h⟩ := h
  refine ⟨_, (pss_cons (ps_for PassesOwn.never rfl (pi_enum (by rfl) T.b_enumerate (pa_cons (pv 0) pa_nil)) (pg_tup (by rfl) (pgs_cons (pg_name (i := 3) S.nd rfl (.inl rfl)) (pgs_cons (pg_name (i := 4) S.nd rfl (.inl rfl)) pgs_nil)))
          (pss_one (ps_if (pt_cmpR (op_eqD hr.units) (pe_slice sl_tupA (pv 4) po_none (po_some pe_int)) (pe_tup (pa_cons (pv 1) (pa_cons (pv 2) pa_nil))) (nomark _))
            (pss_one (ps_ret (pe_op op_add (pv 3) pe_int)))
            pss_nil)))
        (pss_one (ps_ret pe_non))), ?_⟩
  walk_at "vv"
  refine ⟨a, _, rfl, SqL.of hl, for_enum (K := K) (a := a) (xs := l.map Row.v) (fun i σ H' => Same H H' ∧ (∃ v u, σ = [some (.ref a), some (.str x), some (.int n), v, u]) ∧ ∀ (j : Nat) (r : Row), j < i → l[j]? = some r → ¬ (r.asker = x ∧ r.num = n))
    ⟨Same.refl _, ⟨none, none, rfl⟩, fun j r hj => absurd hj (Nat.not_lt_zero _)⟩ (fun i σ H' _ p => SqL.of (p.1 _ _ hl)) ?_ ?_⟩
  · rintro i y σ H' Tu hi ⟨s1, ⟨v, u, rfl⟩, hno⟩ hT
    obtain ⟨r, hr1, rfl⟩ : ∃ r, l[i]? = some r ∧ y = Row.v r := by
      rw [List.getElem?_map] at hi
      obtain ⟨r, h1, h2⟩ := Option.map_eq_some_iff.mp hi
      exact ⟨r, h1, h2.symm⟩
    have s2 : Same H (upd H' Tu (.tup [.int (i : Int), r.v])) := Same.trans s1 (Same.new hT)
    have ra := s2 _ _ (hR.at_ r (List.mem_of_getElem? hr1))
    have ro := hR.ok r (List.mem_of_getElem? hr1)
    walk_at "vv"
    refine ⟨Tu, _, rfl, SqT.of upd_same, rfl, ?_⟩
    walk_at "vv"
    refine ⟨r.ad, r.vs, rfl, SqT.of ra, fun q => absurd q.2 (by show ¬ (2 : Nat) = 4; omega), fun _ p hp => ?_⟩
    rw [show cutV r.vs none (some 2) = [.str r.asker, .int r.num] from cut_to (n := 2)]
    walk_at "vv"
    refine ⟨by show 2 ≤ sizeLine; decide, fun q hq => ?_⟩
    have npq : p ≠ q := ne_of_none upd_same hq
    refine ⟨.tuple [.str r.asker, .int r.num], .tuple [.str x, .int n], TD.dp (.tup (by rw [upd_ne npq]; exact upd_same) (.cons (.str _) (.cons (.int _) .nil))), TD.dp (.tup upd_same (.cons (.str _) (.cons (.int _) .nil))), ?_, ?_, ?_⟩
    · exact (sh_tup (n := 0) fun d hd => by
        rcases List.mem_cons.mp hd with e | hd
        · rw [e]; exact ro.a.sh
        · rw [List.mem_singleton.mp hd]; exact sh_int).shaped (by decide)
    · exact (sh_tup (n := 0) fun d hd => by
        rcases List.mem_cons.mp hd with e | hd
        · rw [e]; exact hx.sh
        · rw [List.mem_singleton.mp hd]; exact sh_int).shaped (by decide)
    have s3 := Same.put (o := .tup [.str x, .int n]) (Same.put (o := .tup [.str r.asker, .int r.num]) s2 ((Fr.ofSame (S := []) s2).none hp (by simp))) ((Fr.ofSame (S := []) (Same.put (o := .tup [.str r.asker, .int r.num]) s2 ((Fr.ofSame (S := []) s2).none hp (by simp)))).none hq (by simp))
    rw [eqv_an]
    by_cases e : r.asker = x ∧ r.num = n
    · walk_at "v"
      refine n_iT (by rw [decide_eq_true e.1, decide_eq_true e.2]; rfl) ?_
      walk_at "vv"
      have hk := h _ s3
      rw [idx_some hr1 e hno] at hk
      exact hk
    · walk_at "v"
      refine n_iF (by rw [← Bool.decide_and]; exact decide_eq_false e) ?_
      walk_at "vv"
      refine ⟨s3, ⟨some (.int (i : Int)), some r.v, rfl⟩, fun j r' hj hr' => ?_⟩
      by_cases hji : j < i
      · exact hno j r' hji hr'
      · have : j = i := by omega
        rw [this, hr1] at hr'
        rw [← Option.some.inj hr']
        exact e
  · rintro σ H' ⟨s1, ⟨v, u, rfl⟩, hno⟩
    walk_at "vv"
    have hk := h _ s1
    rw [idx_none fun j r hj => hno j r (by rw [List.length_map]; exact (List.getElem?_eq_some_iff.mp hj).1) hj] at hk
    exact hk
theorem ok_are_houses (T : Txt w K mg A) (D : GD K mg "are_houses" s_are_houses) (c_is_name : Cal P w K mg base 1 "is_name" sp_is_name) : Cal P w K mg base 2 "are_houses" sp_are_houses := by
  have S := sc_are_houses.sc
  refine cal_mk D sc_are_houses (fun vs H Q E h => by obtain ⟨a, ns, rfl, _⟩ := h; rfl) fun f cdv A0 outer s H vs Q E hr h => ?_
  obtain ⟨a, ns, rfl, hl, hh, h⟩ := h
  refine ⟨_, (pss_cons (ps_if (PW.pt (pw_or (pt_not (pt_val (pe_callB call_isi (by rfl) T.b_isinstance (by decide +kernel) (pa_cons (pv 0) (pa_cons (pe_bltn (v := .ty "list") (u := .type "list") rfl T.b_list (by decide +kernel) rfl) pa_nil))))) (pw_or (pt_not (pt_chain op_le op_le pe_int (pe_callB call_len_seq (by rfl) T.b_len PySem.boot_len (pa_cons (pv 0) pa_nil)) (pgl T.g_MOST_HOUSES rfl))) (pw_or1 (pt_not (pt_val (pe_callB (cr_all rfl) (by rfl) T.b_all (by decide +kernel) (pa_cons (pe_lc (own := [("one", 1)]) (g := gName 1) (by rfl) S.nd (pi_list (pv 0)) (blkOk_by (own := [("one", 1)]) (N := N_are_houses) (sc := defScope s_are_houses) (by decide +kernel)) (fun _ _ _ _ _ => pg_name (i := 1) S.nd rfl (Or.inl rfl)) (fun _ _ _ _ _ => pts_nil) (fun _ _ _ _ _ => (pc c_is_name hr (by decide) rfl (pa_cons (pv 1) pa_nil)))) pa_nil))))))))
          (pss_one (ps_ret pe_bl))
          pss_nil)
        (pss_one (ps_ret (pe_cmpR op_eq (pe_lenSetS rfl T.b_len rfl T.b_set (pv 0)) (pe_callB call_len_seq (by rfl) T.b_len PySem.boot_len (pa_cons (pv 0) pa_nil)) (nomark _))))), ?_⟩
  walk_at "vv"
  refine n_isi (.base (.lst hl)) (kit_ty (r := true) ?_) ?_
  · decide +kernel
  walk_at "vv"
  refine ⟨a, _, rfl, .inl (SqL.of hl), ?_⟩
  rw [List.length_map]
  have lo := hh.lo
  have hi := hh.hi
  walk_at "vv"
  refine n_iT (decide_eq_true (by omega)) ?_
  walk_at "vv"
  refine n_iF (by rw [decide_eq_true (by omega)]; rfl) ?_
  walk_at "vv"
  refine ⟨a, rfl, ⟨_, SqL.of hl⟩, lcg_list (Rvs (List.replicate ns.length (.bl true))) hl (by rw [List.length_map]; omega) (fun _ => rfl) rvs_keeps (fun j y hj H2 s2 Qe k => ?_) fun E2 H2 ys hD s2 h2 hl2 hR => ?_⟩
  · obtain ⟨x, hx, rfl⟩ : ∃ x, ns[j]? = some x ∧ y = V.str x := by
      rw [List.getElem?_map] at hj
      obtain ⟨r, h1, h2⟩ := Option.map_eq_some_iff.mp hj
      exact ⟨r, h1, h2.symm⟩
    walk_at "vv"
    refine ⟨x, rfl, hh.ok x (List.mem_of_getElem? hx), fun H3 s3 => k _ _ s3 ?_⟩
    show (List.replicate _ _)[j]? = _
    rw [List.getElem?_replicate, if_pos (List.getElem?_eq_some_iff.mp hx).1]
  · walk_at "vv"
    rw [List.length_map] at hl2
    have e : ys = (List.replicate ns.length true).map V.bl := by
      rw [List.map_replicate]
      exact lst_of (by rw [hl2, List.length_replicate]) hR
    refine ⟨E2, List.replicate ns.length true, rfl, SqL.of (by rw [← e]; exact h2), ?_⟩
    have e2 : (List.replicate ns.length true).all id = true := by simp
    rw [e2]
    walk_at "vv"
    have hl3 := s2 _ _ hl
    refine ⟨a, ns, rfl, hl3, hh.nd, by omega, ?_⟩
    walk_at "vv"
    refine ⟨a, _, rfl, .inl (SqL.of hl3), ?_⟩
    rw [List.length_map]
    walk_at "vv"
    rw [decide_eq_true rfl]
    exact h _ s2
theorem ok_C_init (T : Txt w K mg A) (D : ND K mg "Chain" A.CC "Chain.__init__" s_C_init) (c_is_count : Cal P w K mg base 2 "is_count" sp_is_count) (c_are_houses : Cal P w K mg base 2 "are_houses" sp_are_houses) : Mak P w K mg base 3 "Chain" A.CC (sp_C_init A) := by
  have S := sc_C_init.sc
  refine mak_mk D sc_C_init (fun vs H Q E h => by obtain ⟨p, dx, a, n, ns, rfl, _⟩ := h; rfl) fun f cdv A0 outer s H vs Q E hr h => ?_
  obtain ⟨p, dx, a, n, ns, rfl, hp, hn, hl, hh, h⟩ := h
  refine ⟨_, (pss_cons (ps_if (PW.pt (pw_or (pt_not (pt_val (pc c_is_count hr (by decide) rfl (pa_cons (pv 1) (pa_cons pe_int pa_nil))))) (pw_or1 (pt_not (pt_val (pc c_are_houses hr (by decide) rfl (pa_cons (pv 2) pa_nil)))))))
          (pss_one ps_never)
          pss_nil)
        (pss_cons (ps_fld (pv 0) (pv 1) rfl)
        (pss_one (ps_fld (pv 0) (pe_callTy call_list_of (by rfl) T.b_list (by decide +kernel) (pa_cons (pv 2) pa_nil)) rfl)))), ?_⟩
  walk_at "vv"
  refine ⟨n, 1, rfl, ?_⟩
  rw [decide_eq_true hn]
  walk_at "vv"
  refine ⟨a, ns, rfl, hl, hh, fun H1 s1 => ?_⟩
  have hp1 := s1 _ _ hp
  have hl1 := s1 _ _ hl
  walk_at "vv"
  refine n_sfldx hp1 T.clC T.c_number (by show 0 < 1000; decide) ?_
  have npa : a ≠ p := ne_of hl1 hp1 (by intro z; cases z)
  walk_at "vv"
  refine ⟨a, _, rfl, .inl (SqL.of (by rw [upd_ne npa]; exact hl1)), fun hl2 hn2 => ?_⟩
  have n3 : p ≠ hl2 := ne_of_none upd_same hn2
  walk_at "vv"
  refine n_sfldx (by rw [upd_ne n3]; exact upd_same) T.clC T.c_houses (by show 1 < 1000; decide) ?_
  walk_at "vv"
  have hn1 : H1 hl2 = none := by rw [upd_ne n3.symm] at hn2; exact hn2
  refine h _ hl2 ((Fr.ofSame (S := []) s1).none hn1 (by simp)) (by rw [upd_same, new_c]) (by rw [upd_ne n3.symm, upd_same]) ?_
  refine Fr.upd (Fr.new (Fr.upd (Fr.ofSame s1) (by simp)) ((Fr.ofSame (S := []) s1).none hn1 (by simp))) (by simp)
theorem ok_C_place (T : Txt w K mg A) (D : MD K A.CC "place" "Chain.place" s_C_place) (c_is_name : Cal P w K mg base 1 "is_name" sp_is_name) : Met P w K mg base 2 A.CC "place" (sp_C_place A) := by
  have S := sc_C_place.sc
  refine met_mk D sc_C_place (fun vs H Q E h => by obtain ⟨a, hl, c, rfl, _⟩ := h; rfl) fun f cdv A0 outer s H vs Q E hr h => ?_
  obtain ⟨a, hl, c, rfl, ⟨⟨dx, ha⟩, hh⟩, ok, h⟩ := h
  refine ⟨_, (pss_cons (ps_if (PW.pt (pw_or (pt_not (pt_val (pc c_is_name hr (by decide) rfl (pa_cons (pv 1) pa_nil)))) (pw_or1 (pt_cmpR op_notIn_seq (pv 1) (pe_fld (pv 0) rfl) rfl))))
          (pss_one ps_never)
          pss_nil)
        (pss_one (ps_ret (pe_bm PySem.F.plainAttrs_list PySem.F.slot_list_index PySem.F.type_list_index mt_index (pe_fld (pv 0) rfl) (pa_cons (pv 1) pa_nil))))), ?_⟩
  have me : ("me" : Str) ∈ c.all := List.mem_of_getElem? c.all_at
  walk_at "vv"
  refine ⟨"me", rfl, ok.h.ok _ me, fun H1 s1 => ?_⟩
  have ha1 := s1 _ _ ha
  have hh1 := s1 _ _ hh
  walk_at "vv"
  refine ⟨_, _, _, _, _, rfl, ha1, T.clC, T.c_houses, cF_houses, ?_⟩
  refine ⟨hl, _, rfl, .inl (SqL.of hh1), rfl, flat_strs _, ?_⟩
  rw [inV_strs, decide_eq_true me]
  walk_at "vv"
  refine ⟨_, _, _, _, _, rfl, ha1, T.clC, T.c_houses, cF_houses, ?_⟩
  refine ⟨n_lty hh1, ?_⟩
  walk_at "vv"
  refine ⟨hl, c.all.map V.str, .str "me", c.A.length, .str "me", rfl, rfl, SqL.of hh1, rfl, flat_strs _, by rw [List.getElem?_map, c.all_at]; rfl, beq_self_eq_true ("me" : Str), fun m z hm hz => ?_, ?_⟩
  · rw [List.getElem?_map] at hz
    obtain ⟨x, h1, rfl⟩ := Option.map_eq_some_iff.mp hz
    show (x == ("me" : Str)) = false
    refine beq_eq_false_iff_ne.mpr fun e => ?_
    have := nd_ix ok.h.nd (h1.trans (by rw [e])) c.all_at
    omega
  · exact h _ s1
theorem ok_C_ahead_of (T : Txt w K mg A) (D : MD K A.CC "ahead_of" "Chain.ahead_of" s_C_ahead_of) (c_C_place : Met P w K mg base 2 A.CC "place" (sp_C_place A)) : Met P w K mg base 3 A.CC "ahead_of" (sp_C_ahead_of A) := by
  have S := sc_C_ahead_of.sc
  refine met_mk D sc_C_ahead_of (fun vs H Q E h => by obtain ⟨a, hl, c, rfl, _⟩ := h; rfl) fun f cdv A0 outer s H vs Q E hr h => ?_
  obtain ⟨a, hl, c, rfl, ca, ok, h⟩ := h
  obtain ⟨⟨dx, ha⟩, hh⟩ := id ca
  refine ⟨_, (pss_cons (ps_set (i := 2) S.nd rfl (Or.inl rfl) (pm c_C_place hr (by decide) (pv 0) (pa_cons (pv 1) pa_nil)))
        (pss_cons (ps_if (pt_cmpR op_eq (pv 2) pe_int (nomark _))
          (pss_one (ps_ret pe_non))
          pss_nil)
        (pss_one (ps_ret (pe_ix ix_list (pe_fld (pv 0) rfl) (pe_op op_sub (pv 2) pe_int) (fun _ _ => rfl)))))), ?_⟩
  walk_at "vv"
  refine n_methx ha (cF_no (by decide +kernel)) ?_
  walk_at "vv"
  refine ⟨a, hl, c, rfl, ca, ok, fun H1 s1 => ?_⟩
  have ha1 := s1 _ _ ha
  have hh1 := s1 _ _ hh
  walk_at "vv"
  by_cases e : c.A = []
  · refine n_iT (by rw [e]; decide) ?_
    walk_at "vv"
    rw [c.ah_nil e] at h
    exact h _ s1
  · refine n_iF (decide_eq_false fun q => e (by injection q with q; exact List.length_eq_zero_iff.mp (by omega))) ?_
    obtain ⟨x, e1, e2⟩ := c.all_ah e
    have hp : 0 < c.A.length := List.length_pos_iff.mpr e
    walk_at "vv"
    refine ⟨_, _, _, _, _, rfl, ha1, T.clC, T.c_houses, cF_houses, ?_⟩
    walk_at "vv"
    refine n_ixL (SqL.of hh1) (at_of (j := c.A.length - 1) (v := .str x) (by omega) (by rw [List.getElem?_map, e2]; rfl)) ?_
    rw [e1] at h
    exact h _ s1
theorem ok_C_behind (T : Txt w K mg A) (D : MD K A.CC "behind" "Chain.behind" s_C_behind) (c_C_place : Met P w K mg base 2 A.CC "place" (sp_C_place A)) : Met P w K mg base 3 A.CC "behind" (sp_C_behind A) := by
  have S := sc_C_behind.sc
  refine met_mk D sc_C_behind (fun vs H Q E h => by obtain ⟨a, hl, c, rfl, _⟩ := h; rfl) fun f cdv A0 outer s H vs Q E hr h => ?_
  obtain ⟨a, hl, c, rfl, ca, ok, h⟩ := h
  obtain ⟨⟨dx, ha⟩, hh⟩ := id ca
  refine ⟨_, (pss_cons (ps_set (i := 2) S.nd rfl (Or.inl rfl) (pm c_C_place hr (by decide) (pv 0) (pa_cons (pv 1) pa_nil)))
        (pss_cons (ps_if (pt_cmpR op_eq (pe_op op_add (pv 2) pe_int) (pe_callB call_len_seq (by rfl) T.b_len PySem.boot_len (pa_cons (pe_fld (pv 0) rfl) pa_nil)) (nomark _))
          (pss_one (ps_ret pe_non))
          pss_nil)
        (pss_one (ps_ret (pe_ix ix_list (pe_fld (pv 0) rfl) (pe_op op_add (pv 2) pe_int) (fun _ _ => rfl)))))), ?_⟩
  walk_at "vv"
  refine n_methx ha (cF_no (by decide +kernel)) ?_
  walk_at "vv"
  refine ⟨a, hl, c, rfl, ca, ok, fun H1 s1 => ?_⟩
  have ha1 := s1 _ _ ha
  have hh1 := s1 _ _ hh
  walk_at "vv"
  refine ⟨_, _, _, _, _, rfl, ha1, T.clC, T.c_houses, cF_houses, ?_⟩
  walk_at "vv"
  refine ⟨hl, _, rfl, .inl (SqL.of hh1), ?_⟩
  rw [List.length_map, c.len]
  walk_at "vv"
  by_cases e : c.B = []
  · refine n_iT (by rw [e]; exact decide_eq_true (by congr 1)) ?_
    walk_at "vv"
    rw [c.bh_nil e] at h
    exact h _ s1
  · refine n_iF (decide_eq_false fun q => e (by injection q with q; exact List.length_eq_zero_iff.mp (by omega))) ?_
    obtain ⟨x, e1, e2⟩ := c.all_bh e
    walk_at "vv"
    refine ⟨_, _, _, _, _, rfl, ha1, T.clC, T.c_houses, cF_houses, ?_⟩
    walk_at "vv"
    refine n_ixL (SqL.of hh1) (at_of (j := c.A.length + 1) (v := .str x) (by omega) (by rw [List.getElem?_map, e2]; rfl)) ?_
    rw [e1] at h
    exact h _ s1
end
end Ck

namespace Ck
open PySem PySem.Spec PyProof.Rows L2
local macro_rules | `(tactic| walk_at "v") => `(tactic| (first | with_reducible refine n_seq ?_ | with_reducible refine n_ifs ?_ | with_reducible refine n_asg ?_ | with_reducible refine n_name ?_ | with_reducible refine n_ret ?_ | with_reducible refine n_drop ?_ | with_reducible refine n_next ?_ | ((with_reducible refine' n_var ?e ?_); (case e => rfl)) | with_reducible refine n_c ?_ | with_reducible refine n_op ?_ | with_reducible refine n_un ?_ | with_reducible refine n_test ?_ | with_reducible refine n_B ?_ | with_reducible refine n_ex ?_ | with_reducible refine n_and ?_ | with_reducible refine n_or ?_ | with_reducible refine n_not ?_ | with_reducible refine n_andV ?_ | with_reducible refine n_orV ?_ | with_reducible refine n_notV ?_ | with_reducible refine n_cons ?_ | with_reducible refine n_nil ?_ | with_reducible refine n_cb ?_ | with_reducible refine n_call ?_ | with_reducible refine n_I0 ?_ | with_reducible refine n_tup ?_ | with_reducible refine n_lst ?_ | with_reducible refine n_sl ?_ | with_reducible refine n_part ?_ | with_reducible refine n_nopart ?_ | with_reducible refine n_exI ?_ | with_reducible refine n_chain ?_ | with_reducible refine n_dget ?_ | with_reducible refine n_meth ?_ | with_reducible refine n_bm ?_ | with_reducible refine n_bm0 ?_ | with_reducible refine n_sfld ?_ | with_reducible refine n_fld ?_ | with_reducible refine n_for ?_ | with_reducible refine n_nn ?_ | with_reducible refine n_rU ?_ | with_reducible refine n_lss ?_ | with_reducible refine n_kget ?_ | with_reducible refine n_iL ?_ | with_reducible refine n_iE ?_ | with_reducible refine n_iR ?_ | with_reducible refine n_lc ?_ | with_reducible refine n_lcT ?_ | with_reducible refine n_lcS ?_ | with_reducible refine n_gTup ?_ | with_reducible refine n_gCons ?_ | with_reducible refine n_gNil ?_ | ((with_reducible refine n_eq ?e ?_); (case e => rfl)) | ((with_reducible refine n_ne ?e ?_); (case e => rfl)) | ((with_reducible refine n_iT ?e ?_); (case e => rfl)) | ((with_reducible refine n_iF ?e ?_); (case e => rfl))))
local macro_rules | `(tactic| walk_at "vv") => `(tactic| repeat walk_at "v")
section
variable {P : Program} {w : World} {K : PySem.W.Frag} {mg : Str → Option Value} {base : Heap} {A : Ad}
theorem ok_H_init (T : Txt w K mg A) (D : ND K mg "House" A.CH "House.__init__" s_H_init) : Mak P w K mg base 1 "House" A.CH (sp_H_init A) := by
  have S := sc_H_init.sc
  refine mak_mk D sc_H_init (fun vs H Q E h => by obtain ⟨p, dx, rfl, _⟩ := h; rfl) fun f cdv A0 outer s H vs Q E hr h => ?_
  obtain ⟨p, dx, rfl, hp, h⟩ := h
  refine ⟨_, (pss_cons (ps_fld (pv 0) (pv 1) rfl)
        (pss_cons (ps_fld (pv 0) pe_non rfl)
        (pss_cons (ps_fld (pv 0) (pe_lst pa_nil) rfl)
        (pss_cons (ps_fld (pv 0) pe_int rfl)
        (pss_cons (ps_fld (pv 0) pe_bl rfl)
        (pss_one (ps_fld (pv 0) pe_dnewK rfl))))))), ?_⟩
  walk_at "vv"
  refine n_sfldx hp T.clH T.h_name (by show 0 < 1000; decide) ?_
  walk_at "vv"
  refine n_sfldx upd_same T.clH T.h_own (by show 1 < 1000; decide) ?_
  walk_at "vv"
  refine ⟨Nat.zero_le _, fun l hl => ?_⟩
  have npl : p ≠ l := ne_of_none upd_same hl
  walk_at "vv"
  refine n_sfldx (by rw [upd_ne npl]; exact upd_same) T.clH T.h_kept (by show 2 < 1000; decide) ?_
  walk_at "vv"
  refine n_sfldx upd_same T.clH T.h_sure (by show 3 < 1000; decide) ?_
  walk_at "vv"
  refine n_sfldx upd_same T.clH T.h_able (by show 4 < 1000; decide) ?_
  walk_at "vv"
  intro d hd
  have npd : p ≠ d := ne_of_none upd_same hd
  walk_at "vv"
  refine n_sfldx (by rw [upd_ne npd]; exact upd_same) T.clH T.h_asks (by show 5 < 1000; decide) ?_
  walk_at "vv"
  have nld : l ≠ d := ne_of_none (by rw [upd_ne npl.symm, upd_ne npl.symm, upd_ne npl.symm, upd_same]) hd
  have hl0 : H l = none := by rw [upd_ne npl.symm, upd_ne npl.symm] at hl; exact hl
  have hd0 : H d = none := by rw [upd_ne npd.symm, upd_ne npd.symm, upd_ne npd.symm, upd_ne nld.symm, upd_ne npd.symm, upd_ne npd.symm] at hd; exact hd
  refine h _ l d hl0 hd0 ⟨⟨dx, ?_⟩, ?_, RowsOk.nil, ?_, rfl, rfl⟩ ?_
  · rw [upd_same]
    exact congrArg (fun z => some (HO.ins A.CH dx z)) new_h
  · show _ = some (HO.lst [])
    rw [upd_ne npl.symm, upd_ne nld, upd_ne npl.symm, upd_ne npl.symm, upd_ne npl.symm, upd_same]
  · show _ = some (HO.dK [])
    rw [upd_ne npd.symm, upd_same]
  · exact Fr.upd (Fr.new (Fr.upd (Fr.upd (Fr.upd (Fr.new (Fr.upd (Fr.upd (Fr.refl H) (by simp)) (by simp)) hl0) (by simp)) (by simp)) (by simp)) hd0) (by simp)
theorem ok_H_chain_number (T : Txt w K mg A) (D : MD K A.CH "chain_number" "House.chain_number" s_H_chain_number) : Met P w K mg base 1 A.CH "chain_number" (sp_H_chain_number A) := by
  have S := sc_H_chain_number.sc
  refine met_mk D sc_H_chain_number (fun vs H Q E h => by obtain ⟨x, s, rfl, _⟩ := h; rfl) fun f cdv A0 outer s H vs Q E hr h => ?_
  obtain ⟨x, s, rfl, ha, h⟩ := h
  refine ⟨_, (pss_cons (ps_if (pt_cmpR op_isN (pe_fld (pv 0) rfl) pe_non (nomark _))
          (pss_one (ps_ret pe_non))
          pss_nil)
        (pss_one (ps_ret (pe_fld (pe_fld (pv 0) rfl) rfl)))), ?_⟩
  cases e : s.ch with
  | none =>
    obtain ⟨dx, hp⟩ := ha.obN e
    rw [e] at h
    walk_at "vv"
    refine ⟨_, _, _, _, _, rfl, hp, T.clH, T.h_own, hF_own, ?_⟩
    walk_at "vv"
    exact h
  | some c =>
    obtain ⟨dx, hp⟩ := ha.obC e
    obtain ⟨⟨dy, hc⟩, hh⟩ := ha.chain e
    rw [e] at h
    walk_at "vv"
    refine ⟨_, _, _, _, _, rfl, hp, T.clH, T.h_own, hF_own, ?_⟩
    walk_at "vv"
    refine ⟨_, _, _, _, _, rfl, hp, T.clH, T.h_own, hF_own, ?_⟩
    walk_at "vv"
    refine ⟨_, _, _, _, _, rfl, hc, T.clC, T.c_number, cF_number, ?_⟩
    exact h
theorem ok_H_log (T : Txt w K mg A) (D : MD K A.CH "log" "House.log" s_H_log) : Met P w K mg base 1 A.CH "log" (sp_H_log A) := by
  have S := sc_H_log.sc
  refine met_mk D sc_H_log (fun vs H Q E h => by obtain ⟨x, s, rfl, _⟩ := h; rfl) fun f cdv A0 outer s H vs Q E hr h => ?_
  obtain ⟨x, s, rfl, ha, h⟩ := h
  obtain ⟨dx, hp⟩ := ha.ob
  refine ⟨_, (pss_one (ps_ret (pe_callTy call_list_of (by rfl) T.b_list (by decide +kernel) (pa_cons (pe_fld (pv 0) rfl) pa_nil)))), ?_⟩
  walk_at "vv"
  refine ⟨_, _, _, _, _, rfl, hp, T.clH, T.h_kept, hF_kept, ?_⟩
  walk_at "vv"
  exact ⟨x.l, _, rfl, .inl (SqL.of ha.lst), h⟩
theorem ok_H_told_many (T : Txt w K mg A) (D : MD K A.CH "told_many" "House.told_many" s_H_told_many) : Met P w K mg base 1 A.CH "told_many" (sp_H_told_many A) := by
  have S := sc_H_told_many.sc
  refine met_mk D sc_H_told_many (fun vs H Q E h => by obtain ⟨x, s, rfl, _⟩ := h; rfl) fun f cdv A0 outer s H vs Q E hr h => ?_
  obtain ⟨x, s, rfl, ha, h⟩ := h
  obtain ⟨dx, hp⟩ := ha.ob
  refine ⟨_, (pss_one (ps_ret (pe_fld (pv 0) rfl))), ?_⟩
  walk_at "vv"
  exact ⟨_, _, _, _, _, rfl, hp, T.clH, T.h_sure, hF_sure, h⟩
theorem ok_H_is_ready (T : Txt w K mg A) (D : MD K A.CH "is_ready" "House.is_ready" s_H_is_ready) : Met P w K mg base 1 A.CH "is_ready" (sp_H_is_ready A) := by
  have S := sc_H_is_ready.sc
  refine met_mk D sc_H_is_ready (fun vs H Q E h => by obtain ⟨x, s, rfl, _⟩ := h; rfl) fun f cdv A0 outer s H vs Q E hr h => ?_
  obtain ⟨x, s, rfl, ha, h⟩ := h
  obtain ⟨dx, hp⟩ := ha.ob
  refine ⟨_, (pss_one (ps_ret (pe_fld (pv 0) rfl))), ?_⟩
  walk_at "vv"
  exact ⟨_, _, _, _, _, rfl, hp, T.clH, T.h_able, hF_able, h⟩
theorem ok_H_waiting (T : Txt w K mg A) (D : MD K A.CH "waiting" "House.waiting" s_H_waiting) : Met P w K mg base 1 A.CH "waiting" (sp_H_waiting A) := by
  have S := sc_H_waiting.sc
  refine met_mk D sc_H_waiting (fun vs H Q E h => by obtain ⟨x, s, rfl, _⟩ := h; rfl) fun f cdv A0 outer s H vs Q E hr h => ?_
  obtain ⟨x, s, rfl, ha, few, h⟩ := h
  obtain ⟨dx, hp⟩ := ha.ob
  refine ⟨_, (pss_one (ps_ret (pe_callB (call_sortedDI rfl) (by rfl) T.b_sorted (by decide +kernel) (pa_cons (pe_fld (pv 0) rfl) pa_nil)))), ?_⟩
  walk_at "vv"
  refine ⟨_, _, _, _, _, rfl, hp, T.clH, T.h_asks, hF_asks, ?_⟩
  walk_at "vv"
  refine ⟨x.d, kvA s.asks, s.asks.map (·.1), rfl, .inl ha.asks, kvA_keys _, by rw [List.length_map]; omega, fun ys p pe so hp2 => ?_⟩
  rw [sortA_eq pe so]
  exact h p hp2
theorem ok_H_stands (T : Txt w K mg A) (D : MD K A.CH "stands" "House.stands" s_H_stands) : Met P w K mg base 1 A.CH "stands" (sp_H_stands A) := by
  have S := sc_H_stands.sc
  refine met_mk D sc_H_stands (fun vs H Q E h => by obtain ⟨x, s, rfl, _⟩ := h; rfl) fun f cdv A0 outer s H vs Q E hr h => ?_
  obtain ⟨x, s, rfl, ha, h⟩ := h
  refine ⟨_, (pss_one (ps_ret (pe_and (pe_cmpR op_notN (pe_fld (pv 0) rfl) pe_non (nomark _)) (pe_one (pe_fld (pv 0) rfl))))), ?_⟩
  unfold HS.stands at h
  cases e : s.ch with
  | none =>
    obtain ⟨dx, hp⟩ := ha.obN e
    rw [e] at h
    walk_at "vv"
    refine ⟨_, _, _, _, _, rfl, hp, T.clH, T.h_own, hF_own, ?_⟩
    walk_at "vv"
    exact h
  | some c =>
    obtain ⟨dx, hp⟩ := ha.obC e
    rw [e] at h
    walk_at "vv"
    refine ⟨_, _, _, _, _, rfl, hp, T.clH, T.h_own, hF_own, ?_⟩
    walk_at "vv"
    refine ⟨_, _, _, _, _, rfl, hp, T.clH, T.h_able, hF_able, ?_⟩
    exact h
theorem ok_H_is_tail (T : Txt w K mg A) (D : MD K A.CH "is_tail" "House.is_tail" s_H_is_tail) : Met P w K mg base 1 A.CH "is_tail" (sp_H_is_tail A) := by
  have S := sc_H_is_tail.sc
  refine met_mk D sc_H_is_tail (fun vs H Q E h => by obtain ⟨x, s, c, rfl, _⟩ := h; rfl) fun f cdv A0 outer s H vs Q E hr h => ?_
  obtain ⟨x, s, c, rfl, ha, e, ok, h⟩ := h
  obtain ⟨dx, hp⟩ := ha.obC e
  obtain ⟨⟨dy, hc⟩, hh⟩ := ha.chain e
  refine ⟨_, (pss_one (ps_ret (pe_cmpR op_eq (pe_ix ix_list (pe_fld (pe_fld (pv 0) rfl) rfl) (pe_un un_neg pe_int) (fun _ _ => rfl)) (pe_fld (pv 0) rfl) (nomark _)))), ?_⟩
  walk_at "vv"
  refine ⟨_, _, _, _, _, rfl, hp, T.clH, T.h_own, hF_own, ?_⟩
  walk_at "vv"
  refine ⟨_, _, _, _, _, rfl, hc, T.clC, T.c_houses, cF_houses, ?_⟩
  walk_at "vv"
  refine n_ixL (SqL.of hh) (atI_neg1 (v := .str c.tl) (by rw [List.length_map, List.getElem?_map, c.all_tl]; rfl)) ?_
  walk_at "vv"
  refine ⟨_, _, _, _, _, rfl, hp, T.clH, T.h_name, hF_name, ?_⟩
  walk_at "vv"
  have e2 : decide (V.str c.tl = V.str "me") = c.B.isEmpty := by
    by_cases q : c.B = []
    · rw [decide_eq_true (congrArg V.str ((c.tl_me ok).mpr q)), q]
      rfl
    · rw [decide_eq_false fun z => q ((c.tl_me ok).mp (by injection z)), List.isEmpty_eq_false_iff.mpr q]
  rw [e2]
  exact h
theorem ok_H_letter (T : Txt w K mg A) (D : MD K A.CH "letter" "House.letter" s_H_letter) : Met P w K mg base 1 A.CH "letter" (sp_H_letter A) := by
  have S := sc_H_letter.sc
  refine met_mk D sc_H_letter (fun vs H Q E h => by obtain ⟨x, s, c, kind, to, m, ms, rfl, _⟩ := h; rfl) fun f cdv A0 outer s H vs Q E hr h => ?_
  obtain ⟨x, s, c, kind, to, m, ms, rfl, ha, e, hm, hne, hz, h⟩ := h
  obtain ⟨dx, hp⟩ := ha.obC e
  obtain ⟨⟨dy, hc⟩, hh⟩ := ha.chain e
  refine ⟨_, (pss_one (ps_ret (pe_op op_catA (pe_tup (pa_cons (pv 1) (pa_cons (pe_fld (pe_fld (pv 0) rfl) rfl) (pa_cons (pe_fld (pv 0) rfl) (pa_cons (pv 2) pa_nil))))) (pv 3)))), ?_⟩
  walk_at "vv"
  refine ⟨_, _, _, _, _, rfl, hp, T.clH, T.h_own, hF_own, ?_⟩
  walk_at "vv"
  refine ⟨_, _, _, _, _, rfl, hc, T.clC, T.c_number, cF_number, ?_⟩
  walk_at "vv"
  refine ⟨_, _, _, _, _, rfl, hp, T.clH, T.h_name, hF_name, ?_⟩
  walk_at "vv"
  refine ⟨by show 4 ≤ sizeLine; decide, fun p hp2 => ?_⟩
  walk_at "vv"
  have s1 := Same.new (o := .tup [.str kind, .int c.num, .str "me", .str to]) hp2
  refine ⟨p, m, [.str kind, .int c.num, .str "me", .str to], ms, rfl, rfl, SqT.of upd_same, SqT.of (s1 _ _ hm), ?_, fun q => (by cases q), fun _ q => absurd q hne, fun _ _ q hq => ?_⟩
  · show 4 + ms.length ≤ sizeLine
    exact Nat.le_trans (m := 104) (by omega) (by decide)
  · have hq0 := (Fr.ofSame (S := []) s1).none hq (by simp)
    exact h _ q hq0 (Same.put s1 hq0) upd_same
end
end Ck

namespace Ck
open PySem PySem.Spec PyProof.Rows L2
local macro_rules | `(tactic| walk_at "v") => `(tactic| (first | with_reducible refine n_seq ?_ | with_reducible refine n_ifs ?_ | with_reducible refine n_asg ?_ | with_reducible refine n_name ?_ | with_reducible refine n_ret ?_ | with_reducible refine n_drop ?_ | with_reducible refine n_next ?_ | ((with_reducible refine' n_var ?e ?_); (case e => rfl)) | with_reducible refine n_c ?_ | with_reducible refine n_op ?_ | with_reducible refine n_un ?_ | with_reducible refine n_test ?_ | with_reducible refine n_B ?_ | with_reducible refine n_ex ?_ | with_reducible refine n_and ?_ | with_reducible refine n_or ?_ | with_reducible refine n_not ?_ | with_reducible refine n_andV ?_ | with_reducible refine n_orV ?_ | with_reducible refine n_notV ?_ | with_reducible refine n_cons ?_ | with_reducible refine n_nil ?_ | with_reducible refine n_cb ?_ | with_reducible refine n_call ?_ | with_reducible refine n_I0 ?_ | with_reducible refine n_tup ?_ | with_reducible refine n_lst ?_ | with_reducible refine n_sl ?_ | with_reducible refine n_part ?_ | with_reducible refine n_nopart ?_ | with_reducible refine n_exI ?_ | with_reducible refine n_chain ?_ | with_reducible refine n_dget ?_ | with_reducible refine n_meth ?_ | with_reducible refine n_bm ?_ | with_reducible refine n_bm0 ?_ | with_reducible refine n_sfld ?_ | with_reducible refine n_fld ?_ | with_reducible refine n_for ?_ | with_reducible refine n_dpop1 ?_ | with_reducible refine n_din ?_ | with_reducible refine n_dnotin ?_ | with_reducible refine n_dput ?_ | with_reducible refine n_nn ?_ | with_reducible refine n_rU ?_ | with_reducible refine n_lss ?_ | with_reducible refine n_kget ?_ | with_reducible refine n_iL ?_ | with_reducible refine n_iE ?_ | with_reducible refine n_iR ?_ | with_reducible refine n_lc ?_ | with_reducible refine n_lcT ?_ | with_reducible refine n_lcS ?_ | with_reducible refine n_gTup ?_ | with_reducible refine n_gCons ?_ | with_reducible refine n_gNil ?_ | ((with_reducible refine n_eq ?e ?_); (case e => rfl)) | ((with_reducible refine n_ne ?e ?_); (case e => rfl)) | ((with_reducible refine n_iT ?e ?_); (case e => rfl)) | ((with_reducible refine n_iF ?e ?_); (case e => rfl))))
local macro_rules | `(tactic| walk_at "vv") => `(tactic| repeat walk_at "v")
section
variable {P : Program} {w : World} {K : PySem.W.Frag} {mg : Str → Option Value} {base : Heap} {A : Ad}
/-- a letter's data -/
def Lt.d : Lt → PyData
  | .rows n b f l _ => .tuple [.str "rows", .int n, .str b, .str "me", .int (f : Int), .tuple (l.map Row.d)]
  | .told n b m => .tuple [.str "told", .int n, .str b, .str "me", .int m]
  | .which n b k => .tuple [.str "which", .int n, .str b, .str "me", .int k]
  | .that n b k m => .tuple [.str "that", .int n, .str b, .str "me", .int k, .int m]
theorem Lt.td {H : Hp} {a : Addr} {x : Lt} (h : x.At H a) : TD H (.ref a) x.d := by
  cases x with
  | rows n b f l ra => exact .tup h.1 (.cons (.str _) (.cons (.int _) (.cons (.str _) (.cons (.str _) (.cons (.int _) (.cons (.tup h.2.1 (TDs.rows h.2.2)) .nil))))))
  | told n b m => exact .tup h.1 (.cons (.str _) (.cons (.int _) (.cons (.str _) (.cons (.str _) (.cons (.int _) .nil)))))
  | which n b k => exact .tup h.1 (.cons (.str _) (.cons (.int _) (.cons (.str _) (.cons (.str _) (.cons (.int _) .nil)))))
  | that n b k m => exact .tup h.1 (.cons (.str _) (.cons (.int _) (.cons (.str _) (.cons (.str _) (.cons (.int _) (.cons (.int _) .nil))))))
theorem Lt.sh {H : Hp} {a : Addr} {x : Lt} (h : x.At H a) (o : x.Ok) : Sh 10 x.d := by
  have ob : NameOk x.by_ := o.2.1
  cases x with
  | rows n b f l ra =>
    refine sh_tup fun d hd => ?_
    simp only [List.mem_cons, List.not_mem_nil, or_false] at hd
    rcases hd with e | e | e | e | e | e
    · rw [e]; exact sh_str (kind_low (by decide +kernel))
    · rw [e]; exact sh_int
    · rw [e]; exact ob.sh
    · rw [e]; exact me_ok.sh
    · rw [e]; exact sh_int
    · rw [e]; exact rows_sh (n := 7) h.2.2.ok
  | told n b m =>
    refine sh_tup fun d hd => ?_
    simp only [List.mem_cons, List.not_mem_nil, or_false] at hd
    rcases hd with e | e | e | e | e
    · rw [e]; exact sh_str (kind_low (by decide +kernel))
    · rw [e]; exact sh_int
    · rw [e]; exact ob.sh
    · rw [e]; exact me_ok.sh
    · rw [e]; exact sh_int
  | which n b k =>
    refine sh_tup fun d hd => ?_
    simp only [List.mem_cons, List.not_mem_nil, or_false] at hd
    rcases hd with e | e | e | e | e
    · rw [e]; exact sh_str (kind_low (by decide +kernel))
    · rw [e]; exact sh_int
    · rw [e]; exact ob.sh
    · rw [e]; exact me_ok.sh
    · rw [e]; exact sh_int
  | that n b k m =>
    refine sh_tup fun d hd => ?_
    simp only [List.mem_cons, List.not_mem_nil, or_false] at hd
    rcases hd with e | e | e | e | e | e
    · rw [e]; exact sh_str (kind_low (by decide +kernel))
    · rw [e]; exact sh_int
    · rw [e]; exact ob.sh
    · rw [e]; exact me_ok.sh
    · rw [e]; exact sh_int
    · rw [e]; exact sh_int
theorem Lt.ne {x : Lt} : PyData.eqv x.d (.tuple []) = false := by
  cases x <;> rfl
theorem kne2 {a b : Str} (h : (a == b) = false) : decide (V.str a = V.str b) = false := decide_eq_false fun e => by
  injection e with e
  rw [e, beq_self_eq_true] at h
  cases h
theorem ok_is_letter (T : Txt w K mg A) (D : GD K mg "is_letter" s_is_letter) (c_is_name : Cal P w K mg base 1 "is_name" sp_is_name) (c_is_count : Cal P w K mg base 2 "is_count" sp_is_count) (c_is_row : Cal P w K mg base 3 "is_row" sp_is_row) : Cal P w K mg base 4 "is_letter" sp_is_letter := by
  have S := sc_is_letter.sc
  refine cal_mk D sc_is_letter (fun vs H Q E h => by obtain ⟨a, x, rfl, _⟩ := h; rfl) fun f cdv A0 outer s H vs Q E hr h => ?_
  obtain ⟨a, x, rfl, at_, ok, h⟩ := h
  obtain ⟨es, n, kd0⟩ := T.kd
  have ha := at_.1
  obtain ⟨ur, kr1, kr2⟩ := T.k_rows
  obtain ⟨ut, kt1, kt2⟩ := T.k_told
  obtain ⟨uw, kw1, kw2⟩ := T.k_which
  obtain ⟨uh, kh1, kh2⟩ := T.k_that
  have o1 := ok.1
  have o2 := ok.2.1
  have o3 := ok.2.2
  let X0 := (cxOf CX0 P w K mg base N_is_letter "is_letter" (defScope s_is_letter) f cdv A0 outer s H E).nox
  have kd : KDict X0.K X0.w A.LA es n := kd0
  refine ⟨_, (pss_cons (ps_if (PW.pt (pw_or (pt_not (pt_val (pe_callB call_isi (by rfl) T.b_isinstance (by decide +kernel) (pa_cons (pv 0) (pa_cons (pe_bltn (v := .ty "tuple") (u := .type "tuple") rfl T.b_tuple (by decide +kernel) rfl) pa_nil))))) (pw_or (pt_cmpR (op_eqD hr.units) (pv 0) (pe_tup pa_nil) (nomark _)) (pw_or1 (pt_not (pt_val (pe_callB call_isi (by rfl) T.b_isinstance (by decide +kernel) (pa_cons (pe_ix ix_tup (pv 0) pe_int (fun _ _ => rfl)) (pa_cons (pe_bltn (v := .ty "str") (u := .type "str") rfl T.b_str (by decide +kernel) rfl) pa_nil)))))))))
          (pss_one (ps_ret pe_bl))
          pss_nil)
        (pss_cons (ps_if (pt_cmpR op_ne (pe_kget kd (pgl T.g_LENGTHS rfl) (pe_ix ix_tup (pv 0) pe_int (fun _ _ => rfl)) pe_int ⟨rfl, rfl, rfl, rfl⟩) (pe_callB call_len_seq (by rfl) T.b_len PySem.boot_len (pa_cons (pv 0) pa_nil)) (nomark _))
          (pss_one (ps_ret pe_bl))
          pss_nil)
        (pss_cons (ps_if (PW.pt (pw_or (pt_not (pt_val (pc c_is_count hr (by decide) rfl (pa_cons (pe_ix ix_tup (pv 0) pe_int (fun _ _ => rfl)) (pa_cons pe_int pa_nil))))) (pw_or (pt_not (pt_val (pc c_is_name hr (by decide) rfl (pa_cons (pe_ix ix_tup (pv 0) pe_int (fun _ _ => rfl)) pa_nil)))) (pw_or1 (pt_not (pt_val (pc c_is_name hr (by decide) rfl (pa_cons (pe_ix ix_tup (pv 0) pe_int (fun _ _ => rfl)) pa_nil))))))))
          (pss_one (ps_ret pe_bl))
          pss_nil)
        (pss_cons (ps_if (pt_cmpR op_eq (pe_ix ix_tup (pv 0) pe_int (fun _ _ => rfl)) pe_str (nomark _))
          (pss_one (ps_ret (pc c_is_count hr (by decide) rfl (pa_cons (pe_ix ix_tup (pv 0) pe_int (fun _ _ => rfl)) (pa_cons pe_int pa_nil)))))
          pss_nil)
        (pss_cons (ps_if (pt_cmpR op_eq (pe_ix ix_tup (pv 0) pe_int (fun _ _ => rfl)) pe_str (nomark _))
          (pss_one (ps_ret (pe_and (pc c_is_count hr (by decide) rfl (pa_cons (pe_ix ix_tup (pv 0) pe_int (fun _ _ => rfl)) (pa_cons pe_int pa_nil))) (pe_one (pc c_is_count hr (by decide) rfl (pa_cons (pe_ix ix_tup (pv 0) pe_int (fun _ _ => rfl)) (pa_cons pe_int pa_nil)))))))
          pss_nil)
        (pss_cons (ps_if (pt_cmpR op_eq (pe_ix ix_tup (pv 0) pe_int (fun _ _ => rfl)) pe_str (nomark _))
          (pss_one (ps_ret (pc c_is_count hr (by decide) rfl (pa_cons (pe_ix ix_tup (pv 0) pe_int (fun _ _ => rfl)) (pa_cons pe_int pa_nil)))))
          pss_nil)
        (pss_one (ps_ret (pe_and (pc c_is_count hr (by decide) rfl (pa_cons (pe_ix ix_tup (pv 0) pe_int (fun _ _ => rfl)) (pa_cons pe_int pa_nil))) (pe_and (pe_callB call_isi (by rfl) T.b_isinstance (by decide +kernel) (pa_cons (pe_ix ix_tup (pv 0) pe_int (fun _ _ => rfl)) (pa_cons (pe_bltn (v := .ty "tuple") (u := .type "tuple") rfl T.b_tuple (by decide +kernel) rfl) pa_nil))) (pe_one (pe_callB (cr_all rfl) (by rfl) T.b_all (by decide +kernel) (pa_cons (pe_lc (own := [("row", 1)]) (g := gName 1) (by rfl) S.nd (pi_tup (pe_ix ix_tup (pv 0) pe_int (fun _ _ => rfl))) (blkOk_by (own := [("row", 1)]) (N := N_is_letter) (sc := defScope s_is_letter) (by decide +kernel)) (fun _ _ _ _ _ => pg_name (i := 1) S.nd rfl (Or.inl rfl)) (fun _ _ _ _ _ => pts_nil) (fun _ _ _ _ _ => (pc c_is_row hr (by decide) rfl (pa_cons (pv 1) pa_nil)))) pa_nil))))))))))))), ?_⟩
  walk_at "vv"
  refine n_isi (.base (.tup ha)) (kit_ty (r := true) ?_) ?_
  · decide +kernel
  walk_at "vv"
  refine ⟨Nat.zero_le _, fun q hq => ?_⟩
  have s1 : Same H (upd H q (.tup [])) := Same.new hq
  have at1 : x.At (upd H q (.tup [])) a := by
    refine ⟨s1 _ _ ha, ?_⟩
    cases x with
    | rows n b f l ra => exact ⟨s1 _ _ at_.2.1, at_.2.2.to (Tups.ofSame s1)⟩
    | told n b m => trivial
    | which n b k => trivial
    | that n b k m => trivial
  refine ⟨x.d, .tuple [], (Lt.td at1).dp, .tup (SqT.of upd_same) .nil, (Lt.sh at1 ok).shaped (by decide), (sh_tup (n := 0) fun d hd => by cases hd).shaped (by decide), ?_⟩
  rw [Lt.ne]
  walk_at "vv"
  have ha1 := at1.1
  generalize hH1 : upd H q (.tup []) = H1 at *
  cases x with
  | rows n b f l ra =>
    refine n_ixT (SqT.of ha1) (v := .str "rows") rfl ?_
    walk_at "vv"
    refine n_isi (.base (.str _)) (kit_ty (r := true) ?_) ?_
    · decide +kernel
    walk_at "vv"
    refine ⟨rfl, ?_⟩
    walk_at "vv"
    refine n_ixT (SqT.of ha1) (v := .str "rows") rfl ?_
    walk_at "vv"
    refine ⟨"rows", .int 6, ur, rfl, kr1, kr2, ?_⟩
    walk_at "vv"
    refine ⟨a, _, rfl, .inr (SqT.of ha1), ?_⟩
    walk_at "vv"
    refine n_ixT (SqT.of ha1) (v := .int n) rfl ?_
    walk_at "vv"
    refine ⟨n, 1, rfl, ?_⟩
    rw [decide_eq_true (show 1 ≤ n from o1)]
    walk_at "vv"
    refine n_ixT (SqT.of ha1) (v := .str b) rfl ?_
    walk_at "vv"
    refine ⟨b, rfl, o2, fun H2 s2 => ?_⟩
    have ha2 := s2 _ _ ha1
    walk_at "vv"
    refine n_ixT (SqT.of ha2) (v := .str "me") rfl ?_
    walk_at "vv"
    refine ⟨"me", rfl, me_ok, fun H3 s3 => ?_⟩
    have ha3 := s3 _ _ ha2
    walk_at "vv"
    refine n_ixT (SqT.of ha3) (v := .str "rows") rfl ?_
    walk_at "v"
    walk_at "v"
    walk_at "v"
    refine n_iF (kne2 (by decide +kernel)) ?_
    walk_at "vv"
    refine n_ixT (SqT.of ha3) (v := .str "rows") rfl ?_
    walk_at "v"
    walk_at "v"
    walk_at "v"
    refine n_iF (kne2 (by decide +kernel)) ?_
    walk_at "vv"
    refine n_ixT (SqT.of ha3) (v := .str "rows") rfl ?_
    walk_at "v"
    walk_at "v"
    walk_at "v"
    refine n_iF (kne2 (by decide +kernel)) ?_
    walk_at "vv"
    refine n_ixT (SqT.of ha3) (v := .int (f : Int)) rfl ?_
    walk_at "vv"
    refine ⟨_, 1, rfl, ?_⟩
    rw [decide_eq_true (show (1 : Int) ≤ (f : Int) by have := o3.1; omega)]
    walk_at "vv"
    refine n_ixT (SqT.of ha3) (v := .ref ra) rfl ?_
    walk_at "vv"
    have hra := s3 _ _ (s2 _ _ at1.2.1)
    refine n_isi (.base (.tup hra)) (kit_ty (r := true) ?_) ?_
    · decide +kernel
    walk_at "vv"
    refine n_ixT (SqT.of ha3) (v := .ref ra) rfl ?_
    walk_at "vv"
    have hR : RowsOk H3 l := at1.2.2.to (Tups.ofSame (Same.trans s2 s3))
    refine ⟨ra, rfl, ⟨_, SqT.of hra⟩, lcg_tup (Rvs (List.replicate l.length (.bl true))) hra (by rw [List.length_map]; have := o3.2; omega) (fun _ => rfl) rvs_keeps (fun j y hj H4 s4 Qe k => ?_) fun E2 H4 ys hD s4 h4 hl2 hR4 => ?_⟩
    · obtain ⟨r, hx, rfl⟩ : ∃ x, l[j]? = some x ∧ y = Row.v x := by
        rw [List.getElem?_map] at hj
        obtain ⟨r, h1, h2⟩ := Option.map_eq_some_iff.mp hj
        exact ⟨r, h1, h2.symm⟩
      walk_at "vv"
      refine ⟨r, rfl, s4 _ _ (hR.at_ r (List.mem_of_getElem? hx)), hR.ok r (List.mem_of_getElem? hx), fun H5 s5 => k _ _ s5 ?_⟩
      show (List.replicate _ _)[j]? = _
      rw [List.getElem?_replicate, if_pos (List.getElem?_eq_some_iff.mp hx).1]
    · walk_at "vv"
      rw [List.length_map] at hl2
      have e : ys = (List.replicate l.length true).map V.bl := by
        rw [List.map_replicate]
        exact lst_of (by rw [hl2, List.length_replicate]) hR4
      refine ⟨E2, List.replicate l.length true, rfl, SqL.of (by rw [← e]; exact h4), ?_⟩
      have e2 : (List.replicate l.length true).all id = true := by simp
      rw [e2]
      exact h _ (Same.trans s1 (Same.trans s2 (Same.trans s3 s4)))
  | told n b m =>
    refine n_ixT (SqT.of ha1) (v := .str "told") rfl ?_
    walk_at "vv"
    refine n_isi (.base (.str _)) (kit_ty (r := true) ?_) ?_
    · decide +kernel
    walk_at "vv"
    refine ⟨rfl, ?_⟩
    walk_at "vv"
    refine n_ixT (SqT.of ha1) (v := .str "told") rfl ?_
    walk_at "vv"
    refine ⟨"told", .int 5, ut, rfl, kt1, kt2, ?_⟩
    walk_at "vv"
    refine ⟨a, _, rfl, .inr (SqT.of ha1), ?_⟩
    walk_at "vv"
    refine n_ixT (SqT.of ha1) (v := .int n) rfl ?_
    walk_at "vv"
    refine ⟨n, 1, rfl, ?_⟩
    rw [decide_eq_true (show 1 ≤ n from o1)]
    walk_at "vv"
    refine n_ixT (SqT.of ha1) (v := .str b) rfl ?_
    walk_at "vv"
    refine ⟨b, rfl, o2, fun H2 s2 => ?_⟩
    have ha2 := s2 _ _ ha1
    walk_at "vv"
    refine n_ixT (SqT.of ha2) (v := .str "me") rfl ?_
    walk_at "vv"
    refine ⟨"me", rfl, me_ok, fun H3 s3 => ?_⟩
    have ha3 := s3 _ _ ha2
    walk_at "vv"
    refine n_ixT (SqT.of ha3) (v := .str "told") rfl ?_
    walk_at "v"
    walk_at "v"
    walk_at "v"
    refine n_iT (decide_eq_true rfl) ?_
    walk_at "vv"
    refine n_ixT (SqT.of ha3) (v := .int m) rfl ?_
    walk_at "vv"
    refine ⟨m, 0, rfl, ?_⟩
    rw [decide_eq_true (show (0 : Int) ≤ m from o3)]
    exact h _ (Same.trans s1 (Same.trans s2 s3))
  | which n b m =>
    refine n_ixT (SqT.of ha1) (v := .str "which") rfl ?_
    walk_at "vv"
    refine n_isi (.base (.str _)) (kit_ty (r := true) ?_) ?_
    · decide +kernel
    walk_at "vv"
    refine ⟨rfl, ?_⟩
    walk_at "vv"
    refine n_ixT (SqT.of ha1) (v := .str "which") rfl ?_
    walk_at "vv"
    refine ⟨"which", .int 5, uw, rfl, kw1, kw2, ?_⟩
    walk_at "vv"
    refine ⟨a, _, rfl, .inr (SqT.of ha1), ?_⟩
    walk_at "vv"
    refine n_ixT (SqT.of ha1) (v := .int n) rfl ?_
    walk_at "vv"
    refine ⟨n, 1, rfl, ?_⟩
    rw [decide_eq_true (show 1 ≤ n from o1)]
    walk_at "vv"
    refine n_ixT (SqT.of ha1) (v := .str b) rfl ?_
    walk_at "vv"
    refine ⟨b, rfl, o2, fun H2 s2 => ?_⟩
    have ha2 := s2 _ _ ha1
    walk_at "vv"
    refine n_ixT (SqT.of ha2) (v := .str "me") rfl ?_
    walk_at "vv"
    refine ⟨"me", rfl, me_ok, fun H3 s3 => ?_⟩
    have ha3 := s3 _ _ ha2
    walk_at "vv"
    refine n_ixT (SqT.of ha3) (v := .str "which") rfl ?_
    walk_at "v"
    walk_at "v"
    walk_at "v"
    refine n_iF (kne2 (by decide +kernel)) ?_
    walk_at "vv"
    refine n_ixT (SqT.of ha3) (v := .str "which") rfl ?_
    walk_at "v"
    walk_at "v"
    walk_at "v"
    refine n_iF (kne2 (by decide +kernel)) ?_
    walk_at "vv"
    refine n_ixT (SqT.of ha3) (v := .str "which") rfl ?_
    walk_at "v"
    walk_at "v"
    walk_at "v"
    refine n_iT (decide_eq_true rfl) ?_
    walk_at "vv"
    refine n_ixT (SqT.of ha3) (v := .int m) rfl ?_
    walk_at "vv"
    refine ⟨m, 1, rfl, ?_⟩
    rw [decide_eq_true (show (1 : Int) ≤ m from o3)]
    exact h _ (Same.trans s1 (Same.trans s2 s3))
  | that n b k m =>
    refine n_ixT (SqT.of ha1) (v := .str "that") rfl ?_
    walk_at "vv"
    refine n_isi (.base (.str _)) (kit_ty (r := true) ?_) ?_
    · decide +kernel
    walk_at "vv"
    refine ⟨rfl, ?_⟩
    walk_at "vv"
    refine n_ixT (SqT.of ha1) (v := .str "that") rfl ?_
    walk_at "vv"
    refine ⟨"that", .int 6, uh, rfl, kh1, kh2, ?_⟩
    walk_at "vv"
    refine ⟨a, _, rfl, .inr (SqT.of ha1), ?_⟩
    walk_at "vv"
    refine n_ixT (SqT.of ha1) (v := .int n) rfl ?_
    walk_at "vv"
    refine ⟨n, 1, rfl, ?_⟩
    rw [decide_eq_true (show 1 ≤ n from o1)]
    walk_at "vv"
    refine n_ixT (SqT.of ha1) (v := .str b) rfl ?_
    walk_at "vv"
    refine ⟨b, rfl, o2, fun H2 s2 => ?_⟩
    have ha2 := s2 _ _ ha1
    walk_at "vv"
    refine n_ixT (SqT.of ha2) (v := .str "me") rfl ?_
    walk_at "vv"
    refine ⟨"me", rfl, me_ok, fun H3 s3 => ?_⟩
    have ha3 := s3 _ _ ha2
    walk_at "vv"
    refine n_ixT (SqT.of ha3) (v := .str "that") rfl ?_
    walk_at "v"
    walk_at "v"
    walk_at "v"
    refine n_iF (kne2 (by decide +kernel)) ?_
    walk_at "vv"
    refine n_ixT (SqT.of ha3) (v := .str "that") rfl ?_
    walk_at "v"
    walk_at "v"
    walk_at "v"
    refine n_iT (decide_eq_true rfl) ?_
    walk_at "vv"
    refine n_ixT (SqT.of ha3) (v := .int k) rfl ?_
    walk_at "vv"
    refine ⟨k, 1, rfl, ?_⟩
    rw [decide_eq_true (show (1 : Int) ≤ k from o3.1)]
    walk_at "vv"
    refine n_ixT (SqT.of ha3) (v := .int m) rfl ?_
    walk_at "vv"
    refine ⟨m, 0, rfl, ?_⟩
    rw [decide_eq_true (show (0 : Int) ≤ m from o3.2)]
    exact h _ (Same.trans s1 (Same.trans s2 s3))
end
end Ck

namespace Ck
open PySem PySem.Spec PyProof.Rows L2
local macro_rules | `(tactic| walk_at "v") => `(tactic| (first | with_reducible refine n_seq ?_ | with_reducible refine n_ifs ?_ | with_reducible refine n_asg ?_ | with_reducible refine n_name ?_ | with_reducible refine n_ret ?_ | with_reducible refine n_drop ?_ | with_reducible refine n_next ?_ | ((with_reducible refine' n_var ?e ?_); (case e => rfl)) | with_reducible refine n_c ?_ | with_reducible refine n_op ?_ | with_reducible refine n_un ?_ | with_reducible refine n_test ?_ | with_reducible refine n_B ?_ | with_reducible refine n_ex ?_ | with_reducible refine n_and ?_ | with_reducible refine n_or ?_ | with_reducible refine n_not ?_ | with_reducible refine n_andV ?_ | with_reducible refine n_orV ?_ | with_reducible refine n_notV ?_ | with_reducible refine n_cons ?_ | with_reducible refine n_nil ?_ | with_reducible refine n_cb ?_ | with_reducible refine n_call ?_ | with_reducible refine n_I0 ?_ | with_reducible refine n_tup ?_ | with_reducible refine n_lst ?_ | with_reducible refine n_sl ?_ | with_reducible refine n_part ?_ | with_reducible refine n_nopart ?_ | with_reducible refine n_exI ?_ | with_reducible refine n_chain ?_ | with_reducible refine n_dget ?_ | with_reducible refine n_meth ?_ | with_reducible refine n_bm ?_ | with_reducible refine n_bm0 ?_ | with_reducible refine n_sfld ?_ | with_reducible refine n_fld ?_ | with_reducible refine n_for ?_ | with_reducible refine n_nn ?_ | with_reducible refine n_rU ?_ | with_reducible refine n_lss ?_ | with_reducible refine n_kget ?_ | with_reducible refine n_iL ?_ | with_reducible refine n_iE ?_ | with_reducible refine n_iR ?_ | with_reducible refine n_lc ?_ | with_reducible refine n_lcT ?_ | with_reducible refine n_lcS ?_ | with_reducible refine n_gTup ?_ | with_reducible refine n_gCons ?_ | with_reducible refine n_gNil ?_ | ((with_reducible refine n_eq ?e ?_); (case e => rfl)) | ((with_reducible refine n_ne ?e ?_); (case e => rfl)) | ((with_reducible refine n_iT ?e ?_); (case e => rfl)) | ((with_reducible refine n_iF ?e ?_); (case e => rfl))))
local macro_rules | `(tactic| walk_at "vv") => `(tactic| repeat walk_at "v")
section
variable {P : Program} {w : World} {K : PySem.W.Frag} {mg : Str → Option Value} {base : Heap} {A : Ad}
theorem ok_H_rows_behind (T : Txt w K mg A) (D : MD K A.CH "rows_behind" "House.rows_behind" s_H_rows_behind) (c_H_letter : Met P w K mg base 1 A.CH "letter" (sp_H_letter A)) (c_C_behind : Met P w K mg base 3 A.CC "behind" (sp_C_behind A)) : Met P w K mg base 4 A.CH "rows_behind" (sp_H_rows_behind A) := by
  have S := sc_H_rows_behind.sc
  refine met_mk D sc_H_rows_behind (fun vs H Q E h => by obtain ⟨x, s, c, b, f, rfl, _⟩ := h; rfl) fun f0 cdv A0 outer s0 H vs Q E hr h => ?_
  obtain ⟨x, s, c, b, f, rfl, ha, e, ok, eb, hf, hz, h⟩ := h
  obtain ⟨dx, hp⟩ := ha.obC e
  obtain ⟨⟨dy, hc⟩, hh⟩ := ha.chain e
  refine ⟨_, (pss_one (ps_ret (pm c_H_letter hr (by decide) (pv 0) (pa_cons pe_str (pa_cons (pm c_C_behind hr (by decide) (pe_fld (pv 0) rfl) (pa_cons (pe_fld (pv 0) rfl) pa_nil)) (pa_cons (pe_tup (pa_cons (pv 1) (pa_cons (pe_callTy call_tuple_of (by rfl) T.b_tuple (by decide +kernel) (pa_cons (pe_slice sl_list (pe_fld (pv 0) rfl) (po_some (pe_op op_sub (pv 1) pe_int)) po_none) pa_nil)) pa_nil))) pa_nil)))))), ?_⟩
  walk_at "vv"
  refine n_methx hp (hF_no (by decide +kernel)) ?_
  walk_at "vv"
  refine ⟨_, _, _, _, _, rfl, hp, T.clH, T.h_own, hF_own, ?_⟩
  refine n_methx hc (cF_no (by decide +kernel)) ?_
  walk_at "vv"
  refine ⟨_, _, _, _, _, rfl, hp, T.clH, T.h_name, hF_name, ?_⟩
  walk_at "vv"
  refine ⟨x.ca, x.hl, c, rfl, ha.chain e, ok, fun H1 s1 => ?_⟩
  have ha1 := ha.same s1
  have hp1 := s1 _ _ hp
  walk_at "vv"
  refine ⟨_, _, _, _, _, rfl, hp1, T.clH, T.h_kept, hF_kept, ?_⟩
  walk_at "vv"
  refine ⟨x.l, _, rfl, SqL.of ha1.lst, fun q hq => ?_⟩
  have s2 : Same H1 (upd H1 q (.lst (cutV (s.log.map Row.v) (some ((f : Int) - 1)) none))) := Same.new hq
  rw [show ((f : Int) - 1) = ((f - 1 : Nat) : Int) by omega, cut_from, ← List.map_drop] at *
  walk_at "vv"
  refine ⟨q, _, rfl, .inl ⟨SqL.of upd_same, fun q2 hq2 => ?_⟩⟩
  have s3 := Same.put (o := .tup ((s.log.drop (f - 1)).map Row.v)) s2 ((Fr.ofSame (S := []) s2).none hq2 (by simp))
  walk_at "vv"
  refine ⟨by show 2 ≤ sizeLine; decide, fun m hm => ?_⟩
  have hm0 := (Fr.ofSame (S := []) s3).none hm (by simp)
  have s4 := Same.put (o := .tup [.int (f : Int), .ref q2]) s3 hm0
  have n2 : q2 ≠ m := ne_of_none upd_same hm
  walk_at "vv"
  have ha4 := ha1.same s4
  refine ⟨x, s, c, "rows", b, m, [.int (f : Int), .ref q2], by rw [eb]; rfl, ha4, e, upd_same, by simp, by show 2 ≤ 100; decide, fun H5 a hn s5 h5 => ?_⟩
  refine h _ _ (Same.trans s1 (Same.trans s4 s5)) ?_
  have hR : RowsOk H5 (s.log.drop (f - 1)) := (ha4.same s5).rows.sub fun r hr => List.mem_of_mem_drop hr
  exact .tup h5 (.cons (.str _) (.cons (.int _) (.cons (.str _) (.cons (.str _) (.cons (.int _) (.cons (.tup (s5 _ _ (by rw [upd_ne n2]; exact upd_same)) (TDs.rows hR)) .nil))))))
theorem ok_H_told_ahead (T : Txt w K mg A) (D : MD K A.CH "told_ahead" "House.told_ahead" s_H_told_ahead) (c_H_letter : Met P w K mg base 1 A.CH "letter" (sp_H_letter A)) (c_C_ahead_of : Met P w K mg base 3 A.CC "ahead_of" (sp_C_ahead_of A)) : Met P w K mg base 4 A.CH "told_ahead" (sp_H_told_ahead A) := by
  have S := sc_H_told_ahead.sc
  refine met_mk D sc_H_told_ahead (fun vs H Q E h => by obtain ⟨x, s, c, rfl, _⟩ := h; rfl) fun f0 cdv A0 outer s0 H vs Q E hr h => ?_
  obtain ⟨x, s, c, rfl, ha, e, ok, h⟩ := h
  obtain ⟨dx, hp⟩ := ha.obC e
  obtain ⟨⟨dy, hc⟩, hh⟩ := ha.chain e
  refine ⟨_, (pss_cons (ps_set (i := 1) S.nd rfl (Or.inl rfl) (pm c_C_ahead_of hr (by decide) (pe_fld (pv 0) rfl) (pa_cons (pe_fld (pv 0) rfl) pa_nil)))
        (pss_cons (ps_if (pt_cmpR op_isN (pv 1) pe_non (nomark _))
          (pss_one (ps_ret (pe_lst pa_nil)))
          pss_nil)
        (pss_one (ps_ret (pe_lst (pa_cons (pm c_H_letter hr (by decide) (pv 0) (pa_cons pe_str (pa_cons (pv 1) (pa_cons (pe_tup (pa_cons (pe_fld (pv 0) rfl) pa_nil)) pa_nil)))) pa_nil)))))), ?_⟩
  walk_at "vv"
  refine ⟨_, _, _, _, _, rfl, hp, T.clH, T.h_own, hF_own, ?_⟩
  refine n_methx hc (cF_no (by decide +kernel)) ?_
  walk_at "vv"
  refine ⟨_, _, _, _, _, rfl, hp, T.clH, T.h_name, hF_name, ?_⟩
  walk_at "vv"
  refine ⟨x.ca, x.hl, c, rfl, ha.chain e, ok, fun H1 s1 => ?_⟩
  have ha1 := ha.same s1
  have hp1 := s1 _ _ hp
  unfold toldUp at h
  cases ea : c.ah with
  | none =>
    rw [ea] at h
    walk_at "vv"
    refine ⟨Nat.zero_le _, fun q hq => ?_⟩
    have hq0 := (Fr.ofSame (S := []) s1).none hq (by simp)
    exact h _ q hq0 (Same.put s1 hq0) (.nil upd_same)
  | some y =>
    rw [ea] at h
    walk_at "vv"
    refine n_methx hp1 (hF_no (by decide +kernel)) ?_
    walk_at "vv"
    refine ⟨_, _, _, _, _, rfl, hp1, T.clH, T.h_sure, hF_sure, ?_⟩
    walk_at "vv"
    refine ⟨by show 1 ≤ sizeLine; decide, fun m hm => ?_⟩
    have s2 : Same H1 (upd H1 m (.tup [.int (s.told : Int)])) := Same.new hm
    walk_at "vv"
    refine ⟨x, s, c, "told", y, m, [.int (s.told : Int)], rfl, ha1.same s2, e, upd_same, by simp, by show 1 ≤ 100; decide, fun H3 a hn s3 h3 => ?_⟩
    walk_at "vv"
    refine ⟨by show 1 ≤ sizeLine; decide, fun q hq => ?_⟩
    have s123 := Same.trans s1 (Same.trans s2 s3)
    have hq0 := (Fr.ofSame (S := []) s123).none hq (by simp)
    have naq : a ≠ q := ne_of_none h3 hq
    refine h _ q hq0 (Same.put s123 hq0) ⟨_, upd_same, .cons (.tup (by rw [upd_ne naq]; exact h3) (.cons (.str _) (.cons (.int _) (.cons (.str _) (.cons (.str _) (.cons (.int _) .nil)))))) .nil⟩
theorem ok_H_asked_tail (T : Txt w K mg A) (D : MD K A.CH "asked_tail" "House.asked_tail" s_H_asked_tail) (c_H_letter : Met P w K mg base 1 A.CH "letter" (sp_H_letter A)) (c_H_waiting : Met P w K mg base 1 A.CH "waiting" (sp_H_waiting A)) : Met P w K mg base 2 A.CH "asked_tail" (sp_H_asked_tail A) := by
  have S := sc_H_asked_tail.sc
  refine met_mk D sc_H_asked_tail (fun vs H Q E h => by obtain ⟨x, s, c, rfl, _⟩ := h; rfl) fun f0 cdv A0 outer s0 H vs Q E hr h => ?_
  obtain ⟨x, s, c, rfl, ha, e, ok, few, h⟩ := h
  obtain ⟨dx, hp⟩ := ha.obC e
  obtain ⟨⟨dy, hc⟩, hh⟩ := ha.chain e
  refine ⟨_, (pss_one (ps_ret (pe_lc (own := [("ask", 1)]) (g := gName 1) (by rfl) S.nd (pi_list (pm0 c_H_waiting hr (by decide) (pv 0))) (blkOk_by (own := [("ask", 1)]) (N := N_H_asked_tail) (sc := defScope s_H_asked_tail) (by decide +kernel)) (fun _ _ _ _ _ => pg_name (i := 1) S.nd rfl (Or.inl rfl)) (fun _ _ _ _ _ => pts_nil) (fun _ _ _ _ _ => (pm c_H_letter hr (by decide) (pv 0) (pa_cons pe_str (pa_cons (ixLK K (fldK K (fldK K (pv 0))) (pe_un un_neg pe_int) (fun _ _ => rfl)) (pa_cons (pe_tup (pa_cons (pv 1) pa_nil)) pa_nil)))))))), ?_⟩
  walk_at "vv"
  refine n_methx hp (hF_no (by decide +kernel)) ?_
  walk_at "vv"
  refine ⟨x, s, rfl, ha, few, fun a hn => ?_⟩
  have s1 : Same H (upd H a (.lst ((sortA s.asks).map V.int))) := Same.new hn
  refine ⟨a, rfl, ⟨_, SqL.of upd_same⟩, lcg_list (Rds (askedD c s)) upd_same (by rw [List.length_map, sortA_len]; omega) (fun _ => rfl) rds_keeps (fun j y hj H2 s2 Qe k => ?_) fun E2 H2 ys hD s2 h2 hl2 hR2 => ?_⟩
  · obtain ⟨i, hi, rfl⟩ : ∃ i, (sortA s.asks)[j]? = some i ∧ y = V.int i := by
      rw [List.getElem?_map] at hj
      obtain ⟨r, h1, h2⟩ := Option.map_eq_some_iff.mp hj
      exact ⟨r, h1, h2.symm⟩
    have s12 := Same.trans s1 s2
    have ha2 := ha.same s12
    have hp2 := s12 _ _ hp
    have hc2 := s12 _ _ hc
    have hh2 := s12 _ _ hh
    walk_at "vv"
    refine n_methx hp2 (hF_no (by decide +kernel)) ?_
    walk_at "vv"
    refine ⟨_, _, _, _, _, rfl, hp2, T.clH, T.h_own, hF_own, ?_⟩
    refine ⟨_, _, _, _, _, rfl, hc2, T.clC, T.c_houses, cF_houses, ?_⟩
    walk_at "vv"
    refine n_ixL (SqL.of hh2) (atI_neg1 (v := .str c.tl) (by rw [List.length_map, List.getElem?_map, c.all_tl]; rfl)) ?_
    walk_at "vv"
    refine ⟨by show 1 ≤ sizeLine; decide, fun m hm => ?_⟩
    have s3 : Same H2 (upd H2 m (.tup [.int i])) := Same.new hm
    walk_at "vv"
    refine ⟨x, s, c, "which", c.tl, m, [.int i], rfl, ha2.same s3, e, upd_same, by simp, by show 1 ≤ 100; decide, fun H4 b hb s4 h4 => ?_⟩
    refine k _ _ (Same.trans s3 s4) ⟨whichD c i, by unfold askedD; rw [List.getElem?_map, hi]; rfl, .tup h4 (.cons (.str _) (.cons (.int _) (.cons (.str _) (.cons (.str _) (.cons (.int _) .nil)))))⟩
  · walk_at "vv"
    have s12 := Same.trans s1 s2
    exact h _ E2 ((Fr.ofSame (S := []) s1).none hD (by simp)) s12 (ld_of h2 (by rw [hl2]; unfold askedD; rw [List.length_map, List.length_map]) hR2)
theorem ok_H_told_all (T : Txt w K mg A) (D : MD K A.CH "told_all" "House.told_all" s_H_told_all) : Met P w K mg base 1 A.CH "told_all" (sp_H_told_all A) := by
  have S := sc_H_told_all.sc
  refine met_mk D sc_H_told_all (fun vs H Q E h => by obtain ⟨x, s, rfl, _⟩ := h; rfl) fun f0 cdv A0 outer s0 H vs Q E hr h => ?_
  obtain ⟨x, s, rfl, ha, hz, h⟩ := h
  obtain ⟨dx, hp⟩ := ha.ob
  refine ⟨_, (pss_cons (ps_setLc (i := 1) (own := [("row", 2)]) (g := gName 2) (by rfl) S.nd rfl rfl (sw_true rfl rfl rfl (by decide +kernel)) (pi_list (pe_slice sl_list (pe_fld (pv 0) rfl) (po_some (pe_fld (pv 0) rfl)) po_none)) (blkOk_by (own := [("row", 2)]) (N := N_H_told_all) (sc := defScope s_H_told_all) (by decide +kernel)) (fun _ _ _ _ _ => pg_name (i := 2) S.nd rfl (Or.inl rfl)) (fun _ _ _ _ _ => pts_nil) (fun _ _ _ _ _ => (pe_tup (pa_cons pe_str (pa_cons (ixTK K (pv 2) pe_int (fun _ _ => rfl)) (pa_cons (ixTK K (pv 2) pe_int (fun _ _ => rfl)) pa_nil))))))
        (pss_cons (ps_fld (pv 0) (pe_callB call_len_seq (by rfl) T.b_len PySem.boot_len (pa_cons (pe_fld (pv 0) rfl) pa_nil)) rfl)
        (pss_one (ps_ret (pv 1))))), ?_⟩
  walk_at "vv"
  refine ⟨_, _, _, _, _, rfl, hp, T.clH, T.h_kept, hF_kept, ?_⟩
  walk_at "vv"
  refine ⟨_, _, _, _, _, rfl, hp, T.clH, T.h_sure, hF_sure, ?_⟩
  walk_at "vv"
  refine ⟨x.l, _, rfl, SqL.of ha.lst, fun a hn => ?_⟩
  rw [cut_from, ← List.map_drop]
  have s1 : Same H (upd H a (.lst ((s.log.drop s.told).map Row.v))) := Same.new hn
  refine ⟨a, rfl, ⟨_, SqL.of upd_same⟩, lcg_list (Rds (writtenD s)) upd_same (by rw [List.length_map, List.length_drop]; omega) (fun _ => rfl) rds_keeps (fun j y hj H2 s2 Qe k => ?_) fun E2 H2 ys hD s2 h2 hl2 hR2 => ?_⟩
  · obtain ⟨r, hr1, rfl⟩ : ∃ r, (s.log.drop s.told)[j]? = some r ∧ y = Row.v r := by
      rw [List.getElem?_map] at hj
      obtain ⟨r, h1, h2⟩ := Option.map_eq_some_iff.mp hj
      exact ⟨r, h1, h2.symm⟩
    have ra := (Same.trans s1 s2) _ _ (ha.rows.at_ r (List.mem_of_mem_drop (List.mem_of_getElem? hr1)))
    walk_at "vv"
    refine n_ixT (SqT.of ra) (v := .str r.asker) rfl ?_
    walk_at "vv"
    refine n_ixT (SqT.of ra) (v := .int r.num) rfl ?_
    walk_at "vv"
    refine ⟨by show 3 ≤ sizeLine; decide, fun m hm => ?_⟩
    exact k _ _ (Same.new hm) ⟨wroteD r, by unfold writtenD; rw [List.getElem?_map, hr1]; rfl, .tup upd_same (.cons (.str _) (.cons (.str _) (.cons (.int _) .nil)))⟩
  · have s12 := Same.trans s1 s2
    have ha2 := ha.same s12
    have hp2 := s12 _ _ hp
    walk_at "vv"
    refine ⟨_, _, _, _, _, rfl, hp2, T.clH, T.h_kept, hF_kept, ?_⟩
    walk_at "vv"
    refine ⟨x.l, _, rfl, .inl (SqL.of ha2.lst), ?_⟩
    rw [List.length_map]
    walk_at "vv"
    refine n_sfldx hp2 T.clH T.h_sure (by show 6 < 1000; decide) ?_
    walk_at "vv"
    rw [put_sure]
    have fr2 : Fr [x.p] H2 (upd H2 x.p (.ins A.CH dx (hF (ownV s x.ca) x.l s.log.length s.ready x.d))) := Fr.upd (Fr.refl _) (by simp)
    have nE : E2 ≠ x.p := fun q => by rw [q] at h2; rw [hp2] at h2; cases h2
    refine h _ E2 ((Fr.ofSame (S := []) s1).none hD (by simp)) ((Fr.ofSame s12).trans fr2) (ha2.put (s' := s.tellAll) (ca := x.ca) (hl := x.hl) (dx := dx) fr2 upd_same rfl rfl ha2.ch) ?_
    exact (ld_of h2 (by rw [hl2]; unfold writtenD; rw [List.length_map, List.length_map]) hR2).to (by rw [upd_ne nE]) (Fr.tups fr2 (NT.cons hp2 (by intro ys q; cases q) NT.nil))
theorem ok_H_answered_all (T : Txt w K mg A) (D : MD K A.CH "answered_all" "House.answered_all" s_H_answered_all) (c_H_waiting : Met P w K mg base 1 A.CH "waiting" (sp_H_waiting A)) (c_last_worth : Cal P w K mg base 1 "last_worth" sp_last_worth) : Met P w K mg base 2 A.CH "answered_all" (sp_H_answered_all A) := by
  have S := sc_H_answered_all.sc
  refine met_mk D sc_H_answered_all (fun vs H Q E h => by obtain ⟨x, s, rfl, _⟩ := h; rfl) fun f0 cdv A0 outer s0 H vs Q E hr h => ?_
  obtain ⟨x, s, rfl, ha, ok, h⟩ := h
  obtain ⟨dx, hp⟩ := ha.ob
  refine ⟨_, (pss_cons (ps_setLc (i := 1) (own := [("ask", 2)]) (g := gName 2) (by rfl) S.nd rfl rfl (sw_true rfl rfl rfl (by decide +kernel)) (pi_list (pm0 c_H_waiting hr (by decide) (pv 0))) (blkOk_by (own := [("ask", 2)]) (N := N_H_answered_all) (sc := defScope s_H_answered_all) (by decide +kernel)) (fun _ _ _ _ _ => pg_name (i := 2) S.nd rfl (Or.inl rfl)) (fun _ _ _ _ _ => pts_nil) (fun _ _ _ _ _ => (pe_tup (pa_cons pe_str (pa_cons (pv 2) (pa_cons (pc c_last_worth hr (by decide) rfl (pa_cons (fldK K (pv 0)) (pa_cons (pe_dget (hu_of hr) (fldK K (pv 0)) (pv 2) (fun _ _ => rfl)) pa_nil))) pa_nil))))))
        (pss_cons (ps_fld (pv 0) pe_dnewK rfl)
        (pss_one (ps_ret (pv 1))))), ?_⟩
  walk_at "vv"
  refine n_methx hp (hF_no (by decide +kernel)) ?_
  walk_at "vv"
  refine ⟨x, s, rfl, ha, ok.few, fun a hn => ?_⟩
  have s1 : Same H (upd H a (.lst ((sortA s.asks).map V.int))) := Same.new hn
  refine ⟨a, rfl, ⟨_, SqL.of upd_same⟩, lcg_list (Rds (answersD s)) upd_same (by rw [List.length_map, sortA_len]; have := ok.few; omega) (fun _ => rfl) rds_keeps (fun j y hj H2 s2 Qe k => ?_) fun E2 H2 ys hD s2 h2 hl2 hR2 => ?_⟩
  · obtain ⟨i, hi, rfl⟩ : ∃ i, (sortA s.asks)[j]? = some i ∧ y = V.int i := by
      rw [List.getElem?_map] at hj
      obtain ⟨r, h1, h2⟩ := Option.map_eq_some_iff.mp hj
      exact ⟨r, h1, h2.symm⟩
    have hin : (keyA s.asks i).isSome = true := keyA_some.mpr (sortA_mem.mp (List.mem_of_getElem? hi))
    obtain ⟨key, hkey⟩ := Option.isSome_iff_exists.mp hin
    have s12 := Same.trans s1 s2
    have ha2 := ha.same s12
    have hp2 := s12 _ _ hp
    walk_at "vv"
    refine ⟨_, _, _, _, _, rfl, hp2, T.clH, T.h_kept, hF_kept, ?_⟩
    walk_at "vv"
    refine ⟨_, _, _, _, _, rfl, hp2, T.clH, T.h_asks, hF_asks, ?_⟩
    walk_at "vv"
    refine ⟨x.d, .str key, rfl, ?_, ?_⟩
    · have := DGet.k (k := Sum.inl i) ha2.asks
      rw [kvA_val, hkey] at this
      exact this
    walk_at "vv"
    refine ⟨x.l, s.log, key, rfl, ha2.lst, ha2.rows, ?_⟩
    walk_at "vv"
    refine ⟨by show 3 ≤ sizeLine; decide, fun m hm => ?_⟩
    refine k _ _ (Same.new hm) ⟨worthD i (lastW s.log ((keyA s.asks i).getD Str.empty)), by unfold answersD; rw [List.getElem?_map, hi]; rfl, .tup upd_same (.cons (.str _) (.cons (.int _) (.cons ?_ .nil)))⟩
    rw [hkey]
    show TD _ (oi (lastW s.log key)) (oiD (lastW s.log key))
    cases lastW s.log key with
    | none => exact .non
    | some z => exact .int z
  · have s12 := Same.trans s1 s2
    have ha2 := ha.same s12
    have hp2 := s12 _ _ hp
    walk_at "vv"
    intro d hd
    have npd : x.p ≠ d := ne_of_none hp2 hd
    have hd0 := (Fr.ofSame (S := []) s12).none hd (by simp)
    have s3 := Same.put (o := .dK []) s12 hd0
    have s3' : Same H2 (upd H2 d (.dK [])) := Same.new hd
    walk_at "vv"
    refine n_sfldx (s3' _ _ hp2) T.clH T.h_asks (by show 6 < 1000; decide) ?_
    walk_at "vv"
    rw [put_asks]
    have nE : E2 ≠ x.p := fun q => by rw [q] at h2; rw [hp2] at h2; cases h2
    have nEd : E2 ≠ d := ne_of_none h2 hd
    have fr2 : Fr [x.p] H (upd (upd H2 d (.dK [])) x.p (.ins A.CH dx (hF (ownV s x.ca) x.l s.told s.ready d))) := Fr.upd (Fr.ofSame s3) (by simp)
    have tu : Tups H2 (upd (upd H2 d (.dK [])) x.p (.ins A.CH dx (hF (ownV s x.ca) x.l s.told s.ready d))) := fun b zs eb => by
      rw [upd_ne (fun q => by rw [q, hp2] at eb; cases eb)]
      exact s3' _ _ eb
    have ha3 := ha2.same s3'
    refine h _ E2 d ((Fr.ofSame (S := []) s1).none hD (by simp)) hd0 fr2 ⟨⟨dx, upd_same⟩, ?_, (ha2.rows.to tu), ?_, ?_⟩ ?_
    · show upd _ _ _ x.l = _
      rw [upd_ne ha.pl.symm]
      exact ha3.lst
    · show upd _ _ _ d = some (HO.dK [])
      rw [upd_ne npd.symm, upd_same]
    · show match s.ch with
        | none => x.ca = x.p ∧ x.hl = x.l
        | some c => ChAt A _ x.ca x.hl c
      cases e : s.ch with
      | none =>
        have := ha.ch
        rw [e] at this
        exact this
      | some c =>
        obtain ⟨⟨dy, b1⟩, b2⟩ := ha3.chain e
        obtain ⟨q1, _, _, q2, _, _⟩ := ha.chp e
        exact ⟨⟨dy, by rw [upd_ne q1]; exact b1⟩, by rw [upd_ne q2]; exact b2⟩
    · exact (ld_of h2 (by rw [hl2]; unfold answersD; rw [List.length_map, List.length_map]) hR2).to (by rw [upd_ne nE, upd_ne nEd]) tu
end
end Ck

namespace Ck
open PySem PySem.Spec PyProof.Rows L2
local macro_rules | `(tactic| walk_at "v") => `(tactic| (first | with_reducible refine n_seq ?_ | with_reducible refine n_ifs ?_ | with_reducible refine n_asg ?_ | with_reducible refine n_name ?_ | with_reducible refine n_ret ?_ | with_reducible refine n_drop ?_ | with_reducible refine n_next ?_ | ((with_reducible refine' n_var ?e ?_); (case e => rfl)) | with_reducible refine n_c ?_ | with_reducible refine n_op ?_ | with_reducible refine n_un ?_ | with_reducible refine n_test ?_ | with_reducible refine n_B ?_ | with_reducible refine n_ex ?_ | with_reducible refine n_and ?_ | with_reducible refine n_or ?_ | with_reducible refine n_not ?_ | with_reducible refine n_andV ?_ | with_reducible refine n_orV ?_ | with_reducible refine n_notV ?_ | with_reducible refine n_cons ?_ | with_reducible refine n_nil ?_ | with_reducible refine n_cb ?_ | with_reducible refine n_call ?_ | with_reducible refine n_I0 ?_ | with_reducible refine n_tup ?_ | with_reducible refine n_lst ?_ | with_reducible refine n_sl ?_ | with_reducible refine n_part ?_ | with_reducible refine n_nopart ?_ | with_reducible refine n_exI ?_ | with_reducible refine n_chain ?_ | with_reducible refine n_dget ?_ | with_reducible refine n_meth ?_ | with_reducible refine n_bm ?_ | with_reducible refine n_bm0 ?_ | with_reducible refine n_sfld ?_ | with_reducible refine n_fld ?_ | with_reducible refine n_for ?_ | with_reducible refine n_dpop1 ?_ | with_reducible refine n_din ?_ | with_reducible refine n_dnotin ?_ | with_reducible refine n_dput ?_ | with_reducible refine n_nn ?_ | with_reducible refine n_rU ?_ | with_reducible refine n_lss ?_ | with_reducible refine n_kget ?_ | with_reducible refine n_iL ?_ | with_reducible refine n_iE ?_ | with_reducible refine n_iR ?_ | with_reducible refine n_lc ?_ | with_reducible refine n_lcT ?_ | with_reducible refine n_lcS ?_ | with_reducible refine n_gTup ?_ | with_reducible refine n_gCons ?_ | with_reducible refine n_gNil ?_ | ((with_reducible refine n_eq ?e ?_); (case e => rfl)) | ((with_reducible refine n_ne ?e ?_); (case e => rfl)) | ((with_reducible refine n_iT ?e ?_); (case e => rfl)) | ((with_reducible refine n_iF ?e ?_); (case e => rfl))))
local macro_rules | `(tactic| walk_at "vv") => `(tactic| repeat walk_at "v")
section
variable {P : Program} {w : World} {K : PySem.W.Frag} {mg : Str → Option Value} {base : Heap} {A : Ad}
theorem toldUp_len (c : Ch) (n : Nat) : (toldUp c n).length ≤ 1 := by
  unfold toldUp
  cases c.ah with
  | none => exact Nat.zero_le _
  | some x => exact Nat.le_refl _
theorem askedD_len (c : Ch) (s : HS) : (askedD c s).length = s.asks.length := by
  unfold askedD
  rw [List.length_map, sortA_len]
theorem ok_H_again (T : Txt w K mg A) (D : MD K A.CH "again" "House.again" s_H_again) (c_H_stands : Met P w K mg base 1 A.CH "stands" (sp_H_stands A)) (c_H_is_tail : Met P w K mg base 1 A.CH "is_tail" (sp_H_is_tail A))
    (c_H_told_ahead : Met P w K mg base 4 A.CH "told_ahead" (sp_H_told_ahead A)) (c_H_asked_tail : Met P w K mg base 2 A.CH "asked_tail" (sp_H_asked_tail A)) (c_H_rows_behind : Met P w K mg base 4 A.CH "rows_behind" (sp_H_rows_behind A)) : Met P w K mg base 5 A.CH "again" (sp_H_again A) := by
  have S := sc_H_again.sc
  refine met_mk D sc_H_again (fun vs H Q E h => by obtain ⟨x, s, rfl, _⟩ := h; rfl) fun f0 cdv A0 outer s0 H vs Q E hr h => ?_
  obtain ⟨x, s, rfl, ha, ok, hd⟩ := h
  obtain ⟨dx, hp⟩ := ha.ob
  refine ⟨_, (pss_cons (ps_if (pt_not (pt_val (pm0 c_H_stands hr (by decide) (pv 0))))
          (pss_one (ps_ret (pe_tup (pa_cons (pe_lst pa_nil) (pa_cons (pe_lst pa_nil) pa_nil)))))
          pss_nil)
        (pss_cons (ps_if (pt_val (pm0 c_H_is_tail hr (by decide) (pv 0)))
          (pss_one (ps_ret (pe_tup (pa_cons (pe_lst pa_nil) (pa_cons (pe_op op_cat (pm0 c_H_told_ahead hr (by decide) (pv 0)) (pm0 c_H_asked_tail hr (by decide) (pv 0))) pa_nil)))))
          pss_nil)
        (pss_one (ps_ret (pe_tup (pa_cons (pe_lst pa_nil) (pa_cons (pe_op op_cat (pe_lst (pa_cons (pm c_H_rows_behind hr (by decide) (pv 0) (pa_cons pe_int pa_nil)) pa_nil)) (pm0 c_H_asked_tail hr (by decide) (pv 0))) pa_nil))))))), ?_⟩
  walk_at "vv"
  refine n_methx hp (hF_no (by decide +kernel)) ?_
  walk_at "vv"
  refine ⟨x, s, rfl, ha, ?_⟩
  cases st : s.stands with
  | false =>
    have e : tried s = (s, [], []) := by
      unfold tried
      unfold HS.stands at st
      cases ec : s.ch with
      | none => rfl
      | some c =>
        rw [ec] at st
        have st2 : s.ready = false := st
        show (if s.ready = false then _ else _) = _
        rw [if_pos st2]
    rw [e] at hd
    walk_at "vv"
    refine ⟨Nat.zero_le _, fun a fa => ?_⟩
    walk_at "vv"
    refine ⟨Nat.zero_le _, fun b fb => ?_⟩
    walk_at "vv"
    obtain ⟨s2, la, lb, n, fa0, fb0⟩ := two0 (ha.gr (Same.refl H)) fa fb
    exact h_pair hd (ha.gr s2) rfl rfl (.inl rfl) rfl rfl (ha.same s2) la lb n fa0 fb0
  | true =>
    unfold HS.stands at st
    obtain ⟨st1, st2⟩ := Bool.and_eq_true_iff.mp st
    obtain ⟨c, ec⟩ := Option.isSome_iff_exists.mp st1
    have okc := ok.ch c ec
    walk_at "vv"
    refine n_methx hp (hF_no (by decide +kernel)) ?_
    walk_at "vv"
    refine ⟨x, s, c, rfl, ha, ec, okc, ?_⟩
    by_cases tb : c.B = []
    · have e : tried s = (s, [], toldUp c s.told ++ askedD c s) := by
        unfold tried
        rw [ec]
        show (if s.ready = false then _ else _) = _
        rw [if_neg (by rw [st2]; simp), c.bh_nil tb]
      rw [e] at hd
      rw [List.isEmpty_iff.mpr tb]
      walk_at "vv"
      refine ⟨Nat.zero_le _, fun a fa => ?_⟩
      have s1 : Same H (upd H a (.lst [])) := Same.new fa
      walk_at "vv"
      refine n_methx (s1 _ _ hp) (hF_no (by decide +kernel)) ?_
      walk_at "vv"
      refine ⟨x, s, c, rfl, ha.same s1, ec, okc, fun H2 b fb s2 l2 => ?_⟩
      have s12 := Same.trans s1 s2
      walk_at "vv"
      refine n_methx (s12 _ _ hp) (hF_no (by decide +kernel)) ?_
      walk_at "vv"
      refine ⟨x, s, c, rfl, ha.same s12, ec, okc, ok.few, fun H3 g fg s3 l3 => ?_⟩
      obtain ⟨xs, ys, h1, h2, td, n1, n2⟩ := (LD.same l2 s3).cat l3
      have s13 := Same.trans s12 s3
      refine ⟨b, g, xs, ys, rfl, rfl, h1, h2, ?_, fun q fq => ?_⟩
      · rw [n1, n2, askedD_len]
        have := toldUp_len c s.told
        have := ok.few
        exact Nat.le_trans (m := 100) (by omega) (by decide)
      walk_at "vv"
      have s4 : Same H3 (upd H3 q (.lst (xs ++ ys))) := Same.new fq
      have naq : a ≠ q := ne_of_none ((Same.trans s2 s3) _ _ upd_same) fq
      have s14 := Same.trans s13 s4
      refine h_pair hd (ha.gr s14) rfl rfl (.inl rfl) rfl rfl (ha.same s14) (.nil ((Same.trans (Same.trans s2 s3) s4) _ _ upd_same)) ⟨_, upd_same, TDs.to (Tups.ofSame s4) td⟩ naq fa ((ha.gr s13).fresh fq)
    · obtain ⟨b0, eb, _⟩ := c.all_bh tb
      have e : tried s = (s, [], rowsD c b0 s.log 1 :: askedD c s) := by
        unfold tried
        rw [ec]
        show (if s.ready = false then _ else _) = _
        rw [if_neg (by rw [st2]; simp), eb]
      rw [e] at hd
      rw [List.isEmpty_eq_false_iff.mpr tb]
      walk_at "vv"
      refine ⟨Nat.zero_le _, fun a fa => ?_⟩
      have s1 : Same H (upd H a (.lst [])) := Same.new fa
      walk_at "vv"
      refine n_methx (s1 _ _ hp) (hF_no (by decide +kernel)) ?_
      walk_at "vv"
      refine ⟨x, s, c, b0, 1, rfl, ha.same s1, ec, okc, eb, Nat.le_refl _, by have := ok.len; omega, fun H2 v s2 t2 => ?_⟩
      have s12 := Same.trans s1 s2
      walk_at "vv"
      refine ⟨by show 1 ≤ sizeLine; decide, fun b fb => ?_⟩
      have s3 : Same H2 (upd H2 b (.lst [v])) := Same.new fb
      have s13 := Same.trans s12 s3
      walk_at "vv"
      refine n_methx (s13 _ _ hp) (hF_no (by decide +kernel)) ?_
      walk_at "vv"
      refine ⟨x, s, c, rfl, ha.same s13, ec, okc, ok.few, fun H4 g fg s4 l4 => ?_⟩
      have lb : LD H4 b [rowsD c b0 s.log 1] := ⟨[v], s4 _ _ upd_same, .cons (TD.to (Tups.ofSame (Same.trans s3 s4)) t2) .nil⟩
      obtain ⟨xs, ys, h1, h2, td, n1, n2⟩ := lb.cat l4
      have s14 := Same.trans s13 s4
      refine ⟨b, g, xs, ys, rfl, rfl, h1, h2, ?_, fun q fq => ?_⟩
      · rw [n1, n2, askedD_len]
        have := ok.few
        show 1 + _ ≤ _
        exact Nat.le_trans (m := 100) (by omega) (by decide)
      walk_at "vv"
      have s5 : Same H4 (upd H4 q (.lst (xs ++ ys))) := Same.new fq
      have k1 := (Same.trans (Same.trans s2 s3) s4) _ _ (upd_same (H := H) (a := a) (o := .lst []))
      have naq : a ≠ q := ne_of_none k1 fq
      have s15 := Same.trans s14 s5
      exact h_pair hd (ha.gr s15) rfl rfl (.inl rfl) rfl rfl (ha.same s15) (.nil (s5 _ _ k1)) ⟨_, upd_same, TDs.to (Tups.ofSame s5) td⟩ naq fa ((ha.gr s14).fresh fq)
theorem elder_eq {s : HS} {c : Ch} (e : s.ch = some c) (n : Int) : s.elder n = decide (n ≤ c.num) := by
  unfold HS.elder
  rw [e]
theorem elder_none {s : HS} (e : s.ch = none) (n : Int) : s.elder n = false := by
  unfold HS.elder
  rw [e]
theorem ok_H_adopt (T : Txt w K mg A) (D : MD K A.CH "adopt" "House.adopt" s_H_adopt) (c_H_told_all : Met P w K mg base 1 A.CH "told_all" (sp_H_told_all A)) (c_H_is_tail : Met P w K mg base 1 A.CH "is_tail" (sp_H_is_tail A)) (c_H_answered_all : Met P w K mg base 2 A.CH "answered_all" (sp_H_answered_all A))
    (c_H_told_ahead : Met P w K mg base 4 A.CH "told_ahead" (sp_H_told_ahead A)) (c_H_asked_tail : Met P w K mg base 2 A.CH "asked_tail" (sp_H_asked_tail A)) (c_H_rows_behind : Met P w K mg base 4 A.CH "rows_behind" (sp_H_rows_behind A)) : Met P w K mg base 5 A.CH "adopt" (sp_H_adopt A) := by
  have S := sc_H_adopt.sc
  refine met_mk D sc_H_adopt (fun vs H Q E h => by obtain ⟨x, s, ca, hl, c, rfl, _⟩ := h; rfl) fun f0 cdv A0 outer s0 H vs Q E hr h => ?_
  obtain ⟨x, s, ca, hl, c, rfl, ha, ok, cat, okc, hd⟩ := h
  obtain ⟨dx, hp⟩ := ha.ob
  obtain ⟨⟨dy, hc⟩, hh⟩ := id cat
  have me : ("me" : Str) ∈ c.all := List.mem_of_getElem? c.all_at
  refine ⟨_, (pss_cons (ps_if (pt_not (pt_val (pe_callB call_isi (by rfl) T.b_isinstance (by decide +kernel) (pa_cons (pv 1) (pa_cons (pgl T.x_Chain rfl) pa_nil)))))
          (pss_one ps_never)
          pss_nil)
        (pss_cons (ps_if (pt_cmpR op_notIn_seq (pe_fld (pv 0) rfl) (pe_fld (pv 1) rfl) rfl)
          (pss_one ps_never)
          pss_nil)
        (pss_cons (ps_if (PW.pt (pw_and (pt_cmpR op_notN (pe_fld (pv 0) rfl) pe_non (nomark _)) (pw_and1 (pt_cmpR op_le (pe_fld (pv 1) rfl) (pe_fld (pe_fld (pv 0) rfl) rfl) (nomark _)))))
          (pss_one (ps_ret (pe_tup (pa_cons (pe_lst pa_nil) (pa_cons (pe_lst pa_nil) pa_nil)))))
          pss_nil)
        (pss_cons (ps_fld (pv 0) (pv 1) rfl)
        (pss_cons (ps_if (pt_cmpR op_eq (pe_fld (pv 1) rfl) pe_int (nomark _))
          (pss_one (ps_fld (pv 0) pe_bl rfl))
          pss_nil)
        (pss_cons (ps_if (pt_not (pt_val (pe_fld (pv 0) rfl)))
          (pss_one (ps_ret (pe_tup (pa_cons (pe_lst pa_nil) (pa_cons (pe_lst pa_nil) pa_nil)))))
          pss_nil)
        (pss_cons (ps_if (pt_val (pm0 c_H_is_tail hr (by decide) (pv 0)))
          (pss_one (ps_ret (pe_tup (pa_cons (pe_op op_cat (pm0 c_H_told_all hr (by decide) (pv 0)) (pm0 c_H_answered_all hr (by decide) (pv 0))) (pa_cons (pm0 c_H_told_ahead hr (by decide) (pv 0)) pa_nil)))))
          pss_nil)
        (pss_one (ps_ret (pe_tup (pa_cons (pe_lst pa_nil) (pa_cons (pe_op op_cat (pe_lst (pa_cons (pm c_H_rows_behind hr (by decide) (pv 0) (pa_cons pe_int pa_nil)) pa_nil)) (pm0 c_H_asked_tail hr (by decide) (pv 0))) pa_nil)))))))))))), ?_⟩
  walk_at "vv"
  refine ⟨.ref ca, .ref A.CC, .ref A.CC, .ref A.CC, true, rfl, ClsV.own _, .base (.ins hc T.clC T.iC1 T.iC2 T.iC3 T.iC4), T.kCC, ?_⟩
  walk_at "vv"
  refine ⟨_, _, _, _, _, rfl, hp, T.clH, T.h_name, hF_name, ?_⟩
  walk_at "vv"
  refine ⟨_, _, _, _, _, rfl, hc, T.clC, T.c_houses, cF_houses, ?_⟩
  refine ⟨hl, _, rfl, .inl (SqL.of hh), rfl, flat_strs _, ?_⟩
  rw [inV_strs, decide_eq_true me]
  walk_at "vv"
  refine ⟨_, _, _, _, _, rfl, hp, T.clH, T.h_own, hF_own, ?_⟩
  walk_at "vv"
  have np : ca ≠ x.p := fun q => by
    rw [q, hp] at hc
    have z := Option.some.inj hc
    injection z with z1 z2 z3
    have := congrArg List.length z3
    simp [cF, hF] at this
  have nhp : hl ≠ x.p := fun q => by
    rw [q, hp] at hh
    cases Option.some.inj hh
  cases ec : s.ch with
  | none =>
    have eo : ownV s x.ca = .non := by unfold ownV; rw [ec]
    have el := elder_none ec c.num
    rw [eo] at hp ⊢
    walk_at "vv"
    refine n_sfldx hp T.clH T.h_own (by show 6 < 1000; decide) ?_
    rw [put_own]
    walk_at "vv"
    have fr1 : Fr [x.p] H (upd H x.p (.ins A.CH dx (hF (.ref ca) x.l s.told s.ready x.d))) := Fr.upd (Fr.refl H) (by simp)
    have gr1 : Gr [x.p] H (upd H x.p (.ins A.CH dx (hF (.ref ca) x.l s.told s.ready x.d))) := ⟨fr1, fun q hq => by rw [List.mem_singleton.mp hq]; exact ⟨_, upd_same⟩⟩
    have ha1 : HA A (upd H x.p (.ins A.CH dx (hF (.ref ca) x.l s.told s.ready x.d))) { x with ca := ca, hl := hl } { s with ch := some c } := ha.put (s' := { s with ch := some c }) (dx := dx) fr1 upd_same rfl rfl cat
    have hc1 : upd H x.p (.ins A.CH dx (hF (.ref ca) x.l s.told s.ready x.d)) ca = some (.ins A.CC dy (cF c.num hl)) := by rw [upd_ne np]; exact hc
    generalize hH1 : upd H x.p (.ins A.CH dx (hF (.ref ca) x.l s.told s.ready x.d)) = H1 at *
    refine ⟨_, _, _, _, _, rfl, hc1, T.clC, T.c_number, cF_number, ?_⟩
    walk_at "vv"
    have e0 : adopted s c = (if (s.taken c).ready = false then (s.taken c, [], []) else
      match c.bh with
      | none => ({ (s.taken c).tellAll with asks := [] }, writtenD (s.taken c) ++ answersD (s.taken c), toldUp c s.log.length)
      | some b => (s.taken c, [], rowsD c b s.log 1 :: askedD c s)) := by
      unfold adopted
      rw [if_neg (by rw [el]; simp)]
      try rfl
    have ok1 : (s.taken c).Ok := ⟨fun c' e => by cases e; exact okc, ok.told, ok.len, ok.nd, ok.few⟩
    have hH1p : H1 x.p = some (.ins A.CH dx (hF (.ref ca) x.l s.told s.ready x.d)) := by rw [← hH1]; exact upd_same
    by_cases n1 : c.num = 1
    · have er : (s.taken c).ready = true := by
        show (s.ready || decide (c.num = 1)) = true
        rw [decide_eq_true n1, Bool.or_true]
      refine n_iT (by rw [n1]; exact decide_eq_true rfl) ?_
      walk_at "vv"
      refine n_sfldx hH1p T.clH T.h_able (by show 6 < 1000; decide) ?_
      rw [put_able]
      walk_at "vv"
      have gr2 : Gr [x.p] H (upd H1 x.p (.ins A.CH dx (hF (.ref ca) x.l s.told true x.d))) := gr1.upd (by simp)
      have ha2 : HA A (upd H1 x.p (.ins A.CH dx (hF (.ref ca) x.l s.told true x.d))) { x with ca := ca, hl := hl } (s.taken c) :=
        ha1.put (x := { x with ca := ca, hl := hl }) (s' := s.taken c) (ca := ca) (hl := hl) (dx := dx) (Fr.upd (Fr.refl H1) (by simp)) (by rw [upd_same, er]; rfl) rfl rfl ha1.ch
      generalize upd H1 x.p (.ins A.CH dx (hF (.ref ca) x.l s.told true x.d)) = H2x at *
      obtain ⟨dx2, hp2⟩ := ha2.ob
      refine ⟨_, _, _, _, _, rfl, hp2, T.clH, T.h_able, hF_able, ?_⟩
      cases rdy : (s.taken c).ready with
      | false =>
        rw [e0, if_pos rdy] at hd
        walk_at "vv"
        refine ⟨Nat.zero_le _, fun a fa => ?_⟩
        walk_at "vv"
        refine ⟨Nat.zero_le _, fun b fb => ?_⟩
        walk_at "vv"
        obtain ⟨s2, la, lb, n, fa0, fb0⟩ := two0 gr2 fa fb
        exact pair_of (gr2.same s2) la lb n fa0 fb0 fun H' v s3 br => hd H' v { x with ca := ca, hl := hl } rfl rfl (.inl rfl) (.inr rfl) (ha2.same (Same.trans s2 s3)) br (gr2.fr.trans (Fr.ofSame (Same.trans s2 s3)))
      | true =>
        rw [e0, if_neg (by rw [rdy]; simp)] at hd
        walk_at "vv"
        refine n_methx hp2 (hF_no (by decide +kernel)) ?_
        walk_at "vv"
        refine ⟨{ x with ca := ca, hl := hl }, s.taken c, c, rfl, ha2, rfl, okc, ?_⟩
        by_cases tb : c.B = []
        · rw [c.bh_nil tb] at hd
          rw [List.isEmpty_iff.mpr tb]
          walk_at "vv"
          refine n_methx hp2 (hF_no (by decide +kernel)) ?_
          walk_at "vv"
          refine ⟨{ x with ca := ca, hl := hl }, s.taken c, rfl, ha2, by have := ok1.len; omega, fun H3 a fa f3 ha3 la => ?_⟩
          obtain ⟨dx3, hp3⟩ := ha3.ob
          have gr3 : Gr [x.p] H H3 := gr2.more f3 (fun _ m => m) fun q hq => by rw [List.mem_singleton.mp hq]; exact ⟨_, hp3⟩
          walk_at "vv"
          refine n_methx hp3 (hF_no (by decide +kernel)) ?_
          walk_at "vv"
          have ok3 : (s.taken c).tellAll.Ok := ⟨ok1.ch, Nat.le_refl _, ok1.len, ok1.nd, ok1.few⟩
          refine ⟨{ x with ca := ca, hl := hl }, (s.taken c).tellAll, rfl, ha3, ok3, fun H4 b d' fb fd f4 ha4 lb => ?_⟩
          obtain ⟨dx4, hp4⟩ := ha4.ob
          have gr4 : Gr [x.p] H H4 := gr3.more f4 (fun _ m => m) fun q hq => by rw [List.mem_singleton.mp hq]; exact ⟨_, hp4⟩
          have nap : a ≠ x.p := fun q => by
            obtain ⟨xs, h1, _⟩ := la
            rw [q] at h1
            have z := h1.symm.trans hp3
            cases Option.some.inj z
          have la4 : LD H4 a (writtenD (s.taken c)) := la.to (by
            obtain ⟨xs, h1, _⟩ := la
            rw [h1]
            exact f4 _ _ h1 (by simp [nap])) (Fr.tups f4 (NT.cons hp3 (by intro ys q; cases q) NT.nil))
          obtain ⟨xs, ys, h1, h2, td, l1, l2⟩ := la4.cat lb
          refine ⟨a, b, xs, ys, rfl, rfl, h1, h2, ?_, fun q fq => ?_⟩
          · rw [l1, l2]
            unfold writtenD answersD
            rw [List.length_map, List.length_map, List.length_drop, sortA_len]
            have := ok1.len
            have := ok1.few
            exact Nat.le_trans (m := 1000) (by show s.log.length - _ + s.asks.length ≤ _; have := ok.len; have := ok.few; omega) (by decide)
          have s5 : Same H4 (upd H4 q (.lst (xs ++ ys))) := Same.new fq
          have gr5 := gr4.same s5
          walk_at "vv"
          refine n_methx (s5 _ _ hp4) (hF_no (by decide +kernel)) ?_
          walk_at "vv"
          refine ⟨{ x with d := d', ca := ca, hl := hl }, { (s.taken c).tellAll with asks := [] }, c, rfl, ha4.same s5, rfl, okc, fun H6 g fg s6 l6 => ?_⟩
          walk_at "vv"
          have nqg : q ≠ g := ne_of_none upd_same fg
          refine pair_of (gr5.same s6) ⟨_, s6 _ _ upd_same, TDs.to (Tups.ofSame (Same.trans s5 s6)) td⟩ l6 nqg (gr4.fresh fq) (gr5.fresh fg) fun H' v s7 br => ?_
          exact hd H' v { x with d := d', ca := ca, hl := hl } rfl rfl (.inr (gr3.fresh fd)) (.inr rfl) (ha4.same (Same.trans s5 (Same.trans s6 s7))) br (gr5.fr.trans (Fr.ofSame (Same.trans s6 s7)))
        · obtain ⟨b0, eb, _⟩ := c.all_bh tb
          rw [eb] at hd
          rw [List.isEmpty_eq_false_iff.mpr tb]
          walk_at "vv"
          refine ⟨Nat.zero_le _, fun a fa => ?_⟩
          have t1 : Same H2x (upd H2x a (.lst [])) := Same.new fa
          walk_at "vv"
          refine n_methx (t1 _ _ hp2) (hF_no (by decide +kernel)) ?_
          walk_at "vv"
          refine ⟨{ x with ca := ca, hl := hl }, s.taken c, c, b0, 1, rfl, ha2.same t1, rfl, okc, eb, Nat.le_refl _, by have := ok1.len; omega, fun H3 v t2 d2 => ?_⟩
          have t12 := Same.trans t1 t2
          walk_at "vv"
          refine ⟨by show 1 ≤ sizeLine; decide, fun b fb => ?_⟩
          have t3 : Same H3 (upd H3 b (.lst [v])) := Same.new fb
          have t13 := Same.trans t12 t3
          walk_at "vv"
          refine n_methx (t13 _ _ hp2) (hF_no (by decide +kernel)) ?_
          walk_at "vv"
          refine ⟨{ x with ca := ca, hl := hl }, s.taken c, c, rfl, ha2.same t13, rfl, okc, ok1.few, fun H4 g fg t4 l4 => ?_⟩
          have lb : LD H4 b [rowsD c b0 s.log 1] := ⟨[v], t4 _ _ upd_same, .cons (TD.to (Tups.ofSame (Same.trans t3 t4)) d2) .nil⟩
          obtain ⟨xs, ys, h1, h2, td, l1, l2⟩ := lb.cat l4
          have t14 := Same.trans t13 t4
          refine ⟨b, g, xs, ys, rfl, rfl, h1, h2, ?_, fun q fq => ?_⟩
          · rw [l1, l2, askedD_len]
            have := ok1.few
            show 1 + _ ≤ _
            exact Nat.le_trans (m := 100) (by omega) (by decide)
          walk_at "vv"
          have t5 : Same H4 (upd H4 q (.lst (xs ++ ys))) := Same.new fq
          have k1 := (Same.trans (Same.trans t2 t3) t4) _ _ (upd_same (H := H2x) (a := a) (o := .lst []))
          have naq : a ≠ q := ne_of_none k1 fq
          have t15 := Same.trans t14 t5
          refine pair_of (gr2.same t15) (.nil (t5 _ _ k1)) ⟨_, upd_same, TDs.to (Tups.ofSame t5) td⟩ naq (gr2.fresh fa) ((gr2.same t14).fresh fq) fun H' v s7 br => ?_
          exact hd H' v { x with ca := ca, hl := hl } rfl rfl (.inl rfl) (.inr rfl) (ha2.same (Same.trans t15 s7)) br (gr2.fr.trans (Fr.ofSame (Same.trans t15 s7)))
    · have er : (s.taken c).ready = s.ready := by
        show (s.ready || decide (c.num = 1)) = s.ready
        rw [decide_eq_false n1, Bool.or_false]
      refine n_iF (decide_eq_false fun q => n1 (by injection q)) ?_
      walk_at "vv"
      have gr2 := gr1
      have ha2 : HA A H1 { x with ca := ca, hl := hl } (s.taken c) :=
        ha1.put (x := { x with ca := ca, hl := hl }) (s' := s.taken c) (ca := ca) (hl := hl) (dx := dx) (Fr.refl H1) (by rw [hH1p, er]; rfl) rfl rfl ha1.ch
      clear hH1 hH1p hc1 fr1 ha1
      obtain ⟨H2x, e2x⟩ : ∃ H2x, H2x = H1 := ⟨_, rfl⟩
      rw [← e2x] at gr2 ha2 ⊢
      clear e2x
      obtain ⟨dx2, hp2⟩ := ha2.ob
      refine ⟨_, _, _, _, _, rfl, hp2, T.clH, T.h_able, hF_able, ?_⟩
      cases rdy : (s.taken c).ready with
      | false =>
        rw [e0, if_pos rdy] at hd
        walk_at "vv"
        refine ⟨Nat.zero_le _, fun a fa => ?_⟩
        walk_at "vv"
        refine ⟨Nat.zero_le _, fun b fb => ?_⟩
        walk_at "vv"
        obtain ⟨s2, la, lb, n, fa0, fb0⟩ := two0 gr2 fa fb
        exact pair_of (gr2.same s2) la lb n fa0 fb0 fun H' v s3 br => hd H' v { x with ca := ca, hl := hl } rfl rfl (.inl rfl) (.inr rfl) (ha2.same (Same.trans s2 s3)) br (gr2.fr.trans (Fr.ofSame (Same.trans s2 s3)))
      | true =>
        rw [e0, if_neg (by rw [rdy]; simp)] at hd
        walk_at "vv"
        refine n_methx hp2 (hF_no (by decide +kernel)) ?_
        walk_at "vv"
        refine ⟨{ x with ca := ca, hl := hl }, s.taken c, c, rfl, ha2, rfl, okc, ?_⟩
        by_cases tb : c.B = []
        · rw [c.bh_nil tb] at hd
          rw [List.isEmpty_iff.mpr tb]
          walk_at "vv"
          refine n_methx hp2 (hF_no (by decide +kernel)) ?_
          walk_at "vv"
          refine ⟨{ x with ca := ca, hl := hl }, s.taken c, rfl, ha2, by have := ok1.len; omega, fun H3 a fa f3 ha3 la => ?_⟩
          obtain ⟨dx3, hp3⟩ := ha3.ob
          have gr3 : Gr [x.p] H H3 := gr2.more f3 (fun _ m => m) fun q hq => by rw [List.mem_singleton.mp hq]; exact ⟨_, hp3⟩
          walk_at "vv"
          refine n_methx hp3 (hF_no (by decide +kernel)) ?_
          walk_at "vv"
          have ok3 : (s.taken c).tellAll.Ok := ⟨ok1.ch, Nat.le_refl _, ok1.len, ok1.nd, ok1.few⟩
          refine ⟨{ x with ca := ca, hl := hl }, (s.taken c).tellAll, rfl, ha3, ok3, fun H4 b d' fb fd f4 ha4 lb => ?_⟩
          obtain ⟨dx4, hp4⟩ := ha4.ob
          have gr4 : Gr [x.p] H H4 := gr3.more f4 (fun _ m => m) fun q hq => by rw [List.mem_singleton.mp hq]; exact ⟨_, hp4⟩
          have nap : a ≠ x.p := fun q => by
            obtain ⟨xs, h1, _⟩ := la
            rw [q] at h1
            have z := h1.symm.trans hp3
            cases Option.some.inj z
          have la4 : LD H4 a (writtenD (s.taken c)) := la.to (by
            obtain ⟨xs, h1, _⟩ := la
            rw [h1]
            exact f4 _ _ h1 (by simp [nap])) (Fr.tups f4 (NT.cons hp3 (by intro ys q; cases q) NT.nil))
          obtain ⟨xs, ys, h1, h2, td, l1, l2⟩ := la4.cat lb
          refine ⟨a, b, xs, ys, rfl, rfl, h1, h2, ?_, fun q fq => ?_⟩
          · rw [l1, l2]
            unfold writtenD answersD
            rw [List.length_map, List.length_map, List.length_drop, sortA_len]
            have := ok1.len
            have := ok1.few
            exact Nat.le_trans (m := 1000) (by show s.log.length - _ + s.asks.length ≤ _; have := ok.len; have := ok.few; omega) (by decide)
          have s5 : Same H4 (upd H4 q (.lst (xs ++ ys))) := Same.new fq
          have gr5 := gr4.same s5
          walk_at "vv"
          refine n_methx (s5 _ _ hp4) (hF_no (by decide +kernel)) ?_
          walk_at "vv"
          refine ⟨{ x with d := d', ca := ca, hl := hl }, { (s.taken c).tellAll with asks := [] }, c, rfl, ha4.same s5, rfl, okc, fun H6 g fg s6 l6 => ?_⟩
          walk_at "vv"
          have nqg : q ≠ g := ne_of_none upd_same fg
          refine pair_of (gr5.same s6) ⟨_, s6 _ _ upd_same, TDs.to (Tups.ofSame (Same.trans s5 s6)) td⟩ l6 nqg (gr4.fresh fq) (gr5.fresh fg) fun H' v s7 br => ?_
          exact hd H' v { x with d := d', ca := ca, hl := hl } rfl rfl (.inr (gr3.fresh fd)) (.inr rfl) (ha4.same (Same.trans s5 (Same.trans s6 s7))) br (gr5.fr.trans (Fr.ofSame (Same.trans s6 s7)))
        · obtain ⟨b0, eb, _⟩ := c.all_bh tb
          rw [eb] at hd
          rw [List.isEmpty_eq_false_iff.mpr tb]
          walk_at "vv"
          refine ⟨Nat.zero_le _, fun a fa => ?_⟩
          have t1 : Same H2x (upd H2x a (.lst [])) := Same.new fa
          walk_at "vv"
          refine n_methx (t1 _ _ hp2) (hF_no (by decide +kernel)) ?_
          walk_at "vv"
          refine ⟨{ x with ca := ca, hl := hl }, s.taken c, c, b0, 1, rfl, ha2.same t1, rfl, okc, eb, Nat.le_refl _, by have := ok1.len; omega, fun H3 v t2 d2 => ?_⟩
          have t12 := Same.trans t1 t2
          walk_at "vv"
          refine ⟨by show 1 ≤ sizeLine; decide, fun b fb => ?_⟩
          have t3 : Same H3 (upd H3 b (.lst [v])) := Same.new fb
          have t13 := Same.trans t12 t3
          walk_at "vv"
          refine n_methx (t13 _ _ hp2) (hF_no (by decide +kernel)) ?_
          walk_at "vv"
          refine ⟨{ x with ca := ca, hl := hl }, s.taken c, c, rfl, ha2.same t13, rfl, okc, ok1.few, fun H4 g fg t4 l4 => ?_⟩
          have lb : LD H4 b [rowsD c b0 s.log 1] := ⟨[v], t4 _ _ upd_same, .cons (TD.to (Tups.ofSame (Same.trans t3 t4)) d2) .nil⟩
          obtain ⟨xs, ys, h1, h2, td, l1, l2⟩ := lb.cat l4
          have t14 := Same.trans t13 t4
          refine ⟨b, g, xs, ys, rfl, rfl, h1, h2, ?_, fun q fq => ?_⟩
          · rw [l1, l2, askedD_len]
            have := ok1.few
            show 1 + _ ≤ _
            exact Nat.le_trans (m := 100) (by omega) (by decide)
          walk_at "vv"
          have t5 : Same H4 (upd H4 q (.lst (xs ++ ys))) := Same.new fq
          have k1 := (Same.trans (Same.trans t2 t3) t4) _ _ (upd_same (H := H2x) (a := a) (o := .lst []))
          have naq : a ≠ q := ne_of_none k1 fq
          have t15 := Same.trans t14 t5
          refine pair_of (gr2.same t15) (.nil (t5 _ _ k1)) ⟨_, upd_same, TDs.to (Tups.ofSame t5) td⟩ naq (gr2.fresh fa) ((gr2.same t14).fresh fq) fun H' v s7 br => ?_
          exact hd H' v { x with ca := ca, hl := hl } rfl rfl (.inl rfl) (.inr rfl) (ha2.same (Same.trans t15 s7)) br (gr2.fr.trans (Fr.ofSame (Same.trans t15 s7)))
  | some c0 =>
    have eo : ownV s x.ca = .ref x.ca := by unfold ownV; rw [ec]
    obtain ⟨⟨dz, hc0⟩, hh0⟩ := ha.chain ec
    rw [eo] at hp ⊢
    walk_at "vv"
    refine ⟨_, _, _, _, _, rfl, hc, T.clC, T.c_number, cF_number, ?_⟩
    walk_at "vv"
    refine ⟨_, _, _, _, _, rfl, hp, T.clH, T.h_own, hF_own, ?_⟩
    walk_at "vv"
    refine ⟨_, _, _, _, _, rfl, hc0, T.clC, T.c_number, cF_number, ?_⟩
    walk_at "vv"
    by_cases le : c.num ≤ c0.num
    · have e : adopted s c = (s, [], []) := by
        unfold adopted
        rw [if_pos (by rw [elder_eq ec]; exact decide_eq_true le)]
      rw [e] at hd
      refine n_iT (decide_eq_true le) ?_
      walk_at "vv"
      refine ⟨Nat.zero_le _, fun a fa => ?_⟩
      walk_at "vv"
      refine ⟨Nat.zero_le _, fun b fb => ?_⟩
      walk_at "vv"
      obtain ⟨s2, la, lb, n, fa0, fb0⟩ := two0 (ha.gr (Same.refl H)) fa fb
      exact pair_of (ha.gr s2) la lb n fa0 fb0 fun H' v s3 br => hd H' v x rfl rfl (.inl rfl) (.inl rfl) (ha.same (Same.trans s2 s3)) br (Fr.ofSame (Same.trans s2 s3))
    · have el : s.elder c.num = false := by rw [elder_eq ec]; exact decide_eq_false le
      refine n_iF (decide_eq_false le) ?_
      walk_at "vv"
      refine n_sfldx hp T.clH T.h_own (by show 6 < 1000; decide) ?_
      rw [put_own]
      walk_at "vv"
      have fr1 : Fr [x.p] H (upd H x.p (.ins A.CH dx (hF (.ref ca) x.l s.told s.ready x.d))) := Fr.upd (Fr.refl H) (by simp)
      have gr1 : Gr [x.p] H (upd H x.p (.ins A.CH dx (hF (.ref ca) x.l s.told s.ready x.d))) := ⟨fr1, fun q hq => by rw [List.mem_singleton.mp hq]; exact ⟨_, upd_same⟩⟩
      have ha1 : HA A (upd H x.p (.ins A.CH dx (hF (.ref ca) x.l s.told s.ready x.d))) { x with ca := ca, hl := hl } { s with ch := some c } := ha.put (s' := { s with ch := some c }) (dx := dx) fr1 upd_same rfl rfl cat
      have hc1 : upd H x.p (.ins A.CH dx (hF (.ref ca) x.l s.told s.ready x.d)) ca = some (.ins A.CC dy (cF c.num hl)) := by rw [upd_ne np]; exact hc
      generalize hH1 : upd H x.p (.ins A.CH dx (hF (.ref ca) x.l s.told s.ready x.d)) = H1 at *
      refine ⟨_, _, _, _, _, rfl, hc1, T.clC, T.c_number, cF_number, ?_⟩
      walk_at "vv"
      have e0 : adopted s c = (if (s.taken c).ready = false then (s.taken c, [], []) else
        match c.bh with
        | none => ({ (s.taken c).tellAll with asks := [] }, writtenD (s.taken c) ++ answersD (s.taken c), toldUp c s.log.length)
        | some b => (s.taken c, [], rowsD c b s.log 1 :: askedD c s)) := by
        unfold adopted
        rw [if_neg (by rw [el]; simp)]
        try rfl
      have ok1 : (s.taken c).Ok := ⟨fun c' e => by cases e; exact okc, ok.told, ok.len, ok.nd, ok.few⟩
      have hH1p : H1 x.p = some (.ins A.CH dx (hF (.ref ca) x.l s.told s.ready x.d)) := by rw [← hH1]; exact upd_same
      by_cases n1 : c.num = 1
      · have er : (s.taken c).ready = true := by
          show (s.ready || decide (c.num = 1)) = true
          rw [decide_eq_true n1, Bool.or_true]
        refine n_iT (by rw [n1]; exact decide_eq_true rfl) ?_
        walk_at "vv"
        refine n_sfldx hH1p T.clH T.h_able (by show 6 < 1000; decide) ?_
        rw [put_able]
        walk_at "vv"
        have gr2 : Gr [x.p] H (upd H1 x.p (.ins A.CH dx (hF (.ref ca) x.l s.told true x.d))) := gr1.upd (by simp)
        have ha2 : HA A (upd H1 x.p (.ins A.CH dx (hF (.ref ca) x.l s.told true x.d))) { x with ca := ca, hl := hl } (s.taken c) :=
          ha1.put (x := { x with ca := ca, hl := hl }) (s' := s.taken c) (ca := ca) (hl := hl) (dx := dx) (Fr.upd (Fr.refl H1) (by simp)) (by rw [upd_same, er]; rfl) rfl rfl ha1.ch
        generalize upd H1 x.p (.ins A.CH dx (hF (.ref ca) x.l s.told true x.d)) = H2x at *
        obtain ⟨dx2, hp2⟩ := ha2.ob
        refine ⟨_, _, _, _, _, rfl, hp2, T.clH, T.h_able, hF_able, ?_⟩
        cases rdy : (s.taken c).ready with
        | false =>
          rw [e0, if_pos rdy] at hd
          walk_at "vv"
          refine ⟨Nat.zero_le _, fun a fa => ?_⟩
          walk_at "vv"
          refine ⟨Nat.zero_le _, fun b fb => ?_⟩
          walk_at "vv"
          obtain ⟨s2, la, lb, n, fa0, fb0⟩ := two0 gr2 fa fb
          exact pair_of (gr2.same s2) la lb n fa0 fb0 fun H' v s3 br => hd H' v { x with ca := ca, hl := hl } rfl rfl (.inl rfl) (.inr rfl) (ha2.same (Same.trans s2 s3)) br (gr2.fr.trans (Fr.ofSame (Same.trans s2 s3)))
        | true =>
          rw [e0, if_neg (by rw [rdy]; simp)] at hd
          walk_at "vv"
          refine n_methx hp2 (hF_no (by decide +kernel)) ?_
          walk_at "vv"
          refine ⟨{ x with ca := ca, hl := hl }, s.taken c, c, rfl, ha2, rfl, okc, ?_⟩
          by_cases tb : c.B = []
          · rw [c.bh_nil tb] at hd
            rw [List.isEmpty_iff.mpr tb]
            walk_at "vv"
            refine n_methx hp2 (hF_no (by decide +kernel)) ?_
            walk_at "vv"
            refine ⟨{ x with ca := ca, hl := hl }, s.taken c, rfl, ha2, by have := ok1.len; omega, fun H3 a fa f3 ha3 la => ?_⟩
            obtain ⟨dx3, hp3⟩ := ha3.ob
            have gr3 : Gr [x.p] H H3 := gr2.more f3 (fun _ m => m) fun q hq => by rw [List.mem_singleton.mp hq]; exact ⟨_, hp3⟩
            walk_at "vv"
            refine n_methx hp3 (hF_no (by decide +kernel)) ?_
            walk_at "vv"
            have ok3 : (s.taken c).tellAll.Ok := ⟨ok1.ch, Nat.le_refl _, ok1.len, ok1.nd, ok1.few⟩
            refine ⟨{ x with ca := ca, hl := hl }, (s.taken c).tellAll, rfl, ha3, ok3, fun H4 b d' fb fd f4 ha4 lb => ?_⟩
            obtain ⟨dx4, hp4⟩ := ha4.ob
            have gr4 : Gr [x.p] H H4 := gr3.more f4 (fun _ m => m) fun q hq => by rw [List.mem_singleton.mp hq]; exact ⟨_, hp4⟩
            have nap : a ≠ x.p := fun q => by
              obtain ⟨xs, h1, _⟩ := la
              rw [q] at h1
              have z := h1.symm.trans hp3
              cases Option.some.inj z
            have la4 : LD H4 a (writtenD (s.taken c)) := la.to (by
              obtain ⟨xs, h1, _⟩ := la
              rw [h1]
              exact f4 _ _ h1 (by simp [nap])) (Fr.tups f4 (NT.cons hp3 (by intro ys q; cases q) NT.nil))
            obtain ⟨xs, ys, h1, h2, td, l1, l2⟩ := la4.cat lb
            refine ⟨a, b, xs, ys, rfl, rfl, h1, h2, ?_, fun q fq => ?_⟩
            · rw [l1, l2]
              unfold writtenD answersD
              rw [List.length_map, List.length_map, List.length_drop, sortA_len]
              have := ok1.len
              have := ok1.few
              exact Nat.le_trans (m := 1000) (by show s.log.length - _ + s.asks.length ≤ _; have := ok.len; have := ok.few; omega) (by decide)
            have s5 : Same H4 (upd H4 q (.lst (xs ++ ys))) := Same.new fq
            have gr5 := gr4.same s5
            walk_at "vv"
            refine n_methx (s5 _ _ hp4) (hF_no (by decide +kernel)) ?_
            walk_at "vv"
            refine ⟨{ x with d := d', ca := ca, hl := hl }, { (s.taken c).tellAll with asks := [] }, c, rfl, ha4.same s5, rfl, okc, fun H6 g fg s6 l6 => ?_⟩
            walk_at "vv"
            have nqg : q ≠ g := ne_of_none upd_same fg
            refine pair_of (gr5.same s6) ⟨_, s6 _ _ upd_same, TDs.to (Tups.ofSame (Same.trans s5 s6)) td⟩ l6 nqg (gr4.fresh fq) (gr5.fresh fg) fun H' v s7 br => ?_
            exact hd H' v { x with d := d', ca := ca, hl := hl } rfl rfl (.inr (gr3.fresh fd)) (.inr rfl) (ha4.same (Same.trans s5 (Same.trans s6 s7))) br (gr5.fr.trans (Fr.ofSame (Same.trans s6 s7)))
          · obtain ⟨b0, eb, _⟩ := c.all_bh tb
            rw [eb] at hd
            rw [List.isEmpty_eq_false_iff.mpr tb]
            walk_at "vv"
            refine ⟨Nat.zero_le _, fun a fa => ?_⟩
            have t1 : Same H2x (upd H2x a (.lst [])) := Same.new fa
            walk_at "vv"
            refine n_methx (t1 _ _ hp2) (hF_no (by decide +kernel)) ?_
            walk_at "vv"
            refine ⟨{ x with ca := ca, hl := hl }, s.taken c, c, b0, 1, rfl, ha2.same t1, rfl, okc, eb, Nat.le_refl _, by have := ok1.len; omega, fun H3 v t2 d2 => ?_⟩
            have t12 := Same.trans t1 t2
            walk_at "vv"
            refine ⟨by show 1 ≤ sizeLine; decide, fun b fb => ?_⟩
            have t3 : Same H3 (upd H3 b (.lst [v])) := Same.new fb
            have t13 := Same.trans t12 t3
            walk_at "vv"
            refine n_methx (t13 _ _ hp2) (hF_no (by decide +kernel)) ?_
            walk_at "vv"
            refine ⟨{ x with ca := ca, hl := hl }, s.taken c, c, rfl, ha2.same t13, rfl, okc, ok1.few, fun H4 g fg t4 l4 => ?_⟩
            have lb : LD H4 b [rowsD c b0 s.log 1] := ⟨[v], t4 _ _ upd_same, .cons (TD.to (Tups.ofSame (Same.trans t3 t4)) d2) .nil⟩
            obtain ⟨xs, ys, h1, h2, td, l1, l2⟩ := lb.cat l4
            have t14 := Same.trans t13 t4
            refine ⟨b, g, xs, ys, rfl, rfl, h1, h2, ?_, fun q fq => ?_⟩
            · rw [l1, l2, askedD_len]
              have := ok1.few
              show 1 + _ ≤ _
              exact Nat.le_trans (m := 100) (by omega) (by decide)
            walk_at "vv"
            have t5 : Same H4 (upd H4 q (.lst (xs ++ ys))) := Same.new fq
            have k1 := (Same.trans (Same.trans t2 t3) t4) _ _ (upd_same (H := H2x) (a := a) (o := .lst []))
            have naq : a ≠ q := ne_of_none k1 fq
            have t15 := Same.trans t14 t5
            refine pair_of (gr2.same t15) (.nil (t5 _ _ k1)) ⟨_, upd_same, TDs.to (Tups.ofSame t5) td⟩ naq (gr2.fresh fa) ((gr2.same t14).fresh fq) fun H' v s7 br => ?_
            exact hd H' v { x with ca := ca, hl := hl } rfl rfl (.inl rfl) (.inr rfl) (ha2.same (Same.trans t15 s7)) br (gr2.fr.trans (Fr.ofSame (Same.trans t15 s7)))
      · have er : (s.taken c).ready = s.ready := by
          show (s.ready || decide (c.num = 1)) = s.ready
          rw [decide_eq_false n1, Bool.or_false]
        refine n_iF (decide_eq_false fun q => n1 (by injection q)) ?_
        walk_at "vv"
        have gr2 := gr1
        have ha2 : HA A H1 { x with ca := ca, hl := hl } (s.taken c) :=
          ha1.put (x := { x with ca := ca, hl := hl }) (s' := s.taken c) (ca := ca) (hl := hl) (dx := dx) (Fr.refl H1) (by rw [hH1p, er]; rfl) rfl rfl ha1.ch
        clear hH1 hH1p hc1 fr1 ha1
        obtain ⟨H2x, e2x⟩ : ∃ H2x, H2x = H1 := ⟨_, rfl⟩
        rw [← e2x] at gr2 ha2 ⊢
        clear e2x
        obtain ⟨dx2, hp2⟩ := ha2.ob
        refine ⟨_, _, _, _, _, rfl, hp2, T.clH, T.h_able, hF_able, ?_⟩
        cases rdy : (s.taken c).ready with
        | false =>
          rw [e0, if_pos rdy] at hd
          walk_at "vv"
          refine ⟨Nat.zero_le _, fun a fa => ?_⟩
          walk_at "vv"
          refine ⟨Nat.zero_le _, fun b fb => ?_⟩
          walk_at "vv"
          obtain ⟨s2, la, lb, n, fa0, fb0⟩ := two0 gr2 fa fb
          exact pair_of (gr2.same s2) la lb n fa0 fb0 fun H' v s3 br => hd H' v { x with ca := ca, hl := hl } rfl rfl (.inl rfl) (.inr rfl) (ha2.same (Same.trans s2 s3)) br (gr2.fr.trans (Fr.ofSame (Same.trans s2 s3)))
        | true =>
          rw [e0, if_neg (by rw [rdy]; simp)] at hd
          walk_at "vv"
          refine n_methx hp2 (hF_no (by decide +kernel)) ?_
          walk_at "vv"
          refine ⟨{ x with ca := ca, hl := hl }, s.taken c, c, rfl, ha2, rfl, okc, ?_⟩
          by_cases tb : c.B = []
          · rw [c.bh_nil tb] at hd
            rw [List.isEmpty_iff.mpr tb]
            walk_at "vv"
            refine n_methx hp2 (hF_no (by decide +kernel)) ?_
            walk_at "vv"
            refine ⟨{ x with ca := ca, hl := hl }, s.taken c, rfl, ha2, by have := ok1.len; omega, fun H3 a fa f3 ha3 la => ?_⟩
            obtain ⟨dx3, hp3⟩ := ha3.ob
            have gr3 : Gr [x.p] H H3 := gr2.more f3 (fun _ m => m) fun q hq => by rw [List.mem_singleton.mp hq]; exact ⟨_, hp3⟩
            walk_at "vv"
            refine n_methx hp3 (hF_no (by decide +kernel)) ?_
            walk_at "vv"
            have ok3 : (s.taken c).tellAll.Ok := ⟨ok1.ch, Nat.le_refl _, ok1.len, ok1.nd, ok1.few⟩
            refine ⟨{ x with ca := ca, hl := hl }, (s.taken c).tellAll, rfl, ha3, ok3, fun H4 b d' fb fd f4 ha4 lb => ?_⟩
            obtain ⟨dx4, hp4⟩ := ha4.ob
            have gr4 : Gr [x.p] H H4 := gr3.more f4 (fun _ m => m) fun q hq => by rw [List.mem_singleton.mp hq]; exact ⟨_, hp4⟩
            have nap : a ≠ x.p := fun q => by
              obtain ⟨xs, h1, _⟩ := la
              rw [q] at h1
              have z := h1.symm.trans hp3
              cases Option.some.inj z
            have la4 : LD H4 a (writtenD (s.taken c)) := la.to (by
              obtain ⟨xs, h1, _⟩ := la
              rw [h1]
              exact f4 _ _ h1 (by simp [nap])) (Fr.tups f4 (NT.cons hp3 (by intro ys q; cases q) NT.nil))
            obtain ⟨xs, ys, h1, h2, td, l1, l2⟩ := la4.cat lb
            refine ⟨a, b, xs, ys, rfl, rfl, h1, h2, ?_, fun q fq => ?_⟩
            · rw [l1, l2]
              unfold writtenD answersD
              rw [List.length_map, List.length_map, List.length_drop, sortA_len]
              have := ok1.len
              have := ok1.few
              exact Nat.le_trans (m := 1000) (by show s.log.length - _ + s.asks.length ≤ _; have := ok.len; have := ok.few; omega) (by decide)
            have s5 : Same H4 (upd H4 q (.lst (xs ++ ys))) := Same.new fq
            have gr5 := gr4.same s5
            walk_at "vv"
            refine n_methx (s5 _ _ hp4) (hF_no (by decide +kernel)) ?_
            walk_at "vv"
            refine ⟨{ x with d := d', ca := ca, hl := hl }, { (s.taken c).tellAll with asks := [] }, c, rfl, ha4.same s5, rfl, okc, fun H6 g fg s6 l6 => ?_⟩
            walk_at "vv"
            have nqg : q ≠ g := ne_of_none upd_same fg
            refine pair_of (gr5.same s6) ⟨_, s6 _ _ upd_same, TDs.to (Tups.ofSame (Same.trans s5 s6)) td⟩ l6 nqg (gr4.fresh fq) (gr5.fresh fg) fun H' v s7 br => ?_
            exact hd H' v { x with d := d', ca := ca, hl := hl } rfl rfl (.inr (gr3.fresh fd)) (.inr rfl) (ha4.same (Same.trans s5 (Same.trans s6 s7))) br (gr5.fr.trans (Fr.ofSame (Same.trans s6 s7)))
          · obtain ⟨b0, eb, _⟩ := c.all_bh tb
            rw [eb] at hd
            rw [List.isEmpty_eq_false_iff.mpr tb]
            walk_at "vv"
            refine ⟨Nat.zero_le _, fun a fa => ?_⟩
            have t1 : Same H2x (upd H2x a (.lst [])) := Same.new fa
            walk_at "vv"
            refine n_methx (t1 _ _ hp2) (hF_no (by decide +kernel)) ?_
            walk_at "vv"
            refine ⟨{ x with ca := ca, hl := hl }, s.taken c, c, b0, 1, rfl, ha2.same t1, rfl, okc, eb, Nat.le_refl _, by have := ok1.len; omega, fun H3 v t2 d2 => ?_⟩
            have t12 := Same.trans t1 t2
            walk_at "vv"
            refine ⟨by show 1 ≤ sizeLine; decide, fun b fb => ?_⟩
            have t3 : Same H3 (upd H3 b (.lst [v])) := Same.new fb
            have t13 := Same.trans t12 t3
            walk_at "vv"
            refine n_methx (t13 _ _ hp2) (hF_no (by decide +kernel)) ?_
            walk_at "vv"
            refine ⟨{ x with ca := ca, hl := hl }, s.taken c, c, rfl, ha2.same t13, rfl, okc, ok1.few, fun H4 g fg t4 l4 => ?_⟩
            have lb : LD H4 b [rowsD c b0 s.log 1] := ⟨[v], t4 _ _ upd_same, .cons (TD.to (Tups.ofSame (Same.trans t3 t4)) d2) .nil⟩
            obtain ⟨xs, ys, h1, h2, td, l1, l2⟩ := lb.cat l4
            have t14 := Same.trans t13 t4
            refine ⟨b, g, xs, ys, rfl, rfl, h1, h2, ?_, fun q fq => ?_⟩
            · rw [l1, l2, askedD_len]
              have := ok1.few
              show 1 + _ ≤ _
              exact Nat.le_trans (m := 100) (by omega) (by decide)
            walk_at "vv"
            have t5 : Same H4 (upd H4 q (.lst (xs ++ ys))) := Same.new fq
            have k1 := (Same.trans (Same.trans t2 t3) t4) _ _ (upd_same (H := H2x) (a := a) (o := .lst []))
            have naq : a ≠ q := ne_of_none k1 fq
            have t15 := Same.trans t14 t5
            refine pair_of (gr2.same t15) (.nil (t5 _ _ k1)) ⟨_, upd_same, TDs.to (Tups.ofSame t5) td⟩ naq (gr2.fresh fa) ((gr2.same t14).fresh fq) fun H' v s7 br => ?_
            exact hd H' v { x with ca := ca, hl := hl } rfl rfl (.inl rfl) (.inr rfl) (ha2.same (Same.trans t15 s7)) br (gr2.fr.trans (Fr.ofSame (Same.trans t15 s7)))
end
end Ck

namespace Ck
open PySem PySem.Spec PyProof.Rows L2
local macro_rules | `(tactic| walk_at "v") => `(tactic| (first | with_reducible refine n_seq ?_ | with_reducible refine n_ifs ?_ | with_reducible refine n_asg ?_ | with_reducible refine n_name ?_ | with_reducible refine n_ret ?_ | with_reducible refine n_drop ?_ | with_reducible refine n_next ?_ | ((with_reducible refine' n_var ?e ?_); (case e => rfl)) | with_reducible refine n_c ?_ | with_reducible refine n_op ?_ | with_reducible refine n_un ?_ | with_reducible refine n_test ?_ | with_reducible refine n_B ?_ | with_reducible refine n_ex ?_ | with_reducible refine n_and ?_ | with_reducible refine n_or ?_ | with_reducible refine n_not ?_ | with_reducible refine n_andV ?_ | with_reducible refine n_orV ?_ | with_reducible refine n_notV ?_ | with_reducible refine n_cons ?_ | with_reducible refine n_nil ?_ | with_reducible refine n_cb ?_ | with_reducible refine n_call ?_ | with_reducible refine n_I0 ?_ | with_reducible refine n_tup ?_ | with_reducible refine n_lst ?_ | with_reducible refine n_sl ?_ | with_reducible refine n_part ?_ | with_reducible refine n_nopart ?_ | with_reducible refine n_exI ?_ | with_reducible refine n_chain ?_ | with_reducible refine n_dget ?_ | with_reducible refine n_meth ?_ | with_reducible refine n_bm ?_ | with_reducible refine n_bm0 ?_ | with_reducible refine n_sfld ?_ | with_reducible refine n_fld ?_ | with_reducible refine n_for ?_ | with_reducible refine n_dpop1 ?_ | with_reducible refine n_din ?_ | with_reducible refine n_dnotin ?_ | with_reducible refine n_dput ?_ | with_reducible refine n_nn ?_ | with_reducible refine n_rU ?_ | with_reducible refine n_lss ?_ | with_reducible refine n_kget ?_ | with_reducible refine n_iL ?_ | with_reducible refine n_iE ?_ | with_reducible refine n_iR ?_ | with_reducible refine n_lc ?_ | with_reducible refine n_lcT ?_ | with_reducible refine n_lcS ?_ | with_reducible refine n_gTup ?_ | with_reducible refine n_gCons ?_ | with_reducible refine n_gNil ?_ | ((with_reducible refine n_eq ?e ?_); (case e => rfl)) | ((with_reducible refine n_ne ?e ?_); (case e => rfl)) | ((with_reducible refine n_iT ?e ?_); (case e => rfl)) | ((with_reducible refine n_iF ?e ?_); (case e => rfl))))
local macro_rules | `(tactic| walk_at "vv") => `(tactic| repeat walk_at "v")
section
variable {P : Program} {w : World} {K : PySem.W.Frag} {mg : Str → Option Value} {base : Heap} {A : Ad}
theorem ok_H_take_told (T : Txt w K mg A) (D : MD K A.CH "take_told" "House.take_told" s_H_take_told) (c_C_behind : Met P w K mg base 3 A.CC "behind" (sp_C_behind A)) (c_H_told_ahead : Met P w K mg base 4 A.CH "told_ahead" (sp_H_told_ahead A)) : Met P w K mg base 5 A.CH "take_told" (sp_H_take_told A) := by
  have S := sc_H_take_told.sc
  refine met_mk D sc_H_take_told (fun vs H Q E h => by obtain ⟨x, s, c, b, m, rfl, _⟩ := h; rfl) fun f0 cdv A0 outer s0 H vs Q E hr h => ?_
  obtain ⟨x, s, c, b, m, rfl, ha, ok, ec, hm, hd⟩ := h
  have okc := ok.ch c ec
  obtain ⟨dx, hp⟩ := ha.obC ec
  obtain ⟨⟨dy, hc⟩, hh⟩ := ha.chain ec
  refine ⟨_, (pss_cons (ps_if (PW.pt (pw_or (pt_cmpR op_ne (pv 1) (pm c_C_behind hr (by decide) (pe_fld (pv 0) rfl) (pa_cons (pe_fld (pv 0) rfl) pa_nil)) (nomark _)) (pw_or1 (pt_cmpR op_gt (pv 2) (pe_callB call_len_seq (by rfl) T.b_len PySem.boot_len (pa_cons (pe_fld (pv 0) rfl) pa_nil)) (nomark _)))))
          (pss_one (ps_ret (pe_tup (pa_cons (pe_lst pa_nil) (pa_cons (pe_lst pa_nil) pa_nil)))))
          pss_nil)
        (pss_cons (ps_fld (pv 0) (pe_callB (call_max2 rfl) (by rfl) T.b_max (by decide +kernel) (pa_cons (pe_fld (pv 0) rfl) (pa_cons (pv 2) pa_nil))) rfl)
        (pss_one (ps_ret (pe_tup (pa_cons (pe_lst pa_nil) (pa_cons (pm0 c_H_told_ahead hr (by decide) (pv 0)) pa_nil))))))), ?_⟩
  unfold tookTold at hd
  walk_at "vv"
  refine ⟨_, _, _, _, _, rfl, hp, T.clH, T.h_own, hF_own, ?_⟩
  refine n_methx hc (cF_no (by decide +kernel)) ?_
  walk_at "vv"
  refine ⟨_, _, _, _, _, rfl, hp, T.clH, T.h_name, hF_name, ?_⟩
  walk_at "vv"
  refine ⟨x.ca, x.hl, c, rfl, ha.chain ec, okc, fun H1 s1 => ?_⟩
  have ha1 := ha.same s1
  have hp1 := s1 _ _ hp
  walk_at "vv"
  refine n_ne scal_ov ?_
  rw [ov_ne]
  walk_at "vv"
  have hg := ha1
  have gr := ha.gr s1
  by_cases eb : c.bh = some b
  · refine n_iF (by rw [decide_eq_true eb]; rfl) ?_
    walk_at "vv"
    refine ⟨_, _, _, _, _, rfl, hp1, T.clH, T.h_kept, hF_kept, ?_⟩
    walk_at "vv"
    refine ⟨x.l, _, rfl, .inl (SqL.of ha1.lst), ?_⟩
    rw [List.length_map]
    walk_at "vv"
    by_cases lm : (s.log.length : Int) < m
    · rw [if_pos (.inr lm)] at hd
      refine n_iT (decide_eq_true lm) ?_
      walk_at "vv"
      refine ⟨Nat.zero_le _, fun a fa => ?_⟩
      walk_at "vv"
      refine ⟨Nat.zero_le _, fun b fb => ?_⟩
      walk_at "vv"
      obtain ⟨z2, la, lb, nab, fa0, fb0⟩ := two0 gr fa fb
      exact h_pair hd (gr.same z2) rfl rfl (.inl rfl) rfl rfl (hg.same z2) la lb nab fa0 fb0
    · rw [if_neg (fun q => q.elim (fun z => z eb) lm)] at hd
      refine n_iF (decide_eq_false lm) ?_
      walk_at "vv"
      refine ⟨_, _, _, _, _, rfl, hp1, T.clH, T.h_sure, hF_sure, ?_⟩
      walk_at "vv"
      refine ⟨(s.told : Int), m, rfl, ?_⟩
      have em : (if m > (s.told : Int) then m else (s.told : Int)) = ((max s.told m.toNat : Nat) : Int) := by
        by_cases q : m > (s.told : Int)
        · rw [if_pos q, Nat.max_eq_right (by omega)]
          omega
        · rw [if_neg q, Nat.max_eq_left (by omega)]
      rw [em]
      walk_at "vv"
      refine n_sfldx hp1 T.clH T.h_sure (by show 6 < 1000; decide) ?_
      rw [put_sure]
      walk_at "vv"
      have fr2 : Fr [x.p] H1 (upd H1 x.p (.ins A.CH dx (hF (.ref x.ca) x.l (max s.told m.toNat) s.ready x.d))) := Fr.upd (Fr.refl _) (by simp)
      have gr2 : Gr [x.p, x.l, x.d] H (upd H1 x.p (.ins A.CH dx (hF (.ref x.ca) x.l (max s.told m.toNat) s.ready x.d))) := gr.upd (by simp)
      have ha2 : HA A (upd H1 x.p (.ins A.CH dx (hF (.ref x.ca) x.l (max s.told m.toNat) s.ready x.d))) x { s with told := max s.told m.toNat } :=
        ha1.put (s' := { s with told := max s.told m.toNat }) (ca := x.ca) (hl := x.hl) (dx := dx) fr2 (by rw [upd_same]; unfold ownV; rw [ec]) rfl rfl ha1.ch
      have hp2 : upd H1 x.p (.ins A.CH dx (hF (.ref x.ca) x.l (max s.told m.toNat) s.ready x.d)) x.p = _ := upd_same
      generalize upd H1 x.p (.ins A.CH dx (hF (.ref x.ca) x.l (max s.told m.toNat) s.ready x.d)) = H2 at *
      refine ⟨Nat.zero_le _, fun a fa => ?_⟩
      have s3 : Same H2 (upd H2 a (.lst [])) := Same.new fa
      walk_at "vv"
      refine n_methx (s3 _ _ hp2) (hF_no (by decide +kernel)) ?_
      walk_at "vv"
      refine ⟨x, { s with told := max s.told m.toNat }, c, rfl, ha2.same s3, ec, okc, fun H4 g fg s4 l4 => ?_⟩
      walk_at "vv"
      have k1 := s4 _ _ (upd_same (H := H2) (a := a) (o := .lst []))
      exact h_pair hd (gr2.same (Same.trans s3 s4)) rfl rfl (.inl rfl) rfl rfl (ha2.same (Same.trans s3 s4)) (.nil k1) l4 (ne_of_none upd_same fg) (gr2.fresh fa) ((gr2.same s3).fresh fg)
  · rw [if_pos (.inl eb)] at hd
    refine n_iT (by rw [decide_eq_false eb]; rfl) ?_
    walk_at "vv"
    refine ⟨Nat.zero_le _, fun a fa => ?_⟩
    walk_at "vv"
    refine ⟨Nat.zero_le _, fun b fb => ?_⟩
    walk_at "vv"
    obtain ⟨z2, la, lb, nab, fa0, fb0⟩ := two0 gr fa fb
    exact h_pair hd (gr.same z2) rfl rfl (.inl rfl) rfl rfl (hg.same z2) la lb nab fa0 fb0
theorem ok_H_take_which (T : Txt w K mg A) (D : MD K A.CH "take_which" "House.take_which" s_H_take_which) (c_H_is_tail : Met P w K mg base 1 A.CH "is_tail" (sp_H_is_tail A)) (c_H_letter : Met P w K mg base 1 A.CH "letter" (sp_H_letter A)) : Met P w K mg base 2 A.CH "take_which" (sp_H_take_which A) := by
  have S := sc_H_take_which.sc
  refine met_mk D sc_H_take_which (fun vs H Q E h => by obtain ⟨x, s, c, b, k, rfl, _⟩ := h; rfl) fun f0 cdv A0 outer s0 H vs Q E hr h => ?_
  obtain ⟨x, s, c, b, k, rfl, ha, ok, ec, hd⟩ := h
  have okc := ok.ch c ec
  obtain ⟨dx, hp⟩ := ha.obC ec
  refine ⟨_, (pss_cons (ps_if (PW.pt (pw_or (pt_not (pt_val (pe_fld (pv 0) rfl))) (pw_or1 (pt_not (pt_val (pm0 c_H_is_tail hr (by decide) (pv 0)))))))
          (pss_one (ps_ret (pe_tup (pa_cons (pe_lst pa_nil) (pa_cons (pe_lst pa_nil) pa_nil)))))
          pss_nil)
        (pss_one (ps_ret (pe_tup (pa_cons (pe_lst pa_nil) (pa_cons (pe_lst (pa_cons (pm c_H_letter hr (by decide) (pv 0) (pa_cons pe_str (pa_cons (pv 1) (pa_cons (pe_tup (pa_cons (pv 2) (pa_cons (pe_fld (pv 0) rfl) pa_nil))) pa_nil)))) pa_nil)) pa_nil)))))), ?_⟩
  unfold tookWhich at hd
  walk_at "vv"
  refine ⟨_, _, _, _, _, rfl, hp, T.clH, T.h_able, hF_able, ?_⟩
  have hg := ha
  have gr := ha.gr (Same.refl H)
  cases rdy : s.ready with
  | false =>
    rw [if_pos (.inl rdy)] at hd
    walk_at "vv"
    refine ⟨Nat.zero_le _, fun a fa => ?_⟩
    walk_at "vv"
    refine ⟨Nat.zero_le _, fun b fb => ?_⟩
    walk_at "vv"
    obtain ⟨z2, la, lb, nab, fa0, fb0⟩ := two0 gr fa fb
    exact h_pair hd (gr.same z2) rfl rfl (.inl rfl) rfl rfl (hg.same z2) la lb nab fa0 fb0
  | true =>
    walk_at "vv"
    refine n_methx hp (hF_no (by decide +kernel)) ?_
    walk_at "vv"
    refine ⟨x, s, c, rfl, ha, ec, okc, ?_⟩
    by_cases tb : c.B = []
    · rw [if_neg (fun q => q.elim (fun z => by rw [rdy] at z; cases z) fun z => z tb)] at hd
      rw [List.isEmpty_iff.mpr tb]
      walk_at "vv"
      refine ⟨Nat.zero_le _, fun a fa => ?_⟩
      have s1 : Same H (upd H a (.lst [])) := Same.new fa
      walk_at "vv"
      refine n_methx (s1 _ _ hp) (hF_no (by decide +kernel)) ?_
      walk_at "vv"
      refine ⟨_, _, _, _, _, rfl, s1 _ _ hp, T.clH, T.h_sure, hF_sure, ?_⟩
      walk_at "vv"
      refine ⟨by show 2 ≤ sizeLine; decide, fun m hm => ?_⟩
      have s2 : Same _ (upd (upd H a (.lst [])) m (.tup [.int k, .int (s.told : Int)])) := Same.new hm
      walk_at "vv"
      refine ⟨x, s, c, "that", b, m, [.int k, .int (s.told : Int)], rfl, ha.same (Same.trans s1 s2), ec, upd_same, by simp, by show 2 ≤ 100; decide, fun H3 g fg s3 h3 => ?_⟩
      walk_at "vv"
      refine ⟨by show 1 ≤ sizeLine; decide, fun q fq => ?_⟩
      have s13 := Same.trans (Same.trans s1 s2) s3
      have s4 : Same H3 (upd H3 q (.lst [.ref g])) := Same.new fq
      have s14 := Same.trans s13 s4
      have k1 := (Same.trans s2 s3) _ _ (upd_same (H := H) (a := a) (o := .lst []))
      walk_at "vv"
      exact h_pair hd (ha.gr s14) rfl rfl (.inl rfl) rfl rfl (ha.same s14) (.nil (s4 _ _ k1)) ⟨_, upd_same, .cons (.tup (s4 _ _ h3) (.cons (.str _) (.cons (.int _) (.cons (.str _) (.cons (.str _) (.cons (.int _) (.cons (.int _) .nil))))))) .nil⟩ (ne_of_none k1 fq) fa ((ha.gr s13).fresh fq)
    · rw [if_pos (.inr tb)] at hd
      rw [List.isEmpty_eq_false_iff.mpr tb]
      walk_at "vv"
      refine ⟨Nat.zero_le _, fun a fa => ?_⟩
      walk_at "vv"
      refine ⟨Nat.zero_le _, fun b fb => ?_⟩
      walk_at "vv"
      obtain ⟨z2, la, lb, nab, fa0, fb0⟩ := two0 gr fa fb
      exact h_pair hd (gr.same z2) rfl rfl (.inl rfl) rfl rfl (hg.same z2) la lb nab fa0 fb0
theorem ok_H_take_that (T : Txt w K mg A) (D : MD K A.CH "take_that" "House.take_that" s_H_take_that) (c_last_worth : Cal P w K mg base 1 "last_worth" sp_last_worth) : Met P w K mg base 2 A.CH "take_that" (sp_H_take_that A) := by
  have S := sc_H_take_that.sc
  refine met_mk D sc_H_take_that (fun vs H Q E h => by obtain ⟨x, s, c, b, k, m, rfl, _⟩ := h; rfl) fun f0 cdv A0 outer s0 H vs Q E hr h => ?_
  obtain ⟨x, s, c, b, k, m, rfl, ha, ok, ec, hm, hd⟩ := h
  have okc := ok.ch c ec
  obtain ⟨dx, hp⟩ := ha.obC ec
  obtain ⟨⟨dy, hc⟩, hh⟩ := ha.chain ec
  refine ⟨_, (pss_cons (ps_if (PW.pt (pw_or (pt_cmpR op_ne (pv 1) (pe_ix ix_list (pe_fld (pe_fld (pv 0) rfl) rfl) (pe_un un_neg pe_int) (fun _ _ => rfl)) (nomark _)) (pw_or (pt_cmp (pc_dnotin (hu_of hr) (pv 2) (pe_fld (pv 0) rfl))) (pw_or1 (pt_cmpR op_gt (pv 3) (pe_callB call_len_seq (by rfl) T.b_len PySem.boot_len (pa_cons (pe_fld (pv 0) rfl) pa_nil)) (nomark _))))))
          (pss_one (ps_ret (pe_tup (pa_cons (pe_lst pa_nil) (pa_cons (pe_lst pa_nil) pa_nil)))))
          pss_nil)
        (pss_cons (ps_set (i := 4) S.nd rfl (Or.inl rfl) (pe_dpop1 (pe_fld (pv 0) rfl) (pv 2) ⟨rfl, rfl, rfl, rfl⟩))
        (pss_one (ps_ret (pe_tup (pa_cons (pe_lst (pa_cons (pe_tup (pa_cons pe_str (pa_cons (pv 2) (pa_cons (pc c_last_worth hr (by decide) rfl (pa_cons (pe_slice sl_list (pe_fld (pv 0) rfl) po_none (po_some (pv 3))) (pa_cons (pv 4) pa_nil))) pa_nil)))) pa_nil)) (pa_cons (pe_lst pa_nil) pa_nil))))))), ?_⟩
  unfold tookThat at hd
  have hg := ha
  have gr := ha.gr (Same.refl H)
  walk_at "vv"
  refine ⟨_, _, _, _, _, rfl, hp, T.clH, T.h_own, hF_own, ?_⟩
  walk_at "vv"
  refine ⟨_, _, _, _, _, rfl, hc, T.clC, T.c_houses, cF_houses, ?_⟩
  walk_at "vv"
  refine n_ixL (SqL.of hh) (atI_neg1 (v := .str c.tl) (by rw [List.length_map, List.getElem?_map, c.all_tl]; rfl)) ?_
  walk_at "vv"
  by_cases eb : b = c.tl
  · refine n_iF (by rw [decide_eq_true (congrArg V.str eb)]; rfl) ?_
    walk_at "vv"
    refine ⟨_, _, _, _, _, rfl, hp, T.clH, T.h_asks, hF_asks, ?_⟩
    refine ⟨x.d, valV (kvA s.asks) (Sum.inl k), rfl, DGet.k (k := Sum.inl k) ha.asks, ?_⟩
    rw [kvA_val]
    cases hk : keyA s.asks k with
    | none =>
      rw [if_pos (.inr (.inl (by rw [hk]; rfl)))] at hd
      walk_at "vv"
      refine ⟨Nat.zero_le _, fun a fa => ?_⟩
      walk_at "vv"
      refine ⟨Nat.zero_le _, fun b fb => ?_⟩
      walk_at "vv"
      obtain ⟨z2, la, lb, nab, fa0, fb0⟩ := two0 gr fa fb
      exact h_pair hd (gr.same z2) rfl rfl (.inl rfl) rfl rfl (hg.same z2) la lb nab fa0 fb0
    | some key =>
      walk_at "vv"
      refine ⟨_, _, _, _, _, rfl, hp, T.clH, T.h_kept, hF_kept, ?_⟩
      walk_at "vv"
      refine ⟨x.l, _, rfl, .inl (SqL.of ha.lst), ?_⟩
      rw [List.length_map]
      walk_at "vv"
      by_cases lm : (s.log.length : Int) < m
      · rw [if_pos (.inr (.inr lm))] at hd
        refine n_iT (decide_eq_true lm) ?_
        walk_at "vv"
        refine ⟨Nat.zero_le _, fun a fa => ?_⟩
        walk_at "vv"
        refine ⟨Nat.zero_le _, fun b fb => ?_⟩
        walk_at "vv"
        obtain ⟨z2, la, lb, nab, fa0, fb0⟩ := two0 gr fa fb
        exact h_pair hd (gr.same z2) rfl rfl (.inl rfl) rfl rfl (hg.same z2) la lb nab fa0 fb0
      · rw [if_neg (fun q => q.elim (fun z => z eb) fun q => q.elim (fun z => by rw [hk] at z; cases z) lm), hk] at hd
        refine n_iF (decide_eq_false lm) ?_
        walk_at "vv"
        refine ⟨_, _, _, _, _, rfl, hp, T.clH, T.h_asks, hF_asks, ?_⟩
        refine ⟨x.d, rfl, .inl ⟨_, .inl ha.asks⟩, ?_⟩
        walk_at "vv"
        refine ⟨kvA s.asks, Sum.inl k, .str key, ha.asks, rfl, by rw [kvA_val, hk]; rfl, ?_⟩
        rw [dropK_kvA]
        have ha1 : HA A (upd H x.d (.dK (kvA (s.asks.filter fun q => !decide (q.1 = k))))) x (s.drop k) := ha.asked
        have gr1 : Gr [x.p, x.l, x.d] H (upd H x.d (.dK (kvA (s.asks.filter fun q => !decide (q.1 = k))))) := gr.upd (by simp)
        generalize upd H x.d (.dK (kvA (s.asks.filter fun q => !decide (q.1 = k)))) = H1 at *
        obtain ⟨dx1, hp1⟩ := ha1.ob
        walk_at "vv"
        refine ⟨_, _, _, _, _, rfl, hp1, T.clH, T.h_kept, hF_kept, ?_⟩
        walk_at "vv"
        refine ⟨x.l, _, rfl, SqL.of ha1.lst, fun q fq => ?_⟩
        rw [show m = ((m.toNat : Nat) : Int) by omega, cut_to, show ((m.toNat : Nat) : Int).toNat = m.toNat by omega] at *
        have s2 : Same H1 (upd H1 q (.lst (((s.drop k).log.map Row.v).take m.toNat))) := Same.new fq
        walk_at "vv"
        refine ⟨q, s.log.take m.toNat, key, rfl, by rw [upd_same, List.map_take]; rfl, (ha1.same s2).rows.sub fun r hr => List.mem_of_mem_take hr, ?_⟩
        walk_at "vv"
        refine ⟨by show 3 ≤ sizeLine; decide, fun t ft => ?_⟩
        have s3 : Same _ (upd (upd H1 q (.lst (((s.drop k).log.map Row.v).take m.toNat))) t (.tup [.str "worth", .int k, oi (lastW (s.log.take m.toNat) key)])) := Same.new ft
        walk_at "vv"
        refine ⟨by show 1 ≤ sizeLine; decide, fun a fa => ?_⟩
        have s23 := Same.trans s2 s3
        have s4 := Same.new (o := .lst [.ref t]) fa
        have s24 := Same.trans s23 s4
        walk_at "vv"
        refine ⟨Nat.zero_le _, fun b2 fb => ?_⟩
        have s5 := Same.new (o := .lst []) fb
        have s25 := Same.trans s24 s5
        walk_at "vv"
        have tw : ∀ H', TD H' (oi (lastW (s.log.take m.toNat) key)) (oiD (lastW (s.log.take m.toNat) key)) := fun H' => by
          cases lastW (s.log.take m.toNat) key with
          | none => exact .non
          | some z => exact .int z
        exact h_pair hd (gr1.same s25) rfl rfl (.inl rfl) rfl rfl (ha1.same s25) ⟨_, s5 _ _ upd_same, .cons (.tup (s5 _ _ (s4 _ _ upd_same)) (.cons (.str _) (.cons (.int _) (.cons (tw _) .nil)))) .nil⟩ (.nil upd_same) (ne_of_none upd_same fb) ((gr1.same s23).fresh fa) ((gr1.same s24).fresh fb)
  · rw [if_pos (.inl eb)] at hd
    refine n_iT (by rw [decide_eq_false fun z => eb (by injection z)]; rfl) ?_
    walk_at "vv"
    refine ⟨Nat.zero_le _, fun a fa => ?_⟩
    walk_at "vv"
    refine ⟨Nat.zero_le _, fun b fb => ?_⟩
    walk_at "vv"
    obtain ⟨z2, la, lb, nab, fa0, fb0⟩ := two0 gr fa fb
    exact h_pair hd (gr.same z2) rfl rfl (.inl rfl) rfl rfl (hg.same z2) la lb nab fa0 fb0
end
end Ck

namespace Ck
open PySem PySem.Spec PyProof.Rows L2
local macro_rules | `(tactic| walk_at "v") => `(tactic| (first | with_reducible refine n_seq ?_ | with_reducible refine n_ifs ?_ | with_reducible refine n_asg ?_ | with_reducible refine n_name ?_ | with_reducible refine n_ret ?_ | with_reducible refine n_drop ?_ | with_reducible refine n_next ?_ | ((with_reducible refine' n_var ?e ?_); (case e => rfl)) | with_reducible refine n_c ?_ | with_reducible refine n_op ?_ | with_reducible refine n_un ?_ | with_reducible refine n_test ?_ | with_reducible refine n_B ?_ | with_reducible refine n_ex ?_ | with_reducible refine n_and ?_ | with_reducible refine n_or ?_ | with_reducible refine n_not ?_ | with_reducible refine n_andV ?_ | with_reducible refine n_orV ?_ | with_reducible refine n_notV ?_ | with_reducible refine n_cons ?_ | with_reducible refine n_nil ?_ | with_reducible refine n_cb ?_ | with_reducible refine n_call ?_ | with_reducible refine n_I0 ?_ | with_reducible refine n_tup ?_ | with_reducible refine n_lst ?_ | with_reducible refine n_sl ?_ | with_reducible refine n_part ?_ | with_reducible refine n_nopart ?_ | with_reducible refine n_exI ?_ | with_reducible refine n_chain ?_ | with_reducible refine n_dget ?_ | with_reducible refine n_meth ?_ | with_reducible refine n_bm ?_ | with_reducible refine n_bm0 ?_ | with_reducible refine n_sfld ?_ | with_reducible refine n_fld ?_ | with_reducible refine n_for ?_ | with_reducible refine n_dpop1 ?_ | with_reducible refine n_din ?_ | with_reducible refine n_dnotin ?_ | with_reducible refine n_dput ?_ | with_reducible refine n_nn ?_ | with_reducible refine n_rU ?_ | with_reducible refine n_lss ?_ | with_reducible refine n_kget ?_ | with_reducible refine n_iL ?_ | with_reducible refine n_iE ?_ | with_reducible refine n_iR ?_ | with_reducible refine n_lc ?_ | with_reducible refine n_lcT ?_ | with_reducible refine n_lcS ?_ | with_reducible refine n_gTup ?_ | with_reducible refine n_gCons ?_ | with_reducible refine n_gNil ?_ | ((with_reducible refine n_eq ?e ?_); (case e => rfl)) | ((with_reducible refine n_ne ?e ?_); (case e => rfl)) | ((with_reducible refine n_iT ?e ?_); (case e => rfl)) | ((with_reducible refine n_iF ?e ?_); (case e => rfl))))
local macro_rules | `(tactic| walk_at "vv") => `(tactic| repeat walk_at "v")
section
variable {P : Program} {w : World} {K : PySem.W.Frag} {mg : Str → Option Value} {base : Heap} {A : Ad}
theorem ah_ne {b : Str} {o : Option Str} : decide (V.str b = ov o) = decide (o = some b) := by
  cases o with
  | none => rfl
  | some x =>
    by_cases e : x = b
    · rw [e, decide_eq_true rfl, decide_eq_true]
      rfl
    · rw [decide_eq_false (fun z => e (by injection z with z; exact z.symm)), decide_eq_false (fun z => e (by injection z))]
theorem ah_scal {b : Str} {o : Option Str} : scal (.str b) (ov o) = true := by cases o <;> rfl
theorem ok_H_take_rows (T : Txt w K mg A) (D : MD K A.CH "take_rows" "House.take_rows" s_H_take_rows) (c_C_ahead_of : Met P w K mg base 3 A.CC "ahead_of" (sp_C_ahead_of A)) (c_H_is_tail : Met P w K mg base 1 A.CH "is_tail" (sp_H_is_tail A)) (c_H_told_all : Met P w K mg base 1 A.CH "told_all" (sp_H_told_all A))
    (c_H_told_ahead : Met P w K mg base 4 A.CH "told_ahead" (sp_H_told_ahead A)) (c_H_rows_behind : Met P w K mg base 4 A.CH "rows_behind" (sp_H_rows_behind A)) : Met P w K mg base 5 A.CH "take_rows" (sp_H_take_rows A) := by
  have S := sc_H_take_rows.sc
  refine met_mk D sc_H_take_rows (fun vs H Q E h => by obtain ⟨x, s, c, b, f, l, ra, rfl, _⟩ := h; rfl) fun f0 cdv A0 outer s0 H vs Q E hr h => ?_
  obtain ⟨x, s, c, b, f, l, ra, rfl, ha, ok, ec, hf, hl, hra, hR, hd⟩ := h
  have okc := ok.ch c ec
  obtain ⟨dx, hp⟩ := ha.obC ec
  obtain ⟨⟨dy, hc⟩, hh⟩ := ha.chain ec
  refine ⟨_, (pss_cons (ps_if (PW.pt (pw_or (pt_cmpR op_ne (pv 1) (pm c_C_ahead_of hr (by decide) (pe_fld (pv 0) rfl) (pa_cons (pe_fld (pv 0) rfl) pa_nil)) (nomark _)) (pw_or1 (pt_cmpR op_gt (pv 2) (pe_op op_add (pe_callB call_len_seq (by rfl) T.b_len PySem.boot_len (pa_cons (pe_fld (pv 0) rfl) pa_nil)) pe_int) (nomark _)))))
          (pss_one (ps_ret (pe_tup (pa_cons (pe_lst pa_nil) (pa_cons (pe_lst pa_nil) pa_nil)))))
          pss_nil)
        (pss_cons (ps_set (i := 4) S.nd rfl (Or.inl rfl) (pe_callB call_len_seq (by rfl) T.b_len PySem.boot_len (pa_cons (pe_fld (pv 0) rfl) pa_nil)))
        (pss_cons (ps_expr (pe_bm PySem.F.plainAttrs_list PySem.F.slot_list_extend PySem.F.type_list_extend mt_extendT (pe_fld (pv 0) rfl) (pa_cons (pe_slice sl_tupA (pv 3) (po_some (pe_op op_sub (pe_op op_add (pv 4) pe_int) (pv 2))) po_none) pa_nil)))
        (pss_cons (ps_if (pt_cmpR op_eq (pv 2) pe_int (nomark _))
          (pss_one (ps_fld (pv 0) pe_bl rfl))
          pss_nil)
        (pss_cons (ps_if (pt_not (pt_val (pe_fld (pv 0) rfl)))
          (pss_one (ps_ret (pe_tup (pa_cons (pe_lst pa_nil) (pa_cons (pe_lst pa_nil) pa_nil)))))
          pss_nil)
        (pss_cons (ps_if (pt_val (pm0 c_H_is_tail hr (by decide) (pv 0)))
          (pss_one (ps_ret (pe_tup (pa_cons (pm0 c_H_told_all hr (by decide) (pv 0)) (pa_cons (pm0 c_H_told_ahead hr (by decide) (pv 0)) pa_nil)))))
          pss_nil)
        (pss_cons (ps_if (pt_cmpR op_eq (pe_callB call_len_seq (by rfl) T.b_len PySem.boot_len (pa_cons (pe_fld (pv 0) rfl) pa_nil)) (pv 4) (nomark _))
          (pss_one (ps_ret (pe_tup (pa_cons (pe_lst pa_nil) (pa_cons (pe_lst pa_nil) pa_nil)))))
          pss_nil)
        (pss_one (ps_ret (pe_tup (pa_cons (pe_lst pa_nil) (pa_cons (pe_lst (pa_cons (pm c_H_rows_behind hr (by decide) (pv 0) (pa_cons (pe_op op_add (pv 4) pe_int) pa_nil)) pa_nil)) pa_nil)))))))))))), ?_⟩
  unfold tookRows at hd
  walk_at "vv"
  refine ⟨_, _, _, _, _, rfl, hp, T.clH, T.h_own, hF_own, ?_⟩
  refine n_methx hc (cF_no (by decide +kernel)) ?_
  walk_at "vv"
  refine ⟨_, _, _, _, _, rfl, hp, T.clH, T.h_name, hF_name, ?_⟩
  walk_at "vv"
  refine ⟨x.ca, x.hl, c, rfl, ha.chain ec, okc, fun H1 s1 => ?_⟩
  have ha1 := ha.same s1
  have hp1 := s1 _ _ hp
  walk_at "vv"
  refine n_ne ah_scal ?_
  rw [ah_ne]
  walk_at "vv"
  by_cases eb : c.ah = some b
  · refine n_iF (by rw [decide_eq_true eb]; rfl) ?_
    walk_at "vv"
    refine ⟨_, _, _, _, _, rfl, hp1, T.clH, T.h_kept, hF_kept, ?_⟩
    walk_at "vv"
    refine ⟨x.l, _, rfl, .inl (SqL.of ha1.lst), ?_⟩
    rw [List.length_map]
    walk_at "vv"
    by_cases lf : s.log.length + 1 < f
    · rw [if_pos (.inr lf)] at hd
      refine n_iT (decide_eq_true (by omega)) ?_
      have hg := ha1
      have gr := ha.gr s1
      walk_at "vv"
      refine ⟨Nat.zero_le _, fun a fa => ?_⟩
      walk_at "vv"
      refine ⟨Nat.zero_le _, fun b fb => ?_⟩
      walk_at "vv"
      obtain ⟨z2, la, lb, nab, fa0, fb0⟩ := two0 gr fa fb
      exact h_pair hd (gr.same z2) rfl rfl (.inl rfl) rfl rfl (hg.same z2) la lb nab fa0 fb0
    · rw [if_neg (fun q => q.elim (fun z => z eb) lf)] at hd
      refine n_iF (decide_eq_false (by omega)) ?_
      walk_at "vv"
      refine ⟨_, _, _, _, _, rfl, hp1, T.clH, T.h_kept, hF_kept, ?_⟩
      walk_at "vv"
      refine ⟨x.l, _, rfl, .inl (SqL.of ha1.lst), ?_⟩
      rw [List.length_map]
      walk_at "vv"
      refine ⟨_, _, _, _, _, rfl, hp1, T.clH, T.h_kept, hF_kept, ?_⟩
      refine ⟨n_lty ha1.lst, ?_⟩
      walk_at "vv"
      have hra1 := s1 _ _ hra
      have hR1 : RowsOk H1 l := hR.to (Tups.ofSame s1)
      have ef : ((s.log.length : Int) + 1 - (f : Int)) = ((s.log.length + 1 - f : Nat) : Int) := by omega
      -- behind the log's growth
      have go : ∀ (H2 : Hp) (q : Addr) (zs : List V), Same H1 H2 → SqT K H2 q zs → zs = (l.drop (s.log.length + 1 - f)).map Row.v →
          ∀ Rr : Hp → Prop, (∀ H3, HA A H3 x (s.plus (l.drop (s.log.length + 1 - f))) → Gr [x.p, x.l, x.d] H H3 → Rr H3) →
          ∃ l' b' xs zs', V.ref x.l = .ref l' ∧ [V.ref q] = [.ref b'] ∧ H2 l' = some (.lst xs) ∧ SqT K H2 b' zs' ∧ xs.length + zs'.length ≤ sizeLine ∧ Rr (upd H2 l' (.lst (xs ++ zs'))) := by
        intro H2 q zs s2 hq ez Rr k
        have ha2 := ha1.same s2
        refine ⟨x.l, q, s.log.map Row.v, zs, rfl, rfl, ha2.lst, hq, ?_, ?_⟩
        · rw [ez, List.length_map, List.length_map, List.length_drop]
          have := ok.len
          exact Nat.le_trans (m := 1000) (by omega) (by decide)
        · have hR2 : RowsOk H2 (l.drop (s.log.length + 1 - f)) := (hR1.to (Tups.ofSame s2)).sub fun r hr => List.mem_of_mem_drop hr
          have := ha2.grow hR2
          rw [List.map_append] at this
          rw [ez]
          exact k _ this ((ha.gr (Same.trans s1 s2)).upd (by simp))
      refine ⟨ra, _, rfl, SqT.of hra1, fun hw => ?_, fun _ q fq => ?_⟩
      · refine go H1 ra _ (Same.refl _) (SqT.of hra1) ?_ _ fun H2 ha2 gr2 => ?_
        · have h1 := hw.1
          rw [ef, HT.sIx_nat] at h1
          rw [List.length_map] at h1
          have : (l.drop (s.log.length + 1 - f)) = l := by
            by_cases z : s.log.length + 1 - f = 0
            · rw [z]; rfl
            · have : l.length = 0 := by
                rw [Nat.min_def] at h1
                split at h1 <;> omega
              rw [List.length_eq_zero_iff.mp this]
              simp
          rw [this]
        · skip
          have ec2 : (s.plus (l.drop (s.log.length + 1 - f))).ch = some c := ec
          obtain ⟨dx2, hp2⟩ := ha2.obC ec2
          have len3 : (s.plus (l.drop (s.log.length + 1 - f))).log.length ≤ 1000 := by
            show (s.log ++ _).length ≤ 1000
            rw [List.length_append, List.length_drop]
            have := ok.len
            omega
          walk_at "vv"
          by_cases f1 : f = 1
          · have es : ((s.plus (l.drop (s.log.length + 1 - f))).able f).ready = true := by
              show (s.ready || decide (f = 1)) = true
              rw [decide_eq_true f1, Bool.or_true]
            refine n_iT (by rw [f1]; exact decide_eq_true rfl) ?_
            walk_at "vv"
            refine n_sfldx hp2 T.clH T.h_able (by show 6 < 1000; decide) ?_
            rw [put_able]
            walk_at "vv"
            have gr3 := gr2.upd (a := x.p) (o := .ins A.CH dx2 (hF (.ref x.ca) x.l (s.plus (l.drop (s.log.length + 1 - f))).told true x.d)) (by simp)
            have ha3 : HA A (upd H2 x.p (.ins A.CH dx2 (hF (.ref x.ca) x.l (s.plus (l.drop (s.log.length + 1 - f))).told true x.d))) x ((s.plus (l.drop (s.log.length + 1 - f))).able f) :=
              ha2.put (s' := (s.plus (l.drop (s.log.length + 1 - f))).able f) (ca := x.ca) (hl := x.hl) (dx := dx2) (Fr.upd (Fr.refl H2) (by simp)) (by rw [upd_same, es]; unfold ownV; rw [show ((s.plus (l.drop (s.log.length + 1 - f))).able f).ch = some c from ec2]; rfl) rfl rfl ha2.ch
            generalize upd H2 x.p (.ins A.CH dx2 (hF (.ref x.ca) x.l (s.plus (l.drop (s.log.length + 1 - f))).told true x.d)) = H3 at *
            have ec3 : ((s.plus (l.drop (s.log.length + 1 - f))).able f).ch = some c := ec2
            have len3 : ((s.plus (l.drop (s.log.length + 1 - f))).able f).log.length ≤ 1000 := len3
            generalize (s.plus (l.drop (s.log.length + 1 - f))).able f = s3 at *
            dsimp only at hd
            obtain ⟨dx3, hp3⟩ := ha3.obC ec3
            refine ⟨_, _, _, _, _, rfl, hp3, T.clH, T.h_able, hF_able, ?_⟩
            have hg := ha3
            have gr := gr3
            cases rdy : s3.ready with
            | false =>
              rw [if_pos rdy] at hd
              walk_at "vv"
              refine ⟨Nat.zero_le _, fun a fa => ?_⟩
              walk_at "vv"
              refine ⟨Nat.zero_le _, fun b fb => ?_⟩
              walk_at "vv"
              obtain ⟨z2, la, lb, nab, fa0, fb0⟩ := two0 gr fa fb
              exact h_pair hd (gr.same z2) rfl rfl (.inl rfl) rfl rfl (hg.same z2) la lb nab fa0 fb0
            | true =>
              rw [if_neg (by rw [rdy]; simp)] at hd
              walk_at "vv"
              refine n_methx hp3 (hF_no (by decide +kernel)) ?_
              walk_at "vv"
              refine ⟨x, s3, c, rfl, ha3, ec3, okc, ?_⟩
              by_cases tb : c.B = []
              · rw [c.bh_nil tb] at hd
                rw [List.isEmpty_iff.mpr tb]
                walk_at "vv"
                refine n_methx hp3 (hF_no (by decide +kernel)) ?_
                walk_at "vv"
                refine ⟨x, s3, rfl, ha3, len3, fun H4 a fa f4 ha4 la => ?_⟩
                obtain ⟨dx4, hp4⟩ := ha4.ob
                have gr4 : Gr [x.p, x.l, x.d] H H4 := gr3.more f4 (fun q m => by rw [List.mem_singleton.mp m]; simp) fun q hq => by rw [List.mem_singleton.mp hq]; exact ⟨_, hp4⟩
                walk_at "vv"
                refine n_methx hp4 (hF_no (by decide +kernel)) ?_
                walk_at "vv"
                refine ⟨x, s3.tellAll, c, rfl, ha4, ec3, okc, fun H5 g fg s5 l5 => ?_⟩
                walk_at "vv"
                have nag : a ≠ g := by
                  obtain ⟨xs, h1, _⟩ := la
                  exact ne_of_none h1 fg
                exact h_pair hd (gr4.same s5) rfl rfl (.inl rfl) rfl rfl (ha4.same s5) (LD.same la s5) l5 nag (gr3.fresh fa) (gr4.fresh fg)
              · obtain ⟨b0, eb0, _⟩ := c.all_bh tb
                rw [eb0] at hd
                rw [List.isEmpty_eq_false_iff.mpr tb]
                walk_at "vv"
                refine ⟨_, _, _, _, _, rfl, hp3, T.clH, T.h_kept, hF_kept, ?_⟩
                walk_at "vv"
                refine ⟨x.l, _, rfl, .inl (SqL.of ha3.lst), ?_⟩
                rw [List.length_map]
                walk_at "vv"
                by_cases le : s3.log.length = s.log.length
                · have hd : HDone A H x Q (s3, [], []) := by
                    have h0 := hd
                    simp only [if_pos le] at h0
                    exact h0
                  refine n_iT (decide_eq_true (by rw [le])) ?_
                  walk_at "vv"
                  refine ⟨Nat.zero_le _, fun a fa => ?_⟩
                  walk_at "vv"
                  refine ⟨Nat.zero_le _, fun b fb => ?_⟩
                  walk_at "vv"
                  obtain ⟨z2, la, lb, nab, fa0, fb0⟩ := two0 gr fa fb
                  exact h_pair hd (gr.same z2) rfl rfl (.inl rfl) rfl rfl (hg.same z2) la lb nab fa0 fb0
                · have hd : HDone A H x Q (s3, [], [rowsD c b0 s3.log (s.log.length + 1)]) := by
                    have h0 := hd
                    simp only [if_neg le] at h0
                    exact h0
                  refine n_iF (decide_eq_false fun z => le (by injection z with z; omega)) ?_
                  walk_at "vv"
                  refine ⟨Nat.zero_le _, fun a fa => ?_⟩
                  have t1 : Same H3 (upd H3 a (.lst [])) := Same.new fa
                  walk_at "vv"
                  refine n_methx (t1 _ _ hp3) (hF_no (by decide +kernel)) ?_
                  walk_at "vv"
                  refine ⟨x, s3, c, b0, s.log.length + 1, rfl, ha3.same t1, ec3, okc, eb0, by omega, len3, fun H4 v t2 d2 => ?_⟩
                  walk_at "vv"
                  refine ⟨by show 1 ≤ sizeLine; decide, fun q fq => ?_⟩
                  have t3 : Same H4 (upd H4 q (.lst [v])) := Same.new fq
                  have t13 := Same.trans t1 (Same.trans t2 t3)
                  have k1 := t2 _ _ (upd_same (H := H3) (a := a) (o := .lst []))
                  walk_at "vv"
                  exact h_pair hd (gr3.same t13) rfl rfl (.inl rfl) rfl rfl (ha3.same t13) (.nil (t3 _ _ k1)) ⟨_, upd_same, .cons (TD.to (Tups.ofSame t3) d2) .nil⟩ (ne_of_none k1 fq) (gr3.fresh fa) ((gr3.same (Same.trans t1 t2)).fresh fq)
          · have es : ((s.plus (l.drop (s.log.length + 1 - f))).able f) = s.plus (l.drop (s.log.length + 1 - f)) := by
              unfold HS.able
              rw [decide_eq_false f1, Bool.or_false]
            refine n_iF (decide_eq_false fun z => f1 (by injection z with z; omega)) ?_
            walk_at "vv"
            have gr3 := gr2
            have ha3 := ha2
            rw [es] at hd
            have ec3 := ec2
            generalize s.plus (l.drop (s.log.length + 1 - f)) = s3 at *
            dsimp only at hd
            obtain ⟨H3, e3⟩ : ∃ H3, H3 = H2 := ⟨_, rfl⟩
            rw [← e3] at gr3 ha3 ⊢
            clear e3
            obtain ⟨dx3, hp3⟩ := ha3.obC ec3
            refine ⟨_, _, _, _, _, rfl, hp3, T.clH, T.h_able, hF_able, ?_⟩
            have hg := ha3
            have gr := gr3
            cases rdy : s3.ready with
            | false =>
              rw [if_pos rdy] at hd
              walk_at "vv"
              refine ⟨Nat.zero_le _, fun a fa => ?_⟩
              walk_at "vv"
              refine ⟨Nat.zero_le _, fun b fb => ?_⟩
              walk_at "vv"
              obtain ⟨z2, la, lb, nab, fa0, fb0⟩ := two0 gr fa fb
              exact h_pair hd (gr.same z2) rfl rfl (.inl rfl) rfl rfl (hg.same z2) la lb nab fa0 fb0
            | true =>
              rw [if_neg (by rw [rdy]; simp)] at hd
              walk_at "vv"
              refine n_methx hp3 (hF_no (by decide +kernel)) ?_
              walk_at "vv"
              refine ⟨x, s3, c, rfl, ha3, ec3, okc, ?_⟩
              by_cases tb : c.B = []
              · rw [c.bh_nil tb] at hd
                rw [List.isEmpty_iff.mpr tb]
                walk_at "vv"
                refine n_methx hp3 (hF_no (by decide +kernel)) ?_
                walk_at "vv"
                refine ⟨x, s3, rfl, ha3, len3, fun H4 a fa f4 ha4 la => ?_⟩
                obtain ⟨dx4, hp4⟩ := ha4.ob
                have gr4 : Gr [x.p, x.l, x.d] H H4 := gr3.more f4 (fun q m => by rw [List.mem_singleton.mp m]; simp) fun q hq => by rw [List.mem_singleton.mp hq]; exact ⟨_, hp4⟩
                walk_at "vv"
                refine n_methx hp4 (hF_no (by decide +kernel)) ?_
                walk_at "vv"
                refine ⟨x, s3.tellAll, c, rfl, ha4, ec3, okc, fun H5 g fg s5 l5 => ?_⟩
                walk_at "vv"
                have nag : a ≠ g := by
                  obtain ⟨xs, h1, _⟩ := la
                  exact ne_of_none h1 fg
                exact h_pair hd (gr4.same s5) rfl rfl (.inl rfl) rfl rfl (ha4.same s5) (LD.same la s5) l5 nag (gr3.fresh fa) (gr4.fresh fg)
              · obtain ⟨b0, eb0, _⟩ := c.all_bh tb
                rw [eb0] at hd
                rw [List.isEmpty_eq_false_iff.mpr tb]
                walk_at "vv"
                refine ⟨_, _, _, _, _, rfl, hp3, T.clH, T.h_kept, hF_kept, ?_⟩
                walk_at "vv"
                refine ⟨x.l, _, rfl, .inl (SqL.of ha3.lst), ?_⟩
                rw [List.length_map]
                walk_at "vv"
                by_cases le : s3.log.length = s.log.length
                · have hd : HDone A H x Q (s3, [], []) := by
                    have h0 := hd
                    simp only [if_pos le] at h0
                    exact h0
                  refine n_iT (decide_eq_true (by rw [le])) ?_
                  walk_at "vv"
                  refine ⟨Nat.zero_le _, fun a fa => ?_⟩
                  walk_at "vv"
                  refine ⟨Nat.zero_le _, fun b fb => ?_⟩
                  walk_at "vv"
                  obtain ⟨z2, la, lb, nab, fa0, fb0⟩ := two0 gr fa fb
                  exact h_pair hd (gr.same z2) rfl rfl (.inl rfl) rfl rfl (hg.same z2) la lb nab fa0 fb0
                · have hd : HDone A H x Q (s3, [], [rowsD c b0 s3.log (s.log.length + 1)]) := by
                    have h0 := hd
                    simp only [if_neg le] at h0
                    exact h0
                  refine n_iF (decide_eq_false fun z => le (by injection z with z; omega)) ?_
                  walk_at "vv"
                  refine ⟨Nat.zero_le _, fun a fa => ?_⟩
                  have t1 : Same H3 (upd H3 a (.lst [])) := Same.new fa
                  walk_at "vv"
                  refine n_methx (t1 _ _ hp3) (hF_no (by decide +kernel)) ?_
                  walk_at "vv"
                  refine ⟨x, s3, c, b0, s.log.length + 1, rfl, ha3.same t1, ec3, okc, eb0, by omega, len3, fun H4 v t2 d2 => ?_⟩
                  walk_at "vv"
                  refine ⟨by show 1 ≤ sizeLine; decide, fun q fq => ?_⟩
                  have t3 : Same H4 (upd H4 q (.lst [v])) := Same.new fq
                  have t13 := Same.trans t1 (Same.trans t2 t3)
                  have k1 := t2 _ _ (upd_same (H := H3) (a := a) (o := .lst []))
                  walk_at "vv"
                  exact h_pair hd (gr3.same t13) rfl rfl (.inl rfl) rfl rfl (ha3.same t13) (.nil (t3 _ _ k1)) ⟨_, upd_same, .cons (TD.to (Tups.ofSame t3) d2) .nil⟩ (ne_of_none k1 fq) (gr3.fresh fa) ((gr3.same (Same.trans t1 t2)).fresh fq)
      · rw [ef, cut_from, ← List.map_drop]
        refine go _ q _ (Same.new fq) (SqT.of upd_same) rfl _ fun H2 ha2 gr2 => ?_
        have ec2 : (s.plus (l.drop (s.log.length + 1 - f))).ch = some c := ec
        obtain ⟨dx2, hp2⟩ := ha2.obC ec2
        have len3 : (s.plus (l.drop (s.log.length + 1 - f))).log.length ≤ 1000 := by
          show (s.log ++ _).length ≤ 1000
          rw [List.length_append, List.length_drop]
          have := ok.len
          omega
        walk_at "vv"
        by_cases f1 : f = 1
        · have es : ((s.plus (l.drop (s.log.length + 1 - f))).able f).ready = true := by
            show (s.ready || decide (f = 1)) = true
            rw [decide_eq_true f1, Bool.or_true]
          refine n_iT (by rw [f1]; exact decide_eq_true rfl) ?_
          walk_at "vv"
          refine n_sfldx hp2 T.clH T.h_able (by show 6 < 1000; decide) ?_
          rw [put_able]
          walk_at "vv"
          have gr3 := gr2.upd (a := x.p) (o := .ins A.CH dx2 (hF (.ref x.ca) x.l (s.plus (l.drop (s.log.length + 1 - f))).told true x.d)) (by simp)
          have ha3 : HA A (upd H2 x.p (.ins A.CH dx2 (hF (.ref x.ca) x.l (s.plus (l.drop (s.log.length + 1 - f))).told true x.d))) x ((s.plus (l.drop (s.log.length + 1 - f))).able f) :=
            ha2.put (s' := (s.plus (l.drop (s.log.length + 1 - f))).able f) (ca := x.ca) (hl := x.hl) (dx := dx2) (Fr.upd (Fr.refl H2) (by simp)) (by rw [upd_same, es]; unfold ownV; rw [show ((s.plus (l.drop (s.log.length + 1 - f))).able f).ch = some c from ec2]; rfl) rfl rfl ha2.ch
          generalize upd H2 x.p (.ins A.CH dx2 (hF (.ref x.ca) x.l (s.plus (l.drop (s.log.length + 1 - f))).told true x.d)) = H3 at *
          have ec3 : ((s.plus (l.drop (s.log.length + 1 - f))).able f).ch = some c := ec2
          have len3 : ((s.plus (l.drop (s.log.length + 1 - f))).able f).log.length ≤ 1000 := len3
          generalize (s.plus (l.drop (s.log.length + 1 - f))).able f = s3 at *
          dsimp only at hd
          obtain ⟨dx3, hp3⟩ := ha3.obC ec3
          refine ⟨_, _, _, _, _, rfl, hp3, T.clH, T.h_able, hF_able, ?_⟩
          have hg := ha3
          have gr := gr3
          cases rdy : s3.ready with
          | false =>
            rw [if_pos rdy] at hd
            walk_at "vv"
            refine ⟨Nat.zero_le _, fun a fa => ?_⟩
            walk_at "vv"
            refine ⟨Nat.zero_le _, fun b fb => ?_⟩
            walk_at "vv"
            obtain ⟨z2, la, lb, nab, fa0, fb0⟩ := two0 gr fa fb
            exact h_pair hd (gr.same z2) rfl rfl (.inl rfl) rfl rfl (hg.same z2) la lb nab fa0 fb0
          | true =>
            rw [if_neg (by rw [rdy]; simp)] at hd
            walk_at "vv"
            refine n_methx hp3 (hF_no (by decide +kernel)) ?_
            walk_at "vv"
            refine ⟨x, s3, c, rfl, ha3, ec3, okc, ?_⟩
            by_cases tb : c.B = []
            · rw [c.bh_nil tb] at hd
              rw [List.isEmpty_iff.mpr tb]
              walk_at "vv"
              refine n_methx hp3 (hF_no (by decide +kernel)) ?_
              walk_at "vv"
              refine ⟨x, s3, rfl, ha3, len3, fun H4 a fa f4 ha4 la => ?_⟩
              obtain ⟨dx4, hp4⟩ := ha4.ob
              have gr4 : Gr [x.p, x.l, x.d] H H4 := gr3.more f4 (fun q m => by rw [List.mem_singleton.mp m]; simp) fun q hq => by rw [List.mem_singleton.mp hq]; exact ⟨_, hp4⟩
              walk_at "vv"
              refine n_methx hp4 (hF_no (by decide +kernel)) ?_
              walk_at "vv"
              refine ⟨x, s3.tellAll, c, rfl, ha4, ec3, okc, fun H5 g fg s5 l5 => ?_⟩
              walk_at "vv"
              have nag : a ≠ g := by
                obtain ⟨xs, h1, _⟩ := la
                exact ne_of_none h1 fg
              exact h_pair hd (gr4.same s5) rfl rfl (.inl rfl) rfl rfl (ha4.same s5) (LD.same la s5) l5 nag (gr3.fresh fa) (gr4.fresh fg)
            · obtain ⟨b0, eb0, _⟩ := c.all_bh tb
              rw [eb0] at hd
              rw [List.isEmpty_eq_false_iff.mpr tb]
              walk_at "vv"
              refine ⟨_, _, _, _, _, rfl, hp3, T.clH, T.h_kept, hF_kept, ?_⟩
              walk_at "vv"
              refine ⟨x.l, _, rfl, .inl (SqL.of ha3.lst), ?_⟩
              rw [List.length_map]
              walk_at "vv"
              by_cases le : s3.log.length = s.log.length
              · have hd : HDone A H x Q (s3, [], []) := by
                  have h0 := hd
                  simp only [if_pos le] at h0
                  exact h0
                refine n_iT (decide_eq_true (by rw [le])) ?_
                walk_at "vv"
                refine ⟨Nat.zero_le _, fun a fa => ?_⟩
                walk_at "vv"
                refine ⟨Nat.zero_le _, fun b fb => ?_⟩
                walk_at "vv"
                obtain ⟨z2, la, lb, nab, fa0, fb0⟩ := two0 gr fa fb
                exact h_pair hd (gr.same z2) rfl rfl (.inl rfl) rfl rfl (hg.same z2) la lb nab fa0 fb0
              · have hd : HDone A H x Q (s3, [], [rowsD c b0 s3.log (s.log.length + 1)]) := by
                  have h0 := hd
                  simp only [if_neg le] at h0
                  exact h0
                refine n_iF (decide_eq_false fun z => le (by injection z with z; omega)) ?_
                walk_at "vv"
                refine ⟨Nat.zero_le _, fun a fa => ?_⟩
                have t1 : Same H3 (upd H3 a (.lst [])) := Same.new fa
                walk_at "vv"
                refine n_methx (t1 _ _ hp3) (hF_no (by decide +kernel)) ?_
                walk_at "vv"
                refine ⟨x, s3, c, b0, s.log.length + 1, rfl, ha3.same t1, ec3, okc, eb0, by omega, len3, fun H4 v t2 d2 => ?_⟩
                walk_at "vv"
                refine ⟨by show 1 ≤ sizeLine; decide, fun q fq => ?_⟩
                have t3 : Same H4 (upd H4 q (.lst [v])) := Same.new fq
                have t13 := Same.trans t1 (Same.trans t2 t3)
                have k1 := t2 _ _ (upd_same (H := H3) (a := a) (o := .lst []))
                walk_at "vv"
                exact h_pair hd (gr3.same t13) rfl rfl (.inl rfl) rfl rfl (ha3.same t13) (.nil (t3 _ _ k1)) ⟨_, upd_same, .cons (TD.to (Tups.ofSame t3) d2) .nil⟩ (ne_of_none k1 fq) (gr3.fresh fa) ((gr3.same (Same.trans t1 t2)).fresh fq)
        · have es : ((s.plus (l.drop (s.log.length + 1 - f))).able f) = s.plus (l.drop (s.log.length + 1 - f)) := by
            unfold HS.able
            rw [decide_eq_false f1, Bool.or_false]
          refine n_iF (decide_eq_false fun z => f1 (by injection z with z; omega)) ?_
          walk_at "vv"
          have gr3 := gr2
          have ha3 := ha2
          rw [es] at hd
          have ec3 := ec2
          generalize s.plus (l.drop (s.log.length + 1 - f)) = s3 at *
          dsimp only at hd
          obtain ⟨H3, e3⟩ : ∃ H3, H3 = H2 := ⟨_, rfl⟩
          rw [← e3] at gr3 ha3 ⊢
          clear e3
          obtain ⟨dx3, hp3⟩ := ha3.obC ec3
          refine ⟨_, _, _, _, _, rfl, hp3, T.clH, T.h_able, hF_able, ?_⟩
          have hg := ha3
          have gr := gr3
          cases rdy : s3.ready with
          | false =>
            rw [if_pos rdy] at hd
            walk_at "vv"
            refine ⟨Nat.zero_le _, fun a fa => ?_⟩
            walk_at "vv"
            refine ⟨Nat.zero_le _, fun b fb => ?_⟩
            walk_at "vv"
            obtain ⟨z2, la, lb, nab, fa0, fb0⟩ := two0 gr fa fb
            exact h_pair hd (gr.same z2) rfl rfl (.inl rfl) rfl rfl (hg.same z2) la lb nab fa0 fb0
          | true =>
            rw [if_neg (by rw [rdy]; simp)] at hd
            walk_at "vv"
            refine n_methx hp3 (hF_no (by decide +kernel)) ?_
            walk_at "vv"
            refine ⟨x, s3, c, rfl, ha3, ec3, okc, ?_⟩
            by_cases tb : c.B = []
            · rw [c.bh_nil tb] at hd
              rw [List.isEmpty_iff.mpr tb]
              walk_at "vv"
              refine n_methx hp3 (hF_no (by decide +kernel)) ?_
              walk_at "vv"
              refine ⟨x, s3, rfl, ha3, len3, fun H4 a fa f4 ha4 la => ?_⟩
              obtain ⟨dx4, hp4⟩ := ha4.ob
              have gr4 : Gr [x.p, x.l, x.d] H H4 := gr3.more f4 (fun q m => by rw [List.mem_singleton.mp m]; simp) fun q hq => by rw [List.mem_singleton.mp hq]; exact ⟨_, hp4⟩
              walk_at "vv"
              refine n_methx hp4 (hF_no (by decide +kernel)) ?_
              walk_at "vv"
              refine ⟨x, s3.tellAll, c, rfl, ha4, ec3, okc, fun H5 g fg s5 l5 => ?_⟩
              walk_at "vv"
              have nag : a ≠ g := by
                obtain ⟨xs, h1, _⟩ := la
                exact ne_of_none h1 fg
              exact h_pair hd (gr4.same s5) rfl rfl (.inl rfl) rfl rfl (ha4.same s5) (LD.same la s5) l5 nag (gr3.fresh fa) (gr4.fresh fg)
            · obtain ⟨b0, eb0, _⟩ := c.all_bh tb
              rw [eb0] at hd
              rw [List.isEmpty_eq_false_iff.mpr tb]
              walk_at "vv"
              refine ⟨_, _, _, _, _, rfl, hp3, T.clH, T.h_kept, hF_kept, ?_⟩
              walk_at "vv"
              refine ⟨x.l, _, rfl, .inl (SqL.of ha3.lst), ?_⟩
              rw [List.length_map]
              walk_at "vv"
              by_cases le : s3.log.length = s.log.length
              · have hd : HDone A H x Q (s3, [], []) := by
                  have h0 := hd
                  simp only [if_pos le] at h0
                  exact h0
                refine n_iT (decide_eq_true (by rw [le])) ?_
                walk_at "vv"
                refine ⟨Nat.zero_le _, fun a fa => ?_⟩
                walk_at "vv"
                refine ⟨Nat.zero_le _, fun b fb => ?_⟩
                walk_at "vv"
                obtain ⟨z2, la, lb, nab, fa0, fb0⟩ := two0 gr fa fb
                exact h_pair hd (gr.same z2) rfl rfl (.inl rfl) rfl rfl (hg.same z2) la lb nab fa0 fb0
              · have hd : HDone A H x Q (s3, [], [rowsD c b0 s3.log (s.log.length + 1)]) := by
                  have h0 := hd
                  simp only [if_neg le] at h0
                  exact h0
                refine n_iF (decide_eq_false fun z => le (by injection z with z; omega)) ?_
                walk_at "vv"
                refine ⟨Nat.zero_le _, fun a fa => ?_⟩
                have t1 : Same H3 (upd H3 a (.lst [])) := Same.new fa
                walk_at "vv"
                refine n_methx (t1 _ _ hp3) (hF_no (by decide +kernel)) ?_
                walk_at "vv"
                refine ⟨x, s3, c, b0, s.log.length + 1, rfl, ha3.same t1, ec3, okc, eb0, by omega, len3, fun H4 v t2 d2 => ?_⟩
                walk_at "vv"
                refine ⟨by show 1 ≤ sizeLine; decide, fun q fq => ?_⟩
                have t3 : Same H4 (upd H4 q (.lst [v])) := Same.new fq
                have t13 := Same.trans t1 (Same.trans t2 t3)
                have k1 := t2 _ _ (upd_same (H := H3) (a := a) (o := .lst []))
                walk_at "vv"
                exact h_pair hd (gr3.same t13) rfl rfl (.inl rfl) rfl rfl (ha3.same t13) (.nil (t3 _ _ k1)) ⟨_, upd_same, .cons (TD.to (Tups.ofSame t3) d2) .nil⟩ (ne_of_none k1 fq) (gr3.fresh fa) ((gr3.same (Same.trans t1 t2)).fresh fq)
  · rw [if_pos (.inl eb)] at hd
    refine n_iT (by rw [decide_eq_false eb]; rfl) ?_
    have hg := ha1
    have gr := ha.gr s1
    walk_at "vv"
    refine ⟨Nat.zero_le _, fun a fa => ?_⟩
    walk_at "vv"
    refine ⟨Nat.zero_le _, fun b fb => ?_⟩
    walk_at "vv"
    obtain ⟨z2, la, lb, nab, fa0, fb0⟩ := two0 gr fa fb
    exact h_pair hd (gr.same z2) rfl rfl (.inl rfl) rfl rfl (hg.same z2) la lb nab fa0 fb0
end
end Ck

namespace Ck
open PySem PySem.Spec PyProof.Rows L2
local macro_rules | `(tactic| walk_at "v") => `(tactic| (first | with_reducible refine n_seq ?_ | with_reducible refine n_ifs ?_ | with_reducible refine n_asg ?_ | with_reducible refine n_name ?_ | with_reducible refine n_ret ?_ | with_reducible refine n_drop ?_ | with_reducible refine n_next ?_ | ((with_reducible refine' n_var ?e ?_); (case e => rfl)) | with_reducible refine n_c ?_ | with_reducible refine n_op ?_ | with_reducible refine n_un ?_ | with_reducible refine n_test ?_ | with_reducible refine n_B ?_ | with_reducible refine n_ex ?_ | with_reducible refine n_and ?_ | with_reducible refine n_or ?_ | with_reducible refine n_not ?_ | with_reducible refine n_andV ?_ | with_reducible refine n_orV ?_ | with_reducible refine n_notV ?_ | with_reducible refine n_cons ?_ | with_reducible refine n_nil ?_ | with_reducible refine n_cb ?_ | with_reducible refine n_call ?_ | with_reducible refine n_I0 ?_ | with_reducible refine n_tup ?_ | with_reducible refine n_lst ?_ | with_reducible refine n_sl ?_ | with_reducible refine n_part ?_ | with_reducible refine n_nopart ?_ | with_reducible refine n_exI ?_ | with_reducible refine n_chain ?_ | with_reducible refine n_dget ?_ | with_reducible refine n_meth ?_ | with_reducible refine n_bm ?_ | with_reducible refine n_bm0 ?_ | with_reducible refine n_sfld ?_ | with_reducible refine n_fld ?_ | with_reducible refine n_for ?_ | with_reducible refine n_dpop1 ?_ | with_reducible refine n_din ?_ | with_reducible refine n_dnotin ?_ | with_reducible refine n_dput ?_ | with_reducible refine n_nn ?_ | with_reducible refine n_rU ?_ | with_reducible refine n_lss ?_ | with_reducible refine n_kget ?_ | with_reducible refine n_iL ?_ | with_reducible refine n_iE ?_ | with_reducible refine n_iR ?_ | with_reducible refine n_lc ?_ | with_reducible refine n_lcT ?_ | with_reducible refine n_lcS ?_ | with_reducible refine n_gTup ?_ | with_reducible refine n_gCons ?_ | with_reducible refine n_gNil ?_ | ((with_reducible refine n_eq ?e ?_); (case e => rfl)) | ((with_reducible refine n_ne ?e ?_); (case e => rfl)) | ((with_reducible refine n_iT ?e ?_); (case e => rfl)) | ((with_reducible refine n_iF ?e ?_); (case e => rfl))))
local macro_rules | `(tactic| walk_at "vv") => `(tactic| repeat walk_at "v")
section
variable {P : Program} {w : World} {K : PySem.W.Frag} {mg : Str → Option Value} {base : Heap} {A : Ad}
theorem Lt.At.same {H H1 : Hp} {a : Addr} {y : Lt} (h : y.At H a) (s : Same H H1) : y.At H1 a := by
  obtain ⟨h1, h2⟩ := h
  refine ⟨s _ _ h1, ?_⟩
  cases y with
  | rows n b f l ra => exact ⟨s _ _ h2.1, h2.2.to (Tups.ofSame s)⟩
  | told n b m => trivial
  | which n b k => trivial
  | that n b k m => trivial
theorem ok_H_take (T : Txt w K mg A) (D : MD K A.CH "take" "House.take" s_H_take) (c_is_letter : Cal P w K mg base 4 "is_letter" sp_is_letter)
    (c_H_take_rows : Met P w K mg base 5 A.CH "take_rows" (sp_H_take_rows A)) (c_H_take_told : Met P w K mg base 5 A.CH "take_told" (sp_H_take_told A)) (c_H_take_which : Met P w K mg base 2 A.CH "take_which" (sp_H_take_which A))
    (c_H_take_that : Met P w K mg base 2 A.CH "take_that" (sp_H_take_that A)) : Met P w K mg base 6 A.CH "take" (sp_H_take A) := by
  have S := sc_H_take.sc
  refine met_mk D sc_H_take (fun vs H Q E h => by obtain ⟨x, s, a, y, rfl, _⟩ := h; rfl) fun f0 cdv A0 outer s0 H vs Q E hr h => ?_
  obtain ⟨x, s, la, y, rfl, ha, ok, hy, oky, hd⟩ := h
  refine ⟨_, (pss_cons (ps_if (PW.pt (pw_or (pt_not (pt_val (pc c_is_letter hr (by decide) rfl (pa_cons (pv 1) pa_nil)))) (pw_or1 (pt_cmpR op_ne (pe_ix ix_tup (pv 1) pe_int (fun _ _ => rfl)) (pe_fld (pv 0) rfl) (nomark _)))))
          (pss_one ps_never)
          pss_nil)
        (pss_cons (ps_if (PW.pt (pw_or (pt_cmpR op_isN (pe_fld (pv 0) rfl) pe_non (nomark _)) (pw_or1 (pt_cmpR op_ne (pe_ix ix_tup (pv 1) pe_int (fun _ _ => rfl)) (pe_fld (pe_fld (pv 0) rfl) rfl) (nomark _)))))
          (pss_one (ps_ret (pe_tup (pa_cons (pe_lst pa_nil) (pa_cons (pe_lst pa_nil) pa_nil)))))
          pss_nil)
        (pss_cons (ps_if (pt_cmpR op_eq (pe_ix ix_tup (pv 1) pe_int (fun _ _ => rfl)) pe_str (nomark _))
          (pss_one (ps_ret (pm c_H_take_rows hr (by decide) (pv 0) (pa_cons (pe_ix ix_tup (pv 1) pe_int (fun _ _ => rfl)) (pa_cons (pe_ix ix_tup (pv 1) pe_int (fun _ _ => rfl)) (pa_cons (pe_ix ix_tup (pv 1) pe_int (fun _ _ => rfl)) pa_nil))))))
          pss_nil)
        (pss_cons (ps_if (pt_cmpR op_eq (pe_ix ix_tup (pv 1) pe_int (fun _ _ => rfl)) pe_str (nomark _))
          (pss_one (ps_ret (pm c_H_take_told hr (by decide) (pv 0) (pa_cons (pe_ix ix_tup (pv 1) pe_int (fun _ _ => rfl)) (pa_cons (pe_ix ix_tup (pv 1) pe_int (fun _ _ => rfl)) pa_nil)))))
          pss_nil)
        (pss_cons (ps_if (pt_cmpR op_eq (pe_ix ix_tup (pv 1) pe_int (fun _ _ => rfl)) pe_str (nomark _))
          (pss_one (ps_ret (pm c_H_take_which hr (by decide) (pv 0) (pa_cons (pe_ix ix_tup (pv 1) pe_int (fun _ _ => rfl)) (pa_cons (pe_ix ix_tup (pv 1) pe_int (fun _ _ => rfl)) pa_nil)))))
          pss_nil)
        (pss_one (ps_ret (pm c_H_take_that hr (by decide) (pv 0) (pa_cons (pe_ix ix_tup (pv 1) pe_int (fun _ _ => rfl)) (pa_cons (pe_ix ix_tup (pv 1) pe_int (fun _ _ => rfl)) (pa_cons (pe_ix ix_tup (pv 1) pe_int (fun _ _ => rfl)) pa_nil))))))))))), ?_⟩
  unfold took at hd
  walk_at "vv"
  refine ⟨la, y, rfl, hy, oky, fun H1 s1 => ?_⟩
  have ha1 := ha.same s1
  have hy0 := hy.same s1
  have hd1 := hd.same s1
  clear hd
  have hd := hd1
  clear hd1
  obtain ⟨hy1, hy2⟩ := hy0
  obtain ⟨dx, hp⟩ := ha1.ob
  have hg := ha1
  have gr := ha1.gr (Same.refl H1)
  obtain ⟨oy1, oy2, oy3⟩ := oky
  cases y with
  | rows n b f l ra =>
    walk_at "vv"
    refine n_ixT (SqT.of hy1) rfl ?_
    walk_at "vv"
    refine ⟨_, _, _, _, _, rfl, hp, T.clH, T.h_name, hF_name, ?_⟩
    walk_at "vv"
    refine ⟨_, _, _, _, _, rfl, hp, T.clH, T.h_own, hF_own, ?_⟩
    cases ec : s.ch with
    | none =>
      rw [ec] at hd
      dsimp only at hd
      rw [show ownV s x.ca = .non by unfold ownV; rw [ec]]
      walk_at "vv"
      refine ⟨Nat.zero_le _, fun a fa => ?_⟩
      walk_at "vv"
      refine ⟨Nat.zero_le _, fun b fb => ?_⟩
      walk_at "vv"
      obtain ⟨z2, la, lb, nab, fa0, fb0⟩ := two0 gr fa fb
      exact h_pair hd (gr.same z2) rfl rfl (.inl rfl) rfl rfl (hg.same z2) la lb nab fa0 fb0
    | some c =>
      rw [ec] at hd
      dsimp only at hd
      obtain ⟨⟨dy, hc⟩, hh⟩ := ha1.chain ec
      rw [ha1.own ec]
      walk_at "vv"
      refine n_ixT (SqT.of hy1) rfl ?_
      walk_at "vv"
      refine ⟨_, _, _, _, _, rfl, hp, T.clH, T.h_own, hF_own, ?_⟩
      rw [ha1.own ec]
      refine ⟨_, _, _, _, _, rfl, hc, T.clC, T.c_number, cF_number, ?_⟩
      walk_at "vv"
      by_cases en : n = c.num
      · rw [if_neg (show ¬ ¬ (Lt.rows n b f l ra).num = c.num from fun q => q en)] at hd
        refine n_iF (by rw [decide_eq_true (congrArg V.int en)]; rfl) ?_
        walk_at "vv"
        refine n_ixT (SqT.of hy1) rfl ?_
        walk_at "vv"
        refine n_methx hp (hF_no (by decide +kernel)) ?_
        walk_at "vv"
        refine n_ixT (SqT.of hy1) rfl ?_
        walk_at "vv"
        refine n_ixT (SqT.of hy1) rfl ?_
        walk_at "vv"
        refine n_ixT (SqT.of hy1) rfl ?_
        walk_at "vv"
        exact ⟨x, s, c, b, f, l, ra, rfl, ha1, ok, ec, oy3.1, oy3.2, hy2.1, hy2.2, hd⟩
      · rw [if_pos (show ¬ (Lt.rows n b f l ra).num = c.num from en)] at hd
        refine n_iT (by rw [decide_eq_false fun z => en (by injection z)]; rfl) ?_
        walk_at "vv"
        refine ⟨Nat.zero_le _, fun a fa => ?_⟩
        walk_at "vv"
        refine ⟨Nat.zero_le _, fun b fb => ?_⟩
        walk_at "vv"
        obtain ⟨z2, la, lb, nab, fa0, fb0⟩ := two0 gr fa fb
        exact h_pair hd (gr.same z2) rfl rfl (.inl rfl) rfl rfl (hg.same z2) la lb nab fa0 fb0
  | told n b m =>
    walk_at "vv"
    refine n_ixT (SqT.of hy1) rfl ?_
    walk_at "vv"
    refine ⟨_, _, _, _, _, rfl, hp, T.clH, T.h_name, hF_name, ?_⟩
    walk_at "vv"
    refine ⟨_, _, _, _, _, rfl, hp, T.clH, T.h_own, hF_own, ?_⟩
    cases ec : s.ch with
    | none =>
      rw [ec] at hd
      dsimp only at hd
      rw [show ownV s x.ca = .non by unfold ownV; rw [ec]]
      walk_at "vv"
      refine ⟨Nat.zero_le _, fun a fa => ?_⟩
      walk_at "vv"
      refine ⟨Nat.zero_le _, fun b fb => ?_⟩
      walk_at "vv"
      obtain ⟨z2, la, lb, nab, fa0, fb0⟩ := two0 gr fa fb
      exact h_pair hd (gr.same z2) rfl rfl (.inl rfl) rfl rfl (hg.same z2) la lb nab fa0 fb0
    | some c =>
      rw [ec] at hd
      dsimp only at hd
      obtain ⟨⟨dy, hc⟩, hh⟩ := ha1.chain ec
      rw [ha1.own ec]
      walk_at "vv"
      refine n_ixT (SqT.of hy1) rfl ?_
      walk_at "vv"
      refine ⟨_, _, _, _, _, rfl, hp, T.clH, T.h_own, hF_own, ?_⟩
      rw [ha1.own ec]
      refine ⟨_, _, _, _, _, rfl, hc, T.clC, T.c_number, cF_number, ?_⟩
      walk_at "vv"
      by_cases en : n = c.num
      · rw [if_neg (show ¬ ¬ (Lt.told n b m).num = c.num from fun q => q en)] at hd
        refine n_iF (by rw [decide_eq_true (congrArg V.int en)]; rfl) ?_
        walk_at "vv"
        refine n_ixT (SqT.of hy1) rfl ?_
        walk_at "vv"
        refine n_ixT (SqT.of hy1) rfl ?_
        walk_at "vv"
        refine n_methx hp (hF_no (by decide +kernel)) ?_
        walk_at "vv"
        refine n_ixT (SqT.of hy1) rfl ?_
        walk_at "vv"
        refine n_ixT (SqT.of hy1) rfl ?_
        walk_at "vv"
        exact ⟨x, s, c, b, m, rfl, ha1, ok, ec, oy3, hd⟩
      · rw [if_pos (show ¬ (Lt.told n b m).num = c.num from en)] at hd
        refine n_iT (by rw [decide_eq_false fun z => en (by injection z)]; rfl) ?_
        walk_at "vv"
        refine ⟨Nat.zero_le _, fun a fa => ?_⟩
        walk_at "vv"
        refine ⟨Nat.zero_le _, fun b fb => ?_⟩
        walk_at "vv"
        obtain ⟨z2, la, lb, nab, fa0, fb0⟩ := two0 gr fa fb
        exact h_pair hd (gr.same z2) rfl rfl (.inl rfl) rfl rfl (hg.same z2) la lb nab fa0 fb0
  | which n b k =>
    walk_at "vv"
    refine n_ixT (SqT.of hy1) rfl ?_
    walk_at "vv"
    refine ⟨_, _, _, _, _, rfl, hp, T.clH, T.h_name, hF_name, ?_⟩
    walk_at "vv"
    refine ⟨_, _, _, _, _, rfl, hp, T.clH, T.h_own, hF_own, ?_⟩
    cases ec : s.ch with
    | none =>
      rw [ec] at hd
      dsimp only at hd
      rw [show ownV s x.ca = .non by unfold ownV; rw [ec]]
      walk_at "vv"
      refine ⟨Nat.zero_le _, fun a fa => ?_⟩
      walk_at "vv"
      refine ⟨Nat.zero_le _, fun b fb => ?_⟩
      walk_at "vv"
      obtain ⟨z2, la, lb, nab, fa0, fb0⟩ := two0 gr fa fb
      exact h_pair hd (gr.same z2) rfl rfl (.inl rfl) rfl rfl (hg.same z2) la lb nab fa0 fb0
    | some c =>
      rw [ec] at hd
      dsimp only at hd
      obtain ⟨⟨dy, hc⟩, hh⟩ := ha1.chain ec
      rw [ha1.own ec]
      walk_at "vv"
      refine n_ixT (SqT.of hy1) rfl ?_
      walk_at "vv"
      refine ⟨_, _, _, _, _, rfl, hp, T.clH, T.h_own, hF_own, ?_⟩
      rw [ha1.own ec]
      refine ⟨_, _, _, _, _, rfl, hc, T.clC, T.c_number, cF_number, ?_⟩
      walk_at "vv"
      by_cases en : n = c.num
      · rw [if_neg (show ¬ ¬ (Lt.which n b k).num = c.num from fun q => q en)] at hd
        refine n_iF (by rw [decide_eq_true (congrArg V.int en)]; rfl) ?_
        walk_at "vv"
        refine n_ixT (SqT.of hy1) rfl ?_
        walk_at "vv"
        refine n_ixT (SqT.of hy1) rfl ?_
        walk_at "vv"
        refine n_ixT (SqT.of hy1) rfl ?_
        walk_at "vv"
        refine n_methx hp (hF_no (by decide +kernel)) ?_
        walk_at "vv"
        refine n_ixT (SqT.of hy1) rfl ?_
        walk_at "vv"
        refine n_ixT (SqT.of hy1) rfl ?_
        walk_at "vv"
        exact ⟨x, s, c, b, k, rfl, ha1, ok, ec, hd⟩
      · rw [if_pos (show ¬ (Lt.which n b k).num = c.num from en)] at hd
        refine n_iT (by rw [decide_eq_false fun z => en (by injection z)]; rfl) ?_
        walk_at "vv"
        refine ⟨Nat.zero_le _, fun a fa => ?_⟩
        walk_at "vv"
        refine ⟨Nat.zero_le _, fun b fb => ?_⟩
        walk_at "vv"
        obtain ⟨z2, la, lb, nab, fa0, fb0⟩ := two0 gr fa fb
        exact h_pair hd (gr.same z2) rfl rfl (.inl rfl) rfl rfl (hg.same z2) la lb nab fa0 fb0
  | that n b k m =>
    walk_at "vv"
    refine n_ixT (SqT.of hy1) rfl ?_
    walk_at "vv"
    refine ⟨_, _, _, _, _, rfl, hp, T.clH, T.h_name, hF_name, ?_⟩
    walk_at "vv"
    refine ⟨_, _, _, _, _, rfl, hp, T.clH, T.h_own, hF_own, ?_⟩
    cases ec : s.ch with
    | none =>
      rw [ec] at hd
      dsimp only at hd
      rw [show ownV s x.ca = .non by unfold ownV; rw [ec]]
      walk_at "vv"
      refine ⟨Nat.zero_le _, fun a fa => ?_⟩
      walk_at "vv"
      refine ⟨Nat.zero_le _, fun b fb => ?_⟩
      walk_at "vv"
      obtain ⟨z2, la, lb, nab, fa0, fb0⟩ := two0 gr fa fb
      exact h_pair hd (gr.same z2) rfl rfl (.inl rfl) rfl rfl (hg.same z2) la lb nab fa0 fb0
    | some c =>
      rw [ec] at hd
      dsimp only at hd
      obtain ⟨⟨dy, hc⟩, hh⟩ := ha1.chain ec
      rw [ha1.own ec]
      walk_at "vv"
      refine n_ixT (SqT.of hy1) rfl ?_
      walk_at "vv"
      refine ⟨_, _, _, _, _, rfl, hp, T.clH, T.h_own, hF_own, ?_⟩
      rw [ha1.own ec]
      refine ⟨_, _, _, _, _, rfl, hc, T.clC, T.c_number, cF_number, ?_⟩
      walk_at "vv"
      by_cases en : n = c.num
      · rw [if_neg (show ¬ ¬ (Lt.that n b k m).num = c.num from fun q => q en)] at hd
        refine n_iF (by rw [decide_eq_true (congrArg V.int en)]; rfl) ?_
        walk_at "vv"
        refine n_ixT (SqT.of hy1) rfl ?_
        walk_at "vv"
        refine n_ixT (SqT.of hy1) rfl ?_
        walk_at "vv"
        refine n_ixT (SqT.of hy1) rfl ?_
        walk_at "vv"
        refine n_methx hp (hF_no (by decide +kernel)) ?_
        walk_at "vv"
        refine n_ixT (SqT.of hy1) rfl ?_
        walk_at "vv"
        refine n_ixT (SqT.of hy1) rfl ?_
        walk_at "vv"
        refine n_ixT (SqT.of hy1) rfl ?_
        walk_at "vv"
        exact ⟨x, s, c, b, k, m, rfl, ha1, ok, ec, oy3.2, hd⟩
      · rw [if_pos (show ¬ (Lt.that n b k m).num = c.num from en)] at hd
        refine n_iT (by rw [decide_eq_false fun z => en (by injection z)]; rfl) ?_
        walk_at "vv"
        refine ⟨Nat.zero_le _, fun a fa => ?_⟩
        walk_at "vv"
        refine ⟨Nat.zero_le _, fun b fb => ?_⟩
        walk_at "vv"
        obtain ⟨z2, la, lb, nab, fa0, fb0⟩ := two0 gr fa fb
        exact h_pair hd (gr.same z2) rfl rfl (.inl rfl) rfl rfl (hg.same z2) la lb nab fa0 fb0
end
end Ck

namespace Ck
open PySem PySem.Spec PyProof.Rows L2
local macro_rules | `(tactic| walk_at "v") => `(tactic| (first | with_reducible refine n_seq ?_ | with_reducible refine n_ifs ?_ | with_reducible refine n_asg ?_ | with_reducible refine n_name ?_ | with_reducible refine n_ret ?_ | with_reducible refine n_drop ?_ | with_reducible refine n_next ?_ | ((with_reducible refine' n_var ?e ?_); (case e => rfl)) | with_reducible refine n_c ?_ | with_reducible refine n_op ?_ | with_reducible refine n_un ?_ | with_reducible refine n_test ?_ | with_reducible refine n_B ?_ | with_reducible refine n_ex ?_ | with_reducible refine n_and ?_ | with_reducible refine n_or ?_ | with_reducible refine n_not ?_ | with_reducible refine n_andV ?_ | with_reducible refine n_orV ?_ | with_reducible refine n_notV ?_ | with_reducible refine n_cons ?_ | with_reducible refine n_nil ?_ | with_reducible refine n_cb ?_ | with_reducible refine n_call ?_ | with_reducible refine n_I0 ?_ | with_reducible refine n_tup ?_ | with_reducible refine n_lst ?_ | with_reducible refine n_sl ?_ | with_reducible refine n_part ?_ | with_reducible refine n_nopart ?_ | with_reducible refine n_exI ?_ | with_reducible refine n_chain ?_ | with_reducible refine n_dget ?_ | with_reducible refine n_meth ?_ | with_reducible refine n_bm ?_ | with_reducible refine n_bm0 ?_ | with_reducible refine n_sfld ?_ | with_reducible refine n_fld ?_ | with_reducible refine n_for ?_ | with_reducible refine n_dpop1 ?_ | with_reducible refine n_din ?_ | with_reducible refine n_dnotin ?_ | with_reducible refine n_dput ?_ | with_reducible refine n_nn ?_ | with_reducible refine n_rU ?_ | with_reducible refine n_lss ?_ | with_reducible refine n_kget ?_ | with_reducible refine n_iL ?_ | with_reducible refine n_iE ?_ | with_reducible refine n_iR ?_ | with_reducible refine n_lc ?_ | with_reducible refine n_lcT ?_ | with_reducible refine n_lcS ?_ | with_reducible refine n_gTup ?_ | with_reducible refine n_gCons ?_ | with_reducible refine n_gNil ?_ | ((with_reducible refine n_eq ?e ?_); (case e => rfl)) | ((with_reducible refine n_ne ?e ?_); (case e => rfl)) | ((with_reducible refine n_iT ?e ?_); (case e => rfl)) | ((with_reducible refine n_iF ?e ?_); (case e => rfl))))
local macro_rules | `(tactic| walk_at "vv") => `(tactic| repeat walk_at "v")
section
variable {P : Program} {w : World} {K : PySem.W.Frag} {mg : Str → Option Value} {base : Heap} {A : Ad}
theorem Ch.all0 (c : Ch) (ok : c.Ok) : ∃ z : Str, c.all[0]? = some z ∧ (z = "me" ↔ c.A = []) := by
  cases e : c.A with
  | nil => exact ⟨"me", by unfold Ch.all; rw [e]; rfl, by simp⟩
  | cons z q =>
    refine ⟨z, by unfold Ch.all; rw [e]; rfl, ⟨fun h => ?_, fun h => by cases h⟩⟩
    exact absurd (show ("me" : Str) ∈ c.A by rw [e, ← h]; simp) ok.noA
theorem ok_H_write (T : Txt w K mg A) (D : MD K A.CH "write" "House.write" s_H_write) (c_is_row : Cal P w K mg base 3 "is_row" sp_is_row) (c_place_in : Cal P w K mg base 1 "place_in" sp_place_in)
    (c_H_stands : Met P w K mg base 1 A.CH "stands" (sp_H_stands A)) (c_H_is_tail : Met P w K mg base 1 A.CH "is_tail" (sp_H_is_tail A)) (c_H_told_all : Met P w K mg base 1 A.CH "told_all" (sp_H_told_all A))
    (c_H_rows_behind : Met P w K mg base 4 A.CH "rows_behind" (sp_H_rows_behind A)) : MetX P w K mg base 5 A.CH "write" (sp_H_write A) := by
  have S := sc_H_write.sc
  refine metX_mk D sc_H_write (fun vs H Q E h => by obtain ⟨x, s, r, rfl, _⟩ := h; rfl) fun f0 cdv A0 outer s0 H vs Q E hr h => ?_
  obtain ⟨x, s, r, rfl, ha, ok, rat, okr, few, hd⟩ := h
  refine ⟨_, (pss_cons (ps_if (pt_not (pt_val (pc c_is_row hr (by decide) rfl (pa_cons (pv 1) pa_nil))))
          (pss_one ps_never)
          pss_nil)
        (pss_cons (ps_if (PW.pt (pw_or (pt_not (pt_val (pm0 c_H_stands hr (by decide) (pv 0)))) (pw_or1 (pt_cmpR op_ne (pe_ix ix_list (pe_fld (pe_fld (pv 0) rfl) rfl) pe_int (fun _ _ => rfl)) (pe_fld (pv 0) rfl) (nomark _)))))
          (pss_one (ps_raise rfl (takes_of rfl rfl rfl rfl) (pmk_own PySem.F.excBase_ValueError T.e_NotHead.x T.e_NotHead.g T.e_NotHead.k (raises_own T.e_NotHead.b T.e_NotHead.t) rfl)))
          pss_nil)
        (pss_cons (ps_set (i := 2) S.nd rfl (Or.inl rfl) (pc c_place_in hr (by decide) rfl (pa_cons (pe_fld (pv 0) rfl) (pa_cons (pe_ix ix_tup (pv 1) pe_int (fun _ _ => rfl)) (pa_cons (pe_ix ix_tup (pv 1) pe_int (fun _ _ => rfl)) pa_nil)))))
        (pss_cons (ps_if (PW.pt (pw_and (pt_cmpR op_notN (pv 2) pe_non (nomark _)) (pw_and1 (pt_cmpR op_le (pv 2) (pe_fld (pv 0) rfl) (nomark _)))))
          (pss_one (ps_ret (pe_tup (pa_cons (pe_lst (pa_cons (pe_tup (pa_cons pe_str (pa_cons (pe_ix ix_tup (pv 1) pe_int (fun _ _ => rfl)) (pa_cons (pe_ix ix_tup (pv 1) pe_int (fun _ _ => rfl)) pa_nil)))) pa_nil)) (pa_cons (pe_lst pa_nil) pa_nil)))))
          pss_nil)
        (pss_cons (ps_if (pt_cmpR op_notN (pv 2) pe_non (nomark _))
          (pss_one (ps_ret (pe_tup (pa_cons (pe_lst pa_nil) (pa_cons (pe_lst pa_nil) pa_nil)))))
          pss_nil)
        (pss_cons (ps_if (pt_cmpR op_eq (pe_callB call_len_seq (by rfl) T.b_len PySem.boot_len (pa_cons (pe_fld (pv 0) rfl) pa_nil)) (pgl T.g_MOST_ROWS rfl) (nomark _))
          (pss_one ps_never)
          pss_nil)
        (pss_cons (ps_expr (pe_bm PySem.F.plainAttrs_list PySem.F.slot_list_append PySem.F.type_list_append mt_append (pe_fld (pv 0) rfl) (pa_cons (pv 1) pa_nil)))
        (pss_cons (ps_if (pt_val (pm0 c_H_is_tail hr (by decide) (pv 0)))
          (pss_one (ps_ret (pe_tup (pa_cons (pm0 c_H_told_all hr (by decide) (pv 0)) (pa_cons (pe_lst pa_nil) pa_nil)))))
          pss_nil)
        (pss_one (ps_ret (pe_tup (pa_cons (pe_lst pa_nil) (pa_cons (pe_lst (pa_cons (pm c_H_rows_behind hr (by decide) (pv 0) (pa_cons (pe_callB call_len_seq (by rfl) T.b_len PySem.boot_len (pa_cons (pe_fld (pv 0) rfl) pa_nil)) pa_nil)) pa_nil)) pa_nil))))))))))))), ?_⟩
  walk_at "vv"
  refine ⟨r, rfl, rat, okr, fun H1 s1 => ?_⟩
  have ha1 := ha.same s1
  obtain ⟨dx, hp⟩ := ha1.ob
  have rat1 : RowAt H1 r := s1 _ _ rat
  walk_at "vv"
  refine n_methx hp (hF_no (by decide +kernel)) ?_
  walk_at "vv"
  refine ⟨x, s, rfl, ha1, ?_⟩
  cases ec : s.ch with
  | none =>
    rw [show put s r = none by unfold put; rw [ec]] at hd
    rw [show s.stands = false by unfold HS.stands; rw [ec]; rfl]
    walk_at "vv"
    exact hd H1 s1
  | some c =>
    have okc := ok.ch c ec
    obtain ⟨⟨dy, hc⟩, hh⟩ := ha1.chain ec
    cases rdy : s.ready with
    | false =>
      rw [show put s r = none by unfold put; rw [ec]; exact if_pos (.inl rdy)] at hd
      rw [show s.stands = false by unfold HS.stands; rw [ec, rdy]; rfl]
      walk_at "vv"
      exact hd H1 s1
    | true =>
      rw [show s.stands = true by unfold HS.stands; rw [ec, rdy]; rfl]
      walk_at "vv"
      refine ⟨_, _, _, _, _, rfl, hp, T.clH, T.h_own, hF_own, ?_⟩
      rw [ha1.own ec]
      refine ⟨_, _, _, _, _, rfl, hc, T.clC, T.c_houses, cF_houses, ?_⟩
      walk_at "vv"
      obtain ⟨z, hz, ez⟩ := c.all0 okc
      refine n_ixL (SqL.of hh) (v := .str z) (at0 (by rw [List.getElem?_map, hz]; rfl)) ?_
      walk_at "vv"
      refine ⟨_, _, _, _, _, rfl, hp, T.clH, T.h_name, hF_name, ?_⟩
      walk_at "vv"
      by_cases eA : c.A = []
      · refine n_iF (by rw [ez.mpr eA]; rfl) ?_
        walk_at "vv"
        refine ⟨_, _, _, _, _, rfl, hp, T.clH, T.h_kept, hF_kept, ?_⟩
        walk_at "vv"
        refine n_ixT (SqT.of rat1) rfl ?_
        walk_at "vv"
        walk_at "vv"
        refine n_ixT (SqT.of rat1) rfl ?_
        walk_at "vv"
        refine ⟨x.l, s.log, r.asker, r.num, rfl, ha1.lst, ha1.rows, okr.a, fun H2 s2 => ?_⟩
        have ha2 := ha1.same s2
        have hp2 := s2 _ _ hp
        have rat2 : RowAt H2 r := s2 _ _ rat1
        have gr : Gr [x.p, x.l, x.d] H H2 := ha.gr (Same.trans s1 s2)
        have nc : ¬ (s.ready = false ∨ c.A ≠ []) := fun q => q.elim (fun z => by rw [rdy] at z; cases z) fun z => z eA
        cases hi : idxW s.log r.asker r.num with
        | some k =>
          have e := hd
          rw [show put s r = some (s, if k < s.told then [wroteD r] else [], []) by unfold put; rw [ec]; dsimp only; rw [if_neg nc, hi]] at e
          have hd : HDone A H x Q (s, if k < s.told then [wroteD r] else [], []) := e
          walk_at "vv"
          walk_at "vv"
          refine ⟨_, _, _, _, _, rfl, hp2, T.clH, T.h_sure, hF_sure, ?_⟩
          walk_at "vv"
          refine n_I0 (i := (k : Int) + 1) ?_
          walk_at "vv"
          by_cases kt : k < s.told
          · rw [if_pos kt] at hd
            refine n_iT (decide_eq_true (by omega)) ?_
            walk_at "vv"
            walk_at "vv"
            refine n_ixT (SqT.of rat2) rfl ?_
            walk_at "vv"
            walk_at "vv"
            refine n_ixT (SqT.of rat2) rfl ?_
            walk_at "vv"
            walk_at "vv"
            refine ⟨by show 3 ≤ sizeLine; decide, fun t ft => ?_⟩
            have s3 := Same.new (o := .tup [.str "written", .str r.asker, .int r.num]) ft
            walk_at "vv"
            refine ⟨by show 1 ≤ sizeLine; decide, fun a fa => ?_⟩
            have s4 := Same.new (o := .lst [.ref t]) fa
            walk_at "vv"
            refine ⟨Nat.zero_le _, fun b2 fb => ?_⟩
            have s5 := Same.new (o := .lst []) fb
            walk_at "vv"
            exact h_pair hd (gr.same (Same.trans s3 (Same.trans s4 s5))) rfl rfl (.inl rfl) rfl rfl (ha2.same (Same.trans s3 (Same.trans s4 s5))) ⟨_, s5 _ _ upd_same, .cons (.tup (s5 _ _ (s4 _ _ upd_same)) (.cons (.str _) (.cons (.str _) (.cons (.int _) .nil)))) .nil⟩ (.nil upd_same) (ne_of_none upd_same fb) ((gr.same s3).fresh fa) ((gr.same (Same.trans s3 s4)).fresh fb)
          · rw [if_neg kt] at hd
            refine n_iF (decide_eq_false (by omega)) ?_
            walk_at "vv"
            walk_at "vv"
            refine ⟨Nat.zero_le _, fun a fa => ?_⟩
            walk_at "vv"
            refine ⟨Nat.zero_le _, fun b fb => ?_⟩
            walk_at "vv"
            obtain ⟨z2, la, lb, nab, fa0, fb0⟩ := two0 gr fa fb
            exact h_pair hd (gr.same z2) rfl rfl (.inl rfl) rfl rfl (ha2.same z2) la lb nab fa0 fb0
        | none =>
          walk_at "vv"
          walk_at "vv"
          walk_at "vv"
          refine ⟨_, _, _, _, _, rfl, hp2, T.clH, T.h_kept, hF_kept, ?_⟩
          walk_at "vv"
          refine ⟨x.l, _, rfl, .inl (SqL.of ha2.lst), ?_⟩
          rw [List.length_map]
          walk_at "vv"
          refine n_iF (decide_eq_false fun z => by injection z with z; omega) ?_
          walk_at "vv"
          refine ⟨_, _, _, _, _, rfl, hp2, T.clH, T.h_kept, hF_kept, ?_⟩
          refine ⟨n_lty ha2.lst, ?_⟩
          walk_at "vv"
          refine ⟨x.l, s.log.map Row.v, .ref r.ad, rfl, rfl, ha2.lst, ?_, ?_⟩
          · rw [List.length_map]
            exact Nat.lt_trans (m := 1000) (by omega) (by decide)
          have ha3 := ha2.grow (l := [r]) ⟨fun q hq => by rw [List.mem_singleton.mp hq]; exact rat2, fun q hq => by rw [List.mem_singleton.mp hq]; exact okr⟩
          rw [show s.log.map Row.v ++ [V.ref r.ad] = (s.log ++ [r]).map Row.v by rw [List.map_append]; rfl]
          have gr3 : Gr [x.p, x.l, x.d] H (upd H2 x.l (.lst ((s.log ++ [r]).map Row.v))) := gr.upd (by simp)
          generalize upd H2 x.l (.lst ((s.log ++ [r]).map Row.v)) = H3 at *
          have ec3 : (s.plus [r]).ch = some c := ec
          have len3 : (s.plus [r]).log.length ≤ 1000 := by
            show (s.log ++ [r]).length ≤ 1000
            rw [List.length_append]
            show s.log.length + 1 ≤ 1000
            omega
          obtain ⟨dx3, hp3⟩ := ha3.ob
          walk_at "vv"
          refine n_methx hp3 (hF_no (by decide +kernel)) ?_
          walk_at "vv"
          refine ⟨x, _, c, rfl, ha3, ec3, okc, ?_⟩
          by_cases tb : c.B = []
          · have e := hd
            rw [show put s r = some ((s.plus [r]).tellAll, writtenD (s.plus [r]), []) by unfold put; rw [ec]; dsimp only; rw [if_neg nc, hi]; dsimp only; rw [c.bh_nil tb]] at e
            have hd : HDone A H x Q ((s.plus [r]).tellAll, writtenD (s.plus [r]), []) := e
            rw [List.isEmpty_iff.mpr tb]
            walk_at "vv"
            refine n_methx hp3 (hF_no (by decide +kernel)) ?_
            walk_at "vv"
            refine ⟨x, _, rfl, ha3, len3, fun H4 a fa f4 ha4 la => ?_⟩
            obtain ⟨dx4, hp4⟩ := ha4.ob
            have gr4 : Gr [x.p, x.l, x.d] H H4 := gr3.more f4 (fun q m => by rw [List.mem_singleton.mp m]; simp) fun q hq => by rw [List.mem_singleton.mp hq]; exact ⟨_, hp4⟩
            walk_at "vv"
            refine ⟨Nat.zero_le _, fun g fg => ?_⟩
            have s5 := Same.new (o := .lst []) fg
            walk_at "vv"
            have nag : a ≠ g := by
              obtain ⟨xs, h1, _⟩ := la
              exact ne_of_none h1 fg
            exact h_pair hd (gr4.same s5) rfl rfl (.inl rfl) rfl rfl (ha4.same s5) (LD.same la s5) (.nil upd_same) nag (gr3.fresh fa) (gr4.fresh fg)
          · obtain ⟨b0, eb0, _⟩ := c.all_bh tb
            have e := hd
            rw [show put s r = some (s.plus [r], [], [rowsD c b0 (s.plus [r]).log (s.log.length + 1)]) by unfold put; rw [ec]; dsimp only; rw [if_neg nc, hi]; dsimp only; rw [eb0]] at e
            have hd : HDone A H x Q (s.plus [r], [], [rowsD c b0 (s.plus [r]).log (s.log.length + 1)]) := e
            rw [List.isEmpty_eq_false_iff.mpr tb]
            walk_at "vv"
            refine ⟨Nat.zero_le _, fun a fa => ?_⟩
            have t1 : Same H3 (upd H3 a (.lst [])) := Same.new fa
            walk_at "vv"
            refine n_methx (t1 _ _ hp3) (hF_no (by decide +kernel)) ?_
            walk_at "vv"
            refine ⟨_, _, _, _, _, rfl, t1 _ _ hp3, T.clH, T.h_kept, hF_kept, ?_⟩
            walk_at "vv"
            refine ⟨x.l, _, rfl, .inl (SqL.of (t1 _ _ ha3.lst)), ?_⟩
            walk_at "vv"
            have eL : ((s.plus [r]).log.map Row.v).length = s.log.length + 1 := by
              rw [List.length_map]
              show (s.log ++ [r]).length = _
              rw [List.length_append]
              rfl
            rw [eL]
            refine ⟨x, _, c, b0, s.log.length + 1, rfl, ha3.same t1, ec3, okc, eb0, by omega, len3, fun H4 v t2 d2 => ?_⟩
            walk_at "vv"
            refine ⟨by show 1 ≤ sizeLine; decide, fun q fq => ?_⟩
            have t3 : Same H4 (upd H4 q (.lst [v])) := Same.new fq
            have t13 := Same.trans t1 (Same.trans t2 t3)
            have k1 := t2 _ _ (upd_same (H := H3) (a := a) (o := .lst []))
            walk_at "vv"
            exact h_pair hd (gr3.same t13) rfl rfl (.inl rfl) rfl rfl (ha3.same t13) (.nil (t3 _ _ k1)) ⟨_, upd_same, .cons (TD.to (Tups.ofSame t3) d2) .nil⟩ (ne_of_none k1 fq) (gr3.fresh fa) ((gr3.same (Same.trans t1 t2)).fresh fq)
      · rw [show put s r = none by unfold put; rw [ec]; exact if_pos (.inr eA)] at hd
        refine n_iT (by rw [decide_eq_false fun q => eA (ez.mp (by injection q))]; rfl) ?_
        walk_at "vv"
        exact hd H1 s1
theorem ok_H_read (T : Txt w K mg A) (D : MD K A.CH "read" "House.read" s_H_read) (c_is_count : Cal P w K mg base 2 "is_count" sp_is_count) (c_is_name : Cal P w K mg base 1 "is_name" sp_is_name) (c_last_worth : Cal P w K mg base 1 "last_worth" sp_last_worth)
    (c_H_stands : Met P w K mg base 1 A.CH "stands" (sp_H_stands A)) (c_H_is_tail : Met P w K mg base 1 A.CH "is_tail" (sp_H_is_tail A)) (c_H_letter : Met P w K mg base 1 A.CH "letter" (sp_H_letter A)) : MetX P w K mg base 3 A.CH "read" (sp_H_read A) := by
  have S := sc_H_read.sc
  refine metX_mk D sc_H_read (fun vs H Q E h => by obtain ⟨x, s, k, key, rfl, _⟩ := h; rfl) fun f0 cdv A0 outer s0 H vs Q E hr h => ?_
  obtain ⟨x, s, k, key, rfl, ha, ok, hk, okk, hd⟩ := h
  refine ⟨_, (pss_cons (ps_if (PW.pt (pw_or (pt_not (pt_val (pc c_is_count hr (by decide) rfl (pa_cons (pv 1) (pa_cons pe_int pa_nil))))) (pw_or (pt_cmp (pc_din (hu_of hr) (pv 1) (pe_fld (pv 0) rfl))) (pw_or1 (pt_not (pt_val (pc c_is_name hr (by decide) rfl (pa_cons (pv 2) pa_nil))))))))
          (pss_one (ps_raise rfl (takes_of rfl rfl rfl rfl) (pmk_own PySem.F.excBase_ValueError T.e_NoAsk.x T.e_NoAsk.g T.e_NoAsk.k (raises_own T.e_NoAsk.b T.e_NoAsk.t) rfl)))
          pss_nil)
        (pss_cons (ps_if (pt_not (pt_val (pm0 c_H_stands hr (by decide) (pv 0))))
          (pss_one (ps_raise rfl (takes_of rfl rfl rfl rfl) (pmk_own PySem.F.excBase_ValueError T.e_NotReady.x T.e_NotReady.g T.e_NotReady.k (raises_own T.e_NotReady.b T.e_NotReady.t) rfl)))
          pss_nil)
        (pss_cons (ps_if (PW.pt (pw_or (pt_val (pm0 c_H_is_tail hr (by decide) (pv 0))) (pw_or1 (pt_cmpR op_isN (pc c_last_worth hr (by decide) rfl (pa_cons (pe_slice sl_list (pe_fld (pv 0) rfl) (po_some (pe_fld (pv 0) rfl)) po_none) (pa_cons (pv 2) pa_nil))) pe_non (nomark _)))))
          (pss_one (ps_ret (pe_tup (pa_cons (pe_lst (pa_cons (pe_tup (pa_cons pe_str (pa_cons (pv 1) (pa_cons (pc c_last_worth hr (by decide) rfl (pa_cons (pe_fld (pv 0) rfl) (pa_cons (pv 2) pa_nil))) pa_nil)))) pa_nil)) (pa_cons (pe_lst pa_nil) pa_nil)))))
          pss_nil)
        (pss_cons (ps_dput (hu_of hr) (pe_fld (pv 0) rfl) (pv 1) (pv 2) rfl)
        (pss_one (ps_ret (pe_tup (pa_cons (pe_lst pa_nil) (pa_cons (pe_lst (pa_cons (pm c_H_letter hr (by decide) (pv 0) (pa_cons pe_str (pa_cons (pe_ix ix_list (pe_fld (pe_fld (pv 0) rfl) rfl) (pe_un un_neg pe_int) (fun _ _ => rfl)) (pa_cons (pe_tup (pa_cons (pv 1) pa_nil)) pa_nil)))) pa_nil)) pa_nil))))))))), ?_⟩
  obtain ⟨dx, hp⟩ := ha.ob
  walk_at "vv"
  refine ⟨k, 1, rfl, ?_⟩
  rw [decide_eq_true hk]
  walk_at "vv"
  refine ⟨_, _, _, _, _, rfl, hp, T.clH, T.h_asks, hF_asks, ?_⟩
  refine ⟨x.d, valV (kvA s.asks) (Sum.inl k), rfl, DGet.k (k := Sum.inl k) ha.asks, ?_⟩
  rw [kvA_val]
  cases hka : keyA s.asks k with
  | some key0 =>
    rw [show rd s k key = .ask by unfold rd; exact if_pos (by rw [hka]; rfl)] at hd
    walk_at "vv"
    exact hd H (Same.refl H)
  | none =>
    walk_at "vv"
    refine ⟨key, rfl, okk, fun H1 s1 => ?_⟩
    have ha1 := ha.same s1
    have hp1 := s1 _ _ hp
    walk_at "vv"
    refine n_methx hp1 (hF_no (by decide +kernel)) ?_
    walk_at "vv"
    refine ⟨x, s, rfl, ha1, ?_⟩
    have nka : ¬ (keyA s.asks k).isSome = true := by rw [hka]; simp
    cases ec : s.ch with
    | none =>
      rw [show rd s k key = .ready by unfold rd; rw [if_neg nka, ec]] at hd
      rw [show s.stands = false by unfold HS.stands; rw [ec]; rfl]
      walk_at "vv"
      exact hd H1 s1
    | some c =>
      have okc := ok.ch c ec
      obtain ⟨⟨dy, hc⟩, hh⟩ := ha1.chain ec
      cases rdy : s.ready with
      | false =>
        rw [show rd s k key = .ready by unfold rd; rw [if_neg nka, ec]; exact if_pos rdy] at hd
        rw [show s.stands = false by unfold HS.stands; rw [ec, rdy]; rfl]
        walk_at "vv"
        exact hd H1 s1
      | true =>
        rw [show s.stands = true by unfold HS.stands; rw [ec, rdy]; rfl]
        walk_at "vv"
        refine n_methx hp1 (hF_no (by decide +kernel)) ?_
        walk_at "vv"
        refine ⟨x, s, c, rfl, ha1, ec, okc, ?_⟩
        have nr : ¬ s.ready = false := by rw [rdy]; simp
        have rdo : rd s k key = if c.B = [] ∨ lastW (s.log.drop s.told) key = none then .ok (s, [worthD k (lastW s.log key)], []) else .ok (s.ask k key, [], [whichD c k]) := by
          unfold rd
          rw [if_neg nka, ec]
          dsimp only
          rw [if_neg nr]
        by_cases tb : c.B = []
        · rw [rdo, if_pos (.inl tb)] at hd
          rw [List.isEmpty_iff.mpr tb]
          have gr1 := ha.gr s1
          obtain ⟨H2, s12, ha2, hp2, gr2⟩ : ∃ H2, H2 = H1 ∧ HA A H2 x s ∧ (H2 x.p = some (.ins A.CH dx (hF (ownV s x.ca) x.l s.told s.ready x.d))) ∧ Gr [x.p, x.l, x.d] H H2 := ⟨H1, rfl, ha1, hp1, gr1⟩
          rw [← s12]
          walk_at "vv"
          refine ⟨_, _, _, _, _, rfl, hp2, T.clH, T.h_kept, hF_kept, ?_⟩
          walk_at "vv"
          refine ⟨x.l, s.log, key, rfl, ha2.lst, ha2.rows, ?_⟩
          walk_at "vv"
          refine ⟨by show 3 ≤ sizeLine; decide, fun t ft => ?_⟩
          have s3 := Same.new (o := .tup [.str "worth", .int k, oi (lastW s.log key)]) ft
          walk_at "vv"
          refine ⟨by show 1 ≤ sizeLine; decide, fun a fa => ?_⟩
          have s4 := Same.new (o := .lst [.ref t]) fa
          walk_at "vv"
          refine ⟨Nat.zero_le _, fun b2 fb => ?_⟩
          have s5 := Same.new (o := .lst []) fb
          walk_at "vv"
          have tw : ∀ H', TD H' (oi (lastW s.log key)) (oiD (lastW s.log key)) := fun H' => by
            cases lastW s.log key with
            | none => exact .non
            | some z => exact .int z
          exact h_pair hd (gr2.same (Same.trans s3 (Same.trans s4 s5))) rfl rfl (.inl rfl) rfl rfl (ha2.same (Same.trans s3 (Same.trans s4 s5))) ⟨_, s5 _ _ upd_same, .cons (.tup (s5 _ _ (s4 _ _ upd_same)) (.cons (.str _) (.cons (.int _) (.cons (tw _) .nil)))) .nil⟩ (.nil upd_same) (ne_of_none upd_same fb) ((gr2.same s3).fresh fa) ((gr2.same (Same.trans s3 s4)).fresh fb)
        · rw [List.isEmpty_eq_false_iff.mpr tb]
          walk_at "vv"
          refine ⟨_, _, _, _, _, rfl, hp1, T.clH, T.h_kept, hF_kept, ?_⟩
          walk_at "vv"
          refine ⟨_, _, _, _, _, rfl, hp1, T.clH, T.h_sure, hF_sure, ?_⟩
          walk_at "vv"
          refine ⟨x.l, _, rfl, SqL.of ha1.lst, fun q fq => ?_⟩
          rw [cut_from, ← List.map_drop]
          have s2 : Same H1 (upd H1 q (.lst ((s.log.drop s.told).map Row.v))) := Same.new fq
          have ha2 := ha1.same s2
          have hp2 := s2 _ _ hp1
          have gr2 := ha.gr (Same.trans s1 s2)
          have hq : upd H1 q (.lst ((s.log.drop s.told).map Row.v)) q = _ := upd_same
          generalize upd H1 q (.lst ((s.log.drop s.told).map Row.v)) = H2 at *
          walk_at "vv"
          refine ⟨q, s.log.drop s.told, key, rfl, hq, ha2.rows.sub fun r hr => List.mem_of_mem_drop hr, ?_⟩
          walk_at "vv"
          cases hl : lastW (s.log.drop s.told) key with
          | none =>
            rw [rdo, if_pos (.inr hl)] at hd
            walk_at "vv"
            refine ⟨_, _, _, _, _, rfl, hp2, T.clH, T.h_kept, hF_kept, ?_⟩
            walk_at "vv"
            refine ⟨x.l, s.log, key, rfl, ha2.lst, ha2.rows, ?_⟩
            walk_at "vv"
            refine ⟨by show 3 ≤ sizeLine; decide, fun t ft => ?_⟩
            have s3 := Same.new (o := .tup [.str "worth", .int k, oi (lastW s.log key)]) ft
            walk_at "vv"
            refine ⟨by show 1 ≤ sizeLine; decide, fun a fa => ?_⟩
            have s4 := Same.new (o := .lst [.ref t]) fa
            walk_at "vv"
            refine ⟨Nat.zero_le _, fun b2 fb => ?_⟩
            have s5 := Same.new (o := .lst []) fb
            walk_at "vv"
            have tw : ∀ H', TD H' (oi (lastW s.log key)) (oiD (lastW s.log key)) := fun H' => by
              cases lastW s.log key with
              | none => exact .non
              | some z => exact .int z
            exact h_pair hd (gr2.same (Same.trans s3 (Same.trans s4 s5))) rfl rfl (.inl rfl) rfl rfl (ha2.same (Same.trans s3 (Same.trans s4 s5))) ⟨_, s5 _ _ upd_same, .cons (.tup (s5 _ _ (s4 _ _ upd_same)) (.cons (.str _) (.cons (.int _) (.cons (tw _) .nil)))) .nil⟩ (.nil upd_same) (ne_of_none upd_same fb) ((gr2.same s3).fresh fa) ((gr2.same (Same.trans s3 s4)).fresh fb)
          | some z =>
            rw [rdo, if_neg (fun q => q.elim tb fun e => by rw [hl] at e; cases e)] at hd
            walk_at "vv"
            refine ⟨_, _, _, _, _, rfl, hp2, T.clH, T.h_asks, hF_asks, ?_⟩
            walk_at "vv"
            refine ⟨x.d, _, rfl, DPut.k (k := Sum.inl k) ha2.asks (Nat.lt_trans (m := 100) (by rw [kvA_len]; have := ok.few; omega) (by decide)), ?_⟩
            rw [putK_new' hka]
            have ha3 : HA A (upd H2 x.d (.dK (kvA (s.asks ++ [(k, key)])))) x (s.ask k key) := ha2.asked
            have gr3 : Gr [x.p, x.l, x.d] H (upd H2 x.d (.dK (kvA (s.asks ++ [(k, key)])))) := gr2.upd (by simp)
            generalize upd H2 x.d (.dK (kvA (s.asks ++ [(k, key)]))) = H3 at *
            have ec3 : (s.ask k key).ch = some c := ec
            obtain ⟨dx3, hp3⟩ := ha3.obC ec3
            obtain ⟨⟨dy3, hc3⟩, hh3⟩ := ha3.chain ec3
            walk_at "vv"
            refine ⟨Nat.zero_le _, fun a fa => ?_⟩
            have t1 : Same H3 (upd H3 a (.lst [])) := Same.new fa
            walk_at "vv"
            refine n_methx (t1 _ _ hp3) (hF_no (by decide +kernel)) ?_
            walk_at "vv"
            refine ⟨_, _, _, _, _, rfl, t1 _ _ hp3, T.clH, T.h_own, hF_own, ?_⟩
            refine ⟨_, _, _, _, _, rfl, t1 _ _ hc3, T.clC, T.c_houses, cF_houses, ?_⟩
            walk_at "vv"
            refine n_ixL (SqL.of (t1 _ _ hh3)) (atI_neg1 (v := .str c.tl) (by rw [List.length_map, List.getElem?_map, c.all_tl]; rfl)) ?_
            walk_at "vv"
            refine ⟨by show 1 ≤ sizeLine; decide, fun m hm => ?_⟩
            have t2 := Same.new (o := .tup [.int k]) hm
            walk_at "vv"
            refine ⟨x, s.ask k key, c, "which", c.tl, m, [.int k], rfl, ha3.same (Same.trans t1 t2), ec3, upd_same, by simp, by show 1 ≤ 100; decide, fun H5 g fg t3 h3 => ?_⟩
            walk_at "vv"
            refine ⟨by show 1 ≤ sizeLine; decide, fun b fb => ?_⟩
            have t13 := Same.trans (Same.trans t1 t2) t3
            have t4 : Same H5 (upd H5 b (.lst [.ref g])) := Same.new fb
            have t14 := Same.trans t13 t4
            have k1 := (Same.trans t2 t3) _ _ (upd_same (H := H3) (a := a) (o := .lst []))
            walk_at "vv"
            exact h_pair hd (gr3.same t14) rfl rfl (.inl rfl) rfl rfl (ha3.same t14) (.nil (t4 _ _ k1)) ⟨_, upd_same, .cons (.tup (t4 _ _ h3) (.cons (.str _) (.cons (.int _) (.cons (.str _) (.cons (.str _) (.cons (.int _) .nil)))))) .nil⟩ (ne_of_none k1 fb) (gr3.fresh fa) ((gr3.same t13).fresh fb)
end
end Ck

namespace Ck
open PySem PySem.Spec PyProof.Rows L2
local macro_rules | `(tactic| walk_at "v") => `(tactic| (first | with_reducible refine n_seq ?_ | with_reducible refine n_ifs ?_ | with_reducible refine n_asg ?_ | with_reducible refine n_name ?_ | with_reducible refine n_ret ?_ | with_reducible refine n_drop ?_ | with_reducible refine n_next ?_ | ((with_reducible refine' n_var ?e ?_); (case e => rfl)) | with_reducible refine n_c ?_ | with_reducible refine n_op ?_ | with_reducible refine n_un ?_ | with_reducible refine n_test ?_ | with_reducible refine n_B ?_ | with_reducible refine n_ex ?_ | with_reducible refine n_and ?_ | with_reducible refine n_or ?_ | with_reducible refine n_not ?_ | with_reducible refine n_andV ?_ | with_reducible refine n_orV ?_ | with_reducible refine n_notV ?_ | with_reducible refine n_cons ?_ | with_reducible refine n_nil ?_ | with_reducible refine n_cb ?_ | with_reducible refine n_call ?_ | with_reducible refine n_I0 ?_ | with_reducible refine n_tup ?_ | with_reducible refine n_lst ?_ | with_reducible refine n_sl ?_ | with_reducible refine n_part ?_ | with_reducible refine n_nopart ?_ | with_reducible refine n_exI ?_ | with_reducible refine n_chain ?_ | with_reducible refine n_dget ?_ | with_reducible refine n_meth ?_ | with_reducible refine n_bm ?_ | with_reducible refine n_bm0 ?_ | with_reducible refine n_sfld ?_ | with_reducible refine n_fld ?_ | with_reducible refine n_for ?_ | with_reducible refine n_dpop1 ?_ | with_reducible refine n_din ?_ | with_reducible refine n_dnotin ?_ | with_reducible refine n_dput ?_ | with_reducible refine n_nn ?_ | with_reducible refine n_rU ?_ | with_reducible refine n_lss ?_ | with_reducible refine n_kget ?_ | with_reducible refine n_iL ?_ | with_reducible refine n_iE ?_ | with_reducible refine n_iR ?_ | with_reducible refine n_lc ?_ | with_reducible refine n_lcT ?_ | with_reducible refine n_lcS ?_ | with_reducible refine n_gTup ?_ | with_reducible refine n_gCons ?_ | with_reducible refine n_gNil ?_ | ((with_reducible refine n_eq ?e ?_); (case e => rfl)) | ((with_reducible refine n_ne ?e ?_); (case e => rfl)) | ((with_reducible refine n_iT ?e ?_); (case e => rfl)) | ((with_reducible refine n_iF ?e ?_); (case e => rfl))))
local macro_rules | `(tactic| walk_at "vv") => `(tactic| repeat walk_at "v")
section
variable {P : Program} {w : World} {K : PySem.W.Frag} {mg : Str → Option Value} {base : Heap} {A : Ad}
theorem lastW_snoc' (l : List Row) (r : Row) (key : Str) : lastW (l ++ [r]) key = if r.key = key then some r.worth else lastW l key := by
  unfold lastW
  rw [List.foldl_append]
  rfl
theorem ok_l_last (T : Txt w K mg A) (D : GD K mg "_law_last" s_l_last) : Cal P w K mg base 1 "_law_last" sp_l_last := by
  have S := sc_l_last.sc
  refine cal_mk D sc_l_last (fun vs H Q E h => by obtain ⟨a, l, key, rfl, _⟩ := h; rfl) fun f cdv A0 outer s H vs Q E hr h => ?_
  obtain ⟨a, l, key, rfl, hl, hR, h⟩ := h
  refine ⟨_, (pss_cons (ps_set (i := 2) S.nd rfl (Or.inl rfl) pe_non)
        (pss_cons (ps_for PassesOwn.never rfl (pi_list (pv 0)) (pg_name (i := 3) S.nd rfl (Or.inl rfl))
          (pss_one (ps_if (pt_cmpR op_eq (pe_ix ix_tup (pv 3) pe_int (fun _ _ => rfl)) (pv 1) (nomark _))
            (pss_one (ps_set (i := 2) S.nd rfl (Or.inl rfl) (pe_ix ix_tup (pv 3) pe_int (fun _ _ => rfl))))
            pss_nil)))
        (pss_one (ps_ret (pv 2))))), ?_⟩
  walk_at "vv"
  refine ⟨a, rfl, ⟨_, SqL.of hl⟩, for_list (K := K) (a := a) (xs := l.map Row.v) (fun i σ H' => H' = H ∧ ∃ v, σ = [some (.ref a), some (.str key), some (oi (lastW (l.take i) key)), v]) ⟨rfl, none, rfl⟩ (fun i σ H' _ p => by rw [p.1]; exact SqL.of hl) ?_ ?_⟩
  · rintro i x σ H' hi ⟨rfl, v, rfl⟩
    obtain ⟨r, hr1, rfl⟩ : ∃ r, l[i]? = some r ∧ x = Row.v r := by
      rw [List.getElem?_map] at hi
      obtain ⟨r, h1, h2⟩ := Option.map_eq_some_iff.mp hi
      exact ⟨r, h1, h2.symm⟩
    have ra := hR.at_ r (List.mem_of_getElem? hr1)
    have et : l.take (i + 1) = l.take i ++ [r] := by rw [List.take_add_one, hr1]; rfl
    walk_at "vv"
    refine n_ixT (SqT.of ra) (v := .str r.key) rfl ?_
    walk_at "vv"
    by_cases e : r.key = key
    · refine n_iT (by rw [e]; exact decide_eq_true rfl) ?_
      walk_at "vv"
      refine n_ixT (SqT.of ra) (v := .int r.worth) rfl ?_
      walk_at "vv"
      refine ⟨rfl, some (.ref r.ad), ?_⟩
      rw [et, lastW_snoc', if_pos e]
      rfl
    · refine n_iF (decide_eq_false fun q => e (by injection q)) ?_
      walk_at "vv"
      refine ⟨rfl, some (.ref r.ad), ?_⟩
      rw [et, lastW_snoc', if_neg e]
      rfl
  · rintro σ H' ⟨rfl, v, rfl⟩
    walk_at "vv"
    rw [List.length_map, List.take_length] at *
    exact h
theorem n_pc {tk tv : TE} {r : List (TE × TE)} {σ : L2.St} {H : Hp} {Q : List (V × V) → Hp → Prop} (h : tk σ H fun x H1 => tv σ H1 fun y H2 => tPairs r σ H2 fun ps H3 => Q ((x, y) :: ps) H3) : tPairs ((tk, tv) :: r) σ H Q := h
theorem n_p0 {σ : L2.St} {H : Hp} {Q : List (V × V) → Hp → Prop} (h : Q [] H) : tPairs [] σ H Q := h
theorem put_new {κ : Type} [DecidableEq κ] {k : κ} {v : V} {q : List (κ × V)} (h : ∀ p ∈ q, p.1 ≠ k) : putK q k v = q ++ [(k, v)] := by
  unfold putK
  rw [if_neg]
  intro e
  obtain ⟨p, h1, h2⟩ := List.any_eq_true.mp e
  exact h p h1 (of_decide_eq_true h2)
theorem ok_l_house (D : GD K mg "_law_house" s_l_house) : Cal P w K mg base 1 "_law_house" sp_l_house := by
  have S := sc_l_house.sc
  refine cal_mk D sc_l_house (fun vs H Q E h => by obtain ⟨rfl, _⟩ := h; rfl) fun f cdv A0 outer s H vs Q E hr h => ?_
  obtain ⟨rfl, h⟩ := h
  refine ⟨_, (pss_one (ps_ret (pe_disp (pps_cons pe_str (pv 0) (pps_cons pe_str pe_non (pps_cons pe_str (pe_lst pa_nil) (pps_cons pe_str pe_int (pps_cons pe_str pe_bl (pps_cons pe_str pe_dnewK pps_nil)))))) (by rfl) (by rfl) (fun z => by cases z) (by decide)))), ?_⟩
  intro m hm
  refine n_pc ?_
  walk_at "vv"
  refine n_pc ?_
  walk_at "vv"
  refine n_pc ?_
  walk_at "vv"
  refine ⟨Nat.zero_le _, fun l hl => ?_⟩
  have nml : m ≠ l := ne_of_none upd_same hl
  have s1 := Same.new (o := .lst []) hl
  refine n_pc ?_
  walk_at "vv"
  refine n_pc ?_
  walk_at "vv"
  refine n_pc ?_
  walk_at "vv"
  intro d hd
  have s2 := Same.new (o := .dK []) hd
  have hl2 := s2 _ _ upd_same
  have hm2 := s2 _ _ (s1 _ _ upd_same)
  have nmd : m ≠ d := ne_of_none (s1 _ _ upd_same) hd
  have nld : l ≠ d := ne_of_none upd_same hd
  have hl0 : H l = none := by rw [upd_ne nml.symm] at hl; exact hl
  have hd0 : H d = none := by rw [upd_ne nld.symm, upd_ne nmd.symm] at hd; exact hd
  refine n_p0 ⟨hm2, mF .non l 0 false d, rfl, by show 6 ≤ 15; decide, ?_⟩
  have em : mergeK [] (mF .non l 0 false d) = mF .non l 0 false d := by
    unfold mF mergeK
    simp only [List.foldl_cons, List.foldl_nil]
    rw [put_new no0, List.nil_append, put_new (no1 (kne (by decide +kernel)) no0)]
    simp only [List.nil_append, List.cons_append]
    rw [put_new (no1 (kne (by decide +kernel)) (no1 (kne (by decide +kernel)) no0))]
    simp only [List.nil_append, List.cons_append]
    rw [put_new (no1 (kne (by decide +kernel)) (no1 (kne (by decide +kernel)) (no1 (kne (by decide +kernel)) no0)))]
    simp only [List.nil_append, List.cons_append]
    rw [put_new (no1 (kne (by decide +kernel)) (no1 (kne (by decide +kernel)) (no1 (kne (by decide +kernel)) (no1 (kne (by decide +kernel)) no0))))]
    simp only [List.nil_append, List.cons_append]
    rw [put_new (no1 (kne (by decide +kernel)) (no1 (kne (by decide +kernel)) (no1 (kne (by decide +kernel)) (no1 (kne (by decide +kernel)) (no1 (kne (by decide +kernel)) no0)))))]
    rfl
  rw [em]
  refine h _ m l d hm hl0 hd0 ⟨upd_same, by rw [upd_ne nml.symm]; exact hl2, RowsOk.nil, by rw [upd_ne nmd.symm]; exact upd_same, rfl, rfl⟩ ?_
  exact Same.put (Same.put (Same.put (Same.new hm) hl0) hd0) hm
theorem ok_l_ahead (D : GD K mg "_law_ahead" s_l_ahead) : Cal P w K mg base 1 "_law_ahead" sp_l_ahead := by
  have S := sc_l_ahead.sc
  refine cal_mk D sc_l_ahead (fun vs H Q E h => by obtain ⟨x, s, c, rfl, _⟩ := h; rfl) fun f cdv A0 outer s0 H vs Q E hr h => ?_
  obtain ⟨x, s, c, rfl, ma, ec, ok, h⟩ := h
  have ob := ma.obC ec
  obtain ⟨hct, hcl⟩ := ma.chain ec
  refine ⟨_, (pss_cons (ps_set (i := 1) S.nd rfl (Or.inl rfl) (pe_bm PySem.F.plainAttrs_list PySem.F.slot_list_index PySem.F.type_list_index mt_index (pe_ix ix_tup (pe_dget (hu_of hr) (pv 0) pe_str (fun _ _ => rfl)) pe_int (fun _ _ => rfl)) (pa_cons (pe_dget (hu_of hr) (pv 0) pe_str (fun _ _ => rfl)) pa_nil)))
        (pss_cons (ps_if (pt_cmpR op_eq (pv 1) pe_int (nomark _))
          (pss_one (ps_ret pe_non))
          pss_nil)
        (pss_one (ps_ret (pe_ix ix_list (pe_ix ix_tup (pe_dget (hu_of hr) (pv 0) pe_str (fun _ _ => rfl)) pe_int (fun _ _ => rfl)) (pe_op op_sub (pv 1) pe_int) (fun _ _ => rfl)))))), ?_⟩
  walk_at "vv"
  refine ⟨_, _, rfl, dg ob mF_chain, ?_⟩
  walk_at "vv"
  refine n_ixT (SqT.of hct) rfl ?_
  walk_at "vv"
  refine ⟨n_lty hcl, ?_⟩
  walk_at "vv"
  refine ⟨_, _, rfl, dg ob mF_name, ?_⟩
  walk_at "vv"
  refine ⟨x.cl, c.all.map V.str, .str "me", c.A.length, .str "me", rfl, rfl, SqL.of hcl, rfl, flat_strs _, by rw [List.getElem?_map, c.all_at]; rfl, beq_self_eq_true ("me" : Str), fun m z hm hz => ?_, ?_⟩
  · rw [List.getElem?_map] at hz
    obtain ⟨x, h1, rfl⟩ := Option.map_eq_some_iff.mp hz
    show (x == ("me" : Str)) = false
    refine beq_eq_false_iff_ne.mpr fun e => ?_
    have := nd_ix ok.h.nd (h1.trans (by rw [e])) c.all_at
    omega
  · walk_at "vv"
    by_cases e : c.A = []
    · refine n_iT (by rw [e]; decide) ?_
      walk_at "vv"
      rw [c.ah_nil e] at h
      exact h
    · refine n_iF (decide_eq_false fun q => e (by injection q with q; exact List.length_eq_zero_iff.mp (by omega))) ?_
      obtain ⟨y, e1, e2⟩ := c.all_ah e
      have hp : 0 < c.A.length := List.length_pos_iff.mpr e
      walk_at "vv"
      refine ⟨_, _, rfl, dg ob mF_chain, ?_⟩
      walk_at "vv"
      refine n_ixT (SqT.of hct) rfl ?_
      walk_at "vv"
      refine n_ixL (SqL.of hcl) (at_of (j := c.A.length - 1) (v := .str y) (by omega) (by rw [List.getElem?_map, e2]; rfl)) ?_
      rw [e1] at h
      exact h
theorem ok_l_behind (T : Txt w K mg A) (D : GD K mg "_law_behind" s_l_behind) : Cal P w K mg base 1 "_law_behind" sp_l_behind := by
  have S := sc_l_behind.sc
  refine cal_mk D sc_l_behind (fun vs H Q E h => by obtain ⟨x, s, c, rfl, _⟩ := h; rfl) fun f cdv A0 outer s0 H vs Q E hr h => ?_
  obtain ⟨x, s, c, rfl, ma, ec, ok, h⟩ := h
  have ob := ma.obC ec
  obtain ⟨hct, hcl⟩ := ma.chain ec
  refine ⟨_, (pss_cons (ps_set (i := 1) S.nd rfl (Or.inl rfl) (pe_ix ix_tup (pe_dget (hu_of hr) (pv 0) pe_str (fun _ _ => rfl)) pe_int (fun _ _ => rfl)))
        (pss_cons (ps_set (i := 2) S.nd rfl (Or.inl rfl) (pe_bm PySem.F.plainAttrs_list PySem.F.slot_list_index PySem.F.type_list_index mt_index (pv 1) (pa_cons (pe_dget (hu_of hr) (pv 0) pe_str (fun _ _ => rfl)) pa_nil)))
        (pss_cons (ps_if (pt_cmpR op_eq (pe_op op_add (pv 2) pe_int) (pe_callB call_len_seq (by rfl) T.b_len PySem.boot_len (pa_cons (pv 1) pa_nil)) (nomark _))
          (pss_one (ps_ret pe_non))
          pss_nil)
        (pss_one (ps_ret (pe_ix ix_list (pv 1) (pe_op op_add (pv 2) pe_int) (fun _ _ => rfl))))))), ?_⟩
  walk_at "vv"
  refine ⟨_, _, rfl, dg ob mF_chain, ?_⟩
  walk_at "vv"
  refine n_ixT (SqT.of hct) rfl ?_
  walk_at "vv"
  refine ⟨n_lty hcl, ?_⟩
  walk_at "vv"
  refine ⟨_, _, rfl, dg ob mF_name, ?_⟩
  walk_at "vv"
  refine ⟨x.cl, c.all.map V.str, .str "me", c.A.length, .str "me", rfl, rfl, SqL.of hcl, rfl, flat_strs _, by rw [List.getElem?_map, c.all_at]; rfl, beq_self_eq_true ("me" : Str), fun m z hm hz => ?_, ?_⟩
  · rw [List.getElem?_map] at hz
    obtain ⟨x, h1, rfl⟩ := Option.map_eq_some_iff.mp hz
    show (x == ("me" : Str)) = false
    refine beq_eq_false_iff_ne.mpr fun e => ?_
    have := nd_ix ok.h.nd (h1.trans (by rw [e])) c.all_at
    omega
  · walk_at "vv"
    refine ⟨x.cl, _, rfl, .inl (SqL.of hcl), ?_⟩
    rw [List.length_map, c.len]
    walk_at "vv"
    by_cases e : c.B = []
    · refine n_iT (by rw [e]; exact decide_eq_true (by congr 1)) ?_
      walk_at "vv"
      rw [c.bh_nil e] at h
      exact h
    · refine n_iF (decide_eq_false fun q => e (by injection q with q; exact List.length_eq_zero_iff.mp (by omega))) ?_
      obtain ⟨y, e1, e2⟩ := c.all_bh e
      walk_at "vv"
      refine n_ixL (SqL.of hcl) (at_of (j := c.A.length + 1) (v := .str y) (by omega) (by rw [List.getElem?_map, e2]; rfl)) ?_
      rw [e1] at h
      exact h
theorem ok_l_letter (D : GD K mg "_law_letter" s_l_letter) : Cal P w K mg base 1 "_law_letter" sp_l_letter := by
  have S := sc_l_letter.sc
  refine cal_mk D sc_l_letter (fun vs H Q E h => by obtain ⟨x, s, c, kind, to, m, ms, rfl, _⟩ := h; rfl) fun f cdv A0 outer s0 H vs Q E hr h => ?_
  obtain ⟨x, s, c, kind, to, m, ms, rfl, ma, ec, hm, mne, mlen, h⟩ := h
  have ob := ma.obC ec
  obtain ⟨hct, hcl⟩ := ma.chain ec
  refine ⟨_, (pss_one (ps_ret (pe_op op_catA (pe_tup (pa_cons (pv 1) (pa_cons (pe_ix ix_tup (pe_dget (hu_of hr) (pv 0) pe_str (fun _ _ => rfl)) pe_int (fun _ _ => rfl)) (pa_cons (pe_dget (hu_of hr) (pv 0) pe_str (fun _ _ => rfl)) (pa_cons (pv 2) pa_nil))))) (pv 3)))), ?_⟩
  walk_at "vv"
  refine ⟨_, _, rfl, dg ob mF_chain, ?_⟩
  walk_at "vv"
  refine n_ixT (SqT.of hct) rfl ?_
  walk_at "vv"
  refine ⟨_, _, rfl, dg ob mF_name, ?_⟩
  walk_at "vv"
  refine ⟨by show 4 ≤ sizeLine; decide, fun p hp2 => ?_⟩
  walk_at "vv"
  have s1 := Same.new (o := .tup [.str kind, .int c.num, .str "me", .str to]) hp2
  refine ⟨p, m, [.str kind, .int c.num, .str "me", .str to], ms, rfl, rfl, SqT.of upd_same, SqT.of (s1 _ _ hm), ?_, fun q => (by cases q), fun _ q => absurd q mne, fun _ _ q hq => ?_⟩
  · show 4 + ms.length ≤ sizeLine
    exact Nat.le_trans (m := 104) (by omega) (by decide)
  · have hq0 := (Fr.ofSame (S := []) s1).none hq (by simp)
    exact h _ q hq0 (Same.put s1 hq0) upd_same
theorem ok_l_told_up (D : GD K mg "_law_told_up" s_l_told_up) (c_l_ahead : Cal P w K mg base 1 "_law_ahead" sp_l_ahead) (c_l_letter : Cal P w K mg base 1 "_law_letter" sp_l_letter) : Cal P w K mg base 2 "_law_told_up" sp_l_told_up := by
  have S := sc_l_told_up.sc
  refine cal_mk D sc_l_told_up (fun vs H Q E h => by obtain ⟨x, s, c, rfl, _⟩ := h; rfl) fun f cdv A0 outer s0 H vs Q E hr h => ?_
  obtain ⟨x, s, c, rfl, ma, ec, ok, h⟩ := h
  have ob := ma.obC ec
  refine ⟨_, (pss_cons (ps_if (pt_cmpR op_isN (pc c_l_ahead hr (by decide) rfl (pa_cons (pv 0) pa_nil)) pe_non (nomark _))
          (pss_one (ps_ret (pe_lst pa_nil)))
          pss_nil)
        (pss_one (ps_ret (pe_lst (pa_cons (pc c_l_letter hr (by decide) rfl (pa_cons (pv 0) (pa_cons pe_str (pa_cons (pc c_l_ahead hr (by decide) rfl (pa_cons (pv 0) pa_nil)) (pa_cons (pe_tup (pa_cons (pe_dget (hu_of hr) (pv 0) pe_str (fun _ _ => rfl)) pa_nil)) pa_nil))))) pa_nil))))), ?_⟩
  unfold toldUp at h
  walk_at "vv"
  refine ⟨x, s, c, rfl, ma, ec, ok, ?_⟩
  walk_at "vv"
  cases ea : c.ah with
  | none =>
    rw [ea] at h
    refine n_iT (by rfl) ?_
    walk_at "vv"
    refine ⟨Nat.zero_le _, fun q hq => ?_⟩
    exact h _ q hq (Same.new hq) (.nil upd_same)
  | some y =>
    rw [ea] at h
    refine n_iF (by rfl) ?_
    walk_at "vv"
    refine ⟨x, s, c, rfl, ma, ec, ok, ?_⟩
    walk_at "vv"
    refine ⟨_, _, rfl, dg ob mF_told, ?_⟩
    walk_at "vv"
    refine ⟨by show 1 ≤ sizeLine; decide, fun m hm => ?_⟩
    have s2 : Same H (upd H m (.tup [.int (s.told : Int)])) := Same.new hm
    walk_at "vv"
    refine ⟨x, s, c, "told", y, m, [.int (s.told : Int)], by rw [ea]; rfl, ma.same s2, ec, upd_same, by simp, by show 1 ≤ 100; decide, fun H3 a hn s3 h3 => ?_⟩
    walk_at "vv"
    refine ⟨by show 1 ≤ sizeLine; decide, fun q hq => ?_⟩
    have s23 := Same.trans s2 s3
    have hq0 := (Fr.ofSame (S := []) s23).none hq (by simp)
    have naq : a ≠ q := ne_of_none h3 hq
    exact h _ q hq0 (Same.put s23 hq0) ⟨_, upd_same, .cons (.tup (by rw [upd_ne naq]; exact h3) (.cons (.str _) (.cons (.int _) (.cons (.str _) (.cons (.str _) (.cons (.int _) .nil)))))) .nil⟩
theorem ok_l_rows_down (T : Txt w K mg A) (D : GD K mg "_law_rows_down" s_l_rows_down) (c_l_behind : Cal P w K mg base 1 "_law_behind" sp_l_behind) (c_l_letter : Cal P w K mg base 1 "_law_letter" sp_l_letter) : Cal P w K mg base 2 "_law_rows_down" sp_l_rows_down := by
  have S := sc_l_rows_down.sc
  refine cal_mk D sc_l_rows_down (fun vs H Q E h => by obtain ⟨x, s, c, b, f, rfl, _⟩ := h; rfl) fun f cdv A0 outer s0 H vs Q E hr h => ?_
  obtain ⟨x, s, c, b, f, rfl, ma, ec, ok, eb, hf, hz, h⟩ := h
  have ob := ma.obC ec
  refine ⟨_, (pss_one (ps_ret (pc c_l_letter hr (by decide) rfl (pa_cons (pv 0) (pa_cons pe_str (pa_cons (pc c_l_behind hr (by decide) rfl (pa_cons (pv 0) pa_nil)) (pa_cons (pe_tup (pa_cons (pv 1) (pa_cons (pe_callTy call_tuple_of (by rfl) T.b_tuple (by decide +kernel) (pa_cons (pe_slice sl_list (pe_dget (hu_of hr) (pv 0) pe_str (fun _ _ => rfl)) (po_some (pe_op op_sub (pv 1) pe_int)) po_none) pa_nil)) pa_nil))) pa_nil))))))), ?_⟩
  walk_at "vv"
  refine ⟨x, s, c, rfl, ma, ec, ok, ?_⟩
  walk_at "vv"
  refine ⟨_, _, rfl, dg ob mF_log, ?_⟩
  walk_at "vv"
  refine ⟨x.l, _, rfl, SqL.of ma.lst, fun q hq => ?_⟩
  have s2 : Same H (upd H q (.lst (cutV (s.log.map Row.v) (some ((f : Int) - 1)) none))) := Same.new hq
  rw [show ((f : Int) - 1) = ((f - 1 : Nat) : Int) by omega, cut_from, ← List.map_drop] at *
  walk_at "vv"
  refine ⟨q, _, rfl, .inl ⟨SqL.of upd_same, fun q2 hq2 => ?_⟩⟩
  have s3 := Same.put (o := .tup ((s.log.drop (f - 1)).map Row.v)) s2 ((Fr.ofSame (S := []) s2).none hq2 (by simp))
  walk_at "vv"
  refine ⟨by show 2 ≤ sizeLine; decide, fun m hm => ?_⟩
  have hm0 := (Fr.ofSame (S := []) s3).none hm (by simp)
  have s4 := Same.put (o := .tup [.int (f : Int), .ref q2]) s3 hm0
  have n2 : q2 ≠ m := ne_of_none upd_same hm
  walk_at "vv"
  have ma4 := ma.same s4
  refine ⟨x, s, c, "rows", b, m, [.int (f : Int), .ref q2], by rw [eb]; rfl, ma4, ec, upd_same, by simp, by show 2 ≤ 100; decide, fun H5 a hn s5 h5 => ?_⟩
  refine h _ _ (Same.trans s4 s5) ?_
  have hR : RowsOk H5 (s.log.drop (f - 1)) := (ma4.same s5).rows.sub fun r hr => List.mem_of_mem_drop hr
  exact .tup h5 (.cons (.str _) (.cons (.int _) (.cons (.str _) (.cons (.str _) (.cons (.int _) (.cons (.tup (s5 _ _ (by rw [upd_ne n2]; exact upd_same)) (TDs.rows hR)) .nil))))))
theorem ok_l_asked (T : Txt w K mg A) (D : GD K mg "_law_asked" s_l_asked) (c_l_letter : Cal P w K mg base 1 "_law_letter" sp_l_letter) : Cal P w K mg base 2 "_law_asked" sp_l_asked := by
  have S := sc_l_asked.sc
  refine cal_mk D sc_l_asked (fun vs H Q E h => by obtain ⟨x, s, c, rfl, _⟩ := h; rfl) fun f cdv A0 outer s0 H vs Q E hr h => ?_
  obtain ⟨x, s, c, rfl, ma, ec, ok, few, h⟩ := h
  have ob := ma.obC ec
  obtain ⟨hct, hcl⟩ := ma.chain ec
  refine ⟨_, (pss_one (ps_ret (pe_lc (own := [("_law_ask", 1)]) (g := gName 1) (by rfl) S.nd (pi_list (pe_callB (call_sortedDI rfl) (by rfl) T.b_sorted (by decide +kernel) (pa_cons (pe_dget (hu_of hr) (pv 0) pe_str (fun _ _ => rfl)) pa_nil))) (blkOk_by (own := [("_law_ask", 1)]) (N := N_l_asked) (sc := defScope s_l_asked) (by decide +kernel)) (fun _ _ _ _ _ => pg_name (i := 1) S.nd rfl (Or.inl rfl)) (fun _ _ _ _ _ => pts_nil) (fun _ _ _ _ _ => (pc c_l_letter hr (by decide) rfl (pa_cons (pv 0) (pa_cons pe_str (pa_cons (ixLK K (ixTK K (pe_dget (hu_of hr) (pv 0) pe_str (fun _ _ => rfl)) pe_int (fun _ _ => rfl)) (pe_un un_neg pe_int) (fun _ _ => rfl)) (pa_cons (pe_tup (pa_cons (pv 1) pa_nil)) pa_nil))))))))), ?_⟩
  walk_at "vv"
  refine ⟨_, _, rfl, dg ob mF_asks, ?_⟩
  walk_at "vv"
  refine ⟨x.d, kvA s.asks, s.asks.map (·.1), rfl, .inl ma.asks, kvA_keys _, by rw [List.length_map]; omega, fun ys0 a pe so hn => ?_⟩
  rw [sortA_eq pe so]
  have s1 : Same H (upd H a (.lst ((sortA s.asks).map V.int))) := Same.new hn
  walk_at "vv"
  refine ⟨a, rfl, ⟨_, SqL.of upd_same⟩, lcg_list (Rds (askedD c s)) upd_same (by rw [List.length_map, sortA_len]; omega) (fun _ => rfl) rds_keeps (fun j y hj H2 s2 Qe k => ?_) fun E2 H2 ys hD s2 h2 hl2 hR2 => ?_⟩
  · obtain ⟨i, hi, rfl⟩ : ∃ i, (sortA s.asks)[j]? = some i ∧ y = V.int i := by
      rw [List.getElem?_map] at hj
      obtain ⟨r, h1, h2⟩ := Option.map_eq_some_iff.mp hj
      exact ⟨r, h1, h2.symm⟩
    have s12 := Same.trans s1 s2
    have ma2 := ma.same s12
    have ob2 := s12 _ _ ob
    have hct2 := s12 _ _ hct
    have hcl2 := s12 _ _ hcl
    walk_at "vv"
    refine ⟨_, _, rfl, dg ob2 mF_chain, ?_⟩
    walk_at "vv"
    refine n_ixT (SqT.of hct2) rfl ?_
    walk_at "vv"
    refine n_ixL (SqL.of hcl2) (atI_neg1 (v := .str c.tl) (by rw [List.length_map, List.getElem?_map, c.all_tl]; rfl)) ?_
    walk_at "vv"
    refine ⟨by show 1 ≤ sizeLine; decide, fun m hm => ?_⟩
    have s3 : Same H2 (upd H2 m (.tup [.int i])) := Same.new hm
    walk_at "vv"
    refine ⟨x, s, c, "which", c.tl, m, [.int i], rfl, ma2.same s3, ec, upd_same, by simp, by show 1 ≤ 100; decide, fun H4 b hb s4 h4 => ?_⟩
    refine k _ _ (Same.trans s3 s4) ⟨whichD c i, by unfold askedD; rw [List.getElem?_map, hi]; rfl, .tup h4 (.cons (.str _) (.cons (.int _) (.cons (.str _) (.cons (.str _) (.cons (.int _) .nil)))))⟩
  · walk_at "vv"
    have s12 := Same.trans s1 s2
    exact h _ E2 ((Fr.ofSame (S := []) s1).none hD (by simp)) s12 (ld_of h2 (by rw [hl2]; unfold askedD; rw [List.length_map, List.length_map]) hR2)
theorem ok_l_written (T : Txt w K mg A) (D : GD K mg "_law_written" s_l_written) : Cal P w K mg base 1 "_law_written" sp_l_written := by
  have S := sc_l_written.sc
  refine cal_mk D sc_l_written (fun vs H Q E h => by obtain ⟨x, s, rfl, _⟩ := h; rfl) fun f cdv A0 outer s0 H vs Q E hr h => ?_
  obtain ⟨x, s, rfl, ma, hz, h⟩ := h
  have ob := ma.ob
  refine ⟨_, (pss_cons (ps_setLc (i := 1) (own := [("_law_row_here", 2)]) (g := gName 2) (by rfl) S.nd rfl rfl (sw_true rfl rfl rfl (by decide +kernel)) (pi_list (pe_slice sl_list (pe_dget (hu_of hr) (pv 0) pe_str (fun _ _ => rfl)) (po_some (pe_dget (hu_of hr) (pv 0) pe_str (fun _ _ => rfl))) po_none)) (blkOk_by (own := [("_law_row_here", 2)]) (N := N_l_written) (sc := defScope s_l_written) (by decide +kernel)) (fun _ _ _ _ _ => pg_name (i := 2) S.nd rfl (Or.inl rfl)) (fun _ _ _ _ _ => pts_nil) (fun _ _ _ _ _ => (pe_tup (pa_cons pe_str (pa_cons (ixTK K (pv 2) pe_int (fun _ _ => rfl)) (pa_cons (ixTK K (pv 2) pe_int (fun _ _ => rfl)) pa_nil))))))
        (pss_cons (ps_dput (hu_of hr) (pv 0) pe_str (pe_callB call_len_seq (by rfl) T.b_len PySem.boot_len (pa_cons (pe_dget (hu_of hr) (pv 0) pe_str (fun _ _ => rfl)) pa_nil)) rfl)
        (pss_one (ps_ret (pv 1))))), ?_⟩
  walk_at "vv"
  refine ⟨_, _, rfl, dg ob mF_log, ?_⟩
  walk_at "vv"
  refine ⟨_, _, rfl, dg ob mF_told, ?_⟩
  walk_at "vv"
  refine ⟨x.l, _, rfl, SqL.of ma.lst, fun a hn => ?_⟩
  rw [cut_from, ← List.map_drop]
  have s1 : Same H (upd H a (.lst ((s.log.drop s.told).map Row.v))) := Same.new hn
  refine ⟨a, rfl, ⟨_, SqL.of upd_same⟩, lcg_list (Rds (writtenD s)) upd_same (by rw [List.length_map, List.length_drop]; omega) (fun _ => rfl) rds_keeps (fun j y hj H2 s2 Qe k => ?_) fun E2 H2 ys hD s2 h2 hl2 hR2 => ?_⟩
  · obtain ⟨r, hr1, rfl⟩ : ∃ r, (s.log.drop s.told)[j]? = some r ∧ y = Row.v r := by
      rw [List.getElem?_map] at hj
      obtain ⟨r, h1, h2⟩ := Option.map_eq_some_iff.mp hj
      exact ⟨r, h1, h2.symm⟩
    have ra := (Same.trans s1 s2) _ _ (ma.rows.at_ r (List.mem_of_mem_drop (List.mem_of_getElem? hr1)))
    walk_at "vv"
    refine n_ixT (SqT.of ra) (v := .str r.asker) rfl ?_
    walk_at "vv"
    refine n_ixT (SqT.of ra) (v := .int r.num) rfl ?_
    walk_at "vv"
    refine ⟨by show 3 ≤ sizeLine; decide, fun m hm => ?_⟩
    exact k _ _ (Same.new hm) ⟨wroteD r, by unfold writtenD; rw [List.getElem?_map, hr1]; rfl, .tup upd_same (.cons (.str _) (.cons (.str _) (.cons (.int _) .nil)))⟩
  · have s12 := Same.trans s1 s2
    have ma2 := ma.same s12
    walk_at "vv"
    refine ⟨_, _, rfl, dg ma2.ob mF_log, ?_⟩
    walk_at "vv"
    refine ⟨x.l, _, rfl, .inl (SqL.of ma2.lst), ?_⟩
    rw [List.length_map]
    walk_at "vv"
    refine ⟨x.m, _, rfl, DPut.k (k := Sum.inr "told") ma2.ob (by show 6 < _; decide), ?_⟩
    rw [mput_told]
    have fr2 : Fr [x.m] H2 (upd H2 x.m (.dK (mF (ownV s x.ct) x.l s.log.length s.ready x.d))) := Fr.upd (Fr.refl _) (by simp)
    have nE : E2 ≠ x.m := fun q => by rw [q] at h2; rw [ma2.ob] at h2; cases h2
    walk_at "vv"
    refine h _ E2 ((Fr.ofSame (S := []) s1).none hD (by simp)) ((Fr.ofSame s12).trans fr2) ma2.tell ?_
    exact (ld_of h2 (by rw [hl2]; unfold writtenD; rw [List.length_map, List.length_map]) hR2).to (by rw [upd_ne nE]) (Fr.tups fr2 (NT.cons ma2.ob (by intro ys q; cases q) NT.nil))
theorem ok_l_stands (D : GD K mg "_law_stands" s_l_stands) : Cal P w K mg base 1 "_law_stands" sp_l_stands := by
  have S := sc_l_stands.sc
  refine cal_mk D sc_l_stands (fun vs H Q E h => by obtain ⟨x, s, rfl, _⟩ := h; rfl) fun f cdv A0 outer s0 H vs Q E hr h => ?_
  obtain ⟨x, s, rfl, ma, h⟩ := h
  have ob := ma.ob
  refine ⟨_, (pss_one (ps_ret (pe_and (pe_cmpR op_notN (pe_dget (hu_of hr) (pv 0) pe_str (fun _ _ => rfl)) pe_non (nomark _)) (pe_one (pe_dget (hu_of hr) (pv 0) pe_str (fun _ _ => rfl)))))), ?_⟩
  unfold HS.stands at h
  walk_at "vv"
  refine ⟨_, _, rfl, dg ob mF_chain, ?_⟩
  cases ec : s.ch with
  | none =>
    rw [ec] at h
    rw [show ownV s x.ct = .non by unfold ownV; rw [ec]]
    walk_at "vv"
    exact h
  | some c =>
    rw [ec] at h
    rw [MA.own ec]
    walk_at "vv"
    refine ⟨_, _, rfl, dg ob mF_ready, ?_⟩
    exact h
end
end Ck

namespace Ck
open PySem PySem.Spec PyProof.Rows L2
local macro_rules | `(tactic| walk_at "v") => `(tactic| (first | with_reducible refine n_seq ?_ | with_reducible refine n_ifs ?_ | with_reducible refine n_asg ?_ | with_reducible refine n_name ?_ | with_reducible refine n_ret ?_ | with_reducible refine n_drop ?_ | with_reducible refine n_next ?_ | ((with_reducible refine' n_var ?e ?_); (case e => rfl)) | with_reducible refine n_c ?_ | with_reducible refine n_op ?_ | with_reducible refine n_un ?_ | with_reducible refine n_test ?_ | with_reducible refine n_B ?_ | with_reducible refine n_ex ?_ | with_reducible refine n_and ?_ | with_reducible refine n_or ?_ | with_reducible refine n_not ?_ | with_reducible refine n_andV ?_ | with_reducible refine n_orV ?_ | with_reducible refine n_notV ?_ | with_reducible refine n_cons ?_ | with_reducible refine n_nil ?_ | with_reducible refine n_cb ?_ | with_reducible refine n_call ?_ | with_reducible refine n_I0 ?_ | with_reducible refine n_tup ?_ | with_reducible refine n_lst ?_ | with_reducible refine n_sl ?_ | with_reducible refine n_part ?_ | with_reducible refine n_nopart ?_ | with_reducible refine n_exI ?_ | with_reducible refine n_chain ?_ | with_reducible refine n_dget ?_ | with_reducible refine n_meth ?_ | with_reducible refine n_bm ?_ | with_reducible refine n_bm0 ?_ | with_reducible refine n_sfld ?_ | with_reducible refine n_fld ?_ | with_reducible refine n_for ?_ | with_reducible refine n_dpop1 ?_ | with_reducible refine n_din ?_ | with_reducible refine n_dnotin ?_ | with_reducible refine n_dput ?_ | with_reducible refine n_nn ?_ | with_reducible refine n_rU ?_ | with_reducible refine n_lss ?_ | with_reducible refine n_kget ?_ | with_reducible refine n_iL ?_ | with_reducible refine n_iE ?_ | with_reducible refine n_iR ?_ | with_reducible refine n_lc ?_ | with_reducible refine n_lcT ?_ | with_reducible refine n_lcS ?_ | with_reducible refine n_gTup ?_ | with_reducible refine n_gCons ?_ | with_reducible refine n_gNil ?_ | ((with_reducible refine n_eq ?e ?_); (case e => rfl)) | ((with_reducible refine n_ne ?e ?_); (case e => rfl)) | ((with_reducible refine n_iT ?e ?_); (case e => rfl)) | ((with_reducible refine n_iF ?e ?_); (case e => rfl))))
local macro_rules | `(tactic| walk_at "vv") => `(tactic| repeat walk_at "v")
section
variable {P : Program} {w : World} {K : PySem.W.Frag} {mg : Str → Option Value} {base : Heap} {A : Ad}
theorem ok_l_tried (D : GD K mg "_law_tried" s_l_tried) (c_l_stands : Cal P w K mg base 1 "_law_stands" sp_l_stands) (c_l_behind : Cal P w K mg base 1 "_law_behind" sp_l_behind) (c_l_told_up : Cal P w K mg base 2 "_law_told_up" sp_l_told_up)
    (c_l_asked : Cal P w K mg base 2 "_law_asked" sp_l_asked) (c_l_rows_down : Cal P w K mg base 2 "_law_rows_down" sp_l_rows_down) : Cal P w K mg base 3 "_law_tried" sp_l_tried := by
  have S := sc_l_tried.sc
  refine cal_mk D sc_l_tried (fun vs H Q E h => by obtain ⟨x, s, rfl, _⟩ := h; rfl) fun f cdv A0 outer s0 H vs Q E hr h => ?_
  obtain ⟨x, s, rfl, ma, ok, hd⟩ := h
  refine ⟨_, (pss_cons (ps_if (pt_not (pt_val (pc c_l_stands hr (by decide) rfl (pa_cons (pv 0) pa_nil))))
          (pss_one (ps_ret (pe_tup (pa_cons (pe_lst pa_nil) (pa_cons (pe_lst pa_nil) pa_nil)))))
          pss_nil)
        (pss_cons (ps_if (pt_cmpR op_isN (pc c_l_behind hr (by decide) rfl (pa_cons (pv 0) pa_nil)) pe_non (nomark _))
          (pss_one (ps_ret (pe_tup (pa_cons (pe_lst pa_nil) (pa_cons (pe_op op_cat (pc c_l_told_up hr (by decide) rfl (pa_cons (pv 0) pa_nil)) (pc c_l_asked hr (by decide) rfl (pa_cons (pv 0) pa_nil))) pa_nil)))))
          pss_nil)
        (pss_one (ps_ret (pe_tup (pa_cons (pe_lst pa_nil) (pa_cons (pe_op op_cat (pe_lst (pa_cons (pc c_l_rows_down hr (by decide) rfl (pa_cons (pv 0) (pa_cons pe_int pa_nil))) pa_nil)) (pc c_l_asked hr (by decide) rfl (pa_cons (pv 0) pa_nil))) pa_nil))))))), ?_⟩
  unfold tried at hd
  have mg := ma
  have gr := ma.gr (Same.refl H)
  walk_at "vv"
  refine ⟨x, s, rfl, ma, ?_⟩
  cases ec : s.ch with
  | none =>
    rw [ec] at hd
    dsimp only at hd
    rw [show s.stands = false by unfold HS.stands; rw [ec]; rfl]
    walk_at "vv"
    refine ⟨Nat.zero_le _, fun a fa => ?_⟩
    walk_at "vv"
    refine ⟨Nat.zero_le _, fun b fb => ?_⟩
    walk_at "vv"
    obtain ⟨z2, la, lb, nab, fa0, fb0⟩ := two0 gr fa fb
    exact m_pair hd (gr.same z2) rfl rfl rfl rfl rfl (mg.same z2) la lb nab fa0 fb0
  | some c =>
    rw [ec] at hd
    dsimp only at hd
    have okc := ok.ch c ec
    cases rdy : s.ready with
    | false =>
      rw [if_pos rdy] at hd
      rw [show s.stands = false by unfold HS.stands; rw [ec, rdy]; rfl]
      walk_at "vv"
      refine ⟨Nat.zero_le _, fun a fa => ?_⟩
      walk_at "vv"
      refine ⟨Nat.zero_le _, fun b fb => ?_⟩
      walk_at "vv"
      obtain ⟨z2, la, lb, nab, fa0, fb0⟩ := two0 gr fa fb
      exact m_pair hd (gr.same z2) rfl rfl rfl rfl rfl (mg.same z2) la lb nab fa0 fb0
    | true =>
      rw [if_neg (by rw [rdy]; simp)] at hd
      rw [show s.stands = true by unfold HS.stands; rw [ec, rdy]; rfl]
      walk_at "vv"
      refine ⟨x, s, c, rfl, ma, ec, okc, ?_⟩
      cases eb : c.bh with
      | none =>
        rw [eb] at hd
        walk_at "vv"
        refine ⟨Nat.zero_le _, fun a fa => ?_⟩
        have t1 := Same.new (o := .lst []) fa
        walk_at "vv"
        refine ⟨x, s, c, rfl, ma.same t1, ec, okc, fun H2 u fu s2 lu => ?_⟩
        have ma2 := (ma.same t1).same s2
        walk_at "vv"
        refine ⟨x, s, c, rfl, ma2, ec, okc, ok.few, fun H3 v fv s3 lv => ?_⟩
        have ma3 := ma2.same s3
        have lu3 := lu.same s3
        obtain ⟨xs, ys, h1, h2, h3, h4, h5⟩ := lu3.cat lv
        refine ⟨u, v, xs, ys, rfl, rfl, h1, h2, ?_, fun q fq => ?_⟩
        · rw [h4, h5]
          have e1 : (toldUp c s.told).length ≤ 1 := by
            unfold toldUp
            cases c.ah with
            | none => exact Nat.zero_le _
            | some _ => exact Nat.le_refl _
          have e2 : (askedD c s).length ≤ 50 := by unfold askedD; rw [List.length_map, sortA_len]; exact ok.few
          exact Nat.le_trans (m := 51) (by omega) (by decide)
        have s4 : Same H3 (upd H3 q (.lst (xs ++ ys))) := Same.new fq
        have t13 := Same.trans t1 (Same.trans s2 s3)
        have t14 := Same.trans t13 s4
        walk_at "vv"
        have ka := (Same.trans s2 (Same.trans s3 s4)) _ _ (upd_same (H := H) (a := a) (o := .lst []))
        exact m_pair hd (gr.same t14) rfl rfl rfl rfl rfl (ma.same t14) (.nil ka) ⟨_, upd_same, TDs.to (Tups.ofSame s4) h3⟩ (ne_of_none ((Same.trans s2 s3) _ _ (upd_same (H := H) (a := a) (o := .lst []))) fq) fa ((gr.same t13).fresh fq)
      | some b =>
        rw [eb] at hd
        walk_at "vv"
        refine ⟨Nat.zero_le _, fun a fa => ?_⟩
        have t1 := Same.new (o := .lst []) fa
        walk_at "vv"
        refine ⟨x, s, c, b, 1, rfl, ma.same t1, ec, okc, eb, by omega, by have := ok.len; omega, fun H2 v s2 dv => ?_⟩
        have ma2 := (ma.same t1).same s2
        walk_at "vv"
        refine ⟨by show 1 ≤ sizeLine; decide, fun u fu => ?_⟩
        have s3 := Same.new (o := .lst [v]) fu
        have ma3 := ma2.same s3
        walk_at "vv"
        refine ⟨x, s, c, rfl, ma3, ec, okc, ok.few, fun H4 g fg s4 lg => ?_⟩
        have lu : LD H4 u [rowsD c b s.log 1] := ⟨_, s4 _ _ upd_same, .cons (TD.to (Tups.ofSame (Same.trans s3 s4)) dv) .nil⟩
        obtain ⟨xs, ys, h1, h2, h3, h4, h5⟩ := lu.cat lg
        refine ⟨u, g, xs, ys, rfl, rfl, h1, h2, ?_, fun q fq => ?_⟩
        · rw [h4, h5]
          have e2 : (askedD c s).length ≤ 50 := by unfold askedD; rw [List.length_map, sortA_len]; exact ok.few
          show 1 + (askedD c s).length ≤ sizeLine
          exact Nat.le_trans (m := 51) (by omega) (by decide)
        have s5 : Same H4 (upd H4 q (.lst (xs ++ ys))) := Same.new fq
        have t14 := Same.trans t1 (Same.trans s2 (Same.trans s3 s4))
        have t15 := Same.trans t14 s5
        have ka4 := (Same.trans s2 (Same.trans s3 s4)) _ _ (upd_same (H := H) (a := a) (o := .lst []))
        walk_at "vv"
        exact m_pair hd (gr.same t15) rfl rfl rfl rfl rfl (ma.same t15) (.nil (s5 _ _ ka4)) ⟨_, upd_same, TDs.to (Tups.ofSame s5) h3⟩ (ne_of_none ka4 fq) fa ((gr.same t14).fresh fq)
theorem bl_int {a b : Int} : (V.bl (decide (V.int a = V.int b))) = V.bl (decide (a = b)) := by
  congr 1
  by_cases e : a = b
  · rw [decide_eq_true e, decide_eq_true (congrArg V.int e)]
  · rw [decide_eq_false e, decide_eq_false fun z => e (by injection z)]
theorem ok_l_adopted (T : Txt w K mg A) (D : GD K mg "_law_adopted" s_l_adopted) (c_l_last : Cal P w K mg base 1 "_law_last" sp_l_last) (c_l_behind : Cal P w K mg base 1 "_law_behind" sp_l_behind) (c_l_told_up : Cal P w K mg base 2 "_law_told_up" sp_l_told_up)
    (c_l_asked : Cal P w K mg base 2 "_law_asked" sp_l_asked) (c_l_rows_down : Cal P w K mg base 2 "_law_rows_down" sp_l_rows_down) (c_l_written : Cal P w K mg base 1 "_law_written" sp_l_written) : Cal P w K mg base 3 "_law_adopted" sp_l_adopted := by
  have S := sc_l_adopted.sc
  refine cal_mk D sc_l_adopted (fun vs H Q E h => by obtain ⟨x, s, a, c, rfl, _⟩ := h; rfl) fun f cdv A0 outer s0 H vs Q E hr h => ?_
  obtain ⟨x, s, na, c, rfl, ma, ok, okc, hna, hd⟩ := h
  refine ⟨_, (pss_cons (ps_if (PW.pt (pw_and (pt_cmpR op_notN (pe_dget (hu_of hr) (pv 0) pe_str (fun _ _ => rfl)) pe_non (nomark _)) (pw_and1 (pt_cmpR op_le (pv 1) (pe_ix ix_tup (pe_dget (hu_of hr) (pv 0) pe_str (fun _ _ => rfl)) pe_int (fun _ _ => rfl)) (nomark _)))))
          (pss_one (ps_ret (pe_tup (pa_cons (pe_lst pa_nil) (pa_cons (pe_lst pa_nil) pa_nil)))))
          pss_nil)
        (pss_cons (ps_dput (hu_of hr) (pv 0) pe_str (pe_tup (pa_cons (pv 1) (pa_cons (pe_callTy call_list_of (by rfl) T.b_list (by decide +kernel) (pa_cons (pv 2) pa_nil)) pa_nil))) rfl)
        (pss_cons (ps_dput (hu_of hr) (pv 0) pe_str (pe_or (pe_dget (hu_of hr) (pv 0) pe_str (fun _ _ => rfl)) (pe_one (pe_cmpR op_eq (pv 1) pe_int (nomark _)))) rfl)
        (pss_cons (ps_if (pt_not (pt_val (pe_dget (hu_of hr) (pv 0) pe_str (fun _ _ => rfl))))
          (pss_one (ps_ret (pe_tup (pa_cons (pe_lst pa_nil) (pa_cons (pe_lst pa_nil) pa_nil)))))
          pss_nil)
        (pss_cons (ps_if (pt_cmpR op_notN (pc c_l_behind hr (by decide) rfl (pa_cons (pv 0) pa_nil)) pe_non (nomark _))
          (pss_one (ps_ret (pe_tup (pa_cons (pe_lst pa_nil) (pa_cons (pe_op op_cat (pe_lst (pa_cons (pc c_l_rows_down hr (by decide) rfl (pa_cons (pv 0) (pa_cons pe_int pa_nil))) pa_nil)) (pc c_l_asked hr (by decide) rfl (pa_cons (pv 0) pa_nil))) pa_nil)))))
          pss_nil)
        (pss_cons (ps_set (i := 3) S.nd rfl (Or.inl rfl) (pc c_l_written hr (by decide) rfl (pa_cons (pv 0) pa_nil)))
        (pss_cons (ps_for PassesOwn.never rfl (pi_list (pe_callB (call_sortedDI rfl) (by rfl) T.b_sorted (by decide +kernel) (pa_cons (pe_dget (hu_of hr) (pv 0) pe_str (fun _ _ => rfl)) pa_nil))) (pg_name (i := 4) S.nd rfl (Or.inl rfl))
          (pss_one (ps_expr (pe_bm PySem.F.plainAttrs_list PySem.F.slot_list_append PySem.F.type_list_append mt_append (pv 3) (pa_cons (pe_tup (pa_cons pe_str (pa_cons (pv 4) (pa_cons (pc c_l_last hr (by decide) rfl (pa_cons (pe_dget (hu_of hr) (pv 0) pe_str (fun _ _ => rfl)) (pa_cons (pe_dget (hu_of hr) (pe_dget (hu_of hr) (pv 0) pe_str (fun _ _ => rfl)) (pv 4) (fun _ _ => rfl)) pa_nil))) pa_nil)))) pa_nil)))))
        (pss_cons (ps_expr (pe_dclear (pe_dget (hu_of hr) (pv 0) pe_str (fun _ _ => rfl))))
        (pss_one (ps_ret (pe_tup (pa_cons (pv 3) (pa_cons (pc c_l_told_up hr (by decide) rfl (pa_cons (pv 0) pa_nil)) pa_nil))))))))))))), ?_⟩
  unfold adopted at hd
  walk_at "vv"
  refine ⟨_, _, rfl, dg ma.ob mF_chain, ?_⟩
  have hdE : s.elder c.num = true → ∀ (H' : Hp) (v : V), MA H' x s → Brought H H' v [] [] → Fr [x.m, x.d] H H' → Q v H' := fun e H' v h1 h2 h3 => by
    rw [if_pos e] at hd
    exact hd H' v x rfl rfl rfl (.inl rfl) h1 h2 h3
  have tst : (V.non = V.non ∧ True) := ⟨rfl, trivial⟩
  cases ec : s.ch with
  | none =>
    have el : ¬ s.elder c.num = true := by unfold HS.elder; rw [ec]; simp
    rw [if_neg el] at hd
    rw [show ownV s x.ct = .non by unfold ownV; rw [ec]]
    walk_at "vv"
    refine ⟨na, _, rfl, .inl (SqL.of hna), fun hl fhl => ?_⟩
    have t1 : Same H (upd H hl (.lst (c.all.map V.str))) := Same.new fhl
    walk_at "vv"
    refine ⟨by show 2 ≤ sizeLine; decide, fun ct fct => ?_⟩
    have t2 := Same.new (o := .tup [.int c.num, .ref hl]) fct
    have t12 := Same.trans t1 t2
    have nhc : hl ≠ ct := ne_of_none upd_same fct
    have ma2 := ma.same t12
    have khl := t2 _ _ (upd_same (H := H) (a := hl) (o := .lst (c.all.map V.str)))
    have kct : upd (upd H hl (.lst (c.all.map V.str))) ct (.tup [.int c.num, .ref hl]) ct = some (.tup [.int c.num, .ref hl]) := upd_same
    generalize upd (upd H hl (.lst (c.all.map V.str))) ct (.tup [.int c.num, .ref hl]) = H2 at *
    walk_at "vv"
    refine ⟨x.m, _, rfl, DPut.k (k := Sum.inr "chain") ma2.ob (by show 6 < _; decide), ?_⟩
    rw [mput_chain]
    have fr3 : Fr [x.m] H2 (upd H2 x.m (.dK (mF (.ref ct) x.l s.told s.ready x.d))) := Fr.upd (Fr.refl _) (by simp)
    have ma3 : MA (upd H2 x.m (.dK (mF (.ref ct) x.l s.told s.ready x.d))) ⟨x.m, x.l, x.d, ct, hl⟩ { s with ch := some c } :=
      ma2.put (s' := { s with ch := some c }) (ct := ct) (cl := hl) fr3 upd_same rfl rfl ⟨kct, khl⟩
    have gr3 : Gr [x.m, x.d] H (upd H2 x.m (.dK (mF (.ref ct) x.l s.told s.ready x.d))) :=
      ⟨(Fr.ofSame t12).trans (fr3.mono fun q m => by rw [List.mem_singleton.mp m]; simp), fun q hq => by
        rcases List.mem_cons.mp hq with e | e
        · rw [e]; exact ⟨_, upd_same⟩
        · rw [List.mem_singleton.mp e]; exact ⟨_, ma3.asks⟩⟩
    generalize upd H2 x.m (.dK (mF (.ref ct) x.l s.told s.ready x.d)) = H3 at *
    walk_at "vv"
    refine ⟨_, _, rfl, dg ma3.ob mF_ready, ?_⟩
    cases rdy0 : s.ready with
    | true =>
      have et : (s.taken c).ready = true := by unfold HS.taken; rw [rdy0]; rfl
      walk_at "vv"
      refine ⟨x.m, _, rfl, DPut.k (k := Sum.inr "ready") ma3.ob (by show 6 < _; decide), ?_⟩
      rw [mput_ready]
      rw [← et]
      have ma4 : MA (upd H3 x.m (.dK (mF (ownV { s with ch := some c } ct) x.l s.told (s.taken c).ready x.d))) ⟨x.m, x.l, x.d, ct, hl⟩ (s.taken c) := ma3.setR (b := (s.taken c).ready)
      have gr4 : Gr [x.m, x.d] H (upd H3 x.m (.dK (mF (ownV { s with ch := some c } ct) x.l s.told (s.taken c).ready x.d))) := gr3.upd (by simp)
      generalize upd H3 x.m (.dK (mF (ownV { s with ch := some c } ct) x.l s.told (s.taken c).ready x.d)) = H4 at *
      have ec4 : (s.taken c).ch = some c := rfl
      have few4 : (s.taken c).asks.length ≤ 50 := ok.few
      have len4 : (s.taken c).log.length ≤ 1000 := by have := ok.len; show s.log.length ≤ 1000; omega
      have eL : s.log.length = (s.taken c).log.length := rfl
      rw [eL] at hd
      rw [show rowsD c = rowsD c from rfl] at hd
      have eA : askedD c s = askedD c (s.taken c) := rfl
      rw [eA] at hd
      have eG : s.log = (s.taken c).log := rfl
      rw [eG] at hd
      clear eL eA eG
      generalize s.taken c = s4 at *
      have fin : ∀ (r : Res), (∀ (H' : Hp) (v : V) (x' : MX), x'.m = x.m → x'.l = x.l → x'.d = x.d → (x'.cl = x.cl ∨ H x'.cl = none) → MA H' x' r.1 → Brought H H' v r.2.1 r.2.2 → Fr [x.m, x.d] H H' → Q v H') →
          ∀ (H5 : Hp) (a b : Addr), Gr [x.m, x.d] H H5 → MA H5 ⟨x.m, x.l, x.d, ct, hl⟩ r.1 → LD H5 a r.2.1 → LD H5 b r.2.2 → a ≠ b → H a = none → H b = none → [V.ref a, V.ref b].length ≤ sizeLine ∧ ∀ t, H5 t = none → Q (.ref t) (upd H5 t (.tup [.ref a, .ref b])) :=
        fun r k H5 a b g m la lb nab fa fb => pair_of g la lb nab fa fb fun H' v s' br => k H' v ⟨x.m, x.l, x.d, ct, hl⟩ rfl rfl rfl (.inr fhl) (m.same s') br (g.fr.trans (Fr.ofSame s'))
      walk_at "vv"
      refine ⟨_, _, rfl, dg ma4.ob mF_ready, ?_⟩
      cases rdy4 : s4.ready with
      | false =>
        rw [if_pos rdy4] at hd
        walk_at "vv"
        refine ⟨Nat.zero_le _, fun a fa => ?_⟩
        walk_at "vv"
        refine ⟨Nat.zero_le _, fun b fb => ?_⟩
        walk_at "vv"
        obtain ⟨z2, la, lb, nab, fa0, fb0⟩ := two0 gr4 fa fb
        exact fin _ hd _ _ _ (gr4.same z2) (ma4.same z2) la lb nab fa0 fb0
      | true =>
        rw [if_neg (by rw [rdy4]; simp)] at hd
        walk_at "vv"
        refine ⟨⟨x.m, x.l, x.d, ct, hl⟩, s4, c, rfl, ma4, ec4, okc, ?_⟩
        cases eb : c.bh with
        | some b =>
          rw [eb] at hd
          walk_at "vv"
          refine ⟨Nat.zero_le _, fun a fa => ?_⟩
          have t5 := Same.new (o := .lst []) fa
          walk_at "vv"
          refine ⟨⟨x.m, x.l, x.d, ct, hl⟩, s4, c, b, 1, rfl, ma4.same t5, ec4, okc, eb, by omega, len4, fun H6 v t6 dv => ?_⟩
          walk_at "vv"
          refine ⟨by show 1 ≤ sizeLine; decide, fun u fu => ?_⟩
          have t7 := Same.new (o := .lst [v]) fu
          walk_at "vv"
          refine ⟨⟨x.m, x.l, x.d, ct, hl⟩, s4, c, rfl, ma4.same (Same.trans t5 (Same.trans t6 t7)), ec4, okc, few4, fun H8 g fg t8 lg => ?_⟩
          have lu : LD H8 u [rowsD c b s4.log 1] := ⟨_, t8 _ _ upd_same, .cons (TD.to (Tups.ofSame (Same.trans t7 t8)) dv) .nil⟩
          obtain ⟨xs, ys, h1, h2, h3, h4, h5⟩ := lu.cat lg
          refine ⟨u, g, xs, ys, rfl, rfl, h1, h2, ?_, fun q fq => ?_⟩
          · rw [h4, h5]
            have e2 : (askedD c s4).length ≤ 50 := by unfold askedD; rw [List.length_map, sortA_len]; exact few4
            show 1 + (askedD c s4).length ≤ sizeLine
            exact Nat.le_trans (m := 51) (by omega) (by decide)
          have t9 : Same H8 (upd H8 q (.lst (xs ++ ys))) := Same.new fq
          have t58 := Same.trans t5 (Same.trans t6 (Same.trans t7 t8))
          have t59 := Same.trans t58 t9
          have ka8 := (Same.trans t6 (Same.trans t7 t8)) _ _ (upd_same (H := H4) (a := a) (o := .lst []))
          walk_at "vv"
          exact fin _ hd _ _ _ (gr4.same t59) (ma4.same t59) (.nil (t9 _ _ ka8)) ⟨_, upd_same, TDs.to (Tups.ofSame t9) h3⟩ (ne_of_none ka8 fq) (gr4.fresh fa) ((gr4.same t58).fresh fq)
        | none =>
          rw [eb] at hd
          walk_at "vv"
          refine ⟨⟨x.m, x.l, x.d, ct, hl⟩, s4, rfl, ma4, len4, fun H5 a fa f5 ma5 la => ?_⟩
          have gr5 : Gr [x.m, x.d] H H5 := gr4.more f5 (fun q m => by rw [List.mem_singleton.mp m]; simp) fun q hq => by rw [List.mem_singleton.mp hq]; exact ⟨_, ma5.ob⟩
          have fa0 := gr4.fresh fa
          obtain ⟨_, _, _, ⟨oct, bct⟩, ⟨ohl, bhl⟩⟩ := ma4.there
          have nact : a ≠ ct := (ne_of_none bct fa).symm
          have nahl : a ≠ hl := (ne_of_none bhl fa).symm
          walk_at "vv"
          refine ⟨_, _, rfl, dg ma5.ob mF_asks, ?_⟩
          walk_at "vv"
          refine ⟨x.d, kvA s4.asks, s4.asks.map (·.1), rfl, .inl ma5.asks, kvA_keys _, by rw [List.length_map]; omega, fun ys0 z pe so fz => ?_⟩
          rw [sortA_eq pe so]
          have t6 : Same H5 (upd H5 z (.lst ((sortA s4.asks).map V.int))) := Same.new fz
          have eT : answersD s4 = (sortA s4.asks).map fun k => worthD k (lastW s4.tellAll.log ((keyA s4.tellAll.asks k).getD Str.empty)) := rfl
          have naz : a ≠ z := by
            obtain ⟨xs, h1, _⟩ := la
            exact ne_of_none h1 fz
          walk_at "vv"
          refine ⟨z, rfl, ⟨_, SqL.of upd_same⟩, for_list (K := K) (a := z) (xs := (sortA s4.asks).map V.int) (fun i σ H' => ∃ v, σ = [some (.ref x.m), some (.int c.num), some (.ref na), some (.ref a), v] ∧ H' z = some (.lst ((sortA s4.asks).map V.int)) ∧ MA H' ⟨x.m, x.l, x.d, ct, hl⟩ s4.tellAll ∧ LD H' a (writtenD s4 ++ (answersD s4).take i) ∧ Gr [x.m, x.d] H H')
            ⟨none, rfl, upd_same, ma5.same t6, by rw [List.take_zero, List.append_nil]; exact la.same t6, gr5.same t6⟩ (fun i σ H' _ p => by obtain ⟨v, _, h, _⟩ := p; exact SqL.of h) ?_ ?_⟩
          · rintro i y σ H' hi ⟨v, rfl, hz, ma6, la6, gr6⟩
            obtain ⟨k, hk, rfl⟩ : ∃ k, (sortA s4.asks)[i]? = some k ∧ y = V.int k := by
              rw [List.getElem?_map] at hi
              obtain ⟨r, h1, h2⟩ := Option.map_eq_some_iff.mp hi
              exact ⟨r, h1, h2.symm⟩
            have hin : (keyA s4.asks k).isSome = true := keyA_some.mpr (sortA_mem.mp (List.mem_of_getElem? hk))
            obtain ⟨key, hkey⟩ := Option.isSome_iff_exists.mp hin
            obtain ⟨xs, hx, tx⟩ := la6
            walk_at "vv"
            refine ⟨n_lty hx, ?_⟩
            walk_at "vv"
            refine ⟨_, _, rfl, dg ma6.ob mF_log, ?_⟩
            walk_at "vv"
            refine ⟨_, _, rfl, dg ma6.ob mF_asks, ?_⟩
            walk_at "vv"
            refine ⟨x.d, .str key, rfl, ?_, ?_⟩
            · have := dgi (k := k) ma6.asks
              rw [show keyA s4.tellAll.asks k = some key from hkey] at this
              exact this
            walk_at "vv"
            refine ⟨x.l, s4.log, key, rfl, ma6.lst, ma6.rows, ?_⟩
            walk_at "vv"
            refine ⟨by show 3 ≤ sizeLine; decide, fun m hm => ?_⟩
            have t7 : Same H' (upd H' m (.tup [.str "worth", .int k, oi (lastW s4.log key)])) := Same.new hm
            walk_at "vv"
            have lx : xs.length = (writtenD s4 ++ (answersD s4).take i).length := by
              obtain ⟨xs2, _, e1, _, _, e2, _⟩ := LD.cat ⟨xs, hx, tx⟩ ⟨xs, hx, tx⟩
              rw [hx] at e1
              injection e1 with e1
              injection e1 with e1
              rw [e1]
              exact e2
            have i50 : i < 50 := by
              have := (List.getElem?_eq_some_iff.mp hk).1
              rw [sortA_len] at this
              omega
            have wl : (writtenD s4).length ≤ 1000 := by
              unfold writtenD
              rw [List.length_map, List.length_drop]
              omega
            refine ⟨a, xs, .ref m, rfl, rfl, t7 _ _ hx, ?_, ?_⟩
            · rw [lx, List.length_append, List.length_take]
              exact Nat.lt_of_le_of_lt (m := 1050) (by omega) (by decide)
            have fr8 : Fr [a] (upd H' m (.tup [.str "worth", .int k, oi (lastW s4.log key)])) (upd (upd H' m (.tup [.str "worth", .int k, oi (lastW s4.log key)])) a (.lst (xs ++ [.ref m]))) := Fr.upd (Fr.refl _) (by simp)
            have nt8 : NT (upd H' m (.tup [.str "worth", .int k, oi (lastW s4.log key)])) [a] := NT.cons (t7 _ _ hx) (by intro ys q; cases q) NT.nil
            have ma7 := ma6.same t7
            have neq : ∀ {q : Addr} {o : HO}, H q = some o → a ≠ q := fun h => (ne_of_none h fa0).symm
            obtain ⟨⟨o1, b1⟩, ⟨o2, b2⟩, ⟨o3, b3⟩, _, _⟩ := ma.there
            have nm := neq b1
            have nl := neq b2
            have ndd := neq b3
            walk_at "vv"
            refine ⟨some (.int k), rfl, by rw [upd_ne naz.symm]; exact t7 _ _ hz, ma7.fr fr8 nt8 (by simp [nm.symm]) (by simp [nl.symm]) (by simp [ndd.symm]) (by simp [nact.symm]) (by simp [nahl.symm]), ?_, ?_⟩
            · refine ⟨_, upd_same, ?_⟩
              have e1 : (answersD s4).take (i + 1) = (answersD s4).take i ++ [worthD k (lastW s4.log key)] := by
                have hk2 : (answersD s4)[i]? = some (worthD k (lastW s4.log key)) := by
                  unfold answersD
                  rw [List.getElem?_map, hk]
                  show some (worthD k (lastW s4.log ((keyA s4.asks k).getD Str.empty))) = _
                  rw [hkey]
                  rfl
                rw [List.take_add_one, hk2]
                rfl
              rw [e1, ← List.append_assoc]
              have tu : Tups H' (upd (upd H' m (.tup [.str "worth", .int k, oi (lastW s4.log key)])) a (.lst (xs ++ [.ref m]))) := (Tups.ofSame t7).trans (Fr.tups fr8 nt8)
              have nma : m ≠ a := fun e => by rw [e, hx] at hm; cases hm
              exact TDs.app (TDs.to tu tx) (.cons (.tup (by rw [upd_ne nma]; exact upd_same) (.cons (.str _) (.cons (.int _) (.cons (td_oi _ _) .nil)))) .nil)
            · have g7 := gr6.same t7
              refine ⟨Fr.less (p := a) ((g7.fr.mono fun q h => List.mem_cons_of_mem _ h).trans (fr8.mono fun q h => by rw [List.mem_singleton.mp h]; simp)) fa0, fun q hq => ?_⟩
              by_cases e : q = a
              · rw [e]; exact ⟨_, upd_same⟩
              · rw [upd_ne e]; exact g7.th q hq
          · rintro σ H' ⟨v, rfl, hz, ma6, la6, gr6⟩
            have eF : (answersD s4).take ((sortA s4.asks).map V.int).length = answersD s4 := by
              rw [List.length_map]
              refine List.take_of_length_le ?_
              unfold answersD
              rw [List.length_map]
              exact Nat.le_refl _
            rw [eF] at la6
            walk_at "vv"
            refine ⟨_, _, rfl, dg ma6.ob mF_asks, ?_⟩
            refine ⟨.inr (.inr (.inl ⟨rfl, .inl ⟨_, ma6.asks⟩⟩)), ?_⟩
            refine ⟨x.d, kvA s4.asks, rfl, rfl, ma6.asks, ?_⟩
            have ma7 := ma6.asked (l := [])
            have gr7 := gr6.upd (a := x.d) (o := .dK (kvA [])) (by simp)
            have nad : a ≠ x.d := by
              obtain ⟨xs, hx, _⟩ := la6
              exact ne_of hx ma6.asks (by intro z; cases z)
            have la7 : LD (upd H' x.d (.dK (kvA []))) a (writtenD s4 ++ answersD s4) := la6.to (by rw [upd_ne nad]) fun b zs e => by
              rw [upd_ne (fun q => by rw [q, ma6.asks] at e; cases e)]
              exact e
            have e0 : upd H' x.d (.dK []) = upd H' x.d (.dK (kvA [])) := rfl
            rw [e0]
            generalize upd H' x.d (.dK (kvA [])) = H7 at *
            walk_at "vv"
            refine ⟨⟨x.m, x.l, x.d, ct, hl⟩, _, c, rfl, ma7, ec4, okc, fun H8 g fg t8 lg => ?_⟩
            walk_at "vv"
            have nag : a ≠ g := by
              obtain ⟨xs, hx, _⟩ := la7
              exact ne_of_none hx fg
            exact fin _ hd _ _ _ (gr7.same t8) (ma7.same t8) (la7.same t8) lg nag fa0 (gr7.fresh fg)
    | false =>
      walk_at "vv"
      rw [bl_int]
      refine ⟨x.m, _, rfl, DPut.k (k := Sum.inr "ready") ma3.ob (by show 6 < _; decide), ?_⟩
      rw [mput_ready]
      rw [show decide (c.num = 1) = (s.taken c).ready by unfold HS.taken; rw [rdy0]; rfl]
      have ma4 : MA (upd H3 x.m (.dK (mF (ownV { s with ch := some c } ct) x.l s.told (s.taken c).ready x.d))) ⟨x.m, x.l, x.d, ct, hl⟩ (s.taken c) := ma3.setR (b := (s.taken c).ready)
      have gr4 : Gr [x.m, x.d] H (upd H3 x.m (.dK (mF (ownV { s with ch := some c } ct) x.l s.told (s.taken c).ready x.d))) := gr3.upd (by simp)
      generalize upd H3 x.m (.dK (mF (ownV { s with ch := some c } ct) x.l s.told (s.taken c).ready x.d)) = H4 at *
      have ec4 : (s.taken c).ch = some c := rfl
      have few4 : (s.taken c).asks.length ≤ 50 := ok.few
      have len4 : (s.taken c).log.length ≤ 1000 := by have := ok.len; show s.log.length ≤ 1000; omega
      have eL : s.log.length = (s.taken c).log.length := rfl
      rw [eL] at hd
      rw [show rowsD c = rowsD c from rfl] at hd
      have eA : askedD c s = askedD c (s.taken c) := rfl
      rw [eA] at hd
      have eG : s.log = (s.taken c).log := rfl
      rw [eG] at hd
      clear eL eA eG
      generalize s.taken c = s4 at *
      have fin : ∀ (r : Res), (∀ (H' : Hp) (v : V) (x' : MX), x'.m = x.m → x'.l = x.l → x'.d = x.d → (x'.cl = x.cl ∨ H x'.cl = none) → MA H' x' r.1 → Brought H H' v r.2.1 r.2.2 → Fr [x.m, x.d] H H' → Q v H') →
          ∀ (H5 : Hp) (a b : Addr), Gr [x.m, x.d] H H5 → MA H5 ⟨x.m, x.l, x.d, ct, hl⟩ r.1 → LD H5 a r.2.1 → LD H5 b r.2.2 → a ≠ b → H a = none → H b = none → [V.ref a, V.ref b].length ≤ sizeLine ∧ ∀ t, H5 t = none → Q (.ref t) (upd H5 t (.tup [.ref a, .ref b])) :=
        fun r k H5 a b g m la lb nab fa fb => pair_of g la lb nab fa fb fun H' v s' br => k H' v ⟨x.m, x.l, x.d, ct, hl⟩ rfl rfl rfl (.inr fhl) (m.same s') br (g.fr.trans (Fr.ofSame s'))
      walk_at "vv"
      refine ⟨_, _, rfl, dg ma4.ob mF_ready, ?_⟩
      cases rdy4 : s4.ready with
      | false =>
        rw [if_pos rdy4] at hd
        walk_at "vv"
        refine ⟨Nat.zero_le _, fun a fa => ?_⟩
        walk_at "vv"
        refine ⟨Nat.zero_le _, fun b fb => ?_⟩
        walk_at "vv"
        obtain ⟨z2, la, lb, nab, fa0, fb0⟩ := two0 gr4 fa fb
        exact fin _ hd _ _ _ (gr4.same z2) (ma4.same z2) la lb nab fa0 fb0
      | true =>
        rw [if_neg (by rw [rdy4]; simp)] at hd
        walk_at "vv"
        refine ⟨⟨x.m, x.l, x.d, ct, hl⟩, s4, c, rfl, ma4, ec4, okc, ?_⟩
        cases eb : c.bh with
        | some b =>
          rw [eb] at hd
          walk_at "vv"
          refine ⟨Nat.zero_le _, fun a fa => ?_⟩
          have t5 := Same.new (o := .lst []) fa
          walk_at "vv"
          refine ⟨⟨x.m, x.l, x.d, ct, hl⟩, s4, c, b, 1, rfl, ma4.same t5, ec4, okc, eb, by omega, len4, fun H6 v t6 dv => ?_⟩
          walk_at "vv"
          refine ⟨by show 1 ≤ sizeLine; decide, fun u fu => ?_⟩
          have t7 := Same.new (o := .lst [v]) fu
          walk_at "vv"
          refine ⟨⟨x.m, x.l, x.d, ct, hl⟩, s4, c, rfl, ma4.same (Same.trans t5 (Same.trans t6 t7)), ec4, okc, few4, fun H8 g fg t8 lg => ?_⟩
          have lu : LD H8 u [rowsD c b s4.log 1] := ⟨_, t8 _ _ upd_same, .cons (TD.to (Tups.ofSame (Same.trans t7 t8)) dv) .nil⟩
          obtain ⟨xs, ys, h1, h2, h3, h4, h5⟩ := lu.cat lg
          refine ⟨u, g, xs, ys, rfl, rfl, h1, h2, ?_, fun q fq => ?_⟩
          · rw [h4, h5]
            have e2 : (askedD c s4).length ≤ 50 := by unfold askedD; rw [List.length_map, sortA_len]; exact few4
            show 1 + (askedD c s4).length ≤ sizeLine
            exact Nat.le_trans (m := 51) (by omega) (by decide)
          have t9 : Same H8 (upd H8 q (.lst (xs ++ ys))) := Same.new fq
          have t58 := Same.trans t5 (Same.trans t6 (Same.trans t7 t8))
          have t59 := Same.trans t58 t9
          have ka8 := (Same.trans t6 (Same.trans t7 t8)) _ _ (upd_same (H := H4) (a := a) (o := .lst []))
          walk_at "vv"
          exact fin _ hd _ _ _ (gr4.same t59) (ma4.same t59) (.nil (t9 _ _ ka8)) ⟨_, upd_same, TDs.to (Tups.ofSame t9) h3⟩ (ne_of_none ka8 fq) (gr4.fresh fa) ((gr4.same t58).fresh fq)
        | none =>
          rw [eb] at hd
          walk_at "vv"
          refine ⟨⟨x.m, x.l, x.d, ct, hl⟩, s4, rfl, ma4, len4, fun H5 a fa f5 ma5 la => ?_⟩
          have gr5 : Gr [x.m, x.d] H H5 := gr4.more f5 (fun q m => by rw [List.mem_singleton.mp m]; simp) fun q hq => by rw [List.mem_singleton.mp hq]; exact ⟨_, ma5.ob⟩
          have fa0 := gr4.fresh fa
          obtain ⟨_, _, _, ⟨oct, bct⟩, ⟨ohl, bhl⟩⟩ := ma4.there
          have nact : a ≠ ct := (ne_of_none bct fa).symm
          have nahl : a ≠ hl := (ne_of_none bhl fa).symm
          walk_at "vv"
          refine ⟨_, _, rfl, dg ma5.ob mF_asks, ?_⟩
          walk_at "vv"
          refine ⟨x.d, kvA s4.asks, s4.asks.map (·.1), rfl, .inl ma5.asks, kvA_keys _, by rw [List.length_map]; omega, fun ys0 z pe so fz => ?_⟩
          rw [sortA_eq pe so]
          have t6 : Same H5 (upd H5 z (.lst ((sortA s4.asks).map V.int))) := Same.new fz
          have eT : answersD s4 = (sortA s4.asks).map fun k => worthD k (lastW s4.tellAll.log ((keyA s4.tellAll.asks k).getD Str.empty)) := rfl
          have naz : a ≠ z := by
            obtain ⟨xs, h1, _⟩ := la
            exact ne_of_none h1 fz
          walk_at "vv"
          refine ⟨z, rfl, ⟨_, SqL.of upd_same⟩, for_list (K := K) (a := z) (xs := (sortA s4.asks).map V.int) (fun i σ H' => ∃ v, σ = [some (.ref x.m), some (.int c.num), some (.ref na), some (.ref a), v] ∧ H' z = some (.lst ((sortA s4.asks).map V.int)) ∧ MA H' ⟨x.m, x.l, x.d, ct, hl⟩ s4.tellAll ∧ LD H' a (writtenD s4 ++ (answersD s4).take i) ∧ Gr [x.m, x.d] H H')
            ⟨none, rfl, upd_same, ma5.same t6, by rw [List.take_zero, List.append_nil]; exact la.same t6, gr5.same t6⟩ (fun i σ H' _ p => by obtain ⟨v, _, h, _⟩ := p; exact SqL.of h) ?_ ?_⟩
          · rintro i y σ H' hi ⟨v, rfl, hz, ma6, la6, gr6⟩
            obtain ⟨k, hk, rfl⟩ : ∃ k, (sortA s4.asks)[i]? = some k ∧ y = V.int k := by
              rw [List.getElem?_map] at hi
              obtain ⟨r, h1, h2⟩ := Option.map_eq_some_iff.mp hi
              exact ⟨r, h1, h2.symm⟩
            have hin : (keyA s4.asks k).isSome = true := keyA_some.mpr (sortA_mem.mp (List.mem_of_getElem? hk))
            obtain ⟨key, hkey⟩ := Option.isSome_iff_exists.mp hin
            obtain ⟨xs, hx, tx⟩ := la6
            walk_at "vv"
            refine ⟨n_lty hx, ?_⟩
            walk_at "vv"
            refine ⟨_, _, rfl, dg ma6.ob mF_log, ?_⟩
            walk_at "vv"
            refine ⟨_, _, rfl, dg ma6.ob mF_asks, ?_⟩
            walk_at "vv"
            refine ⟨x.d, .str key, rfl, ?_, ?_⟩
            · have := dgi (k := k) ma6.asks
              rw [show keyA s4.tellAll.asks k = some key from hkey] at this
              exact this
            walk_at "vv"
            refine ⟨x.l, s4.log, key, rfl, ma6.lst, ma6.rows, ?_⟩
            walk_at "vv"
            refine ⟨by show 3 ≤ sizeLine; decide, fun m hm => ?_⟩
            have t7 : Same H' (upd H' m (.tup [.str "worth", .int k, oi (lastW s4.log key)])) := Same.new hm
            walk_at "vv"
            have lx : xs.length = (writtenD s4 ++ (answersD s4).take i).length := by
              obtain ⟨xs2, _, e1, _, _, e2, _⟩ := LD.cat ⟨xs, hx, tx⟩ ⟨xs, hx, tx⟩
              rw [hx] at e1
              injection e1 with e1
              injection e1 with e1
              rw [e1]
              exact e2
            have i50 : i < 50 := by
              have := (List.getElem?_eq_some_iff.mp hk).1
              rw [sortA_len] at this
              omega
            have wl : (writtenD s4).length ≤ 1000 := by
              unfold writtenD
              rw [List.length_map, List.length_drop]
              omega
            refine ⟨a, xs, .ref m, rfl, rfl, t7 _ _ hx, ?_, ?_⟩
            · rw [lx, List.length_append, List.length_take]
              exact Nat.lt_of_le_of_lt (m := 1050) (by omega) (by decide)
            have fr8 : Fr [a] (upd H' m (.tup [.str "worth", .int k, oi (lastW s4.log key)])) (upd (upd H' m (.tup [.str "worth", .int k, oi (lastW s4.log key)])) a (.lst (xs ++ [.ref m]))) := Fr.upd (Fr.refl _) (by simp)
            have nt8 : NT (upd H' m (.tup [.str "worth", .int k, oi (lastW s4.log key)])) [a] := NT.cons (t7 _ _ hx) (by intro ys q; cases q) NT.nil
            have ma7 := ma6.same t7
            have neq : ∀ {q : Addr} {o : HO}, H q = some o → a ≠ q := fun h => (ne_of_none h fa0).symm
            obtain ⟨⟨o1, b1⟩, ⟨o2, b2⟩, ⟨o3, b3⟩, _, _⟩ := ma.there
            have nm := neq b1
            have nl := neq b2
            have ndd := neq b3
            walk_at "vv"
            refine ⟨some (.int k), rfl, by rw [upd_ne naz.symm]; exact t7 _ _ hz, ma7.fr fr8 nt8 (by simp [nm.symm]) (by simp [nl.symm]) (by simp [ndd.symm]) (by simp [nact.symm]) (by simp [nahl.symm]), ?_, ?_⟩
            · refine ⟨_, upd_same, ?_⟩
              have e1 : (answersD s4).take (i + 1) = (answersD s4).take i ++ [worthD k (lastW s4.log key)] := by
                have hk2 : (answersD s4)[i]? = some (worthD k (lastW s4.log key)) := by
                  unfold answersD
                  rw [List.getElem?_map, hk]
                  show some (worthD k (lastW s4.log ((keyA s4.asks k).getD Str.empty))) = _
                  rw [hkey]
                  rfl
                rw [List.take_add_one, hk2]
                rfl
              rw [e1, ← List.append_assoc]
              have tu : Tups H' (upd (upd H' m (.tup [.str "worth", .int k, oi (lastW s4.log key)])) a (.lst (xs ++ [.ref m]))) := (Tups.ofSame t7).trans (Fr.tups fr8 nt8)
              have nma : m ≠ a := fun e => by rw [e, hx] at hm; cases hm
              exact TDs.app (TDs.to tu tx) (.cons (.tup (by rw [upd_ne nma]; exact upd_same) (.cons (.str _) (.cons (.int _) (.cons (td_oi _ _) .nil)))) .nil)
            · have g7 := gr6.same t7
              refine ⟨Fr.less (p := a) ((g7.fr.mono fun q h => List.mem_cons_of_mem _ h).trans (fr8.mono fun q h => by rw [List.mem_singleton.mp h]; simp)) fa0, fun q hq => ?_⟩
              by_cases e : q = a
              · rw [e]; exact ⟨_, upd_same⟩
              · rw [upd_ne e]; exact g7.th q hq
          · rintro σ H' ⟨v, rfl, hz, ma6, la6, gr6⟩
            have eF : (answersD s4).take ((sortA s4.asks).map V.int).length = answersD s4 := by
              rw [List.length_map]
              refine List.take_of_length_le ?_
              unfold answersD
              rw [List.length_map]
              exact Nat.le_refl _
            rw [eF] at la6
            walk_at "vv"
            refine ⟨_, _, rfl, dg ma6.ob mF_asks, ?_⟩
            refine ⟨.inr (.inr (.inl ⟨rfl, .inl ⟨_, ma6.asks⟩⟩)), ?_⟩
            refine ⟨x.d, kvA s4.asks, rfl, rfl, ma6.asks, ?_⟩
            have ma7 := ma6.asked (l := [])
            have gr7 := gr6.upd (a := x.d) (o := .dK (kvA [])) (by simp)
            have nad : a ≠ x.d := by
              obtain ⟨xs, hx, _⟩ := la6
              exact ne_of hx ma6.asks (by intro z; cases z)
            have la7 : LD (upd H' x.d (.dK (kvA []))) a (writtenD s4 ++ answersD s4) := la6.to (by rw [upd_ne nad]) fun b zs e => by
              rw [upd_ne (fun q => by rw [q, ma6.asks] at e; cases e)]
              exact e
            have e0 : upd H' x.d (.dK []) = upd H' x.d (.dK (kvA [])) := rfl
            rw [e0]
            generalize upd H' x.d (.dK (kvA [])) = H7 at *
            walk_at "vv"
            refine ⟨⟨x.m, x.l, x.d, ct, hl⟩, _, c, rfl, ma7, ec4, okc, fun H8 g fg t8 lg => ?_⟩
            walk_at "vv"
            have nag : a ≠ g := by
              obtain ⟨xs, hx, _⟩ := la7
              exact ne_of_none hx fg
            exact fin _ hd _ _ _ (gr7.same t8) (ma7.same t8) (la7.same t8) lg nag fa0 (gr7.fresh fg)
  | some c0 =>
    obtain ⟨hct, hcl⟩ := ma.chain ec
    have ob := ma.obC ec
    rw [MA.own ec]
    walk_at "vv"
    refine ⟨_, _, rfl, dg ob mF_chain, ?_⟩
    walk_at "vv"
    refine n_ixT (SqT.of hct) rfl ?_
    walk_at "vv"
    by_cases le : c.num ≤ c0.num
    · have el : s.elder c.num = true := by unfold HS.elder; rw [ec]; exact decide_eq_true le
      refine n_iT (decide_eq_true le) ?_
      walk_at "vv"
      refine ⟨Nat.zero_le _, fun a fa => ?_⟩
      walk_at "vv"
      refine ⟨Nat.zero_le _, fun b fb => ?_⟩
      walk_at "vv"
      have gr : Gr [] H H := Gr.ofSame (Same.refl H)
      obtain ⟨z2, la, lb, nab, fa0, fb0⟩ := two0 gr fa fb
      exact pair_of (gr.same z2) la lb nab fa0 fb0 fun H' v s' br => hdE el H' v (ma.same (Same.trans z2 s')) br (Fr.ofSame (Same.trans z2 s'))
    · have el : ¬ s.elder c.num = true := by unfold HS.elder; rw [ec]; simp only [decide_eq_true_eq]; exact le
      rw [if_neg el] at hd
      refine n_iF (decide_eq_false le) ?_
      walk_at "vv"
      refine ⟨na, _, rfl, .inl (SqL.of hna), fun hl fhl => ?_⟩
      have t1 : Same H (upd H hl (.lst (c.all.map V.str))) := Same.new fhl
      walk_at "vv"
      refine ⟨by show 2 ≤ sizeLine; decide, fun ct fct => ?_⟩
      have t2 := Same.new (o := .tup [.int c.num, .ref hl]) fct
      have t12 := Same.trans t1 t2
      have nhc : hl ≠ ct := ne_of_none upd_same fct
      have ma2 := ma.same t12
      have khl := t2 _ _ (upd_same (H := H) (a := hl) (o := .lst (c.all.map V.str)))
      have kct : upd (upd H hl (.lst (c.all.map V.str))) ct (.tup [.int c.num, .ref hl]) ct = some (.tup [.int c.num, .ref hl]) := upd_same
      generalize upd (upd H hl (.lst (c.all.map V.str))) ct (.tup [.int c.num, .ref hl]) = H2 at *
      walk_at "vv"
      refine ⟨x.m, _, rfl, DPut.k (k := Sum.inr "chain") ma2.ob (by show 6 < _; decide), ?_⟩
      rw [mput_chain]
      have fr3 : Fr [x.m] H2 (upd H2 x.m (.dK (mF (.ref ct) x.l s.told s.ready x.d))) := Fr.upd (Fr.refl _) (by simp)
      have ma3 : MA (upd H2 x.m (.dK (mF (.ref ct) x.l s.told s.ready x.d))) ⟨x.m, x.l, x.d, ct, hl⟩ { s with ch := some c } :=
        ma2.put (s' := { s with ch := some c }) (ct := ct) (cl := hl) fr3 upd_same rfl rfl ⟨kct, khl⟩
      have gr3 : Gr [x.m, x.d] H (upd H2 x.m (.dK (mF (.ref ct) x.l s.told s.ready x.d))) :=
        ⟨(Fr.ofSame t12).trans (fr3.mono fun q m => by rw [List.mem_singleton.mp m]; simp), fun q hq => by
          rcases List.mem_cons.mp hq with e | e
          · rw [e]; exact ⟨_, upd_same⟩
          · rw [List.mem_singleton.mp e]; exact ⟨_, ma3.asks⟩⟩
      generalize upd H2 x.m (.dK (mF (.ref ct) x.l s.told s.ready x.d)) = H3 at *
      walk_at "vv"
      refine ⟨_, _, rfl, dg ma3.ob mF_ready, ?_⟩
      cases rdy0 : s.ready with
      | true =>
        have et : (s.taken c).ready = true := by unfold HS.taken; rw [rdy0]; rfl
        walk_at "vv"
        refine ⟨x.m, _, rfl, DPut.k (k := Sum.inr "ready") ma3.ob (by show 6 < _; decide), ?_⟩
        rw [mput_ready]
        rw [← et]
        have ma4 : MA (upd H3 x.m (.dK (mF (ownV { s with ch := some c } ct) x.l s.told (s.taken c).ready x.d))) ⟨x.m, x.l, x.d, ct, hl⟩ (s.taken c) := ma3.setR (b := (s.taken c).ready)
        have gr4 : Gr [x.m, x.d] H (upd H3 x.m (.dK (mF (ownV { s with ch := some c } ct) x.l s.told (s.taken c).ready x.d))) := gr3.upd (by simp)
        generalize upd H3 x.m (.dK (mF (ownV { s with ch := some c } ct) x.l s.told (s.taken c).ready x.d)) = H4 at *
        have ec4 : (s.taken c).ch = some c := rfl
        have few4 : (s.taken c).asks.length ≤ 50 := ok.few
        have len4 : (s.taken c).log.length ≤ 1000 := by have := ok.len; show s.log.length ≤ 1000; omega
        have eL : s.log.length = (s.taken c).log.length := rfl
        rw [eL] at hd
        rw [show rowsD c = rowsD c from rfl] at hd
        have eA : askedD c s = askedD c (s.taken c) := rfl
        rw [eA] at hd
        have eG : s.log = (s.taken c).log := rfl
        rw [eG] at hd
        clear eL eA eG
        generalize s.taken c = s4 at *
        have fin : ∀ (r : Res), (∀ (H' : Hp) (v : V) (x' : MX), x'.m = x.m → x'.l = x.l → x'.d = x.d → (x'.cl = x.cl ∨ H x'.cl = none) → MA H' x' r.1 → Brought H H' v r.2.1 r.2.2 → Fr [x.m, x.d] H H' → Q v H') →
            ∀ (H5 : Hp) (a b : Addr), Gr [x.m, x.d] H H5 → MA H5 ⟨x.m, x.l, x.d, ct, hl⟩ r.1 → LD H5 a r.2.1 → LD H5 b r.2.2 → a ≠ b → H a = none → H b = none → [V.ref a, V.ref b].length ≤ sizeLine ∧ ∀ t, H5 t = none → Q (.ref t) (upd H5 t (.tup [.ref a, .ref b])) :=
          fun r k H5 a b g m la lb nab fa fb => pair_of g la lb nab fa fb fun H' v s' br => k H' v ⟨x.m, x.l, x.d, ct, hl⟩ rfl rfl rfl (.inr fhl) (m.same s') br (g.fr.trans (Fr.ofSame s'))
        walk_at "vv"
        refine ⟨_, _, rfl, dg ma4.ob mF_ready, ?_⟩
        cases rdy4 : s4.ready with
        | false =>
          rw [if_pos rdy4] at hd
          walk_at "vv"
          refine ⟨Nat.zero_le _, fun a fa => ?_⟩
          walk_at "vv"
          refine ⟨Nat.zero_le _, fun b fb => ?_⟩
          walk_at "vv"
          obtain ⟨z2, la, lb, nab, fa0, fb0⟩ := two0 gr4 fa fb
          exact fin _ hd _ _ _ (gr4.same z2) (ma4.same z2) la lb nab fa0 fb0
        | true =>
          rw [if_neg (by rw [rdy4]; simp)] at hd
          walk_at "vv"
          refine ⟨⟨x.m, x.l, x.d, ct, hl⟩, s4, c, rfl, ma4, ec4, okc, ?_⟩
          cases eb : c.bh with
          | some b =>
            rw [eb] at hd
            walk_at "vv"
            refine ⟨Nat.zero_le _, fun a fa => ?_⟩
            have t5 := Same.new (o := .lst []) fa
            walk_at "vv"
            refine ⟨⟨x.m, x.l, x.d, ct, hl⟩, s4, c, b, 1, rfl, ma4.same t5, ec4, okc, eb, by omega, len4, fun H6 v t6 dv => ?_⟩
            walk_at "vv"
            refine ⟨by show 1 ≤ sizeLine; decide, fun u fu => ?_⟩
            have t7 := Same.new (o := .lst [v]) fu
            walk_at "vv"
            refine ⟨⟨x.m, x.l, x.d, ct, hl⟩, s4, c, rfl, ma4.same (Same.trans t5 (Same.trans t6 t7)), ec4, okc, few4, fun H8 g fg t8 lg => ?_⟩
            have lu : LD H8 u [rowsD c b s4.log 1] := ⟨_, t8 _ _ upd_same, .cons (TD.to (Tups.ofSame (Same.trans t7 t8)) dv) .nil⟩
            obtain ⟨xs, ys, h1, h2, h3, h4, h5⟩ := lu.cat lg
            refine ⟨u, g, xs, ys, rfl, rfl, h1, h2, ?_, fun q fq => ?_⟩
            · rw [h4, h5]
              have e2 : (askedD c s4).length ≤ 50 := by unfold askedD; rw [List.length_map, sortA_len]; exact few4
              show 1 + (askedD c s4).length ≤ sizeLine
              exact Nat.le_trans (m := 51) (by omega) (by decide)
            have t9 : Same H8 (upd H8 q (.lst (xs ++ ys))) := Same.new fq
            have t58 := Same.trans t5 (Same.trans t6 (Same.trans t7 t8))
            have t59 := Same.trans t58 t9
            have ka8 := (Same.trans t6 (Same.trans t7 t8)) _ _ (upd_same (H := H4) (a := a) (o := .lst []))
            walk_at "vv"
            exact fin _ hd _ _ _ (gr4.same t59) (ma4.same t59) (.nil (t9 _ _ ka8)) ⟨_, upd_same, TDs.to (Tups.ofSame t9) h3⟩ (ne_of_none ka8 fq) (gr4.fresh fa) ((gr4.same t58).fresh fq)
          | none =>
            rw [eb] at hd
            walk_at "vv"
            refine ⟨⟨x.m, x.l, x.d, ct, hl⟩, s4, rfl, ma4, len4, fun H5 a fa f5 ma5 la => ?_⟩
            have gr5 : Gr [x.m, x.d] H H5 := gr4.more f5 (fun q m => by rw [List.mem_singleton.mp m]; simp) fun q hq => by rw [List.mem_singleton.mp hq]; exact ⟨_, ma5.ob⟩
            have fa0 := gr4.fresh fa
            obtain ⟨_, _, _, ⟨oct, bct⟩, ⟨ohl, bhl⟩⟩ := ma4.there
            have nact : a ≠ ct := (ne_of_none bct fa).symm
            have nahl : a ≠ hl := (ne_of_none bhl fa).symm
            walk_at "vv"
            refine ⟨_, _, rfl, dg ma5.ob mF_asks, ?_⟩
            walk_at "vv"
            refine ⟨x.d, kvA s4.asks, s4.asks.map (·.1), rfl, .inl ma5.asks, kvA_keys _, by rw [List.length_map]; omega, fun ys0 z pe so fz => ?_⟩
            rw [sortA_eq pe so]
            have t6 : Same H5 (upd H5 z (.lst ((sortA s4.asks).map V.int))) := Same.new fz
            have eT : answersD s4 = (sortA s4.asks).map fun k => worthD k (lastW s4.tellAll.log ((keyA s4.tellAll.asks k).getD Str.empty)) := rfl
            have naz : a ≠ z := by
              obtain ⟨xs, h1, _⟩ := la
              exact ne_of_none h1 fz
            walk_at "vv"
            refine ⟨z, rfl, ⟨_, SqL.of upd_same⟩, for_list (K := K) (a := z) (xs := (sortA s4.asks).map V.int) (fun i σ H' => ∃ v, σ = [some (.ref x.m), some (.int c.num), some (.ref na), some (.ref a), v] ∧ H' z = some (.lst ((sortA s4.asks).map V.int)) ∧ MA H' ⟨x.m, x.l, x.d, ct, hl⟩ s4.tellAll ∧ LD H' a (writtenD s4 ++ (answersD s4).take i) ∧ Gr [x.m, x.d] H H')
              ⟨none, rfl, upd_same, ma5.same t6, by rw [List.take_zero, List.append_nil]; exact la.same t6, gr5.same t6⟩ (fun i σ H' _ p => by obtain ⟨v, _, h, _⟩ := p; exact SqL.of h) ?_ ?_⟩
            · rintro i y σ H' hi ⟨v, rfl, hz, ma6, la6, gr6⟩
              obtain ⟨k, hk, rfl⟩ : ∃ k, (sortA s4.asks)[i]? = some k ∧ y = V.int k := by
                rw [List.getElem?_map] at hi
                obtain ⟨r, h1, h2⟩ := Option.map_eq_some_iff.mp hi
                exact ⟨r, h1, h2.symm⟩
              have hin : (keyA s4.asks k).isSome = true := keyA_some.mpr (sortA_mem.mp (List.mem_of_getElem? hk))
              obtain ⟨key, hkey⟩ := Option.isSome_iff_exists.mp hin
              obtain ⟨xs, hx, tx⟩ := la6
              walk_at "vv"
              refine ⟨n_lty hx, ?_⟩
              walk_at "vv"
              refine ⟨_, _, rfl, dg ma6.ob mF_log, ?_⟩
              walk_at "vv"
              refine ⟨_, _, rfl, dg ma6.ob mF_asks, ?_⟩
              walk_at "vv"
              refine ⟨x.d, .str key, rfl, ?_, ?_⟩
              · have := dgi (k := k) ma6.asks
                rw [show keyA s4.tellAll.asks k = some key from hkey] at this
                exact this
              walk_at "vv"
              refine ⟨x.l, s4.log, key, rfl, ma6.lst, ma6.rows, ?_⟩
              walk_at "vv"
              refine ⟨by show 3 ≤ sizeLine; decide, fun m hm => ?_⟩
              have t7 : Same H' (upd H' m (.tup [.str "worth", .int k, oi (lastW s4.log key)])) := Same.new hm
              walk_at "vv"
              have lx : xs.length = (writtenD s4 ++ (answersD s4).take i).length := by
                obtain ⟨xs2, _, e1, _, _, e2, _⟩ := LD.cat ⟨xs, hx, tx⟩ ⟨xs, hx, tx⟩
                rw [hx] at e1
                injection e1 with e1
                injection e1 with e1
                rw [e1]
                exact e2
              have i50 : i < 50 := by
                have := (List.getElem?_eq_some_iff.mp hk).1
                rw [sortA_len] at this
                omega
              have wl : (writtenD s4).length ≤ 1000 := by
                unfold writtenD
                rw [List.length_map, List.length_drop]
                omega
              refine ⟨a, xs, .ref m, rfl, rfl, t7 _ _ hx, ?_, ?_⟩
              · rw [lx, List.length_append, List.length_take]
                exact Nat.lt_of_le_of_lt (m := 1050) (by omega) (by decide)
              have fr8 : Fr [a] (upd H' m (.tup [.str "worth", .int k, oi (lastW s4.log key)])) (upd (upd H' m (.tup [.str "worth", .int k, oi (lastW s4.log key)])) a (.lst (xs ++ [.ref m]))) := Fr.upd (Fr.refl _) (by simp)
              have nt8 : NT (upd H' m (.tup [.str "worth", .int k, oi (lastW s4.log key)])) [a] := NT.cons (t7 _ _ hx) (by intro ys q; cases q) NT.nil
              have ma7 := ma6.same t7
              have neq : ∀ {q : Addr} {o : HO}, H q = some o → a ≠ q := fun h => (ne_of_none h fa0).symm
              obtain ⟨⟨o1, b1⟩, ⟨o2, b2⟩, ⟨o3, b3⟩, _, _⟩ := ma.there
              have nm := neq b1
              have nl := neq b2
              have ndd := neq b3
              walk_at "vv"
              refine ⟨some (.int k), rfl, by rw [upd_ne naz.symm]; exact t7 _ _ hz, ma7.fr fr8 nt8 (by simp [nm.symm]) (by simp [nl.symm]) (by simp [ndd.symm]) (by simp [nact.symm]) (by simp [nahl.symm]), ?_, ?_⟩
              · refine ⟨_, upd_same, ?_⟩
                have e1 : (answersD s4).take (i + 1) = (answersD s4).take i ++ [worthD k (lastW s4.log key)] := by
                  have hk2 : (answersD s4)[i]? = some (worthD k (lastW s4.log key)) := by
                    unfold answersD
                    rw [List.getElem?_map, hk]
                    show some (worthD k (lastW s4.log ((keyA s4.asks k).getD Str.empty))) = _
                    rw [hkey]
                    rfl
                  rw [List.take_add_one, hk2]
                  rfl
                rw [e1, ← List.append_assoc]
                have tu : Tups H' (upd (upd H' m (.tup [.str "worth", .int k, oi (lastW s4.log key)])) a (.lst (xs ++ [.ref m]))) := (Tups.ofSame t7).trans (Fr.tups fr8 nt8)
                have nma : m ≠ a := fun e => by rw [e, hx] at hm; cases hm
                exact TDs.app (TDs.to tu tx) (.cons (.tup (by rw [upd_ne nma]; exact upd_same) (.cons (.str _) (.cons (.int _) (.cons (td_oi _ _) .nil)))) .nil)
              · have g7 := gr6.same t7
                refine ⟨Fr.less (p := a) ((g7.fr.mono fun q h => List.mem_cons_of_mem _ h).trans (fr8.mono fun q h => by rw [List.mem_singleton.mp h]; simp)) fa0, fun q hq => ?_⟩
                by_cases e : q = a
                · rw [e]; exact ⟨_, upd_same⟩
                · rw [upd_ne e]; exact g7.th q hq
            · rintro σ H' ⟨v, rfl, hz, ma6, la6, gr6⟩
              have eF : (answersD s4).take ((sortA s4.asks).map V.int).length = answersD s4 := by
                rw [List.length_map]
                refine List.take_of_length_le ?_
                unfold answersD
                rw [List.length_map]
                exact Nat.le_refl _
              rw [eF] at la6
              walk_at "vv"
              refine ⟨_, _, rfl, dg ma6.ob mF_asks, ?_⟩
              refine ⟨.inr (.inr (.inl ⟨rfl, .inl ⟨_, ma6.asks⟩⟩)), ?_⟩
              refine ⟨x.d, kvA s4.asks, rfl, rfl, ma6.asks, ?_⟩
              have ma7 := ma6.asked (l := [])
              have gr7 := gr6.upd (a := x.d) (o := .dK (kvA [])) (by simp)
              have nad : a ≠ x.d := by
                obtain ⟨xs, hx, _⟩ := la6
                exact ne_of hx ma6.asks (by intro z; cases z)
              have la7 : LD (upd H' x.d (.dK (kvA []))) a (writtenD s4 ++ answersD s4) := la6.to (by rw [upd_ne nad]) fun b zs e => by
                rw [upd_ne (fun q => by rw [q, ma6.asks] at e; cases e)]
                exact e
              have e0 : upd H' x.d (.dK []) = upd H' x.d (.dK (kvA [])) := rfl
              rw [e0]
              generalize upd H' x.d (.dK (kvA [])) = H7 at *
              walk_at "vv"
              refine ⟨⟨x.m, x.l, x.d, ct, hl⟩, _, c, rfl, ma7, ec4, okc, fun H8 g fg t8 lg => ?_⟩
              walk_at "vv"
              have nag : a ≠ g := by
                obtain ⟨xs, hx, _⟩ := la7
                exact ne_of_none hx fg
              exact fin _ hd _ _ _ (gr7.same t8) (ma7.same t8) (la7.same t8) lg nag fa0 (gr7.fresh fg)
      | false =>
        walk_at "vv"
        rw [bl_int]
        refine ⟨x.m, _, rfl, DPut.k (k := Sum.inr "ready") ma3.ob (by show 6 < _; decide), ?_⟩
        rw [mput_ready]
        rw [show decide (c.num = 1) = (s.taken c).ready by unfold HS.taken; rw [rdy0]; rfl]
        have ma4 : MA (upd H3 x.m (.dK (mF (ownV { s with ch := some c } ct) x.l s.told (s.taken c).ready x.d))) ⟨x.m, x.l, x.d, ct, hl⟩ (s.taken c) := ma3.setR (b := (s.taken c).ready)
        have gr4 : Gr [x.m, x.d] H (upd H3 x.m (.dK (mF (ownV { s with ch := some c } ct) x.l s.told (s.taken c).ready x.d))) := gr3.upd (by simp)
        generalize upd H3 x.m (.dK (mF (ownV { s with ch := some c } ct) x.l s.told (s.taken c).ready x.d)) = H4 at *
        have ec4 : (s.taken c).ch = some c := rfl
        have few4 : (s.taken c).asks.length ≤ 50 := ok.few
        have len4 : (s.taken c).log.length ≤ 1000 := by have := ok.len; show s.log.length ≤ 1000; omega
        have eL : s.log.length = (s.taken c).log.length := rfl
        rw [eL] at hd
        rw [show rowsD c = rowsD c from rfl] at hd
        have eA : askedD c s = askedD c (s.taken c) := rfl
        rw [eA] at hd
        have eG : s.log = (s.taken c).log := rfl
        rw [eG] at hd
        clear eL eA eG
        generalize s.taken c = s4 at *
        have fin : ∀ (r : Res), (∀ (H' : Hp) (v : V) (x' : MX), x'.m = x.m → x'.l = x.l → x'.d = x.d → (x'.cl = x.cl ∨ H x'.cl = none) → MA H' x' r.1 → Brought H H' v r.2.1 r.2.2 → Fr [x.m, x.d] H H' → Q v H') →
            ∀ (H5 : Hp) (a b : Addr), Gr [x.m, x.d] H H5 → MA H5 ⟨x.m, x.l, x.d, ct, hl⟩ r.1 → LD H5 a r.2.1 → LD H5 b r.2.2 → a ≠ b → H a = none → H b = none → [V.ref a, V.ref b].length ≤ sizeLine ∧ ∀ t, H5 t = none → Q (.ref t) (upd H5 t (.tup [.ref a, .ref b])) :=
          fun r k H5 a b g m la lb nab fa fb => pair_of g la lb nab fa fb fun H' v s' br => k H' v ⟨x.m, x.l, x.d, ct, hl⟩ rfl rfl rfl (.inr fhl) (m.same s') br (g.fr.trans (Fr.ofSame s'))
        walk_at "vv"
        refine ⟨_, _, rfl, dg ma4.ob mF_ready, ?_⟩
        cases rdy4 : s4.ready with
        | false =>
          rw [if_pos rdy4] at hd
          walk_at "vv"
          refine ⟨Nat.zero_le _, fun a fa => ?_⟩
          walk_at "vv"
          refine ⟨Nat.zero_le _, fun b fb => ?_⟩
          walk_at "vv"
          obtain ⟨z2, la, lb, nab, fa0, fb0⟩ := two0 gr4 fa fb
          exact fin _ hd _ _ _ (gr4.same z2) (ma4.same z2) la lb nab fa0 fb0
        | true =>
          rw [if_neg (by rw [rdy4]; simp)] at hd
          walk_at "vv"
          refine ⟨⟨x.m, x.l, x.d, ct, hl⟩, s4, c, rfl, ma4, ec4, okc, ?_⟩
          cases eb : c.bh with
          | some b =>
            rw [eb] at hd
            walk_at "vv"
            refine ⟨Nat.zero_le _, fun a fa => ?_⟩
            have t5 := Same.new (o := .lst []) fa
            walk_at "vv"
            refine ⟨⟨x.m, x.l, x.d, ct, hl⟩, s4, c, b, 1, rfl, ma4.same t5, ec4, okc, eb, by omega, len4, fun H6 v t6 dv => ?_⟩
            walk_at "vv"
            refine ⟨by show 1 ≤ sizeLine; decide, fun u fu => ?_⟩
            have t7 := Same.new (o := .lst [v]) fu
            walk_at "vv"
            refine ⟨⟨x.m, x.l, x.d, ct, hl⟩, s4, c, rfl, ma4.same (Same.trans t5 (Same.trans t6 t7)), ec4, okc, few4, fun H8 g fg t8 lg => ?_⟩
            have lu : LD H8 u [rowsD c b s4.log 1] := ⟨_, t8 _ _ upd_same, .cons (TD.to (Tups.ofSame (Same.trans t7 t8)) dv) .nil⟩
            obtain ⟨xs, ys, h1, h2, h3, h4, h5⟩ := lu.cat lg
            refine ⟨u, g, xs, ys, rfl, rfl, h1, h2, ?_, fun q fq => ?_⟩
            · rw [h4, h5]
              have e2 : (askedD c s4).length ≤ 50 := by unfold askedD; rw [List.length_map, sortA_len]; exact few4
              show 1 + (askedD c s4).length ≤ sizeLine
              exact Nat.le_trans (m := 51) (by omega) (by decide)
            have t9 : Same H8 (upd H8 q (.lst (xs ++ ys))) := Same.new fq
            have t58 := Same.trans t5 (Same.trans t6 (Same.trans t7 t8))
            have t59 := Same.trans t58 t9
            have ka8 := (Same.trans t6 (Same.trans t7 t8)) _ _ (upd_same (H := H4) (a := a) (o := .lst []))
            walk_at "vv"
            exact fin _ hd _ _ _ (gr4.same t59) (ma4.same t59) (.nil (t9 _ _ ka8)) ⟨_, upd_same, TDs.to (Tups.ofSame t9) h3⟩ (ne_of_none ka8 fq) (gr4.fresh fa) ((gr4.same t58).fresh fq)
          | none =>
            rw [eb] at hd
            walk_at "vv"
            refine ⟨⟨x.m, x.l, x.d, ct, hl⟩, s4, rfl, ma4, len4, fun H5 a fa f5 ma5 la => ?_⟩
            have gr5 : Gr [x.m, x.d] H H5 := gr4.more f5 (fun q m => by rw [List.mem_singleton.mp m]; simp) fun q hq => by rw [List.mem_singleton.mp hq]; exact ⟨_, ma5.ob⟩
            have fa0 := gr4.fresh fa
            obtain ⟨_, _, _, ⟨oct, bct⟩, ⟨ohl, bhl⟩⟩ := ma4.there
            have nact : a ≠ ct := (ne_of_none bct fa).symm
            have nahl : a ≠ hl := (ne_of_none bhl fa).symm
            walk_at "vv"
            refine ⟨_, _, rfl, dg ma5.ob mF_asks, ?_⟩
            walk_at "vv"
            refine ⟨x.d, kvA s4.asks, s4.asks.map (·.1), rfl, .inl ma5.asks, kvA_keys _, by rw [List.length_map]; omega, fun ys0 z pe so fz => ?_⟩
            rw [sortA_eq pe so]
            have t6 : Same H5 (upd H5 z (.lst ((sortA s4.asks).map V.int))) := Same.new fz
            have eT : answersD s4 = (sortA s4.asks).map fun k => worthD k (lastW s4.tellAll.log ((keyA s4.tellAll.asks k).getD Str.empty)) := rfl
            have naz : a ≠ z := by
              obtain ⟨xs, h1, _⟩ := la
              exact ne_of_none h1 fz
            walk_at "vv"
            refine ⟨z, rfl, ⟨_, SqL.of upd_same⟩, for_list (K := K) (a := z) (xs := (sortA s4.asks).map V.int) (fun i σ H' => ∃ v, σ = [some (.ref x.m), some (.int c.num), some (.ref na), some (.ref a), v] ∧ H' z = some (.lst ((sortA s4.asks).map V.int)) ∧ MA H' ⟨x.m, x.l, x.d, ct, hl⟩ s4.tellAll ∧ LD H' a (writtenD s4 ++ (answersD s4).take i) ∧ Gr [x.m, x.d] H H')
              ⟨none, rfl, upd_same, ma5.same t6, by rw [List.take_zero, List.append_nil]; exact la.same t6, gr5.same t6⟩ (fun i σ H' _ p => by obtain ⟨v, _, h, _⟩ := p; exact SqL.of h) ?_ ?_⟩
            · rintro i y σ H' hi ⟨v, rfl, hz, ma6, la6, gr6⟩
              obtain ⟨k, hk, rfl⟩ : ∃ k, (sortA s4.asks)[i]? = some k ∧ y = V.int k := by
                rw [List.getElem?_map] at hi
                obtain ⟨r, h1, h2⟩ := Option.map_eq_some_iff.mp hi
                exact ⟨r, h1, h2.symm⟩
              have hin : (keyA s4.asks k).isSome = true := keyA_some.mpr (sortA_mem.mp (List.mem_of_getElem? hk))
              obtain ⟨key, hkey⟩ := Option.isSome_iff_exists.mp hin
              obtain ⟨xs, hx, tx⟩ := la6
              walk_at "vv"
              refine ⟨n_lty hx, ?_⟩
              walk_at "vv"
              refine ⟨_, _, rfl, dg ma6.ob mF_log, ?_⟩
              walk_at "vv"
              refine ⟨_, _, rfl, dg ma6.ob mF_asks, ?_⟩
              walk_at "vv"
              refine ⟨x.d, .str key, rfl, ?_, ?_⟩
              · have := dgi (k := k) ma6.asks
                rw [show keyA s4.tellAll.asks k = some key from hkey] at this
                exact this
              walk_at "vv"
              refine ⟨x.l, s4.log, key, rfl, ma6.lst, ma6.rows, ?_⟩
              walk_at "vv"
              refine ⟨by show 3 ≤ sizeLine; decide, fun m hm => ?_⟩
              have t7 : Same H' (upd H' m (.tup [.str "worth", .int k, oi (lastW s4.log key)])) := Same.new hm
              walk_at "vv"
              have lx : xs.length = (writtenD s4 ++ (answersD s4).take i).length := by
                obtain ⟨xs2, _, e1, _, _, e2, _⟩ := LD.cat ⟨xs, hx, tx⟩ ⟨xs, hx, tx⟩
                rw [hx] at e1
                injection e1 with e1
                injection e1 with e1
                rw [e1]
                exact e2
              have i50 : i < 50 := by
                have := (List.getElem?_eq_some_iff.mp hk).1
                rw [sortA_len] at this
                omega
              have wl : (writtenD s4).length ≤ 1000 := by
                unfold writtenD
                rw [List.length_map, List.length_drop]
                omega
              refine ⟨a, xs, .ref m, rfl, rfl, t7 _ _ hx, ?_, ?_⟩
              · rw [lx, List.length_append, List.length_take]
                exact Nat.lt_of_le_of_lt (m := 1050) (by omega) (by decide)
              have fr8 : Fr [a] (upd H' m (.tup [.str "worth", .int k, oi (lastW s4.log key)])) (upd (upd H' m (.tup [.str "worth", .int k, oi (lastW s4.log key)])) a (.lst (xs ++ [.ref m]))) := Fr.upd (Fr.refl _) (by simp)
              have nt8 : NT (upd H' m (.tup [.str "worth", .int k, oi (lastW s4.log key)])) [a] := NT.cons (t7 _ _ hx) (by intro ys q; cases q) NT.nil
              have ma7 := ma6.same t7
              have neq : ∀ {q : Addr} {o : HO}, H q = some o → a ≠ q := fun h => (ne_of_none h fa0).symm
              obtain ⟨⟨o1, b1⟩, ⟨o2, b2⟩, ⟨o3, b3⟩, _, _⟩ := ma.there
              have nm := neq b1
              have nl := neq b2
              have ndd := neq b3
              walk_at "vv"
              refine ⟨some (.int k), rfl, by rw [upd_ne naz.symm]; exact t7 _ _ hz, ma7.fr fr8 nt8 (by simp [nm.symm]) (by simp [nl.symm]) (by simp [ndd.symm]) (by simp [nact.symm]) (by simp [nahl.symm]), ?_, ?_⟩
              · refine ⟨_, upd_same, ?_⟩
                have e1 : (answersD s4).take (i + 1) = (answersD s4).take i ++ [worthD k (lastW s4.log key)] := by
                  have hk2 : (answersD s4)[i]? = some (worthD k (lastW s4.log key)) := by
                    unfold answersD
                    rw [List.getElem?_map, hk]
                    show some (worthD k (lastW s4.log ((keyA s4.asks k).getD Str.empty))) = _
                    rw [hkey]
                    rfl
                  rw [List.take_add_one, hk2]
                  rfl
                rw [e1, ← List.append_assoc]
                have tu : Tups H' (upd (upd H' m (.tup [.str "worth", .int k, oi (lastW s4.log key)])) a (.lst (xs ++ [.ref m]))) := (Tups.ofSame t7).trans (Fr.tups fr8 nt8)
                have nma : m ≠ a := fun e => by rw [e, hx] at hm; cases hm
                exact TDs.app (TDs.to tu tx) (.cons (.tup (by rw [upd_ne nma]; exact upd_same) (.cons (.str _) (.cons (.int _) (.cons (td_oi _ _) .nil)))) .nil)
              · have g7 := gr6.same t7
                refine ⟨Fr.less (p := a) ((g7.fr.mono fun q h => List.mem_cons_of_mem _ h).trans (fr8.mono fun q h => by rw [List.mem_singleton.mp h]; simp)) fa0, fun q hq => ?_⟩
                by_cases e : q = a
                · rw [e]; exact ⟨_, upd_same⟩
                · rw [upd_ne e]; exact g7.th q hq
            · rintro σ H' ⟨v, rfl, hz, ma6, la6, gr6⟩
              have eF : (answersD s4).take ((sortA s4.asks).map V.int).length = answersD s4 := by
                rw [List.length_map]
                refine List.take_of_length_le ?_
                unfold answersD
                rw [List.length_map]
                exact Nat.le_refl _
              rw [eF] at la6
              walk_at "vv"
              refine ⟨_, _, rfl, dg ma6.ob mF_asks, ?_⟩
              refine ⟨.inr (.inr (.inl ⟨rfl, .inl ⟨_, ma6.asks⟩⟩)), ?_⟩
              refine ⟨x.d, kvA s4.asks, rfl, rfl, ma6.asks, ?_⟩
              have ma7 := ma6.asked (l := [])
              have gr7 := gr6.upd (a := x.d) (o := .dK (kvA [])) (by simp)
              have nad : a ≠ x.d := by
                obtain ⟨xs, hx, _⟩ := la6
                exact ne_of hx ma6.asks (by intro z; cases z)
              have la7 : LD (upd H' x.d (.dK (kvA []))) a (writtenD s4 ++ answersD s4) := la6.to (by rw [upd_ne nad]) fun b zs e => by
                rw [upd_ne (fun q => by rw [q, ma6.asks] at e; cases e)]
                exact e
              have e0 : upd H' x.d (.dK []) = upd H' x.d (.dK (kvA [])) := rfl
              rw [e0]
              generalize upd H' x.d (.dK (kvA [])) = H7 at *
              walk_at "vv"
              refine ⟨⟨x.m, x.l, x.d, ct, hl⟩, _, c, rfl, ma7, ec4, okc, fun H8 g fg t8 lg => ?_⟩
              walk_at "vv"
              have nag : a ≠ g := by
                obtain ⟨xs, hx, _⟩ := la7
                exact ne_of_none hx fg
              exact fin _ hd _ _ _ (gr7.same t8) (ma7.same t8) (la7.same t8) lg nag fa0 (gr7.fresh fg)
end
end Ck

namespace Ck
open PySem PySem.Spec PyProof.Rows L2
local macro_rules | `(tactic| walk_at "v") => `(tactic| (first | with_reducible refine n_seq ?_ | with_reducible refine n_ifs ?_ | with_reducible refine n_asg ?_ | with_reducible refine n_name ?_ | with_reducible refine n_ret ?_ | with_reducible refine n_drop ?_ | with_reducible refine n_next ?_ | ((with_reducible refine' n_var ?e ?_); (case e => rfl)) | with_reducible refine n_c ?_ | with_reducible refine n_op ?_ | with_reducible refine n_un ?_ | with_reducible refine n_test ?_ | with_reducible refine n_B ?_ | with_reducible refine n_ex ?_ | with_reducible refine n_and ?_ | with_reducible refine n_or ?_ | with_reducible refine n_not ?_ | with_reducible refine n_andV ?_ | with_reducible refine n_orV ?_ | with_reducible refine n_notV ?_ | with_reducible refine n_cons ?_ | with_reducible refine n_nil ?_ | with_reducible refine n_cb ?_ | with_reducible refine n_call ?_ | with_reducible refine n_I0 ?_ | with_reducible refine n_tup ?_ | with_reducible refine n_lst ?_ | with_reducible refine n_sl ?_ | with_reducible refine n_part ?_ | with_reducible refine n_nopart ?_ | with_reducible refine n_exI ?_ | with_reducible refine n_chain ?_ | with_reducible refine n_dget ?_ | with_reducible refine n_meth ?_ | with_reducible refine n_bm ?_ | with_reducible refine n_bm0 ?_ | with_reducible refine n_sfld ?_ | with_reducible refine n_fld ?_ | with_reducible refine n_for ?_ | with_reducible refine n_dpop1 ?_ | with_reducible refine n_din ?_ | with_reducible refine n_dnotin ?_ | with_reducible refine n_dput ?_ | with_reducible refine n_nn ?_ | with_reducible refine n_rU ?_ | with_reducible refine n_lss ?_ | with_reducible refine n_kget ?_ | with_reducible refine n_iL ?_ | with_reducible refine n_iE ?_ | with_reducible refine n_iR ?_ | with_reducible refine n_lc ?_ | with_reducible refine n_lcT ?_ | with_reducible refine n_lcS ?_ | with_reducible refine n_gTup ?_ | with_reducible refine n_gCons ?_ | with_reducible refine n_gNil ?_ | ((with_reducible refine n_eq ?e ?_); (case e => rfl)) | ((with_reducible refine n_ne ?e ?_); (case e => rfl)) | ((with_reducible refine n_iT ?e ?_); (case e => rfl)) | ((with_reducible refine n_iF ?e ?_); (case e => rfl))))
local macro_rules | `(tactic| walk_at "vv") => `(tactic| repeat walk_at "v")
section
variable {P : Program} {w : World} {K : PySem.W.Frag} {mg : Str → Option Value} {base : Heap} {A : Ad}
theorem ov_none {o : Option Str} : decide (ov o = V.non) = o.isNone := by cases o <;> rfl
theorem ok_l_put (T : Txt w K mg A) (D : GD K mg "_law_put" s_l_put) (c_l_stands : Cal P w K mg base 1 "_law_stands" sp_l_stands) (c_l_ahead : Cal P w K mg base 1 "_law_ahead" sp_l_ahead) (c_l_behind : Cal P w K mg base 1 "_law_behind" sp_l_behind)
    (c_l_rows_down : Cal P w K mg base 2 "_law_rows_down" sp_l_rows_down) (c_l_written : Cal P w K mg base 1 "_law_written" sp_l_written) : Cal P w K mg base 3 "_law_put" sp_l_put := by
  have S := sc_l_put.sc
  refine cal_mk D sc_l_put (fun vs H Q E h => by obtain ⟨x, s, r, rfl, _⟩ := h; rfl) fun f cdv A0 outer s0 H vs Q E hr h => ?_
  obtain ⟨x, s, r, rfl, ma, ok, rat, okr, few, hd⟩ := h
  refine ⟨_, (pss_cons (ps_if (PW.pt (pw_or (pt_not (pt_val (pc c_l_stands hr (by decide) rfl (pa_cons (pv 0) pa_nil)))) (pw_or1 (pt_cmpR op_notN (pc c_l_ahead hr (by decide) rfl (pa_cons (pv 0) pa_nil)) pe_non (nomark _)))))
          (pss_one (ps_ret pe_str))
          pss_nil)
        (pss_cons (ps_for PassesOwn.never rfl (pi_enum (by rfl) T.b_enumerate (pa_cons (pe_dget (hu_of hr) (pv 0) pe_str (fun _ _ => rfl)) pa_nil)) (pg_tup (by rfl) (pgs_cons (pg_name (i := 2) S.nd rfl (.inl rfl)) (pgs_cons (pg_name (i := 3) S.nd rfl (.inl rfl)) pgs_nil)))
          (pss_one (ps_if (pt_cmpR (op_eqD hr.units) (pe_slice sl_tupA (pv 3) po_none (po_some pe_int)) (pe_slice sl_tupA (pv 1) po_none (po_some pe_int)) (nomark _))
            (pss_one (ps_ret (pe_tup (pa_cons (pe_op op_rep (pe_lst (pa_cons (pe_tup (pa_cons pe_str (pa_cons (pe_ix ix_tup (pv 1) pe_int (fun _ _ => rfl)) (pa_cons (pe_ix ix_tup (pv 1) pe_int (fun _ _ => rfl)) pa_nil)))) pa_nil)) (pe_callTy call_int1 (by rfl) T.b_int (by decide +kernel) (pa_cons (pe_cmpR op_lt (pv 2) (pe_dget (hu_of hr) (pv 0) pe_str (fun _ _ => rfl)) (nomark _)) pa_nil))) (pa_cons (pe_lst pa_nil) pa_nil)))))
            pss_nil)))
        (pss_cons (ps_if (pt_cmpR op_eq (pe_callB call_len_seq (by rfl) T.b_len PySem.boot_len (pa_cons (pe_dget (hu_of hr) (pv 0) pe_str (fun _ _ => rfl)) pa_nil)) pe_int (nomark _))
          (pss_one (ps_ret pe_str))
          pss_nil)
        (pss_cons (ps_expr (pe_bm PySem.F.plainAttrs_list PySem.F.slot_list_append PySem.F.type_list_append mt_append (pe_dget (hu_of hr) (pv 0) pe_str (fun _ _ => rfl)) (pa_cons (pv 1) pa_nil)))
        (pss_cons (ps_if (pt_cmpR op_isN (pc c_l_behind hr (by decide) rfl (pa_cons (pv 0) pa_nil)) pe_non (nomark _))
          (pss_one (ps_ret (pe_tup (pa_cons (pc c_l_written hr (by decide) rfl (pa_cons (pv 0) pa_nil)) (pa_cons (pe_lst pa_nil) pa_nil)))))
          pss_nil)
        (pss_one (ps_ret (pe_tup (pa_cons (pe_lst pa_nil) (pa_cons (pe_lst (pa_cons (pc c_l_rows_down hr (by decide) rfl (pa_cons (pv 0) (pa_cons (pe_callB call_len_seq (by rfl) T.b_len PySem.boot_len (pa_cons (pe_dget (hu_of hr) (pv 0) pe_str (fun _ _ => rfl)) pa_nil)) pa_nil))) pa_nil)) pa_nil)))))))))), ?_⟩
  walk_at "vv"
  refine ⟨x, s, rfl, ma, ?_⟩
  cases ec : s.ch with
  | none =>
    rw [show put s r = none by unfold put; rw [ec]] at hd
    rw [show s.stands = false by unfold HS.stands; rw [ec]; rfl]
    walk_at "vv"
    exact hd H (Same.refl H)
  | some c =>
    have okc := ok.ch c ec
    cases rdy : s.ready with
    | false =>
      rw [show put s r = none by unfold put; rw [ec]; exact if_pos (.inl rdy)] at hd
      rw [show s.stands = false by unfold HS.stands; rw [ec, rdy]; rfl]
      walk_at "vv"
      exact hd H (Same.refl H)
    | true =>
      rw [show s.stands = true by unfold HS.stands; rw [ec, rdy]; rfl]
      walk_at "vv"
      refine ⟨x, s, c, rfl, ma, ec, okc, ?_⟩
      by_cases eA : c.A = []
      · rw [c.ah_nil eA]
        walk_at "vv"
        have nc : ¬ (s.ready = false ∨ c.A ≠ []) := fun q => q.elim (fun z => by rw [rdy] at z; cases z) fun z => z eA
        have hput : put s r = match idxW s.log r.asker r.num with
            | some k => some (s, if k < s.told then [wroteD r] else [], [])
            | none => match c.bh with
              | none => some ((s.plus [r]).tellAll, writtenD (s.plus [r]), [])
              | some b => some (s.plus [r], [], [rowsD c b (s.plus [r]).log (s.log.length + 1)]) := by
          unfold put
          rw [ec]
          dsimp only
          rw [if_neg nc]
          try rfl
        refine ⟨_, _, rfl, dg ma.ob mF_log, ?_⟩
        walk_at "vv"
        refine ⟨x.l, _, rfl, SqL.of ma.lst, for_enum (K := K) (a := x.l) (xs := s.log.map Row.v) (fun i σ H' => Same H H' ∧ (∃ v u, σ = [some (.ref x.m), some (.ref r.ad), v, u]) ∧ ∀ (j : Nat) (q : Row), j < i → s.log[j]? = some q → ¬ (q.asker = r.asker ∧ q.num = r.num))
          ⟨Same.refl _, ⟨none, none, rfl⟩, fun j r hj => absurd hj (Nat.not_lt_zero _)⟩ (fun i σ H' _ p => SqL.of (p.1 _ _ ma.lst)) ?_ ?_⟩
        · rintro i y σ H' Tu hi ⟨s1, ⟨v, u, rfl⟩, hno⟩ hT
          obtain ⟨q, hq1, rfl⟩ : ∃ q, s.log[i]? = some q ∧ y = Row.v q := by
            rw [List.getElem?_map] at hi
            obtain ⟨q, h1, h2⟩ := Option.map_eq_some_iff.mp hi
            exact ⟨q, h1, h2.symm⟩
          have s2 : Same H (upd H' Tu (.tup [.int (i : Int), q.v])) := Same.trans s1 (Same.new hT)
          have qa := s2 _ _ (ma.rows.at_ q (List.mem_of_getElem? hq1))
          have qo := ma.rows.ok q (List.mem_of_getElem? hq1)
          have ra := s2 _ _ rat
          walk_at "vv"
          refine ⟨Tu, _, rfl, SqT.of upd_same, rfl, ?_⟩
          walk_at "vv"
          refine ⟨q.ad, q.vs, rfl, SqT.of qa, fun q => absurd q.2 (by show ¬ (2 : Nat) = 4; omega), fun _ p hp => ?_⟩
          rw [show cutV q.vs none (some 2) = [.str q.asker, .int q.num] from cut_to (n := 2)]
          have s3 := Same.trans s2 (Same.new (o := .tup [.str q.asker, .int q.num]) hp)
          have hp3 := upd_same (H := upd H' Tu (.tup [.int (i : Int), q.v])) (a := p) (o := .tup [.str q.asker, .int q.num])
          have ra3 := s3 _ _ rat
          walk_at "vv"
          refine ⟨r.ad, r.vs, rfl, SqT.of ra3, fun q => absurd q.2 (by show ¬ (2 : Nat) = 4; omega), fun _ p2 hp2 => ?_⟩
          rw [show cutV r.vs none (some 2) = [.str r.asker, .int r.num] from cut_to (n := 2)]
          have t4 := Same.new (o := .tup [.str r.asker, .int r.num]) hp2
          have s4 := Same.trans s3 t4
          refine ⟨.tuple [.str q.asker, .int q.num], .tuple [.str r.asker, .int r.num], TD.dp (.tup (t4 _ _ hp3) (.cons (.str _) (.cons (.int _) .nil))), TD.dp (.tup upd_same (.cons (.str _) (.cons (.int _) .nil))), ?_, ?_, ?_⟩
          · exact (sh_tup (n := 0) fun d hd => by
              rcases List.mem_cons.mp hd with e | hd
              · rw [e]; exact qo.a.sh
              · rw [List.mem_singleton.mp hd]; exact sh_int).shaped (by decide)
          · exact (sh_tup (n := 0) fun d hd => by
              rcases List.mem_cons.mp hd with e | hd
              · rw [e]; exact okr.a.sh
              · rw [List.mem_singleton.mp hd]; exact sh_int).shaped (by decide)
          rw [eqv_an]
          by_cases e : q.asker = r.asker ∧ q.num = r.num
          · have hi2 : idxW s.log r.asker r.num = some i := idx_some hq1 e hno
            rw [hi2] at hput
            rw [hput] at hd
            have hd : MDone H x Q (s, if i < s.told then [wroteD r] else [], []) := hd
            walk_at "v"
            refine n_iT (by rw [decide_eq_true e.1, decide_eq_true e.2]; rfl) ?_
            generalize upd (upd (upd H' Tu (.tup [.int (i : Int), q.v])) p (.tup [.str q.asker, .int q.num])) p2 (.tup [.str r.asker, .int r.num]) = H4 at *
            have ma4 := ma.same s4
            have rat4 := s4 _ _ rat
            have gr4 := ma.gr s4
            walk_at "vv"
            refine n_ixT (SqT.of rat4) rfl ?_
            walk_at "vv"
            refine n_ixT (SqT.of rat4) rfl ?_
            walk_at "vv"
            refine ⟨by show 3 ≤ sizeLine; decide, fun t ft => ?_⟩
            have t5 := Same.new (o := .tup [.str "written", .str r.asker, .int r.num]) ft
            have kt := upd_same (H := H4) (a := t) (o := .tup [.str "written", .str r.asker, .int r.num])
            walk_at "vv"
            refine ⟨by show 1 ≤ sizeLine; decide, fun a fa => ?_⟩
            have t6 := Same.new (o := .lst [.ref t]) fa
            have ka := upd_same (H := upd H4 t (.tup [.str "written", .str r.asker, .int r.num])) (a := a) (o := .lst [.ref t])
            have kt6 := t6 _ _ kt
            have t56 := Same.trans t5 t6
            have ma6 := ma4.same t56
            generalize upd (upd H4 t (.tup [.str "written", .str r.asker, .int r.num])) a (.lst [.ref t]) = H6 at *
            walk_at "vv"
            refine ⟨_, _, rfl, dg ma6.ob mF_told, ?_⟩
            walk_at "vv"
            refine .inr ⟨_, rfl, ?_⟩
            have gr6 := gr4.same t56
            refine ⟨a, _, _, rfl, rfl, ka, by split <;> decide, by split <;> decide, ?_, fun b fb => ?_⟩
            · split
              · show 1 * 1 ≤ sizeLine; decide
              · show 1 * 0 ≤ sizeLine; decide
            have el : LD (upd H6 b (.lst (List.replicate (if decide ((i : Int) < (s.told : Int)) = true then (1 : Int) else 0).toNat [V.ref t]).flatten)) b (if i < s.told then [wroteD r] else []) := by
              have t7 := Same.new (o := .lst (List.replicate (if decide ((i : Int) < (s.told : Int)) = true then (1 : Int) else 0).toNat [V.ref t]).flatten) fb
              by_cases k : i < s.told
              · rw [if_pos k, if_pos (show decide ((i : Int) < (s.told : Int)) = true from decide_eq_true (by omega))] at *
                exact ⟨[.ref t], upd_same, .cons (.tup (t7 _ _ kt6) (.cons (.str _) (.cons (.str _) (.cons (.int _) .nil)))) .nil⟩
              · rw [if_neg k, if_neg (show ¬ decide ((i : Int) < (s.told : Int)) = true from fun z => k (by have := of_decide_eq_true z; omega))] at *
                exact ⟨[], upd_same, .nil⟩
            have t7 := Same.new (o := .lst (List.replicate (if decide ((i : Int) < (s.told : Int)) = true then (1 : Int) else 0).toNat [V.ref t]).flatten) fb
            generalize (HO.lst (List.replicate (if decide ((i : Int) < (s.told : Int)) = true then (1 : Int) else 0).toNat [V.ref t]).flatten) = o7 at *
            have gr7 := gr6.same t7
            have fb0 := gr6.fresh fb
            walk_at "vv"
            refine ⟨Nat.zero_le _, fun g fg => ?_⟩
            have t8 := Same.new (o := .lst []) fg
            have nbg : b ≠ g := ne_of_none upd_same fg
            walk_at "vv"
            exact m_pair hd (gr7.same t8) rfl rfl rfl rfl rfl (ma6.same (Same.trans t7 t8)) (el.same t8) (.nil upd_same) nbg fb0 (gr7.fresh fg)
          · walk_at "v"
            refine n_iF (by rw [← Bool.decide_and]; exact decide_eq_false e) ?_
            walk_at "vv"
            refine ⟨s4, ⟨some (.int (i : Int)), some q.v, rfl⟩, fun j r' hj hr' => ?_⟩
            by_cases hji : j < i
            · exact hno j r' hji hr'
            · have : j = i := by omega
              rw [this, hq1] at hr'
              rw [← Option.some.inj hr']
              exact e
        · rintro σ H1 ⟨s1, ⟨v, u, rfl⟩, hno⟩
          have hi : idxW s.log r.asker r.num = none := idx_none fun j q hj => hno j q (by
            have := (List.getElem?_eq_some_iff.mp hj).1
            rw [List.length_map]
            exact this) hj
          rw [hi] at hput
          dsimp only at hput
          have ma1 := ma.same s1
          have rat1 : RowAt H1 r := s1 _ _ rat
          have gr1 := ma.gr s1
          walk_at "vv"
          refine ⟨_, _, rfl, dg ma1.ob mF_log, ?_⟩
          walk_at "vv"
          refine ⟨x.l, _, rfl, .inl (SqL.of ma1.lst), ?_⟩
          rw [List.length_map]
          walk_at "vv"
          refine n_iF (decide_eq_false fun z => by injection z with z; omega) ?_
          walk_at "vv"
          refine ⟨_, _, rfl, dg ma1.ob mF_log, ?_⟩
          refine ⟨n_lty ma1.lst, ?_⟩
          walk_at "vv"
          refine ⟨x.l, s.log.map Row.v, .ref r.ad, rfl, rfl, ma1.lst, ?_, ?_⟩
          · rw [List.length_map]
            exact Nat.lt_trans (m := 1000) (by omega) (by decide)
          have ma3 := ma1.grow (l := [r]) ⟨fun q hq => by rw [List.mem_singleton.mp hq]; exact rat1, fun q hq => by rw [List.mem_singleton.mp hq]; exact okr⟩
          rw [show s.log.map Row.v ++ [V.ref r.ad] = (s.log ++ [r]).map Row.v by rw [List.map_append]; rfl]
          have gr3 : Gr [x.m, x.l, x.d] H (upd H1 x.l (.lst ((s.log ++ [r]).map Row.v))) := gr1.upd (by simp)
          generalize upd H1 x.l (.lst ((s.log ++ [r]).map Row.v)) = H3 at *
          have ec3 : (s.plus [r]).ch = some c := ec
          have len3 : (s.plus [r]).log.length ≤ 1000 := by
            show (s.log ++ [r]).length ≤ 1000
            rw [List.length_append]
            show s.log.length + 1 ≤ 1000
            omega
          walk_at "vv"
          refine ⟨x, _, c, rfl, ma3, ec3, okc, ?_⟩
          cases eb : c.bh with
          | none =>
            rw [hput, eb] at hd
            have hd : MDone H x Q ((s.plus [r]).tellAll, writtenD (s.plus [r]), []) := hd
            walk_at "vv"
            refine ⟨x, _, rfl, ma3, len3, fun H4 a fa f4 ma4 la => ?_⟩
            have gr4 : Gr [x.m, x.l, x.d] H H4 := gr3.more f4 (fun q m => by rw [List.mem_singleton.mp m]; simp) fun q hq => by rw [List.mem_singleton.mp hq]; exact ⟨_, ma4.ob⟩
            walk_at "vv"
            refine ⟨Nat.zero_le _, fun g fg => ?_⟩
            have s5 := Same.new (o := .lst []) fg
            walk_at "vv"
            have nag : a ≠ g := by
              obtain ⟨xs, h1, _⟩ := la
              exact ne_of_none h1 fg
            exact m_pair hd (gr4.same s5) rfl rfl rfl rfl rfl (ma4.same s5) (LD.same la s5) (.nil upd_same) nag (gr3.fresh fa) (gr4.fresh fg)
          | some b0 =>
            rw [hput, eb] at hd
            have hd : MDone H x Q (s.plus [r], [], [rowsD c b0 (s.plus [r]).log (s.log.length + 1)]) := hd
            walk_at "vv"
            refine ⟨Nat.zero_le _, fun a fa => ?_⟩
            have t1 : Same H3 (upd H3 a (.lst [])) := Same.new fa
            walk_at "vv"
            refine ⟨_, _, rfl, dg (t1 _ _ ma3.ob) mF_log, ?_⟩
            walk_at "vv"
            refine ⟨x.l, _, rfl, .inl (SqL.of (t1 _ _ ma3.lst)), ?_⟩
            walk_at "vv"
            have eL : ((s.plus [r]).log.map Row.v).length = s.log.length + 1 := by
              rw [List.length_map]
              show (s.log ++ [r]).length = _
              rw [List.length_append]
              rfl
            rw [eL]
            refine ⟨x, _, c, b0, s.log.length + 1, rfl, ma3.same t1, ec3, okc, eb, by omega, len3, fun H4 v t2 d2 => ?_⟩
            walk_at "vv"
            refine ⟨by show 1 ≤ sizeLine; decide, fun q fq => ?_⟩
            have t3 : Same H4 (upd H4 q (.lst [v])) := Same.new fq
            have t13 := Same.trans t1 (Same.trans t2 t3)
            have k1 := t2 _ _ (upd_same (H := H3) (a := a) (o := .lst []))
            walk_at "vv"
            exact m_pair hd (gr3.same t13) rfl rfl rfl rfl rfl (ma3.same t13) (.nil (t3 _ _ k1)) ⟨_, upd_same, .cons (TD.to (Tups.ofSame t3) d2) .nil⟩ (ne_of_none k1 fq) (gr3.fresh fa) ((gr3.same (Same.trans t1 t2)).fresh fq)
      · obtain ⟨y, e1, _⟩ := c.all_ah eA
        rw [show put s r = none by unfold put; rw [ec]; exact if_pos (.inr eA)] at hd
        rw [e1]
        walk_at "vv"
        exact hd H (Same.refl H)
end
end Ck

namespace Ck
open PySem PySem.Spec PyProof.Rows L2
local macro_rules | `(tactic| walk_at "v") => `(tactic| (first | with_reducible refine n_seq ?_ | with_reducible refine n_ifs ?_ | with_reducible refine n_asg ?_ | with_reducible refine n_name ?_ | with_reducible refine n_ret ?_ | with_reducible refine n_drop ?_ | with_reducible refine n_next ?_ | ((with_reducible refine' n_var ?e ?_); (case e => rfl)) | with_reducible refine n_c ?_ | with_reducible refine n_op ?_ | with_reducible refine n_un ?_ | with_reducible refine n_test ?_ | with_reducible refine n_B ?_ | with_reducible refine n_ex ?_ | with_reducible refine n_and ?_ | with_reducible refine n_or ?_ | with_reducible refine n_not ?_ | with_reducible refine n_andV ?_ | with_reducible refine n_orV ?_ | with_reducible refine n_notV ?_ | with_reducible refine n_cons ?_ | with_reducible refine n_nil ?_ | with_reducible refine n_cb ?_ | with_reducible refine n_call ?_ | with_reducible refine n_I0 ?_ | with_reducible refine n_tup ?_ | with_reducible refine n_lst ?_ | with_reducible refine n_sl ?_ | with_reducible refine n_part ?_ | with_reducible refine n_nopart ?_ | with_reducible refine n_exI ?_ | with_reducible refine n_chain ?_ | with_reducible refine n_dget ?_ | with_reducible refine n_meth ?_ | with_reducible refine n_bm ?_ | with_reducible refine n_bm0 ?_ | with_reducible refine n_sfld ?_ | with_reducible refine n_fld ?_ | with_reducible refine n_for ?_ | with_reducible refine n_dpop1 ?_ | with_reducible refine n_din ?_ | with_reducible refine n_dnotin ?_ | with_reducible refine n_dput ?_ | with_reducible refine n_nn ?_ | with_reducible refine n_rU ?_ | with_reducible refine n_lss ?_ | with_reducible refine n_kget ?_ | with_reducible refine n_iL ?_ | with_reducible refine n_iE ?_ | with_reducible refine n_iR ?_ | with_reducible refine n_lc ?_ | with_reducible refine n_lcT ?_ | with_reducible refine n_lcS ?_ | with_reducible refine n_gTup ?_ | with_reducible refine n_gCons ?_ | with_reducible refine n_gNil ?_ | ((with_reducible refine n_eq ?e ?_); (case e => rfl)) | ((with_reducible refine n_ne ?e ?_); (case e => rfl)) | ((with_reducible refine n_iT ?e ?_); (case e => rfl)) | ((with_reducible refine n_iF ?e ?_); (case e => rfl))))
local macro_rules | `(tactic| walk_at "vv") => `(tactic| repeat walk_at "v")
section
variable {P : Program} {w : World} {K : PySem.W.Frag} {mg : Str → Option Value} {base : Heap} {A : Ad}
theorem ok_l_took_rows (T : Txt w K mg A) (D : GD K mg "_law_took_rows" s_l_took_rows) (c_l_ahead : Cal P w K mg base 1 "_law_ahead" sp_l_ahead) (c_l_behind : Cal P w K mg base 1 "_law_behind" sp_l_behind)
    (c_l_rows_down : Cal P w K mg base 2 "_law_rows_down" sp_l_rows_down) (c_l_written : Cal P w K mg base 1 "_law_written" sp_l_written) (c_l_told_up : Cal P w K mg base 2 "_law_told_up" sp_l_told_up) : Cal P w K mg base 3 "_law_took_rows" sp_l_took_rows := by
  have S := sc_l_took_rows.sc
  refine cal_mk D sc_l_took_rows (fun vs H Q E h => by obtain ⟨x, s, c, n, b, f, l, ra, a, rfl, _⟩ := h; rfl) fun f0 cdv A0 outer s0 H vs Q E hr h => ?_
  obtain ⟨x, s, c, n, b, f, l, ra, la, rfl, ma, ok, ec, ⟨hy, hra, hR⟩, ⟨_, _, hf, hl⟩, hd⟩ := h
  have okc := ok.ch c ec
  refine ⟨_, (pss_cons (ps_set (i := 2) S.nd rfl (Or.inl rfl) (pe_callB call_len_seq (by rfl) T.b_len PySem.boot_len (pa_cons (pe_dget (hu_of hr) (pv 0) pe_str (fun _ _ => rfl)) pa_nil)))
        (pss_cons (ps_if (PW.pt (pw_or (pt_cmpR op_ne (pe_ix ix_tup (pv 1) pe_int (fun _ _ => rfl)) (pc c_l_ahead hr (by decide) rfl (pa_cons (pv 0) pa_nil)) (nomark _)) (pw_or1 (pt_cmpR op_gt (pe_ix ix_tup (pv 1) pe_int (fun _ _ => rfl)) (pe_op op_add (pv 2) pe_int) (nomark _)))))
          (pss_one (ps_ret (pe_tup (pa_cons (pe_lst pa_nil) (pa_cons (pe_lst pa_nil) pa_nil)))))
          pss_nil)
        (pss_cons (ps_expr (pe_bm PySem.F.plainAttrs_list PySem.F.slot_list_extend PySem.F.type_list_extend mt_extendT (pe_dget (hu_of hr) (pv 0) pe_str (fun _ _ => rfl)) (pa_cons (pe_slice sl_tupA (pe_ix ix_tup (pv 1) pe_int (fun _ _ => rfl)) (po_some (pe_op op_sub (pe_op op_add (pv 2) pe_int) (pe_ix ix_tup (pv 1) pe_int (fun _ _ => rfl)))) po_none) pa_nil)))
        (pss_cons (ps_dput (hu_of hr) (pv 0) pe_str (pe_or (pe_dget (hu_of hr) (pv 0) pe_str (fun _ _ => rfl)) (pe_one (pe_cmpR op_eq (pe_ix ix_tup (pv 1) pe_int (fun _ _ => rfl)) pe_int (nomark _)))) rfl)
        (pss_cons (ps_if (pt_not (pt_val (pe_dget (hu_of hr) (pv 0) pe_str (fun _ _ => rfl))))
          (pss_one (ps_ret (pe_tup (pa_cons (pe_lst pa_nil) (pa_cons (pe_lst pa_nil) pa_nil)))))
          pss_nil)
        (pss_cons (ps_if (pt_cmpR op_isN (pc c_l_behind hr (by decide) rfl (pa_cons (pv 0) pa_nil)) pe_non (nomark _))
          (pss_one (ps_ret (pe_tup (pa_cons (pc c_l_written hr (by decide) rfl (pa_cons (pv 0) pa_nil)) (pa_cons (pc c_l_told_up hr (by decide) rfl (pa_cons (pv 0) pa_nil)) pa_nil)))))
          pss_nil)
        (pss_cons (ps_if (pt_cmpR op_eq (pe_callB call_len_seq (by rfl) T.b_len PySem.boot_len (pa_cons (pe_dget (hu_of hr) (pv 0) pe_str (fun _ _ => rfl)) pa_nil)) (pv 2) (nomark _))
          (pss_one (ps_ret (pe_tup (pa_cons (pe_lst pa_nil) (pa_cons (pe_lst pa_nil) pa_nil)))))
          pss_nil)
        (pss_one (ps_ret (pe_tup (pa_cons (pe_lst pa_nil) (pa_cons (pe_lst (pa_cons (pc c_l_rows_down hr (by decide) rfl (pa_cons (pv 0) (pa_cons (pe_op op_add (pv 2) pe_int) pa_nil))) pa_nil)) pa_nil)))))))))))), ?_⟩
  unfold tookRows at hd
  have mg := ma
  have gr := ma.gr (Same.refl H)
  walk_at "vv"
  refine ⟨_, _, rfl, dg ma.ob mF_log, ?_⟩
  walk_at "vv"
  refine ⟨x.l, _, rfl, .inl (SqL.of ma.lst), ?_⟩
  rw [List.length_map]
  walk_at "vv"
  refine n_ixT (SqT.of hy) rfl ?_
  walk_at "vv"
  refine ⟨x, s, c, rfl, ma, ec, okc, ?_⟩
  walk_at "vv"
  refine n_ne scal_ov ?_
  rw [ov_ne]
  walk_at "vv"
  by_cases eb : c.ah = some b
  · refine n_iF (by rw [decide_eq_true eb]; rfl) ?_
    walk_at "vv"
    refine n_ixT (SqT.of hy) rfl ?_
    walk_at "vv"
    by_cases lf : s.log.length + 1 < f
    · rw [if_pos (.inr lf)] at hd
      refine n_iT (decide_eq_true (by omega)) ?_
      walk_at "vv"
      refine ⟨Nat.zero_le _, fun a fa => ?_⟩
      walk_at "vv"
      refine ⟨Nat.zero_le _, fun b fb => ?_⟩
      walk_at "vv"
      obtain ⟨z2, la, lb, nab, fa0, fb0⟩ := two0 gr fa fb
      exact m_pair hd (gr.same z2) rfl rfl rfl rfl rfl (mg.same z2) la lb nab fa0 fb0
    · rw [if_neg (fun q => q.elim (fun z => z eb) lf)] at hd
      refine n_iF (decide_eq_false (by omega)) ?_
      walk_at "vv"
      refine ⟨_, _, rfl, dg ma.ob mF_log, ?_⟩
      refine ⟨n_lty ma.lst, ?_⟩
      walk_at "vv"
      refine n_ixT (SqT.of hy) rfl ?_
      walk_at "vv"
      refine n_ixT (SqT.of hy) rfl ?_
      walk_at "vv"
      have ef : ((s.log.length : Int) + 1 - (f : Int)) = ((s.log.length + 1 - f : Nat) : Int) := by omega
      have go : ∀ (H2 : Hp) (q : Addr) (zs : List V), Same H H2 → SqT K H2 q zs → zs = (l.drop (s.log.length + 1 - f)).map Row.v →
          ∀ Rr : Hp → Prop, (∀ H3, MA H3 x (s.plus (l.drop (s.log.length + 1 - f))) → Gr [x.m, x.l, x.d] H H3 → H3 la = some (.tup (Lt.rows n b f l ra).vs) → Rr H3) →
          ∃ l' b' xs zs', V.ref x.l = .ref l' ∧ [V.ref q] = [.ref b'] ∧ H2 l' = some (.lst xs) ∧ SqT K H2 b' zs' ∧ xs.length + zs'.length ≤ sizeLine ∧ Rr (upd H2 l' (.lst (xs ++ zs'))) := by
        intro H2 q zs s2 hq ez Rr k
        have ma2 := ma.same s2
        refine ⟨x.l, q, s.log.map Row.v, zs, rfl, rfl, ma2.lst, hq, ?_, ?_⟩
        · rw [ez, List.length_map, List.length_map, List.length_drop]
          have := ok.len
          exact Nat.le_trans (m := 1000) (by omega) (by decide)
        · have hR2 : RowsOk H2 (l.drop (s.log.length + 1 - f)) := (hR.to (Tups.ofSame s2)).sub fun r hr => List.mem_of_mem_drop hr
          have m3 := ma2.grow hR2
          rw [List.map_append] at m3
          rw [ez]
          exact k _ m3 ((ma.gr s2).upd (by simp)) (Tups.upd ma2.lst _ _ (s2 _ _ hy))
      refine ⟨ra, _, rfl, SqT.of hra, fun hw => ?_, fun _ q fq => ?_⟩
      · refine go H ra _ (Same.refl _) (SqT.of hra) ?_ _ fun H2 ma2 gr2 hy2 => ?_
        · have h1 := hw.1
          rw [ef, HT.sIx_nat] at h1
          rw [List.length_map] at h1
          have : (l.drop (s.log.length + 1 - f)) = l := by
            by_cases z : s.log.length + 1 - f = 0
            · rw [z]; rfl
            · have : l.length = 0 := by
                rw [Nat.min_def] at h1
                split at h1 <;> omega
              rw [List.length_eq_zero_iff.mp this]
              simp
          rw [this]
        · skip
          have ec2 : (s.plus (l.drop (s.log.length + 1 - f))).ch = some c := ec
          have len3 : ((s.plus (l.drop (s.log.length + 1 - f))).able f).log.length ≤ 1000 := by
            show (s.log ++ _).length ≤ 1000
            rw [List.length_append, List.length_drop]
            have := ok.len
            omega
          have er : (s.plus (l.drop (s.log.length + 1 - f))).ready = s.ready := rfl
          walk_at "vv"
          refine ⟨_, _, rfl, dg ma2.ob mF_ready, ?_⟩
          rw [er]
          cases rdy0 : s.ready with
          | true =>
            have et : ((s.plus (l.drop (s.log.length + 1 - f))).able f).ready = true := by unfold HS.able; rw [er, rdy0]; rfl
            walk_at "vv"
            refine ⟨x.m, _, rfl, DPut.k (k := Sum.inr "ready") ma2.ob (by show 6 < _; decide), ?_⟩
            rw [mput_ready]
            rw [← et]
            have ma3 : MA (upd H2 x.m (.dK (mF (ownV (s.plus (l.drop (s.log.length + 1 - f))) x.ct) x.l (s.plus (l.drop (s.log.length + 1 - f))).told ((s.plus (l.drop (s.log.length + 1 - f))).able f).ready x.d))) x ((s.plus (l.drop (s.log.length + 1 - f))).able f) := ma2.setR (b := ((s.plus (l.drop (s.log.length + 1 - f))).able f).ready)
            have gr3 : Gr [x.m, x.l, x.d] H (upd H2 x.m (.dK (mF (ownV (s.plus (l.drop (s.log.length + 1 - f))) x.ct) x.l (s.plus (l.drop (s.log.length + 1 - f))).told ((s.plus (l.drop (s.log.length + 1 - f))).able f).ready x.d))) := gr2.upd (by simp)
            generalize upd H2 x.m (.dK (mF (ownV (s.plus (l.drop (s.log.length + 1 - f))) x.ct) x.l (s.plus (l.drop (s.log.length + 1 - f))).told ((s.plus (l.drop (s.log.length + 1 - f))).able f).ready x.d)) = H3 at *
            have ec3 : ((s.plus (l.drop (s.log.length + 1 - f))).able f).ch = some c := ec2
            generalize (s.plus (l.drop (s.log.length + 1 - f))).able f = s3 at *
            dsimp only at hd
            walk_at "vv"
            refine ⟨_, _, rfl, dg ma3.ob mF_ready, ?_⟩
            have mg := ma3
            have gr := gr3
            cases rdy : s3.ready with
            | false =>
              rw [if_pos rdy] at hd
              walk_at "vv"
              refine ⟨Nat.zero_le _, fun a fa => ?_⟩
              walk_at "vv"
              refine ⟨Nat.zero_le _, fun b fb => ?_⟩
              walk_at "vv"
              obtain ⟨z2, la, lb, nab, fa0, fb0⟩ := two0 gr fa fb
              exact m_pair hd (gr.same z2) rfl rfl rfl rfl rfl (mg.same z2) la lb nab fa0 fb0
            | true =>
              rw [if_neg (by rw [rdy]; simp)] at hd
              walk_at "vv"
              refine ⟨x, s3, c, rfl, ma3, ec3, okc, ?_⟩
              cases eb0 : c.bh with
              | none =>
                rw [eb0] at hd
                walk_at "vv"
                refine ⟨x, s3, rfl, ma3, len3, fun H4 a fa f4 ma4 la => ?_⟩
                have gr4 : Gr [x.m, x.l, x.d] H H4 := gr3.more f4 (fun q m => by rw [List.mem_singleton.mp m]; simp) fun q hq => by rw [List.mem_singleton.mp hq]; exact ⟨_, ma4.ob⟩
                walk_at "vv"
                refine ⟨x, s3.tellAll, c, rfl, ma4, ec3, okc, fun H5 g fg s5 l5 => ?_⟩
                walk_at "vv"
                have nag : a ≠ g := by
                  obtain ⟨xs, h1, _⟩ := la
                  exact ne_of_none h1 fg
                exact m_pair hd (gr4.same s5) rfl rfl rfl rfl rfl (ma4.same s5) (LD.same la s5) l5 nag (gr3.fresh fa) (gr4.fresh fg)
              | some b0 =>
                rw [eb0] at hd
                walk_at "vv"
                refine ⟨_, _, rfl, dg ma3.ob mF_log, ?_⟩
                walk_at "vv"
                refine ⟨x.l, _, rfl, .inl (SqL.of ma3.lst), ?_⟩
                rw [List.length_map]
                walk_at "vv"
                by_cases le : s3.log.length = s.log.length
                · have hd : MDone H x Q (s3, [], []) := by
                    have h0 := hd
                    simp only [if_pos le] at h0
                    exact h0
                  refine n_iT (decide_eq_true (by rw [le])) ?_
                  walk_at "vv"
                  refine ⟨Nat.zero_le _, fun a fa => ?_⟩
                  walk_at "vv"
                  refine ⟨Nat.zero_le _, fun b fb => ?_⟩
                  walk_at "vv"
                  obtain ⟨z2, la, lb, nab, fa0, fb0⟩ := two0 gr fa fb
                  exact m_pair hd (gr.same z2) rfl rfl rfl rfl rfl (mg.same z2) la lb nab fa0 fb0
                · have hd : MDone H x Q (s3, [], [rowsD c b0 s3.log (s.log.length + 1)]) := by
                    have h0 := hd
                    simp only [if_neg le] at h0
                    exact h0
                  refine n_iF (decide_eq_false fun z => le (by injection z with z; omega)) ?_
                  walk_at "vv"
                  refine ⟨Nat.zero_le _, fun a fa => ?_⟩
                  have t1 : Same H3 (upd H3 a (.lst [])) := Same.new fa
                  walk_at "vv"
                  refine ⟨x, s3, c, b0, s.log.length + 1, rfl, ma3.same t1, ec3, okc, eb0, by omega, len3, fun H4 v t2 d2 => ?_⟩
                  walk_at "vv"
                  refine ⟨by show 1 ≤ sizeLine; decide, fun q fq => ?_⟩
                  have t3 : Same H4 (upd H4 q (.lst [v])) := Same.new fq
                  have t13 := Same.trans t1 (Same.trans t2 t3)
                  have k1 := t2 _ _ (upd_same (H := H3) (a := a) (o := .lst []))
                  walk_at "vv"
                  exact m_pair hd (gr3.same t13) rfl rfl rfl rfl rfl (ma3.same t13) (.nil (t3 _ _ k1)) ⟨_, upd_same, .cons (TD.to (Tups.ofSame t3) d2) .nil⟩ (ne_of_none k1 fq) (gr3.fresh fa) ((gr3.same (Same.trans t1 t2)).fresh fq)
          | false =>
            walk_at "vv"
            refine n_ixT (SqT.of hy2) rfl ?_
            walk_at "vv"
            refine ⟨x.m, _, rfl, DPut.k (k := Sum.inr "ready") ma2.ob (by show 6 < _; decide), ?_⟩
            rw [mput_ready]
            rw [show decide (V.int (f : Int) = V.int 1) = ((s.plus (l.drop (s.log.length + 1 - f))).able f).ready by
              unfold HS.able
              rw [er, rdy0, Bool.false_or]
              by_cases f1 : f = 1
              · rw [decide_eq_true f1, f1]
                rfl
              · rw [decide_eq_false f1, decide_eq_false fun z => f1 (by injection z with z; omega)]]
            have ma3 : MA (upd H2 x.m (.dK (mF (ownV (s.plus (l.drop (s.log.length + 1 - f))) x.ct) x.l (s.plus (l.drop (s.log.length + 1 - f))).told ((s.plus (l.drop (s.log.length + 1 - f))).able f).ready x.d))) x ((s.plus (l.drop (s.log.length + 1 - f))).able f) := ma2.setR (b := ((s.plus (l.drop (s.log.length + 1 - f))).able f).ready)
            have gr3 : Gr [x.m, x.l, x.d] H (upd H2 x.m (.dK (mF (ownV (s.plus (l.drop (s.log.length + 1 - f))) x.ct) x.l (s.plus (l.drop (s.log.length + 1 - f))).told ((s.plus (l.drop (s.log.length + 1 - f))).able f).ready x.d))) := gr2.upd (by simp)
            generalize upd H2 x.m (.dK (mF (ownV (s.plus (l.drop (s.log.length + 1 - f))) x.ct) x.l (s.plus (l.drop (s.log.length + 1 - f))).told ((s.plus (l.drop (s.log.length + 1 - f))).able f).ready x.d)) = H3 at *
            have ec3 : ((s.plus (l.drop (s.log.length + 1 - f))).able f).ch = some c := ec2
            generalize (s.plus (l.drop (s.log.length + 1 - f))).able f = s3 at *
            dsimp only at hd
            walk_at "vv"
            refine ⟨_, _, rfl, dg ma3.ob mF_ready, ?_⟩
            have mg := ma3
            have gr := gr3
            cases rdy : s3.ready with
            | false =>
              rw [if_pos rdy] at hd
              walk_at "vv"
              refine ⟨Nat.zero_le _, fun a fa => ?_⟩
              walk_at "vv"
              refine ⟨Nat.zero_le _, fun b fb => ?_⟩
              walk_at "vv"
              obtain ⟨z2, la, lb, nab, fa0, fb0⟩ := two0 gr fa fb
              exact m_pair hd (gr.same z2) rfl rfl rfl rfl rfl (mg.same z2) la lb nab fa0 fb0
            | true =>
              rw [if_neg (by rw [rdy]; simp)] at hd
              walk_at "vv"
              refine ⟨x, s3, c, rfl, ma3, ec3, okc, ?_⟩
              cases eb0 : c.bh with
              | none =>
                rw [eb0] at hd
                walk_at "vv"
                refine ⟨x, s3, rfl, ma3, len3, fun H4 a fa f4 ma4 la => ?_⟩
                have gr4 : Gr [x.m, x.l, x.d] H H4 := gr3.more f4 (fun q m => by rw [List.mem_singleton.mp m]; simp) fun q hq => by rw [List.mem_singleton.mp hq]; exact ⟨_, ma4.ob⟩
                walk_at "vv"
                refine ⟨x, s3.tellAll, c, rfl, ma4, ec3, okc, fun H5 g fg s5 l5 => ?_⟩
                walk_at "vv"
                have nag : a ≠ g := by
                  obtain ⟨xs, h1, _⟩ := la
                  exact ne_of_none h1 fg
                exact m_pair hd (gr4.same s5) rfl rfl rfl rfl rfl (ma4.same s5) (LD.same la s5) l5 nag (gr3.fresh fa) (gr4.fresh fg)
              | some b0 =>
                rw [eb0] at hd
                walk_at "vv"
                refine ⟨_, _, rfl, dg ma3.ob mF_log, ?_⟩
                walk_at "vv"
                refine ⟨x.l, _, rfl, .inl (SqL.of ma3.lst), ?_⟩
                rw [List.length_map]
                walk_at "vv"
                by_cases le : s3.log.length = s.log.length
                · have hd : MDone H x Q (s3, [], []) := by
                    have h0 := hd
                    simp only [if_pos le] at h0
                    exact h0
                  refine n_iT (decide_eq_true (by rw [le])) ?_
                  walk_at "vv"
                  refine ⟨Nat.zero_le _, fun a fa => ?_⟩
                  walk_at "vv"
                  refine ⟨Nat.zero_le _, fun b fb => ?_⟩
                  walk_at "vv"
                  obtain ⟨z2, la, lb, nab, fa0, fb0⟩ := two0 gr fa fb
                  exact m_pair hd (gr.same z2) rfl rfl rfl rfl rfl (mg.same z2) la lb nab fa0 fb0
                · have hd : MDone H x Q (s3, [], [rowsD c b0 s3.log (s.log.length + 1)]) := by
                    have h0 := hd
                    simp only [if_neg le] at h0
                    exact h0
                  refine n_iF (decide_eq_false fun z => le (by injection z with z; omega)) ?_
                  walk_at "vv"
                  refine ⟨Nat.zero_le _, fun a fa => ?_⟩
                  have t1 : Same H3 (upd H3 a (.lst [])) := Same.new fa
                  walk_at "vv"
                  refine ⟨x, s3, c, b0, s.log.length + 1, rfl, ma3.same t1, ec3, okc, eb0, by omega, len3, fun H4 v t2 d2 => ?_⟩
                  walk_at "vv"
                  refine ⟨by show 1 ≤ sizeLine; decide, fun q fq => ?_⟩
                  have t3 : Same H4 (upd H4 q (.lst [v])) := Same.new fq
                  have t13 := Same.trans t1 (Same.trans t2 t3)
                  have k1 := t2 _ _ (upd_same (H := H3) (a := a) (o := .lst []))
                  walk_at "vv"
                  exact m_pair hd (gr3.same t13) rfl rfl rfl rfl rfl (ma3.same t13) (.nil (t3 _ _ k1)) ⟨_, upd_same, .cons (TD.to (Tups.ofSame t3) d2) .nil⟩ (ne_of_none k1 fq) (gr3.fresh fa) ((gr3.same (Same.trans t1 t2)).fresh fq)
      · rw [ef, cut_from, ← List.map_drop]
        refine go _ q _ (Same.new fq) (SqT.of upd_same) rfl _ fun H2 ma2 gr2 hy2 => ?_
        have ec2 : (s.plus (l.drop (s.log.length + 1 - f))).ch = some c := ec
        have len3 : ((s.plus (l.drop (s.log.length + 1 - f))).able f).log.length ≤ 1000 := by
          show (s.log ++ _).length ≤ 1000
          rw [List.length_append, List.length_drop]
          have := ok.len
          omega
        have er : (s.plus (l.drop (s.log.length + 1 - f))).ready = s.ready := rfl
        walk_at "vv"
        refine ⟨_, _, rfl, dg ma2.ob mF_ready, ?_⟩
        rw [er]
        cases rdy0 : s.ready with
        | true =>
          have et : ((s.plus (l.drop (s.log.length + 1 - f))).able f).ready = true := by unfold HS.able; rw [er, rdy0]; rfl
          walk_at "vv"
          refine ⟨x.m, _, rfl, DPut.k (k := Sum.inr "ready") ma2.ob (by show 6 < _; decide), ?_⟩
          rw [mput_ready]
          rw [← et]
          have ma3 : MA (upd H2 x.m (.dK (mF (ownV (s.plus (l.drop (s.log.length + 1 - f))) x.ct) x.l (s.plus (l.drop (s.log.length + 1 - f))).told ((s.plus (l.drop (s.log.length + 1 - f))).able f).ready x.d))) x ((s.plus (l.drop (s.log.length + 1 - f))).able f) := ma2.setR (b := ((s.plus (l.drop (s.log.length + 1 - f))).able f).ready)
          have gr3 : Gr [x.m, x.l, x.d] H (upd H2 x.m (.dK (mF (ownV (s.plus (l.drop (s.log.length + 1 - f))) x.ct) x.l (s.plus (l.drop (s.log.length + 1 - f))).told ((s.plus (l.drop (s.log.length + 1 - f))).able f).ready x.d))) := gr2.upd (by simp)
          generalize upd H2 x.m (.dK (mF (ownV (s.plus (l.drop (s.log.length + 1 - f))) x.ct) x.l (s.plus (l.drop (s.log.length + 1 - f))).told ((s.plus (l.drop (s.log.length + 1 - f))).able f).ready x.d)) = H3 at *
          have ec3 : ((s.plus (l.drop (s.log.length + 1 - f))).able f).ch = some c := ec2
          generalize (s.plus (l.drop (s.log.length + 1 - f))).able f = s3 at *
          dsimp only at hd
          walk_at "vv"
          refine ⟨_, _, rfl, dg ma3.ob mF_ready, ?_⟩
          have mg := ma3
          have gr := gr3
          cases rdy : s3.ready with
          | false =>
            rw [if_pos rdy] at hd
            walk_at "vv"
            refine ⟨Nat.zero_le _, fun a fa => ?_⟩
            walk_at "vv"
            refine ⟨Nat.zero_le _, fun b fb => ?_⟩
            walk_at "vv"
            obtain ⟨z2, la, lb, nab, fa0, fb0⟩ := two0 gr fa fb
            exact m_pair hd (gr.same z2) rfl rfl rfl rfl rfl (mg.same z2) la lb nab fa0 fb0
          | true =>
            rw [if_neg (by rw [rdy]; simp)] at hd
            walk_at "vv"
            refine ⟨x, s3, c, rfl, ma3, ec3, okc, ?_⟩
            cases eb0 : c.bh with
            | none =>
              rw [eb0] at hd
              walk_at "vv"
              refine ⟨x, s3, rfl, ma3, len3, fun H4 a fa f4 ma4 la => ?_⟩
              have gr4 : Gr [x.m, x.l, x.d] H H4 := gr3.more f4 (fun q m => by rw [List.mem_singleton.mp m]; simp) fun q hq => by rw [List.mem_singleton.mp hq]; exact ⟨_, ma4.ob⟩
              walk_at "vv"
              refine ⟨x, s3.tellAll, c, rfl, ma4, ec3, okc, fun H5 g fg s5 l5 => ?_⟩
              walk_at "vv"
              have nag : a ≠ g := by
                obtain ⟨xs, h1, _⟩ := la
                exact ne_of_none h1 fg
              exact m_pair hd (gr4.same s5) rfl rfl rfl rfl rfl (ma4.same s5) (LD.same la s5) l5 nag (gr3.fresh fa) (gr4.fresh fg)
            | some b0 =>
              rw [eb0] at hd
              walk_at "vv"
              refine ⟨_, _, rfl, dg ma3.ob mF_log, ?_⟩
              walk_at "vv"
              refine ⟨x.l, _, rfl, .inl (SqL.of ma3.lst), ?_⟩
              rw [List.length_map]
              walk_at "vv"
              by_cases le : s3.log.length = s.log.length
              · have hd : MDone H x Q (s3, [], []) := by
                  have h0 := hd
                  simp only [if_pos le] at h0
                  exact h0
                refine n_iT (decide_eq_true (by rw [le])) ?_
                walk_at "vv"
                refine ⟨Nat.zero_le _, fun a fa => ?_⟩
                walk_at "vv"
                refine ⟨Nat.zero_le _, fun b fb => ?_⟩
                walk_at "vv"
                obtain ⟨z2, la, lb, nab, fa0, fb0⟩ := two0 gr fa fb
                exact m_pair hd (gr.same z2) rfl rfl rfl rfl rfl (mg.same z2) la lb nab fa0 fb0
              · have hd : MDone H x Q (s3, [], [rowsD c b0 s3.log (s.log.length + 1)]) := by
                  have h0 := hd
                  simp only [if_neg le] at h0
                  exact h0
                refine n_iF (decide_eq_false fun z => le (by injection z with z; omega)) ?_
                walk_at "vv"
                refine ⟨Nat.zero_le _, fun a fa => ?_⟩
                have t1 : Same H3 (upd H3 a (.lst [])) := Same.new fa
                walk_at "vv"
                refine ⟨x, s3, c, b0, s.log.length + 1, rfl, ma3.same t1, ec3, okc, eb0, by omega, len3, fun H4 v t2 d2 => ?_⟩
                walk_at "vv"
                refine ⟨by show 1 ≤ sizeLine; decide, fun q fq => ?_⟩
                have t3 : Same H4 (upd H4 q (.lst [v])) := Same.new fq
                have t13 := Same.trans t1 (Same.trans t2 t3)
                have k1 := t2 _ _ (upd_same (H := H3) (a := a) (o := .lst []))
                walk_at "vv"
                exact m_pair hd (gr3.same t13) rfl rfl rfl rfl rfl (ma3.same t13) (.nil (t3 _ _ k1)) ⟨_, upd_same, .cons (TD.to (Tups.ofSame t3) d2) .nil⟩ (ne_of_none k1 fq) (gr3.fresh fa) ((gr3.same (Same.trans t1 t2)).fresh fq)
        | false =>
          walk_at "vv"
          refine n_ixT (SqT.of hy2) rfl ?_
          walk_at "vv"
          refine ⟨x.m, _, rfl, DPut.k (k := Sum.inr "ready") ma2.ob (by show 6 < _; decide), ?_⟩
          rw [mput_ready]
          rw [show decide (V.int (f : Int) = V.int 1) = ((s.plus (l.drop (s.log.length + 1 - f))).able f).ready by
            unfold HS.able
            rw [er, rdy0, Bool.false_or]
            by_cases f1 : f = 1
            · rw [decide_eq_true f1, f1]
              rfl
            · rw [decide_eq_false f1, decide_eq_false fun z => f1 (by injection z with z; omega)]]
          have ma3 : MA (upd H2 x.m (.dK (mF (ownV (s.plus (l.drop (s.log.length + 1 - f))) x.ct) x.l (s.plus (l.drop (s.log.length + 1 - f))).told ((s.plus (l.drop (s.log.length + 1 - f))).able f).ready x.d))) x ((s.plus (l.drop (s.log.length + 1 - f))).able f) := ma2.setR (b := ((s.plus (l.drop (s.log.length + 1 - f))).able f).ready)
          have gr3 : Gr [x.m, x.l, x.d] H (upd H2 x.m (.dK (mF (ownV (s.plus (l.drop (s.log.length + 1 - f))) x.ct) x.l (s.plus (l.drop (s.log.length + 1 - f))).told ((s.plus (l.drop (s.log.length + 1 - f))).able f).ready x.d))) := gr2.upd (by simp)
          generalize upd H2 x.m (.dK (mF (ownV (s.plus (l.drop (s.log.length + 1 - f))) x.ct) x.l (s.plus (l.drop (s.log.length + 1 - f))).told ((s.plus (l.drop (s.log.length + 1 - f))).able f).ready x.d)) = H3 at *
          have ec3 : ((s.plus (l.drop (s.log.length + 1 - f))).able f).ch = some c := ec2
          generalize (s.plus (l.drop (s.log.length + 1 - f))).able f = s3 at *
          dsimp only at hd
          walk_at "vv"
          refine ⟨_, _, rfl, dg ma3.ob mF_ready, ?_⟩
          have mg := ma3
          have gr := gr3
          cases rdy : s3.ready with
          | false =>
            rw [if_pos rdy] at hd
            walk_at "vv"
            refine ⟨Nat.zero_le _, fun a fa => ?_⟩
            walk_at "vv"
            refine ⟨Nat.zero_le _, fun b fb => ?_⟩
            walk_at "vv"
            obtain ⟨z2, la, lb, nab, fa0, fb0⟩ := two0 gr fa fb
            exact m_pair hd (gr.same z2) rfl rfl rfl rfl rfl (mg.same z2) la lb nab fa0 fb0
          | true =>
            rw [if_neg (by rw [rdy]; simp)] at hd
            walk_at "vv"
            refine ⟨x, s3, c, rfl, ma3, ec3, okc, ?_⟩
            cases eb0 : c.bh with
            | none =>
              rw [eb0] at hd
              walk_at "vv"
              refine ⟨x, s3, rfl, ma3, len3, fun H4 a fa f4 ma4 la => ?_⟩
              have gr4 : Gr [x.m, x.l, x.d] H H4 := gr3.more f4 (fun q m => by rw [List.mem_singleton.mp m]; simp) fun q hq => by rw [List.mem_singleton.mp hq]; exact ⟨_, ma4.ob⟩
              walk_at "vv"
              refine ⟨x, s3.tellAll, c, rfl, ma4, ec3, okc, fun H5 g fg s5 l5 => ?_⟩
              walk_at "vv"
              have nag : a ≠ g := by
                obtain ⟨xs, h1, _⟩ := la
                exact ne_of_none h1 fg
              exact m_pair hd (gr4.same s5) rfl rfl rfl rfl rfl (ma4.same s5) (LD.same la s5) l5 nag (gr3.fresh fa) (gr4.fresh fg)
            | some b0 =>
              rw [eb0] at hd
              walk_at "vv"
              refine ⟨_, _, rfl, dg ma3.ob mF_log, ?_⟩
              walk_at "vv"
              refine ⟨x.l, _, rfl, .inl (SqL.of ma3.lst), ?_⟩
              rw [List.length_map]
              walk_at "vv"
              by_cases le : s3.log.length = s.log.length
              · have hd : MDone H x Q (s3, [], []) := by
                  have h0 := hd
                  simp only [if_pos le] at h0
                  exact h0
                refine n_iT (decide_eq_true (by rw [le])) ?_
                walk_at "vv"
                refine ⟨Nat.zero_le _, fun a fa => ?_⟩
                walk_at "vv"
                refine ⟨Nat.zero_le _, fun b fb => ?_⟩
                walk_at "vv"
                obtain ⟨z2, la, lb, nab, fa0, fb0⟩ := two0 gr fa fb
                exact m_pair hd (gr.same z2) rfl rfl rfl rfl rfl (mg.same z2) la lb nab fa0 fb0
              · have hd : MDone H x Q (s3, [], [rowsD c b0 s3.log (s.log.length + 1)]) := by
                  have h0 := hd
                  simp only [if_neg le] at h0
                  exact h0
                refine n_iF (decide_eq_false fun z => le (by injection z with z; omega)) ?_
                walk_at "vv"
                refine ⟨Nat.zero_le _, fun a fa => ?_⟩
                have t1 : Same H3 (upd H3 a (.lst [])) := Same.new fa
                walk_at "vv"
                refine ⟨x, s3, c, b0, s.log.length + 1, rfl, ma3.same t1, ec3, okc, eb0, by omega, len3, fun H4 v t2 d2 => ?_⟩
                walk_at "vv"
                refine ⟨by show 1 ≤ sizeLine; decide, fun q fq => ?_⟩
                have t3 : Same H4 (upd H4 q (.lst [v])) := Same.new fq
                have t13 := Same.trans t1 (Same.trans t2 t3)
                have k1 := t2 _ _ (upd_same (H := H3) (a := a) (o := .lst []))
                walk_at "vv"
                exact m_pair hd (gr3.same t13) rfl rfl rfl rfl rfl (ma3.same t13) (.nil (t3 _ _ k1)) ⟨_, upd_same, .cons (TD.to (Tups.ofSame t3) d2) .nil⟩ (ne_of_none k1 fq) (gr3.fresh fa) ((gr3.same (Same.trans t1 t2)).fresh fq)
  · rw [if_pos (.inl eb)] at hd
    refine n_iT (by rw [decide_eq_false eb]; rfl) ?_
    walk_at "vv"
    refine ⟨Nat.zero_le _, fun a fa => ?_⟩
    walk_at "vv"
    refine ⟨Nat.zero_le _, fun b fb => ?_⟩
    walk_at "vv"
    obtain ⟨z2, la, lb, nab, fa0, fb0⟩ := two0 gr fa fb
    exact m_pair hd (gr.same z2) rfl rfl rfl rfl rfl (mg.same z2) la lb nab fa0 fb0
theorem ok_l_read (T : Txt w K mg A) (D : GD K mg "_law_read" s_l_read) (c_l_last : Cal P w K mg base 1 "_law_last" sp_l_last) (c_l_stands : Cal P w K mg base 1 "_law_stands" sp_l_stands) (c_l_behind : Cal P w K mg base 1 "_law_behind" sp_l_behind)
    (c_l_letter : Cal P w K mg base 1 "_law_letter" sp_l_letter) : Cal P w K mg base 2 "_law_read" sp_l_read := by
  have S := sc_l_read.sc
  refine cal_mk D sc_l_read (fun vs H Q E h => by obtain ⟨x, s, k, key, rfl, _⟩ := h; rfl) fun f0 cdv A0 outer s0 H vs Q E hr h => ?_
  obtain ⟨x, s, k, key, rfl, ma, ok, hd⟩ := h
  refine ⟨_, (pss_cons (ps_if (pt_cmp (pc_din (hu_of hr) (pv 1) (pe_dget (hu_of hr) (pv 0) pe_str (fun _ _ => rfl))))
          (pss_one (ps_ret pe_str))
          pss_nil)
        (pss_cons (ps_if (pt_not (pt_val (pc c_l_stands hr (by decide) rfl (pa_cons (pv 0) pa_nil))))
          (pss_one (ps_ret pe_str))
          pss_nil)
        (pss_cons (ps_setLc (i := 3) (own := [("_law_row_here", 4)]) (g := gName 4) (by rfl) S.nd rfl rfl (sw_true rfl rfl rfl (by decide +kernel)) (pi_list (pe_slice sl_list (pe_dget (hu_of hr) (pv 0) pe_str (fun _ _ => rfl)) (po_some (pe_dget (hu_of hr) (pv 0) pe_str (fun _ _ => rfl))) po_none)) (blkOk_by (own := [("_law_row_here", 4)]) (N := N_l_read) (sc := defScope s_l_read) (by decide +kernel)) (fun _ _ _ _ _ => pg_name (i := 4) S.nd rfl (Or.inl rfl)) (fun _ _ _ _ _ => pts_one (pt_cmpR op_eq (ixTK K (pv 4) pe_int (fun _ _ => rfl)) (pv 2) (nomark _))) (fun _ _ _ _ _ => (pv 4)))
        (pss_cons (ps_if (PW.pt (pw_or (pt_cmpR op_isN (pc c_l_behind hr (by decide) rfl (pa_cons (pv 0) pa_nil)) pe_non (nomark _)) (pw_or1 (pt_cmpR (op_eqD hr.units) (pv 3) (pe_lst pa_nil) (nomark _)))))
          (pss_one (ps_ret (pe_tup (pa_cons (pe_lst (pa_cons (pe_tup (pa_cons pe_str (pa_cons (pv 1) (pa_cons (pc c_l_last hr (by decide) rfl (pa_cons (pe_dget (hu_of hr) (pv 0) pe_str (fun _ _ => rfl)) (pa_cons (pv 2) pa_nil))) pa_nil)))) pa_nil)) (pa_cons (pe_lst pa_nil) pa_nil)))))
          pss_nil)
        (pss_cons (ps_dput (hu_of hr) (pe_dget (hu_of hr) (pv 0) pe_str (fun _ _ => rfl)) (pv 1) (pv 2) rfl)
        (pss_one (ps_ret (pe_tup (pa_cons (pe_lst pa_nil) (pa_cons (pe_lst (pa_cons (pc c_l_letter hr (by decide) rfl (pa_cons (pv 0) (pa_cons pe_str (pa_cons (pe_ix ix_list (pe_ix ix_tup (pe_dget (hu_of hr) (pv 0) pe_str (fun _ _ => rfl)) pe_int (fun _ _ => rfl)) (pe_un un_neg pe_int) (fun _ _ => rfl)) (pa_cons (pe_tup (pa_cons (pv 1) pa_nil)) pa_nil))))) pa_nil)) pa_nil)))))))))), ?_⟩
  walk_at "vv"
  refine ⟨_, _, rfl, dg ma.ob mF_asks, ?_⟩
  refine ⟨x.d, (keyA s.asks k).map V.str, rfl, dgi ma.asks, ?_⟩
  cases hka : keyA s.asks k with
  | some key0 =>
    rw [show rd s k key = .ask by unfold rd; exact if_pos (by rw [hka]; rfl)] at hd
    walk_at "vv"
    exact hd H (Same.refl H)
  | none =>
    walk_at "vv"
    refine ⟨x, s, rfl, ma, ?_⟩
    have nka : ¬ (keyA s.asks k).isSome = true := by rw [hka]; simp
    cases ec : s.ch with
    | none =>
      rw [show rd s k key = .ready by unfold rd; rw [if_neg nka, ec]] at hd
      rw [show s.stands = false by unfold HS.stands; rw [ec]; rfl]
      walk_at "vv"
      exact hd H (Same.refl H)
    | some c =>
      have okc := ok.ch c ec
      cases rdy : s.ready with
      | false =>
        rw [show rd s k key = .ready by unfold rd; rw [if_neg nka, ec]; exact if_pos rdy] at hd
        rw [show s.stands = false by unfold HS.stands; rw [ec, rdy]; rfl]
        walk_at "vv"
        exact hd H (Same.refl H)
      | true =>
        rw [show s.stands = true by unfold HS.stands; rw [ec, rdy]; rfl]
        have nr : ¬ s.ready = false := by rw [rdy]; simp
        have rdo : rd s k key = if c.B = [] ∨ lastW (s.log.drop s.told) key = none then .ok (s, [worthD k (lastW s.log key)], []) else .ok (s.ask k key, [], [whichD c k]) := by
          unfold rd
          rw [if_neg nka, ec]
          dsimp only
          rw [if_neg nr]
        walk_at "vv"
        refine n_lcF ?_
        walk_at "vv"
        refine ⟨_, _, rfl, dg ma.ob mF_log, ?_⟩
        walk_at "vv"
        refine ⟨_, _, rfl, dg ma.ob mF_told, ?_⟩
        walk_at "vv"
        refine ⟨x.l, _, rfl, SqL.of ma.lst, fun q fq => ?_⟩
        rw [cut_from, ← List.map_drop]
        have s1 : Same H (upd H q (.lst ((s.log.drop s.told).map Row.v))) := Same.new fq
        have ma1 := ma.same s1
        have hq : upd H q (.lst ((s.log.drop s.told).map Row.v)) q = _ := upd_same
        generalize upd H q (.lst ((s.log.drop s.told).map Row.v)) = H1 at *
        have ldr : ((s.log.drop s.told).map Row.v).length ≤ 150 := by rw [List.length_map, List.length_drop]; have := ok.len; omega
        refine ⟨q, rfl, ⟨_, SqL.of hq⟩, fun Dd fD => lc_list (K := K) (a := q) (xs := (s.log.drop s.told).map Row.v)
          (fun i H' => Same H1 H' ∧ H' Dd = some (.lst ((((s.log.drop s.told).take i).filter fun r => decide (r.key = key)).map Row.v))) ⟨Same.new fD, upd_same⟩ (fun i H' _ p => SqL.of (p.1 _ _ hq)) ?_ ?_⟩
        · rintro i y H' hi ⟨s2, hDd⟩
          obtain ⟨r, hr1, rfl⟩ : ∃ r, (s.log.drop s.told)[i]? = some r ∧ y = Row.v r := by
            rw [List.getElem?_map] at hi
            obtain ⟨r, h1, h2⟩ := Option.map_eq_some_iff.mp hi
            exact ⟨r, h1, h2.symm⟩
          have ra := (ma1.same s2).rows.at_ r (List.mem_of_mem_drop (List.mem_of_getElem? hr1))
          have et : (s.log.drop s.told).take (i + 1) = (s.log.drop s.told).take i ++ [r] := by rw [List.take_add_one, hr1]; rfl
          refine ⟨rfl, ?_⟩
          walk_at "vv"
          refine n_ixT (SqT.of ra) (v := .str r.key) rfl ?_
          walk_at "vv"
          by_cases e : r.key = key
          · refine n_iT (by rw [e]; exact decide_eq_true rfl) ?_
            walk_at "vv"
            refine ⟨_, hDd, ?_, Same.put s2 fD, ?_⟩
            · have : (((s.log.drop s.told).take i).filter fun r => decide (r.key = key)).length ≤ (s.log.drop s.told).length := Nat.le_trans (List.length_filter_le _ _) (by rw [List.length_take]; omega)
              rw [List.length_map] at ldr ⊢
              exact Nat.lt_of_le_of_lt (m := 150) (by omega) (by decide)
            · rw [upd_same, et, List.filter_append, List.filter_cons_of_pos (by simp [e]), List.map_append]
              rfl
          · refine n_iF (decide_eq_false fun q => e (by injection q)) ?_
            refine ⟨s2, ?_⟩
            rw [hDd, et, List.filter_append, List.filter_cons_of_neg (by simp [e])]
            simp
        · rintro H2 ⟨s2, hDd⟩
          rw [List.length_map, List.take_length] at hDd
          have ma2 := ma1.same s2
          have gr2 := ma.gr (Same.trans s1 s2)
          have hnil := last_none (key := key) _ (s.log.drop s.told) rfl
          have okf : ∀ r ∈ (s.log.drop s.told).filter fun r => decide (r.key = key), r.Ok := fun r hr => ma.rows.ok r (List.mem_of_mem_drop (List.mem_filter.mp hr).1)
          have hRf : RowsOk H2 ((s.log.drop s.told).filter fun r => decide (r.key = key)) := ma2.rows.sub fun r hr => List.mem_of_mem_drop (List.mem_filter.mp hr).1
          generalize (s.log.drop s.told).filter (fun r => decide (r.key = key)) = fl at *
          walk_at "vv"
          refine ⟨x, s, c, rfl, ma2, ec, okc, ?_⟩
          by_cases tb : c.B = []
          · rw [rdo, if_pos (.inl tb)] at hd
            rw [c.bh_nil tb]
            walk_at "vv"
            refine ⟨_, _, rfl, dg ma2.ob mF_log, ?_⟩
            walk_at "vv"
            refine ⟨x.l, s.log, key, rfl, ma2.lst, ma2.rows, ?_⟩
            walk_at "vv"
            refine ⟨by show 3 ≤ sizeLine; decide, fun t ft => ?_⟩
            have s3 := Same.new (o := .tup [.str "worth", .int k, oi (lastW s.log key)]) ft
            walk_at "vv"
            refine ⟨by show 1 ≤ sizeLine; decide, fun a fa => ?_⟩
            have s4 := Same.new (o := .lst [.ref t]) fa
            walk_at "vv"
            refine ⟨Nat.zero_le _, fun b2 fb => ?_⟩
            have s5 := Same.new (o := .lst []) fb
            walk_at "vv"
            exact m_pair hd (gr2.same (Same.trans s3 (Same.trans s4 s5))) rfl rfl rfl rfl rfl (ma2.same (Same.trans s3 (Same.trans s4 s5))) ⟨_, s5 _ _ upd_same, .cons (.tup (s5 _ _ (s4 _ _ upd_same)) (.cons (.str _) (.cons (.int _) (.cons (td_oi _ _) .nil)))) .nil⟩ (.nil upd_same) (ne_of_none upd_same fb) ((gr2.same s3).fresh fa) ((gr2.same (Same.trans s3 s4)).fresh fb)
          · obtain ⟨b0, eb0, _⟩ := c.all_bh tb
            rw [eb0]
            walk_at "vv"
            refine ⟨Nat.zero_le _, fun z fz => ?_⟩
            have s3 := Same.new (o := .lst []) fz
            have kz := upd_same (H := H2) (a := z) (o := .lst [])
            have kD := s3 _ _ hDd
            have ma2 := ma2.same s3
            have gr2 := gr2.same s3
            have hRf := hRf.to (Tups.ofSame s3)
            generalize upd H2 z (.lst []) = H3 at *
            refine ⟨.list (fl.map Row.d), .list [], .lst (SqL.of kD) (TDs.dp (TDs.rows hRf)), .lst (SqL.of kz) .nil, (sh_lst (n := 1) fun d hd => by obtain ⟨r, hr, rfl⟩ := List.mem_map.mp hd; exact Row.sh (okf r hr)).shaped (by decide), rfl, ?_⟩
            cases hfl : fl with
            | nil =>
              rw [rdo, if_pos (.inr (hnil.mpr hfl))] at hd
              walk_at "v"
              refine n_iT (by rfl) ?_
              walk_at "vv"
              refine ⟨_, _, rfl, dg ma2.ob mF_log, ?_⟩
              walk_at "vv"
              refine ⟨x.l, s.log, key, rfl, ma2.lst, ma2.rows, ?_⟩
              walk_at "vv"
              refine ⟨by show 3 ≤ sizeLine; decide, fun t ft => ?_⟩
              have s3 := Same.new (o := .tup [.str "worth", .int k, oi (lastW s.log key)]) ft
              walk_at "vv"
              refine ⟨by show 1 ≤ sizeLine; decide, fun a fa => ?_⟩
              have s4 := Same.new (o := .lst [.ref t]) fa
              walk_at "vv"
              refine ⟨Nat.zero_le _, fun b2 fb => ?_⟩
              have s5 := Same.new (o := .lst []) fb
              walk_at "vv"
              exact m_pair hd (gr2.same (Same.trans s3 (Same.trans s4 s5))) rfl rfl rfl rfl rfl (ma2.same (Same.trans s3 (Same.trans s4 s5))) ⟨_, s5 _ _ upd_same, .cons (.tup (s5 _ _ (s4 _ _ upd_same)) (.cons (.str _) (.cons (.int _) (.cons (td_oi _ _) .nil)))) .nil⟩ (.nil upd_same) (ne_of_none upd_same fb) ((gr2.same s3).fresh fa) ((gr2.same (Same.trans s3 s4)).fresh fb)
            | cons r0 rs =>
              rw [rdo, if_neg (fun q => q.elim tb fun e => by rw [hnil.mp e] at hfl; cases hfl)] at hd
              walk_at "v"
              refine n_iF (by rfl) ?_
              walk_at "vv"
              refine ⟨_, _, rfl, dg ma2.ob mF_asks, ?_⟩
              walk_at "vv"
              refine ⟨x.d, _, rfl, DPut.k (k := Sum.inl k) ma2.asks (Nat.lt_trans (m := 100) (by rw [kvA_len]; have := ok.few; omega) (by decide)), ?_⟩
              rw [putK_new' hka]
              have ma3 : MA (upd H3 x.d (.dK (kvA (s.asks ++ [(k, key)])))) x (s.ask k key) := ma2.asked
              have gr3 : Gr [x.m, x.l, x.d] H (upd H3 x.d (.dK (kvA (s.asks ++ [(k, key)])))) := gr2.upd (by simp)
              generalize upd H3 x.d (.dK (kvA (s.asks ++ [(k, key)]))) = H4 at *
              have ec3 : (s.ask k key).ch = some c := ec
              obtain ⟨hct, hcl⟩ := ma3.chain ec3
              walk_at "vv"
              refine ⟨Nat.zero_le _, fun a fa => ?_⟩
              have t1 : Same H4 (upd H4 a (.lst [])) := Same.new fa
              walk_at "vv"
              refine ⟨_, _, rfl, dg (t1 _ _ (ma3.obC ec3)) mF_chain, ?_⟩
              walk_at "vv"
              refine n_ixT (SqT.of (t1 _ _ hct)) rfl ?_
              walk_at "vv"
              refine n_ixL (SqL.of (t1 _ _ hcl)) (atI_neg1 (v := .str c.tl) (by rw [List.length_map, List.getElem?_map, c.all_tl]; rfl)) ?_
              walk_at "vv"
              refine ⟨by show 1 ≤ sizeLine; decide, fun m hm => ?_⟩
              have t2 := Same.new (o := .tup [.int k]) hm
              walk_at "vv"
              refine ⟨x, s.ask k key, c, "which", c.tl, m, [.int k], rfl, ma3.same (Same.trans t1 t2), ec3, upd_same, by simp, by show 1 ≤ 100; decide, fun H5 g fg t3 h3 => ?_⟩
              walk_at "vv"
              refine ⟨by show 1 ≤ sizeLine; decide, fun b fb => ?_⟩
              have t13 := Same.trans (Same.trans t1 t2) t3
              have t4 : Same H5 (upd H5 b (.lst [.ref g])) := Same.new fb
              have t14 := Same.trans t13 t4
              have k1 := (Same.trans t2 t3) _ _ (upd_same (H := H4) (a := a) (o := .lst []))
              walk_at "vv"
              exact m_pair hd (gr3.same t14) rfl rfl rfl rfl rfl (ma3.same t14) (.nil (t4 _ _ k1)) ⟨_, upd_same, .cons (.tup (t4 _ _ h3) (.cons (.str _) (.cons (.int _) (.cons (.str _) (.cons (.str _) (.cons (.int _) .nil)))))) .nil⟩ (ne_of_none k1 fb) (gr3.fresh fa) ((gr3.same t13).fresh fb)
end
end Ck

namespace Ck
open PySem PySem.Spec PyProof.Rows L2
local macro_rules | `(tactic| walk_at "v") => `(tactic| (first | with_reducible refine n_seq ?_ | with_reducible refine n_ifs ?_ | with_reducible refine n_asg ?_ | with_reducible refine n_name ?_ | with_reducible refine n_ret ?_ | with_reducible refine n_drop ?_ | with_reducible refine n_next ?_ | ((with_reducible refine' n_var ?e ?_); (case e => rfl)) | with_reducible refine n_c ?_ | with_reducible refine n_op ?_ | with_reducible refine n_un ?_ | with_reducible refine n_test ?_ | with_reducible refine n_B ?_ | with_reducible refine n_ex ?_ | with_reducible refine n_and ?_ | with_reducible refine n_or ?_ | with_reducible refine n_not ?_ | with_reducible refine n_andV ?_ | with_reducible refine n_orV ?_ | with_reducible refine n_notV ?_ | with_reducible refine n_cons ?_ | with_reducible refine n_nil ?_ | with_reducible refine n_cb ?_ | with_reducible refine n_call ?_ | with_reducible refine n_I0 ?_ | with_reducible refine n_tup ?_ | with_reducible refine n_lst ?_ | with_reducible refine n_sl ?_ | with_reducible refine n_part ?_ | with_reducible refine n_nopart ?_ | with_reducible refine n_exI ?_ | with_reducible refine n_chain ?_ | with_reducible refine n_dget ?_ | with_reducible refine n_meth ?_ | with_reducible refine n_bm ?_ | with_reducible refine n_bm0 ?_ | with_reducible refine n_sfld ?_ | with_reducible refine n_fld ?_ | with_reducible refine n_for ?_ | with_reducible refine n_dpop1 ?_ | with_reducible refine n_din ?_ | with_reducible refine n_dnotin ?_ | with_reducible refine n_dput ?_ | with_reducible refine n_nn ?_ | with_reducible refine n_rU ?_ | with_reducible refine n_lss ?_ | with_reducible refine n_kget ?_ | with_reducible refine n_iL ?_ | with_reducible refine n_iE ?_ | with_reducible refine n_iR ?_ | with_reducible refine n_lc ?_ | with_reducible refine n_lcT ?_ | with_reducible refine n_lcS ?_ | with_reducible refine n_gTup ?_ | with_reducible refine n_gCons ?_ | with_reducible refine n_gNil ?_ | ((with_reducible refine n_eq ?e ?_); (case e => rfl)) | ((with_reducible refine n_ne ?e ?_); (case e => rfl)) | ((with_reducible refine n_iT ?e ?_); (case e => rfl)) | ((with_reducible refine n_iF ?e ?_); (case e => rfl))))
local macro_rules | `(tactic| walk_at "vv") => `(tactic| repeat walk_at "v")
section
variable {P : Program} {w : World} {K : PySem.W.Frag} {mg : Str → Option Value} {base : Heap} {A : Ad}
theorem ok_l_took (T : Txt w K mg A) (D : GD K mg "_law_took" s_l_took) (c_l_last : Cal P w K mg base 1 "_law_last" sp_l_last) (c_l_letter : Cal P w K mg base 1 "_law_letter" sp_l_letter) (c_l_behind : Cal P w K mg base 1 "_law_behind" sp_l_behind)
    (c_l_took_rows : Cal P w K mg base 3 "_law_took_rows" sp_l_took_rows) (c_l_told_up : Cal P w K mg base 2 "_law_told_up" sp_l_told_up) : Cal P w K mg base 4 "_law_took" sp_l_took := by
  have S := sc_l_took.sc
  refine cal_mk D sc_l_took (fun vs H Q E h => by obtain ⟨x, s, a, y, rfl, _⟩ := h; rfl) fun f0 cdv A0 outer s0 H vs Q E hr h => ?_
  obtain ⟨x, s, la, y, rfl, ma, ok, hy, oky, hd⟩ := h
  refine ⟨_, (pss_cons (ps_if (PW.pt (pw_or (pt_cmpR op_isN (pe_dget (hu_of hr) (pv 0) pe_str (fun _ _ => rfl)) pe_non (nomark _)) (pw_or1 (pt_cmpR op_ne (pe_ix ix_tup (pv 1) pe_int (fun _ _ => rfl)) (pe_ix ix_tup (pe_dget (hu_of hr) (pv 0) pe_str (fun _ _ => rfl)) pe_int (fun _ _ => rfl)) (nomark _)))))
          (pss_one (ps_ret (pe_tup (pa_cons (pe_lst pa_nil) (pa_cons (pe_lst pa_nil) pa_nil)))))
          pss_nil)
        (pss_cons (ps_if (pt_cmpR op_eq (pe_ix ix_tup (pv 1) pe_int (fun _ _ => rfl)) pe_str (nomark _))
          (pss_one (ps_ret (pc c_l_took_rows hr (by decide) rfl (pa_cons (pv 0) (pa_cons (pv 1) pa_nil)))))
          pss_nil)
        (pss_cons (ps_set (i := 2) S.nd rfl (Or.inl rfl) (pe_callB call_len_seq (by rfl) T.b_len PySem.boot_len (pa_cons (pe_dget (hu_of hr) (pv 0) pe_str (fun _ _ => rfl)) pa_nil)))
        (pss_cons (ps_if (PW.pt (pw_and (pt_cmpR op_eq (pe_ix ix_tup (pv 1) pe_int (fun _ _ => rfl)) pe_str (nomark _)) (pw_and (pt_cmpR op_eq (pe_ix ix_tup (pv 1) pe_int (fun _ _ => rfl)) (pc c_l_behind hr (by decide) rfl (pa_cons (pv 0) pa_nil)) (nomark _)) (pw_and1 (pt_cmpR op_le (pe_ix ix_tup (pv 1) pe_int (fun _ _ => rfl)) (pv 2) (nomark _))))))
          (pss_cons (ps_dput (hu_of hr) (pv 0) pe_str (pe_callB (call_max2 rfl) (by rfl) T.b_max (by decide +kernel) (pa_cons (pe_dget (hu_of hr) (pv 0) pe_str (fun _ _ => rfl)) (pa_cons (pe_ix ix_tup (pv 1) pe_int (fun _ _ => rfl)) pa_nil))) rfl)
          (pss_one (ps_ret (pe_tup (pa_cons (pe_lst pa_nil) (pa_cons (pc c_l_told_up hr (by decide) rfl (pa_cons (pv 0) pa_nil)) pa_nil))))))
          pss_nil)
        (pss_cons (ps_if (PW.pt (pw_and (pt_cmpR op_eq (pe_ix ix_tup (pv 1) pe_int (fun _ _ => rfl)) pe_str (nomark _)) (pw_and (pt_val (pe_dget (hu_of hr) (pv 0) pe_str (fun _ _ => rfl))) (pw_and1 (pt_cmpR op_isN (pc c_l_behind hr (by decide) rfl (pa_cons (pv 0) pa_nil)) pe_non (nomark _))))))
          (pss_one (ps_ret (pe_tup (pa_cons (pe_lst pa_nil) (pa_cons (pe_lst (pa_cons (pc c_l_letter hr (by decide) rfl (pa_cons (pv 0) (pa_cons pe_str (pa_cons (pe_ix ix_tup (pv 1) pe_int (fun _ _ => rfl)) (pa_cons (pe_tup (pa_cons (pe_ix ix_tup (pv 1) pe_int (fun _ _ => rfl)) (pa_cons (pe_dget (hu_of hr) (pv 0) pe_str (fun _ _ => rfl)) pa_nil))) pa_nil))))) pa_nil)) pa_nil)))))
          pss_nil)
        (pss_cons (ps_if (PW.pt (pw_or (pt_cmpR op_ne (pe_ix ix_tup (pv 1) pe_int (fun _ _ => rfl)) pe_str (nomark _)) (pw_or (pt_cmpR op_ne (pe_ix ix_tup (pv 1) pe_int (fun _ _ => rfl)) (pe_ix ix_list (pe_ix ix_tup (pe_dget (hu_of hr) (pv 0) pe_str (fun _ _ => rfl)) pe_int (fun _ _ => rfl)) (pe_un un_neg pe_int) (fun _ _ => rfl)) (nomark _)) (pw_or1 (pt_cmpR op_gt (pe_ix ix_tup (pv 1) pe_int (fun _ _ => rfl)) (pv 2) (nomark _))))))
          (pss_one (ps_ret (pe_tup (pa_cons (pe_lst pa_nil) (pa_cons (pe_lst pa_nil) pa_nil)))))
          pss_nil)
        (pss_cons (ps_if (pt_cmp (pc_din (hu_of hr) (pe_ix ix_tup (pv 1) pe_int (fun _ _ => rfl)) (pe_dget (hu_of hr) (pv 0) pe_str (fun _ _ => rfl))))
          (pss_cons (ps_set (i := 3) S.nd rfl (Or.inl rfl) (pe_dpop1 (pe_dget (hu_of hr) (pv 0) pe_str (fun _ _ => rfl)) (pe_ix ix_tup (pv 1) pe_int (fun _ _ => rfl)) ⟨rfl, rfl, rfl, rfl⟩))
          (pss_one (ps_ret (pe_tup (pa_cons (pe_lst (pa_cons (pe_tup (pa_cons pe_str (pa_cons (pe_ix ix_tup (pv 1) pe_int (fun _ _ => rfl)) (pa_cons (pc c_l_last hr (by decide) rfl (pa_cons (pe_slice sl_list (pe_dget (hu_of hr) (pv 0) pe_str (fun _ _ => rfl)) po_none (po_some (pe_ix ix_tup (pv 1) pe_int (fun _ _ => rfl)))) (pa_cons (pv 3) pa_nil))) pa_nil)))) pa_nil)) (pa_cons (pe_lst pa_nil) pa_nil))))))
          pss_nil)
        (pss_one (ps_ret (pe_tup (pa_cons (pe_lst pa_nil) (pa_cons (pe_lst pa_nil) pa_nil)))))))))))), ?_⟩
  unfold took at hd
  have gr := ma.gr (Same.refl H)
  obtain ⟨hy1, hy2⟩ := id hy
  obtain ⟨oy1, oy2, oy3⟩ := id oky
  walk_at "vv"
  refine ⟨_, _, rfl, dg ma.ob mF_chain, ?_⟩
  cases ec : s.ch with
  | none =>
    rw [ec] at hd
    rw [show ownV s x.ct = .non by unfold ownV; rw [ec]]
    walk_at "vv"
    refine ⟨Nat.zero_le _, fun a fa => ?_⟩
    walk_at "vv"
    refine ⟨Nat.zero_le _, fun b fb => ?_⟩
    walk_at "vv"
    obtain ⟨z2, la, lb, nab, fa0, fb0⟩ := two0 gr fa fb
    exact m_pair hd (gr.same z2) rfl rfl rfl rfl rfl (ma.same z2) la lb nab fa0 fb0
  | some c =>
    rw [ec] at hd
    dsimp only at hd
    have okc := ok.ch c ec
    obtain ⟨hct, hcl⟩ := ma.chain ec
    have ob := ma.obC ec
    rw [MA.own ec]
    cases y with
    | rows n b f l ra =>
      walk_at "vv"
      refine n_ixT (SqT.of hy1) rfl ?_
      walk_at "vv"
      refine ⟨_, _, rfl, dg ob mF_chain, ?_⟩
      walk_at "vv"
      refine n_ixT (SqT.of hct) rfl ?_
      walk_at "vv"
      by_cases en : n = c.num
      · rw [if_neg (show ¬ ¬ (Lt.rows n b f l ra).num = c.num from fun q => q en)] at hd
        refine n_iF (by rw [decide_eq_true (congrArg V.int en)]; rfl) ?_
        walk_at "vv"
        refine n_ixT (SqT.of hy1) rfl ?_
        walk_at "vv"
        exact ⟨x, s, c, n, b, f, l, ra, la, rfl, ma, ok, ec, hy, oky, hd⟩
      · rw [if_pos (show ¬ (Lt.rows n b f l ra).num = c.num from en)] at hd
        refine n_iT (by rw [decide_eq_false fun z => en (by injection z)]; rfl) ?_
        walk_at "vv"
        refine ⟨Nat.zero_le _, fun a fa => ?_⟩
        walk_at "vv"
        refine ⟨Nat.zero_le _, fun b fb => ?_⟩
        walk_at "vv"
        obtain ⟨z2, la, lb, nab, fa0, fb0⟩ := two0 gr fa fb
        exact m_pair hd (gr.same z2) rfl rfl rfl rfl rfl (ma.same z2) la lb nab fa0 fb0
    | told n b m =>
      walk_at "vv"
      refine n_ixT (SqT.of hy1) rfl ?_
      walk_at "vv"
      refine ⟨_, _, rfl, dg ob mF_chain, ?_⟩
      walk_at "vv"
      refine n_ixT (SqT.of hct) rfl ?_
      walk_at "vv"
      by_cases en : n = c.num
      · rw [if_neg (show ¬ ¬ (Lt.told n b m).num = c.num from fun q => q en)] at hd
        refine n_iF (by rw [decide_eq_true (congrArg V.int en)]; rfl) ?_
        unfold tookTold at hd
        dsimp only at hd
        walk_at "vv"
        refine n_ixT (SqT.of hy1) rfl ?_
        walk_at "vv"
        walk_at "vv"
        refine ⟨_, _, rfl, dg ob mF_log, ?_⟩
        walk_at "vv"
        refine ⟨x.l, _, rfl, .inl (SqL.of ma.lst), ?_⟩
        rw [List.length_map]
        walk_at "vv"
        walk_at "vv"
        refine n_ixT (SqT.of hy1) rfl ?_
        walk_at "vv"
        walk_at "vv"
        refine n_ixT (SqT.of hy1) rfl ?_
        walk_at "vv"
        refine ⟨x, s, c, rfl, ma, ec, okc, ?_⟩
        refine n_eq scal_ov ?_
        rw [ov_ne]
        by_cases eb : c.bh = some b
        · walk_at "vv"
          refine n_iT (decide_eq_true eb) ?_
          walk_at "vv"
          refine n_ixT (SqT.of hy1) rfl ?_
          walk_at "vv"
          by_cases lm : (s.log.length : Int) < m
          · rw [if_pos (.inr lm)] at hd
            refine n_iF (decide_eq_false (by omega)) ?_
            walk_at "vv"
            refine n_ixT (SqT.of hy1) rfl ?_
            walk_at "vv"
            walk_at "vv"
            refine n_ixT (SqT.of hy1) rfl ?_
            walk_at "vv"
            walk_at "vv"
            refine ⟨Nat.zero_le _, fun a fa => ?_⟩
            walk_at "vv"
            refine ⟨Nat.zero_le _, fun b fb => ?_⟩
            walk_at "vv"
            obtain ⟨z2, la, lb, nab, fa0, fb0⟩ := two0 gr fa fb
            exact m_pair hd (gr.same z2) rfl rfl rfl rfl rfl (ma.same z2) la lb nab fa0 fb0
          · rw [if_neg (fun q => q.elim (fun z => z eb) lm)] at hd
            refine n_iT (decide_eq_true (by omega)) ?_
            walk_at "vv"
            refine ⟨_, _, rfl, dg ob mF_told, ?_⟩
            walk_at "vv"
            refine n_ixT (SqT.of hy1) rfl ?_
            walk_at "vv"
            refine ⟨(s.told : Int), m, rfl, ?_⟩
            have em : (if m > (s.told : Int) then m else (s.told : Int)) = ((max s.told m.toNat : Nat) : Int) := by
              by_cases q : m > (s.told : Int)
              · rw [if_pos q, Nat.max_eq_right (by omega)]
                omega
              · rw [if_neg q, Nat.max_eq_left (by omega)]
            rw [em]
            walk_at "vv"
            refine ⟨x.m, _, rfl, DPut.k (k := Sum.inr "told") ma.ob (by show 6 < _; decide), ?_⟩
            rw [mput_told]
            have ma2 : MA (upd H x.m (.dK (mF (ownV s x.ct) x.l (max s.told m.toNat) s.ready x.d))) x { s with told := max s.told m.toNat } := ma.tell
            have gr2 : Gr [x.m, x.l, x.d] H (upd H x.m (.dK (mF (ownV s x.ct) x.l (max s.told m.toNat) s.ready x.d))) := gr.upd (by simp)
            generalize upd H x.m (.dK (mF (ownV s x.ct) x.l (max s.told m.toNat) s.ready x.d)) = H2 at *
            walk_at "vv"
            refine ⟨Nat.zero_le _, fun a fa => ?_⟩
            have s3 : Same H2 (upd H2 a (.lst [])) := Same.new fa
            walk_at "vv"
            refine ⟨x, _, c, rfl, ma2.same s3, ec, okc, fun H4 g fg s4 l4 => ?_⟩
            walk_at "vv"
            have k1 := s4 _ _ (upd_same (H := H2) (a := a) (o := .lst []))
            exact m_pair hd (gr2.same (Same.trans s3 s4)) rfl rfl rfl rfl rfl (ma2.same (Same.trans s3 s4)) (.nil k1) l4 (ne_of_none upd_same fg) (gr2.fresh fa) ((gr2.same s3).fresh fg)
        · rw [if_pos (.inl eb)] at hd
          walk_at "vv"
          refine n_iF (decide_eq_false eb) ?_
          walk_at "vv"
          refine n_ixT (SqT.of hy1) rfl ?_
          walk_at "vv"
          walk_at "vv"
          refine n_ixT (SqT.of hy1) rfl ?_
          walk_at "vv"
          walk_at "vv"
          refine ⟨Nat.zero_le _, fun a fa => ?_⟩
          walk_at "vv"
          refine ⟨Nat.zero_le _, fun b fb => ?_⟩
          walk_at "vv"
          obtain ⟨z2, la, lb, nab, fa0, fb0⟩ := two0 gr fa fb
          exact m_pair hd (gr.same z2) rfl rfl rfl rfl rfl (ma.same z2) la lb nab fa0 fb0
      · rw [if_pos (show ¬ (Lt.told n b m).num = c.num from en)] at hd
        refine n_iT (by rw [decide_eq_false fun z => en (by injection z)]; rfl) ?_
        walk_at "vv"
        refine ⟨Nat.zero_le _, fun a fa => ?_⟩
        walk_at "vv"
        refine ⟨Nat.zero_le _, fun b fb => ?_⟩
        walk_at "vv"
        obtain ⟨z2, la, lb, nab, fa0, fb0⟩ := two0 gr fa fb
        exact m_pair hd (gr.same z2) rfl rfl rfl rfl rfl (ma.same z2) la lb nab fa0 fb0
    | which n b k =>
      walk_at "vv"
      refine n_ixT (SqT.of hy1) rfl ?_
      walk_at "vv"
      refine ⟨_, _, rfl, dg ob mF_chain, ?_⟩
      walk_at "vv"
      refine n_ixT (SqT.of hct) rfl ?_
      walk_at "vv"
      by_cases en : n = c.num
      · rw [if_neg (show ¬ ¬ (Lt.which n b k).num = c.num from fun q => q en)] at hd
        refine n_iF (by rw [decide_eq_true (congrArg V.int en)]; rfl) ?_
        unfold tookWhich at hd
        dsimp only at hd
        walk_at "vv"
        refine n_ixT (SqT.of hy1) rfl ?_
        walk_at "vv"
        walk_at "vv"
        refine ⟨_, _, rfl, dg ob mF_log, ?_⟩
        walk_at "vv"
        refine ⟨x.l, _, rfl, .inl (SqL.of ma.lst), ?_⟩
        rw [List.length_map]
        walk_at "vv"
        walk_at "vv"
        refine n_ixT (SqT.of hy1) rfl ?_
        walk_at "vv"
        walk_at "vv"
        refine n_ixT (SqT.of hy1) rfl ?_
        walk_at "vv"
        refine ⟨_, _, rfl, dg ob mF_ready, ?_⟩
        cases rdy : s.ready with
        | false =>
          rw [if_pos (.inl rdy)] at hd
          walk_at "vv"
          refine n_ixT (SqT.of hy1) rfl ?_
          walk_at "vv"
          walk_at "vv"
          refine ⟨Nat.zero_le _, fun a fa => ?_⟩
          walk_at "vv"
          refine ⟨Nat.zero_le _, fun b fb => ?_⟩
          walk_at "vv"
          obtain ⟨z2, la, lb, nab, fa0, fb0⟩ := two0 gr fa fb
          exact m_pair hd (gr.same z2) rfl rfl rfl rfl rfl (ma.same z2) la lb nab fa0 fb0
        | true =>
          walk_at "vv"
          refine ⟨x, s, c, rfl, ma, ec, okc, ?_⟩
          by_cases tb : c.B = []
          · rw [if_neg (fun q => q.elim (fun z => by rw [rdy] at z; cases z) fun z => z tb)] at hd
            rw [c.bh_nil tb]
            walk_at "vv"
            refine ⟨Nat.zero_le _, fun a fa => ?_⟩
            have s1 : Same H (upd H a (.lst [])) := Same.new fa
            walk_at "vv"
            refine n_ixT (SqT.of (s1 _ _ hy1)) rfl ?_
            walk_at "vv"
            refine n_ixT (SqT.of (s1 _ _ hy1)) rfl ?_
            walk_at "vv"
            refine ⟨_, _, rfl, dg (s1 _ _ ob) mF_told, ?_⟩
            walk_at "vv"
            refine ⟨by show 2 ≤ sizeLine; decide, fun m hm => ?_⟩
            have s2 := Same.new (o := .tup [.int k, .int (s.told : Int)]) hm
            walk_at "vv"
            refine ⟨x, s, c, "that", b, m, [.int k, .int (s.told : Int)], rfl, ma.same (Same.trans s1 s2), ec, upd_same, by simp, by show 2 ≤ 100; decide, fun H3 g fg s3 h3 => ?_⟩
            walk_at "vv"
            refine ⟨by show 1 ≤ sizeLine; decide, fun q fq => ?_⟩
            have s13 := Same.trans (Same.trans s1 s2) s3
            have s4 : Same H3 (upd H3 q (.lst [.ref g])) := Same.new fq
            have s14 := Same.trans s13 s4
            have k1 := (Same.trans s2 s3) _ _ (upd_same (H := H) (a := a) (o := .lst []))
            walk_at "vv"
            exact m_pair hd (ma.gr s14) rfl rfl rfl rfl rfl (ma.same s14) (.nil (s4 _ _ k1)) ⟨_, upd_same, .cons (.tup (s4 _ _ h3) (.cons (.str _) (.cons (.int _) (.cons (.str _) (.cons (.str _) (.cons (.int _) (.cons (.int _) .nil))))))) .nil⟩ (ne_of_none k1 fq) fa ((ma.gr s13).fresh fq)
          · rw [if_pos (.inr tb)] at hd
            obtain ⟨b0, eb0, _⟩ := c.all_bh tb
            rw [eb0]
            walk_at "vv"
            walk_at "vv"
            refine n_ixT (SqT.of hy1) rfl ?_
            walk_at "vv"
            walk_at "vv"
            refine ⟨Nat.zero_le _, fun a fa => ?_⟩
            walk_at "vv"
            refine ⟨Nat.zero_le _, fun b fb => ?_⟩
            walk_at "vv"
            obtain ⟨z2, la, lb, nab, fa0, fb0⟩ := two0 gr fa fb
            exact m_pair hd (gr.same z2) rfl rfl rfl rfl rfl (ma.same z2) la lb nab fa0 fb0
      · rw [if_pos (show ¬ (Lt.which n b k).num = c.num from en)] at hd
        refine n_iT (by rw [decide_eq_false fun z => en (by injection z)]; rfl) ?_
        walk_at "vv"
        refine ⟨Nat.zero_le _, fun a fa => ?_⟩
        walk_at "vv"
        refine ⟨Nat.zero_le _, fun b fb => ?_⟩
        walk_at "vv"
        obtain ⟨z2, la, lb, nab, fa0, fb0⟩ := two0 gr fa fb
        exact m_pair hd (gr.same z2) rfl rfl rfl rfl rfl (ma.same z2) la lb nab fa0 fb0
    | that n b k m0 =>
      obtain ⟨m, rfl⟩ : ∃ m : Nat, m0 = (m : Int) := ⟨m0.toNat, by have : 0 ≤ m0 := oy3.2; omega⟩
      walk_at "vv"
      refine n_ixT (SqT.of hy1) rfl ?_
      walk_at "vv"
      refine ⟨_, _, rfl, dg ob mF_chain, ?_⟩
      walk_at "vv"
      refine n_ixT (SqT.of hct) rfl ?_
      walk_at "vv"
      by_cases en : n = c.num
      · rw [if_neg (show ¬ ¬ (Lt.that n b k (m : Int)).num = c.num from fun q => q en)] at hd
        refine n_iF (by rw [decide_eq_true (congrArg V.int en)]; rfl) ?_
        unfold tookThat at hd
        dsimp only at hd
        walk_at "vv"
        refine n_ixT (SqT.of hy1) rfl ?_
        walk_at "vv"
        walk_at "vv"
        refine ⟨_, _, rfl, dg ob mF_log, ?_⟩
        walk_at "vv"
        refine ⟨x.l, _, rfl, .inl (SqL.of ma.lst), ?_⟩
        rw [List.length_map]
        walk_at "vv"
        walk_at "vv"
        refine n_ixT (SqT.of hy1) rfl ?_
        walk_at "vv"
        walk_at "vv"
        refine n_ixT (SqT.of hy1) rfl ?_
        walk_at "vv"
        walk_at "vv"
        refine n_ixT (SqT.of hy1) rfl ?_
        walk_at "vv"
        walk_at "vv"
        refine n_ixT (SqT.of hy1) rfl ?_
        walk_at "vv"
        refine ⟨_, _, rfl, dg ob mF_chain, ?_⟩
        walk_at "vv"
        refine n_ixT (SqT.of hct) rfl ?_
        walk_at "vv"
        refine n_ixL (SqL.of hcl) (atI_neg1 (v := .str c.tl) (by rw [List.length_map, List.getElem?_map, c.all_tl]; rfl)) ?_
        walk_at "vv"
        by_cases eb : b = c.tl
        · refine n_iF (by rw [decide_eq_true (congrArg V.str eb)]; rfl) ?_
          walk_at "vv"
          refine n_ixT (SqT.of hy1) rfl ?_
          walk_at "vv"
          by_cases lm : (s.log.length : Int) < (m : Int)
          · rw [if_pos (.inr (.inr lm))] at hd
            refine n_iT (decide_eq_true (by omega)) ?_
            walk_at "vv"
            refine ⟨Nat.zero_le _, fun a fa => ?_⟩
            walk_at "vv"
            refine ⟨Nat.zero_le _, fun b fb => ?_⟩
            walk_at "vv"
            obtain ⟨z2, la, lb, nab, fa0, fb0⟩ := two0 gr fa fb
            exact m_pair hd (gr.same z2) rfl rfl rfl rfl rfl (ma.same z2) la lb nab fa0 fb0
          · refine n_iF (decide_eq_false (by omega)) ?_
            walk_at "vv"
            refine n_ixT (SqT.of hy1) rfl ?_
            walk_at "vv"
            refine ⟨_, _, rfl, dg ob mF_asks, ?_⟩
            refine ⟨x.d, (keyA s.asks k).map V.str, rfl, dgi ma.asks, ?_⟩
            cases hk : keyA s.asks k with
            | none =>
              rw [if_pos (.inr (.inl (by rw [hk]; rfl)))] at hd
              walk_at "vv"
              refine ⟨Nat.zero_le _, fun a fa => ?_⟩
              walk_at "vv"
              refine ⟨Nat.zero_le _, fun b fb => ?_⟩
              walk_at "vv"
              obtain ⟨z2, la, lb, nab, fa0, fb0⟩ := two0 gr fa fb
              exact m_pair hd (gr.same z2) rfl rfl rfl rfl rfl (ma.same z2) la lb nab fa0 fb0
            | some key =>
              rw [if_neg (fun q => q.elim (fun z => z eb) fun q => q.elim (fun z => by rw [hk] at z; cases z) lm), hk] at hd
              walk_at "vv"
              refine ⟨_, _, rfl, dg ob mF_asks, ?_⟩
              refine ⟨x.d, rfl, .inl ⟨_, .inl ma.asks⟩, ?_⟩
              walk_at "vv"
              refine n_ixT (SqT.of hy1) rfl ?_
              walk_at "vv"
              refine ⟨kvA s.asks, Sum.inl k, .str key, ma.asks, rfl, by rw [kvA_val, hk]; rfl, ?_⟩
              rw [dropK_kvA]
              have ma1 : MA (upd H x.d (.dK (kvA (s.asks.filter fun q => !decide (q.1 = k))))) x (s.drop k) := ma.asked
              have gr1 : Gr [x.m, x.l, x.d] H (upd H x.d (.dK (kvA (s.asks.filter fun q => !decide (q.1 = k))))) := gr.upd (by simp)
              have hy3 : upd H x.d (.dK (kvA (s.asks.filter fun q => !decide (q.1 = k)))) la = some (.tup (Lt.that n b k (m : Int)).vs) := by
                rw [upd_ne (fun q => by rw [q, ma.asks] at hy1; cases hy1)]
                exact hy1
              generalize upd H x.d (.dK (kvA (s.asks.filter fun q => !decide (q.1 = k)))) = H1 at *
              walk_at "vv"
              refine n_ixT (SqT.of hy3) rfl ?_
              walk_at "vv"
              refine ⟨_, _, rfl, dg ma1.ob mF_log, ?_⟩
              walk_at "vv"
              refine n_ixT (SqT.of hy3) rfl ?_
              walk_at "vv"
              refine ⟨x.l, _, rfl, SqL.of ma1.lst, fun q fq => ?_⟩
              rw [cut_to]
              rw [Int.toNat_natCast] at hd
              have s2 : Same H1 (upd H1 q (.lst (((s.drop k).log.map Row.v).take m))) := Same.new fq
              walk_at "vv"
              refine ⟨q, s.log.take m, key, rfl, by rw [upd_same, List.map_take]; rfl, (ma1.same s2).rows.sub fun r hr => List.mem_of_mem_take hr, ?_⟩
              walk_at "vv"
              refine ⟨by show 3 ≤ sizeLine; decide, fun t ft => ?_⟩
              have s3 : Same _ (upd (upd H1 q (.lst (((s.drop k).log.map Row.v).take m))) t (.tup [.str "worth", .int k, oi (lastW (s.log.take m) key)])) := Same.new ft
              walk_at "vv"
              refine ⟨by show 1 ≤ sizeLine; decide, fun a fa => ?_⟩
              have s23 := Same.trans s2 s3
              have s4 := Same.new (o := .lst [.ref t]) fa
              have s24 := Same.trans s23 s4
              walk_at "vv"
              refine ⟨Nat.zero_le _, fun b2 fb => ?_⟩
              have s5 := Same.new (o := .lst []) fb
              have s25 := Same.trans s24 s5
              walk_at "vv"
              exact m_pair hd (gr1.same s25) rfl rfl rfl rfl rfl (ma1.same s25) ⟨_, s5 _ _ upd_same, .cons (.tup (s5 _ _ (s4 _ _ upd_same)) (.cons (.str _) (.cons (.int _) (.cons (td_oi _ _) .nil)))) .nil⟩ (.nil upd_same) (ne_of_none upd_same fb) ((gr1.same s23).fresh fa) ((gr1.same s24).fresh fb)
        · rw [if_pos (.inl eb)] at hd
          refine n_iT (by rw [decide_eq_false fun z => eb (by injection z)]; rfl) ?_
          walk_at "vv"
          refine ⟨Nat.zero_le _, fun a fa => ?_⟩
          walk_at "vv"
          refine ⟨Nat.zero_le _, fun b fb => ?_⟩
          walk_at "vv"
          obtain ⟨z2, la, lb, nab, fa0, fb0⟩ := two0 gr fa fb
          exact m_pair hd (gr.same z2) rfl rfl rfl rfl rfl (ma.same z2) la lb nab fa0 fb0
      · rw [if_pos (show ¬ (Lt.that n b k (m : Int)).num = c.num from en)] at hd
        refine n_iT (by rw [decide_eq_false fun z => en (by injection z)]; rfl) ?_
        walk_at "vv"
        refine ⟨Nat.zero_le _, fun a fa => ?_⟩
        walk_at "vv"
        refine ⟨Nat.zero_le _, fun b fb => ?_⟩
        walk_at "vv"
        obtain ⟨z2, la, lb, nab, fa0, fb0⟩ := two0 gr fa fb
        exact m_pair hd (gr.same z2) rfl rfl rfl rfl rfl (ma.same z2) la lb nab fa0 fb0
theorem oi_ne {a b : Option Int} : decide (oi a = oi b) = decide (a = b) := by
  cases a with
  | none =>
    cases b with
    | none => rfl
    | some y => rfl
  | some x =>
    cases b with
    | none => rfl
    | some y =>
      by_cases e : x = y
      · rw [e, decide_eq_true rfl, decide_eq_true rfl]
      · rw [decide_eq_false (fun z => e (by injection z)), decide_eq_false (fun z => e (by injection z))]
theorem oi_scal {a b : Option Int} : scal (oi a) (oi b) = true := by cases a <;> cases b <;> rfl
theorem dp_ints {K : PySem.W.Frag} {H : Hp} : ∀ (l : List Int), DpAll K H (l.map V.int) (l.map PyData.int)
  | [] => .nil
  | i :: l => .cons (.int i) (dp_ints l)
theorem shp_lay {d : PyData} (h : SeqAt.shaped d = true) : d.canLay0 = true := by
  unfold SeqAt.shaped at h
  simp only [Bool.and_eq_true] at h
  first | exact h.1 | exact h.2
theorem ok_l_same (T : Txt w K mg A) (D : GD K mg "_law_same" s_l_same) (c_H_chain_number : Met P w K mg base 1 A.CH "chain_number" (sp_H_chain_number A)) (c_H_log : Met P w K mg base 1 A.CH "log" (sp_H_log A)) (c_H_told_many : Met P w K mg base 1 A.CH "told_many" (sp_H_told_many A))
    (c_H_is_ready : Met P w K mg base 1 A.CH "is_ready" (sp_H_is_ready A)) (c_H_waiting : Met P w K mg base 1 A.CH "waiting" (sp_H_waiting A)) : Cal P w K mg base 2 "_law_same" (sp_l_same A) := by
  have S := sc_l_same.sc
  refine cal_mk D sc_l_same (fun vs H Q E h => by obtain ⟨x, y, s, rfl, _⟩ := h; rfl) fun f0 cdv A0 outer s0 H vs Q E hr h => ?_
  obtain ⟨x, y, s, rfl, ha, ma, ok, h⟩ := h
  refine ⟨_, (pss_cons (ps_set (i := 2) S.nd rfl (Or.inl rfl) pe_non)
        (pss_cons (ps_if (pt_cmpR op_notN (pe_dget (hu_of hr) (pv 1) pe_str (fun _ _ => rfl)) pe_non (nomark _))
          (pss_one (ps_set (i := 2) S.nd rfl (Or.inl rfl) (pe_ix ix_tup (pe_dget (hu_of hr) (pv 1) pe_str (fun _ _ => rfl)) pe_int (fun _ _ => rfl))))
          pss_nil)
        (pss_cons (ps_if (PW.pt (pw_or (pt_cmpR op_ne (pe_fld (pv 0) rfl) (pe_dget (hu_of hr) (pv 1) pe_str (fun _ _ => rfl)) (nomark _)) (pw_or (pt_cmpR op_ne (pm0 c_H_chain_number hr (by decide) (pv 0)) (pv 2) (nomark _)) (pw_or1 (pt_cmpR (op_neD hr.units) (pm0 c_H_log hr (by decide) (pv 0)) (pe_dget (hu_of hr) (pv 1) pe_str (fun _ _ => rfl)) (nomark _))))))
          (pss_one (ps_ret pe_bl))
          pss_nil)
        (pss_cons (ps_if (PW.pt (pw_or (pt_cmpR op_ne (pm0 c_H_told_many hr (by decide) (pv 0)) (pe_dget (hu_of hr) (pv 1) pe_str (fun _ _ => rfl)) (nomark _)) (pw_or1 (pt_cmpR op_ne (pm0 c_H_is_ready hr (by decide) (pv 0)) (pe_dget (hu_of hr) (pv 1) pe_str (fun _ _ => rfl)) (nomark _)))))
          (pss_one (ps_ret pe_bl))
          pss_nil)
        (pss_one (ps_ret (pe_cmpR (op_eqD hr.units) (pm0 c_H_waiting hr (by decide) (pv 0)) (pe_callB (call_sortedDI rfl) (by rfl) T.b_sorted (by decide +kernel) (pa_cons (pe_dget (hu_of hr) (pv 1) pe_str (fun _ _ => rfl)) pa_nil)) (nomark _)))))))), ?_⟩
  obtain ⟨dx, hp⟩ := ha.ob
  walk_at "vv"
  refine ⟨_, _, rfl, dg ma.ob mF_chain, ?_⟩
  cases ec : s.ch with
  | none =>
    rw [show ownV s y.ct = .non by unfold ownV; rw [ec]]
    walk_at "vv"
    have eo : V.non = oi (s.ch.map Ch.num) := by rw [ec]; rfl
    rw [eo]
    refine ⟨_, _, _, _, _, rfl, hp, T.clH, T.h_name, hF_name, ?_⟩
    walk_at "vv"
    refine ⟨_, _, rfl, dg ma.ob mF_name, ?_⟩
    walk_at "vv"
    refine n_methx hp (hF_no (by decide +kernel)) ?_
    walk_at "vv"
    refine ⟨x, s, rfl, ha, ?_⟩
    walk_at "vv"
    refine n_ne oi_scal ?_
    walk_at "v"
    refine n_iF (by rw [decide_eq_true rfl]; rfl) ?_
    walk_at "vv"
    refine n_methx hp (hF_no (by decide +kernel)) ?_
    walk_at "vv"
    refine ⟨x, s, rfl, ha, fun a fa => ?_⟩
    have s1 : Same H (upd H a (.lst (s.log.map Row.v))) := Same.new fa
    have ka := upd_same (H := H) (a := a) (o := .lst (s.log.map Row.v))
    have ha1 := ha.same s1
    have ma1 := ma.same s1
    generalize upd H a (.lst (s.log.map Row.v)) = H1 at *
    have hp1 := s1 _ _ hp
    walk_at "vv"
    refine ⟨_, _, rfl, dg ma1.ob mF_log, ?_⟩
    have shl : Sh 2 (.list (s.log.map Row.d)) := sh_lst (n := 1) fun d hd => by
      obtain ⟨r, hr, rfl⟩ := List.mem_map.mp hd
      exact Row.sh (ha.rows.ok r hr)
    refine ⟨.list (s.log.map Row.d), .list (s.log.map Row.d), .lst (SqL.of ka) (TDs.dp (TDs.rows ha1.rows)), .lst (SqL.of ma1.lst) (TDs.dp (TDs.rows ma1.rows)), shl.shaped (by decide), shl.shaped (by decide), ?_⟩
    rw [shl.self]
    walk_at "vv"
    refine n_methx hp1 (hF_no (by decide +kernel)) ?_
    walk_at "vv"
    refine ⟨x, s, rfl, ha1, ?_⟩
    walk_at "vv"
    refine ⟨_, _, rfl, dg ma1.ob mF_told, ?_⟩
    walk_at "vv"
    refine n_iF (by rw [decide_eq_true rfl]; rfl) ?_
    walk_at "vv"
    refine n_methx hp1 (hF_no (by decide +kernel)) ?_
    walk_at "vv"
    refine ⟨x, s, rfl, ha1, ?_⟩
    walk_at "vv"
    refine ⟨_, _, rfl, dg ma1.ob mF_ready, ?_⟩
    walk_at "vv"
    refine n_iF (by rw [decide_eq_true rfl]; rfl) ?_
    walk_at "vv"
    refine n_methx hp1 (hF_no (by decide +kernel)) ?_
    walk_at "vv"
    refine ⟨x, s, rfl, ha1, ok.few, fun b fb => ?_⟩
    have s2 : Same H1 (upd H1 b (.lst ((sortA s.asks).map V.int))) := Same.new fb
    have kb := upd_same (H := H1) (a := b) (o := .lst ((sortA s.asks).map V.int))
    have ma2 := ma1.same s2
    generalize upd H1 b (.lst ((sortA s.asks).map V.int)) = H2 at *
    walk_at "vv"
    refine ⟨_, _, rfl, dg ma2.ob mF_asks, ?_⟩
    walk_at "vv"
    refine ⟨y.d, kvA s.asks, s.asks.map (·.1), rfl, .inl ma2.asks, kvA_keys _, by rw [List.length_map]; have := ok.few; omega, fun ys0 z pe so fz => ?_⟩
    rw [sortA_eq pe so]
    have s3 := Same.new (o := .lst ((sortA s.asks).map V.int)) fz
    have shi : Sh 2 (.list ((sortA s.asks).map PyData.int)) := sh_lst (n := 1) fun d hd => by
      obtain ⟨r, hr, rfl⟩ := List.mem_map.mp hd
      exact sh_int
    refine ⟨.list ((sortA s.asks).map PyData.int), .list ((sortA s.asks).map PyData.int), .lst (SqL.of (s3 _ _ kb)) (dp_ints _), .lst (SqL.of upd_same) (dp_ints _), shi.shaped (by decide), shi.shaped (by decide), ?_⟩
    rw [shi.self]
    exact h _ (Same.trans s1 (Same.trans s2 s3))
  | some c =>
    have ob := ma.obC ec
    obtain ⟨hct, hcl⟩ := ma.chain ec
    rw [MA.own ec]
    walk_at "vv"
    refine ⟨_, _, rfl, dg ob mF_chain, ?_⟩
    walk_at "vv"
    refine n_ixT (SqT.of hct) rfl ?_
    walk_at "vv"
    have eo : V.int c.num = oi (s.ch.map Ch.num) := by rw [ec]; rfl
    rw [eo]
    refine ⟨_, _, _, _, _, rfl, hp, T.clH, T.h_name, hF_name, ?_⟩
    walk_at "vv"
    refine ⟨_, _, rfl, dg ma.ob mF_name, ?_⟩
    walk_at "vv"
    refine n_methx hp (hF_no (by decide +kernel)) ?_
    walk_at "vv"
    refine ⟨x, s, rfl, ha, ?_⟩
    walk_at "vv"
    refine n_ne oi_scal ?_
    walk_at "v"
    refine n_iF (by rw [decide_eq_true rfl]; rfl) ?_
    walk_at "vv"
    refine n_methx hp (hF_no (by decide +kernel)) ?_
    walk_at "vv"
    refine ⟨x, s, rfl, ha, fun a fa => ?_⟩
    have s1 : Same H (upd H a (.lst (s.log.map Row.v))) := Same.new fa
    have ka := upd_same (H := H) (a := a) (o := .lst (s.log.map Row.v))
    have ha1 := ha.same s1
    have ma1 := ma.same s1
    generalize upd H a (.lst (s.log.map Row.v)) = H1 at *
    have hp1 := s1 _ _ hp
    walk_at "vv"
    refine ⟨_, _, rfl, dg ma1.ob mF_log, ?_⟩
    have shl : Sh 2 (.list (s.log.map Row.d)) := sh_lst (n := 1) fun d hd => by
      obtain ⟨r, hr, rfl⟩ := List.mem_map.mp hd
      exact Row.sh (ha.rows.ok r hr)
    refine ⟨.list (s.log.map Row.d), .list (s.log.map Row.d), .lst (SqL.of ka) (TDs.dp (TDs.rows ha1.rows)), .lst (SqL.of ma1.lst) (TDs.dp (TDs.rows ma1.rows)), shl.shaped (by decide), shl.shaped (by decide), ?_⟩
    rw [shl.self]
    walk_at "vv"
    refine n_methx hp1 (hF_no (by decide +kernel)) ?_
    walk_at "vv"
    refine ⟨x, s, rfl, ha1, ?_⟩
    walk_at "vv"
    refine ⟨_, _, rfl, dg ma1.ob mF_told, ?_⟩
    walk_at "vv"
    refine n_iF (by rw [decide_eq_true rfl]; rfl) ?_
    walk_at "vv"
    refine n_methx hp1 (hF_no (by decide +kernel)) ?_
    walk_at "vv"
    refine ⟨x, s, rfl, ha1, ?_⟩
    walk_at "vv"
    refine ⟨_, _, rfl, dg ma1.ob mF_ready, ?_⟩
    walk_at "vv"
    refine n_iF (by rw [decide_eq_true rfl]; rfl) ?_
    walk_at "vv"
    refine n_methx hp1 (hF_no (by decide +kernel)) ?_
    walk_at "vv"
    refine ⟨x, s, rfl, ha1, ok.few, fun b fb => ?_⟩
    have s2 : Same H1 (upd H1 b (.lst ((sortA s.asks).map V.int))) := Same.new fb
    have kb := upd_same (H := H1) (a := b) (o := .lst ((sortA s.asks).map V.int))
    have ma2 := ma1.same s2
    generalize upd H1 b (.lst ((sortA s.asks).map V.int)) = H2 at *
    walk_at "vv"
    refine ⟨_, _, rfl, dg ma2.ob mF_asks, ?_⟩
    walk_at "vv"
    refine ⟨y.d, kvA s.asks, s.asks.map (·.1), rfl, .inl ma2.asks, kvA_keys _, by rw [List.length_map]; have := ok.few; omega, fun ys0 z pe so fz => ?_⟩
    rw [sortA_eq pe so]
    have s3 := Same.new (o := .lst ((sortA s.asks).map V.int)) fz
    have shi : Sh 2 (.list ((sortA s.asks).map PyData.int)) := sh_lst (n := 1) fun d hd => by
      obtain ⟨r, hr, rfl⟩ := List.mem_map.mp hd
      exact sh_int
    refine ⟨.list ((sortA s.asks).map PyData.int), .list ((sortA s.asks).map PyData.int), .lst (SqL.of (s3 _ _ kb)) (dp_ints _), .lst (SqL.of upd_same) (dp_ints _), shi.shaped (by decide), shi.shaped (by decide), ?_⟩
    rw [shi.self]
    exact h _ (Same.trans s1 (Same.trans s2 s3))
theorem ok_l_brought (T : Txt w K mg A) (D : GD K mg "_law_brought" s_l_brought) : Cal P w K mg base 1 "_law_brought" sp_l_brought := by
  have S := sc_l_brought.sc
  refine cal_mk D sc_l_brought (fun vs H Q E h => by obtain ⟨t, a, b, t', a', b', TT, LL, rfl, _⟩ := h; rfl) fun f0 cdv A0 outer s0 H vs Q E hr h => ?_
  obtain ⟨t, a, b, t', a', b', TT, LL, rfl, ht, ⟨xs, ha, hT⟩, ⟨ys, hb, hL⟩, ht', ⟨xs', ha', hT'⟩, ⟨ys', hb', hL'⟩, nab, cT, cL, h⟩ := h
  refine ⟨_, (pss_cons (ps_if (PW.pt (pw_or (pt_not (pt_val (pe_callB call_isi (by rfl) T.b_isinstance (by decide +kernel) (pa_cons (pv 0) (pa_cons (pe_bltn (v := .ty "tuple") (u := .type "tuple") rfl T.b_tuple (by decide +kernel) rfl) pa_nil))))) (pw_or (pt_cmpR op_ne (pe_callB call_len_seq (by rfl) T.b_len PySem.boot_len (pa_cons (pv 0) pa_nil)) pe_int (nomark _)) (pw_or1 (pt_not (pt_val (pe_callB call_isi (by rfl) T.b_isinstance (by decide +kernel) (pa_cons (pe_ix ix_tup (pv 0) pe_int (fun _ _ => rfl)) (pa_cons (pe_bltn (v := .ty "list") (u := .type "list") rfl T.b_list (by decide +kernel) rfl) pa_nil)))))))))
          (pss_one (ps_ret pe_bl))
          pss_nil)
        (pss_cons (ps_set (i := 2) S.nd rfl (Or.inl rfl) (pe_and (pe_callB call_isi (by rfl) T.b_isinstance (by decide +kernel) (pa_cons (pe_ix ix_tup (pv 0) pe_int (fun _ _ => rfl)) (pa_cons (pe_bltn (v := .ty "list") (u := .type "list") rfl T.b_list (by decide +kernel) rfl) pa_nil))) (pe_and (pe_cmpR (op_eqD hr.units) (pe_ix ix_tup (pv 0) pe_int (fun _ _ => rfl)) (pe_ix ix_tup (pv 1) pe_int (fun _ _ => rfl)) (nomark _)) (pe_one (pe_cmpR (op_eqD hr.units) (pe_ix ix_tup (pv 0) pe_int (fun _ _ => rfl)) (pe_ix ix_tup (pv 1) pe_int (fun _ _ => rfl)) (nomark _))))))
        (pss_cons (ps_expr (pe_bm0 PySem.F.plainAttrs_list PySem.F.slot_list_clear PySem.F.type_list_clear mt_clear (pe_ix ix_tup (pv 0) pe_int (fun _ _ => rfl))))
        (pss_cons (ps_expr (pe_bm0 PySem.F.plainAttrs_list PySem.F.slot_list_clear PySem.F.type_list_clear mt_clear (pe_ix ix_tup (pv 0) pe_int (fun _ _ => rfl))))
        (pss_one (ps_ret (pv 2))))))), ?_⟩
  walk_at "vv"
  refine n_isi (.base (.tup ht)) (kit_ty (r := true) ?_) ?_
  · decide +kernel
  walk_at "vv"
  refine ⟨t, _, rfl, .inr (SqT.of ht), ?_⟩
  walk_at "vv"
  refine n_ixT (SqT.of ht) rfl ?_
  walk_at "vv"
  refine n_isi (.base (.lst ha)) (kit_ty (r := true) ?_) ?_
  · decide +kernel
  walk_at "vv"
  refine n_ixT (SqT.of ht) rfl ?_
  walk_at "vv"
  refine n_isi (.base (.lst hb)) (kit_ty (r := true) ?_) ?_
  · decide +kernel
  walk_at "vv"
  refine n_ixT (SqT.of ht) rfl ?_
  walk_at "vv"
  refine n_ixT (SqT.of ht') rfl ?_
  have e1 : PyData.eqv (.list TT) (.list TT) = true := SeqAt.eqv_refl _ (shp_lay cT)
  have e2 : PyData.eqv (.list LL) (.list LL) = true := SeqAt.eqv_refl _ (shp_lay cL)
  refine ⟨.list TT, .list TT, .lst (SqL.of ha) (TDs.dp hT), .lst (SqL.of ha') (TDs.dp hT'), cT, cT, ?_⟩
  rw [e1]
  walk_at "vv"
  refine n_ixT (SqT.of ht) rfl ?_
  walk_at "vv"
  refine n_ixT (SqT.of ht') rfl ?_
  refine ⟨.list LL, .list LL, .lst (SqL.of hb) (TDs.dp hL), .lst (SqL.of hb') (TDs.dp hL'), cL, cL, ?_⟩
  rw [e2]
  walk_at "vv"
  refine n_ixT (SqT.of ht) rfl ?_
  refine ⟨n_lty ha, ?_⟩
  refine ⟨a, _, rfl, rfl, ha, ?_⟩
  have nat : t ≠ a := ne_of ht ha (by intro z; cases z)
  have ht2 : upd H a (.lst []) t = some (.tup [.ref a, .ref b]) := by rw [upd_ne nat]; exact ht
  have hb2 : upd H a (.lst []) b = some (.lst ys) := by rw [upd_ne nab.symm]; exact hb
  have fr1 : Fr [a, b] H (upd H a (.lst [])) := Fr.upd (Fr.refl H) (by simp)
  generalize upd H a (.lst []) = H1 at *
  walk_at "vv"
  refine n_ixT (SqT.of ht2) rfl ?_
  refine ⟨n_lty hb2, ?_⟩
  refine ⟨b, _, rfl, rfl, hb2, ?_⟩
  walk_at "vv"
  exact h _ (fr1.upd (by simp))
end
end Ck

namespace Ck
open PySem PySem.Spec PyProof.Rows L2
local macro_rules | `(tactic| walk_at "v") => `(tactic| (first | with_reducible refine n_seq ?_ | with_reducible refine n_ifs ?_ | with_reducible refine n_asg ?_ | with_reducible refine n_name ?_ | with_reducible refine n_ret ?_ | with_reducible refine n_drop ?_ | with_reducible refine n_next ?_ | ((with_reducible refine' n_var ?e ?_); (case e => rfl)) | with_reducible refine n_c ?_ | with_reducible refine n_op ?_ | with_reducible refine n_un ?_ | with_reducible refine n_test ?_ | with_reducible refine n_B ?_ | with_reducible refine n_ex ?_ | with_reducible refine n_and ?_ | with_reducible refine n_or ?_ | with_reducible refine n_not ?_ | with_reducible refine n_andV ?_ | with_reducible refine n_orV ?_ | with_reducible refine n_notV ?_ | with_reducible refine n_cons ?_ | with_reducible refine n_nil ?_ | with_reducible refine n_cb ?_ | with_reducible refine n_call ?_ | with_reducible refine n_I0 ?_ | with_reducible refine n_tup ?_ | with_reducible refine n_lst ?_ | with_reducible refine n_sl ?_ | with_reducible refine n_part ?_ | with_reducible refine n_nopart ?_ | with_reducible refine n_exI ?_ | with_reducible refine n_chain ?_ | with_reducible refine n_dget ?_ | with_reducible refine n_meth ?_ | with_reducible refine n_bm ?_ | with_reducible refine n_bm0 ?_ | with_reducible refine n_sfld ?_ | with_reducible refine n_fld ?_ | with_reducible refine n_for ?_ | with_reducible refine n_dpop1 ?_ | with_reducible refine n_din ?_ | with_reducible refine n_dnotin ?_ | with_reducible refine n_dput ?_ | with_reducible refine n_nn ?_ | with_reducible refine n_rU ?_ | with_reducible refine n_lss ?_ | with_reducible refine n_kget ?_ | with_reducible refine n_iL ?_ | with_reducible refine n_iE ?_ | with_reducible refine n_iR ?_ | with_reducible refine n_lc ?_ | with_reducible refine n_lcT ?_ | with_reducible refine n_lcS ?_ | with_reducible refine n_gTup ?_ | with_reducible refine n_gCons ?_ | with_reducible refine n_gNil ?_ | ((with_reducible refine n_eq ?e ?_); (case e => rfl)) | ((with_reducible refine n_ne ?e ?_); (case e => rfl)) | ((with_reducible refine n_iT ?e ?_); (case e => rfl)) | ((with_reducible refine n_iF ?e ?_); (case e => rfl))))
local macro_rules | `(tactic| walk_at "vv") => `(tactic| repeat walk_at "v")
section
variable {P : Program} {w : World} {K : PySem.W.Frag} {mg : Str → Option Value} {base : Heap} {A : Ad}
theorem n_gsub {to ti : TE} {t : TSet} {v : V} {σ : L2.St} {H : Hp} {Q : L2.St → Hp → Prop} (h : to σ H fun o H1 => ti σ H1 fun i H2 => t o i v H2 fun H3 => Q σ H3) : gSub to ti t v σ H Q := h
theorem Src.mono {H : Hp} {a : Addr} {n m : Nat} (h : Src H a n) (k : n ≤ m) : Src H a m := by
  obtain ⟨x, y, z, h1, h2, h3, h4, h5, h6⟩ := h
  exact ⟨x, y, z, h1, h2, h3, by omega, h5, h6⟩
theorem Src.same {H H1 : Hp} {a : Addr} {n : Nat} (h : Src H a n) (s : Same H H1) : Src H1 a n := by
  obtain ⟨x, y, z, h1, h2⟩ := h
  exact ⟨x, y, z, s _ _ h1, h2⟩
theorem Src.nt {H : Hp} {a : Addr} {n : Nat} (h : Src H a n) : NT H [a] := by
  obtain ⟨x, y, z, h1, h2⟩ := h
  exact NT.cons h1 (by intro ys q; cases q) NT.nil
theorem ok_l_cell_at (T : Txt w K mg A) (D : GD K mg "_law_cell_at" s_l_cell_at) : Cal P w K mg base 1 "_law_cell_at" (sp_l_cell_at K) := by
  have S := sc_l_cell_at.sc
  refine cal_mk D sc_l_cell_at (fun vs H Q E h => by obtain ⟨a, ns, rfl, _⟩ := h; rfl) fun f0 cdv A0 outer s0 H vs Q E hr h => ?_
  obtain ⟨a, ns, rfl, hl, h⟩ := h
  refine ⟨_, (pss_cons (ps_if (pt_cmpR op_lt (pv 1) (pe_callB call_len_seq (by rfl) T.b_len PySem.boot_len (pa_cons (pv 0) pa_nil)) (nomark _))
          (pss_one (ps_ret (pe_ix ix_list (pv 0) (pv 1) (fun _ _ => rfl))))
          pss_nil)
        (pss_one (ps_ret pe_int))), ?_⟩
  walk_at "vv"
  refine ⟨a, _, rfl, .inl hl, ?_⟩
  rw [List.length_map]
  walk_at "vv"
  cases ns with
  | nil =>
    walk_at "vv"
    exact h 0
  | cons i r =>
    refine n_iT (decide_eq_true (by rw [List.length_cons]; omega)) ?_
    walk_at "vv"
    exact ⟨a, _, 0, .int i, rfl, rfl, hl, at0 rfl, h i⟩
theorem ok_l_source (T : Txt w K mg A) (D : GD K mg "_law_source" s_l_source) : Cal P w K mg base 1 "_law_source" sp_l_source := by
  have S := sc_l_source.sc
  refine cal_mk D sc_l_source (fun vs H Q E h => by obtain ⟨i, rfl, _⟩ := h; rfl) fun f0 cdv A0 outer s0 H vs Q E hr h => ?_
  obtain ⟨i, rfl, h⟩ := h
  refine ⟨_, (pss_one (ps_ret (pe_lst (pa_cons (pe_op op_mul (pv 0) (pe_callTy call_int1 (by rfl) T.b_int (by decide +kernel) (pa_cons (pe_cmpR op_ge (pv 0) (pe_op op_pow pe_int pe_int) (nomark _)) pa_nil))) (pa_cons pe_int (pa_cons (pe_op op_mod (pv 0) pe_int) pa_nil)))))), ?_⟩
  walk_at "vv"
  refine n_I (by show CPow 10 18; exact ⟨by decide, by decide, by decide⟩) ?_
  walk_at "vv"
  refine .inr ⟨_, rfl, ?_⟩
  refine n_I (.inr (by split <;> decide)) ?_
  walk_at "vv"
  refine n_I (by decide) ?_
  walk_at "vv"
  refine ⟨by show 3 ≤ sizeLine; decide, fun p hp => ?_⟩
  refine h _ p hp (Same.new hp) ⟨_, _, _, upd_same, ?_, by omega, by omega, Int.emod_nonneg _ (by decide), Int.emod_lt_of_pos _ (by decide)⟩
  split
  · rename_i e
    have e : (10 : Int) ^ (18 : Int).toNat ≤ i := of_decide_eq_true e
    have : (0 : Int) ≤ (10 : Int) ^ (18 : Int).toNat := by decide
    omega
  · omega
def primes : List Int := [2147483647, 2147483629, 2147483587, 2147483579, 2147483563]
theorem prime_at (i : Int) : ∃ p, atI (primes.map V.int) (i % 5) = some (.int p) ∧ 0 < p ∧ p ≤ 2147483647 := by
  have h1 := Int.emod_nonneg i (by decide : (5 : Int) ≠ 0)
  have h2 := Int.emod_lt_of_pos i (by decide : (0 : Int) < 5)
  have : i % 5 = 0 ∨ i % 5 = 1 ∨ i % 5 = 2 ∨ i % 5 = 3 ∨ i % 5 = 4 := by omega
  rcases this with e | e | e | e | e
  · rw [e]; exact ⟨_, rfl, by decide, by decide⟩
  · rw [e]; exact ⟨_, rfl, by decide, by decide⟩
  · rw [e]; exact ⟨_, rfl, by decide, by decide⟩
  · rw [e]; exact ⟨_, rfl, by decide, by decide⟩
  · rw [e]; exact ⟨_, rfl, by decide, by decide⟩
theorem ok_l_next (D : GD K mg "_law_next" s_l_next) : Cal P w K mg base 1 "_law_next" sp_l_next := by
  have S := sc_l_next.sc
  refine cal_mk D sc_l_next (fun vs H Q E h => by obtain ⟨a, n, m, rfl, _⟩ := h; rfl) fun f0 cdv A0 outer s0 H vs Q E hr h => ?_
  obtain ⟨a, n, m, rfl, ⟨x, y, z, ha, hx, hy, hyn, hz, hz2⟩, hn, hm, hm2, h⟩ := h
  refine ⟨_, (pss_cons (ps_if (pt_cmpR op_gt (pe_ix ix_list (pv 0) pe_int (fun _ _ => rfl)) pe_int (nomark _))
          (pss_cons (ps_set (i := 5) S.nd rfl (Or.inl rfl) (pe_op op_mod (pe_ix ix_list (pv 0) pe_int (fun _ _ => rfl)) (pv 1)))
          (pss_cons (ps_asg (pe_op op_fdivN (pe_ix ix_list (pv 0) pe_int (fun _ _ => rfl)) (pv 1)) (pg_sub (pv 0) pe_int set_list))
          (pss_one (ps_ret (pv 5)))))
          pss_nil)
        (pss_cons (ps_asg (pe_op op_add (pe_ix ix_list (pv 0) pe_int (fun _ _ => rfl)) pe_int) (pg_sub (pv 0) pe_int set_list))
        (pss_cons (ps_set (i := 2) S.nd rfl (Or.inl rfl) (pe_lst (pa_cons pe_int (pa_cons pe_int (pa_cons pe_int (pa_cons pe_int (pa_cons pe_int pa_nil)))))))
        (pss_cons (ps_set (i := 3) S.nd rfl (Or.inl rfl) (pe_ix ix_list (pv 2) (pe_op op_mod (pe_ix ix_list (pv 0) pe_int (fun _ _ => rfl)) pe_int) (fun _ _ => rfl)))
        (pss_cons (ps_set (i := 4) S.nd rfl (Or.inl rfl) (pe_op op_mod (pe_op op_pow (pe_op op_add (pe_ix ix_list (pv 0) pe_int (fun _ _ => rfl)) (pe_op op_mul pe_int (pe_ix ix_list (pv 0) pe_int (fun _ _ => rfl)))) pe_int) (pv 3)))
        (pss_cons (ps_set (i := 4) S.nd rfl (Or.inl rfl) (pe_op op_mod (pe_op op_pow (pe_op op_add (pv 4) (pe_ix ix_list (pv 0) pe_int (fun _ _ => rfl))) pe_int) (pv 3)))
        (pss_one (ps_ret (pe_op op_mod (pe_op op_mod (pe_op op_mul (pv 4) (pe_op op_add pe_int (pe_ix ix_list (pv 0) pe_int (fun _ _ => rfl)))) (pv 3)) (pv 1)))))))))), ?_⟩
  walk_at "vv"
  refine n_ixL (SqL.of ha) rfl ?_
  walk_at "vv"
  by_cases px : 0 < x
  · refine n_iT (decide_eq_true px) ?_
    walk_at "vv"
    refine n_ixL (SqL.of ha) rfl ?_
    walk_at "vv"
    refine n_I (by show 0 < m; omega) ?_
    walk_at "vv"
    refine n_ixL (SqL.of ha) rfl ?_
    walk_at "vv"
    refine n_I (by show CDivN x m; exact ⟨by omega, by omega⟩) ?_
    walk_at "vv"
    refine n_gsub ?_
    walk_at "vv"
    refine ⟨a, _, 0, 0, rfl, rfl, ha, rfl, ?_⟩
    walk_at "vv"
    refine h _ _ (Int.emod_nonneg _ (by omega)) (Int.emod_lt_of_pos _ (by omega)) ⟨_, _, _, upd_same, ?_, hy, by omega, hz, hz2⟩ (Fr.upd (Fr.refl H) (by simp))
    exact Int.fdiv_nonneg hx (by omega)
  · refine n_iF (decide_eq_false px) ?_
    walk_at "vv"
    refine n_ixL (SqL.of ha) rfl ?_
    walk_at "vv"
    refine n_gsub ?_
    walk_at "vv"
    refine ⟨a, _, 1, 1, rfl, rfl, ha, rfl, ?_⟩
    have ha1 : upd H a (.lst ([V.int x, .int y, .int z].set 1 (.int (y + 1)))) a = some (.lst [.int x, .int (y + 1), .int z]) := upd_same
    have fr1 : Fr [a] H (upd H a (.lst ([V.int x, .int y, .int z].set 1 (.int (y + 1))))) := Fr.upd (Fr.refl H) (by simp)
    generalize upd H a (.lst ([V.int x, .int y, .int z].set 1 (.int (y + 1)))) = H1 at *
    walk_at "vv"
    refine ⟨by show 5 ≤ sizeLine; decide, fun pr hpr => ?_⟩
    have s2 : Same H1 (upd H1 pr (.lst (primes.map V.int))) := Same.new hpr
    have kpr := upd_same (H := H1) (a := pr) (o := .lst (primes.map V.int))
    have ha2 := s2 _ _ ha1
    walk_at "vv"
    refine n_ixL (SqL.of ha2) rfl ?_
    walk_at "vv"
    refine n_I (by decide) ?_
    obtain ⟨p, ep, p0, p1⟩ := prime_at (y + 1)
    refine n_ixL (SqL.of kpr) ep ?_
    walk_at "vv"
    refine n_ixL (SqL.of ha2) rfl ?_
    walk_at "vv"
    refine n_ixL (SqL.of ha2) rfl ?_
    refine n_I (.inl (by decide)) ?_
    walk_at "vv"
    refine n_I (by show CPow (z + 7919 * (y + 1)) 5; exact ⟨by decide, by decide, by omega⟩) ?_
    walk_at "vv"
    refine n_I (by show 0 < p; exact p0) ?_
    have f1 := Int.emod_nonneg ((z + 7919 * (y + 1)) ^ (5 : Int).toNat) (show p ≠ 0 by omega)
    have f2 := Int.emod_lt_of_pos ((z + 7919 * (y + 1)) ^ (5 : Int).toNat) p0
    generalize (z + 7919 * (y + 1)) ^ (5 : Int).toNat % p = f at *
    walk_at "vv"
    refine n_ixL (SqL.of ha2) rfl ?_
    walk_at "vv"
    refine n_I (by show CPow (f + (y + 1)) 3; exact ⟨by decide, by decide, by omega⟩) ?_
    walk_at "vv"
    refine n_I (by show 0 < p; exact p0) ?_
    have g1 := Int.emod_nonneg ((f + (y + 1)) ^ (3 : Int).toNat) (show p ≠ 0 by omega)
    have g2 := Int.emod_lt_of_pos ((f + (y + 1)) ^ (3 : Int).toNat) p0
    generalize (f + (y + 1)) ^ (3 : Int).toNat % p = g at *
    walk_at "vv"
    refine n_ixL (SqL.of ha2) rfl ?_
    walk_at "vv"
    refine n_I (.inl (by constructor <;> omega)) ?_
    walk_at "vv"
    refine n_I (by show 0 < p; exact p0) ?_
    walk_at "vv"
    refine n_I (by show 0 < m; omega) ?_
    refine h _ _ (Int.emod_nonneg _ (by omega)) (Int.emod_lt_of_pos _ (by omega)) ⟨_, _, _, ha2, hx, by omega, by omega, hz, hz2⟩ (fr1.trans (Fr.ofSame s2))
/-- the r-th of a written list -/
theorem nth_of {α : Type} (f : α → V) {xs : List α} {r : Int} (h : 0 ≤ r) (k : r < (xs.length : Int)) : ∃ x ∈ xs, atI (xs.map f) r = some (f x) := by
  have hl : r.toNat < xs.length := by omega
  refine ⟨xs[r.toNat], List.getElem_mem hl, at_of (j := r.toNat) (by omega) ?_⟩
  rw [List.getElem?_map, List.getElem?_eq_getElem hl]
  rfl
theorem alpha_at {r : Int} (h : 0 ≤ r) (k : r < 26) : ∃ c, alpha.cps.toList[r.toNat]? = some c ∧ atI alpha.cps.toList r = some c ∧ c ∈ alpha.cps.toList := by
  have hl : r.toNat < alpha.cps.toList.length := by rw [show alpha.cps.toList.length = 26 by decide +kernel]; omega
  refine ⟨alpha.cps.toList[r.toNat], List.getElem?_eq_getElem hl, ?_, List.getElem_mem hl⟩
  unfold atI ixN
  rw [if_pos h, if_pos (by omega)]
  exact List.getElem?_eq_getElem hl
/-- a name or nothing -/
structure Part (x : Str) (n : Nat) : Prop where
  l : x.length = n
  al : ∀ c ∈ x.cps.toList, c ∈ alpha.cps.toList
theorem Part.snoc {x : Str} {n c : Nat} (h : Part x n) (hc : c ∈ alpha.cps.toList) : Part (x ++ (⟨#[c]⟩ : Str)) (n + 1) := by
  refine ⟨?_, fun d hd => ?_⟩
  · show (x.cps ++ #[c]).size = n + 1
    rw [Array.size_append]
    exact congrArg (· + 1) h.l
  · have hd : d ∈ (x.cps ++ #[c]).toList := hd
    rw [Array.toList_append] at hd
    rcases List.mem_append.mp hd with e | e
    · exact h.al d e
    · rw [List.mem_singleton.mp e]; exact hc
theorem Part.name {x : Str} {n : Nat} (h : Part x n) (h1 : 1 ≤ n) (h2 : n ≤ 8) : NameOk x := ⟨by rw [h.l]; exact h1, by rw [h.l]; exact h2, h.al⟩
theorem ok_l_word (T : Txt w K mg A) (D : GD K mg "_law_word" s_l_word) (c_l_next : Cal P w K mg base 1 "_law_next" sp_l_next) : Cal P w K mg base 2 "_law_word" sp_l_word := by
  have S := sc_l_word.sc
  refine cal_mk D sc_l_word (fun vs H Q E h => by obtain ⟨a, n, rfl, _⟩ := h; rfl) fun f0 cdv A0 outer s0 H vs Q E hr h => ?_
  obtain ⟨a, n, rfl, hs, hn, h⟩ := h
  refine ⟨_, (pss_cons (ps_if (pt_cmpR op_eq (pc c_l_next hr (by decide) rfl (pa_cons (pv 0) (pa_cons pe_int pa_nil))) pe_int (nomark _))
          (pss_one (ps_ret (pe_ix ix_list (pe_lst (pa_cons pe_str (pa_cons pe_str (pa_cons pe_str (pa_cons pe_str (pa_cons pe_str (pa_cons pe_str pa_nil))))))) (pc c_l_next hr (by decide) rfl (pa_cons (pv 0) (pa_cons pe_int pa_nil))) (fun _ _ => rfl))))
          pss_nil)
        (pss_cons (ps_set (i := 1) S.nd rfl (Or.inl rfl) pe_str)
        (pss_cons (ps_for PassesOwn.never rfl (pi_range1 (by rfl) T.b_range (pa_cons (pe_op op_add pe_int (pc c_l_next hr (by decide) rfl (pa_cons (pv 0) (pa_cons pe_int pa_nil)))) pa_nil)) (pg_name (i := 2) S.nd rfl (Or.inl rfl))
          (pss_one (ps_set (i := 1) S.nd rfl (Or.inl rfl) (pe_op op_add_str (pv 1) (pe_ix ix_str pe_str (pc c_l_next hr (by decide) rfl (pa_cons (pv 0) (pa_cons pe_int pa_nil))) (fun _ _ => rfl))))))
        (pss_one (ps_ret (pv 1)))))), ?_⟩
  walk_at "vv"
  refine ⟨a, n, 2, rfl, hs, by omega, by decide, by decide, fun H1 r r0 r1 hs1 f1 => ?_⟩
  walk_at "vv"
  by_cases er : r = 0
  · refine n_iT (by rw [er]; rfl) ?_
    walk_at "vv"
    refine ⟨by show 6 ≤ sizeLine; decide, fun p hp => ?_⟩
    have s2 : Same H1 (upd H1 p (.lst ([("ann" : Str), "bob", "a", "annb", "row", "z"].map V.str))) := Same.new hp
    have kp := upd_same (H := H1) (a := p) (o := .lst ([("ann" : Str), "bob", "a", "annb", "row", "z"].map V.str))
    have hs2 := hs1.same s2
    walk_at "vv"
    refine ⟨a, n + 1, 6, rfl, hs2, by omega, by decide, by decide, fun H3 q q0 q1 hs3 f3 => ?_⟩
    walk_at "vv"
    have npa : p ∉ [a] := fun m => by
      obtain ⟨x, y, z, e, _⟩ := hs1
      rw [List.mem_singleton.mp m, e] at hp
      cases hp
    obtain ⟨x, hx, ex⟩ := nth_of V.str (xs := [("ann" : Str), "bob", "a", "annb", "row", "z"]) q0 (by show q < 6; exact q1)
    refine n_ixL (SqL.of (f3 _ _ kp npa)) ex ?_
    refine h _ x (nameOk_of ?_) (hs3.mono (by omega)) (f1.trans ((Fr.ofSame s2).trans f3))
    have : [("ann" : Str), "bob", "a", "annb", "row", "z"].all nameB = true := by decide +kernel
    exact List.all_eq_true.mp this x hx
  · refine n_iF (decide_eq_false fun z => er (by injection z)) ?_
    walk_at "vv"
    refine ⟨a, n + 1, 8, rfl, hs1, by omega, by decide, by decide, fun H2 q q0 q1 hs2 f2 => ?_⟩
    walk_at "vv"
    refine ⟨_, rfl, by omega, by omega, ?_⟩
    have em : (1 + q).toNat ≤ 8 := by omega
    have em1 : 1 ≤ (1 + q).toNat := by omega
    generalize (1 + q).toNat = m at *
    refine for_range (fun i σ H' => ∃ x v, σ = [some (.ref a), some (.str x), v] ∧ Part x i ∧ Src H' a (n + 2 + i) ∧ Fr [a] H H') ⟨Str.ofString "", none, rfl, ⟨rfl, fun c hc => by cases hc⟩, hs2, f1.trans f2⟩ ?_ ?_
    · rintro i σ H' hi ⟨x, v, rfl, px, hs', f'⟩
      walk_at "vv"
      refine ⟨a, n + 2 + i, 26, rfl, hs', by omega, by decide, by decide, fun H4 t t0 t1 hs4 f4 => ?_⟩
      walk_at "vv"
      obtain ⟨c, _, ec, hc⟩ := alpha_at t0 t1
      refine ⟨alpha, t, c, rfl, rfl, by show alpha.length ≤ sizeLine; exact Nat.le_trans (m := 26) (by decide +kernel) (by decide), ec, ?_⟩
      refine ⟨x, ⟨#[c]⟩, rfl, rfl, ?_, ?_⟩
      · rw [px.l]
        show i + 1 ≤ sizeLine
        exact Nat.le_trans (m := 100) (by omega) (by decide)
      walk_at "vv"
      exact ⟨_, some (.int (0 + i)), rfl, px.snoc hc, hs4, f'.trans f4⟩
    · rintro σ H' ⟨x, v, rfl, px, hs', f'⟩
      walk_at "vv"
      exact h _ x (px.name em1 em) (hs'.mono (by omega)) f'
end
end Ck

namespace Ck
open PySem PySem.Spec PyProof.Rows L2
local macro_rules | `(tactic| walk_at "v") => `(tactic| (first | with_reducible refine n_seq ?_ | with_reducible refine n_ifs ?_ | with_reducible refine n_asg ?_ | with_reducible refine n_name ?_ | with_reducible refine n_ret ?_ | with_reducible refine n_drop ?_ | with_reducible refine n_next ?_ | ((with_reducible refine' n_var ?e ?_); (case e => rfl)) | with_reducible refine n_c ?_ | with_reducible refine n_op ?_ | with_reducible refine n_un ?_ | with_reducible refine n_test ?_ | with_reducible refine n_B ?_ | with_reducible refine n_ex ?_ | with_reducible refine n_and ?_ | with_reducible refine n_or ?_ | with_reducible refine n_not ?_ | with_reducible refine n_andV ?_ | with_reducible refine n_orV ?_ | with_reducible refine n_notV ?_ | with_reducible refine n_cons ?_ | with_reducible refine n_nil ?_ | with_reducible refine n_cb ?_ | with_reducible refine n_call ?_ | with_reducible refine n_I0 ?_ | with_reducible refine n_tup ?_ | with_reducible refine n_lst ?_ | with_reducible refine n_sl ?_ | with_reducible refine n_part ?_ | with_reducible refine n_nopart ?_ | with_reducible refine n_exI ?_ | with_reducible refine n_chain ?_ | with_reducible refine n_dget ?_ | with_reducible refine n_meth ?_ | with_reducible refine n_bm ?_ | with_reducible refine n_bm0 ?_ | with_reducible refine n_sfld ?_ | with_reducible refine n_fld ?_ | with_reducible refine n_for ?_ | with_reducible refine n_dpop1 ?_ | with_reducible refine n_din ?_ | with_reducible refine n_dnotin ?_ | with_reducible refine n_dput ?_ | with_reducible refine n_nn ?_ | with_reducible refine n_rU ?_ | with_reducible refine n_lss ?_ | with_reducible refine n_kget ?_ | with_reducible refine n_iL ?_ | with_reducible refine n_iE ?_ | with_reducible refine n_iR ?_ | with_reducible refine n_lc ?_ | with_reducible refine n_lcT ?_ | with_reducible refine n_lcS ?_ | with_reducible refine n_gTup ?_ | with_reducible refine n_gCons ?_ | with_reducible refine n_gNil ?_ | ((with_reducible refine n_eq ?e ?_); (case e => rfl)) | ((with_reducible refine n_ne ?e ?_); (case e => rfl)) | ((with_reducible refine n_iT ?e ?_); (case e => rfl)) | ((with_reducible refine n_iF ?e ?_); (case e => rfl))))
local macro_rules | `(tactic| walk_at "vv") => `(tactic| repeat walk_at "v")
section
variable {P : Program} {w : World} {K : PySem.W.Frag} {mg : Str → Option Value} {base : Heap} {A : Ad}
theorem Src.new {H : Hp} {a p : Addr} {n : Nat} (h : Src H a n) (hp : H p = none) : p ∉ [a] := fun m => by
  obtain ⟨x, y, z, e, _⟩ := h
  rw [List.mem_singleton.mp m, e] at hp
  cases hp
theorem Src.ne {H : Hp} {a p : Addr} {n : Nat} {o : HO} (h : Src H a n) (hp : H p = some o) (k : ∀ x y z : Int, o ≠ .lst [.int x, .int y, .int z]) : p ≠ a := fun m => by
  obtain ⟨x, y, z, e, _⟩ := h
  rw [m, e] at hp
  exact k x y z (Option.some.inj hp).symm
theorem cutS7 {z : Str} (h : NameOk z) : ∃ m, m ≤ 7 ∧ Part (cutS z none (some 7)) m := by
  unfold cutS
  refine ⟨(((z.cps.toList.drop (HT.sIx z.length 0 none)).take (HT.sIx z.length z.length (some 7) - HT.sIx z.length 0 none))).length, ?_, ?_, fun c hc => ?_⟩
  · rw [List.length_take, show HT.sIx z.length z.length (some 7) = _ from HT.sIx_nat _ _ 7]
    omega
  · show (_ : List Nat).toArray.size = _
    rw [List.size_toArray]
  · exact h.al c (List.mem_of_mem_drop (List.mem_of_mem_take hc))
def abc : Str := "abc"
theorem abc_at (i : Int) : ∃ c, atI abc.cps.toList (i % 3) = some c ∧ c ∈ alpha.cps.toList := by
  have h1 := Int.emod_nonneg i (by decide : (3 : Int) ≠ 0)
  have h2 := Int.emod_lt_of_pos i (by decide : (0 : Int) < 3)
  have : i % 3 = 0 ∨ i % 3 = 1 ∨ i % 3 = 2 := by omega
  rcases this with e | e | e
  · rw [e]; exact ⟨97, by decide +kernel, by decide +kernel⟩
  · rw [e]; exact ⟨98, by decide +kernel, by decide +kernel⟩
  · rw [e]; exact ⟨99, by decide +kernel, by decide +kernel⟩
theorem ok_l_row (D : GD K mg "_law_row" s_l_row) (c_l_next : Cal P w K mg base 1 "_law_next" sp_l_next) (c_l_word : Cal P w K mg base 2 "_law_word" sp_l_word) : Cal P w K mg base 3 "_law_row" sp_l_row := by
  have S := sc_l_row.sc
  refine cal_mk D sc_l_row (fun vs H Q E h => by obtain ⟨a, n, k, rfl, _⟩ := h; rfl) fun f0 cdv A0 outer s0 H vs Q E hr h => ?_
  obtain ⟨a, n, k, rfl, hs, hn, k0, k1, h⟩ := h
  refine ⟨_, (pss_cons (ps_set (i := 2) S.nd rfl (Or.inl rfl) (pe_ix ix_list (pe_lst (pa_cons pe_int (pa_cons (pe_op op_sub (pe_op op_pow pe_int pe_int) pe_int) pa_nil))) (pc c_l_next hr (by decide) rfl (pa_cons (pv 0) (pa_cons pe_int pa_nil))) (fun _ _ => rfl)))
        (pss_cons (ps_set (i := 3) S.nd rfl (Or.inl rfl) (pe_ix ix_list (pe_lst (pa_cons pe_str (pa_cons pe_str (pa_cons pe_str pa_nil)))) (pc c_l_next hr (by decide) rfl (pa_cons (pv 0) (pa_cons pe_int pa_nil))) (fun _ _ => rfl)))
        (pss_cons (ps_if (pt_cmpR op_eq (pc c_l_next hr (by decide) rfl (pa_cons (pv 0) (pa_cons pe_int pa_nil))) pe_int (nomark _))
          (pss_one (ps_set (i := 3) S.nd rfl (Or.inl rfl) (pc c_l_word hr (by decide) rfl (pa_cons (pv 0) pa_nil))))
          pss_nil)
        (pss_cons (ps_set (i := 4) S.nd rfl (Or.inl rfl) (pe_op op_add_str (pe_slice sl_str (pc c_l_word hr (by decide) rfl (pa_cons (pv 0) pa_nil)) po_none (po_some pe_int)) (pe_ix ix_str pe_str (pe_op op_mod (pv 1) pe_int) (fun _ _ => rfl))))
        (pss_one (ps_ret (pe_tup (pa_cons (pv 4) (pa_cons (pe_op op_add (pe_op op_add pe_int (pe_op op_fdivN (pv 1) pe_int)) (pe_op op_mul pe_int (pc c_l_next hr (by decide) rfl (pa_cons (pv 0) (pa_cons pe_int pa_nil))))) (pa_cons (pv 3) (pa_cons (pc c_l_next hr (by decide) rfl (pa_cons (pv 0) (pa_cons (pv 2) pa_nil))) pa_nil))))))))))), ?_⟩
  walk_at "vv"
  refine n_I (by show CPow 10 9; exact ⟨by decide, by decide, by decide⟩) ?_
  walk_at "vv"
  refine ⟨by show 2 ≤ sizeLine; decide, fun p hp => ?_⟩
  have t1 := Same.new (o := .lst ([(9 : Int), 10 ^ (9 : Int).toNat - 1].map V.int)) hp
  have kp := upd_same (H := H) (a := p) (o := .lst ([(9 : Int), 10 ^ (9 : Int).toNat - 1].map V.int))
  have hs1 := hs.same t1
  walk_at "vv"
  refine ⟨a, n, 2, rfl, hs1, by omega, by decide, by decide, fun H1 r r0 r1 hs2 f1 => ?_⟩
  walk_at "vv"
  obtain ⟨far, hfar, ef⟩ := nth_of V.int (xs := [(9 : Int), 10 ^ (9 : Int).toNat - 1]) r0 (by show r < 2; exact r1)
  have far1 : 1 ≤ far ∧ far ≤ 1000000000 := by
    simp only [List.mem_cons, List.not_mem_nil, or_false] at hfar
    rcases hfar with e | e
    · rw [e]; decide
    · rw [e]; decide
  have nnp : ∀ {Hx : Hp} {q : Addr}, Src Hx a n → Hx q = none → q ∉ [a] := fun h1 h2 => h1.new h2
  refine n_ixL (SqL.of (f1 _ _ kp (hs.new hp))) ef ?_
  have g1 : Fr [a] H H1 := (Fr.ofSame t1).trans f1
  walk_at "vv"
  refine ⟨by show 3 ≤ sizeLine; decide, fun p2 hp2 => ?_⟩
  have t2 := Same.new (o := .lst ([("x" : Str), "y", "z"].map V.str)) hp2
  have kp2 := upd_same (H := H1) (a := p2) (o := .lst ([("x" : Str), "y", "z"].map V.str))
  walk_at "vv"
  refine ⟨a, n + 1, 3, rfl, hs2.same t2, by omega, by decide, by decide, fun H2 r2 q0 q1 hs3 f2 => ?_⟩
  obtain ⟨key, hkey, ek⟩ := nth_of V.str (xs := [("x" : Str), "y", "z"]) q0 (by show r2 < 3; exact q1)
  have key1 : NameOk key := by
    have : [("x" : Str), "y", "z"].all nameB = true := by decide +kernel
    exact nameOk_of (List.all_eq_true.mp this key hkey)
  refine n_ixL (SqL.of (f2 _ _ kp2 (hs2.new hp2))) ek ?_
  have g2 : Fr [a] H H2 := g1.trans ((Fr.ofSame t2).trans f2)
  walk_at "vv"
  refine ⟨a, n + 2, 4, rfl, hs3, by omega, by decide, by decide, fun H3 r3 u0 u1 hs4 f3 => ?_⟩
  have g3 := g2.trans f3
  walk_at "vv"
  by_cases e3 : r3 = 0
  · refine n_iT (by rw [e3]; rfl) ?_
    walk_at "vv"
    refine ⟨a, n + 3, rfl, hs4, by omega, fun H4 key2 key2ok hs5 f4 => ?_⟩
    have g4 := g3.trans f4
    have key1 := key2ok
    walk_at "vv"
    refine ⟨a, n + 3 + 20, rfl, hs5, by omega, fun H5 wd wok hs6 f5 => ?_⟩
    walk_at "vv"
    refine ⟨wd, rfl, ?_, ?_⟩
    · exact Nat.le_trans wok.hi (by decide)
    walk_at "vv"
    refine n_I (by decide) ?_
    obtain ⟨c, ec, hc⟩ := abc_at k
    refine ⟨abc, k % 3, c, rfl, rfl, ?_, ec, ?_⟩
    · exact Nat.le_trans (m := 3) (by decide +kernel) (by decide)
    obtain ⟨mm, m7, pt⟩ := cutS7 wok
    refine ⟨_, ⟨#[c]⟩, rfl, rfl, ?_, ?_⟩
    · rw [pt.l]
      show mm + 1 ≤ sizeLine
      exact Nat.le_trans (m := 8) (by omega) (by decide)
    have aok := (pt.snoc hc).name (by omega) (by omega)
    generalize cutS wd none (some 7) ++ (⟨#[c]⟩ : Str) = asker at *
    walk_at "vv"
    refine n_I (by show CDivN k 3; exact ⟨by decide, by decide⟩) ?_
    have kd : 0 ≤ k.fdiv 3 := Int.fdiv_nonneg k0 (by decide)
    walk_at "vv"
    refine ⟨a, n + 3 + 20 + 20, 2, rfl, hs6, by omega, by decide, by decide, fun H6 r6 v0 v1 hs7 f6 => ?_⟩
    refine n_I (.inl (by decide)) ?_
    walk_at "vv"
    refine ⟨a, _, _, rfl, hs7, by omega, far1.1, far1.2, fun H7 r7 w0 w1 hs8 f7 => ?_⟩
    walk_at "vv"
    refine ⟨by show 4 ≤ sizeLine; decide, fun t ht => ?_⟩
    have gZ := g4.trans (f5.trans (f6.trans f7))
    refine h _ ⟨t, asker, 1 + k.fdiv 3 + 300 * r6, _, r7⟩ (gZ.none ht (hs8.new ht)) upd_same ⟨aok, ?_, key1, w0⟩ ((hs8.same (Same.new ht)).mono (by omega)) (gZ.trans (Fr.ofSame (Same.new ht)))
    show 1 ≤ 1 + k.fdiv 3 + 300 * r6
    omega
  · refine n_iF (decide_eq_false fun z => e3 (by injection z)) ?_
    have g4 := g3
    have hs5 := hs4.mono (show n + 2 + 1 ≤ n + 3 + 20 by omega)
    obtain ⟨H4, e4⟩ : ∃ H4, H4 = H3 := ⟨_, rfl⟩
    rw [← e4] at g4 hs5 ⊢
    walk_at "vv"
    refine ⟨a, n + 3 + 20, rfl, hs5, by omega, fun H5 wd wok hs6 f5 => ?_⟩
    walk_at "vv"
    refine ⟨wd, rfl, ?_, ?_⟩
    · exact Nat.le_trans wok.hi (by decide)
    walk_at "vv"
    refine n_I (by decide) ?_
    obtain ⟨c, ec, hc⟩ := abc_at k
    refine ⟨abc, k % 3, c, rfl, rfl, ?_, ec, ?_⟩
    · exact Nat.le_trans (m := 3) (by decide +kernel) (by decide)
    obtain ⟨mm, m7, pt⟩ := cutS7 wok
    refine ⟨_, ⟨#[c]⟩, rfl, rfl, ?_, ?_⟩
    · rw [pt.l]
      show mm + 1 ≤ sizeLine
      exact Nat.le_trans (m := 8) (by omega) (by decide)
    have aok := (pt.snoc hc).name (by omega) (by omega)
    generalize cutS wd none (some 7) ++ (⟨#[c]⟩ : Str) = asker at *
    walk_at "vv"
    refine n_I (by show CDivN k 3; exact ⟨by decide, by decide⟩) ?_
    have kd : 0 ≤ k.fdiv 3 := Int.fdiv_nonneg k0 (by decide)
    walk_at "vv"
    refine ⟨a, n + 3 + 20 + 20, 2, rfl, hs6, by omega, by decide, by decide, fun H6 r6 v0 v1 hs7 f6 => ?_⟩
    refine n_I (.inl (by decide)) ?_
    walk_at "vv"
    refine ⟨a, _, _, rfl, hs7, by omega, far1.1, far1.2, fun H7 r7 w0 w1 hs8 f7 => ?_⟩
    walk_at "vv"
    refine ⟨by show 4 ≤ sizeLine; decide, fun t ht => ?_⟩
    have gZ := g4.trans (f5.trans (f6.trans f7))
    refine h _ ⟨t, asker, 1 + k.fdiv 3 + 300 * r6, _, r7⟩ (gZ.none ht (hs8.new ht)) upd_same ⟨aok, ?_, key1, w0⟩ ((hs8.same (Same.new ht)).mono (by omega)) (gZ.trans (Fr.ofSame (Same.new ht)))
    show 1 ≤ 1 + k.fdiv 3 + 300 * r6
    omega
theorem n_yes {σ : L2.St} {H : Hp} {QB : Bool → Hp → Prop} (h : QB true H) : tYes σ H QB := h
theorem n_lcR {σ : L2.St} {H : Hp} {Q : VK} {tr : TA} {te : TE} {i : Nat} {own : List Nat} (h : tr σ H fun vs H1 => ∃ j : Int, vs = [.int j] ∧ -(2 ^ 62) ≤ j ∧ j < 2 ^ 62 ∧ LcG (Itr 0 j.toNat) i te own σ Q H1) : tLc (iRng1 tr) (gName i) tYes te own σ H Q := h
theorem ok_l_log (T : Txt w K mg A) (D : GD K mg "_law_log" s_l_log) (c_l_row : Cal P w K mg base 3 "_law_row" sp_l_row) : Cal P w K mg base 4 "_law_log" sp_l_log := by
  have S := sc_l_log.sc
  refine cal_mk D sc_l_log (fun vs H Q E h => by obtain ⟨a, n, k, rfl, _⟩ := h; rfl) fun f0 cdv A0 outer s0 H vs Q E hr h => ?_
  obtain ⟨a, n, m, rfl, hs, hn, m0, m1, h⟩ := h
  refine ⟨_, (pss_one (ps_ret (pe_lc (own := [("_law_k", 2)]) (g := gName 2) (by rfl) S.nd (pi_range1 (by rfl) T.b_range (pa_cons (pv 1) pa_nil)) (blkOk_by (own := [("_law_k", 2)]) (N := N_l_log) (sc := defScope s_l_log) (by decide +kernel)) (fun _ _ _ _ _ => pg_name (i := 2) S.nd rfl (Or.inl rfl)) (fun _ _ _ _ _ => pts_nil) (fun _ _ _ _ _ => (pc c_l_row hr (by decide) rfl (pa_cons (pv 0) (pa_cons (pv 2) pa_nil))))))), ?_⟩
  walk_at "vv"
  refine n_lcR ?_
  walk_at "vv"
  refine ⟨m, rfl, by omega, by omega, fun Dd fD => lc_range (fun i H' => ∃ l : List Row, H' Dd = some (.lst (l.map Row.v)) ∧ RowsOk H' l ∧ l.length = i ∧ Src H' a (n + 100 * i) ∧ Fr [a] H H')
    ⟨[], upd_same, RowsOk.nil, rfl, hs.same (Same.new fD), Fr.ofSame (Same.new fD)⟩ ?_ ?_⟩
  · rintro i H' hi ⟨l, hl, hR, ll, hs', f'⟩
    refine ⟨rfl, ?_⟩
    refine n_yes (n_iT rfl ?_)
    walk_at "vv"
    refine ⟨a, n + 100 * i, 0 + (i : Int), rfl, hs', by omega, by omega, by omega, fun H3 r hn3 ra ro hs3 f3 => ?_⟩
    have nDa := hs.new fD
    have hl3 := f3 _ _ hl nDa
    refine ⟨_, hl3, ?_, l ++ [r], by rw [upd_same, List.map_append]; rfl, ?_, by rw [List.length_append, ll]; rfl, ?_, ?_⟩
    · rw [List.length_map, ll]
      exact Nat.lt_trans (m := 1000) (by omega) (by decide)
    · have hR3 : RowsOk H3 (l ++ [r]) := (hR.to (Fr.tups f3 hs'.nt)).app ⟨fun q hq => by rw [List.mem_singleton.mp hq]; exact ra, fun q hq => by rw [List.mem_singleton.mp hq]; exact ro⟩
      exact hR3.to (Tups.upd hl3)
    · obtain ⟨x, y, z, e, rest⟩ := hs3
      exact ⟨x, y, z, by rw [upd_ne (fun q => nDa (by rw [← q]; simp))]; exact e, rest.1, rest.2.1, by have := rest.2.2.1; omega, rest.2.2.2⟩
    · exact Fr.less (p := Dd) (((f'.trans f3).mono fun q hq => List.mem_cons_of_mem _ hq).trans (Fr.upd (Fr.refl _) (by simp))) fD
  · rintro H' ⟨l, hl, hR, ll, hs', f'⟩
    exact h _ Dd l fD hl hR (by omega) (hs'.mono (by omega)) f'
end
/-! ### the world's entries -/
section
variable {s : WS} {x : WX}
theorem wF_number : valV (wF s x) (.inr "number") = some (.int s.num) := vk1
theorem wF_more : valV (wF s x) (.inr "more") = some (.int s.more) := vk2 (kne (by decide +kernel)) vk1
theorem wF_asks : valV (wF s x) (.inr "asks") = some (.int s.asks) := vk2 (kne (by decide +kernel)) (vk2 (kne (by decide +kernel)) vk1)
theorem wF_ahead : valV (wF s x) (.inr "ahead") = some (.ref x.ah) := vk2 (kne (by decide +kernel)) (vk2 (kne (by decide +kernel)) (vk2 (kne (by decide +kernel)) vk1))
theorem wF_behind : valV (wF s x) (.inr "behind") = some (.ref x.be) := vk2 (kne (by decide +kernel)) (vk2 (kne (by decide +kernel)) (vk2 (kne (by decide +kernel)) (vk2 (kne (by decide +kernel)) vk1)))
theorem wF_master : valV (wF s x) (.inr "master") = some (.ref x.ms) := vk2 (kne (by decide +kernel)) (vk2 (kne (by decide +kernel)) (vk2 (kne (by decide +kernel)) (vk2 (kne (by decide +kernel)) (vk2 (kne (by decide +kernel)) vk1))))
theorem wput_number {i : Int} : putK (wF s x) (.inr "number") (.int i) = wF { s with num := i } x :=
  pu1 (no1 (kne (by decide +kernel)) (no1 (kne (by decide +kernel)) (no1 (kne (by decide +kernel)) (no1 (kne (by decide +kernel)) (no1 (kne (by decide +kernel)) no0)))))
theorem wput_more {i : Int} : putK (wF s x) (.inr "more") (.int i) = wF { s with more := i } x :=
  pu2 (kne (by decide +kernel)) any1 (pu1 (no1 (kne (by decide +kernel)) (no1 (kne (by decide +kernel)) (no1 (kne (by decide +kernel)) (no1 (kne (by decide +kernel)) no0)))))
theorem wput_asks {i : Int} : putK (wF s x) (.inr "asks") (.int i) = wF { s with asks := i } x :=
  pu2 (kne (by decide +kernel)) (any2 any1) (pu2 (kne (by decide +kernel)) any1 (pu1 (no1 (kne (by decide +kernel)) (no1 (kne (by decide +kernel)) (no1 (kne (by decide +kernel)) no0)))))
theorem wput_master {p : Addr} : putK (wF s x) (.inr "master") (.ref p) = wF s { x with ms := p } :=
  pu2 (kne (by decide +kernel)) (any2 (any2 (any2 (any2 any1)))) (pu2 (kne (by decide +kernel)) (any2 (any2 (any2 any1))) (pu2 (kne (by decide +kernel)) (any2 (any2 any1)) (pu2 (kne (by decide +kernel)) (any2 any1) (pu2 (kne (by decide +kernel)) any1 (pu1 no0)))))
end
section
variable {P : Program} {w : World} {K : PySem.W.Frag} {mg : Str → Option Value} {base : Heap} {A : Ad}
theorem ok_l_names (D : GD K mg "_law_names" s_l_names) : Cal P w K mg base 1 "_law_names" sp_l_names := by
  have S := sc_l_names.sc
  refine cal_mk D sc_l_names (fun vs H Q E h => by obtain ⟨x, s, rfl, _⟩ := h; rfl) fun f0 cdv A0 outer s0 H vs Q E hr h => ?_
  obtain ⟨x, s, rfl, wa, lA, lB, h⟩ := h
  refine ⟨_, (pss_one (ps_ret (pe_op op_cat (pe_op op_cat (pe_dget (hu_of hr) (pv 0) pe_str (fun _ _ => rfl)) (pe_lst (pa_cons pe_str pa_nil))) (pe_dget (hu_of hr) (pv 0) pe_str (fun _ _ => rfl))))), ?_⟩
  walk_at "vv"
  refine ⟨_, _, rfl, dg wa.ob wF_ahead, ?_⟩
  walk_at "vv"
  refine ⟨by show 1 ≤ sizeLine; decide, fun p hp => ?_⟩
  have t1 := Same.new (o := .lst [.str "me"]) hp
  refine ⟨x.ah, p, _, _, rfl, rfl, t1 _ _ wa.ahd, upd_same, ?_, fun q hq => ?_⟩
  · rw [List.length_map]
    show s.A.length + 1 ≤ sizeLine
    exact Nat.le_trans (m := 11) (by omega) (by decide)
  have t2 := Same.new (o := .lst (s.A.map V.str ++ [.str "me"])) hq
  have wa2 := wa.same (Same.trans t1 t2)
  walk_at "vv"
  refine ⟨_, _, rfl, dg wa2.ob wF_behind, ?_⟩
  refine ⟨q, x.be, _, _, rfl, rfl, upd_same, wa2.bhd, ?_, fun u hu => ?_⟩
  · rw [List.length_append, List.length_map, List.length_map]
    show s.A.length + 1 + s.B.length ≤ sizeLine
    exact Nat.le_trans (m := 21) (by omega) (by decide)
  have t3 := Same.new (o := .lst (s.A.map V.str ++ [.str "me"] ++ s.B.map V.str)) hu
  refine h _ u ?_ (Same.trans t1 (Same.trans t2 t3)) ?_
  · exact (Fr.ofSame (S := []) (Same.trans t1 t2)).none hu (by simp)
  · rw [upd_same, List.map_append, List.map_cons, List.append_assoc]
    rfl
end
end Ck

namespace Ck
open PySem PySem.Spec PyProof.Rows L2
local macro_rules | `(tactic| walk_at "v") => `(tactic| (first | with_reducible refine n_seq ?_ | with_reducible refine n_ifs ?_ | with_reducible refine n_asg ?_ | with_reducible refine n_name ?_ | with_reducible refine n_ret ?_ | with_reducible refine n_drop ?_ | with_reducible refine n_next ?_ | ((with_reducible refine' n_var ?e ?_); (case e => rfl)) | with_reducible refine n_c ?_ | with_reducible refine n_op ?_ | with_reducible refine n_un ?_ | with_reducible refine n_test ?_ | with_reducible refine n_B ?_ | with_reducible refine n_ex ?_ | with_reducible refine n_and ?_ | with_reducible refine n_or ?_ | with_reducible refine n_not ?_ | with_reducible refine n_andV ?_ | with_reducible refine n_orV ?_ | with_reducible refine n_notV ?_ | with_reducible refine n_cons ?_ | with_reducible refine n_nil ?_ | with_reducible refine n_cb ?_ | with_reducible refine n_call ?_ | with_reducible refine n_I0 ?_ | with_reducible refine n_tup ?_ | with_reducible refine n_lst ?_ | with_reducible refine n_sl ?_ | with_reducible refine n_part ?_ | with_reducible refine n_nopart ?_ | with_reducible refine n_exI ?_ | with_reducible refine n_chain ?_ | with_reducible refine n_dget ?_ | with_reducible refine n_meth ?_ | with_reducible refine n_bm ?_ | with_reducible refine n_bm0 ?_ | with_reducible refine n_sfld ?_ | with_reducible refine n_fld ?_ | with_reducible refine n_for ?_ | with_reducible refine n_dpop1 ?_ | with_reducible refine n_din ?_ | with_reducible refine n_dnotin ?_ | with_reducible refine n_dput ?_ | with_reducible refine n_nn ?_ | with_reducible refine n_rU ?_ | with_reducible refine n_lss ?_ | with_reducible refine n_kget ?_ | with_reducible refine n_iL ?_ | with_reducible refine n_iE ?_ | with_reducible refine n_iR ?_ | with_reducible refine n_lc ?_ | with_reducible refine n_lcT ?_ | with_reducible refine n_lcS ?_ | with_reducible refine n_gTup ?_ | with_reducible refine n_gCons ?_ | with_reducible refine n_gNil ?_ | ((with_reducible refine n_eq ?e ?_); (case e => rfl)) | ((with_reducible refine n_ne ?e ?_); (case e => rfl)) | ((with_reducible refine n_iT ?e ?_); (case e => rfl)) | ((with_reducible refine n_iF ?e ?_); (case e => rfl))))
local macro_rules | `(tactic| walk_at "vv") => `(tactic| repeat walk_at "v")
section
variable {P : Program} {w : World} {K : PySem.W.Frag} {mg : Str → Option Value} {base : Heap} {A : Ad}
def housesB (l : List Str) : Bool := l.all nameB && (decide l.Nodup && (decide (1 ≤ l.length) && decide (l.length ≤ 7)))
theorem houses_of {l : List Str} (h : housesB l = true) : Houses l := by
  unfold housesB at h
  simp only [Bool.and_eq_true, decide_eq_true_eq, List.all_eq_true] at h
  exact ⟨fun x hx => nameOk_of (h.1 x hx), h.2.1, h.2.2.1, h.2.2.2⟩
def aN : List Str := ["pa", "pb", "pc"]
def bN : List Str := ["qa", "qb", "qc"]
theorem world_houses {i j : Int} (hi : 0 ≤ i) (hi2 : i < 4) (hj : 0 ≤ j) (hj2 : j < 4) : Houses (aN.take i.toNat ++ ("me" : Str) :: bN.take j.toNat) := by
  have : (List.range 4).all (fun a => (List.range 4).all fun b => housesB (aN.take a ++ ("me" : Str) :: bN.take b)) = true := by decide +kernel
  have h1 := List.all_eq_true.mp this i.toNat (List.mem_range.mpr (by omega))
  exact houses_of (List.all_eq_true.mp h1 j.toNat (List.mem_range.mpr (by omega)))
theorem dp_strs {K : PySem.W.Frag} {H : Hp} : ∀ (l : List Str), DpAll K H (l.map V.str) (l.map PyData.str)
  | [] => .nil
  | i :: l => .cons (.str i) (dp_strs l)
theorem mem_ne {a b : Addr} (h : a ≠ b) : a ∉ [b] := fun m => h (List.mem_singleton.mp m)
def w3 : List (Key × V) := [(.inr "number", .int 1), (.inr "more", .int 0), (.inr "asks", .int 0)]
def w4 (ah : Addr) : List (Key × V) := [(.inr "number", .int 1), (.inr "more", .int 0), (.inr "asks", .int 0), (.inr "ahead", .ref ah)]
def w5 (ah be : Addr) : List (Key × V) := [(.inr "number", .int 1), (.inr "more", .int 0), (.inr "asks", .int 0), (.inr "ahead", .ref ah), (.inr "behind", .ref be)]
theorem put_w4 {ah : Addr} : putK w3 (.inr "ahead") (.ref ah) = w4 ah := put_new (no1 (kne (by decide +kernel)) (no1 (kne (by decide +kernel)) (no1 (kne (by decide +kernel)) no0)))
theorem put_w5 {ah be : Addr} : putK (w4 ah) (.inr "behind") (.ref be) = w5 ah be := put_new (no1 (kne (by decide +kernel)) (no1 (kne (by decide +kernel)) (no1 (kne (by decide +kernel)) (no1 (kne (by decide +kernel)) no0))))
theorem put_w6 {m ah be ms : Addr} {X Y : List Str} {l : List Row} : putK (w5 ah be) (.inr "master") (.ref ms) = wF ⟨1, 0, 0, X, Y, l⟩ ⟨m, ah, be, ms⟩ :=
  put_new (no1 (kne (by decide +kernel)) (no1 (kne (by decide +kernel)) (no1 (kne (by decide +kernel)) (no1 (kne (by decide +kernel)) (no1 (kne (by decide +kernel)) no0)))))
theorem ok_l_world (T : Txt w K mg A) (D : GD K mg "_law_world" s_l_world) (c_l_next : Cal P w K mg base 1 "_law_next" sp_l_next) (c_l_log : Cal P w K mg base 4 "_law_log" sp_l_log) : Cal P w K mg base 5 "_law_world" sp_l_world := by
  have S := sc_l_world.sc
  refine cal_mk D sc_l_world (fun vs H Q E h => by obtain ⟨a, rfl, _⟩ := h; rfl) fun f0 cdv A0 outer s0 H vs Q E hr h => ?_
  obtain ⟨a, rfl, hs, h⟩ := h
  refine ⟨_, (pss_cons (ps_set (i := 1) S.nd rfl (Or.inl rfl) (pe_disp (pps_cons pe_str pe_int (pps_cons pe_str pe_int (pps_cons pe_str pe_int pps_nil))) (by rfl) (by rfl) (fun z => by cases z) (by decide)))
        (pss_cons (ps_dput (hu_of hr) (pv 1) pe_str (pe_slice sl_list (pe_lst (pa_cons pe_str (pa_cons pe_str (pa_cons pe_str pa_nil)))) po_none (po_some (pc c_l_next hr (by decide) rfl (pa_cons (pv 0) (pa_cons pe_int pa_nil))))) rfl)
        (pss_cons (ps_dput (hu_of hr) (pv 1) pe_str (pe_slice sl_list (pe_lst (pa_cons pe_str (pa_cons pe_str (pa_cons pe_str pa_nil)))) po_none (po_some (pc c_l_next hr (by decide) rfl (pa_cons (pv 0) (pa_cons pe_int pa_nil))))) rfl)
        (pss_cons (ps_dput (hu_of hr) (pv 1) pe_str (pc c_l_log hr (by decide) rfl (pa_cons (pv 0) (pa_cons (pc c_l_next hr (by decide) rfl (pa_cons (pv 0) (pa_cons pe_int pa_nil))) pa_nil))) rfl)
        (pss_cons (ps_if (pt_cmpR (op_eqD hr.units) (pe_dget (hu_of hr) (pv 1) pe_str (fun _ _ => rfl)) (pe_lst pa_nil) (nomark _))
          (pss_one (ps_dput (hu_of hr) (pv 1) pe_str (pe_lst pa_nil) rfl))
          pss_nil)
        (pss_one (ps_ret (pv 1)))))))), ?_⟩
  walk_at "vv"
  intro m hm
  refine n_pc ?_
  walk_at "vv"
  refine n_pc ?_
  walk_at "vv"
  refine n_pc ?_
  walk_at "vv"
  refine n_p0 ⟨upd_same, [(.inr "number", .int 1), (.inr "more", .int 0), (.inr "asks", .int 0)], rfl, by show 3 ≤ 15; decide, ?_⟩
  have em : mergeK [] [((.inr "number" : Key), V.int 1), (.inr "more", .int 0), (.inr "asks", .int 0)] = w3 := by
    unfold mergeK
    simp only [List.foldl_cons, List.foldl_nil]
    rw [put_new no0, List.nil_append, put_new (no1 (kne (by decide +kernel)) no0)]
    simp only [List.nil_append, List.cons_append]
    rw [put_new (no1 (kne (by decide +kernel)) (no1 (kne (by decide +kernel)) no0))]
    rfl
  rw [em]
  have t0 : Same H (upd (upd H m (.dK [])) m (.dK w3)) := Same.put (Same.new hm) hm
  have km : upd (upd H m (.dK [])) m (.dK w3) m = _ := upd_same
  have hs0 := hs.same t0
  have nma := hs.new hm
  generalize upd (upd H m (.dK [])) m (.dK w3) = H0 at *
  walk_at "vv"
  -- the houses ahead
  refine ⟨by show 3 ≤ sizeLine; decide, fun p hp => ?_⟩
  have t1 := Same.new (o := .lst (aN.map V.str)) hp
  have kp := upd_same (H := H0) (a := p) (o := .lst (aN.map V.str))
  walk_at "vv"
  refine ⟨a, 0, 4, rfl, hs0.same t1, by omega, by decide, by decide, fun H1 i i0 i1 hs1 f1 => ?_⟩
  have kp1 := f1 _ _ kp (hs0.new hp)
  have km1 := f1 _ _ (t1 _ _ km) nma
  have g1 : Fr [a] H H1 := (Fr.ofSame t0).trans ((Fr.ofSame t1).trans f1)
  walk_at "vv"
  refine ⟨p, _, rfl, SqL.of kp1, fun ah hah => ?_⟩
  obtain ⟨iN, rfl⟩ : ∃ iN : Nat, i = (iN : Int) := ⟨i.toNat, by omega⟩
  rw [cut_to, ← List.map_take]
  have t2 := Same.new (o := .lst ((aN.take iN).map V.str)) hah
  have kah := upd_same (H := H1) (a := ah) (o := .lst ((aN.take iN).map V.str))
  have km2 := t2 _ _ km1
  have hs2 := hs1.same t2
  have g2 : Fr [a] H _ := g1.trans (Fr.ofSame t2)
  have fah := g1.none hah (hs1.new hah)
  have naha := hs1.new hah
  have nmah : m ≠ ah := ne_of_none km1 hah
  generalize upd H1 ah (.lst ((aN.take iN).map V.str)) = H2 at *
  walk_at "vv"
  refine ⟨m, _, rfl, DPut.k (k := Sum.inr "ahead") km2 (by show 3 < _; decide), ?_⟩
  rw [put_w4]
  have g3 : Fr [a] H (upd H2 m (.dK (w4 ah))) := Fr.new g2 hm
  have km3 : upd H2 m (.dK (w4 ah)) m = _ := upd_same
  have kah3 : upd H2 m (.dK (w4 ah)) ah = _ := (upd_ne nmah.symm).trans kah
  have hs3 : Src (upd H2 m (.dK (w4 ah))) a 1 := by
    obtain ⟨x, y, z, e, rest⟩ := hs2
    exact ⟨x, y, z, (upd_ne (fun q => nma (by rw [← q]; simp))).trans e, rest⟩
  generalize upd H2 m (.dK (w4 ah)) = H3 at *
  walk_at "vv"
  -- the houses behind
  refine ⟨by show 3 ≤ sizeLine; decide, fun p2 hp2 => ?_⟩
  have t4 := Same.new (o := .lst (bN.map V.str)) hp2
  have kp2 := upd_same (H := H3) (a := p2) (o := .lst (bN.map V.str))
  walk_at "vv"
  refine ⟨a, 1, 4, rfl, hs3.same t4, by omega, by decide, by decide, fun H4 j j0 j1 hs4 f4 => ?_⟩
  have kp4 := f4 _ _ kp2 (hs3.new hp2)
  have km4 := f4 _ _ (t4 _ _ km3) nma
  have kah4 := f4 _ _ (t4 _ _ kah3) naha
  have g4 : Fr [a] H H4 := g3.trans ((Fr.ofSame t4).trans f4)
  walk_at "vv"
  refine ⟨p2, _, rfl, SqL.of kp4, fun be hbe => ?_⟩
  obtain ⟨jN, rfl⟩ : ∃ jN : Nat, j = (jN : Int) := ⟨j.toNat, by omega⟩
  rw [cut_to, ← List.map_take]
  have t5 := Same.new (o := .lst ((bN.take jN).map V.str)) hbe
  have kbe := upd_same (H := H4) (a := be) (o := .lst ((bN.take jN).map V.str))
  have km5 := t5 _ _ km4
  have kah5 := t5 _ _ kah4
  have hs5 := hs4.same t5
  have g5 : Fr [a] H _ := g4.trans (Fr.ofSame t5)
  have fbe := g4.none hbe (hs4.new hbe)
  have nbea := hs4.new hbe
  have nmbe : m ≠ be := ne_of_none km4 hbe
  have nab : ah ≠ be := ne_of_none kah4 hbe
  generalize upd H4 be (.lst ((bN.take jN).map V.str)) = H5 at *
  walk_at "vv"
  refine ⟨m, _, rfl, DPut.k (k := Sum.inr "behind") km5 (by show 4 < _; decide), ?_⟩
  rw [put_w5]
  have g6 : Fr [a] H (upd H5 m (.dK (w5 ah be))) := Fr.new g5 hm
  have km6 : upd H5 m (.dK (w5 ah be)) m = _ := upd_same
  have kah6 : upd H5 m (.dK (w5 ah be)) ah = _ := (upd_ne nmah.symm).trans kah5
  have kbe6 : upd H5 m (.dK (w5 ah be)) be = _ := (upd_ne nmbe.symm).trans kbe
  have hs6 : Src (upd H5 m (.dK (w5 ah be))) a 2 := by
    obtain ⟨x, y, z, e, rest⟩ := hs5
    exact ⟨x, y, z, (upd_ne (fun q => nma (by rw [← q]; simp))).trans e, rest⟩
  generalize upd H5 m (.dK (w5 ah be)) = H6 at *
  walk_at "vv"
  -- the rows
  refine ⟨a, 2, 15, rfl, hs6, by omega, by decide, by decide, fun H7 k k0 k1 hs7 f7 => ?_⟩
  walk_at "vv"
  refine ⟨a, 3, k, rfl, hs7, by omega, k0, by omega, fun H8 ms l hms kms hR ll hs8 f8 => ?_⟩
  have f78 := f7.trans f8
  have km8 := f78 _ _ km6 nma
  have kah8 := f78 _ _ kah6 naha
  have kbe8 := f78 _ _ kbe6 nbea
  have g8 := g6.trans f78
  have nmsa : ms ∉ [a] := hs7.new hms
  have fms := (g6.trans f7).none hms nmsa
  have nmms : m ≠ ms := ne_of_none (f7 _ _ km6 nma) hms
  have nahms : ah ≠ ms := ne_of_none (f7 _ _ kah6 naha) hms
  have nbems : be ≠ ms := ne_of_none (f7 _ _ kbe6 nbea) hms
  walk_at "vv"
  refine ⟨m, _, rfl, DPut.k (k := Sum.inr "master") km8 (by show 5 < _; decide), ?_⟩
  rw [put_w6 (m := m) (X := aN.take iN) (Y := bN.take jN) (l := l)]
  have wok : ∀ mas : List Row, mas.length ≤ 14 → (⟨1, 0, 0, aN.take iN, bN.take jN, mas⟩ : WS).Ok 0 := fun mas hmas =>
    ⟨by show (1 : Int) ≤ 1; decide, ⟨by show (0 : Int) ≤ 0; decide, by show 2 * (0 : Int) ≤ _; omega⟩, ⟨by show (0 : Int) ≤ 0; decide, by show (0 : Int) ≤ ((0 : Nat) : Int); decide⟩, by have := world_houses i0 i1 j0 j1; rw [Int.toNat_natCast, Int.toNat_natCast] at this; exact this, fun x hx => List.mem_of_mem_take hx, fun x hx => .inl (List.mem_of_mem_take hx), by show mas.length ≤ 14 + 0; omega⟩
  have wa9 : WA (upd H8 m (.dK (wF ⟨1, 0, 0, aN.take iN, bN.take jN, l⟩ ⟨m, ah, be, ms⟩))) ⟨m, ah, be, ms⟩ ⟨1, 0, 0, aN.take iN, bN.take jN, l⟩ :=
    ⟨upd_same, (upd_ne nmah.symm).trans kah8, (upd_ne nmbe.symm).trans kbe8, nab, (upd_ne nmms.symm).trans kms, hR.to (fun b zs e => by rw [upd_ne (fun q => by rw [q, km8] at e; cases e)]; exact e), ⟨nahms.symm, nbems.symm⟩⟩
  have g9 : Fr [a] H (upd H8 m (.dK (wF ⟨1, 0, 0, aN.take iN, bN.take jN, l⟩ ⟨m, ah, be, ms⟩))) := Fr.new g8 hm
  have hs9 : Src (upd H8 m (.dK (wF ⟨1, 0, 0, aN.take iN, bN.take jN, l⟩ ⟨m, ah, be, ms⟩))) a 10003 := by
    obtain ⟨x, y, z, e, rest⟩ := hs8
    exact ⟨x, y, z, (upd_ne (fun q => nma (by rw [← q]; simp))).trans e, rest⟩
  generalize upd H8 m (.dK (wF ⟨1, 0, 0, aN.take iN, bN.take jN, l⟩ ⟨m, ah, be, ms⟩)) = H9 at *
  walk_at "vv"
  refine ⟨_, _, rfl, dg wa9.ob wF_ahead, ?_⟩
  walk_at "vv"
  refine ⟨Nat.zero_le _, fun z hz => ?_⟩
  have t10 := Same.new (o := .lst []) hz
  have wa10 := wa9.same t10
  have hs10 := hs9.same t10
  have g10 := g9.trans (Fr.ofSame t10)
  have kz := upd_same (H := H9) (a := z) (o := .lst [])
  generalize upd H9 z (.lst []) = H10 at *
  refine ⟨.list ((aN.take iN).map PyData.str), .list [], .lst (SqL.of wa10.ahd) (dp_strs _), .lst (SqL.of kz) .nil, (sh_lst (n := 1) fun d hd => by obtain ⟨y, hy, rfl⟩ := List.mem_map.mp hd; exact ((world_houses i0 i1 j0 j1).ok y (List.mem_append_left _ (by rw [Int.toNat_natCast]; exact hy))).sh).shaped (by decide), rfl, ?_⟩
  cases hA : aN.take iN with
  | nil =>
    rw [hA] at wa10 wok
    walk_at "v"
    refine n_iT (by rfl) ?_
    walk_at "vv"
    refine ⟨Nat.zero_le _, fun ms2 hms2 => ?_⟩
    have t11 := Same.new (o := .lst []) hms2
    have kms2 := upd_same (H := H10) (a := ms2) (o := .lst [])
    have wa11 := wa10.same t11
    have hs11 := hs10.same t11
    have g11 := g10.trans (Fr.ofSame t11)
    have f2 := g10.none hms2 (hs10.new hms2)
    have n1 : m ≠ ms2 := ne_of_none wa10.ob hms2
    have n2 : ah ≠ ms2 := ne_of_none wa10.ahd hms2
    have n3 : be ≠ ms2 := ne_of_none wa10.bhd hms2
    generalize upd H10 ms2 (.lst []) = H11 at *
    walk_at "vv"
    refine ⟨m, _, rfl, DPut.k (k := Sum.inr "master") wa11.ob (by show 6 < _; decide), ?_⟩
    rw [wput_master]
    walk_at "vv"
    have hob := wa11.ob
    refine h _ ⟨m, ah, be, ms2⟩ ⟨1, 0, 0, [], bN.take jN, []⟩ hm fah fbe f2 ⟨upd_same, (upd_ne nmah.symm).trans wa11.ahd, (upd_ne nmbe.symm).trans wa11.bhd, nab, (upd_ne n1.symm).trans kms2, RowsOk.nil, ⟨n2.symm, n3.symm⟩⟩ (wok [] (by decide)) rfl ?_ (Fr.new g11 hm)
    obtain ⟨x, y, z, e, rest⟩ := hs11
    exact ⟨x, y, z, (upd_ne (fun q => nma (by rw [← q]; simp))).trans e, rest.1, rest.2.1, by have := rest.2.2.1; omega, rest.2.2.2⟩
  | cons y ys =>
    rw [hA] at wa10 wok
    walk_at "v"
    refine n_iF (by rfl) ?_
    walk_at "vv"
    exact h _ ⟨m, ah, be, ms⟩ _ hm fah fbe fms wa10 (wok l (by omega)) rfl (hs10.mono (by omega)) g10
end
end Ck

namespace Ck
open PySem PySem.Spec PyProof.Rows L2
local macro_rules | `(tactic| walk_at "v") => `(tactic| (first | with_reducible refine n_seq ?_ | with_reducible refine n_ifs ?_ | with_reducible refine n_asg ?_ | with_reducible refine n_name ?_ | with_reducible refine n_ret ?_ | with_reducible refine n_drop ?_ | with_reducible refine n_next ?_ | ((with_reducible refine' n_var ?e ?_); (case e => rfl)) | with_reducible refine n_c ?_ | with_reducible refine n_op ?_ | with_reducible refine n_un ?_ | with_reducible refine n_test ?_ | with_reducible refine n_B ?_ | with_reducible refine n_ex ?_ | with_reducible refine n_and ?_ | with_reducible refine n_or ?_ | with_reducible refine n_not ?_ | with_reducible refine n_andV ?_ | with_reducible refine n_orV ?_ | with_reducible refine n_notV ?_ | with_reducible refine n_cons ?_ | with_reducible refine n_nil ?_ | with_reducible refine n_cb ?_ | with_reducible refine n_call ?_ | with_reducible refine n_I0 ?_ | with_reducible refine n_tup ?_ | with_reducible refine n_lst ?_ | with_reducible refine n_sl ?_ | with_reducible refine n_part ?_ | with_reducible refine n_nopart ?_ | with_reducible refine n_exI ?_ | with_reducible refine n_chain ?_ | with_reducible refine n_dget ?_ | with_reducible refine n_meth ?_ | with_reducible refine n_bm ?_ | with_reducible refine n_bm0 ?_ | with_reducible refine n_sfld ?_ | with_reducible refine n_fld ?_ | with_reducible refine n_for ?_ | with_reducible refine n_dpop1 ?_ | with_reducible refine n_din ?_ | with_reducible refine n_dnotin ?_ | with_reducible refine n_dput ?_ | with_reducible refine n_nn ?_ | with_reducible refine n_rU ?_ | with_reducible refine n_lss ?_ | with_reducible refine n_kget ?_ | with_reducible refine n_iL ?_ | with_reducible refine n_iE ?_ | with_reducible refine n_iR ?_ | with_reducible refine n_lc ?_ | with_reducible refine n_lcT ?_ | with_reducible refine n_lcS ?_ | with_reducible refine n_gTup ?_ | with_reducible refine n_gCons ?_ | with_reducible refine n_gNil ?_ | ((with_reducible refine n_eq ?e ?_); (case e => rfl)) | ((with_reducible refine n_ne ?e ?_); (case e => rfl)) | ((with_reducible refine n_iT ?e ?_); (case e => rfl)) | ((with_reducible refine n_iF ?e ?_); (case e => rfl))))
local macro_rules | `(tactic| walk_at "vv") => `(tactic| repeat walk_at "v")
theorem Src.upd {H : Hp} {a q : Addr} {n : Nat} {o : HO} (h : Src H a n) (k : a ≠ q) : Src (L2.upd H q o) a n := by
  obtain ⟨x, y, z, e, rest⟩ := h
  exact ⟨x, y, z, (upd_ne k).trans e, rest⟩
theorem WA.setF {H : Hp} {x : WX} {s s' : WS} (h : WA H x s) (e1 : s'.A = s.A) (e2 : s'.B = s.B) (e3 : s'.master = s.master) : WA (L2.upd H x.w (.dK (wF s' x))) x s' := by
  have n1 : x.ah ≠ x.w := ne_of h.ahd h.ob (by intro z; cases z)
  have n2 : x.be ≠ x.w := ne_of h.bhd h.ob (by intro z; cases z)
  have n3 : x.ms ≠ x.w := ne_of h.mst h.ob (by intro z; cases z)
  refine ⟨upd_same, by rw [e1]; exact (upd_ne n1).trans h.ahd, by rw [e2]; exact (upd_ne n2).trans h.bhd, h.ne, by rw [e3]; exact (upd_ne n3).trans h.mst, ?_, h.nem⟩
  rw [e3]
  exact h.rows.to fun b zs e => by
    rw [upd_ne (fun q => by rw [q, h.ob] at e; cases e)]
    exact e
theorem WA.setB {H : Hp} {x : WX} {s : WS} {B : List Str} (h : WA H x s) : WA (L2.upd H x.be (.lst (B.map V.str))) x { s with B := B } := by
  have n1 : x.w ≠ x.be := ne_of h.ob h.bhd (by intro z; cases z)
  refine ⟨(upd_ne n1).trans h.ob, (upd_ne h.ne).trans h.ahd, upd_same, h.ne, (upd_ne h.nem.2).trans h.mst, ?_, h.nem⟩
  exact h.rows.to (Tups.upd h.bhd)
theorem WA.setA {H : Hp} {x : WX} {s : WS} {A : List Str} (h : WA H x s) : WA (L2.upd H x.ah (.lst (A.map V.str))) x { s with A := A } := by
  have n1 : x.w ≠ x.ah := ne_of h.ob h.ahd (by intro z; cases z)
  refine ⟨(upd_ne n1).trans h.ob, upd_same, (upd_ne h.ne.symm).trans h.bhd, h.ne, (upd_ne h.nem.1).trans h.mst, ?_, h.nem⟩
  exact h.rows.to (Tups.upd h.ahd)
theorem WA.setM {H : Hp} {x : WX} {s : WS} {l : List Row} {p : Addr} (h : WA H x s) (hp : H p = some (.lst (l.map Row.v))) (hl : RowsOk H l) (n1 : p ≠ x.ah) (n2 : p ≠ x.be) : WA (L2.upd H x.w (.dK (wF s { x with ms := p }))) { x with ms := p } { s with master := l } := by
  have n3 : x.ah ≠ x.w := ne_of h.ahd h.ob (by intro z; cases z)
  have n4 : x.be ≠ x.w := ne_of h.bhd h.ob (by intro z; cases z)
  have n5 : p ≠ x.w := ne_of hp h.ob (by intro z; cases z)
  refine ⟨upd_same, (upd_ne n3).trans h.ahd, (upd_ne n4).trans h.bhd, h.ne, (upd_ne n5).trans hp, ?_, ⟨n1, n2⟩⟩
  exact hl.to fun b zs e => by
    rw [upd_ne (fun q => by rw [q, h.ob] at e; cases e)]
    exact e
theorem Houses.sub {l l' : List Str} (h : Houses l) (s : List.Sublist l' l) (k : 1 ≤ l'.length) : Houses l' := ⟨fun x m => h.ok x (s.subset m), s.nodup h.nd, k, Nat.le_trans s.length_le h.hi⟩
theorem seq_ix {i : Int} {n : Nat} (h : 0 ≤ i) (k : i < (n : Int)) : seqIndex? i n = some i.toNat := by
  have e : (if i < 0 then i + (n : Int) else i) = i := if_neg (by omega)
  unfold seqIndex?
  simp only [e, decide_eq_true h, decide_eq_true k]
  rfl
theorem er_map {α β : Type} (f : α → β) : ∀ (l : List α) (k : Nat), (l.map f).eraseIdx k = (l.eraseIdx k).map f
  | [], _ => rfl
  | _ :: _, 0 => rfl
  | a :: l, k + 1 => congrArg (f a :: ·) (er_map f l k)
theorem WS.Ok.popA {s : WS} {t k : Nat} (h : s.Ok t) : (⟨s.num, s.more, s.asks, s.A.eraseIdx k, s.B, s.master⟩ : WS).Ok (t + 1) := by
  obtain ⟨h1, ⟨h2, h3⟩, ⟨h4, h5⟩, h6, h7, h8, h9⟩ := h
  refine ⟨h1, ⟨h2, by show 2 * s.more ≤ (s.B.length : Int) + ((t + 1 : Nat) : Int); omega⟩, ⟨h4, by show s.asks ≤ ((t + 1 : Nat) : Int); omega⟩, ?_, fun x hx => h7 x (List.mem_of_mem_eraseIdx hx), h8, by show s.master.length ≤ 14 + (t + 1); omega⟩
  exact h6.sub (List.Sublist.append (List.eraseIdx_sublist ..) (List.Sublist.refl _)) (by rw [List.length_append, List.length_cons]; omega)
theorem WS.Ok.popB {s : WS} {t k : Nat} (h : s.Ok t) (hk : k < s.B.length) : (⟨s.num, s.more, s.asks, s.A, s.B.eraseIdx k, s.master⟩ : WS).Ok (t + 1) := by
  obtain ⟨h1, ⟨h2, h3⟩, ⟨h4, h5⟩, h6, h7, h8, h9⟩ := h
  have el := List.length_eraseIdx_of_lt hk
  refine ⟨h1, ⟨h2, ?_⟩, ⟨h4, by show s.asks ≤ ((t + 1 : Nat) : Int); omega⟩, ?_, h7, fun x hx => h8 x (List.mem_of_mem_eraseIdx hx), by show s.master.length ≤ 14 + (t + 1); omega⟩
  · show 2 * s.more ≤ (((s.B.eraseIdx k).length : Nat) : Int) + ((t + 1 : Nat) : Int)
    omega
  · exact h6.sub (List.Sublist.append (List.Sublist.refl _) (List.Sublist.cons₂ _ (List.eraseIdx_sublist ..))) (by rw [List.length_append, List.length_cons]; omega)
theorem WS.Ok.up {s : WS} {t : Nat} (h : s.Ok t) : s.Ok (t + 1) := by
  obtain ⟨h1, ⟨h2, h3⟩, ⟨h4, h5⟩, h6, h7, h8, h9⟩ := h
  exact ⟨h1, ⟨h2, by omega⟩, ⟨h4, by omega⟩, h6, h7, h8, by omega⟩
theorem WS.Ok.number {s : WS} {t : Nat} (h : s.Ok t) : (⟨s.num + 1, s.more, s.asks, s.A, s.B, s.master⟩ : WS).Ok t := by
  obtain ⟨h1, h2, h3, h6, h7, h8, h9⟩ := h
  exact ⟨by show 1 ≤ s.num + 1; omega, h2, h3, h6, h7, h8, h9⟩
theorem WS.Ok.masters {s : WS} {t : Nat} {l : List Row} (h : s.Ok t) (k : l.length ≤ 14 + t) : (⟨s.num, s.more, s.asks, s.A, s.B, l⟩ : WS).Ok t := by
  obtain ⟨h1, h2, h3, h6, h7, h8, h9⟩ := h
  exact ⟨h1, h2, h3, h6, h7, h8, k⟩
theorem new_len {c : Nat} : (("new" : Str) ++ (⟨#[c]⟩ : Str)).length = 4 := by
  show (("new" : Str).cps ++ #[c]).size = 4
  rw [Array.size_append]
  have : ("new" : Str).cps.size = 3 := by decide +kernel
  rw [this]
  rfl
theorem new_inj {c d : Nat} (h : ("new" : Str) ++ (⟨#[c]⟩ : Str) = ("new" : Str) ++ (⟨#[d]⟩ : Str)) : c = d := by
  have h1 : ("new" : Str).cps ++ #[c] = ("new" : Str).cps ++ #[d] := congrArg Str.cps h
  have h2 := congrArg Array.toList h1
  rw [Array.toList_append, Array.toList_append] at h2
  have h3 := List.append_cancel_left h2
  injection h3 with h3 _
theorem alpha_nd : alpha.cps.toList.Nodup := by decide +kernel
theorem new_name {c : Nat} (h : c ∈ alpha.cps.toList) : NameOk (("new" : Str) ++ (⟨#[c]⟩ : Str)) := by
  refine ⟨by rw [new_len]; decide, by rw [new_len]; decide, fun d hd => ?_⟩
  have hd : d ∈ (("new" : Str).cps ++ #[c]).toList := hd
  rw [Array.toList_append] at hd
  rcases List.mem_append.mp hd with e | e
  · have : ∀ d ∈ ("new" : Str).cps.toList, d ∈ alpha.cps.toList := by decide +kernel
    exact this d e
  · rw [List.mem_singleton.mp e]; exact h
theorem WS.Ok.grow {s : WS} {t : Nat} {c : Nat} (h : s.Ok t) (hl : (s.A ++ ("me" : Str) :: s.B).length < 7) (hc : alpha.cps.toList[(s.more + 1).toNat]? = some c) :
    (⟨s.num, s.more + 1, s.asks, s.A, s.B ++ [("new" : Str) ++ (⟨#[c]⟩ : Str)], s.master⟩ : WS).Ok (t + 1) := by
  obtain ⟨h1, ⟨h2, h3⟩, ⟨h4, h5⟩, h6, h7, h8, h9⟩ := h
  have hne : ("new" : Str) ++ (⟨#[c]⟩ : Str) ∉ s.A ++ ("me" : Str) :: s.B := by
    intro m
    have two : ∀ x : Str, x.length = 2 → ("new" : Str) ++ (⟨#[c]⟩ : Str) = x → False := fun x hx e => by
      rw [← e, new_len] at hx
      cases hx
    rcases List.mem_append.mp m with m | m
    · have : ∀ x ∈ ([("pa" : Str), ("pb" : Str), ("pc" : Str)] : List Str), x.length = 2 := by decide +kernel
      exact two _ (this _ (h7 _ m)) rfl
    · rcases List.mem_cons.mp m with m | m
      · exact two _ (by decide +kernel) m
      · rcases h8 _ m with m | ⟨i, i1, i2, d, hd, e⟩
        · have : ∀ x ∈ ([("qa" : Str), ("qb" : Str), ("qc" : Str)] : List Str), x.length = 2 := by decide +kernel
          exact two _ (this _ m) rfl
        · have e2 := new_inj e
          rw [e2] at hc
          have := nd_ix alpha_nd hc hd
          omega
  refine ⟨h1, ⟨by show 0 ≤ s.more + 1; omega, ?_⟩, ⟨h4, by show s.asks ≤ ((t + 1 : Nat) : Int); omega⟩, ?_, h7, fun x hx => ?_, by show s.master.length ≤ 14 + (t + 1); omega⟩
  · show 2 * (s.more + 1) ≤ (((s.B ++ [("new" : Str) ++ (⟨#[c]⟩ : Str)]).length : Nat) : Int) + ((t + 1 : Nat) : Int)
    rw [List.length_append]
    show 2 * (s.more + 1) ≤ ((s.B.length + 1 : Nat) : Int) + ((t + 1 : Nat) : Int)
    omega
  · show Houses (s.A ++ ("me" : Str) :: (s.B ++ [("new" : Str) ++ (⟨#[c]⟩ : Str)]))
    rw [← List.cons_append, ← List.append_assoc]
    refine ⟨fun x hx => ?_, ?_, ?_, ?_⟩
    · rcases List.mem_append.mp hx with m | m
      · exact h6.ok x m
      · rw [List.mem_singleton.mp m]
        exact new_name (List.mem_of_getElem? hc)
    · refine List.nodup_append.mpr ⟨h6.nd, by simp, fun x hx y hy e => ?_⟩
      rw [List.mem_singleton.mp hy] at e
      rw [e] at hx
      exact hne hx
    · rw [List.length_append]
      have := h6.lo
      omega
    · rw [List.length_append]
      show (s.A ++ ("me" : Str) :: s.B).length + 1 ≤ 7
      omega
  · rcases List.mem_append.mp hx with m | m
    · rcases h8 x m with q | ⟨i, i1, i2, d, hd, e⟩
      · exact .inl q
      · exact .inr ⟨i, i1, by show (i : Int) ≤ s.more + 1; omega, d, hd, e⟩
    · refine .inr ⟨(s.more + 1).toNat, by omega, by show (((s.more + 1).toNat : Nat) : Int) ≤ s.more + 1; omega, c, hc, List.mem_singleton.mp m⟩
section
variable {P : Program} {w : World} {K : PySem.W.Frag} {mg : Str → Option Value} {base : Heap} {A : Ad}
theorem eqv_nil {l : List PyData} : PyData.eqv (.list l) (.list []) = decide (l = []) := by
  cases l with
  | nil => rfl
  | cons a r => rfl
theorem ok_l_changed (T : Txt w K mg A) (D : GD K mg "_law_changed" s_l_changed) (c_l_next : Cal P w K mg base 1 "_law_next" sp_l_next) (c_l_names : Cal P w K mg base 1 "_law_names" sp_l_names) : Cal P w K mg base 2 "_law_changed" sp_l_changed := by
  have S := sc_l_changed.sc
  refine cal_mk D sc_l_changed (fun vs H Q E h => by obtain ⟨a, n, x, s, y, h, t, rfl, _⟩ := h; rfl) fun f0 cdv A0 outer s0 H vs Q E hr hh => ?_
  obtain ⟨a, n, x, s, y, g, t, rfl, hs, hn, wa, ok, ht, ma, gl, na1, na2, na3, na4, nw1, nw2, nl1, nl2, h⟩ := hh
  refine ⟨_, (pss_cons (ps_set (i := 3) S.nd rfl (Or.inl rfl) (pc c_l_next hr (by decide) rfl (pa_cons (pv 0) (pa_cons pe_int pa_nil))))
        (pss_cons (ps_set (i := 4) S.nd rfl (Or.inl rfl) (pe_ix ix_list (pe_lst (pa_cons (pe_dget (hu_of hr) (pv 1) pe_str (fun _ _ => rfl)) (pa_cons (pe_dget (hu_of hr) (pv 1) pe_str (fun _ _ => rfl)) pa_nil))) (pe_callB (call_min2 rfl) (by rfl) T.b_min (by decide +kernel) (pa_cons pe_int (pa_cons (pv 3) pa_nil))) (fun _ _ => rfl)))
        (pss_cons (ps_if (PW.pt (pw_and (pt_cmpR op_lt (pv 3) pe_int (nomark _)) (pw_and1 (pt_cmpR (op_neD hr.units) (pv 4) (pe_lst pa_nil) (nomark _)))))
          (pss_one (ps_expr (pe_bm PySem.F.plainAttrs_list PySem.F.slot_list_pop PySem.F.type_list_pop mt_popAt (pv 4) (pa_cons (pc c_l_next hr (by decide) rfl (pa_cons (pv 0) (pa_cons (pe_callB call_len_seq (by rfl) T.b_len PySem.boot_len (pa_cons (pv 4) pa_nil)) pa_nil))) pa_nil))))
          (pss_one (ps_if (pt_cmpR op_lt (pe_callB call_len_seq (by rfl) T.b_len PySem.boot_len (pa_cons (pc c_l_names hr (by decide) rfl (pa_cons (pv 1) pa_nil)) pa_nil)) pe_int (nomark _))
            (pss_cons (ps_dput (hu_of hr) (pv 1) pe_str (pe_op op_add (pe_dget (hu_of hr) (pv 1) pe_str (fun _ _ => rfl)) pe_int) rfl)
            (pss_one (ps_expr (pe_bm PySem.F.plainAttrs_list PySem.F.slot_list_append PySem.F.type_list_append mt_append (pe_dget (hu_of hr) (pv 1) pe_str (fun _ _ => rfl)) (pa_cons (pe_op op_add_str pe_str (pe_ix ix_str pe_str (pe_op op_mod (pe_dget (hu_of hr) (pv 1) pe_str (fun _ _ => rfl)) pe_int) (fun _ _ => rfl))) pa_nil)))))
            pss_nil)))
        (pss_cons (ps_dput (hu_of hr) (pv 1) pe_str (pe_op op_add (pe_dget (hu_of hr) (pv 1) pe_str (fun _ _ => rfl)) pe_int) rfl)
        (pss_one (ps_if (pt_cmpR (op_eqD hr.units) (pe_dget (hu_of hr) (pv 1) pe_str (fun _ _ => rfl)) (pe_lst pa_nil) (nomark _))
          (pss_one (ps_dput (hu_of hr) (pv 1) pe_str (pe_callTy call_list_of (by rfl) T.b_list (by decide +kernel) (pa_cons (pe_dget (hu_of hr) (pv 2) pe_str (fun _ _ => rfl)) pa_nil)) rfl))
          pss_nil)))))), ?_⟩
  have naw : a ≠ x.w := by
    obtain ⟨u, v, z, e, _⟩ := hs
    exact ne_of e wa.ob (by intro z; cases z)
  have nam : a ≠ y.m := by
    obtain ⟨u, v, z, e, _⟩ := hs
    exact ne_of e ma.ob (by intro z; cases z)
  walk_at "vv"
  refine ⟨a, n, 3, rfl, hs, by omega, by decide, by decide, fun H1 kind k0 k1 hs1 f1 => ?_⟩
  have wa1 := wa.fr f1 hs.nt (mem_ne naw.symm) (mem_ne na1.symm) (mem_ne na2.symm) (mem_ne na3.symm)
  have hm1 := f1 _ _ ma.ob (mem_ne nam.symm)
  have hl1 := f1 _ _ ma.lst (mem_ne na4.symm)
  have hR1 := ma.rows.to (Fr.tups f1 hs.nt)
  have g1 : Fr [a, x.w, x.ah, x.be] H H1 := f1.mono fun q m => by rw [List.mem_singleton.mp m]; simp
  walk_at "vv"
  refine ⟨_, _, rfl, dg wa1.ob wF_ahead, ?_⟩
  walk_at "vv"
  refine ⟨_, _, rfl, dg wa1.ob wF_behind, ?_⟩
  walk_at "vv"
  refine ⟨by show 2 ≤ sizeLine; decide, fun p hp => ?_⟩
  have t2 := Same.new (o := .lst [.ref x.ah, .ref x.be]) hp
  have kp := upd_same (H := H1) (a := p) (o := .lst [.ref x.ah, .ref x.be])
  have wa2 := wa1.same t2
  have hm2 := t2 _ _ hm1
  have hl2 := t2 _ _ hl1
  have hR2 := hR1.to (Tups.ofSame t2)
  have hs2 := hs1.same t2
  have g2 := g1.trans (Fr.ofSame t2)
  generalize upd H1 p (.lst [.ref x.ah, .ref x.be]) = H2 at *
  walk_at "vv"
  refine ⟨1, kind, rfl, ?_⟩
  obtain ⟨l, L, ex, hL, hw, hin⟩ : ∃ (l : Addr) (L : List Str), atI [V.ref x.ah, V.ref x.be] (if kind < 1 then kind else 1) = some (.ref l) ∧ H2 l = some (.lst (L.map V.str)) ∧ (kind < 2 → (l = x.ah ∧ L = s.A) ∨ (l = x.be ∧ L = s.B)) ∧ ∀ z ∈ L, z ∈ s.A ++ ("me" : Str) :: s.B := by
    by_cases k : kind < 1
    · have : kind = 0 := by omega
      rw [if_pos k, this]
      exact ⟨x.ah, s.A, rfl, wa2.ahd, fun _ => .inl ⟨rfl, rfl⟩, fun z m => List.mem_append_left _ m⟩
    · rw [if_neg k]
      exact ⟨x.be, s.B, rfl, wa2.bhd, fun _ => .inr ⟨rfl, rfl⟩, fun z m => List.mem_append_right _ (List.mem_cons_of_mem _ m)⟩
  refine n_ixL (SqL.of kp) ex ?_
  walk_at "vv"
  have hz := ok.h.hi
  have hzl : s.A.length + s.B.length ≤ 6 := by
    rw [List.length_append, List.length_cons] at hz
    omega
  by_cases k2 : kind < 2
  · refine n_iT (decide_eq_true k2) ?_
    walk_at "vv"
    refine ⟨Nat.zero_le _, fun z hz => ?_⟩
    have t3 := Same.new (o := .lst []) hz
    have kz := upd_same (H := H2) (a := z) (o := .lst [])
    have wa3 := wa2.same t3
    have hm3 := t3 _ _ hm2
    have hl3 := t3 _ _ hl2
    have hR3 := hR2.to (Tups.ofSame t3)
    have hs3 := hs2.same t3
    have g3 := g2.trans (Fr.ofSame t3)
    have hL3 := t3 _ _ hL
    generalize upd H2 z (.lst []) = H3 at *
    refine ⟨.list (L.map PyData.str), .list [], .lst (SqL.of hL3) (dp_strs _), .lst (SqL.of kz) .nil, (sh_lst (n := 1) fun d hd => by obtain ⟨u, hu, rfl⟩ := List.mem_map.mp hd; exact (ok.h.ok u (hin u hu)).sh).shaped (by decide), rfl, ?_⟩
    rw [eqv_nil]
    walk_at "v"
    by_cases eL : L = []
    · refine n_iF (by rw [decide_eq_true (show L.map PyData.str = [] by rw [eL]; rfl)]; rfl) ?_
      walk_at "vv"
      refine ⟨x, s, rfl, wa3, by omega, by omega, fun H4 nm hnm t4 knm => ?_⟩
      have wa4 := wa3.same t4
      have hm4 := t4 _ _ hm3
      have hl4 := t4 _ _ hl3
      have hR4 := hR3.to (Tups.ofSame t4)
      have hs4 := hs3.same t4
      have g4 := g3.trans (Fr.ofSame t4)
      walk_at "vv"
      refine ⟨nm, _, rfl, .inl (SqL.of knm), ?_⟩
      rw [List.length_map]
      walk_at "vv"
      by_cases l7 : (s.A ++ ("me" : Str) :: s.B).length < 7
      · refine n_iT (decide_eq_true (by omega)) ?_
        walk_at "vv"
        refine ⟨_, _, rfl, dg wa4.ob wF_more, ?_⟩
        walk_at "vv"
        refine ⟨x.w, _, rfl, DPut.k (k := Sum.inr "more") wa4.ob (by show 6 < _; decide), ?_⟩
        rw [wput_more]
        have wa5 : WA (upd H4 x.w (.dK (wF { s with more := s.more + 1 } x))) x { s with more := s.more + 1 } := wa4.setF rfl rfl rfl
        have hm5 : upd H4 x.w (.dK (wF { s with more := s.more + 1 } x)) y.m = some (.dK (mF (ownV g y.ct) y.l g.told g.ready y.d)) := (upd_ne nw1.symm).trans hm4
        have hl5 : upd H4 x.w (.dK (wF { s with more := s.more + 1 } x)) y.l = _ := (upd_ne (ne_of hl4 wa4.ob (by intro z; cases z))).trans hl4
        have tu5 : Tups H4 (upd H4 x.w (.dK (wF { s with more := s.more + 1 } x))) := fun b zs e => by
          rw [upd_ne (fun q => by rw [q, wa4.ob] at e; cases e)]
          exact e
        have hR5 := hR4.to tu5
        have hs5 : Src (upd H4 x.w (.dK (wF { s with more := s.more + 1 } x))) a (n + 1) := hs4.upd naw
        have g5 : Fr [a, x.w, x.ah, x.be] H (upd H4 x.w (.dK (wF { s with more := s.more + 1 } x))) := g4.upd (by simp)
        generalize upd H4 x.w (.dK (wF { s with more := s.more + 1 } x)) = H5 at *
        walk_at "vv"
        refine ⟨_, _, rfl, dg wa5.ob wF_behind, ?_⟩
        refine ⟨n_lty wa5.bhd, ?_⟩
        walk_at "vv"
        refine ⟨_, _, rfl, dg wa5.ob wF_more, ?_⟩
        walk_at "vv"
        refine n_I (by decide) ?_
        have m1 := ok.more.1
        have m2 := ok.more.2
        have em : (s.more + 1) % 26 = s.more + 1 := Int.emod_eq_of_lt (by omega) (by omega)
        obtain ⟨c, ec1, ec2, ec3⟩ := alpha_at (r := s.more + 1) (by omega) (by omega)
        refine ⟨alpha, (s.more + 1) % 26, c, rfl, rfl, Nat.le_trans (m := 26) (by decide +kernel) (by decide), by rw [em]; exact ec2, ?_⟩
        refine ⟨"new", ⟨#[c]⟩, rfl, rfl, by show ("new" : Str).length + 1 ≤ sizeLine; exact Nat.le_trans (m := 4) (by decide +kernel) (by decide), ?_⟩
        walk_at "vv"
        refine ⟨x.be, s.B.map V.str, .str (("new" : Str) ++ (⟨#[c]⟩ : Str)), rfl, rfl, wa5.bhd, ?_, ?_⟩
        · rw [List.length_map]
          exact Nat.lt_trans (m := 100) (by omega) (by decide)
        rw [show s.B.map V.str ++ [V.str (("new" : Str) ++ (⟨#[c]⟩ : Str))] = (s.B ++ [("new" : Str) ++ (⟨#[c]⟩ : Str)]).map V.str by rw [List.map_append]; rfl]
        have ok6 := ok.grow l7 ec1
        have wa6 : WA (upd H5 x.be (.lst ((s.B ++ [("new" : Str) ++ (⟨#[c]⟩ : Str)]).map V.str))) x ⟨s.num, s.more + 1, s.asks, s.A, s.B ++ [("new" : Str) ++ (⟨#[c]⟩ : Str)], s.master⟩ := wa5.setB
        have hm6 : upd H5 x.be (.lst ((s.B ++ [("new" : Str) ++ (⟨#[c]⟩ : Str)]).map V.str)) y.m = some (.dK (mF (ownV g y.ct) y.l g.told g.ready y.d)) := (upd_ne (ne_of hm5 wa5.bhd (by intro z; cases z))).trans hm5
        have hl6 : upd H5 x.be (.lst ((s.B ++ [("new" : Str) ++ (⟨#[c]⟩ : Str)]).map V.str)) y.l = _ := (upd_ne nl2).trans hl5
        have hR6 := hR5.to (Tups.upd (o := .lst ((s.B ++ [("new" : Str) ++ (⟨#[c]⟩ : Str)]).map V.str)) wa5.bhd)
        have hs6 : Src (upd H5 x.be (.lst ((s.B ++ [("new" : Str) ++ (⟨#[c]⟩ : Str)]).map V.str))) a (n + 2) := (hs5.upd na2).mono (by omega)
        have g6 : Fr [a, x.w, x.ah, x.be] H (upd H5 x.be (.lst ((s.B ++ [("new" : Str) ++ (⟨#[c]⟩ : Str)]).map V.str))) := g5.upd (by simp)
        clear wa5 hm5 hl5 hR5 hs5 g5
        have wa5 := wa6
        have ok5 := ok6
        have hm5 := hm6
        have hl5 := hl6
        have hR5 := hR6
        have hs5 := hs6
        have g5 := g6
        generalize upd H5 x.be (.lst ((s.B ++ [("new" : Str) ++ (⟨#[c]⟩ : Str)]).map V.str)) = H6 at *
        generalize (⟨s.num, s.more + 1, s.asks, s.A, s.B ++ [("new" : Str) ++ (⟨#[c]⟩ : Str)], s.master⟩ : WS) = s5 at *
        walk_at "vv"
        refine ⟨_, _, rfl, dg wa5.ob wF_number, ?_⟩
        walk_at "vv"
        refine ⟨x.w, _, rfl, DPut.k (k := Sum.inr "number") wa5.ob (by show 6 < _; decide), ?_⟩
        rw [wput_number]
        have ok7 := ok5.number
        have wa7 := wa5.setF (s' := ⟨s5.num + 1, s5.more, s5.asks, s5.A, s5.B, s5.master⟩) rfl rfl rfl
        have hm7 := (upd_ne (o := .dK (wF ⟨s5.num + 1, s5.more, s5.asks, s5.A, s5.B, s5.master⟩ x)) nw1.symm).trans hm5
        have hl7 := (upd_ne (o := .dK (wF ⟨s5.num + 1, s5.more, s5.asks, s5.A, s5.B, s5.master⟩ x)) (ne_of hl5 wa5.ob (by intro z; cases z))).trans hl5
        have hR7 := hR5.to (H' := upd _ x.w (.dK (wF ⟨s5.num + 1, s5.more, s5.asks, s5.A, s5.B, s5.master⟩ x))) fun b zs e => by
          rw [upd_ne (fun q => by rw [q, wa5.ob] at e; cases e)]
          exact e
        have hs7 := hs5.upd (q := x.w) (o := .dK (wF ⟨s5.num + 1, s5.more, s5.asks, s5.A, s5.B, s5.master⟩ x)) naw
        have g7 := g5.upd (a := x.w) (o := .dK (wF ⟨s5.num + 1, s5.more, s5.asks, s5.A, s5.B, s5.master⟩ x)) (by simp)
        generalize upd _ x.w (.dK (wF ⟨s5.num + 1, s5.more, s5.asks, s5.A, s5.B, s5.master⟩ x)) = H7 at *
        generalize (⟨s5.num + 1, s5.more, s5.asks, s5.A, s5.B, s5.master⟩ : WS) = s7 at *
        walk_at "vv"
        refine ⟨_, _, rfl, dg wa7.ob wF_ahead, ?_⟩
        walk_at "vv"
        refine ⟨Nat.zero_le _, fun z7 hz7 => ?_⟩
        have t8 := Same.new (o := .lst []) hz7
        have kz8 := upd_same (H := H7) (a := z7) (o := .lst [])
        have wa8 := wa7.same t8
        have hm8 := t8 _ _ hm7
        have hl8 := t8 _ _ hl7
        have hR8 := hR7.to (Tups.ofSame t8)
        have hs8 := hs7.same t8
        have g8 := g7.trans (Fr.ofSame t8)
        generalize upd H7 z7 (.lst []) = H8 at *
        refine ⟨.list (s7.A.map PyData.str), .list [], .lst (SqL.of wa8.ahd) (dp_strs _), .lst (SqL.of kz8) .nil, (sh_lst (n := 1) fun d hd => by obtain ⟨u, hu, rfl⟩ := List.mem_map.mp hd; exact (ok7.h.ok u (List.mem_append_left _ hu)).sh).shaped (by decide), rfl, ?_⟩
        rw [eqv_nil]
        walk_at "v"
        by_cases eA : s7.A = []
        · refine n_iT (decide_eq_true (show s7.A.map PyData.str = [] by rw [eA]; rfl)) ?_
          walk_at "vv"
          refine ⟨_, _, rfl, dg hm8 mF_log, ?_⟩
          walk_at "vv"
          refine ⟨y.l, _, rfl, .inl (SqL.of hl8), fun ms2 hms2 => ?_⟩
          have t9 := Same.new (o := .lst (g.log.map Row.v)) hms2
          have kms := upd_same (H := H8) (a := ms2) (o := .lst (g.log.map Row.v))
          have wa9 := wa8.same t9
          have hR9 := hR8.to (Tups.ofSame t9)
          have hs9 := hs8.same t9
          have g9 := g8.trans (Fr.ofSame t9)
          have n1 : ms2 ≠ x.ah := (ne_of_none wa8.ahd hms2).symm
          have n2 : ms2 ≠ x.be := (ne_of_none wa8.bhd hms2).symm
          have n3 : ms2 ≠ x.w := (ne_of_none wa8.ob hms2).symm
          have n4 : ms2 ≠ a := fun e => by
            obtain ⟨u, v, z, e2, _⟩ := hs8
            rw [e, e2] at hms2
            cases hms2
          generalize upd H8 ms2 (.lst (g.log.map Row.v)) = H9 at *
          walk_at "vv"
          refine ⟨x.w, _, rfl, DPut.k (k := Sum.inr "master") wa9.ob (by show 6 < _; decide), ?_⟩
          rw [wput_master]
          walk_at "vv"
          refine h _ { x with ms := ms2 } { s7 with master := g.log } rfl rfl rfl (.inr (g8.none hms2 (by simp [n1, n2, n3, n4]))) (wa9.setM kms hR9 n1 n2) (ok7.masters (by omega)) (hs9.upd naw) (g9.upd (by simp))
        · refine n_iF (decide_eq_false (show ¬ s7.A.map PyData.str = [] from fun q => eA (List.map_eq_nil_iff.mp q))) ?_
          walk_at "vv"
          exact h _ x s7 rfl rfl rfl (.inl rfl) wa8 ok7 hs8 g8
      · refine n_iF (decide_eq_false (by omega)) ?_
        have wa5 := wa4
        have ok5 := ok.up
        have hm5 := hm4
        have hl5 := hl4
        have hR5 := hR4
        have hs5 : Src H4 a (n + 2) := hs4.mono (by omega)
        have g5 := g4
        obtain ⟨s5, e5⟩ : ∃ s5, s5 = s := ⟨_, rfl⟩
        rw [← e5] at wa5 ok5
        walk_at "vv"
        refine ⟨_, _, rfl, dg wa5.ob wF_number, ?_⟩
        walk_at "vv"
        refine ⟨x.w, _, rfl, DPut.k (k := Sum.inr "number") wa5.ob (by show 6 < _; decide), ?_⟩
        rw [wput_number]
        have ok7 := ok5.number
        have wa7 := wa5.setF (s' := ⟨s5.num + 1, s5.more, s5.asks, s5.A, s5.B, s5.master⟩) rfl rfl rfl
        have hm7 := (upd_ne (o := .dK (wF ⟨s5.num + 1, s5.more, s5.asks, s5.A, s5.B, s5.master⟩ x)) nw1.symm).trans hm5
        have hl7 := (upd_ne (o := .dK (wF ⟨s5.num + 1, s5.more, s5.asks, s5.A, s5.B, s5.master⟩ x)) (ne_of hl5 wa5.ob (by intro z; cases z))).trans hl5
        have hR7 := hR5.to (H' := upd _ x.w (.dK (wF ⟨s5.num + 1, s5.more, s5.asks, s5.A, s5.B, s5.master⟩ x))) fun b zs e => by
          rw [upd_ne (fun q => by rw [q, wa5.ob] at e; cases e)]
          exact e
        have hs7 := hs5.upd (q := x.w) (o := .dK (wF ⟨s5.num + 1, s5.more, s5.asks, s5.A, s5.B, s5.master⟩ x)) naw
        have g7 := g5.upd (a := x.w) (o := .dK (wF ⟨s5.num + 1, s5.more, s5.asks, s5.A, s5.B, s5.master⟩ x)) (by simp)
        generalize upd _ x.w (.dK (wF ⟨s5.num + 1, s5.more, s5.asks, s5.A, s5.B, s5.master⟩ x)) = H7 at *
        generalize (⟨s5.num + 1, s5.more, s5.asks, s5.A, s5.B, s5.master⟩ : WS) = s7 at *
        walk_at "vv"
        refine ⟨_, _, rfl, dg wa7.ob wF_ahead, ?_⟩
        walk_at "vv"
        refine ⟨Nat.zero_le _, fun z7 hz7 => ?_⟩
        have t8 := Same.new (o := .lst []) hz7
        have kz8 := upd_same (H := H7) (a := z7) (o := .lst [])
        have wa8 := wa7.same t8
        have hm8 := t8 _ _ hm7
        have hl8 := t8 _ _ hl7
        have hR8 := hR7.to (Tups.ofSame t8)
        have hs8 := hs7.same t8
        have g8 := g7.trans (Fr.ofSame t8)
        generalize upd H7 z7 (.lst []) = H8 at *
        refine ⟨.list (s7.A.map PyData.str), .list [], .lst (SqL.of wa8.ahd) (dp_strs _), .lst (SqL.of kz8) .nil, (sh_lst (n := 1) fun d hd => by obtain ⟨u, hu, rfl⟩ := List.mem_map.mp hd; exact (ok7.h.ok u (List.mem_append_left _ hu)).sh).shaped (by decide), rfl, ?_⟩
        rw [eqv_nil]
        walk_at "v"
        by_cases eA : s7.A = []
        · refine n_iT (decide_eq_true (show s7.A.map PyData.str = [] by rw [eA]; rfl)) ?_
          walk_at "vv"
          refine ⟨_, _, rfl, dg hm8 mF_log, ?_⟩
          walk_at "vv"
          refine ⟨y.l, _, rfl, .inl (SqL.of hl8), fun ms2 hms2 => ?_⟩
          have t9 := Same.new (o := .lst (g.log.map Row.v)) hms2
          have kms := upd_same (H := H8) (a := ms2) (o := .lst (g.log.map Row.v))
          have wa9 := wa8.same t9
          have hR9 := hR8.to (Tups.ofSame t9)
          have hs9 := hs8.same t9
          have g9 := g8.trans (Fr.ofSame t9)
          have n1 : ms2 ≠ x.ah := (ne_of_none wa8.ahd hms2).symm
          have n2 : ms2 ≠ x.be := (ne_of_none wa8.bhd hms2).symm
          have n3 : ms2 ≠ x.w := (ne_of_none wa8.ob hms2).symm
          have n4 : ms2 ≠ a := fun e => by
            obtain ⟨u, v, z, e2, _⟩ := hs8
            rw [e, e2] at hms2
            cases hms2
          generalize upd H8 ms2 (.lst (g.log.map Row.v)) = H9 at *
          walk_at "vv"
          refine ⟨x.w, _, rfl, DPut.k (k := Sum.inr "master") wa9.ob (by show 6 < _; decide), ?_⟩
          rw [wput_master]
          walk_at "vv"
          refine h _ { x with ms := ms2 } { s7 with master := g.log } rfl rfl rfl (.inr (g8.none hms2 (by simp [n1, n2, n3, n4]))) (wa9.setM kms hR9 n1 n2) (ok7.masters (by omega)) (hs9.upd naw) (g9.upd (by simp))
        · refine n_iF (decide_eq_false (show ¬ s7.A.map PyData.str = [] from fun q => eA (List.map_eq_nil_iff.mp q))) ?_
          walk_at "vv"
          exact h _ x s7 rfl rfl rfl (.inl rfl) wa8 ok7 hs8 g8
    · refine n_iT (by rw [decide_eq_false (show ¬ L.map PyData.str = [] from fun q => eL (List.map_eq_nil_iff.mp q))]; rfl) ?_
      walk_at "vv"
      refine ⟨n_lty hL3, ?_⟩
      walk_at "vv"
      refine ⟨l, _, rfl, .inl (SqL.of hL3), ?_⟩
      rw [List.length_map]
      walk_at "vv"
      have hp0 : 0 < L.length := List.length_pos_iff.mpr eL
      have hL7 : L.length ≤ 7 := by
        rcases hw k2 with ⟨_, e⟩ | ⟨_, e⟩
        · rw [e]; omega
        · rw [e]; omega
      have nal : a ≠ l := by
        rcases hw k2 with ⟨e, _⟩ | ⟨e, _⟩
        · rw [e]; exact na1
        · rw [e]; exact na2
      refine ⟨a, n + 1, (L.length : Int), rfl, hs3, by omega, by omega, by omega, fun H4 i i0 i1 hs4 f4 => ?_⟩
      have wa4 := wa3.fr f4 hs3.nt (mem_ne naw.symm) (mem_ne na1.symm) (mem_ne na2.symm) (mem_ne na3.symm)
      have hm4 := f4 _ _ hm3 (mem_ne nam.symm)
      have hl4 := f4 _ _ hl3 (mem_ne na4.symm)
      have hR4 := hR3.to (Fr.tups f4 hs3.nt)
      have hL4 := f4 _ _ hL3 (mem_ne nal.symm)
      have g4 : Fr [a, x.w, x.ah, x.be] H H4 := g3.trans (f4.mono fun q m => by rw [List.mem_singleton.mp m]; simp)
      walk_at "vv"
      have il : i.toNat < L.length := by omega
      refine ⟨l, L.map V.str, i, i.toNat, .str L[i.toNat], rfl, rfl, hL4, by omega, by omega, by rw [List.length_map]; exact seq_ix i0 i1, by rw [List.getElem?_map, List.getElem?_eq_getElem il]; rfl, ?_⟩
      rw [show (L.map V.str).eraseIdx i.toNat = (L.eraseIdx i.toNat).map V.str from er_map V.str L i.toNat]
      rcases hw k2 with ⟨e, eS⟩ | ⟨e, eS⟩
      · subst e
        subst eS
        have wa5 : WA (upd H4 x.ah (.lst ((s.A.eraseIdx i.toNat).map V.str))) x ⟨s.num, s.more, s.asks, s.A.eraseIdx i.toNat, s.B, s.master⟩ := wa4.setA
        have ok5 : (⟨s.num, s.more, s.asks, s.A.eraseIdx i.toNat, s.B, s.master⟩ : WS).Ok (t + 1) := ok.popA
        have hm5 : upd H4 x.ah (.lst ((s.A.eraseIdx i.toNat).map V.str)) y.m = some (.dK (mF (ownV g y.ct) y.l g.told g.ready y.d)) := (upd_ne (ne_of hm4 wa4.ahd (by intro z; cases z))).trans hm4
        have hl5 : upd H4 x.ah (.lst ((s.A.eraseIdx i.toNat).map V.str)) y.l = _ := (upd_ne nl1).trans hl4
        have hR5 := hR4.to (Tups.upd (o := .lst ((s.A.eraseIdx i.toNat).map V.str)) wa4.ahd)
        have hs5 : Src (upd H4 x.ah (.lst ((s.A.eraseIdx i.toNat).map V.str))) a (n + 2) := hs4.upd na1
        have g5 : Fr [a, x.w, x.ah, x.be] H (upd H4 x.ah (.lst ((s.A.eraseIdx i.toNat).map V.str))) := g4.upd (by simp)
        generalize upd H4 x.ah (.lst ((s.A.eraseIdx i.toNat).map V.str)) = H5 at *
        generalize (⟨s.num, s.more, s.asks, s.A.eraseIdx i.toNat, s.B, s.master⟩ : WS) = s5 at *
        walk_at "vv"
        refine ⟨_, _, rfl, dg wa5.ob wF_number, ?_⟩
        walk_at "vv"
        refine ⟨x.w, _, rfl, DPut.k (k := Sum.inr "number") wa5.ob (by show 6 < _; decide), ?_⟩
        rw [wput_number]
        have ok7 := ok5.number
        have wa7 := wa5.setF (s' := ⟨s5.num + 1, s5.more, s5.asks, s5.A, s5.B, s5.master⟩) rfl rfl rfl
        have hm7 := (upd_ne (o := .dK (wF ⟨s5.num + 1, s5.more, s5.asks, s5.A, s5.B, s5.master⟩ x)) nw1.symm).trans hm5
        have hl7 := (upd_ne (o := .dK (wF ⟨s5.num + 1, s5.more, s5.asks, s5.A, s5.B, s5.master⟩ x)) (ne_of hl5 wa5.ob (by intro z; cases z))).trans hl5
        have hR7 := hR5.to (H' := upd _ x.w (.dK (wF ⟨s5.num + 1, s5.more, s5.asks, s5.A, s5.B, s5.master⟩ x))) fun b zs e => by
          rw [upd_ne (fun q => by rw [q, wa5.ob] at e; cases e)]
          exact e
        have hs7 := hs5.upd (q := x.w) (o := .dK (wF ⟨s5.num + 1, s5.more, s5.asks, s5.A, s5.B, s5.master⟩ x)) naw
        have g7 := g5.upd (a := x.w) (o := .dK (wF ⟨s5.num + 1, s5.more, s5.asks, s5.A, s5.B, s5.master⟩ x)) (by simp)
        generalize upd _ x.w (.dK (wF ⟨s5.num + 1, s5.more, s5.asks, s5.A, s5.B, s5.master⟩ x)) = H7 at *
        generalize (⟨s5.num + 1, s5.more, s5.asks, s5.A, s5.B, s5.master⟩ : WS) = s7 at *
        walk_at "vv"
        refine ⟨_, _, rfl, dg wa7.ob wF_ahead, ?_⟩
        walk_at "vv"
        refine ⟨Nat.zero_le _, fun z7 hz7 => ?_⟩
        have t8 := Same.new (o := .lst []) hz7
        have kz8 := upd_same (H := H7) (a := z7) (o := .lst [])
        have wa8 := wa7.same t8
        have hm8 := t8 _ _ hm7
        have hl8 := t8 _ _ hl7
        have hR8 := hR7.to (Tups.ofSame t8)
        have hs8 := hs7.same t8
        have g8 := g7.trans (Fr.ofSame t8)
        generalize upd H7 z7 (.lst []) = H8 at *
        refine ⟨.list (s7.A.map PyData.str), .list [], .lst (SqL.of wa8.ahd) (dp_strs _), .lst (SqL.of kz8) .nil, (sh_lst (n := 1) fun d hd => by obtain ⟨u, hu, rfl⟩ := List.mem_map.mp hd; exact (ok7.h.ok u (List.mem_append_left _ hu)).sh).shaped (by decide), rfl, ?_⟩
        rw [eqv_nil]
        walk_at "v"
        by_cases eA : s7.A = []
        · refine n_iT (decide_eq_true (show s7.A.map PyData.str = [] by rw [eA]; rfl)) ?_
          walk_at "vv"
          refine ⟨_, _, rfl, dg hm8 mF_log, ?_⟩
          walk_at "vv"
          refine ⟨y.l, _, rfl, .inl (SqL.of hl8), fun ms2 hms2 => ?_⟩
          have t9 := Same.new (o := .lst (g.log.map Row.v)) hms2
          have kms := upd_same (H := H8) (a := ms2) (o := .lst (g.log.map Row.v))
          have wa9 := wa8.same t9
          have hR9 := hR8.to (Tups.ofSame t9)
          have hs9 := hs8.same t9
          have g9 := g8.trans (Fr.ofSame t9)
          have n1 : ms2 ≠ x.ah := (ne_of_none wa8.ahd hms2).symm
          have n2 : ms2 ≠ x.be := (ne_of_none wa8.bhd hms2).symm
          have n3 : ms2 ≠ x.w := (ne_of_none wa8.ob hms2).symm
          have n4 : ms2 ≠ a := fun e => by
            obtain ⟨u, v, z, e2, _⟩ := hs8
            rw [e, e2] at hms2
            cases hms2
          generalize upd H8 ms2 (.lst (g.log.map Row.v)) = H9 at *
          walk_at "vv"
          refine ⟨x.w, _, rfl, DPut.k (k := Sum.inr "master") wa9.ob (by show 6 < _; decide), ?_⟩
          rw [wput_master]
          walk_at "vv"
          refine h _ { x with ms := ms2 } { s7 with master := g.log } rfl rfl rfl (.inr (g8.none hms2 (by simp [n1, n2, n3, n4]))) (wa9.setM kms hR9 n1 n2) (ok7.masters (by omega)) (hs9.upd naw) (g9.upd (by simp))
        · refine n_iF (decide_eq_false (show ¬ s7.A.map PyData.str = [] from fun q => eA (List.map_eq_nil_iff.mp q))) ?_
          walk_at "vv"
          exact h _ x s7 rfl rfl rfl (.inl rfl) wa8 ok7 hs8 g8
      · subst e
        subst eS
        have wa5 : WA (upd H4 x.be (.lst ((s.B.eraseIdx i.toNat).map V.str))) x ⟨s.num, s.more, s.asks, s.A, s.B.eraseIdx i.toNat, s.master⟩ := wa4.setB
        have ok5 : (⟨s.num, s.more, s.asks, s.A, s.B.eraseIdx i.toNat, s.master⟩ : WS).Ok (t + 1) := ok.popB (by omega)
        have hm5 : upd H4 x.be (.lst ((s.B.eraseIdx i.toNat).map V.str)) y.m = some (.dK (mF (ownV g y.ct) y.l g.told g.ready y.d)) := (upd_ne (ne_of hm4 wa4.bhd (by intro z; cases z))).trans hm4
        have hl5 : upd H4 x.be (.lst ((s.B.eraseIdx i.toNat).map V.str)) y.l = _ := (upd_ne nl2).trans hl4
        have hR5 := hR4.to (Tups.upd (o := .lst ((s.B.eraseIdx i.toNat).map V.str)) wa4.bhd)
        have hs5 : Src (upd H4 x.be (.lst ((s.B.eraseIdx i.toNat).map V.str))) a (n + 2) := hs4.upd na2
        have g5 : Fr [a, x.w, x.ah, x.be] H (upd H4 x.be (.lst ((s.B.eraseIdx i.toNat).map V.str))) := g4.upd (by simp)
        generalize upd H4 x.be (.lst ((s.B.eraseIdx i.toNat).map V.str)) = H5 at *
        generalize (⟨s.num, s.more, s.asks, s.A, s.B.eraseIdx i.toNat, s.master⟩ : WS) = s5 at *
        walk_at "vv"
        refine ⟨_, _, rfl, dg wa5.ob wF_number, ?_⟩
        walk_at "vv"
        refine ⟨x.w, _, rfl, DPut.k (k := Sum.inr "number") wa5.ob (by show 6 < _; decide), ?_⟩
        rw [wput_number]
        have ok7 := ok5.number
        have wa7 := wa5.setF (s' := ⟨s5.num + 1, s5.more, s5.asks, s5.A, s5.B, s5.master⟩) rfl rfl rfl
        have hm7 := (upd_ne (o := .dK (wF ⟨s5.num + 1, s5.more, s5.asks, s5.A, s5.B, s5.master⟩ x)) nw1.symm).trans hm5
        have hl7 := (upd_ne (o := .dK (wF ⟨s5.num + 1, s5.more, s5.asks, s5.A, s5.B, s5.master⟩ x)) (ne_of hl5 wa5.ob (by intro z; cases z))).trans hl5
        have hR7 := hR5.to (H' := upd _ x.w (.dK (wF ⟨s5.num + 1, s5.more, s5.asks, s5.A, s5.B, s5.master⟩ x))) fun b zs e => by
          rw [upd_ne (fun q => by rw [q, wa5.ob] at e; cases e)]
          exact e
        have hs7 := hs5.upd (q := x.w) (o := .dK (wF ⟨s5.num + 1, s5.more, s5.asks, s5.A, s5.B, s5.master⟩ x)) naw
        have g7 := g5.upd (a := x.w) (o := .dK (wF ⟨s5.num + 1, s5.more, s5.asks, s5.A, s5.B, s5.master⟩ x)) (by simp)
        generalize upd _ x.w (.dK (wF ⟨s5.num + 1, s5.more, s5.asks, s5.A, s5.B, s5.master⟩ x)) = H7 at *
        generalize (⟨s5.num + 1, s5.more, s5.asks, s5.A, s5.B, s5.master⟩ : WS) = s7 at *
        walk_at "vv"
        refine ⟨_, _, rfl, dg wa7.ob wF_ahead, ?_⟩
        walk_at "vv"
        refine ⟨Nat.zero_le _, fun z7 hz7 => ?_⟩
        have t8 := Same.new (o := .lst []) hz7
        have kz8 := upd_same (H := H7) (a := z7) (o := .lst [])
        have wa8 := wa7.same t8
        have hm8 := t8 _ _ hm7
        have hl8 := t8 _ _ hl7
        have hR8 := hR7.to (Tups.ofSame t8)
        have hs8 := hs7.same t8
        have g8 := g7.trans (Fr.ofSame t8)
        generalize upd H7 z7 (.lst []) = H8 at *
        refine ⟨.list (s7.A.map PyData.str), .list [], .lst (SqL.of wa8.ahd) (dp_strs _), .lst (SqL.of kz8) .nil, (sh_lst (n := 1) fun d hd => by obtain ⟨u, hu, rfl⟩ := List.mem_map.mp hd; exact (ok7.h.ok u (List.mem_append_left _ hu)).sh).shaped (by decide), rfl, ?_⟩
        rw [eqv_nil]
        walk_at "v"
        by_cases eA : s7.A = []
        · refine n_iT (decide_eq_true (show s7.A.map PyData.str = [] by rw [eA]; rfl)) ?_
          walk_at "vv"
          refine ⟨_, _, rfl, dg hm8 mF_log, ?_⟩
          walk_at "vv"
          refine ⟨y.l, _, rfl, .inl (SqL.of hl8), fun ms2 hms2 => ?_⟩
          have t9 := Same.new (o := .lst (g.log.map Row.v)) hms2
          have kms := upd_same (H := H8) (a := ms2) (o := .lst (g.log.map Row.v))
          have wa9 := wa8.same t9
          have hR9 := hR8.to (Tups.ofSame t9)
          have hs9 := hs8.same t9
          have g9 := g8.trans (Fr.ofSame t9)
          have n1 : ms2 ≠ x.ah := (ne_of_none wa8.ahd hms2).symm
          have n2 : ms2 ≠ x.be := (ne_of_none wa8.bhd hms2).symm
          have n3 : ms2 ≠ x.w := (ne_of_none wa8.ob hms2).symm
          have n4 : ms2 ≠ a := fun e => by
            obtain ⟨u, v, z, e2, _⟩ := hs8
            rw [e, e2] at hms2
            cases hms2
          generalize upd H8 ms2 (.lst (g.log.map Row.v)) = H9 at *
          walk_at "vv"
          refine ⟨x.w, _, rfl, DPut.k (k := Sum.inr "master") wa9.ob (by show 6 < _; decide), ?_⟩
          rw [wput_master]
          walk_at "vv"
          refine h _ { x with ms := ms2 } { s7 with master := g.log } rfl rfl rfl (.inr (g8.none hms2 (by simp [n1, n2, n3, n4]))) (wa9.setM kms hR9 n1 n2) (ok7.masters (by omega)) (hs9.upd naw) (g9.upd (by simp))
        · refine n_iF (decide_eq_false (show ¬ s7.A.map PyData.str = [] from fun q => eA (List.map_eq_nil_iff.mp q))) ?_
          walk_at "vv"
          exact h _ x s7 rfl rfl rfl (.inl rfl) wa8 ok7 hs8 g8
  · refine n_iF (decide_eq_false k2) ?_
    obtain ⟨H3, e3⟩ : ∃ H3, H3 = H2 := ⟨_, rfl⟩
    have wa3 := wa2
    have hm3 := hm2
    have hl3 := hl2
    have hR3 := hR2
    have hs3 := hs2
    have g3 := g2
    rw [← e3] at wa3 hm3 hl3 hR3 hs3 g3 ⊢
    walk_at "vv"
    refine ⟨x, s, rfl, wa3, by omega, by omega, fun H4 nm hnm t4 knm => ?_⟩
    have wa4 := wa3.same t4
    have hm4 := t4 _ _ hm3
    have hl4 := t4 _ _ hl3
    have hR4 := hR3.to (Tups.ofSame t4)
    have hs4 := hs3.same t4
    have g4 := g3.trans (Fr.ofSame t4)
    walk_at "vv"
    refine ⟨nm, _, rfl, .inl (SqL.of knm), ?_⟩
    rw [List.length_map]
    walk_at "vv"
    by_cases l7 : (s.A ++ ("me" : Str) :: s.B).length < 7
    · refine n_iT (decide_eq_true (by omega)) ?_
      walk_at "vv"
      refine ⟨_, _, rfl, dg wa4.ob wF_more, ?_⟩
      walk_at "vv"
      refine ⟨x.w, _, rfl, DPut.k (k := Sum.inr "more") wa4.ob (by show 6 < _; decide), ?_⟩
      rw [wput_more]
      have wa5 : WA (upd H4 x.w (.dK (wF { s with more := s.more + 1 } x))) x { s with more := s.more + 1 } := wa4.setF rfl rfl rfl
      have hm5 : upd H4 x.w (.dK (wF { s with more := s.more + 1 } x)) y.m = some (.dK (mF (ownV g y.ct) y.l g.told g.ready y.d)) := (upd_ne nw1.symm).trans hm4
      have hl5 : upd H4 x.w (.dK (wF { s with more := s.more + 1 } x)) y.l = _ := (upd_ne (ne_of hl4 wa4.ob (by intro z; cases z))).trans hl4
      have tu5 : Tups H4 (upd H4 x.w (.dK (wF { s with more := s.more + 1 } x))) := fun b zs e => by
        rw [upd_ne (fun q => by rw [q, wa4.ob] at e; cases e)]
        exact e
      have hR5 := hR4.to tu5
      have hs5 : Src (upd H4 x.w (.dK (wF { s with more := s.more + 1 } x))) a (n + 1) := hs4.upd naw
      have g5 : Fr [a, x.w, x.ah, x.be] H (upd H4 x.w (.dK (wF { s with more := s.more + 1 } x))) := g4.upd (by simp)
      generalize upd H4 x.w (.dK (wF { s with more := s.more + 1 } x)) = H5 at *
      walk_at "vv"
      refine ⟨_, _, rfl, dg wa5.ob wF_behind, ?_⟩
      refine ⟨n_lty wa5.bhd, ?_⟩
      walk_at "vv"
      refine ⟨_, _, rfl, dg wa5.ob wF_more, ?_⟩
      walk_at "vv"
      refine n_I (by decide) ?_
      have m1 := ok.more.1
      have m2 := ok.more.2
      have em : (s.more + 1) % 26 = s.more + 1 := Int.emod_eq_of_lt (by omega) (by omega)
      obtain ⟨c, ec1, ec2, ec3⟩ := alpha_at (r := s.more + 1) (by omega) (by omega)
      refine ⟨alpha, (s.more + 1) % 26, c, rfl, rfl, Nat.le_trans (m := 26) (by decide +kernel) (by decide), by rw [em]; exact ec2, ?_⟩
      refine ⟨"new", ⟨#[c]⟩, rfl, rfl, by show ("new" : Str).length + 1 ≤ sizeLine; exact Nat.le_trans (m := 4) (by decide +kernel) (by decide), ?_⟩
      walk_at "vv"
      refine ⟨x.be, s.B.map V.str, .str (("new" : Str) ++ (⟨#[c]⟩ : Str)), rfl, rfl, wa5.bhd, ?_, ?_⟩
      · rw [List.length_map]
        exact Nat.lt_trans (m := 100) (by omega) (by decide)
      rw [show s.B.map V.str ++ [V.str (("new" : Str) ++ (⟨#[c]⟩ : Str))] = (s.B ++ [("new" : Str) ++ (⟨#[c]⟩ : Str)]).map V.str by rw [List.map_append]; rfl]
      have ok6 := ok.grow l7 ec1
      have wa6 : WA (upd H5 x.be (.lst ((s.B ++ [("new" : Str) ++ (⟨#[c]⟩ : Str)]).map V.str))) x ⟨s.num, s.more + 1, s.asks, s.A, s.B ++ [("new" : Str) ++ (⟨#[c]⟩ : Str)], s.master⟩ := wa5.setB
      have hm6 : upd H5 x.be (.lst ((s.B ++ [("new" : Str) ++ (⟨#[c]⟩ : Str)]).map V.str)) y.m = some (.dK (mF (ownV g y.ct) y.l g.told g.ready y.d)) := (upd_ne (ne_of hm5 wa5.bhd (by intro z; cases z))).trans hm5
      have hl6 : upd H5 x.be (.lst ((s.B ++ [("new" : Str) ++ (⟨#[c]⟩ : Str)]).map V.str)) y.l = _ := (upd_ne nl2).trans hl5
      have hR6 := hR5.to (Tups.upd (o := .lst ((s.B ++ [("new" : Str) ++ (⟨#[c]⟩ : Str)]).map V.str)) wa5.bhd)
      have hs6 : Src (upd H5 x.be (.lst ((s.B ++ [("new" : Str) ++ (⟨#[c]⟩ : Str)]).map V.str))) a (n + 2) := (hs5.upd na2).mono (by omega)
      have g6 : Fr [a, x.w, x.ah, x.be] H (upd H5 x.be (.lst ((s.B ++ [("new" : Str) ++ (⟨#[c]⟩ : Str)]).map V.str))) := g5.upd (by simp)
      clear wa5 hm5 hl5 hR5 hs5 g5
      have wa5 := wa6
      have ok5 := ok6
      have hm5 := hm6
      have hl5 := hl6
      have hR5 := hR6
      have hs5 := hs6
      have g5 := g6
      generalize upd H5 x.be (.lst ((s.B ++ [("new" : Str) ++ (⟨#[c]⟩ : Str)]).map V.str)) = H6 at *
      generalize (⟨s.num, s.more + 1, s.asks, s.A, s.B ++ [("new" : Str) ++ (⟨#[c]⟩ : Str)], s.master⟩ : WS) = s5 at *
      walk_at "vv"
      refine ⟨_, _, rfl, dg wa5.ob wF_number, ?_⟩
      walk_at "vv"
      refine ⟨x.w, _, rfl, DPut.k (k := Sum.inr "number") wa5.ob (by show 6 < _; decide), ?_⟩
      rw [wput_number]
      have ok7 := ok5.number
      have wa7 := wa5.setF (s' := ⟨s5.num + 1, s5.more, s5.asks, s5.A, s5.B, s5.master⟩) rfl rfl rfl
      have hm7 := (upd_ne (o := .dK (wF ⟨s5.num + 1, s5.more, s5.asks, s5.A, s5.B, s5.master⟩ x)) nw1.symm).trans hm5
      have hl7 := (upd_ne (o := .dK (wF ⟨s5.num + 1, s5.more, s5.asks, s5.A, s5.B, s5.master⟩ x)) (ne_of hl5 wa5.ob (by intro z; cases z))).trans hl5
      have hR7 := hR5.to (H' := upd _ x.w (.dK (wF ⟨s5.num + 1, s5.more, s5.asks, s5.A, s5.B, s5.master⟩ x))) fun b zs e => by
        rw [upd_ne (fun q => by rw [q, wa5.ob] at e; cases e)]
        exact e
      have hs7 := hs5.upd (q := x.w) (o := .dK (wF ⟨s5.num + 1, s5.more, s5.asks, s5.A, s5.B, s5.master⟩ x)) naw
      have g7 := g5.upd (a := x.w) (o := .dK (wF ⟨s5.num + 1, s5.more, s5.asks, s5.A, s5.B, s5.master⟩ x)) (by simp)
      generalize upd _ x.w (.dK (wF ⟨s5.num + 1, s5.more, s5.asks, s5.A, s5.B, s5.master⟩ x)) = H7 at *
      generalize (⟨s5.num + 1, s5.more, s5.asks, s5.A, s5.B, s5.master⟩ : WS) = s7 at *
      walk_at "vv"
      refine ⟨_, _, rfl, dg wa7.ob wF_ahead, ?_⟩
      walk_at "vv"
      refine ⟨Nat.zero_le _, fun z7 hz7 => ?_⟩
      have t8 := Same.new (o := .lst []) hz7
      have kz8 := upd_same (H := H7) (a := z7) (o := .lst [])
      have wa8 := wa7.same t8
      have hm8 := t8 _ _ hm7
      have hl8 := t8 _ _ hl7
      have hR8 := hR7.to (Tups.ofSame t8)
      have hs8 := hs7.same t8
      have g8 := g7.trans (Fr.ofSame t8)
      generalize upd H7 z7 (.lst []) = H8 at *
      refine ⟨.list (s7.A.map PyData.str), .list [], .lst (SqL.of wa8.ahd) (dp_strs _), .lst (SqL.of kz8) .nil, (sh_lst (n := 1) fun d hd => by obtain ⟨u, hu, rfl⟩ := List.mem_map.mp hd; exact (ok7.h.ok u (List.mem_append_left _ hu)).sh).shaped (by decide), rfl, ?_⟩
      rw [eqv_nil]
      walk_at "v"
      by_cases eA : s7.A = []
      · refine n_iT (decide_eq_true (show s7.A.map PyData.str = [] by rw [eA]; rfl)) ?_
        walk_at "vv"
        refine ⟨_, _, rfl, dg hm8 mF_log, ?_⟩
        walk_at "vv"
        refine ⟨y.l, _, rfl, .inl (SqL.of hl8), fun ms2 hms2 => ?_⟩
        have t9 := Same.new (o := .lst (g.log.map Row.v)) hms2
        have kms := upd_same (H := H8) (a := ms2) (o := .lst (g.log.map Row.v))
        have wa9 := wa8.same t9
        have hR9 := hR8.to (Tups.ofSame t9)
        have hs9 := hs8.same t9
        have g9 := g8.trans (Fr.ofSame t9)
        have n1 : ms2 ≠ x.ah := (ne_of_none wa8.ahd hms2).symm
        have n2 : ms2 ≠ x.be := (ne_of_none wa8.bhd hms2).symm
        have n3 : ms2 ≠ x.w := (ne_of_none wa8.ob hms2).symm
        have n4 : ms2 ≠ a := fun e => by
          obtain ⟨u, v, z, e2, _⟩ := hs8
          rw [e, e2] at hms2
          cases hms2
        generalize upd H8 ms2 (.lst (g.log.map Row.v)) = H9 at *
        walk_at "vv"
        refine ⟨x.w, _, rfl, DPut.k (k := Sum.inr "master") wa9.ob (by show 6 < _; decide), ?_⟩
        rw [wput_master]
        walk_at "vv"
        refine h _ { x with ms := ms2 } { s7 with master := g.log } rfl rfl rfl (.inr (g8.none hms2 (by simp [n1, n2, n3, n4]))) (wa9.setM kms hR9 n1 n2) (ok7.masters (by omega)) (hs9.upd naw) (g9.upd (by simp))
      · refine n_iF (decide_eq_false (show ¬ s7.A.map PyData.str = [] from fun q => eA (List.map_eq_nil_iff.mp q))) ?_
        walk_at "vv"
        exact h _ x s7 rfl rfl rfl (.inl rfl) wa8 ok7 hs8 g8
    · refine n_iF (decide_eq_false (by omega)) ?_
      have wa5 := wa4
      have ok5 := ok.up
      have hm5 := hm4
      have hl5 := hl4
      have hR5 := hR4
      have hs5 : Src H4 a (n + 2) := hs4.mono (by omega)
      have g5 := g4
      obtain ⟨s5, e5⟩ : ∃ s5, s5 = s := ⟨_, rfl⟩
      rw [← e5] at wa5 ok5
      walk_at "vv"
      refine ⟨_, _, rfl, dg wa5.ob wF_number, ?_⟩
      walk_at "vv"
      refine ⟨x.w, _, rfl, DPut.k (k := Sum.inr "number") wa5.ob (by show 6 < _; decide), ?_⟩
      rw [wput_number]
      have ok7 := ok5.number
      have wa7 := wa5.setF (s' := ⟨s5.num + 1, s5.more, s5.asks, s5.A, s5.B, s5.master⟩) rfl rfl rfl
      have hm7 := (upd_ne (o := .dK (wF ⟨s5.num + 1, s5.more, s5.asks, s5.A, s5.B, s5.master⟩ x)) nw1.symm).trans hm5
      have hl7 := (upd_ne (o := .dK (wF ⟨s5.num + 1, s5.more, s5.asks, s5.A, s5.B, s5.master⟩ x)) (ne_of hl5 wa5.ob (by intro z; cases z))).trans hl5
      have hR7 := hR5.to (H' := upd _ x.w (.dK (wF ⟨s5.num + 1, s5.more, s5.asks, s5.A, s5.B, s5.master⟩ x))) fun b zs e => by
        rw [upd_ne (fun q => by rw [q, wa5.ob] at e; cases e)]
        exact e
      have hs7 := hs5.upd (q := x.w) (o := .dK (wF ⟨s5.num + 1, s5.more, s5.asks, s5.A, s5.B, s5.master⟩ x)) naw
      have g7 := g5.upd (a := x.w) (o := .dK (wF ⟨s5.num + 1, s5.more, s5.asks, s5.A, s5.B, s5.master⟩ x)) (by simp)
      generalize upd _ x.w (.dK (wF ⟨s5.num + 1, s5.more, s5.asks, s5.A, s5.B, s5.master⟩ x)) = H7 at *
      generalize (⟨s5.num + 1, s5.more, s5.asks, s5.A, s5.B, s5.master⟩ : WS) = s7 at *
      walk_at "vv"
      refine ⟨_, _, rfl, dg wa7.ob wF_ahead, ?_⟩
      walk_at "vv"
      refine ⟨Nat.zero_le _, fun z7 hz7 => ?_⟩
      have t8 := Same.new (o := .lst []) hz7
      have kz8 := upd_same (H := H7) (a := z7) (o := .lst [])
      have wa8 := wa7.same t8
      have hm8 := t8 _ _ hm7
      have hl8 := t8 _ _ hl7
      have hR8 := hR7.to (Tups.ofSame t8)
      have hs8 := hs7.same t8
      have g8 := g7.trans (Fr.ofSame t8)
      generalize upd H7 z7 (.lst []) = H8 at *
      refine ⟨.list (s7.A.map PyData.str), .list [], .lst (SqL.of wa8.ahd) (dp_strs _), .lst (SqL.of kz8) .nil, (sh_lst (n := 1) fun d hd => by obtain ⟨u, hu, rfl⟩ := List.mem_map.mp hd; exact (ok7.h.ok u (List.mem_append_left _ hu)).sh).shaped (by decide), rfl, ?_⟩
      rw [eqv_nil]
      walk_at "v"
      by_cases eA : s7.A = []
      · refine n_iT (decide_eq_true (show s7.A.map PyData.str = [] by rw [eA]; rfl)) ?_
        walk_at "vv"
        refine ⟨_, _, rfl, dg hm8 mF_log, ?_⟩
        walk_at "vv"
        refine ⟨y.l, _, rfl, .inl (SqL.of hl8), fun ms2 hms2 => ?_⟩
        have t9 := Same.new (o := .lst (g.log.map Row.v)) hms2
        have kms := upd_same (H := H8) (a := ms2) (o := .lst (g.log.map Row.v))
        have wa9 := wa8.same t9
        have hR9 := hR8.to (Tups.ofSame t9)
        have hs9 := hs8.same t9
        have g9 := g8.trans (Fr.ofSame t9)
        have n1 : ms2 ≠ x.ah := (ne_of_none wa8.ahd hms2).symm
        have n2 : ms2 ≠ x.be := (ne_of_none wa8.bhd hms2).symm
        have n3 : ms2 ≠ x.w := (ne_of_none wa8.ob hms2).symm
        have n4 : ms2 ≠ a := fun e => by
          obtain ⟨u, v, z, e2, _⟩ := hs8
          rw [e, e2] at hms2
          cases hms2
        generalize upd H8 ms2 (.lst (g.log.map Row.v)) = H9 at *
        walk_at "vv"
        refine ⟨x.w, _, rfl, DPut.k (k := Sum.inr "master") wa9.ob (by show 6 < _; decide), ?_⟩
        rw [wput_master]
        walk_at "vv"
        refine h _ { x with ms := ms2 } { s7 with master := g.log } rfl rfl rfl (.inr (g8.none hms2 (by simp [n1, n2, n3, n4]))) (wa9.setM kms hR9 n1 n2) (ok7.masters (by omega)) (hs9.upd naw) (g9.upd (by simp))
      · refine n_iF (decide_eq_false (show ¬ s7.A.map PyData.str = [] from fun q => eA (List.map_eq_nil_iff.mp q))) ?_
        walk_at "vv"
        exact h _ x s7 rfl rfl rfl (.inl rfl) wa8 ok7 hs8 g8
end
end Ck

namespace Ck
open PySem PySem.Spec PyProof.Rows L2
local macro_rules | `(tactic| walk_at "v") => `(tactic| (first | with_reducible refine n_seq ?_ | with_reducible refine n_ifs ?_ | with_reducible refine n_asg ?_ | with_reducible refine n_name ?_ | with_reducible refine n_ret ?_ | with_reducible refine n_drop ?_ | with_reducible refine n_next ?_ | ((with_reducible refine' n_var ?e ?_); (case e => rfl)) | with_reducible refine n_c ?_ | with_reducible refine n_op ?_ | with_reducible refine n_un ?_ | with_reducible refine n_test ?_ | with_reducible refine n_B ?_ | with_reducible refine n_ex ?_ | with_reducible refine n_and ?_ | with_reducible refine n_or ?_ | with_reducible refine n_not ?_ | with_reducible refine n_andV ?_ | with_reducible refine n_orV ?_ | with_reducible refine n_notV ?_ | with_reducible refine n_cons ?_ | with_reducible refine n_nil ?_ | with_reducible refine n_cb ?_ | with_reducible refine n_call ?_ | with_reducible refine n_I0 ?_ | with_reducible refine n_tup ?_ | with_reducible refine n_lst ?_ | with_reducible refine n_sl ?_ | with_reducible refine n_part ?_ | with_reducible refine n_nopart ?_ | with_reducible refine n_exI ?_ | with_reducible refine n_chain ?_ | with_reducible refine n_dget ?_ | with_reducible refine n_meth ?_ | with_reducible refine n_bm ?_ | with_reducible refine n_bm0 ?_ | with_reducible refine n_sfld ?_ | with_reducible refine n_fld ?_ | with_reducible refine n_for ?_ | with_reducible refine n_dpop1 ?_ | with_reducible refine n_din ?_ | with_reducible refine n_dnotin ?_ | with_reducible refine n_dput ?_ | with_reducible refine n_nn ?_ | with_reducible refine n_rU ?_ | with_reducible refine n_lss ?_ | with_reducible refine n_kget ?_ | with_reducible refine n_iL ?_ | with_reducible refine n_iE ?_ | with_reducible refine n_iR ?_ | with_reducible refine n_lc ?_ | with_reducible refine n_lcT ?_ | with_reducible refine n_lcS ?_ | with_reducible refine n_gTup ?_ | with_reducible refine n_gCons ?_ | with_reducible refine n_gNil ?_ | ((with_reducible refine n_eq ?e ?_); (case e => rfl)) | ((with_reducible refine n_ne ?e ?_); (case e => rfl)) | ((with_reducible refine n_iT ?e ?_); (case e => rfl)) | ((with_reducible refine n_iF ?e ?_); (case e => rfl))))
local macro_rules | `(tactic| walk_at "vv") => `(tactic| repeat walk_at "v")
section
variable {P : Program} {w : World} {K : PySem.W.Frag} {mg : Str → Option Value} {base : Heap} {A : Ad}
theorem ok_l_new_row (T : Txt w K mg A) (D : GD K mg "_law_new_row" s_l_new_row) (c_l_next : Cal P w K mg base 1 "_law_next" sp_l_next) (c_l_row : Cal P w K mg base 3 "_law_row" sp_l_row) : Cal P w K mg base 4 "_law_new_row" sp_l_new_row := by
  have S := sc_l_new_row.sc
  refine cal_mk D sc_l_new_row (fun vs H Q E h => by obtain ⟨a, n, x, s, rfl, _⟩ := h; rfl) fun f0 cdv A0 outer s0 H vs Q E hr h => ?_
  obtain ⟨a, n, x, s, rfl, hs, hn, wa, lm, nam, h⟩ := h
  refine ⟨_, (pss_cons (ps_set (i := 2) S.nd rfl (Or.inl rfl) (pc c_l_row hr (by decide) rfl (pa_cons (pv 0) (pa_cons (pe_op op_add pe_int (pe_callB call_len_seq (by rfl) T.b_len PySem.boot_len (pa_cons (pe_dget (hu_of hr) (pv 1) pe_str (fun _ _ => rfl)) pa_nil))) pa_nil))))
        (pss_cons (ps_if (PW.pt (pw_and (pt_cmpR (op_neD hr.units) (pe_dget (hu_of hr) (pv 1) pe_str (fun _ _ => rfl)) (pe_lst pa_nil) (nomark _)) (pw_and1 (pt_cmpR op_eq (pc c_l_next hr (by decide) rfl (pa_cons (pv 0) (pa_cons pe_int pa_nil))) pe_int (nomark _)))))
          (pss_cons (ps_set (i := 2) S.nd rfl (Or.inl rfl) (pe_ix ix_list (pe_dget (hu_of hr) (pv 1) pe_str (fun _ _ => rfl)) (pc c_l_next hr (by decide) rfl (pa_cons (pv 0) (pa_cons (pe_callB call_len_seq (by rfl) T.b_len PySem.boot_len (pa_cons (pe_dget (hu_of hr) (pv 1) pe_str (fun _ _ => rfl)) pa_nil)) pa_nil))) (fun _ _ => rfl)))
          (pss_one (ps_if (pt_cmpR op_eq (pc c_l_next hr (by decide) rfl (pa_cons (pv 0) (pa_cons pe_int pa_nil))) pe_int (nomark _))
            (pss_one (ps_set (i := 2) S.nd rfl (Or.inl rfl) (pe_op op_catA (pe_slice sl_tupA (pv 2) po_none (po_some pe_int)) (pe_tup (pa_cons pe_str (pa_cons (pe_op op_add (pe_ix ix_tup (pv 2) pe_int (fun _ _ => rfl)) pe_int) pa_nil))))))
            pss_nil)))
          pss_nil)
        (pss_one (ps_ret (pv 2))))), ?_⟩
  have naw : x.w ≠ a := hs.ne wa.ob (by intro x y z q; cases q)
  walk_at "vv"
  refine ⟨_, _, rfl, dg wa.ob wF_master, ?_⟩
  walk_at "vv"
  refine ⟨x.ms, _, rfl, .inl (SqL.of wa.mst), ?_⟩
  rw [List.length_map]
  walk_at "vv"
  refine ⟨a, n, 600 + (s.master.length : Int), rfl, hs, by omega, by omega, by omega, fun H1 r nr ra ro hs1 f1 => ?_⟩
  have ob1 := f1 _ _ wa.ob (mem_ne naw)
  have ms1 := f1 _ _ wa.mst (mem_ne nam.symm)
  have hR1 := wa.rows.to (Fr.tups f1 hs.nt)
  walk_at "vv"
  refine ⟨_, _, rfl, dg ob1 wF_master, ?_⟩
  walk_at "vv"
  refine ⟨Nat.zero_le _, fun z hz => ?_⟩
  have t2 := Same.new (o := .lst []) hz
  have kz := upd_same (H := H1) (a := z) (o := .lst [])
  have ob2 := t2 _ _ ob1
  have ms2 := t2 _ _ ms1
  have hR2 := hR1.to (Tups.ofSame t2)
  have hs2 := hs1.same t2
  have ra2 := t2 _ _ ra
  have g2 := f1.trans (Fr.ofSame t2)
  generalize upd H1 z (.lst []) = H2 at *
  refine ⟨.list (s.master.map Row.d), .list [], .lst (SqL.of ms2) (TDs.dp (TDs.rows hR2)), .lst (SqL.of kz) .nil, (sh_lst (n := 1) fun d hd => by obtain ⟨r, hr, rfl⟩ := List.mem_map.mp hd; exact Row.sh (wa.rows.ok r hr)).shaped (by decide), rfl, ?_⟩
  rw [eqv_nil]
  walk_at "v"
  by_cases em : s.master = []
  · refine n_iF (by rw [decide_eq_true (show s.master.map Row.d = [] by rw [em]; rfl)]; rfl) ?_
    walk_at "vv"
    exact h _ r ra2 ro (hs2.mono (by omega)) g2
  · refine n_iT (by rw [decide_eq_false (show ¬ s.master.map Row.d = [] from fun q => em (List.map_eq_nil_iff.mp q))]; rfl) ?_
    walk_at "vv"
    refine ⟨a, n + 100, 4, rfl, hs2, by omega, by decide, by decide, fun H3 q q0 q1 hs3 f3 => ?_⟩
    have ra3 := f3 _ _ ra2 (mem_ne (hs2.ne ra2 (by intro x y z q; cases q)))
    have ob3 := f3 _ _ ob2 (mem_ne naw)
    have ms3 := f3 _ _ ms2 (mem_ne nam.symm)
    have hR3 := hR2.to (Fr.tups f3 hs2.nt)
    have g3 := g2.trans f3
    walk_at "vv"
    by_cases eq : q = 0
    · refine n_iT (by rw [eq]; rfl) ?_
      walk_at "vv"
      refine ⟨_, _, rfl, dg ob3 wF_master, ?_⟩
      walk_at "vv"
      refine ⟨_, _, rfl, dg ob3 wF_master, ?_⟩
      walk_at "vv"
      refine ⟨x.ms, _, rfl, .inl (SqL.of ms3), ?_⟩
      rw [List.length_map]
      walk_at "vv"
      have mp : 0 < s.master.length := List.length_pos_iff.mpr em
      refine ⟨a, n + 101, (s.master.length : Int), rfl, hs3, by omega, by omega, by omega, fun H4 i i0 i1 hs4 f4 => ?_⟩
      have ms4 := f4 _ _ ms3 (mem_ne nam.symm)
      have hR4 := hR3.to (Fr.tups f4 hs3.nt)
      have g4 := g3.trans f4
      obtain ⟨r2, hr2, er2⟩ := nth_of Row.v i0 i1
      have ra4 := hR4.at_ r2 hr2
      have ro2 := hR4.ok r2 hr2
      refine n_ixL (SqL.of ms4) er2 ?_
      walk_at "vv"
      refine ⟨a, n + 102, 2, rfl, hs4, by omega, by decide, by decide, fun H5 j j0 j1 hs5 f5 => ?_⟩
      have ra5 := f5 _ _ ra4 (mem_ne (hs4.ne ra4 (by intro x y z q; cases q)))
      have g5 := g4.trans f5
      walk_at "vv"
      by_cases ej : j = 0
      · refine n_iT (by rw [ej]; rfl) ?_
        walk_at "vv"
        refine ⟨r2.ad, r2.vs, rfl, SqT.of ra5, fun q => absurd q.2 (by show ¬ (2 : Nat) = 4; omega), fun _ p hp => ?_⟩
        rw [show cutV r2.vs none (some 2) = [.str r2.asker, .int r2.num] from cut_to (n := 2)]
        have t6 := Same.new (o := .tup [.str r2.asker, .int r2.num]) hp
        walk_at "vv"
        refine n_ixT (SqT.of (t6 _ _ ra5)) (v := .int r2.worth) rfl ?_
        walk_at "vv"
        refine ⟨by show 2 ≤ sizeLine; decide, fun m hm => ?_⟩
        have t7 := Same.new (o := .tup [.str "y", .int (r2.worth + 1)]) hm
        refine ⟨p, m, [.str r2.asker, .int r2.num], [.str "y", .int (r2.worth + 1)], rfl, rfl, SqT.of (t7 _ _ upd_same), SqT.of upd_same, by show 4 ≤ sizeLine; decide, fun q => (by cases q), fun _ q => (by cases q), fun _ _ q hq => ?_⟩
        have t8 := Same.new (o := .tup ([.str r2.asker, .int r2.num] ++ [.str "y", .int (r2.worth + 1)])) hq
        walk_at "vv"
        have t68 := Same.trans t6 (Same.trans t7 t8)
        refine h _ ⟨q, r2.asker, r2.num, "y", r2.worth + 1⟩ upd_same ⟨ro2.a, ro2.n, nameOk_of (x := "y") (by decide +kernel), ?_⟩ ((hs5.same t68).mono (by omega)) (g5.trans (Fr.ofSame t68))
        have := ro2.w
        show 0 ≤ r2.worth + 1
        omega
      · refine n_iF (decide_eq_false fun z => ej (by injection z)) ?_
        walk_at "vv"
        exact h _ r2 ra5 ro2 (hs5.mono (by omega)) g5
    · refine n_iF (decide_eq_false fun z => eq (by injection z)) ?_
      walk_at "vv"
      exact h _ r ra3 ro (hs3.mono (by omega)) g3
theorem cut_last {xs : List V} : cutV xs (some (-1)) none = xs.drop (xs.length - 1) := by
  unfold cutV
  rw [HT.sIx_none]
  have : HT.sIx xs.length 0 (some (-1)) = xs.length - 1 := by
    unfold HT.sIx
    simp
    omega
  rw [this, List.take_of_length_le (by rw [List.length_drop]; omega)]
theorem max1 (q : Int) : 1 ≤ (if q > 1 then q else 1) := by
  split
  · omega
  · exact Int.le_refl 1
theorem int01 {b : Bool} : 0 ≤ (if b = true then (1 : Int) else 0) ∧ (if b = true then (1 : Int) else 0) ≤ 1 := by cases b <;> decide
theorem ok_l_letter_for (T : Txt w K mg A) (D : GD K mg "_law_letter_for" s_l_letter_for) (c_l_next : Cal P w K mg base 1 "_law_next" sp_l_next) (c_l_names : Cal P w K mg base 1 "_law_names" sp_l_names) : Cal P w K mg base 2 "_law_letter_for" sp_l_letter_for := by
  have S := sc_l_letter_for.sc
  refine cal_mk D sc_l_letter_for (fun vs H Q E h => by obtain ⟨a, n, x, s, y, g, t, rfl, _⟩ := h; rfl) fun f0 cdv A0 outer s0 H vs Q E hr hh => ?_
  obtain ⟨a, n, x, s, y, g, t, rfl, hs, hn, wa, ok, ht, ma, gok, na1, na2, na3, na4, h⟩ := hh
  refine ⟨_, (pss_cons (ps_set (i := 3) S.nd rfl (Or.inl rfl) (pc c_l_next hr (by decide) rfl (pa_cons (pv 0) (pa_cons pe_int pa_nil))))
        (pss_cons (ps_set (i := 4) S.nd rfl (Or.inl rfl) (pe_callB (call_max2 rfl) (by rfl) T.b_max (by decide +kernel) (pa_cons pe_int (pa_cons (pe_op op_add (pe_op op_sub (pe_dget (hu_of hr) (pv 1) pe_str (fun _ _ => rfl)) (pe_callTy call_int1 (by rfl) T.b_int (by decide +kernel) (pa_cons (pe_cmpR op_eq (pc c_l_next hr (by decide) rfl (pa_cons (pv 0) (pa_cons pe_int pa_nil))) pe_int (nomark _)) pa_nil))) (pe_callTy call_int1 (by rfl) T.b_int (by decide +kernel) (pa_cons (pe_cmpR op_eq (pc c_l_next hr (by decide) rfl (pa_cons (pv 0) (pa_cons pe_int pa_nil))) pe_int (nomark _)) pa_nil))) pa_nil))))
        (pss_cons (ps_set (i := 5) S.nd rfl (Or.inl rfl) (pc c_l_names hr (by decide) rfl (pa_cons (pv 1) pa_nil)))
        (pss_cons (ps_set (i := 6) S.nd rfl (Or.inl rfl) (pe_ix ix_list (pe_lst (pa_cons (pe_slice sl_list (pe_dget (hu_of hr) (pv 1) pe_str (fun _ _ => rfl)) (po_some (pe_un un_neg pe_int)) po_none) (pa_cons (pe_slice sl_list (pe_dget (hu_of hr) (pv 1) pe_str (fun _ _ => rfl)) po_none (po_some pe_int)) (pa_cons (pv 5) (pa_cons (pe_slice sl_list (pv 5) (po_some (pe_un un_neg pe_int)) po_none) pa_nil))))) (pv 3) (fun _ _ => rfl)))
        (pss_cons (ps_set (i := 6) S.nd rfl (Or.inl rfl) (pe_ix ix_list (pe_op op_cat (pv 6) (pv 5)) pe_int (fun _ _ => rfl)))
        (pss_cons (ps_if (PW.pt (pw_or (pt_cmpR op_eq (pc c_l_next hr (by decide) rfl (pa_cons (pv 0) (pa_cons pe_int pa_nil))) pe_int (nomark _)) (pw_or1 (pt_cmpR op_eq (pv 3) pe_int (nomark _)))))
          (pss_one (ps_set (i := 6) S.nd rfl (Or.inl rfl) (pe_ix ix_list (pe_op op_cat (pv 5) (pe_lst (pa_cons pe_str pa_nil))) (pc c_l_next hr (by decide) rfl (pa_cons (pv 0) (pa_cons (pe_op op_add (pe_callB call_len_seq (by rfl) T.b_len PySem.boot_len (pa_cons (pv 5) pa_nil)) pe_int) pa_nil))) (fun _ _ => rfl))))
          pss_nil)
        (pss_cons (ps_set (i := 7) S.nd rfl (Or.inl rfl) (pe_callB call_len_seq (by rfl) T.b_len PySem.boot_len (pa_cons (pe_dget (hu_of hr) (pv 2) pe_str (fun _ _ => rfl)) pa_nil)))
        (pss_cons (ps_if (pt_cmpR op_eq (pv 3) pe_int (nomark _))
          (pss_cons (ps_set (i := 9) S.nd rfl (Or.inl rfl) (pe_op op_add pe_int (pc c_l_next hr (by decide) rfl (pa_cons (pv 0) (pa_cons (pe_op op_add (pe_callB (call_min2 rfl) (by rfl) T.b_min (by decide +kernel) (pa_cons (pe_callB call_len_seq (by rfl) T.b_len PySem.boot_len (pa_cons (pe_dget (hu_of hr) (pv 1) pe_str (fun _ _ => rfl)) pa_nil)) (pa_cons (pe_op op_add (pv 7) pe_int) pa_nil))) pe_int) pa_nil)))))
          (pss_cons (ps_if (pt_cmpR op_gt (pc c_l_next hr (by decide) rfl (pa_cons (pv 0) (pa_cons pe_int pa_nil))) pe_int (nomark _))
            (pss_one (ps_set (i := 9) S.nd rfl (Or.inl rfl) (pe_ix ix_list (pe_lst (pa_cons pe_int (pa_cons (pe_op op_add (pv 7) pe_int) pa_nil))) (pc c_l_next hr (by decide) rfl (pa_cons (pv 0) (pa_cons pe_int pa_nil))) (fun _ _ => rfl))))
            pss_nil)
          (pss_cons (ps_set (i := 10) S.nd rfl (Or.inl rfl) (pe_slice sl_list (pe_dget (hu_of hr) (pv 1) pe_str (fun _ _ => rfl)) (po_some (pe_op op_sub (pv 9) pe_int)) (po_some (pe_op op_add (pv 9) (pc c_l_next hr (by decide) rfl (pa_cons (pv 0) (pa_cons pe_int pa_nil)))))))
          (pss_one (ps_ret (pe_tup (pa_cons pe_str (pa_cons (pv 4) (pa_cons (pv 6) (pa_cons pe_str (pa_cons (pv 9) (pa_cons (pe_callTy call_tuple_of (by rfl) T.b_tuple (by decide +kernel) (pa_cons (pv 10) pa_nil)) pa_nil))))))))))))
          pss_nil)
        (pss_cons (ps_if (pt_cmpR op_eq (pv 3) pe_int (nomark _))
          (pss_cons (ps_set (i := 11) S.nd rfl (Or.inl rfl) (pe_cmpR op_eq (pc c_l_next hr (by decide) rfl (pa_cons (pv 0) (pa_cons pe_int pa_nil))) pe_int (nomark _)))
          (pss_one (ps_ret (pe_tup (pa_cons pe_str (pa_cons (pv 4) (pa_cons (pv 6) (pa_cons pe_str (pa_cons (pe_op op_add (pc c_l_next hr (by decide) rfl (pa_cons (pv 0) (pa_cons (pe_op op_add (pv 7) pe_int) pa_nil))) (pe_op op_mul (pe_op op_pow pe_int pe_int) (pe_callTy call_int1 (by rfl) T.b_int (by decide +kernel) (pa_cons (pv 11) pa_nil)))) pa_nil)))))))))
          pss_nil)
        (pss_cons (ps_set (i := 8) S.nd rfl (Or.inl rfl) (pe_op op_add pe_int (pc c_l_next hr (by decide) rfl (pa_cons (pv 0) (pa_cons (pe_op op_add (pe_dget (hu_of hr) (pv 1) pe_str (fun _ _ => rfl)) pe_int) pa_nil)))))
        (pss_cons (ps_if (pt_cmpR op_eq (pv 3) pe_int (nomark _))
          (pss_one (ps_ret (pe_tup (pa_cons pe_str (pa_cons (pv 4) (pa_cons (pv 6) (pa_cons pe_str (pa_cons (pv 8) pa_nil))))))))
          pss_nil)
        (pss_one (ps_ret (pe_tup (pa_cons pe_str (pa_cons (pv 4) (pa_cons (pv 6) (pa_cons pe_str (pa_cons (pv 8) (pa_cons (pc c_l_next hr (by decide) rfl (pa_cons (pv 0) (pa_cons (pe_op op_add (pv 7) pe_int) pa_nil))) pa_nil)))))))))))))))))))), ?_⟩
  have naw : x.w ≠ a := hs.ne wa.ob (by intro x y z q; cases q)
  have nam : y.m ≠ a := hs.ne ma.ob (by intro x y z q; cases q)
  have hz := ok.h.hi
  have hzl : s.A.length + s.B.length ≤ 6 := by
    rw [List.length_append, List.length_cons] at hz
    omega
  -- what is needed of a heap
  have step : ∀ {Ha Hb : Hp} {k : Nat}, Src Ha a k → (WA Ha x s ∧ Ha y.m = some (.dK (mF (ownV g y.ct) y.l g.told g.ready y.d)) ∧ Ha y.l = some (.lst (g.log.map Row.v)) ∧ Fr [a] H Ha) → Fr [a] Ha Hb →
      (WA Hb x s ∧ Hb y.m = some (.dK (mF (ownV g y.ct) y.l g.told g.ready y.d)) ∧ Hb y.l = some (.lst (g.log.map Row.v)) ∧ Fr [a] H Hb) := fun hs' p f =>
    ⟨p.1.fr f hs'.nt (mem_ne naw) (mem_ne na1.symm) (mem_ne na2.symm) (mem_ne na3.symm), f _ _ p.2.1 (mem_ne nam), f _ _ p.2.2.1 (mem_ne na4.symm), p.2.2.2.trans f⟩
  have base0 : WA H x s ∧ H y.m = some (.dK (mF (ownV g y.ct) y.l g.told g.ready y.d)) ∧ H y.l = some (.lst (g.log.map Row.v)) ∧ Fr [a] H H := ⟨wa, ma.ob, ma.lst, Fr.refl H⟩
  walk_at "vv"
  refine ⟨a, n, 4, rfl, hs, by omega, by decide, by decide, fun H1 kind k0 k1 hs1 f1 => ?_⟩
  have p1 := step hs base0 f1
  walk_at "vv"
  refine ⟨_, _, rfl, dg p1.1.ob wF_number, ?_⟩
  walk_at "vv"
  refine ⟨a, n + 1, 5, rfl, hs1, by omega, by decide, by decide, fun H2 u u0 u1 hs2 f2 => ?_⟩
  have p2 := step hs1 p1 f2
  walk_at "vv"
  refine .inr ⟨_, rfl, ?_⟩
  walk_at "vv"
  refine ⟨a, n + 2, 9, rfl, hs2, by omega, by decide, by decide, fun H3 v v0 v1 hs3 f3 => ?_⟩
  have p3 := step hs2 p2 f3
  walk_at "vv"
  refine .inr ⟨_, rfl, ?_⟩
  walk_at "vv"
  refine ⟨1, _, rfl, ?_⟩
  obtain ⟨num, hnum, enum⟩ : ∃ num : Int, 1 ≤ num ∧ num = (if s.num - (if decide (V.int u = V.int 0) = true then (1 : Int) else 0) + (if decide (V.int v = V.int 0) = true then (1 : Int) else 0) > 1 then s.num - (if decide (V.int u = V.int 0) = true then (1 : Int) else 0) + (if decide (V.int v = V.int 0) = true then (1 : Int) else 0) else 1) := by
    exact ⟨_, max1 _, rfl⟩
  rw [← enum]
  clear enum
  walk_at "vv"
  refine ⟨x, s, rfl, p3.1, by omega, by omega, fun H4 nm hnm t4 knm => ?_⟩
  have p4 := step hs3 p3 (Fr.ofSame t4)
  have hs4 := hs3.same t4
  walk_at "vv"
  refine ⟨_, _, rfl, dg p4.1.ob wF_ahead, ?_⟩
  walk_at "vv"
  refine ⟨x.ah, _, rfl, SqL.of p4.1.ahd, fun b0 hb0 => ?_⟩
  rw [cut_last, ← List.map_drop]
  have t5 := Same.new (o := .lst ((s.A.drop ((s.A.map V.str).length - 1)).map V.str)) hb0
  have kb0 := upd_same (H := H4) (a := b0) (o := .lst ((s.A.drop ((s.A.map V.str).length - 1)).map V.str))
  have p5 := step hs4 p4 (Fr.ofSame t5)
  have hs5 := hs4.same t5
  have knm5 := t5 _ _ knm
  generalize upd H4 b0 (.lst ((s.A.drop ((s.A.map V.str).length - 1)).map V.str)) = H5 at *
  walk_at "vv"
  refine ⟨_, _, rfl, dg p5.1.ob wF_behind, ?_⟩
  walk_at "vv"
  refine ⟨x.be, _, rfl, SqL.of p5.1.bhd, fun b1 hb1 => ?_⟩
  rw [show cutV (s.B.map V.str) none (some 1) = (s.B.map V.str).take 1 from cut_to (n := 1), ← List.map_take]
  have t6 := Same.new (o := .lst ((s.B.take 1).map V.str)) hb1
  have kb1 := upd_same (H := H5) (a := b1) (o := .lst ((s.B.take 1).map V.str))
  have p6 := step hs5 p5 (Fr.ofSame t6)
  have hs6 := hs5.same t6
  have knm6 := t6 _ _ knm5
  have kb06 := t6 _ _ kb0
  generalize upd H5 b1 (.lst ((s.B.take 1).map V.str)) = H6 at *
  walk_at "vv"
  refine ⟨nm, _, rfl, SqL.of knm6, fun b3 hb3 => ?_⟩
  rw [cut_last, ← List.map_drop]
  have t7 := Same.new (o := .lst (((s.A ++ ("me" : Str) :: s.B).drop (((s.A ++ ("me" : Str) :: s.B).map V.str).length - 1)).map V.str)) hb3
  have kb3 := upd_same (H := H6) (a := b3) (o := .lst (((s.A ++ ("me" : Str) :: s.B).drop (((s.A ++ ("me" : Str) :: s.B).map V.str).length - 1)).map V.str))
  have p7 := step hs6 p6 (Fr.ofSame t7)
  have hs7 := hs6.same t7
  have knm7 := t7 _ _ knm6
  have kb07 := t7 _ _ kb06
  have kb17 := t7 _ _ kb1
  generalize upd H6 b3 (.lst (((s.A ++ ("me" : Str) :: s.B).drop (((s.A ++ ("me" : Str) :: s.B).map V.str).length - 1)).map V.str)) = H7 at *
  walk_at "vv"
  refine ⟨by show 4 ≤ sizeLine; decide, fun pl hpl => ?_⟩
  have t8 := Same.new (o := .lst [.ref b0, .ref b1, .ref nm, .ref b3]) hpl
  have kpl := upd_same (H := H7) (a := pl) (o := .lst [.ref b0, .ref b1, .ref nm, .ref b3])
  have p8 := step hs7 p7 (Fr.ofSame t8)
  have hs8 := hs7.same t8
  have knm8 := t8 _ _ knm7
  have kb08 := t8 _ _ kb07
  have kb18 := t8 _ _ kb17
  have kb38 := t8 _ _ kb3
  generalize upd H7 pl (.lst [.ref b0, .ref b1, .ref nm, .ref b3]) = H8 at *
  walk_at "vv"
  obtain ⟨l, L, ex, hL, hin, hLl⟩ : ∃ (l : Addr) (L : List Str), atI [V.ref b0, .ref b1, .ref nm, .ref b3] kind = some (.ref l) ∧ H8 l = some (.lst (L.map V.str)) ∧ (∀ z ∈ L, z ∈ s.A ++ ("me" : Str) :: s.B) ∧ L.length ≤ 7 := by
    have : kind = 0 ∨ kind = 1 ∨ kind = 2 ∨ kind = 3 := by omega
    rcases this with e | e | e | e
    · rw [e]; exact ⟨b0, _, rfl, kb08, fun z m => List.mem_append_left _ (List.mem_of_mem_drop m), by rw [List.length_drop]; omega⟩
    · rw [e]; exact ⟨b1, _, rfl, kb18, fun z m => List.mem_append_right _ (List.mem_cons_of_mem _ (List.mem_of_mem_take m)), by rw [List.length_take]; omega⟩
    · rw [e]; exact ⟨nm, _, rfl, knm8, fun z m => m, hz⟩
    · rw [e]; exact ⟨b3, _, rfl, kb38, fun z m => List.mem_of_mem_drop m, by rw [List.length_drop]; omega⟩
  refine n_ixL (SqL.of kpl) ex ?_
  walk_at "vv"
  have hn1 := ok.h.lo
  have hok := ok.h.ok
  have zok : NameOk ("zz" : Str) := nameOk_of (by decide +kernel)
  generalize s.A ++ ("me" : Str) :: s.B = names at *
  refine ⟨l, nm, _, _, rfl, rfl, hL, knm8, ?_, fun q hq => ?_⟩
  · rw [List.length_map, List.length_map]
    exact Nat.le_trans (m := 14) (by omega) (by decide)
  have t9 := Same.new (o := .lst (L.map V.str ++ names.map V.str)) hq
  have kq := upd_same (H := H8) (a := q) (o := .lst (L.map V.str ++ names.map V.str))
  have p9 := step hs8 p8 (Fr.ofSame t9)
  have hs9 := hs8.same t9
  have knm9 := t9 _ _ knm8
  generalize upd H8 q (.lst (L.map V.str ++ names.map V.str)) = H9 at *
  obtain ⟨z, hz0, hzn⟩ : ∃ z, (L.map V.str ++ names.map V.str)[0]? = some (V.str z) ∧ z ∈ names := by
    rw [← List.map_append, List.getElem?_map]
    have l0 : 0 < (L ++ names).length := by rw [List.length_append]; omega
    refine ⟨(L ++ names)[0], by rw [List.getElem?_eq_getElem l0]; rfl, ?_⟩
    rcases List.mem_append.mp (List.getElem_mem l0) with m | m
    · exact hin _ m
    · exact m
  walk_at "vv"
  refine n_ixL (SqL.of kq) (at0 hz0) ?_
  walk_at "vv"
  refine ⟨a, n + 3, 6, rfl, hs9, by omega, by decide, by decide, fun H10 e e0 e1 hs10 f10 => ?_⟩
  have p10 := step hs9 p9 f10
  have knm10 := f10 _ _ knm9 (mem_ne (fun q => by
    obtain ⟨i1, i2, i3, e, _⟩ := hs3
    rw [← q, hnm] at e
    cases e))
  walk_at "vv"
  by_cases ee : e = 0
  · refine n_iT (by rw [ee]; rfl) ?_
    walk_at "vv"
    refine ⟨by show 1 ≤ sizeLine; decide, fun b4 hb4 => ?_⟩
    have t11 := Same.new (o := .lst [.str "zz"]) hb4
    refine ⟨nm, b4, _, _, rfl, rfl, t11 _ _ knm10, upd_same, ?_, fun b5 hb5 => ?_⟩
    · rw [List.length_map]
      show names.length + 1 ≤ sizeLine
      exact Nat.le_trans (m := 14) (by omega) (by decide)
    rw [show names.map V.str ++ [V.str "zz"] = (names ++ [("zz" : Str)]).map V.str by rw [List.map_append]; rfl] at *
    have t12 := Same.new (o := .lst ((names ++ [("zz" : Str)]).map V.str)) hb5
    have t112 := Same.trans t11 t12
    have kb5 := upd_same (H := upd H10 b4 (.lst [.str "zz"])) (a := b5) (o := .lst ((names ++ [("zz" : Str)]).map V.str))
    have p12 := step hs10 p10 (Fr.ofSame t112)
    have hs12 := hs10.same t112
    have knm12 := t112 _ _ knm10
    have nb5 := (hs10.same t11).new hb5
    generalize upd (upd H10 b4 (.lst [.str "zz"])) b5 (.lst ((names ++ [("zz" : Str)]).map V.str)) = H12 at *
    walk_at "vv"
    refine ⟨nm, _, rfl, .inl (SqL.of knm12), ?_⟩
    rw [List.length_map]
    walk_at "vv"
    refine ⟨a, n + 4, (names.length : Int) + 1, rfl, hs12, by omega, by omega, by omega, fun H13 i i0 i1 hs13 f13 => ?_⟩
    have p13 := step hs12 p12 f13
    obtain ⟨z2, hz2, ez2⟩ := nth_of V.str (xs := names ++ [("zz" : Str)]) i0 (by rw [List.length_append]; show i < ((names.length + 1 : Nat) : Int); omega)
    refine n_ixL (SqL.of (f13 _ _ kb5 nb5)) ez2 ?_
    have zz1 : NameOk z2 := by
      rcases List.mem_append.mp hz2 with m | m
      · exact hok z2 m
      · rw [List.mem_singleton.mp m]; exact zok
    have pR := p13
    have hsR : Src H13 a (n + 10) := hs13.mono (by omega)
    clear p13 hs13
    walk_at "vv"
    refine ⟨_, _, rfl, dg pR.2.1 mF_log, ?_⟩
    walk_at "vv"
    refine ⟨y.l, _, rfl, .inl (SqL.of pR.2.2.1), ?_⟩
    rw [List.length_map]
    have glen := gok.len
    have mlen := ok.mas
    have alen := ok.asks
    walk_at "vv"
    by_cases c0 : kind = 0
    · refine n_iT (by rw [c0]; rfl) ?_
      walk_at "vv"
      refine ⟨_, _, rfl, dg pR.1.ob wF_master, ?_⟩
      walk_at "vv"
      refine ⟨x.ms, _, rfl, .inl (SqL.of pR.1.mst), ?_⟩
      rw [List.length_map]
      walk_at "vv"
      refine ⟨_, _, rfl, ?_⟩
      obtain ⟨mn, mn0, mn1, emn⟩ : ∃ mn : Int, 0 ≤ mn ∧ mn ≤ 1000 ∧ mn = (if (g.log.length : Int) + 2 < (s.master.length : Int) then (g.log.length : Int) + 2 else (s.master.length : Int)) := ⟨_, by split <;> omega, by split <;> omega, rfl⟩
      rw [← emn]
      clear emn
      walk_at "vv"
      refine ⟨a, n + 10, mn + 1, rfl, hsR, by omega, by omega, by omega, fun H14 r r0 r1 hs14 f14 => ?_⟩
      have p14 := step hsR pR f14
      walk_at "vv"
      refine ⟨a, n + 11, 3, rfl, hs14, by omega, by decide, by decide, fun H15 j j0 j1 hs15 f15 => ?_⟩
      have p15 := step hs14 p14 f15
      walk_at "vv"
      by_cases cj : j > 0
      · refine n_iT (decide_eq_true cj) ?_
        walk_at "vv"
        refine ⟨by show 2 ≤ sizeLine; decide, fun b6 hb6 => ?_⟩
        have t16 := Same.new (o := .lst ([(1 : Int), (g.log.length : Int) + 1].map V.int)) hb6
        have kb6 := upd_same (H := H15) (a := b6) (o := .lst ([(1 : Int), (g.log.length : Int) + 1].map V.int))
        have p16 := step hs15 p15 (Fr.ofSame t16)
        have hs16 := hs15.same t16
        have nb6 := hs15.new hb6
        walk_at "vv"
        refine ⟨a, n + 12, 2, rfl, hs16, by omega, by decide, by decide, fun H17 i i0 i1 hs17 f17 => ?_⟩
        have p17 := step hs16 p16 f17
        obtain ⟨f, hf, ef⟩ := nth_of V.int (xs := [(1 : Int), (g.log.length : Int) + 1]) i0 (by show i < 2; exact i1)
        refine n_ixL (SqL.of (f17 _ _ kb6 nb6)) ef ?_
        obtain ⟨fN, rfl, fN1⟩ : ∃ fN : Nat, f = (fN : Int) ∧ 1 ≤ fN := by
          simp only [List.mem_cons, List.not_mem_nil, or_false] at hf
          rcases hf with e | e
          · exact ⟨1, e, Nat.le_refl 1⟩
          · exact ⟨g.log.length + 1, e, by omega⟩
        have pF := p17
        have hsF : Src H17 a (n + 20) := hs17.mono (by omega)
        clear p17 hs17
        walk_at "vv"
        refine ⟨_, _, rfl, dg pF.1.ob wF_master, ?_⟩
        walk_at "vv"
        refine ⟨a, n + 20, 14, rfl, hsF, by omega, by decide, by decide, fun H18 jj jj0 jj1 hs18 f18 => ?_⟩
        have p18 := step hsF pF f18
        walk_at "vv"
        refine ⟨x.ms, _, rfl, SqL.of p18.1.mst, fun b7 hb7 => ?_⟩
        obtain ⟨jN, rfl⟩ : ∃ jN : Nat, jj = (jN : Int) := ⟨jj.toNat, by omega⟩
        rw [show ((fN : Int) - 1) = ((fN - 1 : Nat) : Int) by omega, show ((fN : Int) + (jN : Int)) = ((fN + jN : Nat) : Int) by omega, cut_mid (by omega), ← List.map_drop, ← List.map_take]
        have lrows : ((s.master.drop (fN - 1)).take (fN + jN - (fN - 1))).length ≤ 14 ∧ ((s.master.drop (fN - 1)).take (fN + jN - (fN - 1))).length ≤ s.master.length + 1 - fN := by
          rw [List.length_take, List.length_drop]
          omega
        have hR18 : RowsOk H18 ((s.master.drop (fN - 1)).take (fN + jN - (fN - 1))) := p18.1.rows.sub fun r hr => List.mem_of_mem_drop (List.mem_of_mem_take hr)
        generalize (s.master.drop (fN - 1)).take (fN + jN - (fN - 1)) = lr at *
        have t19 := Same.new (o := .lst (lr.map Row.v)) hb7
        walk_at "vv"
        refine ⟨b7, _, rfl, .inl ⟨SqL.of upd_same, fun b8 hb8 => ?_⟩⟩
        have t20 := Same.new (o := .tup (lr.map Row.v)) hb8
        walk_at "vv"
        refine ⟨by show 6 ≤ sizeLine; decide, fun zl hzl2 => ?_⟩
        have t1920 := Same.trans t19 t20
        refine h _ zl (.rows num _ fN lr b8) ⟨upd_same, (Same.new hzl2) _ _ upd_same, hR18.to (Tups.ofSame (Same.trans t1920 (Same.new hzl2)))⟩ ⟨hnum, zz1, fN1, by show lr.length ≤ 100; omega⟩ (p18.2.2.2.trans (Fr.ofSame (Same.trans t1920 (Same.new hzl2)))) (fun _ _ _ _ _ q => by injection q with _ _ e3 e4 _; rw [← e3, ← e4]; exact lrows.2)
      · refine n_iF (decide_eq_false cj) ?_
        obtain ⟨fN, ef, fN1⟩ : ∃ fN : Nat, 1 + r = (fN : Int) ∧ 1 ≤ fN := ⟨(1 + r).toNat, by omega, by omega⟩
        rw [ef]
        have pF := p15
        have hsF : Src H15 a (n + 20) := hs15.mono (by omega)
        clear p15 hs15
        walk_at "vv"
        refine ⟨_, _, rfl, dg pF.1.ob wF_master, ?_⟩
        walk_at "vv"
        refine ⟨a, n + 20, 14, rfl, hsF, by omega, by decide, by decide, fun H18 jj jj0 jj1 hs18 f18 => ?_⟩
        have p18 := step hsF pF f18
        walk_at "vv"
        refine ⟨x.ms, _, rfl, SqL.of p18.1.mst, fun b7 hb7 => ?_⟩
        obtain ⟨jN, rfl⟩ : ∃ jN : Nat, jj = (jN : Int) := ⟨jj.toNat, by omega⟩
        rw [show ((fN : Int) - 1) = ((fN - 1 : Nat) : Int) by omega, show ((fN : Int) + (jN : Int)) = ((fN + jN : Nat) : Int) by omega, cut_mid (by omega), ← List.map_drop, ← List.map_take]
        have lrows : ((s.master.drop (fN - 1)).take (fN + jN - (fN - 1))).length ≤ 14 ∧ ((s.master.drop (fN - 1)).take (fN + jN - (fN - 1))).length ≤ s.master.length + 1 - fN := by
          rw [List.length_take, List.length_drop]
          omega
        have hR18 : RowsOk H18 ((s.master.drop (fN - 1)).take (fN + jN - (fN - 1))) := p18.1.rows.sub fun r hr => List.mem_of_mem_drop (List.mem_of_mem_take hr)
        generalize (s.master.drop (fN - 1)).take (fN + jN - (fN - 1)) = lr at *
        have t19 := Same.new (o := .lst (lr.map Row.v)) hb7
        walk_at "vv"
        refine ⟨b7, _, rfl, .inl ⟨SqL.of upd_same, fun b8 hb8 => ?_⟩⟩
        have t20 := Same.new (o := .tup (lr.map Row.v)) hb8
        walk_at "vv"
        refine ⟨by show 6 ≤ sizeLine; decide, fun zl hzl2 => ?_⟩
        have t1920 := Same.trans t19 t20
        refine h _ zl (.rows num _ fN lr b8) ⟨upd_same, (Same.new hzl2) _ _ upd_same, hR18.to (Tups.ofSame (Same.trans t1920 (Same.new hzl2)))⟩ ⟨hnum, zz1, fN1, by show lr.length ≤ 100; omega⟩ (p18.2.2.2.trans (Fr.ofSame (Same.trans t1920 (Same.new hzl2)))) (fun _ _ _ _ _ q => by injection q with _ _ e3 e4 _; rw [← e3, ← e4]; exact lrows.2)
    · refine n_iF (decide_eq_false fun z => c0 (by injection z)) ?_
      walk_at "vv"
      by_cases c1 : kind = 1
      · refine n_iT (by rw [c1]; rfl) ?_
        walk_at "vv"
        refine ⟨a, n + 10, 7, rfl, hsR, by omega, by decide, by decide, fun H14 r r0 r1 hs14 f14 => ?_⟩
        have p14 := step hsR pR f14
        walk_at "vv"
        refine ⟨a, n + 11, (g.log.length : Int) + 3, rfl, hs14, by omega, by omega, by omega, fun H15 j j0 j1 hs15 f15 => ?_⟩
        have p15 := step hs14 p14 f15
        walk_at "vv"
        refine n_I (by show CPow 10 30; exact ⟨by decide, by decide, by decide⟩) ?_
        walk_at "vv"
        refine .inr ⟨_, rfl, ?_⟩
        refine n_I (.inr (by split <;> decide)) ?_
        walk_at "vv"
        refine ⟨by show 5 ≤ sizeLine; decide, fun zl hzl2 => ?_⟩
        refine h _ zl (.told num _ _) ⟨upd_same, trivial⟩ ⟨hnum, zz1, ?_⟩ (p15.2.2.2.trans (Fr.ofSame (Same.new hzl2))) (fun _ _ _ _ _ q => by cases q)
        show 0 ≤ j + 10 ^ (30 : Int).toNat * _
        split
        · have : (0 : Int) ≤ 10 ^ (30 : Int).toNat * 1 := by decide
          omega
        · omega
      · refine n_iF (decide_eq_false fun z => c1 (by injection z)) ?_
        walk_at "vv"
        refine ⟨_, _, rfl, dg pR.1.ob wF_asks, ?_⟩
        walk_at "vv"
        refine ⟨a, n + 10, s.asks + 3, rfl, hsR, by omega, by omega, by omega, fun H14 r r0 r1 hs14 f14 => ?_⟩
        have p14 := step hsR pR f14
        walk_at "vv"
        by_cases c2 : kind = 2
        · refine n_iT (by rw [c2]; rfl) ?_
          walk_at "vv"
          refine ⟨by show 5 ≤ sizeLine; decide, fun zl hzl2 => ?_⟩
          exact h _ zl (.which num _ (1 + r)) ⟨upd_same, trivial⟩ ⟨hnum, zz1, by show 1 ≤ 1 + r; omega⟩ (p14.2.2.2.trans (Fr.ofSame (Same.new hzl2))) (fun _ _ _ _ _ q => by cases q)
        · refine n_iF (decide_eq_false fun z => c2 (by injection z)) ?_
          walk_at "vv"
          refine ⟨a, n + 11, (g.log.length : Int) + 2, rfl, hs14, by omega, by omega, by omega, fun H15 j j0 j1 hs15 f15 => ?_⟩
          have p15 := step hs14 p14 f15
          walk_at "vv"
          refine ⟨by show 6 ≤ sizeLine; decide, fun zl hzl2 => ?_⟩
          exact h _ zl (.that num _ (1 + r) j) ⟨upd_same, trivial⟩ ⟨hnum, zz1, by show 1 ≤ 1 + r; omega, j0⟩ (p15.2.2.2.trans (Fr.ofSame (Same.new hzl2))) (fun _ _ _ _ _ q => by cases q)
  · refine n_iF (decide_eq_false fun z => ee (by injection z)) ?_
    walk_at "vv"
    by_cases k2 : kind = 2
    · refine n_iT (by rw [k2]; rfl) ?_
      walk_at "vv"
      refine ⟨by show 1 ≤ sizeLine; decide, fun b4 hb4 => ?_⟩
      have t11 := Same.new (o := .lst [.str "zz"]) hb4
      refine ⟨nm, b4, _, _, rfl, rfl, t11 _ _ knm10, upd_same, ?_, fun b5 hb5 => ?_⟩
      · rw [List.length_map]
        show names.length + 1 ≤ sizeLine
        exact Nat.le_trans (m := 14) (by omega) (by decide)
      rw [show names.map V.str ++ [V.str "zz"] = (names ++ [("zz" : Str)]).map V.str by rw [List.map_append]; rfl] at *
      have t12 := Same.new (o := .lst ((names ++ [("zz" : Str)]).map V.str)) hb5
      have t112 := Same.trans t11 t12
      have kb5 := upd_same (H := upd H10 b4 (.lst [.str "zz"])) (a := b5) (o := .lst ((names ++ [("zz" : Str)]).map V.str))
      have p12 := step hs10 p10 (Fr.ofSame t112)
      have hs12 := hs10.same t112
      have knm12 := t112 _ _ knm10
      have nb5 := (hs10.same t11).new hb5
      generalize upd (upd H10 b4 (.lst [.str "zz"])) b5 (.lst ((names ++ [("zz" : Str)]).map V.str)) = H12 at *
      walk_at "vv"
      refine ⟨nm, _, rfl, .inl (SqL.of knm12), ?_⟩
      rw [List.length_map]
      walk_at "vv"
      refine ⟨a, n + 4, (names.length : Int) + 1, rfl, hs12, by omega, by omega, by omega, fun H13 i i0 i1 hs13 f13 => ?_⟩
      have p13 := step hs12 p12 f13
      obtain ⟨z2, hz2, ez2⟩ := nth_of V.str (xs := names ++ [("zz" : Str)]) i0 (by rw [List.length_append]; show i < ((names.length + 1 : Nat) : Int); omega)
      refine n_ixL (SqL.of (f13 _ _ kb5 nb5)) ez2 ?_
      have zz1 : NameOk z2 := by
        rcases List.mem_append.mp hz2 with m | m
        · exact hok z2 m
        · rw [List.mem_singleton.mp m]; exact zok
      have pR := p13
      have hsR : Src H13 a (n + 10) := hs13.mono (by omega)
      clear p13 hs13
      walk_at "vv"
      refine ⟨_, _, rfl, dg pR.2.1 mF_log, ?_⟩
      walk_at "vv"
      refine ⟨y.l, _, rfl, .inl (SqL.of pR.2.2.1), ?_⟩
      rw [List.length_map]
      have glen := gok.len
      have mlen := ok.mas
      have alen := ok.asks
      walk_at "vv"
      by_cases c0 : kind = 0
      · refine n_iT (by rw [c0]; rfl) ?_
        walk_at "vv"
        refine ⟨_, _, rfl, dg pR.1.ob wF_master, ?_⟩
        walk_at "vv"
        refine ⟨x.ms, _, rfl, .inl (SqL.of pR.1.mst), ?_⟩
        rw [List.length_map]
        walk_at "vv"
        refine ⟨_, _, rfl, ?_⟩
        obtain ⟨mn, mn0, mn1, emn⟩ : ∃ mn : Int, 0 ≤ mn ∧ mn ≤ 1000 ∧ mn = (if (g.log.length : Int) + 2 < (s.master.length : Int) then (g.log.length : Int) + 2 else (s.master.length : Int)) := ⟨_, by split <;> omega, by split <;> omega, rfl⟩
        rw [← emn]
        clear emn
        walk_at "vv"
        refine ⟨a, n + 10, mn + 1, rfl, hsR, by omega, by omega, by omega, fun H14 r r0 r1 hs14 f14 => ?_⟩
        have p14 := step hsR pR f14
        walk_at "vv"
        refine ⟨a, n + 11, 3, rfl, hs14, by omega, by decide, by decide, fun H15 j j0 j1 hs15 f15 => ?_⟩
        have p15 := step hs14 p14 f15
        walk_at "vv"
        by_cases cj : j > 0
        · refine n_iT (decide_eq_true cj) ?_
          walk_at "vv"
          refine ⟨by show 2 ≤ sizeLine; decide, fun b6 hb6 => ?_⟩
          have t16 := Same.new (o := .lst ([(1 : Int), (g.log.length : Int) + 1].map V.int)) hb6
          have kb6 := upd_same (H := H15) (a := b6) (o := .lst ([(1 : Int), (g.log.length : Int) + 1].map V.int))
          have p16 := step hs15 p15 (Fr.ofSame t16)
          have hs16 := hs15.same t16
          have nb6 := hs15.new hb6
          walk_at "vv"
          refine ⟨a, n + 12, 2, rfl, hs16, by omega, by decide, by decide, fun H17 i i0 i1 hs17 f17 => ?_⟩
          have p17 := step hs16 p16 f17
          obtain ⟨f, hf, ef⟩ := nth_of V.int (xs := [(1 : Int), (g.log.length : Int) + 1]) i0 (by show i < 2; exact i1)
          refine n_ixL (SqL.of (f17 _ _ kb6 nb6)) ef ?_
          obtain ⟨fN, rfl, fN1⟩ : ∃ fN : Nat, f = (fN : Int) ∧ 1 ≤ fN := by
            simp only [List.mem_cons, List.not_mem_nil, or_false] at hf
            rcases hf with e | e
            · exact ⟨1, e, Nat.le_refl 1⟩
            · exact ⟨g.log.length + 1, e, by omega⟩
          have pF := p17
          have hsF : Src H17 a (n + 20) := hs17.mono (by omega)
          clear p17 hs17
          walk_at "vv"
          refine ⟨_, _, rfl, dg pF.1.ob wF_master, ?_⟩
          walk_at "vv"
          refine ⟨a, n + 20, 14, rfl, hsF, by omega, by decide, by decide, fun H18 jj jj0 jj1 hs18 f18 => ?_⟩
          have p18 := step hsF pF f18
          walk_at "vv"
          refine ⟨x.ms, _, rfl, SqL.of p18.1.mst, fun b7 hb7 => ?_⟩
          obtain ⟨jN, rfl⟩ : ∃ jN : Nat, jj = (jN : Int) := ⟨jj.toNat, by omega⟩
          rw [show ((fN : Int) - 1) = ((fN - 1 : Nat) : Int) by omega, show ((fN : Int) + (jN : Int)) = ((fN + jN : Nat) : Int) by omega, cut_mid (by omega), ← List.map_drop, ← List.map_take]
          have lrows : ((s.master.drop (fN - 1)).take (fN + jN - (fN - 1))).length ≤ 14 ∧ ((s.master.drop (fN - 1)).take (fN + jN - (fN - 1))).length ≤ s.master.length + 1 - fN := by
            rw [List.length_take, List.length_drop]
            omega
          have hR18 : RowsOk H18 ((s.master.drop (fN - 1)).take (fN + jN - (fN - 1))) := p18.1.rows.sub fun r hr => List.mem_of_mem_drop (List.mem_of_mem_take hr)
          generalize (s.master.drop (fN - 1)).take (fN + jN - (fN - 1)) = lr at *
          have t19 := Same.new (o := .lst (lr.map Row.v)) hb7
          walk_at "vv"
          refine ⟨b7, _, rfl, .inl ⟨SqL.of upd_same, fun b8 hb8 => ?_⟩⟩
          have t20 := Same.new (o := .tup (lr.map Row.v)) hb8
          walk_at "vv"
          refine ⟨by show 6 ≤ sizeLine; decide, fun zl hzl2 => ?_⟩
          have t1920 := Same.trans t19 t20
          refine h _ zl (.rows num _ fN lr b8) ⟨upd_same, (Same.new hzl2) _ _ upd_same, hR18.to (Tups.ofSame (Same.trans t1920 (Same.new hzl2)))⟩ ⟨hnum, zz1, fN1, by show lr.length ≤ 100; omega⟩ (p18.2.2.2.trans (Fr.ofSame (Same.trans t1920 (Same.new hzl2)))) (fun _ _ _ _ _ q => by injection q with _ _ e3 e4 _; rw [← e3, ← e4]; exact lrows.2)
        · refine n_iF (decide_eq_false cj) ?_
          obtain ⟨fN, ef, fN1⟩ : ∃ fN : Nat, 1 + r = (fN : Int) ∧ 1 ≤ fN := ⟨(1 + r).toNat, by omega, by omega⟩
          rw [ef]
          have pF := p15
          have hsF : Src H15 a (n + 20) := hs15.mono (by omega)
          clear p15 hs15
          walk_at "vv"
          refine ⟨_, _, rfl, dg pF.1.ob wF_master, ?_⟩
          walk_at "vv"
          refine ⟨a, n + 20, 14, rfl, hsF, by omega, by decide, by decide, fun H18 jj jj0 jj1 hs18 f18 => ?_⟩
          have p18 := step hsF pF f18
          walk_at "vv"
          refine ⟨x.ms, _, rfl, SqL.of p18.1.mst, fun b7 hb7 => ?_⟩
          obtain ⟨jN, rfl⟩ : ∃ jN : Nat, jj = (jN : Int) := ⟨jj.toNat, by omega⟩
          rw [show ((fN : Int) - 1) = ((fN - 1 : Nat) : Int) by omega, show ((fN : Int) + (jN : Int)) = ((fN + jN : Nat) : Int) by omega, cut_mid (by omega), ← List.map_drop, ← List.map_take]
          have lrows : ((s.master.drop (fN - 1)).take (fN + jN - (fN - 1))).length ≤ 14 ∧ ((s.master.drop (fN - 1)).take (fN + jN - (fN - 1))).length ≤ s.master.length + 1 - fN := by
            rw [List.length_take, List.length_drop]
            omega
          have hR18 : RowsOk H18 ((s.master.drop (fN - 1)).take (fN + jN - (fN - 1))) := p18.1.rows.sub fun r hr => List.mem_of_mem_drop (List.mem_of_mem_take hr)
          generalize (s.master.drop (fN - 1)).take (fN + jN - (fN - 1)) = lr at *
          have t19 := Same.new (o := .lst (lr.map Row.v)) hb7
          walk_at "vv"
          refine ⟨b7, _, rfl, .inl ⟨SqL.of upd_same, fun b8 hb8 => ?_⟩⟩
          have t20 := Same.new (o := .tup (lr.map Row.v)) hb8
          walk_at "vv"
          refine ⟨by show 6 ≤ sizeLine; decide, fun zl hzl2 => ?_⟩
          have t1920 := Same.trans t19 t20
          refine h _ zl (.rows num _ fN lr b8) ⟨upd_same, (Same.new hzl2) _ _ upd_same, hR18.to (Tups.ofSame (Same.trans t1920 (Same.new hzl2)))⟩ ⟨hnum, zz1, fN1, by show lr.length ≤ 100; omega⟩ (p18.2.2.2.trans (Fr.ofSame (Same.trans t1920 (Same.new hzl2)))) (fun _ _ _ _ _ q => by injection q with _ _ e3 e4 _; rw [← e3, ← e4]; exact lrows.2)
      · refine n_iF (decide_eq_false fun z => c0 (by injection z)) ?_
        walk_at "vv"
        by_cases c1 : kind = 1
        · refine n_iT (by rw [c1]; rfl) ?_
          walk_at "vv"
          refine ⟨a, n + 10, 7, rfl, hsR, by omega, by decide, by decide, fun H14 r r0 r1 hs14 f14 => ?_⟩
          have p14 := step hsR pR f14
          walk_at "vv"
          refine ⟨a, n + 11, (g.log.length : Int) + 3, rfl, hs14, by omega, by omega, by omega, fun H15 j j0 j1 hs15 f15 => ?_⟩
          have p15 := step hs14 p14 f15
          walk_at "vv"
          refine n_I (by show CPow 10 30; exact ⟨by decide, by decide, by decide⟩) ?_
          walk_at "vv"
          refine .inr ⟨_, rfl, ?_⟩
          refine n_I (.inr (by split <;> decide)) ?_
          walk_at "vv"
          refine ⟨by show 5 ≤ sizeLine; decide, fun zl hzl2 => ?_⟩
          refine h _ zl (.told num _ _) ⟨upd_same, trivial⟩ ⟨hnum, zz1, ?_⟩ (p15.2.2.2.trans (Fr.ofSame (Same.new hzl2))) (fun _ _ _ _ _ q => by cases q)
          show 0 ≤ j + 10 ^ (30 : Int).toNat * _
          split
          · have : (0 : Int) ≤ 10 ^ (30 : Int).toNat * 1 := by decide
            omega
          · omega
        · refine n_iF (decide_eq_false fun z => c1 (by injection z)) ?_
          walk_at "vv"
          refine ⟨_, _, rfl, dg pR.1.ob wF_asks, ?_⟩
          walk_at "vv"
          refine ⟨a, n + 10, s.asks + 3, rfl, hsR, by omega, by omega, by omega, fun H14 r r0 r1 hs14 f14 => ?_⟩
          have p14 := step hsR pR f14
          walk_at "vv"
          by_cases c2 : kind = 2
          · refine n_iT (by rw [c2]; rfl) ?_
            walk_at "vv"
            refine ⟨by show 5 ≤ sizeLine; decide, fun zl hzl2 => ?_⟩
            exact h _ zl (.which num _ (1 + r)) ⟨upd_same, trivial⟩ ⟨hnum, zz1, by show 1 ≤ 1 + r; omega⟩ (p14.2.2.2.trans (Fr.ofSame (Same.new hzl2))) (fun _ _ _ _ _ q => by cases q)
          · refine n_iF (decide_eq_false fun z => c2 (by injection z)) ?_
            walk_at "vv"
            refine ⟨a, n + 11, (g.log.length : Int) + 2, rfl, hs14, by omega, by omega, by omega, fun H15 j j0 j1 hs15 f15 => ?_⟩
            have p15 := step hs14 p14 f15
            walk_at "vv"
            refine ⟨by show 6 ≤ sizeLine; decide, fun zl hzl2 => ?_⟩
            exact h _ zl (.that num _ (1 + r) j) ⟨upd_same, trivial⟩ ⟨hnum, zz1, by show 1 ≤ 1 + r; omega, j0⟩ (p15.2.2.2.trans (Fr.ofSame (Same.new hzl2))) (fun _ _ _ _ _ q => by cases q)
    · refine n_iF (decide_eq_false fun z => k2 (by injection z)) ?_
      have zz1 := hok z hzn
      have pR := p10
      have hsR : Src H10 a (n + 10) := hs10.mono (by omega)
      clear hs10 p10
      walk_at "vv"
      refine ⟨_, _, rfl, dg pR.2.1 mF_log, ?_⟩
      walk_at "vv"
      refine ⟨y.l, _, rfl, .inl (SqL.of pR.2.2.1), ?_⟩
      rw [List.length_map]
      have glen := gok.len
      have mlen := ok.mas
      have alen := ok.asks
      walk_at "vv"
      by_cases c0 : kind = 0
      · refine n_iT (by rw [c0]; rfl) ?_
        walk_at "vv"
        refine ⟨_, _, rfl, dg pR.1.ob wF_master, ?_⟩
        walk_at "vv"
        refine ⟨x.ms, _, rfl, .inl (SqL.of pR.1.mst), ?_⟩
        rw [List.length_map]
        walk_at "vv"
        refine ⟨_, _, rfl, ?_⟩
        obtain ⟨mn, mn0, mn1, emn⟩ : ∃ mn : Int, 0 ≤ mn ∧ mn ≤ 1000 ∧ mn = (if (g.log.length : Int) + 2 < (s.master.length : Int) then (g.log.length : Int) + 2 else (s.master.length : Int)) := ⟨_, by split <;> omega, by split <;> omega, rfl⟩
        rw [← emn]
        clear emn
        walk_at "vv"
        refine ⟨a, n + 10, mn + 1, rfl, hsR, by omega, by omega, by omega, fun H14 r r0 r1 hs14 f14 => ?_⟩
        have p14 := step hsR pR f14
        walk_at "vv"
        refine ⟨a, n + 11, 3, rfl, hs14, by omega, by decide, by decide, fun H15 j j0 j1 hs15 f15 => ?_⟩
        have p15 := step hs14 p14 f15
        walk_at "vv"
        by_cases cj : j > 0
        · refine n_iT (decide_eq_true cj) ?_
          walk_at "vv"
          refine ⟨by show 2 ≤ sizeLine; decide, fun b6 hb6 => ?_⟩
          have t16 := Same.new (o := .lst ([(1 : Int), (g.log.length : Int) + 1].map V.int)) hb6
          have kb6 := upd_same (H := H15) (a := b6) (o := .lst ([(1 : Int), (g.log.length : Int) + 1].map V.int))
          have p16 := step hs15 p15 (Fr.ofSame t16)
          have hs16 := hs15.same t16
          have nb6 := hs15.new hb6
          walk_at "vv"
          refine ⟨a, n + 12, 2, rfl, hs16, by omega, by decide, by decide, fun H17 i i0 i1 hs17 f17 => ?_⟩
          have p17 := step hs16 p16 f17
          obtain ⟨f, hf, ef⟩ := nth_of V.int (xs := [(1 : Int), (g.log.length : Int) + 1]) i0 (by show i < 2; exact i1)
          refine n_ixL (SqL.of (f17 _ _ kb6 nb6)) ef ?_
          obtain ⟨fN, rfl, fN1⟩ : ∃ fN : Nat, f = (fN : Int) ∧ 1 ≤ fN := by
            simp only [List.mem_cons, List.not_mem_nil, or_false] at hf
            rcases hf with e | e
            · exact ⟨1, e, Nat.le_refl 1⟩
            · exact ⟨g.log.length + 1, e, by omega⟩
          have pF := p17
          have hsF : Src H17 a (n + 20) := hs17.mono (by omega)
          clear p17 hs17
          walk_at "vv"
          refine ⟨_, _, rfl, dg pF.1.ob wF_master, ?_⟩
          walk_at "vv"
          refine ⟨a, n + 20, 14, rfl, hsF, by omega, by decide, by decide, fun H18 jj jj0 jj1 hs18 f18 => ?_⟩
          have p18 := step hsF pF f18
          walk_at "vv"
          refine ⟨x.ms, _, rfl, SqL.of p18.1.mst, fun b7 hb7 => ?_⟩
          obtain ⟨jN, rfl⟩ : ∃ jN : Nat, jj = (jN : Int) := ⟨jj.toNat, by omega⟩
          rw [show ((fN : Int) - 1) = ((fN - 1 : Nat) : Int) by omega, show ((fN : Int) + (jN : Int)) = ((fN + jN : Nat) : Int) by omega, cut_mid (by omega), ← List.map_drop, ← List.map_take]
          have lrows : ((s.master.drop (fN - 1)).take (fN + jN - (fN - 1))).length ≤ 14 ∧ ((s.master.drop (fN - 1)).take (fN + jN - (fN - 1))).length ≤ s.master.length + 1 - fN := by
            rw [List.length_take, List.length_drop]
            omega
          have hR18 : RowsOk H18 ((s.master.drop (fN - 1)).take (fN + jN - (fN - 1))) := p18.1.rows.sub fun r hr => List.mem_of_mem_drop (List.mem_of_mem_take hr)
          generalize (s.master.drop (fN - 1)).take (fN + jN - (fN - 1)) = lr at *
          have t19 := Same.new (o := .lst (lr.map Row.v)) hb7
          walk_at "vv"
          refine ⟨b7, _, rfl, .inl ⟨SqL.of upd_same, fun b8 hb8 => ?_⟩⟩
          have t20 := Same.new (o := .tup (lr.map Row.v)) hb8
          walk_at "vv"
          refine ⟨by show 6 ≤ sizeLine; decide, fun zl hzl2 => ?_⟩
          have t1920 := Same.trans t19 t20
          refine h _ zl (.rows num _ fN lr b8) ⟨upd_same, (Same.new hzl2) _ _ upd_same, hR18.to (Tups.ofSame (Same.trans t1920 (Same.new hzl2)))⟩ ⟨hnum, zz1, fN1, by show lr.length ≤ 100; omega⟩ (p18.2.2.2.trans (Fr.ofSame (Same.trans t1920 (Same.new hzl2)))) (fun _ _ _ _ _ q => by injection q with _ _ e3 e4 _; rw [← e3, ← e4]; exact lrows.2)
        · refine n_iF (decide_eq_false cj) ?_
          obtain ⟨fN, ef, fN1⟩ : ∃ fN : Nat, 1 + r = (fN : Int) ∧ 1 ≤ fN := ⟨(1 + r).toNat, by omega, by omega⟩
          rw [ef]
          have pF := p15
          have hsF : Src H15 a (n + 20) := hs15.mono (by omega)
          clear p15 hs15
          walk_at "vv"
          refine ⟨_, _, rfl, dg pF.1.ob wF_master, ?_⟩
          walk_at "vv"
          refine ⟨a, n + 20, 14, rfl, hsF, by omega, by decide, by decide, fun H18 jj jj0 jj1 hs18 f18 => ?_⟩
          have p18 := step hsF pF f18
          walk_at "vv"
          refine ⟨x.ms, _, rfl, SqL.of p18.1.mst, fun b7 hb7 => ?_⟩
          obtain ⟨jN, rfl⟩ : ∃ jN : Nat, jj = (jN : Int) := ⟨jj.toNat, by omega⟩
          rw [show ((fN : Int) - 1) = ((fN - 1 : Nat) : Int) by omega, show ((fN : Int) + (jN : Int)) = ((fN + jN : Nat) : Int) by omega, cut_mid (by omega), ← List.map_drop, ← List.map_take]
          have lrows : ((s.master.drop (fN - 1)).take (fN + jN - (fN - 1))).length ≤ 14 ∧ ((s.master.drop (fN - 1)).take (fN + jN - (fN - 1))).length ≤ s.master.length + 1 - fN := by
            rw [List.length_take, List.length_drop]
            omega
          have hR18 : RowsOk H18 ((s.master.drop (fN - 1)).take (fN + jN - (fN - 1))) := p18.1.rows.sub fun r hr => List.mem_of_mem_drop (List.mem_of_mem_take hr)
          generalize (s.master.drop (fN - 1)).take (fN + jN - (fN - 1)) = lr at *
          have t19 := Same.new (o := .lst (lr.map Row.v)) hb7
          walk_at "vv"
          refine ⟨b7, _, rfl, .inl ⟨SqL.of upd_same, fun b8 hb8 => ?_⟩⟩
          have t20 := Same.new (o := .tup (lr.map Row.v)) hb8
          walk_at "vv"
          refine ⟨by show 6 ≤ sizeLine; decide, fun zl hzl2 => ?_⟩
          have t1920 := Same.trans t19 t20
          refine h _ zl (.rows num _ fN lr b8) ⟨upd_same, (Same.new hzl2) _ _ upd_same, hR18.to (Tups.ofSame (Same.trans t1920 (Same.new hzl2)))⟩ ⟨hnum, zz1, fN1, by show lr.length ≤ 100; omega⟩ (p18.2.2.2.trans (Fr.ofSame (Same.trans t1920 (Same.new hzl2)))) (fun _ _ _ _ _ q => by injection q with _ _ e3 e4 _; rw [← e3, ← e4]; exact lrows.2)
      · refine n_iF (decide_eq_false fun z => c0 (by injection z)) ?_
        walk_at "vv"
        by_cases c1 : kind = 1
        · refine n_iT (by rw [c1]; rfl) ?_
          walk_at "vv"
          refine ⟨a, n + 10, 7, rfl, hsR, by omega, by decide, by decide, fun H14 r r0 r1 hs14 f14 => ?_⟩
          have p14 := step hsR pR f14
          walk_at "vv"
          refine ⟨a, n + 11, (g.log.length : Int) + 3, rfl, hs14, by omega, by omega, by omega, fun H15 j j0 j1 hs15 f15 => ?_⟩
          have p15 := step hs14 p14 f15
          walk_at "vv"
          refine n_I (by show CPow 10 30; exact ⟨by decide, by decide, by decide⟩) ?_
          walk_at "vv"
          refine .inr ⟨_, rfl, ?_⟩
          refine n_I (.inr (by split <;> decide)) ?_
          walk_at "vv"
          refine ⟨by show 5 ≤ sizeLine; decide, fun zl hzl2 => ?_⟩
          refine h _ zl (.told num _ _) ⟨upd_same, trivial⟩ ⟨hnum, zz1, ?_⟩ (p15.2.2.2.trans (Fr.ofSame (Same.new hzl2))) (fun _ _ _ _ _ q => by cases q)
          show 0 ≤ j + 10 ^ (30 : Int).toNat * _
          split
          · have : (0 : Int) ≤ 10 ^ (30 : Int).toNat * 1 := by decide
            omega
          · omega
        · refine n_iF (decide_eq_false fun z => c1 (by injection z)) ?_
          walk_at "vv"
          refine ⟨_, _, rfl, dg pR.1.ob wF_asks, ?_⟩
          walk_at "vv"
          refine ⟨a, n + 10, s.asks + 3, rfl, hsR, by omega, by omega, by omega, fun H14 r r0 r1 hs14 f14 => ?_⟩
          have p14 := step hsR pR f14
          walk_at "vv"
          by_cases c2 : kind = 2
          · refine n_iT (by rw [c2]; rfl) ?_
            walk_at "vv"
            refine ⟨by show 5 ≤ sizeLine; decide, fun zl hzl2 => ?_⟩
            exact h _ zl (.which num _ (1 + r)) ⟨upd_same, trivial⟩ ⟨hnum, zz1, by show 1 ≤ 1 + r; omega⟩ (p14.2.2.2.trans (Fr.ofSame (Same.new hzl2))) (fun _ _ _ _ _ q => by cases q)
          · refine n_iF (decide_eq_false fun z => c2 (by injection z)) ?_
            walk_at "vv"
            refine ⟨a, n + 11, (g.log.length : Int) + 2, rfl, hs14, by omega, by omega, by omega, fun H15 j j0 j1 hs15 f15 => ?_⟩
            have p15 := step hs14 p14 f15
            walk_at "vv"
            refine ⟨by show 6 ≤ sizeLine; decide, fun zl hzl2 => ?_⟩
            exact h _ zl (.that num _ (1 + r) j) ⟨upd_same, trivial⟩ ⟨hnum, zz1, by show 1 ≤ 1 + r; omega, j0⟩ (p15.2.2.2.trans (Fr.ofSame (Same.new hzl2))) (fun _ _ _ _ _ q => by cases q)
end
end Ck

namespace Ck
open PySem PySem.Spec PyProof.Rows L2
local macro_rules | `(tactic| walk_at "v") => `(tactic| (first | with_reducible refine n_seq ?_ | with_reducible refine n_ifs ?_ | with_reducible refine n_asg ?_ | with_reducible refine n_name ?_ | with_reducible refine n_ret ?_ | with_reducible refine n_drop ?_ | with_reducible refine n_next ?_ | ((with_reducible refine' n_var ?e ?_); (case e => rfl)) | with_reducible refine n_c ?_ | with_reducible refine n_op ?_ | with_reducible refine n_un ?_ | with_reducible refine n_test ?_ | with_reducible refine n_B ?_ | with_reducible refine n_ex ?_ | with_reducible refine n_and ?_ | with_reducible refine n_or ?_ | with_reducible refine n_not ?_ | with_reducible refine n_andV ?_ | with_reducible refine n_orV ?_ | with_reducible refine n_notV ?_ | with_reducible refine n_cons ?_ | with_reducible refine n_nil ?_ | with_reducible refine n_cb ?_ | with_reducible refine n_call ?_ | with_reducible refine n_I0 ?_ | with_reducible refine n_tup ?_ | with_reducible refine n_lst ?_ | with_reducible refine n_sl ?_ | with_reducible refine n_part ?_ | with_reducible refine n_nopart ?_ | with_reducible refine n_exI ?_ | with_reducible refine n_chain ?_ | with_reducible refine n_dget ?_ | with_reducible refine n_meth ?_ | with_reducible refine n_bm ?_ | with_reducible refine n_bm0 ?_ | with_reducible refine n_sfld ?_ | with_reducible refine n_fld ?_ | with_reducible refine n_for ?_ | with_reducible refine n_dpop1 ?_ | with_reducible refine n_din ?_ | with_reducible refine n_dnotin ?_ | with_reducible refine n_dput ?_ | with_reducible refine n_nn ?_ | with_reducible refine n_rU ?_ | with_reducible refine n_lss ?_ | with_reducible refine n_kget ?_ | with_reducible refine n_iL ?_ | with_reducible refine n_iE ?_ | with_reducible refine n_iR ?_ | with_reducible refine n_lc ?_ | with_reducible refine n_lcT ?_ | with_reducible refine n_lcS ?_ | with_reducible refine n_gTup ?_ | with_reducible refine n_gCons ?_ | with_reducible refine n_gNil ?_ | ((with_reducible refine n_eq ?e ?_); (case e => rfl)) | ((with_reducible refine n_ne ?e ?_); (case e => rfl)) | ((with_reducible refine n_iT ?e ?_); (case e => rfl)) | ((with_reducible refine n_iF ?e ?_); (case e => rfl))))
local macro_rules | `(tactic| walk_at "vv") => `(tactic| repeat walk_at "v")
/-- o.m(e, ..) of a method that may raise -/
def tMethX (C : Addr) (m : Str) (sp : Sp) (E : L2.St → XK) (ta : TE) (t : TA) : TE := fun σ H Q => ta σ H fun x H1 => ∃ a dx fs, x = .ref a ∧ H1 a = some (.ins C dx fs) ∧ fs.lookup m = none ∧ t σ H1 fun vs H2 => sp (x :: vs) H2 Q (E σ)
theorem n_methX {C : Addr} {m : Str} {sp : Sp} {E : L2.St → XK} {ta : TE} {tr : TA} {σ : L2.St} {H : Hp} {Q : VK} (h : ta σ H fun x H1 => ∃ a dx fs, x = .ref a ∧ H1 a = some (.ins C dx fs) ∧ fs.lookup m = none ∧ tr σ H1 fun vs H2 => sp (x :: vs) H2 Q (E σ)) : tMethX C m sp E ta tr σ H Q := h
section
variable {X : Cx} {k j : Nat} {C : Addr} {x m : Str} {sp : Sp} {p pos apos : Pos} {e o : Expr} {es : List Expr} {ta : TE} {t : TA} {E : L2.St → XK}
theorem pmS {pl : Sem Bool} (c : MetX X.prog X.w X.K X.mg X.base k C m sp) (hr : Room j X.A) (hk : k ≤ j) (he : PE X o ta) (hx : ∀ σ, PassesAt (L2.CX X.prog X.w) X σ (E σ)) (ha : PA X (e :: es) t)
    (hst : starEach (e :: es) X.env = (false, eval e X.env) :: starEach es X.env := by rfl) (hpl : (backTo pos (starEach es X.env)).any (·.1) = false := by rfl)
    (ht : eval (.Call (.Attribute o m apos) (e :: es) [] pos) X.env = (do
      let ov ← eval o X.env
      standAt apos.atName
      let (f, first) ← holding [ov] (getMethod ov m pl)
      callWith pos f first (backTo pos (starEach (e :: es) X.env)) (backToKw pos (keywordEach [] X.env))) := by rfl) :
    PE X (.Call (.Attribute o m apos) (e :: es) [] pos) (tMethX C m sp E ta t) := by
  obtain ⟨f, fd, ps, hm, F, b⟩ := c.ex
  refine ⟨fun pins s σ H Q I h => ?_⟩
  refine PySem.W.methodCall_KW (pl := pl) (thn (he.run pins s σ H _ I h) fun u s1 ⟨x, H1, I1, rx, a, dx, fs, ex, ea, l, q⟩ => ?_) ht
  subst ex
  obtain rfl : u = Value.ref a := rx
  refine getmeth_ok I1 ea c.cl hm l ?_
  refine PySem.W.callWith_K (first := [.ref a]) (h₀ := X.base) I.ok.mod.kin hm.kp (thn (ha.run pos pins s1 σ H1 _ I1 q) fun us s2 ⟨vs, H2, I2, r, q2⟩ => ⟨I2.kIn, ?_⟩) hst hpl
  exact run_fnS (us := .ref a :: us) (vs := .ref a :: vs) F (hr.mono hk) b (hx σ) I2 (.cons rfl r) q2
end
def sp_l_said (A : Ad) : Sp := fun vs H Q _ => (∃ (x : HX) (s : HS) (r : Row) (z : Str), vs = [.ref x.p, .int 0, .ref r.ad, .str z] ∧ HA A H x s ∧ s.Ok ∧ RowAt H r ∧ r.Ok ∧ s.log.length < 150 ∧ match put s r with
  | none => ∀ H', Same H H' → Q (.str "head") H'
  | some q => HDone A H x Q q) ∨
  ∃ (x : HX) (s : HS) (k : Int) (key : Str), vs = [.ref x.p, .int 1, .int k, .str key] ∧ HA A H x s ∧ s.Ok ∧ 1 ≤ k ∧ NameOk key ∧ match rd s k key with
  | .ask => ∀ H', Same H H' → Q (.str "ask") H'
  | .ready => ∀ H', Same H H' → Q (.str "ready") H'
  | .ok q => HDone A H x Q q
/-- the suite, for an error of the class at E0 -/
def tSu (K : PySem.W.Frag) (A : Ad) (E0 a : Addr) : TS :=
  tSeq (tAsg (tLst (tCons (tCB (rIsE K E0 a) (tCons (tVar 7) (tCons (tC (.ref A.EH)) tNil))) (tCons (tCB (rIsE K E0 a) (tCons (tVar 7) (tCons (tC (.ref A.EA)) tNil))) (tCons (tCB (rIsE K E0 a) (tCons (tVar 7) (tCons (tC (.ref A.ER)) tNil))) tNil)))) (gName 6))
    (tSeq (tAsg (tC (.str "other")) (gName 5))
      (tIfS (tTest (tOp rEq (tBM K "list" (rCntB K) (tVar 6) (tCons (tC (.bl true)) tNil)) (tC (.int 1))))
        (tAsg (tOp (rIxL K) (tLst (tCons (tC (.str "head")) (tCons (tC (.str "ask")) (tCons (tC (.str "ready")) tNil)))) (tBM K "list" (rIndex K) (tVar 6) (tCons (tC (.bl true)) tNil))) (gName 5)) tNext))
theorem su_ok {K : PySem.W.Frag} {A : Ad} {E0 a : Addr} {b1 b2 b3 : Bool} {i : Nat} {wd : Str} {v0 v1 v2 v3 v4 v5 : V} {o6 : Option V} {D : Ends} {H : Hp} (k1 : PySem.W.kitOne K (.ref E0) (.ref A.EH) = some b1) (k2 : PySem.W.kitOne K (.ref E0) (.ref A.EA) = some b2) (k3 : PySem.W.kitOne K (.ref E0) (.ref A.ER) = some b3)
    (hc : ([b1, b2, b3] : List Bool).count true = 1) (hi : ([b1, b2, b3] : List Bool)[i]? = some true) (hj : ∀ m z, m < i → ([b1, b2, b3].map V.bl)[m]? = some z → eqV z (V.bl true) = false) (hw : ([("head" : Str), "ask", "ready"])[i]? = some wd)
    (k : ∀ H2 p, Same H H2 → D.nx [some v0, some v1, some v2, some v3, some v4, some (.str wd), some (.ref p), some (.ref a)] H2) :
    tSu K A E0 a D [some v0, some v1, some v2, some v3, some v4, some v5, o6, some (.ref a)] H := by
  unfold tSu
  walk_at "vv"
  refine ⟨.ref A.EH, .ref A.EH, b1, rfl, fun u h => h, k1, ?_⟩
  walk_at "vv"
  refine ⟨.ref A.EA, .ref A.EA, b2, rfl, fun u h => h, k2, ?_⟩
  walk_at "vv"
  refine ⟨.ref A.ER, .ref A.ER, b3, rfl, fun u h => h, k3, ?_⟩
  walk_at "vv"
  refine ⟨by show 3 ≤ sizeLine; decide, fun p hp => ?_⟩
  have t1 := Same.new (o := .lst ([b1, b2, b3].map V.bl)) hp
  have kp := upd_same (H := H) (a := p) (o := .lst ([b1, b2, b3].map V.bl))
  walk_at "vv"
  refine ⟨n_lty kp, ?_⟩
  walk_at "vv"
  refine ⟨p, [b1, b2, b3], true, rfl, rfl, SqL.of kp, ?_⟩
  rw [hc]
  walk_at "vv"
  refine ⟨by show 3 ≤ sizeLine; decide, fun q hq => ?_⟩
  have t2 := Same.new (o := .lst ([("head" : Str), "ask", "ready"].map V.str)) hq
  have kq := upd_same (H := upd H p (.lst ([b1, b2, b3].map V.bl))) (a := q) (o := .lst ([("head" : Str), "ask", "ready"].map V.str))
  have kp2 := t2 _ _ kp
  walk_at "vv"
  refine ⟨n_lty kp2, ?_⟩
  walk_at "vv"
  refine ⟨p, [b1, b2, b3].map V.bl, .bl true, i, .bl true, rfl, rfl, SqL.of kp2, rfl, rfl, by rw [List.getElem?_map, hi]; rfl, rfl, hj, ?_⟩
  refine n_ixL (SqL.of kq) (at_of (j := i) (v := .str wd) rfl (by rw [List.getElem?_map, hw]; rfl)) ?_
  walk_at "vv"
  exact k _ p (Same.trans t1 t2)
section
variable {P : Program} {w : World} {K : PySem.W.Frag} {mg : Str → Option Value} {base : Heap} {A : Ad}
theorem ok_l_said (T : Txt w K mg A) (D : GD K mg "_law_said" s_l_said) (x_H_write : MetX P w K mg base 5 A.CH "write" (sp_H_write A)) (x_H_read : MetX P w K mg base 3 A.CH "read" (sp_H_read A)) : Cal P w K mg base 6 "_law_said" (sp_l_said A) := by
  have S := sc_l_said.sc
  refine cal_mk D sc_l_said (fun vs H Q E h => by
    rcases h with ⟨x, s, r, z, rfl, _⟩ | ⟨x, s, k, key, rfl, _⟩
    · rfl
    · rfl) fun f0 cdv A0 outer s0 H vs Q E hr h => ?_
  refine ⟨_,
    (pss_cons (ps_set (i := 4) S.nd rfl (Or.inl rfl) pe_non)
      (pss_cons (ps_set (i := 5) S.nd rfl (Or.inl rfl) pe_str)
      (pss_cons (ps_try_as (i := 7) (tb := fun W => tIfS (tTest (tOp rEq (tVar 1) (tC (.int 0)))) (tAsg (tMethX A.CH "write" (sp_H_write A) (WE W) (tVar 0) (tCons (tVar 2) tNil)) (gName 4)) (tAsg (tMethX A.CH "read" (sp_H_read A) (WE W) (tVar 0) (tCons (tVar 2) (tCons (tVar 3) tNil))) (gName 4)))
        (ts := fun a cls d D σ H => ∃ E0, ExcC K E0 ∧ cls = .ref E0 ∧ d = none ∧ tSu K A E0 a D σ H) (Wout := fun _ _ _ _ => False) rfl rfl S.nd rfl rfl ⟨rfl, by decide, Or.inl T.g_CE⟩ takes0
        (fun W pn xe tk _ => (pss_one (ps_if (pt_cmpR op_eq (pv 1) pe_int (nomark _))
          (pss_one (ps_set (i := 4) S.nd rfl (Or.inl rfl) (by exact pmS x_H_write hr (by decide) (pv 0) (fun σ => passAt tk σ) (pa_cons (pv 2) pa_nil))))
          (pss_one (ps_set (i := 4) S.nd rfl (Or.inl rfl) (by exact pmS x_H_read hr (by decide) (pv 0) (fun σ => passAt tk σ) (pa_cons (pv 2) (pa_cons (pv 3) pa_nil))))))))
        (fun a oe cls d pn hz hf => ⟨fun pins s σ H D I h => by
          obtain ⟨E0, xc, rfl, rfl, h⟩ := h
          refine PSs.run (t := tSu K A E0 a) ?_ pins s σ H D I h
          exact (pss_cons (ps_set (i := 6) S.nd rfl (Or.inl rfl) (pe_lst (pa_cons (pe_callB (call_isE xc hz hf) (by rfl) T.b_isinstance (by decide +kernel) (pa_cons (pv 7) (pa_cons (pgl T.x_NotHead rfl) pa_nil))) (pa_cons (pe_callB (call_isE xc hz hf) (by rfl) T.b_isinstance (by decide +kernel) (pa_cons (pv 7) (pa_cons (pgl T.x_NoAsk rfl) pa_nil))) (pa_cons (pe_callB (call_isE xc hz hf) (by rfl) T.b_isinstance (by decide +kernel) (pa_cons (pv 7) (pa_cons (pgl T.x_NotReady rfl) pa_nil))) pa_nil)))))
            (pss_cons (ps_set (i := 5) S.nd rfl (Or.inl rfl) pe_str)
            (pss_one (ps_if (pt_cmpR op_eq (pe_bm PySem.F.plainAttrs_list PySem.F.slot_list_count PySem.F.type_list_count mt_countB (pv 6) (pa_cons pe_bl pa_nil)) pe_int (nomark _))
              (pss_one (ps_set (i := 5) S.nd rfl (Or.inl rfl) (pe_ix ix_list (pe_lst (pa_cons pe_str (pa_cons pe_str (pa_cons pe_str pa_nil)))) (pe_bm PySem.F.plainAttrs_list PySem.F.slot_list_index PySem.F.type_list_index mt_index (pv 6) (pa_cons pe_bl pa_nil)) (fun _ _ => rfl))))
              pss_nil))))⟩))
      (pss_cons (ps_if (pt_cmpR op_eq (pv 5) pe_str (nomark _))
        (pss_one (ps_ret (pv 4)))
        pss_nil)
      (pss_one (ps_ret (pv 5)))))))
    , ?_⟩
  rcases h with ⟨x, s, r, z, rfl, ha, ok, rat, okr, few, hd⟩ | ⟨x, s, k, key, rfl, ha, ok, hk, okk, hd⟩
  · obtain ⟨dx, hp⟩ := ha.ob
    walk_at "vv"
    refine n_methX ?_
    walk_at "vv"
    refine ⟨x.p, _, _, rfl, hp, hF_no (by decide +kernel), ?_⟩
    walk_at "vv"
    refine ⟨x, s, r, rfl, ha, ok, rat, okr, few, ?_⟩
    cases hput : put s r with
    | none =>
      rw [hput] at hd
      intro H' s1
      refine ⟨true, T.mHC, fun _ a fa => ⟨A.EH, T.e_NotHead.c, rfl, rfl, ?_⟩, fun z => by cases z⟩
      refine su_ok (i := 0) (wd := "head") T.kHH T.kHA T.kHR (by decide) rfl (fun m z hm => absurd hm (Nat.not_lt_zero m)) rfl fun H2 p s2 => ?_
      walk_at "vv"
      exact hd H2 (Same.trans s1 s2)
    | some q =>
      rw [hput] at hd
      intro H' v x' e1 e2 e3 e4 e5 h1 h2 h3
      walk_at "vv"
      exact hd H' v x' e1 e2 e3 e4 e5 h1 h2 h3
  · obtain ⟨dx, hp⟩ := ha.ob
    walk_at "vv"
    refine n_methX ?_
    walk_at "vv"
    refine ⟨x.p, _, _, rfl, hp, hF_no (by decide +kernel), ?_⟩
    walk_at "vv"
    refine ⟨x, s, k, key, rfl, ha, ok, hk, okk, ?_⟩
    cases hrd : rd s k key with
    | ask =>
      rw [hrd] at hd
      intro H' s1
      refine ⟨true, T.mAC, fun _ a fa => ⟨A.EA, T.e_NoAsk.c, rfl, rfl, ?_⟩, fun z => by cases z⟩
      refine su_ok (i := 1) (wd := "ask") T.kAH T.kAA T.kAR (by decide) rfl (fun m z hm e => ?_) rfl fun H2 p s2 => ?_
      · have : m = 0 := by omega
        rw [this] at e
        rw [← Option.some.inj e]
        rfl
      walk_at "vv"
      exact hd H2 (Same.trans s1 s2)
    | ready =>
      rw [hrd] at hd
      intro H' s1
      refine ⟨true, T.mRC, fun _ a fa => ⟨A.ER, T.e_NotReady.c, rfl, rfl, ?_⟩, fun z => by cases z⟩
      refine su_ok (i := 2) (wd := "ready") T.kRH T.kRA T.kRR (by decide) rfl (fun m z hm e => ?_) rfl fun H2 p s2 => ?_
      · have : m = 0 ∨ m = 1 := by omega
        rcases this with q | q
        · rw [q] at e
          rw [← Option.some.inj e]
          rfl
        · rw [q] at e
          rw [← Option.some.inj e]
          rfl
      walk_at "vv"
      exact hd H2 (Same.trans s1 s2)
    | ok q =>
      rw [hrd] at hd
      intro H' v x' e1 e2 e3 e4 e5 h1 h2 h3
      walk_at "vv"
      exact hd H' v x' e1 e2 e3 e4 e5 h1 h2 h3
end
end Ck

namespace Ck
open PySem PySem.Spec PyProof.Rows L2
local macro_rules | `(tactic| walk_at "v") => `(tactic| (first | with_reducible refine n_seq ?_ | with_reducible refine n_ifs ?_ | with_reducible refine n_asg ?_ | with_reducible refine n_name ?_ | with_reducible refine n_ret ?_ | with_reducible refine n_drop ?_ | with_reducible refine n_next ?_ | ((with_reducible refine' n_var ?e ?_); (case e => rfl)) | with_reducible refine n_c ?_ | with_reducible refine n_op ?_ | with_reducible refine n_un ?_ | with_reducible refine n_test ?_ | with_reducible refine n_B ?_ | with_reducible refine n_ex ?_ | with_reducible refine n_and ?_ | with_reducible refine n_or ?_ | with_reducible refine n_not ?_ | with_reducible refine n_andV ?_ | with_reducible refine n_orV ?_ | with_reducible refine n_notV ?_ | with_reducible refine n_cons ?_ | with_reducible refine n_nil ?_ | with_reducible refine n_cb ?_ | with_reducible refine n_call ?_ | with_reducible refine n_I0 ?_ | with_reducible refine n_tup ?_ | with_reducible refine n_lst ?_ | with_reducible refine n_sl ?_ | with_reducible refine n_part ?_ | with_reducible refine n_nopart ?_ | with_reducible refine n_exI ?_ | with_reducible refine n_chain ?_ | with_reducible refine n_dget ?_ | with_reducible refine n_meth ?_ | with_reducible refine n_bm ?_ | with_reducible refine n_bm0 ?_ | with_reducible refine n_sfld ?_ | with_reducible refine n_fld ?_ | with_reducible refine n_for ?_ | with_reducible refine n_dpop1 ?_ | with_reducible refine n_din ?_ | with_reducible refine n_dnotin ?_ | with_reducible refine n_dput ?_ | with_reducible refine n_nn ?_ | with_reducible refine n_rU ?_ | with_reducible refine n_lss ?_ | with_reducible refine n_kget ?_ | with_reducible refine n_iL ?_ | with_reducible refine n_iE ?_ | with_reducible refine n_iR ?_ | with_reducible refine n_lc ?_ | with_reducible refine n_lcT ?_ | with_reducible refine n_lcS ?_ | with_reducible refine n_gTup ?_ | with_reducible refine n_gCons ?_ | with_reducible refine n_gNil ?_ | ((with_reducible refine n_eq ?e ?_); (case e => rfl)) | ((with_reducible refine n_ne ?e ?_); (case e => rfl)) | ((with_reducible refine n_iT ?e ?_); (case e => rfl)) | ((with_reducible refine n_iF ?e ?_); (case e => rfl))))
local macro_rules | `(tactic| walk_at "vv") => `(tactic| repeat walk_at "v")
section
variable {A : Ad} {H H1 H2 H3 : Hp} {x x1 : HX} {y y1 : MX} {z z1 : WX} {s s1 : HS} {ws ws1 : WS} {t t1 : Nat} {v1 v2 : V} {T L : List PyData}
theorem MX.eq {y y1 : MX} (d1 : y1.m = y.m) (d2 : y1.l = y.l) (d3 : y1.d = y.d) (d4 : y1.ct = y.ct) (d5 : y1.cl = y.cl) : y1 = y := by
  cases y
  cases y1
  simp only at d1 d2 d3 d4 d5
  rw [d1, d2, d3, d4, d5]
theorem Two.master {ms2 : Addr} (tw : Two A H H2 (S9 x y z) x1 y1 z s1 ws t1 v1 v2 T L) (h2 : H2 ms2 = none) :
    Two A H (upd (upd H2 ms2 (.lst (s1.log.map Row.v))) z.w (.dK (wF ws { z with ms := ms2 }))) (S9 x y z) x1 y1 { z with ms := ms2 } s1 { ws with master := s1.log } t1 v1 v2 T L := by
  obtain ⟨al, ⟨t, a, b, t', a', b', rfl, rfl, k1, k2, k3, k4, k5, k6, nab, nq, fa, fb⟩, fr⟩ := tw
  have s3 : Same H2 (upd H2 ms2 (.lst (s1.log.map Row.v))) := Same.new h2
  have al3 := al.same s3
  have kms := upd_same (H := H2) (a := ms2) (o := .lst (s1.log.map Row.v))
  have n0 : x1.l ≠ ms2 := ne_of_none al.ha.lst h2
  have n00 : y1.l ≠ ms2 := ne_of_none al.ma.lst h2
  have n1 : ms2 ≠ z.ah := (ne_of_none al.wa.ahd h2).symm
  have n2 : ms2 ≠ z.be := (ne_of_none al.wa.bhd h2).symm
  have k2' := k2.same s3
  have k3' := k3.same s3
  have k5' := k5.same s3
  have k6' := k6.same s3
  have k1' := s3 _ _ k1
  have k4' := s3 _ _ k4
  have nams : a ≠ ms2 := by obtain ⟨xs, e, _⟩ := k2; exact ne_of_none e h2
  have nbms : b ≠ ms2 := by obtain ⟨xs, e, _⟩ := k3; exact ne_of_none e h2
  have fr3 := fr.trans (Fr.ofSame s3)
  generalize upd H2 ms2 (.lst (s1.log.map Row.v)) = H3 at *
  have wa4 := al3.wa.setM kms al3.ma.rows n1 n2
  have f4 : Fr [z.w] H3 (upd H3 z.w (.dK (wF ws { z with ms := ms2 }))) := Fr.upd (Fr.refl _) (by simp)
  have ha4 := keep_hz al3.ha al3.wa f4
  have ma4 := keep_mz al3.ma al3.wa f4
  have nt : NT H3 [z.w] := NT.cons al3.wa.ob (by intro ys q; cases q) NT.nil
  have tu := Fr.tups f4 nt
  have nl : ∀ {p : Addr} {T : List PyData}, LD H3 p T → LD (upd H3 z.w (.dK (wF ws { z with ms := ms2 }))) p T := fun {p T} h => h.to (upd_ne (by
    obtain ⟨xs, e, _⟩ := h
    exact ne_of e al3.wa.ob (by intro q; cases q))) tu
  have se := al.sep
  refine ⟨⟨ha4, ma4, wa4, al.at_, al.wok.masters al.at_.log, ⟨se.l, se.d, se.xa, se.xb, n0, se.ya, se.yb, n00, se.ha, se.hb, se.ca, se.cb⟩⟩, ⟨t, a, b, t', a', b', rfl, rfl, tu _ _ k1', nl k2', nl k3', tu _ _ k4', nl k5', nl k6', nab, ?_, fa, fb⟩, fr3.upd (by unfold S9; simp)⟩
  intro q m
  simp only [List.mem_cons, List.not_mem_nil, or_false] at m
  rcases m with e | e | e | e | e | e | e
  · rw [e]; exact nq _ (by simp)
  · rw [e]; exact nq _ (by simp)
  · rw [e]; exact nq _ (by simp)
  · rw [e]; exact nq _ (by simp)
  · rw [e]; exact nq _ (by simp)
  · rw [e]; exact nq _ (by simp)
  · rw [e]; exact ⟨nams, nbms⟩
end
section
variable {P : Program} {w : World} {K : PySem.W.Frag} {mg : Str → Option Value} {base : Heap} {A : Ad}
theorem ok_l_wrote (T : Txt w K mg A) (D : GD K mg "_law_wrote" s_l_wrote) (c_l_new_row : Cal P w K mg base 4 "_law_new_row" sp_l_new_row) (c_l_put : Cal P w K mg base 3 "_law_put" sp_l_put) (c_l_said : Cal P w K mg base 6 "_law_said" (sp_l_said A))
    (c_l_brought : Cal P w K mg base 1 "_law_brought" sp_l_brought) : Cal P w K mg base 7 "_law_wrote" (sp_l_wrote A) := by
  have S := sc_l_wrote.sc
  refine cal_mk D sc_l_wrote (fun vs H Q E h => by obtain ⟨a, n, x, y, z, s, ws, t, rfl, _⟩ := h; rfl) fun f0 cdv A0 outer s0 H vs Q E hr h => ?_
  obtain ⟨a, n, x, y, z, s, ws, t, rfl, hs, hn, al, ht, k⟩ := h
  refine ⟨_, (pss_cons (ps_set (i := 4) S.nd rfl (Or.inl rfl) (pc c_l_new_row hr (by decide) rfl (pa_cons (pv 0) (pa_cons (pv 3) pa_nil))))
        (pss_cons (ps_set (i := 5) S.nd rfl (Or.inl rfl) (pc c_l_put hr (by decide) rfl (pa_cons (pv 2) (pa_cons (pv 4) pa_nil))))
        (pss_cons (ps_set (i := 6) S.nd rfl (Or.inl rfl) (pc c_l_said hr (by decide) rfl (pa_cons (pv 1) (pa_cons pe_int (pa_cons (pv 4) (pa_cons pe_str pa_nil))))))
        (pss_cons (ps_if (PW.pt (pw_or (pt_val (pe_callB call_isi (by rfl) T.b_isinstance (by decide +kernel) (pa_cons (pv 5) (pa_cons (pe_bltn (v := .ty "str") (u := .type "str") rfl T.b_str (by decide +kernel) rfl) pa_nil)))) (pw_or1 (pt_val (pe_callB call_isi (by rfl) T.b_isinstance (by decide +kernel) (pa_cons (pv 6) (pa_cons (pe_bltn (v := .ty "str") (u := .type "str") rfl T.b_str (by decide +kernel) rfl) pa_nil)))))))
          (pss_one (ps_ret (pe_cmpR op_eq (pv 6) (pv 5) (nomark _))))
          pss_nil)
        (pss_cons (ps_dput (hu_of hr) (pv 3) pe_str (pe_callTy call_list_of (by rfl) T.b_list (by decide +kernel) (pa_cons (pe_dget (hu_of hr) (pv 2) pe_str (fun _ _ => rfl)) pa_nil)) rfl)
        (pss_one (ps_ret (pc c_l_brought hr (by decide) rfl (pa_cons (pv 6) (pa_cons (pv 5) pa_nil)))))))))), ?_⟩
  have hlog := al.at_.log
  have hmas := al.wok.mas
  walk_at "vv"
  refine ⟨a, n, z, ws, rfl, hs, hn, al.wa, by omega, (hs.ne2 al.wa.mst rows_ints).symm, fun H1 r ra ro hs1 f1 => ?_⟩
  have al1 := al.src hs f1
  walk_at "vv"
  refine ⟨y, s, r, rfl, al1.ma, al1.at_.ok, ra, ro, by omega, ?_⟩
  cases hput : put s r with
  | none =>
    intro H2 s2
    have al2 := al1.same s2
    walk_at "vv"
    refine .inl ⟨x, s, r, Str.ofString "", rfl, al2.ha, al2.at_.ok, s2 _ _ ra, ro, by omega, ?_⟩
    rw [hput]
    intro H3 s3
    have al3 := al2.same s3
    walk_at "vv"
    refine n_isi (.base (.str _)) (kit_ty (r := true) ?_) ?_
    · decide +kernel
    walk_at "vv"
    exact k H3 x y z s ws rfl rfl rfl ⟨al3.ha, al3.ma, al3.wa, al3.at_.mono (Nat.le_add_right _ _), al3.wok.up, al3.sep⟩ ((f1.mono fun q m => by rw [List.mem_singleton.mp m]; simp).trans (Fr.ofSame (Same.trans s2 s3)))
  | some q =>
    intro H2 v2 y1 d1 d2 d3 d4 d5 ma2 br2 f2
    obtain rfl := MX.eq d1 d2 d3 d4 d5
    have ha2 := keep_h al1.ha al1.ma al1.sep f2
    have nt1 : NT H1 [y1.m, y1.l, y1.d] := NT.cons al1.ma.ob (by intro ys q; cases q) (NT.cons al1.ma.lst (by intro ys q; cases q) (NT.cons al1.ma.asks (by intro ys q; cases q) NT.nil))
    have ra2 : RowAt H2 r := Fr.tups f2 nt1 _ _ ra
    walk_at "vv"
    refine .inl ⟨x, s, r, Str.ofString "", rfl, ha2, al1.at_.ok, ra2, ro, by omega, ?_⟩
    rw [hput]
    intro H3 v1 x1 e1 e2 e3 e4 e5 ha3 br f3
    have tw := two_mh al1 rfl rfl rfl rfl ma2 br2 f2 e1 e2 e3 e5 ha3 br f3 (put_at al1.at_ (by omega) hput) al1.wok.up
    have sh := put_sh al1.ma.rows.ok al1.at_.ok ro hput
    obtain ⟨p, u, u', p', u2, u2', rfl, rfl, hp, _, _, hp', _⟩ := tw.ex
    walk_at "vv"
    refine n_isi (.base (.tup hp')) (kit_ty (r := false) ?_) ?_
    · decide +kernel
    walk_at "vv"
    refine n_isi (.base (.tup hp)) (kit_ty (r := false) ?_) ?_
    · decide +kernel
    walk_at "vv"
    refine ⟨_, _, rfl, dg tw.all.ma.ob mF_log, ?_⟩
    walk_at "vv"
    refine ⟨y1.l, _, rfl, .inl (SqL.of tw.all.ma.lst), fun ms2 hms2 => ?_⟩
    have tw2 := tw.master hms2
    have ob := tw.all.wa.ob
    walk_at "vv"
    refine ⟨z.w, _, rfl, DPut.k (k := Sum.inr "master") (Same.new hms2 _ _ ob) (by show 6 < _; decide), ?_⟩
    rw [wput_master]
    walk_at "vv"
    refine tw2.brought sh.t.cmp sh.l.cmp fun H5 al5 f5 => ?_
    exact k H5 x1 y1 { z with ms := ms2 } _ _ e1 rfl rfl al5 ((f1.mono fun q m => by rw [List.mem_singleton.mp m]; simp).trans (f5.mono fun q m => List.mem_cons_of_mem _ m))
theorem fr_src {a : Addr} {S : List Addr} {H H1 : Hp} (f : Fr [a] H H1) : Fr (a :: S) H H1 := f.mono fun q m => by rw [List.mem_singleton.mp m]; simp
theorem ok_l_asked_one (T : Txt w K mg A) (D : GD K mg "_law_asked_one" s_l_asked_one) (c_l_next : Cal P w K mg base 1 "_law_next" sp_l_next) (c_l_read : Cal P w K mg base 2 "_law_read" sp_l_read) (c_l_said : Cal P w K mg base 6 "_law_said" (sp_l_said A))
    (c_l_brought : Cal P w K mg base 1 "_law_brought" sp_l_brought) : Cal P w K mg base 7 "_law_asked_one" (sp_l_asked_one A) := by
  have S := sc_l_asked_one.sc
  refine cal_mk D sc_l_asked_one (fun vs H Q E h => by obtain ⟨a, n, x, y, z, s, ws, t, rfl, _⟩ := h; rfl) fun f0 cdv A0 outer s0 H vs Q E hr h => ?_
  obtain ⟨a, n, x, y, z, s, ws, t, rfl, hs, hn, al, ht, k⟩ := h
  refine ⟨_, (pss_cons (ps_set (i := 4) S.nd rfl (Or.inl rfl) (pe_op op_add pe_int (pc c_l_next hr (by decide) rfl (pa_cons (pv 0) (pa_cons (pe_op op_add (pe_dget (hu_of hr) (pv 3) pe_str (fun _ _ => rfl)) pe_int) pa_nil)))))
        (pss_cons (ps_if (pt_cmpR op_gt (pc c_l_next hr (by decide) rfl (pa_cons (pv 0) (pa_cons pe_int pa_nil))) pe_int (nomark _))
          (pss_cons (ps_dput (hu_of hr) (pv 3) pe_str (pe_op op_add (pe_dget (hu_of hr) (pv 3) pe_str (fun _ _ => rfl)) pe_int) rfl)
          (pss_one (ps_set (i := 4) S.nd rfl (Or.inl rfl) (pe_dget (hu_of hr) (pv 3) pe_str (fun _ _ => rfl)))))
          pss_nil)
        (pss_cons (ps_set (i := 5) S.nd rfl (Or.inl rfl) (pe_ix ix_list (pe_lst (pa_cons pe_str (pa_cons pe_str (pa_cons pe_str (pa_cons pe_str pa_nil))))) (pc c_l_next hr (by decide) rfl (pa_cons (pv 0) (pa_cons pe_int pa_nil))) (fun _ _ => rfl)))
        (pss_cons (ps_set (i := 6) S.nd rfl (Or.inl rfl) (pc c_l_read hr (by decide) rfl (pa_cons (pv 2) (pa_cons (pv 4) (pa_cons (pv 5) pa_nil)))))
        (pss_cons (ps_set (i := 7) S.nd rfl (Or.inl rfl) (pc c_l_said hr (by decide) rfl (pa_cons (pv 1) (pa_cons pe_int (pa_cons (pv 4) (pa_cons (pv 5) pa_nil))))))
        (pss_cons (ps_if (PW.pt (pw_or (pt_val (pe_callB call_isi (by rfl) T.b_isinstance (by decide +kernel) (pa_cons (pv 6) (pa_cons (pe_bltn (v := .ty "str") (u := .type "str") rfl T.b_str (by decide +kernel) rfl) pa_nil)))) (pw_or1 (pt_val (pe_callB call_isi (by rfl) T.b_isinstance (by decide +kernel) (pa_cons (pv 7) (pa_cons (pe_bltn (v := .ty "str") (u := .type "str") rfl T.b_str (by decide +kernel) rfl) pa_nil)))))))
          (pss_one (ps_ret (pe_cmpR op_eq (pv 7) (pv 6) (nomark _))))
          pss_nil)
        (pss_one (ps_ret (pc c_l_brought hr (by decide) rfl (pa_cons (pv 7) (pa_cons (pv 6) pa_nil))))))))))), ?_⟩
  have hask := al.wok.asks
  have sat := al.at_
  walk_at "vv"
  refine ⟨_, _, rfl, dg al.wa.ob wF_asks, ?_⟩
  walk_at "vv"
  refine ⟨a, n, ws.asks + 1, rfl, hs, by omega, by omega, by omega, fun H1 r r0 r1 hs1 f1 => ?_⟩
  have al1 := al.src hs f1
  walk_at "vv"
  refine ⟨a, n + 1, 3, rfl, hs1, by omega, by decide, by decide, fun H2 j j0 j1 hs2 f2 => ?_⟩
  have al2 := al1.src hs1 f2
  have fr2 : Fr (a :: S9 x y z) H H2 := (fr_src f1).trans (fr_src f2)
  walk_at "vv"
  by_cases cj : j > 0
  · refine n_iT (decide_eq_true cj) ?_
    walk_at "vv"
    refine ⟨_, _, rfl, dg al2.wa.ob wF_asks, ?_⟩
    walk_at "vv"
    refine ⟨z.w, _, rfl, DPut.k (k := Sum.inr "asks") al2.wa.ob (by show 6 < _; decide), ?_⟩
    rw [wput_asks]
    have f3 : Fr [z.w] H2 (upd H2 z.w (.dK (wF ⟨ws.num, ws.more, ws.asks + 1, ws.A, ws.B, ws.master⟩ z))) := Fr.upd (Fr.refl _) (by simp)
    have wa3 := al2.wa.setF (s' := ⟨ws.num, ws.more, ws.asks + 1, ws.A, ws.B, ws.master⟩) rfl rfl rfl
    have wok3 : (⟨ws.num, ws.more, ws.asks + 1, ws.A, ws.B, ws.master⟩ : WS).Ok (t + 1) := by
      obtain ⟨h1, ⟨h2, h3⟩, ⟨h4, h5⟩, h6, h7, h8, h9⟩ := al.wok
      exact ⟨h1, ⟨h2, by show 2 * ws.more ≤ (ws.B.length : Int) + ((t + 1 : Nat) : Int); omega⟩, ⟨by show 0 ≤ ws.asks + 1; omega, by show ws.asks + 1 ≤ ((t + 1 : Nat) : Int); omega⟩, h6, h7, h8, by show ws.master.length ≤ 14 + (t + 1); omega⟩
    have alC : All A (upd H2 z.w (.dK (wF ⟨ws.num, ws.more, ws.asks + 1, ws.A, ws.B, ws.master⟩ z))) x y z s ⟨ws.num, ws.more, ws.asks + 1, ws.A, ws.B, ws.master⟩ (t + 1) :=
      ⟨keep_hz al2.ha al2.wa f3, keep_mz al2.ma al2.wa f3, wa3, sat.mono (Nat.le_add_right _ _), wok3, al2.sep⟩
    have hsC : Src (upd H2 z.w (.dK (wF ⟨ws.num, ws.more, ws.asks + 1, ws.A, ws.B, ws.master⟩ z))) a (n + 2) := hs2.upd (hs2.ne2 al2.wa.ob (by intro x y z q; cases q)).symm
    have frC : Fr (a :: S9 x y z) H (upd H2 z.w (.dK (wF ⟨ws.num, ws.more, ws.asks + 1, ws.A, ws.B, ws.master⟩ z))) := fr2.trans (f3.mono fun q m => by rw [List.mem_singleton.mp m]; unfold S9; simp)
    generalize upd H2 z.w (.dK (wF ⟨ws.num, ws.more, ws.asks + 1, ws.A, ws.B, ws.master⟩ z)) = HC at *
    walk_at "vv"
    refine ⟨_, _, rfl, dg alC.wa.ob wF_asks, ?_⟩
    have ask1 : 1 ≤ (⟨ws.num, ws.more, ws.asks + 1, ws.A, ws.B, ws.master⟩ : WS).asks := by
      show 1 ≤ ws.asks + 1
      omega
    generalize (⟨ws.num, ws.more, ws.asks + 1, ws.A, ws.B, ws.master⟩ : WS) = wsC at *
    generalize wsC.asks = ask at ask1 ⊢
    walk_at "vv"
    refine ⟨by show 4 ≤ sizeLine; decide, fun pk hpk => ?_⟩
    have t4 := Same.new (o := .lst ([("x" : Str), "y", "z", "ann"].map V.str)) hpk
    have kpk := upd_same (H := HC) (a := pk) (o := .lst ([("x" : Str), "y", "z", "ann"].map V.str))
    have alD := alC.same t4
    have hsD := hsC.same t4
    have frD := frC.trans (Fr.ofSame t4)
    have npk := hsC.new hpk
    walk_at "vv"
    refine ⟨a, n + 2, 4, rfl, hsD, by omega, by decide, by decide, fun HE i i0 i1 hsE fE => ?_⟩
    have alE := alD.src hsD fE
    have frE : Fr (a :: S9 x y z) H HE := frD.trans (fr_src fE)
    obtain ⟨key, hkey, ekey⟩ := nth_of V.str (xs := [("x" : Str), "y", "z", "ann"]) i0 (by show i < 4; exact i1)
    have okk : NameOk key := by
      have : [("x" : Str), "y", "z", "ann"].all nameB = true := by decide +kernel
      exact nameOk_of (List.all_eq_true.mp this key hkey)
    refine n_ixL (SqL.of (fE _ _ kpk npk)) ekey ?_
    walk_at "vv"
    refine ⟨y, s, ask, key, rfl, alE.ma, sat.ok, ?_⟩
    cases hrd : rd s ask key with
    | ask =>
      intro H5 s5
      have al5 := alE.same s5
      walk_at "vv"
      refine .inr ⟨x, s, ask, key, rfl, al5.ha, sat.ok, ask1, okk, ?_⟩
      rw [hrd]
      intro H6 s6
      have al6 := al5.same s6
      walk_at "vv"
      refine n_isi (.base (.str _)) (kit_ty (r := true) ?_) ?_
      · decide +kernel
      walk_at "vv"
      exact k H6 x y z s _ rfl rfl rfl al6 (frE.trans (Fr.ofSame (Same.trans s5 s6)))
    | ready =>
      intro H5 s5
      have al5 := alE.same s5
      walk_at "vv"
      refine .inr ⟨x, s, ask, key, rfl, al5.ha, sat.ok, ask1, okk, ?_⟩
      rw [hrd]
      intro H6 s6
      have al6 := al5.same s6
      walk_at "vv"
      refine n_isi (.base (.str _)) (kit_ty (r := true) ?_) ?_
      · decide +kernel
      walk_at "vv"
      exact k H6 x y z s _ rfl rfl rfl al6 (frE.trans (Fr.ofSame (Same.trans s5 s6)))
    | ok q =>
      intro H5 v2 y1 d1 d2 d3 d4 d5 ma5 br5 f5
      obtain rfl := MX.eq d1 d2 d3 d4 d5
      have ha5 := keep_h alE.ha alE.ma alE.sep f5
      walk_at "vv"
      refine .inr ⟨x, s, ask, key, rfl, ha5, sat.ok, ask1, okk, ?_⟩
      rw [hrd]
      intro H6 v1 x1 e1 e2 e3 e4 e5 ha6 br6 f6
      have tw := two_mh alE rfl rfl rfl rfl ma5 br5 f5 e1 e2 e3 e5 ha6 br6 f6 (rd_at sat (by omega) hrd) alE.wok
      have sh := rd_sh sat.ok hrd
      obtain ⟨p, u, u', p', u2, u2', rfl, rfl, hp, _, _, hp', _⟩ := tw.ex
      walk_at "vv"
      refine n_isi (.base (.tup hp')) (kit_ty (r := false) ?_) ?_
      · decide +kernel
      walk_at "vv"
      refine n_isi (.base (.tup hp)) (kit_ty (r := false) ?_) ?_
      · decide +kernel
      walk_at "vv"
      refine tw.brought sh.t.cmp sh.l.cmp fun H7 al7 f7 => ?_
      exact k H7 x1 y1 z _ _ e1 rfl rfl al7 (frE.trans (f7.mono fun q m => List.mem_cons_of_mem _ m))
  · refine n_iF (decide_eq_false cj) ?_
    have alC : All A H2 x y z s ws (t + 1) := ⟨al2.ha, al2.ma, al2.wa, sat.mono (Nat.le_add_right _ _), al2.wok.up, al2.sep⟩
    have hsC : Src H2 a (n + 2) := hs2
    have frC := fr2
    obtain ⟨HC, eC⟩ : ∃ HC, HC = H2 := ⟨_, rfl⟩
    rw [← eC] at alC hsC frC ⊢
    have ask1 : 1 ≤ 1 + r := by omega
    generalize 1 + r = ask at *
    walk_at "vv"
    refine ⟨by show 4 ≤ sizeLine; decide, fun pk hpk => ?_⟩
    have t4 := Same.new (o := .lst ([("x" : Str), "y", "z", "ann"].map V.str)) hpk
    have kpk := upd_same (H := HC) (a := pk) (o := .lst ([("x" : Str), "y", "z", "ann"].map V.str))
    have alD := alC.same t4
    have hsD := hsC.same t4
    have frD := frC.trans (Fr.ofSame t4)
    have npk := hsC.new hpk
    walk_at "vv"
    refine ⟨a, n + 2, 4, rfl, hsD, by omega, by decide, by decide, fun HE i i0 i1 hsE fE => ?_⟩
    have alE := alD.src hsD fE
    have frE : Fr (a :: S9 x y z) H HE := frD.trans (fr_src fE)
    obtain ⟨key, hkey, ekey⟩ := nth_of V.str (xs := [("x" : Str), "y", "z", "ann"]) i0 (by show i < 4; exact i1)
    have okk : NameOk key := by
      have : [("x" : Str), "y", "z", "ann"].all nameB = true := by decide +kernel
      exact nameOk_of (List.all_eq_true.mp this key hkey)
    refine n_ixL (SqL.of (fE _ _ kpk npk)) ekey ?_
    walk_at "vv"
    refine ⟨y, s, ask, key, rfl, alE.ma, sat.ok, ?_⟩
    cases hrd : rd s ask key with
    | ask =>
      intro H5 s5
      have al5 := alE.same s5
      walk_at "vv"
      refine .inr ⟨x, s, ask, key, rfl, al5.ha, sat.ok, ask1, okk, ?_⟩
      rw [hrd]
      intro H6 s6
      have al6 := al5.same s6
      walk_at "vv"
      refine n_isi (.base (.str _)) (kit_ty (r := true) ?_) ?_
      · decide +kernel
      walk_at "vv"
      exact k H6 x y z s _ rfl rfl rfl al6 (frE.trans (Fr.ofSame (Same.trans s5 s6)))
    | ready =>
      intro H5 s5
      have al5 := alE.same s5
      walk_at "vv"
      refine .inr ⟨x, s, ask, key, rfl, al5.ha, sat.ok, ask1, okk, ?_⟩
      rw [hrd]
      intro H6 s6
      have al6 := al5.same s6
      walk_at "vv"
      refine n_isi (.base (.str _)) (kit_ty (r := true) ?_) ?_
      · decide +kernel
      walk_at "vv"
      exact k H6 x y z s _ rfl rfl rfl al6 (frE.trans (Fr.ofSame (Same.trans s5 s6)))
    | ok q =>
      intro H5 v2 y1 d1 d2 d3 d4 d5 ma5 br5 f5
      obtain rfl := MX.eq d1 d2 d3 d4 d5
      have ha5 := keep_h alE.ha alE.ma alE.sep f5
      walk_at "vv"
      refine .inr ⟨x, s, ask, key, rfl, ha5, sat.ok, ask1, okk, ?_⟩
      rw [hrd]
      intro H6 v1 x1 e1 e2 e3 e4 e5 ha6 br6 f6
      have tw := two_mh alE rfl rfl rfl rfl ma5 br5 f5 e1 e2 e3 e5 ha6 br6 f6 (rd_at sat (by omega) hrd) alE.wok
      have sh := rd_sh sat.ok hrd
      obtain ⟨p, u, u', p', u2, u2', rfl, rfl, hp, _, _, hp', _⟩ := tw.ex
      walk_at "vv"
      refine n_isi (.base (.tup hp')) (kit_ty (r := false) ?_) ?_
      · decide +kernel
      walk_at "vv"
      refine n_isi (.base (.tup hp)) (kit_ty (r := false) ?_) ?_
      · decide +kernel
      walk_at "vv"
      refine tw.brought sh.t.cmp sh.l.cmp fun H7 al7 f7 => ?_
      exact k H7 x1 y1 z _ _ e1 rfl rfl al7 (frE.trans (f7.mono fun q m => List.mem_cons_of_mem _ m))
end
end Ck

namespace Ck
open PySem PySem.Spec PyProof.Rows L2
local macro_rules | `(tactic| walk_at "v") => `(tactic| (first | with_reducible refine n_seq ?_ | with_reducible refine n_ifs ?_ | with_reducible refine n_asg ?_ | with_reducible refine n_name ?_ | with_reducible refine n_ret ?_ | with_reducible refine n_drop ?_ | with_reducible refine n_next ?_ | ((with_reducible refine' n_var ?e ?_); (case e => rfl)) | with_reducible refine n_c ?_ | with_reducible refine n_op ?_ | with_reducible refine n_un ?_ | with_reducible refine n_test ?_ | with_reducible refine n_B ?_ | with_reducible refine n_ex ?_ | with_reducible refine n_and ?_ | with_reducible refine n_or ?_ | with_reducible refine n_not ?_ | with_reducible refine n_andV ?_ | with_reducible refine n_orV ?_ | with_reducible refine n_notV ?_ | with_reducible refine n_cons ?_ | with_reducible refine n_nil ?_ | with_reducible refine n_cb ?_ | with_reducible refine n_call ?_ | with_reducible refine n_I0 ?_ | with_reducible refine n_tup ?_ | with_reducible refine n_lst ?_ | with_reducible refine n_sl ?_ | with_reducible refine n_part ?_ | with_reducible refine n_nopart ?_ | with_reducible refine n_exI ?_ | with_reducible refine n_chain ?_ | with_reducible refine n_dget ?_ | with_reducible refine n_meth ?_ | with_reducible refine n_bm ?_ | with_reducible refine n_bm0 ?_ | with_reducible refine n_sfld ?_ | with_reducible refine n_fld ?_ | with_reducible refine n_for ?_ | with_reducible refine n_dpop1 ?_ | with_reducible refine n_din ?_ | with_reducible refine n_dnotin ?_ | with_reducible refine n_dput ?_ | with_reducible refine n_nn ?_ | with_reducible refine n_rU ?_ | with_reducible refine n_lss ?_ | with_reducible refine n_kget ?_ | with_reducible refine n_iL ?_ | with_reducible refine n_iE ?_ | with_reducible refine n_iR ?_ | with_reducible refine n_lc ?_ | with_reducible refine n_lcT ?_ | with_reducible refine n_lcS ?_ | with_reducible refine n_gTup ?_ | with_reducible refine n_gCons ?_ | with_reducible refine n_gNil ?_ | ((with_reducible refine n_eq ?e ?_); (case e => rfl)) | ((with_reducible refine n_ne ?e ?_); (case e => rfl)) | ((with_reducible refine n_iT ?e ?_); (case e => rfl)) | ((with_reducible refine n_iF ?e ?_); (case e => rfl))))
local macro_rules | `(tactic| walk_at "vv") => `(tactic| repeat walk_at "v")
section
variable {P : Program} {w : World} {K : PySem.W.Frag} {mg : Str → Option Value} {base : Heap} {A : Ad}
theorem max1x (q : Int) : ∃ num : Int, 1 ≤ num ∧ num = (if q > 1 then q else 1) := by
  refine ⟨_, ?_, rfl⟩
  split
  · omega
  · exact Int.le_refl 1
theorem n_make {C : Addr} {sp : Sp} {dvs : List V} {E : XK} {tr : TA} {σ : L2.St} {H : Hp} {Q : VK} (h : tr σ H fun vs H1 => ∀ x dx, H1 x = none → H1 dx = none → dx ≠ x → sp (.ref x :: (vs ++ dvs)) (upd (upd H1 dx (.own x)) x (.ins C dx [])) (fun v H2 => v = .non ∧ Q (.ref x) H2) E) : tMake C sp dvs E tr σ H Q := h
theorem ok_l_deed (T : Txt w K mg A) (D : GD K mg "_law_deed" s_l_deed) (c_l_next : Cal P w K mg base 1 "_law_next" sp_l_next) (c_l_changed : Cal P w K mg base 2 "_law_changed" sp_l_changed) (c_l_names : Cal P w K mg base 1 "_law_names" sp_l_names)
    (c_l_brought : Cal P w K mg base 1 "_law_brought" sp_l_brought) (c_H_adopt : Met P w K mg base 5 A.CH "adopt" (sp_H_adopt A)) (k_Chain : Mak P w K mg base 3 "Chain" A.CC (sp_C_init A)) (c_l_adopted : Cal P w K mg base 3 "_law_adopted" sp_l_adopted)
    (c_H_again : Met P w K mg base 5 A.CH "again" (sp_H_again A)) (c_l_tried : Cal P w K mg base 3 "_law_tried" sp_l_tried) (c_l_wrote : Cal P w K mg base 7 "_law_wrote" (sp_l_wrote A)) (c_l_asked_one : Cal P w K mg base 7 "_law_asked_one" (sp_l_asked_one A))
    (c_l_letter_for : Cal P w K mg base 2 "_law_letter_for" sp_l_letter_for) (c_H_take : Met P w K mg base 6 A.CH "take" (sp_H_take A)) (c_l_took : Cal P w K mg base 4 "_law_took" sp_l_took) : Cal P w K mg base 8 "_law_deed" (sp_l_deed A) := by
  have S := sc_l_deed.sc
  refine cal_mk D sc_l_deed (fun vs H Q E h => by obtain ⟨a, n, x, y, z, s, ws, t, rfl, _⟩ := h; rfl) fun f0 cdv A0 outer s0 H vs Q E hr h => ?_
  obtain ⟨a, n, x, y, z, s, ws, t, rfl, hs, hn, al, ht, k⟩ := h
  refine ⟨_, (pss_cons (ps_set (i := 4) S.nd rfl (Or.inl rfl) (pc c_l_next hr (by decide) rfl (pa_cons (pv 0) (pa_cons pe_int pa_nil))))
        (pss_cons (ps_if (pt_cmpR op_eq (pv 4) pe_int (nomark _))
          (pss_cons (ps_if (pt_cmpR op_gt (pc c_l_next hr (by decide) rfl (pa_cons (pv 0) (pa_cons pe_int pa_nil))) pe_int (nomark _))
            (pss_one (ps_expr (pc c_l_changed hr (by decide) rfl (pa_cons (pv 0) (pa_cons (pv 3) (pa_cons (pv 2) pa_nil))))))
            pss_nil)
          (pss_cons (ps_set (i := 6) S.nd rfl (Or.inl rfl) (pe_callB (call_max2 rfl) (by rfl) T.b_max (by decide +kernel) (pa_cons pe_int (pa_cons (pe_op op_sub (pe_dget (hu_of hr) (pv 3) pe_str (fun _ _ => rfl)) (pe_callTy call_int1 (by rfl) T.b_int (by decide +kernel) (pa_cons (pe_cmpR op_eq (pc c_l_next hr (by decide) rfl (pa_cons (pv 0) (pa_cons pe_int pa_nil))) pe_int (nomark _)) pa_nil))) pa_nil))))
          (pss_cons (ps_set (i := 7) S.nd rfl (Or.inl rfl) (pc c_l_names hr (by decide) rfl (pa_cons (pv 3) pa_nil)))
          (pss_one (ps_ret (pc c_l_brought hr (by decide) rfl (pa_cons (pm c_H_adopt hr (by decide) (pv 1) (pa_cons (pk k_Chain hr (by decide) rfl (pa_cons (pv 6) (pa_cons (pv 7) pa_nil))) pa_nil)) (pa_cons (pc c_l_adopted hr (by decide) rfl (pa_cons (pv 2) (pa_cons (pv 6) (pa_cons (pv 7) pa_nil)))) pa_nil))))))))
          pss_nil)
        (pss_cons (ps_if (pt_cmpR op_eq (pv 4) pe_int (nomark _))
          (pss_one (ps_ret (pc c_l_brought hr (by decide) rfl (pa_cons (pm0 c_H_again hr (by decide) (pv 1)) (pa_cons (pc c_l_tried hr (by decide) rfl (pa_cons (pv 2) pa_nil)) pa_nil)))))
          pss_nil)
        (pss_cons (ps_if (pt_cmpR op_lt (pv 4) pe_int (nomark _))
          (pss_one (ps_ret (pc c_l_wrote hr (by decide) rfl (pa_cons (pv 0) (pa_cons (pv 1) (pa_cons (pv 2) (pa_cons (pv 3) pa_nil)))))))
          pss_nil)
        (pss_cons (ps_if (pt_cmpR op_lt (pv 4) pe_int (nomark _))
          (pss_one (ps_ret (pc c_l_asked_one hr (by decide) rfl (pa_cons (pv 0) (pa_cons (pv 1) (pa_cons (pv 2) (pa_cons (pv 3) pa_nil)))))))
          pss_nil)
        (pss_cons (ps_set (i := 5) S.nd rfl (Or.inl rfl) (pc c_l_letter_for hr (by decide) rfl (pa_cons (pv 0) (pa_cons (pv 3) (pa_cons (pv 2) pa_nil)))))
        (pss_one (ps_ret (pc c_l_brought hr (by decide) rfl (pa_cons (pm c_H_take hr (by decide) (pv 1) (pa_cons (pv 5) pa_nil)) (pa_cons (pc c_l_took hr (by decide) rfl (pa_cons (pv 2) (pa_cons (pv 5) pa_nil))) pa_nil))))))))))), ?_⟩
  have sat := al.at_
  walk_at "vv"
  refine ⟨a, n, 10, rfl, hs, by omega, by decide, by decide, fun H1 kind k0 k1 hs1 f1 => ?_⟩
  have al1 := al.src hs f1
  have fr1 : Fr (a :: S9 x y z) H H1 := fr_src f1
  walk_at "vv"
  by_cases c0 : kind = 0
  · refine n_iT (by rw [c0]; rfl) ?_
    walk_at "vv"
    refine ⟨a, n + 1, 3, rfl, hs1, by omega, by decide, by decide, fun H2 j j0 j1 hs2 f2 => ?_⟩
    have al2 := al1.src hs1 f2
    have fr2 := fr1.trans (fr_src (S := S9 x y z) f2)
    walk_at "vv"
    by_cases cj : j > 0
    · refine n_iT (decide_eq_true cj) ?_
      walk_at "vv"
      refine ⟨a, n + 2, z, ws, y, s, t, rfl, hs2, by omega, al2.wa, al2.wok, by omega, al2.ma, sat.log, (hs2.ne2 al2.wa.ahd strs_ints).symm, (hs2.ne2 al2.wa.bhd strs_ints).symm, (hs2.ne2 al2.wa.mst rows_ints).symm, (hs2.ne2 al2.ma.lst rows_ints).symm,
        (ne_of al2.ma.ob al2.wa.ob mF_wF).symm, ne_of al2.wa.ob al2.ma.asks kv_wF, al2.sep.ya, al2.sep.yb, fun H3 zC wsC ez ez2 ez3 ez4 wa3 wok3 hs3 f3 => ?_⟩
      have xm : x.l ≠ zC.ms := by
        rcases ez4 with e | e
        · rw [e]; exact al2.sep.xm
        · exact ne_of_none al2.ha.lst e
      have ym : y.l ≠ zC.ms := by
        rcases ez4 with e | e
        · rw [e]; exact al2.sep.ym
        · exact ne_of_none al2.ma.lst e
      have se3 : Sep x y zC := ⟨al2.sep.l, al2.sep.d, by rw [ez2]; exact al2.sep.xa, by rw [ez3]; exact al2.sep.xb, xm, by rw [ez2]; exact al2.sep.ya, by rw [ez3]; exact al2.sep.yb, ym, by rw [ez2]; exact al2.sep.ha, by rw [ez3]; exact al2.sep.hb, by rw [ez2]; exact al2.sep.ca, by rw [ez3]; exact al2.sep.cb⟩
      have alC : All A H3 x y zC s wsC (t + 1) := ⟨keep_hw hs2 al2.ha al2.wa al2.sep f3, keep_mw hs2 al2.ma al2.wa al2.sep f3, wa3, sat.mono (Nat.le_add_right t 1), wok3, se3⟩
      have hsC : Src H3 a (n + 4) := hs3
      have frC : Fr (a :: S9 x y z) H H3 := fr2.trans (f3.mono fun q m => by
        unfold S9
        simp only [List.mem_cons, List.not_mem_nil, or_false] at m ⊢
        rcases m with e | e | e | e <;> simp [e])
      have eS : S9 x y zC = S9 x y z := by unfold S9; rw [ez, ez2, ez3]
      walk_at "vv"
      have obC := alC.wa.ob
      rw [ez] at obC
      refine ⟨_, _, rfl, dg obC wF_number, ?_⟩
      walk_at "vv"
      refine ⟨a, n + 4, 6, rfl, hsC, by omega, by decide, by decide, fun H4 u u0 u1 hs4 f4 => ?_⟩
      have al4 := alC.src hsC f4
      walk_at "vv"
      refine .inr ⟨_, rfl, ?_⟩
      walk_at "vv"
      refine ⟨1, _, rfl, ?_⟩
      obtain ⟨num, hnum, enum⟩ := max1x (_ - (if decide (V.int u = V.int 0) = true then (1 : Int) else 0))
      rw [← enum]
      clear enum
      have houses := al4.wok.h
      have hz := houses.hi
      rw [List.length_append, List.length_cons] at hz
      walk_at "vv"
      refine ⟨zC, _, by rw [ez]; rfl, al4.wa, by omega, by omega, fun H5 na hna s5 kna => ?_⟩
      have al5 := al4.same s5
      obtain ⟨dx5, hp5⟩ := al5.ha.ob
      walk_at "vv"
      refine n_methx hp5 (hF_no (by decide +kernel)) ?_
      walk_at "vv"
      refine n_make ?_
      walk_at "vv"
      intro ca dx fca fdx ndx
      have s51 : Same H5 (upd (upd H5 dx (.own ca)) ca (.ins A.CC dx [])) := Same.put (Same.new fdx) fca
      refine ⟨ca, dx, na, num, _, rfl, upd_same, hnum, s51 _ _ kna, houses, fun H6 hl fhl kca khl f6 => ⟨rfl, ?_⟩⟩
      have s6 : Same H5 H6 := (Fr.less (p := ca) ((Fr.ofSame s51).trans f6) fca).same
      have fhl5 : H5 hl = none := (Fr.ofSame (S := []) s51).none fhl (by simp)
      have al6 := al5.same s6
      have kna6 := s6 _ _ kna
      have okc : (Ch.mk num _ _).Ok := ⟨hnum, houses⟩
      walk_at "vv"
      refine ⟨x, s, ca, hl, Ch.mk num _ _, rfl, al6.ha, sat.ok, ⟨⟨dx, kca⟩, khl⟩, okc, fun H7 v1 x1 e1 e2 e3 e4 ha7 br7 f7 => ?_⟩
      have f7' : Fr [x.p, x.l, x.d] H6 H7 := f7.mono fun q m => by rw [List.mem_singleton.mp m]; simp
      have ma7 := keep_m al6.ha al6.ma al6.sep f7'
      obtain ⟨dx6, hp6⟩ := al6.ha.ob
      have kna7 := f7 _ _ kna6 (mem_ne (ne_of kna6 hp6 (by intro q; cases q)))
      walk_at "vv"
      refine ⟨y, s, na, Ch.mk num _ _, rfl, ma7, sat.ok, okc, kna7, fun H8 v2 y1 d1 d2 d3 d4 ma8 br8 f8 => ?_⟩
      have f8' : Fr [y.m, y.l, y.d] H7 H8 := f8.mono fun q m => by
        simp only [List.mem_cons, List.not_mem_nil, or_false] at m ⊢
        rcases m with e | e <;> simp [e]
      have q1 : ∃ o, H6 x1.hl = some o := by
        rcases e4 with e | e
        · rw [e]; exact al6.ha.there.2.2.2.2
        · rw [e]; exact ⟨_, khl⟩
      have q2 : x1.hl ≠ zC.ah := by
        rcases e4 with e | e
        · rw [e]; exact al6.sep.ha
        · rw [e]; exact (ne_of_none al5.wa.ahd fhl5).symm
      have q3 : x1.hl ≠ zC.be := by
        rcases e4 with e | e
        · rw [e]; exact al6.sep.hb
        · rw [e]; exact (ne_of_none al5.wa.bhd fhl5).symm
      have tw := two_hm al6 e1 e2 e3 q1 q2 q3 ha7 br7 f7' d1 d2 d3 d4 ma8 br8 f8' ((adopted_at sat okc).mono (Nat.le_add_right t 1)) al6.wok
      have sh := adopted_sh al6.ha.rows.ok okc
      walk_at "vv"
      refine tw.brought sh.t.cmp sh.l.cmp fun H9 al9 f9 => ?_
      rw [eS] at f9
      exact k H9 x1 y1 zC _ _ e1 d1 ez al9 ((frC.trans (fr_src f4)).trans ((Fr.ofSame (Same.trans s5 s6)).trans (f9.mono fun q m => List.mem_cons_of_mem _ m)))
    · refine n_iF (decide_eq_false cj) ?_
      have alC : All A H2 x y z s ws (t + 1) := ⟨al2.ha, al2.ma, al2.wa, sat.mono (Nat.le_add_right t 1), al2.wok.up, al2.sep⟩
      have hsC : Src H2 a (n + 4) := hs2.mono (by omega)
      have frC := fr2
      obtain ⟨zC, eC⟩ : ∃ zC, zC = z := ⟨_, rfl⟩
      have ez : zC.w = z.w := by rw [eC]
      have eS : S9 x y zC = S9 x y z := by rw [eC]
      rw [← eC] at alC
      walk_at "vv"
      have obC := alC.wa.ob
      rw [ez] at obC
      refine ⟨_, _, rfl, dg obC wF_number, ?_⟩
      walk_at "vv"
      refine ⟨a, n + 4, 6, rfl, hsC, by omega, by decide, by decide, fun H4 u u0 u1 hs4 f4 => ?_⟩
      have al4 := alC.src hsC f4
      walk_at "vv"
      refine .inr ⟨_, rfl, ?_⟩
      walk_at "vv"
      refine ⟨1, _, rfl, ?_⟩
      obtain ⟨num, hnum, enum⟩ := max1x (_ - (if decide (V.int u = V.int 0) = true then (1 : Int) else 0))
      rw [← enum]
      clear enum
      have houses := al4.wok.h
      have hz := houses.hi
      rw [List.length_append, List.length_cons] at hz
      walk_at "vv"
      refine ⟨zC, _, by rw [ez]; rfl, al4.wa, by omega, by omega, fun H5 na hna s5 kna => ?_⟩
      have al5 := al4.same s5
      obtain ⟨dx5, hp5⟩ := al5.ha.ob
      walk_at "vv"
      refine n_methx hp5 (hF_no (by decide +kernel)) ?_
      walk_at "vv"
      refine n_make ?_
      walk_at "vv"
      intro ca dx fca fdx ndx
      have s51 : Same H5 (upd (upd H5 dx (.own ca)) ca (.ins A.CC dx [])) := Same.put (Same.new fdx) fca
      refine ⟨ca, dx, na, num, _, rfl, upd_same, hnum, s51 _ _ kna, houses, fun H6 hl fhl kca khl f6 => ⟨rfl, ?_⟩⟩
      have s6 : Same H5 H6 := (Fr.less (p := ca) ((Fr.ofSame s51).trans f6) fca).same
      have fhl5 : H5 hl = none := (Fr.ofSame (S := []) s51).none fhl (by simp)
      have al6 := al5.same s6
      have kna6 := s6 _ _ kna
      have okc : (Ch.mk num _ _).Ok := ⟨hnum, houses⟩
      walk_at "vv"
      refine ⟨x, s, ca, hl, Ch.mk num _ _, rfl, al6.ha, sat.ok, ⟨⟨dx, kca⟩, khl⟩, okc, fun H7 v1 x1 e1 e2 e3 e4 ha7 br7 f7 => ?_⟩
      have f7' : Fr [x.p, x.l, x.d] H6 H7 := f7.mono fun q m => by rw [List.mem_singleton.mp m]; simp
      have ma7 := keep_m al6.ha al6.ma al6.sep f7'
      obtain ⟨dx6, hp6⟩ := al6.ha.ob
      have kna7 := f7 _ _ kna6 (mem_ne (ne_of kna6 hp6 (by intro q; cases q)))
      walk_at "vv"
      refine ⟨y, s, na, Ch.mk num _ _, rfl, ma7, sat.ok, okc, kna7, fun H8 v2 y1 d1 d2 d3 d4 ma8 br8 f8 => ?_⟩
      have f8' : Fr [y.m, y.l, y.d] H7 H8 := f8.mono fun q m => by
        simp only [List.mem_cons, List.not_mem_nil, or_false] at m ⊢
        rcases m with e | e <;> simp [e]
      have q1 : ∃ o, H6 x1.hl = some o := by
        rcases e4 with e | e
        · rw [e]; exact al6.ha.there.2.2.2.2
        · rw [e]; exact ⟨_, khl⟩
      have q2 : x1.hl ≠ zC.ah := by
        rcases e4 with e | e
        · rw [e]; exact al6.sep.ha
        · rw [e]; exact (ne_of_none al5.wa.ahd fhl5).symm
      have q3 : x1.hl ≠ zC.be := by
        rcases e4 with e | e
        · rw [e]; exact al6.sep.hb
        · rw [e]; exact (ne_of_none al5.wa.bhd fhl5).symm
      have tw := two_hm al6 e1 e2 e3 q1 q2 q3 ha7 br7 f7' d1 d2 d3 d4 ma8 br8 f8' ((adopted_at sat okc).mono (Nat.le_add_right t 1)) al6.wok
      have sh := adopted_sh al6.ha.rows.ok okc
      walk_at "vv"
      refine tw.brought sh.t.cmp sh.l.cmp fun H9 al9 f9 => ?_
      rw [eS] at f9
      exact k H9 x1 y1 zC _ _ e1 d1 ez al9 ((frC.trans (fr_src f4)).trans ((Fr.ofSame (Same.trans s5 s6)).trans (f9.mono fun q m => List.mem_cons_of_mem _ m)))
  · refine n_iF (decide_eq_false fun z => c0 (by injection z)) ?_
    walk_at "vv"
    by_cases c1 : kind = 1
    · refine n_iT (by rw [c1]; rfl) ?_
      obtain ⟨dx, hp⟩ := al1.ha.ob
      walk_at "vv"
      refine n_methx hp (hF_no (by decide +kernel)) ?_
      walk_at "vv"
      refine ⟨x, s, rfl, al1.ha, sat.ok, fun H2 v1 x1 e1 e2 e3 e4 e5 ha2 br2 f2 => ?_⟩
      have ma2 := keep_m al1.ha al1.ma al1.sep f2
      walk_at "vv"
      refine ⟨y, s, rfl, ma2, sat.ok, fun H3 v2 y1 d1 d2 d3 d4 d5 ma3 br3 f3 => ?_⟩
      have tw := two_hm al1 e1 e2 e3 (by rw [e5]; exact al1.ha.there.2.2.2.2) (by rw [e5]; exact al1.sep.ha) (by rw [e5]; exact al1.sep.hb) ha2 br2 f2 d1 d2 d3 (.inl d5) ma3 br3 f3 ((tried_at sat).mono (Nat.le_add_right t 1)) al1.wok.up
      have sh := tried_sh al1.ha.rows.ok sat.ok
      walk_at "vv"
      refine tw.brought sh.t.cmp sh.l.cmp fun H5 al5 f5 => ?_
      exact k H5 x1 y1 z _ _ e1 d1 rfl al5 (fr1.trans (f5.mono fun q m => List.mem_cons_of_mem _ m))
    · refine n_iF (decide_eq_false fun z => c1 (by injection z)) ?_
      walk_at "vv"
      by_cases c4 : kind < 4
      · refine n_iT (decide_eq_true c4) ?_
        walk_at "vv"
        refine ⟨a, n + 1, x, y, z, s, ws, t, rfl, hs1, ?_, al1, ht, fun H2 x1 y1 z1 s1 ws1 e1 e2 e3 al2 f2 => ?_⟩
        · omega
        exact k H2 x1 y1 z1 s1 ws1 e1 e2 e3 al2 (fr1.trans f2)
      · refine n_iF (decide_eq_false c4) ?_
        walk_at "vv"
        by_cases c6 : kind < 6
        · refine n_iT (decide_eq_true c6) ?_
          walk_at "vv"
          refine ⟨a, n + 1, x, y, z, s, ws, t, rfl, hs1, ?_, al1, ht, fun H2 x1 y1 z1 s1 ws1 e1 e2 e3 al2 f2 => ?_⟩
          · omega
          exact k H2 x1 y1 z1 s1 ws1 e1 e2 e3 al2 (fr1.trans f2)
        · refine n_iF (decide_eq_false c6) ?_
          walk_at "vv"
          refine ⟨a, n + 1, z, ws, y, s, t, rfl, hs1, ?_, al1.wa, al1.wok, by omega, al1.ma, sat.ok, (hs1.ne2 al1.wa.ahd strs_ints).symm, (hs1.ne2 al1.wa.bhd strs_ints).symm, (hs1.ne2 al1.wa.mst rows_ints).symm, (hs1.ne2 al1.ma.lst rows_ints).symm, fun H2 la b hb okb f2 hrows => ?_⟩
          · omega
          have al2 := al1.src hs1 f2
          have fr2 := fr1.trans (fr_src (S := S9 x y z) f2)
          obtain ⟨dx, hp⟩ := al2.ha.ob
          walk_at "vv"
          refine n_methx hp (hF_no (by decide +kernel)) ?_
          walk_at "vv"
          refine ⟨x, s, la, b, rfl, al2.ha, sat.ok, hb, okb, fun H3 v1 x1 e1 e2 e3 e4 e5 ha3 br3 f3 => ?_⟩
          have ma3 := keep_m al2.ha al2.ma al2.sep f3
          have nt2 : NT H2 [x.p, x.l, x.d] := NT.cons hp (by intro ys q; cases q) (NT.cons al2.ha.lst (by intro ys q; cases q) (NT.cons al2.ha.asks (by intro ys q; cases q) NT.nil))
          have tu2 := Fr.tups f3 nt2
          have hb3 : b.At H3 la := by
            obtain ⟨h1, h2⟩ := hb
            refine ⟨tu2 _ _ h1, ?_⟩
            cases b with
            | rows n b f l ra => exact ⟨tu2 _ _ h2.1, h2.2.to tu2⟩
            | told n b m => trivial
            | which n b k => trivial
            | that n b k m => trivial
          walk_at "vv"
          refine ⟨y, s, la, b, rfl, ma3, sat.ok, hb3, okb, fun H4 v2 y1 d1 d2 d3 d4 d5 ma4 br4 f4 => ?_⟩
          have mlen := al1.wok.mas
          have tw := two_hm al2 e1 e2 e3 (by rw [e5]; exact al2.ha.there.2.2.2.2) (by rw [e5]; exact al2.sep.ha) (by rw [e5]; exact al2.sep.hb) ha3 br3 f3 d1 d2 d3 (.inl d5) ma4 br4 f4
            (took_at sat (by omega) fun n b' f l ra e => by have := hrows n b' f l ra e; omega) al2.wok.up
          have sh := took_sh al2.ha.rows.ok sat.ok okb fun n b' f l ra e => by
            subst e
            exact hb.2.2.ok
          walk_at "vv"
          refine tw.brought sh.t.cmp sh.l.cmp fun H5 al5 f5 => ?_
          exact k H5 x1 y1 z _ _ e1 d1 rfl al5 (fr2.trans (f5.mono fun q m => List.mem_cons_of_mem _ m))
end
end Ck

namespace Ck
open PySem PySem.Spec PyProof.Rows L2
local macro_rules | `(tactic| walk_at "v") => `(tactic| (first | with_reducible refine n_seq ?_ | with_reducible refine n_ifs ?_ | with_reducible refine n_asg ?_ | with_reducible refine n_name ?_ | with_reducible refine n_ret ?_ | with_reducible refine n_drop ?_ | with_reducible refine n_next ?_ | ((with_reducible refine' n_var ?e ?_); (case e => rfl)) | with_reducible refine n_c ?_ | with_reducible refine n_op ?_ | with_reducible refine n_un ?_ | with_reducible refine n_test ?_ | with_reducible refine n_B ?_ | with_reducible refine n_ex ?_ | with_reducible refine n_and ?_ | with_reducible refine n_or ?_ | with_reducible refine n_not ?_ | with_reducible refine n_andV ?_ | with_reducible refine n_orV ?_ | with_reducible refine n_notV ?_ | with_reducible refine n_cons ?_ | with_reducible refine n_nil ?_ | with_reducible refine n_cb ?_ | with_reducible refine n_call ?_ | with_reducible refine n_I0 ?_ | with_reducible refine n_tup ?_ | with_reducible refine n_lst ?_ | with_reducible refine n_sl ?_ | with_reducible refine n_part ?_ | with_reducible refine n_nopart ?_ | with_reducible refine n_exI ?_ | with_reducible refine n_chain ?_ | with_reducible refine n_dget ?_ | with_reducible refine n_meth ?_ | with_reducible refine n_bm ?_ | with_reducible refine n_bm0 ?_ | with_reducible refine n_sfld ?_ | with_reducible refine n_fld ?_ | with_reducible refine n_for ?_ | with_reducible refine n_dpop1 ?_ | with_reducible refine n_din ?_ | with_reducible refine n_dnotin ?_ | with_reducible refine n_dput ?_ | with_reducible refine n_nn ?_ | with_reducible refine n_rU ?_ | with_reducible refine n_lss ?_ | with_reducible refine n_kget ?_ | with_reducible refine n_iL ?_ | with_reducible refine n_iE ?_ | with_reducible refine n_iR ?_ | with_reducible refine n_lc ?_ | with_reducible refine n_lcT ?_ | with_reducible refine n_lcS ?_ | with_reducible refine n_gTup ?_ | with_reducible refine n_gCons ?_ | with_reducible refine n_gNil ?_ | ((with_reducible refine n_eq ?e ?_); (case e => rfl)) | ((with_reducible refine n_ne ?e ?_); (case e => rfl)) | ((with_reducible refine n_iT ?e ?_); (case e => rfl)) | ((with_reducible refine n_iF ?e ?_); (case e => rfl))))
local macro_rules | `(tactic| walk_at "vv") => `(tactic| repeat walk_at "v")
section
variable {P : Program} {w : World} {K : PySem.W.Frag} {mg : Str → Option Value} {base : Heap} {A : Ad}
theorem Same.over {H H1 H2 : Hp} {S : List Addr} (s : Same H H1) (f : Fr S H1 H2) (n : ∀ q ∈ S, H q = none) : Same H H2 := fun b o e => f b o (s b o e) fun m => by
  have := n b m
  rw [e] at this
  cases this
theorem Same.gone {H H1 : Hp} (s : Same H H1) {q : Addr} (h : H1 q = none) : H q = none := (Fr.ofSame (S := []) s).none h (by simp)
theorem Brought.same {H H1 H2 : Hp} {v : V} {T L : List PyData} (br : Brought H H1 v T L) (s : Same H1 H2) : Brought H H2 v T L := by
  obtain ⟨t, u, w, q1, q2, q3, q4, q5⟩ := br.ex
  exact ⟨t, u, w, q1, s _ _ q2, q3.same s, q4.same s, q5⟩
theorem SqL.same {H H1 : Hp} {a : Addr} {xs : List V} (h : SqL K H a xs) (s : Same H H1) : SqL K H1 a xs := by
  rcases h with h | h
  · refine .inl ?_
    rcases h with h | h
    · exact .inl (s _ _ h)
    · obtain ⟨o, h⟩ := h
      exact .inr ⟨o, s _ _ h⟩
  · exact .inr h
def sp_law (K : PySem.W.Frag) : Sp := fun vs H Q _ => ∃ (sc : Addr) (ns : List Int), vs = [.ref sc] ∧ SqL K H sc (ns.map V.int) ∧ ∀ H', Q (.bl true) H'
theorem new_at : HS.new.At 0 := ⟨⟨fun c e => (by cases e), Nat.le_refl _, Nat.zero_le _, List.nodup_nil, Nat.zero_le _⟩, Nat.zero_le _, Nat.le_refl _⟩
theorem ints_rows {ks : List Int} {l : List Row} (h : ks ≠ []) : HO.lst (ks.map V.int) ≠ HO.lst (l.map Row.v) := fun q => by
  injection q with q
  cases ks with
  | nil => exact h rfl
  | cons a r =>
    cases l with
    | nil => cases q
    | cons b m =>
      rw [List.map_cons, List.map_cons] at q
      injection q with q _
      cases q
theorem ints_strs {ks : List Int} {l : List Str} (h : ks ≠ []) : HO.lst (ks.map V.int) ≠ HO.lst (l.map V.str) := fun q => by
  injection q with q
  cases ks with
  | nil => exact h rfl
  | cons a r =>
    cases l with
    | nil => cases q
    | cons b m =>
      rw [List.map_cons, List.map_cons] at q
      injection q with q _
      cases q
theorem bod_law (T : Txt w K mg A) (c_l_source : Cal P w K mg base 1 "_law_source" sp_l_source) (c_l_cell_at : Cal P w K mg base 1 "_law_cell_at" (sp_l_cell_at K)) (c_l_world : Cal P w K mg base 5 "_law_world" sp_l_world)
    (k_House : Mak P w K mg base 1 "House" A.CH (sp_H_init A)) (c_l_house : Cal P w K mg base 1 "_law_house" sp_l_house) (c_l_same : Cal P w K mg base 2 "_law_same" (sp_l_same A)) (c_l_next : Cal P w K mg base 1 "_law_next" sp_l_next)
    (c_H_adopt : Met P w K mg base 5 A.CH "adopt" (sp_H_adopt A)) (k_Chain : Mak P w K mg base 3 "Chain" A.CC (sp_C_init A)) (c_l_names : Cal P w K mg base 1 "_law_names" sp_l_names) (c_l_adopted : Cal P w K mg base 3 "_law_adopted" sp_l_adopted)
    (c_l_deed : Cal P w K mg base 8 "_law_deed" (sp_l_deed A)) (c_H_log : Met P w K mg base 1 A.CH "log" (sp_H_log A)) (c_H_waiting : Met P w K mg base 1 A.CH "waiting" (sp_H_waiting A)) : Bod P w K mg base 8 "law" s_law N_law (sp_law K) := by
  have S := sc_law.sc
  intro f0 cdv A0 outer s0 H vs Q E hr h
  obtain ⟨sc, ns, rfl, hS, hQ⟩ := h
  refine ⟨_, (pss_cons (ps_set (i := 1) S.nd rfl (Or.inl rfl) (pc c_l_source hr (by decide) rfl (pa_cons (pc c_l_cell_at hr (by decide) rfl (pa_cons (pv 0) (pa_cons pe_int pa_nil))) pa_nil)))
        (pss_cons (ps_set (i := 2) S.nd rfl (Or.inl rfl) (pc c_l_world hr (by decide) rfl (pa_cons (pv 1) pa_nil)))
        (pss_cons (ps_set (i := 3) S.nd rfl (Or.inl rfl) (pk k_House hr (by decide) rfl (pa_cons pe_str pa_nil)))
        (pss_cons (ps_set (i := 4) S.nd rfl (Or.inl rfl) (pc c_l_house hr (by decide) rfl (pa_cons pe_str pa_nil)))
        (pss_cons (ps_if (pt_not (pt_val (pc c_l_same hr (by decide) rfl (pa_cons (pv 3) (pa_cons (pv 4) pa_nil)))))
          (pss_one (ps_ret pe_bl))
          pss_nil)
        (pss_cons (ps_if (pt_cmpR op_gt (pc c_l_next hr (by decide) rfl (pa_cons (pv 1) (pa_cons pe_int pa_nil))) pe_int (nomark _))
          (pss_cons (ps_expr (pm c_H_adopt hr (by decide) (pv 3) (pa_cons (pk k_Chain hr (by decide) rfl (pa_cons pe_int (pa_cons (pc c_l_names hr (by decide) rfl (pa_cons (pv 2) pa_nil)) pa_nil))) pa_nil)))
          (pss_one (ps_expr (pc c_l_adopted hr (by decide) rfl (pa_cons (pv 4) (pa_cons pe_int (pa_cons (pc c_l_names hr (by decide) rfl (pa_cons (pv 2) pa_nil)) pa_nil)))))))
          pss_nil)
        (pss_cons (ps_for PassesOwn.never rfl (pi_list (pe_op op_cat (pe_slice sl_list (pv 0) (po_some pe_int) (po_some pe_int)) (pe_lst (pa_cons pe_int (pa_cons pe_int (pa_cons pe_int pa_nil)))))) (pg_name (i := 5) S.nd rfl (Or.inl rfl))
          (pss_cons (ps_if (PW.pt (pw_or (pt_not (pt_val (pc c_l_deed hr (by decide) rfl (pa_cons (pc c_l_source hr (by decide) rfl (pa_cons (pv 5) pa_nil)) (pa_cons (pv 3) (pa_cons (pv 4) (pa_cons (pv 2) pa_nil))))))) (pw_or1 (pt_not (pt_val (pc c_l_same hr (by decide) rfl (pa_cons (pv 3) (pa_cons (pv 4) pa_nil))))))))
            (pss_one (ps_ret pe_bl))
            pss_nil)
          (pss_cons (ps_expr (pe_bm0 PySem.F.plainAttrs_list PySem.F.slot_list_clear PySem.F.type_list_clear mt_clear (pm0 c_H_log hr (by decide) (pv 3))))
          (pss_one (ps_expr (pe_bm PySem.F.plainAttrs_list PySem.F.slot_list_append PySem.F.type_list_append mt_append (pm0 c_H_waiting hr (by decide) (pv 3)) (pa_cons pe_int pa_nil)))))))
        (pss_one (ps_ret (pc c_l_same hr (by decide) rfl (pa_cons (pv 3) (pa_cons (pv 4) pa_nil)))))))))))), ?_⟩
  walk_at "vv"
  refine ⟨sc, ns, rfl, hS, fun i => ?_⟩
  walk_at "vv"
  refine ⟨i, rfl, fun H1 a ha0 s1 src1 => ?_⟩
  walk_at "vv"
  refine ⟨a, rfl, src1, fun H2 z ws fw fah fbe fms wa wok num src2 f2 => ?_⟩
  have hw0 := Same.gone s1 fw
  have hah0 := Same.gone s1 fah
  have hbe0 := Same.gone s1 fbe
  have s2 : Same H H2 := Same.over s1 f2 fun q m => by rw [List.mem_singleton.mp m]; exact ha0
  walk_at "vv"
  refine n_make ?_
  walk_at "vv"
  intro p dx fp fdx ndx
  have s23 : Same H2 (upd (upd H2 dx (.own p)) p (.ins A.CH dx [])) := Same.put (Same.new fdx) fp
  refine ⟨p, dx, rfl, upd_same, fun H3 l d fl fd ha f3 => ⟨rfl, ?_⟩⟩
  have fl2 := Same.gone s23 fl
  have fd2 := Same.gone s23 fd
  have s3 : Same H2 H3 := Same.over s23 f3 fun q m => by rw [List.mem_singleton.mp m]; exact fp
  walk_at "vv"
  refine ⟨rfl, fun H4 m ml md fm fml fmd ma s4 => ?_⟩
  have s24 := Same.trans s3 s4
  have wa4 := wa.same s24
  have ha4 := ha.same s4
  have src4 := src2.same s24
  have nll : l ≠ ml := ne_of_none ha.lst fml
  have al4 : All A H4 ⟨p, l, d, p, l⟩ ⟨m, ml, md, m, ml⟩ z HS.new ws 0 := by
    have n1 : l ≠ z.ah := (ne_of_none wa.ahd fl2).symm
    have n2 : l ≠ z.be := (ne_of_none wa.bhd fl2).symm
    have n3 : l ≠ z.ms := (ne_of_none wa.mst fl2).symm
    have g : ∀ {q : Addr}, H3 q = none → H2 q = none := fun h => Same.gone s3 h
    have n4 : ml ≠ z.ah := (ne_of_none wa.ahd (g fml)).symm
    have n5 : ml ≠ z.be := (ne_of_none wa.bhd (g fml)).symm
    have n6 : ml ≠ z.ms := (ne_of_none wa.mst (g fml)).symm
    exact ⟨ha4, ma, wa4, new_at, wok, ⟨nll, ne_of_none ha.asks fmd, n1, n2, n3, n4, n5, n6, n1, n2, n4, n5⟩⟩
  have s04 : Same H H4 := Same.trans s2 s24
  have gone2 : ∀ {q : Addr}, H2 q = none → H q = none := fun h => Same.gone s2 h
  have gone3 : ∀ {q : Addr}, H3 q = none → H q = none := fun h => gone2 (Same.gone s3 h)
  have new9 : ∀ q ∈ S9 ⟨p, l, d, p, l⟩ ⟨m, ml, md, m, ml⟩ z, H q = none := fun q hq => by
    unfold S9 at hq
    simp only [List.mem_cons, List.not_mem_nil, or_false] at hq
    rcases hq with e | e | e | e | e | e | e | e | e
    · rw [e]; exact gone2 fp
    · rw [e]; exact gone2 fl2
    · rw [e]; exact gone2 fd2
    · rw [e]; exact gone3 fm
    · rw [e]; exact gone3 fml
    · rw [e]; exact gone3 fmd
    · rw [e]; exact hw0
    · rw [e]; exact hah0
    · rw [e]; exact hbe0
  generalize hx : (⟨p, l, d, p, l⟩ : HX) = x at *
  generalize hy : (⟨m, ml, md, m, ml⟩ : MX) = y at *
  have exp : p = x.p := by rw [← hx]
  have eym : m = y.m := by rw [← hy]
  rw [exp, eym]
  clear hx hy ha ma fp fl fl2 fd fd2 fm fml fmd ha4 wa4 s23 nll exp eym f3 ndx fdx
  walk_at "vv"
  refine ⟨x, y, HS.new, rfl, al4.ha, al4.ma, al4.at_.ok, fun H5 s5 => ?_⟩
  have al5 := al4.same s5
  have src5 := src4.same s5
  have s05 := Same.trans s04 s5
  walk_at "vv"
  refine ⟨a, 20000, 6, rfl, src5, by omega, by decide, by decide, fun H6 j j0 j1 src6 f6 => ?_⟩
  have al6 := al5.src src5 f6
  have s06 : Same H H6 := Same.over s05 f6 fun q m => by rw [List.mem_singleton.mp m]; exact ha0
  walk_at "vv"
  have houses := al6.wok.h
  have hz := houses.hi
  rw [List.length_append, List.length_cons] at hz
  by_cases cj : j > 0
  · refine n_iT (decide_eq_true cj) ?_
    obtain ⟨dx6, hp6⟩ := al6.ha.ob
    walk_at "vv"
    refine n_methx hp6 (hF_no (by decide +kernel)) ?_
    walk_at "vv"
    refine n_make ?_
    walk_at "vv"
    refine ⟨z, _, rfl, al6.wa, by omega, by omega, fun H7 na hna s7 kna => ?_⟩
    have al7 := al6.same s7
    walk_at "vv"
    intro ca dx fca fdx ndx
    have s71 : Same H7 (upd (upd H7 dx (.own ca)) ca (.ins A.CC dx [])) := Same.put (Same.new fdx) fca
    refine ⟨ca, dx, na, 1, _, rfl, upd_same, Int.le_refl 1, s71 _ _ kna, houses, fun H8 hl fhl kca khl f8 => ⟨rfl, ?_⟩⟩
    have s8 : Same H7 H8 := (Fr.less (p := ca) ((Fr.ofSame s71).trans f8) fca).same
    have fhl7 : H7 hl = none := Same.gone s71 fhl
    have al8 := al7.same s8
    have okc : (Ch.mk 1 _ _).Ok := ⟨Int.le_refl 1, houses⟩
    walk_at "vv"
    refine ⟨x, HS.new, ca, hl, Ch.mk 1 _ _, rfl, al8.ha, al8.at_.ok, ⟨⟨dx, kca⟩, khl⟩, okc, fun H9 v1 x1 e1 e2 e3 e4 ha9 br9 f9 => ?_⟩
    have f9' : Fr [x.p, x.l, x.d] H8 H9 := f9.mono fun q m => by rw [List.mem_singleton.mp m]; simp
    have wa9 := keep_wh al8.ha al8.wa al8.sep f9'
    walk_at "vv"
    refine ⟨z, _, rfl, wa9, by omega, by omega, fun H10 nb hnb s10 knb => ?_⟩
    have ha10 := ha9.same s10
    have br10 := Brought.same br9 s10
    have f10 : Fr [x.p, x.l, x.d] H8 H10 := f9'.trans (Fr.ofSame s10)
    have ma10 := keep_m al8.ha al8.ma al8.sep f10
    walk_at "vv"
    refine ⟨y, HS.new, nb, Ch.mk 1 _ _, rfl, ma10, al8.at_.ok, okc, knb, fun H11 v2 y1 d1 d2 d3 d4 ma11 br11 f11 => ?_⟩
    have f11' : Fr [y.m, y.l, y.d] H10 H11 := f11.mono fun q m => by
      simp only [List.mem_cons, List.not_mem_nil, or_false] at m ⊢
      rcases m with e | e <;> simp [e]
    have q1 : ∃ o, H8 x1.hl = some o := by
      rcases e4 with e | e
      · rw [e]; exact al8.ha.there.2.2.2.2
      · rw [e]; exact ⟨_, khl⟩
    have q2 : x1.hl ≠ z.ah := by
      rcases e4 with e | e
      · rw [e]; exact al8.sep.ha
      · rw [e]; exact (ne_of_none al7.wa.ahd fhl7).symm
    have q3 : x1.hl ≠ z.be := by
      rcases e4 with e | e
      · rw [e]; exact al8.sep.hb
      · rw [e]; exact (ne_of_none al7.wa.bhd fhl7).symm
    have tw := two_hm al8 e1 e2 e3 q1 q2 q3 ha10 br10 f10 d1 d2 d3 d4 ma11 br11 f11' (adopted_at al8.at_ okc) al8.wok
    have alL := tw.all
    have s0L : Same H H11 := Same.over (Same.trans s06 (Same.trans s7 s8)) tw.fr new9
    rw [← e1, ← d1]
    obtain ⟨HL, eL⟩ : ∃ HL, HL = H11 := ⟨_, rfl⟩
    rw [← eL] at alL s0L ⊢
    walk_at "vv"
    refine ⟨sc, _, rfl, SqL.same hS s0L, fun c0 fc0 => ?_⟩
    obtain ⟨ks, eks, lks⟩ : ∃ ks : List Int, cutV (ns.map V.int) (some 1) (some 41) = ks.map V.int ∧ ks.length ≤ 40 := by
      refine ⟨(ns.drop 1).take 40, ?_, by rw [List.length_take]; omega⟩
      rw [show cutV (ns.map V.int) (some 1) (some 41) = ((ns.map V.int).drop 1).take (41 - 1) from cut_mid (n := 1) (m := 41) (by decide), ← List.map_drop, ← List.map_take]
    rw [eks]
    have t1 := Same.new (o := .lst (ks.map V.int)) fc0
    walk_at "vv"
    refine ⟨by show 3 ≤ sizeLine; decide, fun c1 fc1 => ?_⟩
    have t2 := Same.new (o := .lst ([(0 : Int), 1, 2].map V.int)) fc1
    refine ⟨c0, c1, _, _, rfl, rfl, t2 _ _ upd_same, upd_same, ?_, fun c fc => ?_⟩
    · rw [List.length_map]
      show ks.length + 3 ≤ sizeLine
      exact Nat.le_trans (m := 43) (by omega) (by decide)
    rw [show ks.map V.int ++ [V.int 0, .int 1, .int 2] = (ks ++ [(0 : Int), 1, 2]).map V.int by rw [List.map_append]; rfl] at *
    have t3 := Same.new (o := .lst ((ks ++ [(0 : Int), 1, 2]).map V.int)) fc
    have kc := upd_same (H := upd (upd HL c0 (.lst (ks.map V.int))) c1 (.lst ([(0 : Int), 1, 2].map V.int))) (a := c) (o := .lst ((ks ++ [(0 : Int), 1, 2]).map V.int))
    have alM := alL.same (Same.trans t1 (Same.trans t2 t3))
    have lk : (ks ++ [(0 : Int), 1, 2]).length ≤ 43 := by rw [List.length_append]; show ks.length + 3 ≤ 43; omega
    have nek : ks ++ [(0 : Int), 1, 2] ≠ [] := by simp
    generalize ks ++ [(0 : Int), 1, 2] = cs at *
    walk_at "vv"
    refine ⟨c, rfl, ⟨_, SqL.of kc⟩, for_list (K := K) (a := c) (xs := cs.map V.int) (fun i σ H' => ∃ (x : HX) (y : MX) (z : WX) (s : HS) (ws : WS) (v : Option V), σ = [some (.ref sc), some (.ref a), some (.ref z.w), some (.ref x.p), some (.ref y.m), v] ∧ H' c = some (.lst (cs.map V.int)) ∧ All A H' x y z s ws i)
      ⟨_, _, _, _, _, none, rfl, kc, alM⟩ (fun i σ H' _ p => by obtain ⟨_, _, _, _, _, _, _, h, _⟩ := p; exact SqL.of h) ?_ ?_⟩
    · clear alM kc t1 t2 t3 alL
      rintro i u σ H' hi ⟨x, y, z, s, ws, v, rfl, kc, al⟩
      obtain ⟨k, hk, rfl⟩ : ∃ k, cs[i]? = some k ∧ u = V.int k := by
        rw [List.getElem?_map] at hi
        obtain ⟨r, h1, h2⟩ := Option.map_eq_some_iff.mp hi
        exact ⟨r, h1, h2.symm⟩
      have i43 := (List.getElem?_eq_some_iff.mp hk).1
      walk_at "vv"
      refine ⟨k, rfl, fun H1 a2 fa2 s1 src1 => ?_⟩
      have al1 := al.same s1
      have kc1 := s1 _ _ kc
      walk_at "vv"
      refine ⟨a2, 0, x, y, z, s, ws, i, rfl, src1, by omega, al1, by omega, fun H2 x1 y1 z1 s1' ws1 e1 e2 e3 al2 f2 => ?_⟩
      have nc : c ∉ a2 :: S9 x y z := by
        obtain ⟨dx, hp⟩ := al1.ha.ob
        have c0 := ne_of_none kc fa2
        have c1 := ne_of kc1 hp (by intro q; cases q)
        have c2 := ne_of kc1 al1.ha.lst (ints_rows nek)
        have c3 := ne_of kc1 al1.ha.asks (by intro q; cases q)
        have c4 := ne_of kc1 al1.ma.ob (by intro q; cases q)
        have c5 := ne_of kc1 al1.ma.lst (ints_rows nek)
        have c6 := ne_of kc1 al1.ma.asks (by intro q; cases q)
        have c7 := ne_of kc1 al1.wa.ob (by intro q; cases q)
        have c8 := ne_of kc1 al1.wa.ahd (ints_strs nek)
        have c9 := ne_of kc1 al1.wa.bhd (ints_strs nek)
        unfold S9
        simp [c0, c1, c2, c3, c4, c5, c6, c7, c8, c9]
      have kc2 := f2 _ _ kc1 nc
      rw [← e1, ← e2, ← e3]
      walk_at "vv"
      refine ⟨x1, y1, s1', rfl, al2.ha, al2.ma, al2.at_.ok, fun H3 s3 => ?_⟩
      have al3 := al2.same s3
      have kc3 := s3 _ _ kc2
      obtain ⟨dx3, hp3⟩ := al3.ha.ob
      walk_at "vv"
      refine n_methx hp3 (hF_no (by decide +kernel)) ?_
      walk_at "vv"
      refine ⟨x1, s1', rfl, al3.ha, fun b fb => ?_⟩
      refine ⟨n_lty upd_same, ?_⟩
      refine ⟨b, _, rfl, rfl, upd_same, ?_⟩
      have s4 : Same H3 (upd (upd H3 b (.lst (s1'.log.map Row.v))) b (.lst [])) := Same.put (Same.new fb) fb
      have al4 := al3.same s4
      have kc4 := s4 _ _ kc3
      generalize upd (upd H3 b (.lst (s1'.log.map Row.v))) b (.lst []) = H4 at *
      obtain ⟨dx4, hp4⟩ := al4.ha.ob
      walk_at "vv"
      refine n_methx hp4 (hF_no (by decide +kernel)) ?_
      walk_at "vv"
      refine ⟨x1, s1', rfl, al4.ha, al4.at_.ok.few, fun g fg => ?_⟩
      refine ⟨n_lty upd_same, ?_⟩
      walk_at "vv"
      refine ⟨g, _, .int 5, rfl, rfl, upd_same, ?_, ?_⟩
      · rw [List.length_map, sortA_len]
        have := al4.at_.ok.few
        exact Nat.lt_of_le_of_lt (m := 50) this (by decide)
      have s5 : Same H4 (upd (upd H4 g (.lst ((sortA s1'.asks).map V.int))) g (.lst ((sortA s1'.asks).map V.int ++ [.int 5]))) := Same.put (Same.new fg) fg
      walk_at "vv"
      exact ⟨x1, y1, z1, s1', ws1, some (.int k), rfl, s5 _ _ kc4, al4.same s5⟩
    · rintro σ H' ⟨x, y, z, s, ws, v, rfl, kc, al⟩
      walk_at "vv"
      exact ⟨x, y, s, rfl, al.ha, al.ma, al.at_.ok, fun H'' _ => hQ H''⟩
  · refine n_iF (decide_eq_false cj) ?_
    have alL := al6
    have s0L := s06
    obtain ⟨HL, eL⟩ : ∃ HL, HL = H6 := ⟨_, rfl⟩
    rw [← eL] at alL s0L ⊢
    walk_at "vv"
    refine ⟨sc, _, rfl, SqL.same hS s0L, fun c0 fc0 => ?_⟩
    obtain ⟨ks, eks, lks⟩ : ∃ ks : List Int, cutV (ns.map V.int) (some 1) (some 41) = ks.map V.int ∧ ks.length ≤ 40 := by
      refine ⟨(ns.drop 1).take 40, ?_, by rw [List.length_take]; omega⟩
      rw [show cutV (ns.map V.int) (some 1) (some 41) = ((ns.map V.int).drop 1).take (41 - 1) from cut_mid (n := 1) (m := 41) (by decide), ← List.map_drop, ← List.map_take]
    rw [eks]
    have t1 := Same.new (o := .lst (ks.map V.int)) fc0
    walk_at "vv"
    refine ⟨by show 3 ≤ sizeLine; decide, fun c1 fc1 => ?_⟩
    have t2 := Same.new (o := .lst ([(0 : Int), 1, 2].map V.int)) fc1
    refine ⟨c0, c1, _, _, rfl, rfl, t2 _ _ upd_same, upd_same, ?_, fun c fc => ?_⟩
    · rw [List.length_map]
      show ks.length + 3 ≤ sizeLine
      exact Nat.le_trans (m := 43) (by omega) (by decide)
    rw [show ks.map V.int ++ [V.int 0, .int 1, .int 2] = (ks ++ [(0 : Int), 1, 2]).map V.int by rw [List.map_append]; rfl] at *
    have t3 := Same.new (o := .lst ((ks ++ [(0 : Int), 1, 2]).map V.int)) fc
    have kc := upd_same (H := upd (upd HL c0 (.lst (ks.map V.int))) c1 (.lst ([(0 : Int), 1, 2].map V.int))) (a := c) (o := .lst ((ks ++ [(0 : Int), 1, 2]).map V.int))
    have alM := alL.same (Same.trans t1 (Same.trans t2 t3))
    have lk : (ks ++ [(0 : Int), 1, 2]).length ≤ 43 := by rw [List.length_append]; show ks.length + 3 ≤ 43; omega
    have nek : ks ++ [(0 : Int), 1, 2] ≠ [] := by simp
    generalize ks ++ [(0 : Int), 1, 2] = cs at *
    walk_at "vv"
    refine ⟨c, rfl, ⟨_, SqL.of kc⟩, for_list (K := K) (a := c) (xs := cs.map V.int) (fun i σ H' => ∃ (x : HX) (y : MX) (z : WX) (s : HS) (ws : WS) (v : Option V), σ = [some (.ref sc), some (.ref a), some (.ref z.w), some (.ref x.p), some (.ref y.m), v] ∧ H' c = some (.lst (cs.map V.int)) ∧ All A H' x y z s ws i)
      ⟨_, _, _, _, _, none, rfl, kc, alM⟩ (fun i σ H' _ p => by obtain ⟨_, _, _, _, _, _, _, h, _⟩ := p; exact SqL.of h) ?_ ?_⟩
    · clear alM kc t1 t2 t3 alL
      rintro i u σ H' hi ⟨x, y, z, s, ws, v, rfl, kc, al⟩
      obtain ⟨k, hk, rfl⟩ : ∃ k, cs[i]? = some k ∧ u = V.int k := by
        rw [List.getElem?_map] at hi
        obtain ⟨r, h1, h2⟩ := Option.map_eq_some_iff.mp hi
        exact ⟨r, h1, h2.symm⟩
      have i43 := (List.getElem?_eq_some_iff.mp hk).1
      walk_at "vv"
      refine ⟨k, rfl, fun H1 a2 fa2 s1 src1 => ?_⟩
      have al1 := al.same s1
      have kc1 := s1 _ _ kc
      walk_at "vv"
      refine ⟨a2, 0, x, y, z, s, ws, i, rfl, src1, by omega, al1, by omega, fun H2 x1 y1 z1 s1' ws1 e1 e2 e3 al2 f2 => ?_⟩
      have nc : c ∉ a2 :: S9 x y z := by
        obtain ⟨dx, hp⟩ := al1.ha.ob
        have c0 := ne_of_none kc fa2
        have c1 := ne_of kc1 hp (by intro q; cases q)
        have c2 := ne_of kc1 al1.ha.lst (ints_rows nek)
        have c3 := ne_of kc1 al1.ha.asks (by intro q; cases q)
        have c4 := ne_of kc1 al1.ma.ob (by intro q; cases q)
        have c5 := ne_of kc1 al1.ma.lst (ints_rows nek)
        have c6 := ne_of kc1 al1.ma.asks (by intro q; cases q)
        have c7 := ne_of kc1 al1.wa.ob (by intro q; cases q)
        have c8 := ne_of kc1 al1.wa.ahd (ints_strs nek)
        have c9 := ne_of kc1 al1.wa.bhd (ints_strs nek)
        unfold S9
        simp [c0, c1, c2, c3, c4, c5, c6, c7, c8, c9]
      have kc2 := f2 _ _ kc1 nc
      rw [← e1, ← e2, ← e3]
      walk_at "vv"
      refine ⟨x1, y1, s1', rfl, al2.ha, al2.ma, al2.at_.ok, fun H3 s3 => ?_⟩
      have al3 := al2.same s3
      have kc3 := s3 _ _ kc2
      obtain ⟨dx3, hp3⟩ := al3.ha.ob
      walk_at "vv"
      refine n_methx hp3 (hF_no (by decide +kernel)) ?_
      walk_at "vv"
      refine ⟨x1, s1', rfl, al3.ha, fun b fb => ?_⟩
      refine ⟨n_lty upd_same, ?_⟩
      refine ⟨b, _, rfl, rfl, upd_same, ?_⟩
      have s4 : Same H3 (upd (upd H3 b (.lst (s1'.log.map Row.v))) b (.lst [])) := Same.put (Same.new fb) fb
      have al4 := al3.same s4
      have kc4 := s4 _ _ kc3
      generalize upd (upd H3 b (.lst (s1'.log.map Row.v))) b (.lst []) = H4 at *
      obtain ⟨dx4, hp4⟩ := al4.ha.ob
      walk_at "vv"
      refine n_methx hp4 (hF_no (by decide +kernel)) ?_
      walk_at "vv"
      refine ⟨x1, s1', rfl, al4.ha, al4.at_.ok.few, fun g fg => ?_⟩
      refine ⟨n_lty upd_same, ?_⟩
      walk_at "vv"
      refine ⟨g, _, .int 5, rfl, rfl, upd_same, ?_, ?_⟩
      · rw [List.length_map, sortA_len]
        have := al4.at_.ok.few
        exact Nat.lt_of_le_of_lt (m := 50) this (by decide)
      have s5 : Same H4 (upd (upd H4 g (.lst ((sortA s1'.asks).map V.int))) g (.lst ((sortA s1'.asks).map V.int ++ [.int 5]))) := Same.put (Same.new fg) fg
      walk_at "vv"
      exact ⟨x1, y1, z1, s1', ws1, some (.int k), rfl, s5 _ _ kc4, al4.same s5⟩
    · rintro σ H' ⟨x, y, z, s, ws, v, rfl, kc, al⟩
      walk_at "vv"
      exact ⟨x, y, s, rfl, al.ha, al.ma, al.at_.ok, fun H'' _ => hQ H''⟩
end
end Ck

namespace Ck
open PySem PySem.Spec PyProof.Rows L2 Ckh
theorem gd_of {K : PySem.W.Frag} {h : Heap} {mg : Str → Option Value} {x : Str} {st : Stmt} (X : K.In h) (G : h.Ns mainGlobals mg) (c : He.SaysD fa fn K) (i j : Nat) (hd : fn[i]? = some ⟨(x, none), x, x, defArgs st, defBody st, defScope st, [], []⟩) (hf : fa[j]? = some (.glo x)) : GD K mg x st := by
  obtain ⟨fd, F⟩ := c.def_ i hd
  exact ⟨⟨_, fd, F, He.glo_ok X G (c.fact j hf)⟩⟩
theorem md_of {K : PySem.W.Frag} {C m q : Str} {st : Stmt} (c : He.SaysD fa fn K) (i j k : Nat) (hd : fn[i]? = some ⟨(C, some m), m, q, defArgs st, defBody st, defScope st, [], []⟩) (hf : fa[j]? = some (.meth C m)) (hc : fa[k]? = some (.cls C)) : MD K (He.ga K C) m q st := by
  obtain ⟨fd, F⟩ := c.def_ i hd
  exact ⟨He.cls_ok (c.fact k hc), ⟨_, fd, F, He.meth_ok (c.fact j hf)⟩⟩
theorem nd_of {K : PySem.W.Frag} {h : Heap} {mg : Str → Option Value} {C q : Str} {st : Stmt} (X : K.In h) (G : h.Ns mainGlobals mg) (c : He.SaysD fa fn K) (i j k : Nat) (hd : fn[i]? = some ⟨(C, some "__init__"), "__init__", q, defArgs st, defBody st, defScope st, [], []⟩) (hf : fa[j]? = some (.mkr C)) (hc : fa[k]? = some (.glo C)) : ND K mg C (He.ga K C) q st := by
  obtain ⟨fd, F⟩ := c.def_ i hd
  exact ⟨He.glo_ok X G (c.fact k hc), ⟨_, fd, F, He.mkr_ok (c.fact j hf)⟩⟩
theorem exk {K : PySem.W.Frag} (h : ex K = true) (i : Nat) {f : PySem.W.Frag → Bool} (hf : exs[i]? = some f) : f K = true := List.all_eq_true.mp h f (List.mem_of_getElem? hf)
def adOf (K : PySem.W.Frag) : Ad := ⟨He.ga K "House", He.ga K "Chain", He.ga K "LENGTHS", He.ga K "NotHead", He.ga K "NoAsk", He.ga K "NotReady", He.ga K "ChainError"⟩
theorem txt_of {w : World} {K : PySem.W.Frag} {h : Heap} {mg : Str → Option Value} (X : K.In h) (G : h.Ns mainGlobals mg) (c : He.SaysX fa fn ts [] ex w h K) : Txt w K mg (adOf K) := by
  have d := c.t.d
  have e := c.more
  exact {
    b_isinstance := He.free_ok X G (d.fact 0 rfl)
    b_len := He.free_ok X G (d.fact 1 rfl)
    b_all := He.free_ok X G (d.fact 2 rfl)
    b_set := He.free_ok X G (d.fact 3 rfl)
    b_list := He.free_ok X G (d.fact 4 rfl)
    b_tuple := He.free_ok X G (d.fact 5 rfl)
    b_sorted := He.free_ok X G (d.fact 6 rfl)
    b_max := He.free_ok X G (d.fact 7 rfl)
    b_min := He.free_ok X G (d.fact 8 rfl)
    b_range := He.free_ok X G (d.fact 9 rfl)
    b_enumerate := He.free_ok X G (d.fact 10 rfl)
    b_int := He.free_ok X G (d.fact 11 rfl)
    b_str := He.free_ok X G (d.fact 12 rfl)
    b_bool := He.free_ok X G (d.fact 13 rfl)
    g_MOST_LETTERS := by
      obtain ⟨t, q⟩ := He.int_ok X G (d.fact 14 rfl)
      exact ⟨_, q, ⟨t, rfl⟩⟩
    g_MOST_ROWS := by
      obtain ⟨t, q⟩ := He.int_ok X G (d.fact 15 rfl)
      exact ⟨_, q, ⟨t, rfl⟩⟩
    g_MOST_HOUSES := by
      obtain ⟨t, q⟩ := He.int_ok X G (d.fact 16 rfl)
      exact ⟨_, q, ⟨t, rfl⟩⟩
    g_ALPHABET := by
      obtain ⟨t, q⟩ := He.str_ok X G (d.fact 17 rfl)
      exact ⟨_, q, ⟨t, rfl⟩⟩
    g_LENGTHS := ⟨_, He.glo_ok X G (d.fact 18 rfl), rfl⟩
    kd := c.t.tab 0 rfl
    k_rows := He.valsB_ok (exk e 32 rfl) (q := ("rows", .int 6)) (List.Mem.head _)
    k_told := He.valsB_ok (exk e 32 rfl) (q := ("told", .int 5)) (List.Mem.tail _ (List.Mem.head _))
    k_which := He.valsB_ok (exk e 32 rfl) (q := ("which", .int 5)) (List.Mem.tail _ (List.Mem.tail _ (List.Mem.head _)))
    k_that := He.valsB_ok (exk e 32 rfl) (q := ("that", .int 6)) (List.Mem.tail _ (List.Mem.tail _ (List.Mem.tail _ (List.Mem.head _))))
    clH := He.cls_ok (d.fact 19 rfl)
    clC := He.cls_ok (d.fact 20 rfl)
    h_name := He.noat_ok (d.fact 21 rfl)
    h_own := He.noat_ok (d.fact 22 rfl)
    h_kept := He.noat_ok (d.fact 23 rfl)
    h_sure := He.noat_ok (d.fact 24 rfl)
    h_able := He.noat_ok (d.fact 25 rfl)
    h_asks := He.noat_ok (d.fact 26 rfl)
    c_number := He.noat_ok (d.fact 27 rfl)
    c_houses := He.noat_ok (d.fact 28 rfl)
    x_Chain := ⟨_, He.glo_ok X G (d.fact 29 rfl), rfl⟩
    x_NotHead := ⟨_, He.glo_ok X G (d.fact 31 rfl), rfl⟩
    x_NoAsk := ⟨_, He.glo_ok X G (d.fact 32 rfl), rfl⟩
    x_NotReady := ⟨_, He.glo_ok X G (d.fact 33 rfl), rfl⟩
    e_NotHead := by
      obtain ⟨q1, q2, q3, q4⟩ := He.exc_ok (d.fact 35 rfl)
      exact ⟨q1, He.glo_ok X G (d.fact 31 rfl), q2, q3, q4, ⟨He.eqO_ok (exk e 0 rfl), He.eqO_ok (exk e 1 rfl), of_decide_eq_true (exk e 2 rfl), exk e 3 rfl, He.eqO_ok (exk e 4 rfl), He.eqO_ok (exk e 29 rfl), of_decide_eq_true (exk e 30 rfl), of_decide_eq_true (exk e 5 rfl)⟩⟩
    e_NoAsk := by
      obtain ⟨q1, q2, q3, q4⟩ := He.exc_ok (d.fact 37 rfl)
      exact ⟨q1, He.glo_ok X G (d.fact 32 rfl), q2, q3, q4, ⟨He.eqO_ok (exk e 6 rfl), He.eqO_ok (exk e 7 rfl), of_decide_eq_true (exk e 8 rfl), exk e 9 rfl, He.eqO_ok (exk e 10 rfl), He.eqO_ok (exk e 29 rfl), of_decide_eq_true (exk e 30 rfl), of_decide_eq_true (exk e 11 rfl)⟩⟩
    e_NotReady := by
      obtain ⟨q1, q2, q3, q4⟩ := He.exc_ok (d.fact 39 rfl)
      exact ⟨q1, He.glo_ok X G (d.fact 33 rfl), q2, q3, q4, ⟨He.eqO_ok (exk e 12 rfl), He.eqO_ok (exk e 13 rfl), of_decide_eq_true (exk e 14 rfl), exk e 15 rfl, He.eqO_ok (exk e 16 rfl), He.eqO_ok (exk e 29 rfl), of_decide_eq_true (exk e 30 rfl), of_decide_eq_true (exk e 17 rfl)⟩⟩
    g_CE := He.glo_ok X G (d.fact 34 rfl)
    mHC := He.exm_ok (d.fact 36 rfl)
    mAC := He.exm_ok (d.fact 38 rfl)
    mRC := He.exm_ok (d.fact 40 rfl)
    kHH := of_decide_eq_true (exk e 18 rfl)
    kHA := of_decide_eq_true (exk e 19 rfl)
    kHR := of_decide_eq_true (exk e 20 rfl)
    kAH := of_decide_eq_true (exk e 21 rfl)
    kAA := of_decide_eq_true (exk e 22 rfl)
    kAR := of_decide_eq_true (exk e 23 rfl)
    kRH := of_decide_eq_true (exk e 24 rfl)
    kRA := of_decide_eq_true (exk e 25 rfl)
    kRR := of_decide_eq_true (exk e 26 rfl)
    kCC := of_decide_eq_true (exk e 27 rfl)
    iC1 := He.eqO_ok (exk e 28 rfl)
    iC2 := He.eqO_ok (exk e 29 rfl)
    iC3 := of_decide_eq_true (exk e 30 rfl)
    iC4 := of_decide_eq_true (exk e 31 rfl)
    neEH := by
      have q := exk e 33 rfl
      simp only [Bool.not_eq_true', Bool.or_eq_false_iff, decide_eq_false_iff_not] at q
      exact q }
theorem facts {P : Program} {w : World} {K : PySem.W.Frag} {h : Heap} {mg : Str → Option Value} {f : Addr} (X : K.In h) (G : h.Ns mainGlobals mg) (hfa : mg ("law" : Str) = some (.ref f)) (c : He.SaysX fa fn ts [] ex w h K) :
    ∃ fd : FuncData, (∀ (s : Shared) (v : Value), BindsTo s fd ⟨[v], []⟩ [("_law_script", v)]) ∧ ∀ base : Heap, K.In base → base.Ns mainGlobals mg → FnOk P w K mg base CX0 9 f fd ["_law_script"] (sp_law K) := by
  have T := txt_of X G c
  have d := c.t.d
  have d_is_whole : GD K mg "is_whole" s_is_whole := gd_of X G d 0 41 rfl rfl
  have d_is_count : GD K mg "is_count" s_is_count := gd_of X G d 1 42 rfl rfl
  have d_is_name : GD K mg "is_name" s_is_name := gd_of X G d 2 43 rfl rfl
  have d_is_row : GD K mg "is_row" s_is_row := gd_of X G d 3 44 rfl rfl
  have d_last_worth : GD K mg "last_worth" s_last_worth := gd_of X G d 4 45 rfl rfl
  have d_place_in : GD K mg "place_in" s_place_in := gd_of X G d 5 46 rfl rfl
  have d_are_houses : GD K mg "are_houses" s_are_houses := gd_of X G d 6 47 rfl rfl
  have d_C_init : ND K mg "Chain" (He.ga K "Chain") "Chain.__init__" s_C_init := nd_of X G d 7 48 29 rfl rfl rfl
  have d_C_place : MD K (He.ga K "Chain") "place" "Chain.place" s_C_place := md_of d 8 49 20 rfl rfl rfl
  have d_C_ahead_of : MD K (He.ga K "Chain") "ahead_of" "Chain.ahead_of" s_C_ahead_of := md_of d 9 50 20 rfl rfl rfl
  have d_C_behind : MD K (He.ga K "Chain") "behind" "Chain.behind" s_C_behind := md_of d 10 51 20 rfl rfl rfl
  have d_is_letter : GD K mg "is_letter" s_is_letter := gd_of X G d 11 52 rfl rfl
  have d_H_init : ND K mg "House" (He.ga K "House") "House.__init__" s_H_init := nd_of X G d 12 53 30 rfl rfl rfl
  have d_H_chain_number : MD K (He.ga K "House") "chain_number" "House.chain_number" s_H_chain_number := md_of d 13 54 19 rfl rfl rfl
  have d_H_log : MD K (He.ga K "House") "log" "House.log" s_H_log := md_of d 14 55 19 rfl rfl rfl
  have d_H_told_many : MD K (He.ga K "House") "told_many" "House.told_many" s_H_told_many := md_of d 15 56 19 rfl rfl rfl
  have d_H_is_ready : MD K (He.ga K "House") "is_ready" "House.is_ready" s_H_is_ready := md_of d 16 57 19 rfl rfl rfl
  have d_H_waiting : MD K (He.ga K "House") "waiting" "House.waiting" s_H_waiting := md_of d 17 58 19 rfl rfl rfl
  have d_H_stands : MD K (He.ga K "House") "stands" "House.stands" s_H_stands := md_of d 18 59 19 rfl rfl rfl
  have d_H_is_tail : MD K (He.ga K "House") "is_tail" "House.is_tail" s_H_is_tail := md_of d 19 60 19 rfl rfl rfl
  have d_H_letter : MD K (He.ga K "House") "letter" "House.letter" s_H_letter := md_of d 20 61 19 rfl rfl rfl
  have d_H_rows_behind : MD K (He.ga K "House") "rows_behind" "House.rows_behind" s_H_rows_behind := md_of d 21 62 19 rfl rfl rfl
  have d_H_told_ahead : MD K (He.ga K "House") "told_ahead" "House.told_ahead" s_H_told_ahead := md_of d 22 63 19 rfl rfl rfl
  have d_H_asked_tail : MD K (He.ga K "House") "asked_tail" "House.asked_tail" s_H_asked_tail := md_of d 23 64 19 rfl rfl rfl
  have d_H_told_all : MD K (He.ga K "House") "told_all" "House.told_all" s_H_told_all := md_of d 24 65 19 rfl rfl rfl
  have d_H_answered_all : MD K (He.ga K "House") "answered_all" "House.answered_all" s_H_answered_all := md_of d 25 66 19 rfl rfl rfl
  have d_H_adopt : MD K (He.ga K "House") "adopt" "House.adopt" s_H_adopt := md_of d 26 67 19 rfl rfl rfl
  have d_H_write : MD K (He.ga K "House") "write" "House.write" s_H_write := md_of d 27 68 19 rfl rfl rfl
  have d_H_read : MD K (He.ga K "House") "read" "House.read" s_H_read := md_of d 28 69 19 rfl rfl rfl
  have d_H_take : MD K (He.ga K "House") "take" "House.take" s_H_take := md_of d 29 70 19 rfl rfl rfl
  have d_H_take_rows : MD K (He.ga K "House") "take_rows" "House.take_rows" s_H_take_rows := md_of d 30 71 19 rfl rfl rfl
  have d_H_take_told : MD K (He.ga K "House") "take_told" "House.take_told" s_H_take_told := md_of d 31 72 19 rfl rfl rfl
  have d_H_take_which : MD K (He.ga K "House") "take_which" "House.take_which" s_H_take_which := md_of d 32 73 19 rfl rfl rfl
  have d_H_take_that : MD K (He.ga K "House") "take_that" "House.take_that" s_H_take_that := md_of d 33 74 19 rfl rfl rfl
  have d_H_again : MD K (He.ga K "House") "again" "House.again" s_H_again := md_of d 34 75 19 rfl rfl rfl
  have d_l_cell_at : GD K mg "_law_cell_at" s_l_cell_at := gd_of X G d 35 76 rfl rfl
  have d_l_source : GD K mg "_law_source" s_l_source := gd_of X G d 36 77 rfl rfl
  have d_l_next : GD K mg "_law_next" s_l_next := gd_of X G d 37 78 rfl rfl
  have d_l_word : GD K mg "_law_word" s_l_word := gd_of X G d 38 79 rfl rfl
  have d_l_row : GD K mg "_law_row" s_l_row := gd_of X G d 39 80 rfl rfl
  have d_l_log : GD K mg "_law_log" s_l_log := gd_of X G d 40 81 rfl rfl
  have d_l_last : GD K mg "_law_last" s_l_last := gd_of X G d 41 82 rfl rfl
  have d_l_house : GD K mg "_law_house" s_l_house := gd_of X G d 42 83 rfl rfl
  have d_l_ahead : GD K mg "_law_ahead" s_l_ahead := gd_of X G d 43 84 rfl rfl
  have d_l_behind : GD K mg "_law_behind" s_l_behind := gd_of X G d 44 85 rfl rfl
  have d_l_letter : GD K mg "_law_letter" s_l_letter := gd_of X G d 45 86 rfl rfl
  have d_l_told_up : GD K mg "_law_told_up" s_l_told_up := gd_of X G d 46 87 rfl rfl
  have d_l_rows_down : GD K mg "_law_rows_down" s_l_rows_down := gd_of X G d 47 88 rfl rfl
  have d_l_asked : GD K mg "_law_asked" s_l_asked := gd_of X G d 48 89 rfl rfl
  have d_l_written : GD K mg "_law_written" s_l_written := gd_of X G d 49 90 rfl rfl
  have d_l_adopted : GD K mg "_law_adopted" s_l_adopted := gd_of X G d 50 91 rfl rfl
  have d_l_stands : GD K mg "_law_stands" s_l_stands := gd_of X G d 51 92 rfl rfl
  have d_l_put : GD K mg "_law_put" s_l_put := gd_of X G d 52 93 rfl rfl
  have d_l_read : GD K mg "_law_read" s_l_read := gd_of X G d 53 94 rfl rfl
  have d_l_took : GD K mg "_law_took" s_l_took := gd_of X G d 54 95 rfl rfl
  have d_l_took_rows : GD K mg "_law_took_rows" s_l_took_rows := gd_of X G d 55 96 rfl rfl
  have d_l_tried : GD K mg "_law_tried" s_l_tried := gd_of X G d 56 97 rfl rfl
  have d_l_same : GD K mg "_law_same" s_l_same := gd_of X G d 57 98 rfl rfl
  have d_l_brought : GD K mg "_law_brought" s_l_brought := gd_of X G d 58 99 rfl rfl
  have d_l_world : GD K mg "_law_world" s_l_world := gd_of X G d 59 100 rfl rfl
  have d_l_names : GD K mg "_law_names" s_l_names := gd_of X G d 60 101 rfl rfl
  have d_l_changed : GD K mg "_law_changed" s_l_changed := gd_of X G d 61 102 rfl rfl
  have d_l_new_row : GD K mg "_law_new_row" s_l_new_row := gd_of X G d 62 103 rfl rfl
  have d_l_letter_for : GD K mg "_law_letter_for" s_l_letter_for := gd_of X G d 63 104 rfl rfl
  have d_l_said : GD K mg "_law_said" s_l_said := gd_of X G d 64 105 rfl rfl
  have d_l_wrote : GD K mg "_law_wrote" s_l_wrote := gd_of X G d 65 106 rfl rfl
  have d_l_asked_one : GD K mg "_law_asked_one" s_l_asked_one := gd_of X G d 66 107 rfl rfl
  have d_l_deed : GD K mg "_law_deed" s_l_deed := gd_of X G d 67 108 rfl rfl
  obtain ⟨fd, F⟩ := d.def_ 68 (d := D_law) rfl
  have e := hfa.symm.trans (He.glo_ok X G (d.fact 109 (f := .glo "law") rfl))
  cases e
  have b := FunD.bindsA (ps := ["_law_script"]) F fun _ _ _ _ _ _ us hl => match us, hl with | [_], _ => rfl
  refine ⟨fd, fun s v => b s [v] rfl, fun base _ _ => ?_⟩
  have c_is_whole := ok_is_whole (P := P) (w := w) (base := base) T d_is_whole
  have c_is_count := ok_is_count (P := P) (w := w) (base := base) T d_is_count c_is_whole
  have c_is_name := ok_is_name (P := P) (w := w) (base := base) T d_is_name
  have c_is_row := ok_is_row (P := P) (w := w) (base := base) T d_is_row c_is_name c_is_count
  have c_last_worth := ok_last_worth (P := P) (w := w) (base := base) T d_last_worth
  have c_place_in := ok_place_in (P := P) (w := w) (base := base) T d_place_in
  have c_are_houses := ok_are_houses (P := P) (w := w) (base := base) T d_are_houses c_is_name
  have k_Chain := ok_C_init (P := P) (w := w) (base := base) T d_C_init c_is_count c_are_houses
  have c_C_place := ok_C_place (P := P) (w := w) (base := base) T d_C_place c_is_name
  have c_C_ahead_of := ok_C_ahead_of (P := P) (w := w) (base := base) T d_C_ahead_of c_C_place
  have c_C_behind := ok_C_behind (P := P) (w := w) (base := base) T d_C_behind c_C_place
  have c_is_letter := ok_is_letter (P := P) (w := w) (base := base) T d_is_letter c_is_name c_is_count c_is_row
  have k_House := ok_H_init (P := P) (w := w) (base := base) T d_H_init
  have c_H_chain_number := ok_H_chain_number (P := P) (w := w) (base := base) T d_H_chain_number
  have c_H_log := ok_H_log (P := P) (w := w) (base := base) T d_H_log
  have c_H_told_many := ok_H_told_many (P := P) (w := w) (base := base) T d_H_told_many
  have c_H_is_ready := ok_H_is_ready (P := P) (w := w) (base := base) T d_H_is_ready
  have c_H_waiting := ok_H_waiting (P := P) (w := w) (base := base) T d_H_waiting
  have c_H_stands := ok_H_stands (P := P) (w := w) (base := base) T d_H_stands
  have c_H_is_tail := ok_H_is_tail (P := P) (w := w) (base := base) T d_H_is_tail
  have c_H_letter := ok_H_letter (P := P) (w := w) (base := base) T d_H_letter
  have c_H_rows_behind := ok_H_rows_behind (P := P) (w := w) (base := base) T d_H_rows_behind c_H_letter c_C_behind
  have c_H_told_ahead := ok_H_told_ahead (P := P) (w := w) (base := base) T d_H_told_ahead c_H_letter c_C_ahead_of
  have c_H_asked_tail := ok_H_asked_tail (P := P) (w := w) (base := base) T d_H_asked_tail c_H_letter c_H_waiting
  have c_H_told_all := ok_H_told_all (P := P) (w := w) (base := base) T d_H_told_all
  have c_H_answered_all := ok_H_answered_all (P := P) (w := w) (base := base) T d_H_answered_all c_H_waiting c_last_worth
  have c_H_adopt := ok_H_adopt (P := P) (w := w) (base := base) T d_H_adopt c_H_told_all c_H_is_tail c_H_answered_all c_H_told_ahead c_H_asked_tail c_H_rows_behind
  have x_H_write := ok_H_write (P := P) (w := w) (base := base) T d_H_write c_is_row c_place_in c_H_stands c_H_is_tail c_H_told_all c_H_rows_behind
  have x_H_read := ok_H_read (P := P) (w := w) (base := base) T d_H_read c_is_count c_is_name c_last_worth c_H_stands c_H_is_tail c_H_letter
  have c_H_take_rows := ok_H_take_rows (P := P) (w := w) (base := base) T d_H_take_rows c_C_ahead_of c_H_is_tail c_H_told_all c_H_told_ahead c_H_rows_behind
  have c_H_take_told := ok_H_take_told (P := P) (w := w) (base := base) T d_H_take_told c_C_behind c_H_told_ahead
  have c_H_take_which := ok_H_take_which (P := P) (w := w) (base := base) T d_H_take_which c_H_is_tail c_H_letter
  have c_H_take_that := ok_H_take_that (P := P) (w := w) (base := base) T d_H_take_that c_last_worth
  have c_H_take := ok_H_take (P := P) (w := w) (base := base) T d_H_take c_is_letter c_H_take_rows c_H_take_told c_H_take_which c_H_take_that
  have c_H_again := ok_H_again (P := P) (w := w) (base := base) T d_H_again c_H_stands c_H_is_tail c_H_told_ahead c_H_asked_tail c_H_rows_behind
  have c_l_cell_at := ok_l_cell_at (P := P) (w := w) (base := base) T d_l_cell_at
  have c_l_source := ok_l_source (P := P) (w := w) (base := base) T d_l_source
  have c_l_next := ok_l_next (P := P) (w := w) (base := base) d_l_next
  have c_l_word := ok_l_word (P := P) (w := w) (base := base) T d_l_word c_l_next
  have c_l_row := ok_l_row (P := P) (w := w) (base := base) d_l_row c_l_next c_l_word
  have c_l_log := ok_l_log (P := P) (w := w) (base := base) T d_l_log c_l_row
  have c_l_last := ok_l_last (P := P) (w := w) (base := base) T d_l_last
  have c_l_house := ok_l_house (P := P) (w := w) (base := base) d_l_house
  have c_l_ahead := ok_l_ahead (P := P) (w := w) (base := base) d_l_ahead
  have c_l_behind := ok_l_behind (P := P) (w := w) (base := base) T d_l_behind
  have c_l_letter := ok_l_letter (P := P) (w := w) (base := base) d_l_letter
  have c_l_told_up := ok_l_told_up (P := P) (w := w) (base := base) d_l_told_up c_l_ahead c_l_letter
  have c_l_rows_down := ok_l_rows_down (P := P) (w := w) (base := base) T d_l_rows_down c_l_behind c_l_letter
  have c_l_asked := ok_l_asked (P := P) (w := w) (base := base) T d_l_asked c_l_letter
  have c_l_written := ok_l_written (P := P) (w := w) (base := base) T d_l_written
  have c_l_adopted := ok_l_adopted (P := P) (w := w) (base := base) T d_l_adopted c_l_last c_l_behind c_l_told_up c_l_asked c_l_rows_down c_l_written
  have c_l_stands := ok_l_stands (P := P) (w := w) (base := base) d_l_stands
  have c_l_put := ok_l_put (P := P) (w := w) (base := base) T d_l_put c_l_stands c_l_ahead c_l_behind c_l_rows_down c_l_written
  have c_l_read := ok_l_read (P := P) (w := w) (base := base) T d_l_read c_l_last c_l_stands c_l_behind c_l_letter
  have c_l_took_rows := ok_l_took_rows (P := P) (w := w) (base := base) T d_l_took_rows c_l_ahead c_l_behind c_l_rows_down c_l_written c_l_told_up
  have c_l_took := ok_l_took (P := P) (w := w) (base := base) T d_l_took c_l_last c_l_letter c_l_behind c_l_took_rows c_l_told_up
  have c_l_tried := ok_l_tried (P := P) (w := w) (base := base) d_l_tried c_l_stands c_l_behind c_l_told_up c_l_asked c_l_rows_down
  have c_l_same := ok_l_same (P := P) (w := w) (base := base) T d_l_same c_H_chain_number c_H_log c_H_told_many c_H_is_ready c_H_waiting
  have c_l_brought := ok_l_brought (P := P) (w := w) (base := base) T d_l_brought
  have c_l_world := ok_l_world (P := P) (w := w) (base := base) T d_l_world c_l_next c_l_log
  have c_l_names := ok_l_names (P := P) (w := w) (base := base) d_l_names
  have c_l_changed := ok_l_changed (P := P) (w := w) (base := base) T d_l_changed c_l_next c_l_names
  have c_l_new_row := ok_l_new_row (P := P) (w := w) (base := base) T d_l_new_row c_l_next c_l_row
  have c_l_letter_for := ok_l_letter_for (P := P) (w := w) (base := base) T d_l_letter_for c_l_next c_l_names
  have c_l_said := ok_l_said (P := P) (w := w) (base := base) T d_l_said x_H_write x_H_read
  have c_l_wrote := ok_l_wrote (P := P) (w := w) (base := base) T d_l_wrote c_l_new_row c_l_put c_l_said c_l_brought
  have c_l_asked_one := ok_l_asked_one (P := P) (w := w) (base := base) T d_l_asked_one c_l_next c_l_read c_l_said c_l_brought
  have c_l_deed := ok_l_deed (P := P) (w := w) (base := base) T d_l_deed c_l_next c_l_changed c_l_names c_l_brought c_H_adopt k_Chain c_l_adopted c_H_again c_l_tried c_l_wrote c_l_asked_one c_l_letter_for c_H_take c_l_took
  exact fok F sc_law.sc (fun vs H Q E h => by obtain ⟨sc, ns, rfl, _⟩ := h; rfl) (bod_law T c_l_source c_l_cell_at c_l_world k_House c_l_house c_l_same c_l_next c_H_adopt k_Chain c_l_names c_l_adopted c_l_deed c_H_log c_H_waiting)
end Ck
open PySem PySem.W PySem.Calls PyProof.Rows
theorem PySem.Challenge.cw_chainkept_k13_whole_any_row_of_deeds_holds : PySem.Challenge.rw_chainkept_k13_whole_any_row_of_deeds.Holds := by
  w_on; o_law
  refine HandSHeadRun.head_any (r := OpenLaw.row PySem.Challenge.rw_chainkept_k13_whole_any_row_of_deeds) (q := view (OpenLaw.row PySem.Challenge.rw_chainkept_k13_whole_any_row_of_deeds).prog [62]) (H := Ckh.hk) (ob := Ckh.ob) (M := 20000) (loose := Ckh.loose) (d := HandSHeadRun.topDef (OpenLaw.row PySem.Challenge.rw_chainkept_k13_whole_any_row_of_deeds).prog 62) (kwd := []) Ckh.ob_eq
    (by kernel_rfl) (fun s => by kernel_rfl) Ckh.run (by kernel_rfl) (by kernel_rfl) (by kernel_rfl) (by rfl) (by first | assumption | decide +kernel) (by decide +kernel) ⟨rfl, rfl, rfl, rfl, rfl, by decide +kernel⟩ ?hw ?hc
  case hw => w_witness2
  case hc =>
    refine L2.walk_ofE (l := PySem.Challenge.rw_chainkept_k13_whole_any_row_of_deeds) (n := 63) (k := 9) (x := "_law_script") (CX := L2.CX0) rfl (by decide) (by kernel_rfl) ⟨rfl, by decide, by decide⟩ ?F (fun _ _ _ _ z => z)
    intro w mg fa h Y G hmg0
    obtain ⟨K, KX, c⟩ := Y
    have hmg : mg ("law" : PySem.Str) = some (.ref fa) := by
      have e : (HandSHeadRun.topDef (OpenLaw.row PySem.Challenge.rw_chainkept_k13_whole_any_row_of_deeds).prog 62).name = ("law" : PySem.Str) := by kernel_rfl
      rw [← e]
      exact hmg0
    obtain ⟨fd, hb, hF⟩ := Ck.facts (P := (PySem.Challenge.rw_chainkept_k13_whole_any_row_of_deeds).prog) (w := w) KX G hmg c
    exact ⟨K, fd, Ck.sp_law K, KX, hb, fun H a ns hl _ hS => ⟨a, ns, rfl, hS, fun _ => rfl⟩, hF⟩
