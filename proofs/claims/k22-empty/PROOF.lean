import PyProof.Rows.All
import Wide.All
import OpenK.AllK
import Wide.FinOn
import KE.KStateDown
import HandS.ForExc
import HandS.ForMost
import HandS.Defaults
import HandS.Walk
import HandS.FStr
import HandS.StrMore
import HandS.Replace
import HandS.Codes
import HandS.Flow
import HandS.IsInst
import HandS.SortInts
import HandS.Deep
import HandS.Zip
import HandS.Wide
import HandS.Steps
import HandS.NoneIn
import HandS.Style
import HandS.RaiseMore
import HandS.Head0
import HandS.Head1
import HandS.Head2
import HandS.HeadEnd
import HandS.HeadHook1
import HandS.HeadHook2
import Wide.Once
import HandS.ExcInit
import HandS.ExcField
import HandS.ExcIs
import HandS.TryMany
import HandS.RaiseFrom
import HandS.Nested
import KE.KExcSuper
import HandS.MakeKwOnly
import HandS.MakeKw
import HandS.ExcOwn
import HandS.WordsExc
import HandS.TryOnly
import KE.KExcIs
import HandS.Iter
import PySem.Challenge.RW_clearfloor_k22_an_empty_journal_is_writt
set_option Elab.async false
set_option linter.all false
set_option maxRecDepth 100000
set_option maxHeartbeats 4000000
/-! my own short words over the hand layer: callees, readings by kind, repr -/
namespace Cf
open PySem PySem.Spec PyProof.Rows L2

/-! readings by name -/
abbrev rAddI : R2 := rI0 fun i j => .int (i + j)
abbrev rSubI : R2 := rI0 fun i j => .int (i - j)
abbrev rMulI : R2 := rI CMul fun i j => .int (i * j)
abbrev rDivI : R2 := rI CDiv fun i j => .int (i / j)
abbrev rModI : R2 := rI (fun _ j => 0 < j) fun i j => .int (i % j)
abbrev rModN : R2 := rI (fun _ j => j ≠ 0) fun i j => .int (i.fmod j)
abbrev rPowI : R2 := rI CPow fun i j => .int (i ^ j.toNat)
abbrev rXorI : R2 := rI0 fun i j => .int (Builtin.bitXor i j)
abbrev rShrI : R2 := rI (fun _ j => 0 ≤ j) fun i j => .int (i / 2 ^ j.toNat)
abbrev rLtI : R2 := rI0 fun i j => .bl (decide (i < j))
abbrev rLeI : R2 := rI0 fun i j => .bl (decide (i ≤ j))
abbrev rGtI : R2 := rI0 fun i j => .bl (decide (j < i))
abbrev rGeI : R2 := rI0 fun i j => .bl (decide (j ≤ i))
abbrev rAddT : R2 := fun x y H Q => ∃ i j, x = .str i ∧ y = .str j ∧ i.length + j.length ≤ sizeLine ∧ Q (.str (i ++ j)) H
abbrev rNegI : V → Hp → VK → Prop := rU fun i => .int (-i)
abbrev rIntC : List V → Hp → VK → Prop := fun xs H Q => (∃ i, xs = [.int i] ∧ Q (.int i) H) ∨ ∃ k, xs = [.bl k] ∧ Q (.int (if k then 1 else 0)) H
abbrev rStrI : List V → Hp → VK → Prop := fun xs H Q => ∃ i, xs = [.int i] ∧ i.natAbs.log2 < 1920 ∧ Q (.str (toString i)) H
abbrev rLenS (K : PySem.W.Frag) : List V → Hp → VK → Prop := fun xs H Q => ∃ p ys, xs = [.ref p] ∧ (SqL K H p ys ∨ SqT K H p ys) ∧ Q (.int ys.length) H
abbrev rLenT : List V → Hp → VK → Prop := fun xs H Q => ∃ z, xs = [.str z] ∧ z.length ≤ sizeLine ∧ Q (.int z.length) H
abbrev rMin2 : List V → Hp → VK → Prop := fun xs H Q => ∃ i j, xs = [.int i, .int j] ∧ Q (.int (if j < i then j else i)) H
abbrev rMax2 : List V → Hp → VK → Prop := fun xs H Q => ∃ i j, xs = [.int i, .int j] ∧ Q (.int (if j > i then j else i)) H
abbrev rAbs1 : List V → Hp → VK → Prop := fun xs H Q => ∃ i, xs = [.int i] ∧ Q (.int (if i < 0 then -i else i)) H
abbrev rIntStr : List V → Hp → VK → Prop := fun xs H Q => ∃ a n, xs = [.str a] ∧ PySem.intText? a = some n ∧ a.length ≤ 640 ∧ Q (.int n) H
abbrev rListOf (K : PySem.W.Frag) : List V → Hp → VK → Prop := fun xs H Q => ∃ p ys, xs = [.ref p] ∧ (SqL K H p ys ∨ SqT K H p ys) ∧ ∀ l, H l = none → Q (.ref l) (upd H l (.lst ys))
abbrev rTupOf (K : PySem.W.Frag) : List V → Hp → VK → Prop := fun xs H Q => ∃ p ys, xs = [.ref p] ∧ ((SqL K H p ys ∧ ∀ l, H l = none → Q (.ref l) (upd H l (.tup ys))) ∨ (SqT K H p ys ∧ Q (.ref p) H))
abbrev tTruth (K : PySem.W.Frag) (ta : TE) : TT := fun σ H Q => ta σ H fun x H' => ∃ k, TruV K x H' k ∧ Q k H'
abbrev tFs (ts : List TE) : TE := fun σ H Q => tJs ts Str.empty σ H fun out H1 => Q (.str out) H1
abbrev rSplit1 : V → List V → Hp → VK → Prop := fun x xs H Q => ∃ a b, x = .str a ∧ xs = [.str b] ∧ (b.length == 0) = false ∧ a.length + 2 ≤ sizeLine ∧ rNewStrs (Txt.split a b) H Q
abbrev rJoin1 (K : PySem.W.Frag) : V → List V → Hp → VK → Prop := fun x xs H Q => ∃ a p, ∃ ys : List Str, x = .str a ∧ xs = [.ref p] ∧ (SqL K H p (ys.map V.str) ∨ SqT K H p (ys.map V.str)) ∧ (ys.map (·.length)).sum + ys.length * a.length ≤ 16777216 ∧ Q (.str (Txt.join a ys)) H
abbrev rFind1 : V → List V → Hp → VK → Prop := fun x xs H Q => ∃ a b, x = .str a ∧ xs = [.str b] ∧ Q (.int (Txt.find a b)) H

/-! callees: what a call of a def, a method, a class asks -/
structure Cal (P : Program) (w : World) (K : PySem.W.Frag) (mg : Str → Option Value) (base : Heap) (CX : CXT) (k : Nat) (x : Str) (ps : List Str) (dvs : List V) (sp : Sp) : Prop where
  ex : ∃ (f : Addr) (fd : FuncData) (ds : List Value), FnOk P w K mg base CX k f fd ps sp ∧ mg x = some (.ref f) ∧ PySem.W.keepIn K (.ref f) = true ∧ Binds K fd ps ds ∧ Vals dvs ds
structure CalM (P : Program) (w : World) (K : PySem.W.Frag) (mg : Str → Option Value) (base : Heap) (CX : CXT) (k : Nat) (C : Addr) (m : Str) (ps : List Str) (dvs : List V) (sp : Sp) : Prop where
  ex : ∃ (f : Addr) (fd : FuncData) (ds : List Value), FnOk P w K mg base CX k f fd ps sp ∧ Cls K C ∧ Meth K C m f ∧ Binds K fd ps ds ∧ Vals dvs ds
structure CalC (P : Program) (w : World) (K : PySem.W.Frag) (mg : Str → Option Value) (base : Heap) (CX : CXT) (k : Nat) (x : Str) (C : Addr) (ps : List Str) (dvs : List V) (sp : Sp) : Prop where
  ex : ∃ (f : Addr) (fd : FuncData) (ds : List Value), FnOk P w K mg base CX k f fd ps sp ∧ mg x = some (.ref C) ∧ Mk K C f ∧ Binds K fd ps ds ∧ Vals dvs ds
section
variable {X : Cx} {CX : CXT} {k j : Nat} {ps : List Str} {dvs : List V} {sp : Sp} {E : XK} {x m : Str} {C : Addr} {p apos pos : Pos} {e o : Expr} {es : List Expr} {ta : TE} {t : TA}
theorem pc (F : Cal X.prog X.w X.K X.mg X.base CX k x ps dvs sp) (hr : Room j X.A) (hx : Passes CX X E) (ha : PA X (e :: es) t) (hg : Gl X x := by rfl) (hk : k ≤ j := by decide) (hd : (x == ("__debug__" : Str)) = false := by decide)
    (he : starEach (e :: es) X.env = (false, eval e X.env) :: starEach es X.env := by rfl) (hp : (backTo pos (starEach es X.env)).any (·.1) = false := by rfl) : PE X (.Call (.Name x p) (e :: es) [] pos) (tCall sp dvs E t) := by
  obtain ⟨f, fd, ds, h1, h2, h3, h4, h5⟩ := F.ex
  exact pe_call h1 (hr.mono hk) hg h2 h3 h4 h5 hx ha hd he hp
theorem pc0 (F : Cal X.prog X.w X.K X.mg X.base CX k x ps dvs sp) (hr : Room j X.A) (hx : Passes CX X E) (hg : Gl X x := by rfl) (hk : k ≤ j := by decide) (hd : (x == ("__debug__" : Str)) = false := by decide) : PE X (.Call (.Name x p) [] [] pos) (tCall sp dvs E tNil) := by
  obtain ⟨f, fd, ds, h1, h2, h3, h4, h5⟩ := F.ex
  exact pe_call0 h1 (hr.mono hk) hg h2 h3 h4 h5 hx hd
theorem pcm {pl : Sem Bool} (ho : PE X o ta) (F : CalM X.prog X.w X.K X.mg X.base CX k C m ps dvs sp) (hr : Room j X.A) (hx : Passes CX X E) (ha : PA X (e :: es) t) (hk : k ≤ j := by decide)
    (he : starEach (e :: es) X.env = (false, eval e X.env) :: starEach es X.env := by rfl) (hp : (backTo pos (starEach es X.env)).any (·.1) = false := by rfl)
    (ht : eval (.Call (.Attribute o m apos) (e :: es) [] pos) X.env = (do let ov ← eval o X.env; standAt apos.atName; let (f, first) ← holding [ov] (getMethod ov m pl); callWith pos f first (backTo pos (starEach (e :: es) X.env)) (backToKw pos (keywordEach [] X.env))) := by rfl) :
    PE X (.Call (.Attribute o m apos) (e :: es) [] pos) (tMeth C m sp dvs E ta t) := by
  obtain ⟨f, fd, ds, h1, h2, h3, h4, h5⟩ := F.ex
  exact pe_meth ho h2 h3 h1 (hr.mono hk) h4 h5 hx ha he hp ht
theorem pcm0 {pl : Sem Bool} (ho : PE X o ta) (F : CalM X.prog X.w X.K X.mg X.base CX k C m ps dvs sp) (hr : Room j X.A) (hx : Passes CX X E) (hk : k ≤ j := by decide)
    (ht : eval (.Call (.Attribute o m apos) [] [] pos) X.env = (do let ov ← eval o X.env; standAt apos.atName; let (f, first) ← holding [ov] (getMethod ov m pl); callWith pos f first (backTo pos (starEach [] X.env)) (backToKw pos (keywordEach [] X.env))) := by rfl) :
    PE X (.Call (.Attribute o m apos) [] [] pos) (tMeth C m sp dvs E ta tNil) := by
  obtain ⟨f, fd, ds, h1, h2, h3, h4, h5⟩ := F.ex
  exact pe_meth0 ho h2 h3 h1 (hr.mono hk) h4 h5 hx ht
theorem pcc (F : CalC X.prog X.w X.K X.mg X.base CX k x C ps dvs sp) (hr : Room j X.A) (hx : Passes CX X E) (ha : PA X (e :: es) t) (hg : Gl X x := by rfl) (hk : k + 1 ≤ j := by decide) (hd : (x == ("__debug__" : Str)) = false := by decide)
    (he : starEach (e :: es) X.env = (false, eval e X.env) :: starEach es X.env := by rfl) (hp : (backTo pos (starEach es X.env)).any (·.1) = false := by rfl) : PE X (.Call (.Name x p) (e :: es) [] pos) (tMake C sp dvs E t) := by
  obtain ⟨f, fd, ds, h1, h2, h3, h4, h5⟩ := F.ex
  exact pe_make h3 h1 (hr.mono hk) hg h2 h4 h5 hx ha hd he hp
theorem pcc0 (F : CalC X.prog X.w X.K X.mg X.base CX k x C ps dvs sp) (hr : Room j X.A) (hx : Passes CX X E) (hg : Gl X x := by rfl) (hk : k + 1 ≤ j := by decide) (hd : (x == ("__debug__" : Str)) = false := by decide) : PE X (.Call (.Name x p) [] [] pos) (tMake C sp dvs E tNil) := by
  obtain ⟨f, fd, ds, h1, h2, h3, h4, h5⟩ := F.ex
  exact pe_make0 h3 h1 (hr.mono hk) hg h2 h4 h5 hx hd
/-- units enough for == and repr of data -/
theorem hu64 {A : Around} (hr : Room j A) : A.units + 64 < cLine := by have := hr.un; omega
end

end Cf

set_option Elab.async false
set_option linter.all false
set_option maxRecDepth 100000
set_option maxHeartbeats 4000000
/-! defs that know that no repr is under way: what repr of data wants -/
namespace Cf
open PySem PySem.Spec PyProof.Rows L2

structure FnG (P : Program) (w : World) (K : PySem.W.Frag) (mg : Str → Option Value) (base : Heap) (CX : CXT) (k : Nat) (f : Addr) (fd : FuncData) (ps : List Str) (sp : Sp) : Prop where
  len : ∀ vs H Q E, sp vs H Q E → vs.length = ps.length
  run : ∀ (A : Around) (outer : List Env) (s : Shared) (H : Hp) (args : Args) (us : List Value) (vs : List V) (Q : VK) (E : XK), Room k A → A.guards = some [] → Env0 P w K mg base A outer s H →
    BindsTo s fd args (ps.zip us) → Vals vs us → sp vs H Q E → codeAny (model P w) A (.call (.ref f) args) (CR CX outer P w H s Q E) s

section
variable {P : Program} {w : World} {K : PySem.W.Frag} {mg : Str → Option Value} {base : Heap} {CX : CXT} {k : Nat} {f : Addr} {fd : FuncData} {ps N : List Str} {sp : Sp}
theorem FnG.of (F : FnOk P w K mg base CX k f fd ps sp) : FnG P w K mg base CX k f fd ps sp := ⟨F.len, fun A o s H a us vs Q E hr _ => F.run A o s H a us vs Q E hr⟩

theorem okG {x qual : Str} {params : Arguments} {body : List Stmt} {scope : Scope} {dvs : List V} {kws : List (Str × V)} (F : FunD K x qual params body scope dvs kws f fd) (S : FnScope N ps scope) (len : ∀ vs H Q E, sp vs H Q E → vs.length = ps.length)
    (hbody : ∀ (cdv : Value) (A : Around) (outer : List Env) (s : Shared) (H : Hp) (vs : List V) (Q : VK) (E : XK), Room k (A.deeper (envOfC qual scope s.heap.objs.size f cdv)) → A.guards = some [] → sp vs H Q E →
      ∃ t, PSs (cxOf CX P w K mg base N qual scope f cdv A outer s H E) body t ∧ t { nx := fun _ H' => Q .non H', rt := Q } (start N vs) H) : FnG P w K mg base CX (k + 1) f fd ps sp := by
  obtain ⟨oc, od, dV, kV, doc, pm, an, cdv, ct, osl, rfl, lk, hcd, _, _⟩ := F.ex
  refine ⟨len, fun A outer s H args us vs Q E hr hgd e0 hb r hsp => ?_⟩
  have stay : ∀ b o, base.get? b = some o → s.heap.get? b = some o := fun b o e => (e0.bs b o e).1
  have KX : K.In s.heap := e0.mod.kin.keeps stay
  have lim := e0.mod.nolimit.keeps stay
  refine codeAny_call_function hr.depth (KX _ _ lk) rfl S.co S.gen rfl (PySem.W.codeRec_of KX hcd) (hb _ _ _ _ ?_)
  refine wpAny_newFunctionEnv_cells S.kind (fun y hy => ?_) fun env he s1 x => ?_
  · obtain ⟨n, v⟩ := y
    rcases S.par n (List.of_mem_zip hy).1 with q | q
    · exact Or.inl q
    · exact Or.inr ⟨q, PySem.W.cellsFrom_some _ _ _ (Or.inl q)⟩
  subst he
  refine ⟨lim.keeps x.toInCall.keep, codeAny_func ?_⟩
  obtain ⟨t, ht, hq⟩ := hbody cdv A outer s H vs Q E (hr.deeper _) hgd hsp
  have I := inv_start (CX := CX) (P := P) (N := N) (E := E) S hr.hd e0 (len _ _ _ _ hsp) r x
  refine wpAny_mono (ht.run [] s1 (start N vs) H _ I hq) (fun fl s' hs => ?_) fun e s' hs => hs
  cases fl with
  | brk => exact hs.elim fun _ z => z.elim fun _ z => z.2.elim
  | cont => exact hs.elim fun _ z => z.elim fun _ z => z.2.elim
  | next =>
    obtain ⟨σ', H', J, q⟩ := hs
    exact ⟨V.non, H', J.os, J.bare, J.base, J.hok, rfl, q⟩
  | ret u =>
    obtain ⟨v, σ', H', J, rv, q⟩ := hs
    exact ⟨v, H', J.os, J.bare, J.base, J.hok, rv, q⟩
end

structure CalG (P : Program) (w : World) (K : PySem.W.Frag) (mg : Str → Option Value) (base : Heap) (CX : CXT) (k : Nat) (x : Str) (ps : List Str) (dvs : List V) (sp : Sp) : Prop where
  ex : ∃ (f : Addr) (fd : FuncData) (ds : List Value), FnG P w K mg base CX k f fd ps sp ∧ mg x = some (.ref f) ∧ PySem.W.keepIn K (.ref f) = true ∧ Binds K fd ps ds ∧ Vals dvs ds
section
variable {X : Cx} {CX : CXT} {k j : Nat} {ps : List Str} {dvs : List V} {sp : Sp} {E : XK} {x m : Str} {C : Addr} {p apos pos : Pos} {e o : Expr} {es : List Expr} {ta : TE} {t : TA}
theorem pcg (F : CalG X.prog X.w X.K X.mg X.base CX k x ps dvs sp) (hr : Room j X.A) (hgd : X.A.guards = some []) (hx : Passes CX X E) (ha : PA X (e :: es) t) (hg : Gl X x := by rfl) (hk : k ≤ j := by decide) (hd : (x == ("__debug__" : Str)) = false := by decide)
    (he : starEach (e :: es) X.env = (false, eval e X.env) :: starEach es X.env := by rfl) (hp : (backTo pos (starEach es X.env)).any (·.1) = false := by rfl) : PE X (.Call (.Name x p) (e :: es) [] pos) (tCall sp dvs E t) := by
  obtain ⟨f, fd, ds, F1, hm, hkp, hb, hv⟩ := F.ex
  refine ⟨fun pins s σ H Q I h => wpAny_Call_Name_kw (ld_glob I hg hm ?_ hd)⟩
  refine PySem.W.callWith_K (h₀ := X.base) I.ok.mod.kin hkp (thn (ha.run pos pins s σ H _ I h) fun us s1 ⟨vs, H1, I1, r, q⟩ => ⟨I1.kIn, ?_⟩) he hp
  have r2 : Vals (vs ++ dvs) (us ++ ds) := r.append hv
  have hl : (us ++ ds).length = ps.length := r2.length.symm.trans (F1.len _ _ _ _ q)
  refine wpAny_call (codeAny_mono (F1.run X.A X.stack s1 H1 ⟨us, []⟩ (us ++ ds) (vs ++ dvs) Q E (hr.mono hk) hgd I1.env0 (hb s1 us I1.kIn hl) r2 q) fun r s' hq => ?_)
  cases r with
  | error e => exact hx pins σ H1 s1 e s' I1 hq
  | ok fl => cases fl <;> first | exact I1.after hq | exact False.elim hq
end

/-! repr of data -/
def rRepr (K : PySem.W.Frag) : List V → Hp → VK → Prop := fun xs H Q => ∃ x d, xs = [x] ∧ Dp K H x d ∧ d.hasDict = false ∧ d.depth ≤ 64 ∧ d.showable = true ∧ d.shown.length ≤ sizeLine ∧ Q (.str d.shown) H
theorem call_repr {X : Cx} (hu : X.A.units + 70 < cLine) (hg : X.A.guards = some []) : CallR X (.builtin "repr") (rRepr X.K) := by
  intro pins s σ H xs us Q I r h
  obtain ⟨x, d, rfl, hd, h1, h2, h3, h4, q⟩ := h
  obtain ⟨u, rfl, ru⟩ := Vals.one r
  obtain ⟨as, rd⟩ := Dp.reads I d x u hd ru
  have fin : ∀ h' t tk, (∀ b o, s.heap.get? b = some o → h'.get? b = some o) → EP X pins σ Q (.str d.shown t) { s with heap := h', toks := tk } :=
    fun h' t tk k => ⟨.str d.shown, H, I.un (t' := tk) (Un.kept k) (HOk.kept I.hok k), ⟨t, rfl⟩, q⟩
  cases rd with
  | none => exact PySem.P.repr_of_none (by simpa [PyData.shown] using fin _ _ _ fun _ _ e => e)
  | bool b => exact PySem.P.repr_of_bool (by simpa [PyData.shown] using fin _ _ _ fun _ _ e => e)
  | int i t => exact PySem.P.repr_of_int (by simpa [PyData.showable] using h3) (by simpa [PyData.shown] using fin _ _ _ fun _ _ e => e)
  | str z t => exact PySem.P.repr_of_str (by simpa [PyData.shown] using fin _ _ _ fun _ _ e => e) (by simpa [PyData.shown] using h4)
  | list a b c e => exact repr_of_reads' (.list a b c e) h3 (PyData.noDict_hsm h1) hg (by omega) (fun _ _ e => e) (fun h' u tk k => fin h' u tk k) h4
  | tuple a b c e => exact repr_of_reads' (.tuple a b c e) h3 (PyData.noDict_hsm h1) hg (by omega) (fun _ _ e => e) (fun h' u tk k => fin h' u tk k) h4
  | dict => cases hd
end Cf

set_option Elab.async false
set_option linter.all false
set_option maxRecDepth 100000
set_option maxHeartbeats 4000000
/-! the law's end for a def that knows of its guards -/
namespace Cf
open PySem PySem.Spec PyProof.Rows L2

/-- from an abstract heap that knows at most the script -/
theorem call_core {P : Program} {w : World} {K : PySem.W.Frag} {mg mb : Str → Option Value} {CX : CXT} {k : Nat} {fa a : Addr} {fd : FuncData} {x : Str} {sp : Sp} {s₁ : Shared} {ob : Obj} {its : Array Value} {nn : Nat}
    (KX : K.In s₁.heap) (hns : s₁.heap.Ns mainGlobals mg) (hb : s₁.heap.Ns builtinsNs mb) (hbb : ∀ x : Str, x ≠ "__name__" → mb x = bootBuiltins x) (hlim : s₁.heap.NoLimit) (hg : s₁.gens = #[])
    (ha : s₁.heap.get? a = some ob) (hob : ob.data = .seq its nn) (hr : Room k callerA)
    (F : ∀ base : Heap, K.In base → base.Ns mainGlobals mg → FnG P w K mg base CX k fa fd [x] sp) (hbind : ∀ (s : Shared) (u : Value), BindsTo s fd ⟨[u], []⟩ [(x, u)])
    (H : Hp) (hO : Only H) (hok : HOk P w H s₁.heap) (hA : ∀ b, H b ≠ none → b = a) (hK : H a ≠ none → K.lookup a = none) (hsp : sp [.ref a] H (fun v _ => v = .bl true) fun _ _ _ => False)
    (hCX : ∀ H e s', CX [] H s₁ (fun _ _ _ => False) e s' → False) :
    codeAny (model P w) callerA (.call (.ref fa) ⟨[.ref a], []⟩) (fun r s' => r = .ok (.ret (.bool true)) ∧ OldK s₁.heap s'.heap ∧ s'.os = s₁.os ∧ AllBare s'.gens) s₁ := by
  have apart : ∀ {b : Addr} {o : Obj}, s₁.heap.get? b = some o → (b = a → H a ≠ none → False) → (hidT s₁.heap H).get? b = some o := fun {b o} e n => hidT_get e (by
    cases q : H b with
    | none => rfl
    | some u => exact (n (hA b (by rw [q]; exact Option.some_ne_none u)) (by rw [← hA b (by rw [q]; exact Option.some_ne_none u), q]; exact Option.some_ne_none u)).elim)
  have nsK : ∀ {b : Addr} {m : Str → Option Value}, s₁.heap.Ns b m → (hidT s₁.heap H).Ns b m := fun {b m} ⟨o, es, ep, e, d, r⟩ => ⟨o, es, ep, apart e (fun z _ => by
    subst z
    rw [ha] at e
    cases e
    rw [hob] at d
    cases d), d, r⟩
  have hKb : K.In (hidT s₁.heap H) := fun b o e => apart (KX b o e) fun z n => by
    subst z
    rw [hK n] at e
    cases e
  have hM : Mod K mg (hidT s₁.heap H) := ⟨hKb, nsK hns, ⟨mb, nsK hb, hbb⟩, hlim.elim fun mc h => ⟨mc, nsK h.1, h.2⟩⟩
  have e0 : Env0 P w K mg (hidT s₁.heap H) callerA [] s₁ H := ⟨rfl, hM, fun b o e => of_hidT e, Nat.le_of_eq (hidT_size _ _), trivial, fun b hb => (List.not_mem_nil hb).elim, hok, .of_eq hg⟩
  refine codeAny_mono ((F _ hKb (nsK hns)).run callerA [] s₁ H ⟨[.ref a], []⟩ [.ref a] [.ref a] _ _ hr rfl e0 (hbind s₁ (.ref a)) (.cons rfl .nil) hsp) fun r s' h => ?_
  cases r with
  | error e => exact (hCX H e s' h).elim
  | ok fl =>
    cases fl with
    | next => exact h.elim
    | brk => exact h.elim
    | cont => exact h.elim
    | ret u =>
      obtain ⟨v, H', os, bare, un, hok', r', q⟩ := h
      obtain rfl : v = .bl true := q
      obtain rfl : u = Value.bool true := r'
      refine ⟨rfl, OldK.of_keep fun b o e => ?_, os, bare⟩
      cases q : H b with
      | none => exact un.keep b o e q (fun z => List.not_mem_nil z) (fun z => List.not_mem_nil z)
      | some u =>
        rcases hO b with z | ⟨oo, xs, z⟩
        · rw [q] at z
          cases z
        · obtain ⟨e1, _⟩ := hok b _ z
          obtain ⟨e2, _⟩ := hok' b _ (un.frzs b oo _ z)
          rw [e] at e1
          cases e1
          exact e2

theorem call_law {P : Program} {w : World} {K : PySem.W.Frag} {mg mb : Str → Option Value} {CX : CXT} {k : Nat} {fa a : Addr} {fd : FuncData} {x : Str} {sp : Sp} {s₁ : Shared} {vs : List Value} {ns : List Int}
    (KX : K.In s₁.heap) (hns : s₁.heap.Ns mainGlobals mg) (hb : s₁.heap.Ns builtinsNs mb) (hbb : ∀ x : Str, x ≠ "__name__" → mb x = bootBuiltins x) (hlim : s₁.heap.NoLimit) (hg : s₁.gens = #[])
    (ha : s₁.heap.get? a = some { cls := .type "list", data := .seq vs.toArray }) (hi : IntsAre vs ns) (hl : ns.length ≤ sizeLine) (hr : Room k callerA)
    (F : ∀ base : Heap, K.In base → base.Ns mainGlobals mg → FnG P w K mg base CX k fa fd [x] sp) (hbind : ∀ (s : Shared) (u : Value), BindsTo s fd ⟨[u], []⟩ [(x, u)])
    (hsp : ∀ H : Hp, Only H → SqL K H a (ns.map V.int) → sp [.ref a] H (fun v _ => v = .bl true) fun _ _ _ => False) (hCX : ∀ H e s', CX [] H s₁ (fun _ _ _ => False) e s' → False) :
    codeAny (model P w) callerA (.call (.ref fa) ⟨[.ref a], []⟩) (fun r s' => r = .ok (.ret (.bool true)) ∧ OldK s₁.heap s'.heap ∧ s'.os = s₁.os ∧ AllBare s'.gens) s₁ := by
  have rv := vals_ints hi
  have lv := hi.length
  have lm : (ns.map V.int).length ≤ sizeLine := by rw [List.length_map]; exact hl
  cases hk : K.lookup a with
  | some o =>
    have e := KX a o hk
    rw [ha] at e
    cases e
    have hS : SqL K (fun _ => none) a (ns.map V.int) := Or.inr ⟨_, vs.toArray, _, hk, rfl, rfl, rfl, by rw [List.size_toArray, lv]; exact hl, by simpa using rv⟩
    exact call_core KX hns hb hbb hlim hg ha rfl hr F hbind (fun _ => none) (fun _ => Or.inl rfl) (fun b u z => nomatch z) (fun b z => (z rfl).elim) (fun z => (z rfl).elim) (hsp _ (fun _ => Or.inl rfl) hS) hCX
  | none =>
    let ho : HO := .frz { cls := .type "list", data := .seq vs.toArray } (.lst (ns.map V.int))
    let H0 : Hp := upd (fun _ => none) a ho
    have at_ : H0 a = some ho := upd_same
    have off : ∀ b, b ≠ a → H0 b = none := fun b h => upd_ne h
    have hO : Only H0 := fun b => by
      by_cases h : b = a
      · exact Or.inr ⟨_, _, by rw [h]; exact at_⟩
      · exact Or.inl (off b h)
    refine call_core KX hns hb hbb hlim hg ha rfl hr F hbind H0 hO (fun b u z => ?_) (fun b z => ?_) (fun _ => hk) (hsp _ hO (Or.inl (Or.inr ⟨_, at_⟩))) hCX
    · by_cases h : b = a
      · subst h
        rw [at_] at z
        cases z
        exact ⟨ha, lm, vs, _, rv, ha⟩
      · rw [off b h] at z
        cases z
    · by_cases h : b = a
      · exact h
      · exact (z (off b h)).elim

theorem end_law {l : PySem.W.OpenLaw} {n k : Nat} {q : Program} {loose : List Str} {XP : (Str → Option Value) → Heap → Prop} {YP : World → Heap → Prop} {d : DefRec} {CX : CXT} {x : Str}
    (hn : l.most = some n) (hn2 : n ≤ sizeLine) (hdf : d.params.defaults = []) (hr : Room k callerA)
    (F : ∀ (w : World) (mg : Str → Option Value) (fa : Addr) (h : Heap), YP w h → h.Ns mainGlobals mg → mg d.name = some (.ref fa) →
      ∃ (K : PySem.W.Frag) (fd : FuncData) (sp : Sp), K.In h ∧ (∀ (s : Shared) (u : Value), BindsTo s fd ⟨[u], []⟩ [(x, u)]) ∧
        (∀ (H : Hp) (a : Addr) (ns : List Int), ns.length ≤ n → Only H → SqL K H a (ns.map V.int) → sp [.ref a] H (fun v _ => v = .bl true) fun _ _ _ => False) ∧
        ∀ base : Heap, K.In base → base.Ns mainGlobals mg → FnG l.prog w K mg base CX k fa fd [x] sp)
    (hCX : ∀ (H : Hp) (s : Shared) (e : Value) (s' : Shared), CX [] H s (fun _ _ _ => False) e s' → False) : PySem.W.WalkO q loose XP YP l.row.toRowW d [] (fun f vs => PySem.call f vs) := by
  refine Att.attach_call hn hdf fun w s₀ s₁ mg mb fa o pm cd doc a vs ns G Y ho hd hcd hmg hobj hints hlen hg => ?_
  obtain ⟨K, fd, sp, KX, hb, hsp, hF⟩ := F w mg fa _ Y G.T.g hmg
  exact call_law KX G.T.g G.T.b G.T.builtins G.T.nolimit hg hobj hints (Nat.le_trans hlen hn2) hr hF hb (fun H hO hS => hsp H a ns hlen hO hS) fun H e s' => hCX H s₁ e s'
end Cf

set_option Elab.async false
set_option linter.all false
set_option maxRecDepth 100000
set_option maxHeartbeats 4000000
/-! the head's facts, each looked at in a small part of the heap; what holds in a part holds in the whole -/
namespace Cf
open PySem PySem.Spec PyProof.Rows L2 PySem.W

/-- a part of the heap within another -/
def Le (K L : Frag) : Prop := ∀ a o, K.lookup a = some o → L.lookup a = some o
section
variable {K L : Frag} (le : Le K L)
include le
theorem ns_up {d : Addr} {x : Str} {r : Option Value} (h : nsIn K d x = some r) : nsIn L d x = some r := by
  unfold nsIn at h ⊢
  cases e : K.lookup d with
  | none => rw [e] at h; cases h
  | some o => rw [e] at h; rw [le _ _ e]; exact h
theorem cls_up {C : Addr} {r : ClassData} (h : clsIn K C = some r) : clsIn L C = some r := by
  unfold clsIn at h ⊢
  cases e : K.lookup C with
  | none => rw [e] at h; cases h
  | some o => rw [e] at h; rw [le _ _ e]; exact h
theorem own_up {x : Str} {v : Value} {r : Option Value} (h : ownIn K x v = some r) : ownIn L x v = some r := by
  cases v with
  | ref a =>
    unfold ownIn at h ⊢
    dsimp only at h ⊢
    cases e : K.lookup a with
    | none => rw [e] at h; cases h
    | some o =>
      rw [e] at h
      rw [le _ _ e]
      obtain ⟨c, d, dt, sl⟩ := o
      cases dt with
      | cls cd => exact ns_up le h
      | _ => cases h
  | _ => exact h
theorem along_up {x : Str} : ∀ {l : List Value} {r : Option Value}, alongIn K x l = some r → alongIn L x l = some r
  | [], _, h => h
  | c :: l, r, h => by
    unfold alongIn at h ⊢
    cases e : ownIn K x c with
    | none => rw [e] at h; cases h
    | some q =>
      rw [e] at h
      rw [own_up le e]
      cases q with
      | none => exact along_up h
      | some v => exact h
theorem find_up {v : Value} {x : Str} {r : Option Value} (h : findIn K v x = some r) : findIn L v x = some r := by
  cases v with
  | ref a =>
    unfold findIn at h ⊢
    dsimp only at h ⊢
    cases e : K.lookup a with
    | none => rw [e] at h; cases h
    | some o =>
      rw [e] at h
      rw [le _ _ e]
      obtain ⟨c, d, dt, sl⟩ := o
      cases dt with
      | cls cd => exact along_up le h
      | _ => cases h
  | _ => exact h
theorem type_up {v r : Value} (h : typeIn K v = some r) : typeIn L v = some r := by
  cases v with
  | ref a =>
    unfold typeIn at h ⊢
    dsimp only at h ⊢
    cases e : K.lookup a with
    | none => rw [e] at h; cases h
    | some o => rw [e] at h; rw [le _ _ e]; exact h
  | _ => exact h
theorem special_up {v : Value} {x : Str} {r : Option Value} (h : specialIn K v x = some r) : specialIn L v x = some r := by
  unfold specialIn at h ⊢
  cases e : typeIn K v with
  | none => rw [e] at h; cases h
  | some t => rw [e] at h; rw [type_up le e]; exact find_up le h
theorem mro_up {C : Addr} {b : Value} {r : Bool} (h : mroIn K C b = some r) : mroIn L C b = some r := by
  unfold mroIn at h ⊢
  cases e : clsIn K C with
  | none => rw [e] at h; cases h
  | some t => rw [e] at h; rw [cls_up le e]; exact h
theorem sub_up {t b : Value} {r : Bool} (h : subIn K t b = some r) : subIn L t b = some r := by
  cases t with
  | ref a => exact mro_up le h
  | _ => exact h
theorem inst_up {v b : Value} {r : Bool} (h : instIn K v b = some r) : instIn L v b = some r := by
  unfold instIn at h ⊢
  cases e : typeIn K v with
  | none => rw [e] at h; cases h
  | some t => rw [e] at h; rw [type_up le e]; exact sub_up le h
theorem keep_up {v : Value} (h : keepIn K v = true) : keepIn L v = true := by
  cases v with
  | ref a =>
    unfold keepIn at h ⊢
    dsimp only at h ⊢
    cases e : K.lookup a with
    | none => rw [e] at h; cases h
    | some o =>
      rw [e] at h
      rw [le _ _ e]
      obtain ⟨c, d, dt, sl⟩ := o
      cases dt with
      | func fd => exact h
      | cls cd => exact beq_iff_eq.mpr (special_up le (beq_iff_eq.mp h))
      | _ => cases h
  | _ => cases h
theorem code_up {v : Value} {q : Str} (h : codeIn K v q = true) : codeIn L v q = true := by
  cases v with
  | ref a =>
    unfold codeIn at h ⊢
    dsimp only at h ⊢
    cases e : K.lookup a with
    | none => rw [e] at h; cases h
    | some o => rw [e] at h; rw [le _ _ e]; exact h
  | _ => cases h
theorem get_up {C : Addr} {x : Str} (h : plainGet K C x = true) : plainGet L C x = true := by
  unfold plainGet at h ⊢
  obtain ⟨h1, h2⟩ := He.ba h
  exact Bool.and_eq_true_iff.mpr ⟨beq_iff_eq.mpr (find_up le (beq_iff_eq.mp h1)), beq_iff_eq.mpr (find_up le (beq_iff_eq.mp h2))⟩
theorem any_up {C : Addr} {p : ClassData → Bool} (h : (clsIn K C).any p = true) : (clsIn L C).any p = true := by
  cases e : clsIn K C with
  | none => rw [e] at h; cases h
  | some t => rw [e] at h; rw [cls_up le e]; exact h
theorem makes_up {C : Addr} (h : makesIn K C = true) : makesIn L C = true := by
  unfold makesIn at h ⊢
  cases e : K.lookup C with
  | none => rw [e] at h; cases h
  | some o =>
    rw [e] at h
    rw [le _ _ e]
    obtain ⟨c, d, dt, sl⟩ := o
    cases dt with
    | cls cd =>
      obtain ⟨h1, h2⟩ := He.ba h
      obtain ⟨h3, h4⟩ := He.ba h1
      exact Bool.and_eq_true_iff.mpr ⟨Bool.and_eq_true_iff.mpr ⟨h3, beq_iff_eq.mpr (special_up le (beq_iff_eq.mp h4))⟩, beq_iff_eq.mpr (inst_up le (beq_iff_eq.mp h2))⟩
    | _ => cases h
theorem nsOk_up {N : Addr} (h : nsOkIn K N = true) : nsOkIn L N = true := by
  unfold nsOkIn at h ⊢
  cases e : K.lookup N with
  | none => rw [e] at h; cases h
  | some o => rw [e] at h; rw [le _ _ e]; exact h
/-- addresses by names -/
theorem ga_up {x : Str} {r : Option Value} (h : nsIn K mainGlobals x = some r) : He.ga L x = He.ga K x := by
  unfold He.ga
  rw [h, ns_up le h]
theorem ma_up {C : Addr} {m : Str} {r : Option Value} (h : findIn K (.ref C) m = some r) : He.ma L C m = He.ma K C m := by
  unfold He.ma
  rw [h, find_up le h]
theorem eqO_up {d : Addr} {x : Str} {r : Option (Option Value)} (h : He.eqO (nsIn K d x) r = true) (hr : r ≠ none) : nsIn L d x = r ∧ nsIn K d x = r := by
  have e := He.eqO_ok h
  cases r with
  | none => exact absurd rfl hr
  | some r => exact ⟨ns_up le e, e⟩
end

/-! ### the facts -/
inductive Fx where
  | glo (x : Str) | free (x : Str) | int (x : Str) (i : Int) | str (x z : Str)
  | cls (x : Str) | noat (x f : Str) | meth (x m : Str) | mkr (x : Str)
  | tup (x : Str) (vs : List He.Dv)
  | emp (p : Str × Option Str) (i : Nat)
  | sub (x y : Str) (b : Bool)
/-- the i-th default of the def at p, an object -/
def dflO (p : Str × Option Str) (i : Nat) (K : Frag) : Option Addr := match K.lookup (He.fAd K p) with
  | some ⟨_, _, .func fd, _⟩ => (match fd.defaults with
    | .ref T => (match K.lookup T with
      | some ⟨_, _, .seq its _, _⟩ => (match its.toList[i]? with
        | some (.ref a) => some a
        | _ => none)
      | _ => none)
    | _ => none)
  | _ => none
def atB (K : Frag) (p : Str × Option Str) : Bool := decide (nsIn K mainGlobals p.1 ≠ none) && (match p.2 with
  | none => true
  | some m => decide (findIn K (.ref (He.ga K p.1)) m ≠ none))
/-- the module's name x is known, and stands for the object at ga -/
def gloB (K : Frag) (x : Str) : Bool := He.eqO (nsIn K mainGlobals x) (some (some (.ref (He.ga K x))))
def empB (K : Frag) (a : Addr) : Bool := match K.lookup a with
  | some ⟨.type c, _, .seq its _, _⟩ => decide (c = "tuple") && its.isEmpty
  | _ => false
def flatDv : He.Dv → Bool
  | .glo _ => false
  | .adr _ => false
  | _ => true
def Fx.ok (K : Frag) : Fx → Bool
  | .glo x => gloB K x
  | .free x => (He.Fa.free x).ok K
  | .int x i => (He.Fa.int x i).ok K
  | .str x z => (He.Fa.str x z).ok K
  | .cls x => gloB K x && (He.Fa.cls x).ok K
  | .noat x f => gloB K x && (He.Fa.noat x f).ok K
  | .meth x m => gloB K x && (He.Fa.meth x m).ok K
  | .mkr x => gloB K x && (He.Fa.mkr x).ok K
  | .tup x vs => gloB K x && (vs.all flatDv && He.tupB K x vs)
  | .emp p i => atB K p && (match dflO p i K with
    | some a => empB K a
    | none => false)
  | .sub x y b => gloB K x && (gloB K y && decide (subIn K (.ref (He.ga K x)) (.ref (He.ga K y)) = some b))
theorem glo_up {K L : Frag} (le : Le K L) {x : Str} (h : gloB K x = true) : gloB L x = true ∧ He.ga L x = He.ga K x := by
  unfold gloB at h ⊢
  have e := He.eqO_ok h
  have g := ga_up le e
  refine ⟨?_, g⟩
  rw [g, ns_up le e]
  exact decide_eq_true rfl
theorem flat_v {K L : Frag} {v : He.Dv} (h : flatDv v = true) : v.v L = v.v K := by
  cases v <;> first | rfl | cases h
theorem flat_all {K L : Frag} : ∀ {vs : List He.Dv}, vs.all flatDv = true → vs.map (He.Dv.v L) = vs.map (He.Dv.v K)
  | [], _ => rfl
  | v :: vs, h => by
    obtain ⟨h1, h2⟩ := He.ba (show (flatDv v && vs.all flatDv) = true from h)
    rw [List.map_cons, List.map_cons, flat_v h1, flat_all h2]
theorem fAd_up {K L : Frag} (le : Le K L) {p : Str × Option Str} (h : atB K p = true) : He.fAd L p = He.fAd K p := by
  obtain ⟨x, y⟩ := p
  obtain ⟨h1, h2⟩ := He.ba h
  have h1 := of_decide_eq_true h1
  cases e : nsIn K mainGlobals x with
  | none => exact absurd e h1
  | some r =>
    have g := ga_up le e
    cases y with
    | none => exact g
    | some m =>
      have h2 := of_decide_eq_true (show decide (findIn K (.ref (He.ga K x)) m ≠ none) = true from h2)
      show He.ma L (He.ga L x) m = He.ma K (He.ga K x) m
      rw [g]
      cases e2 : findIn K (.ref (He.ga K x)) m with
      | none => exact absurd e2 h2
      | some r => exact ma_up le e2
theorem atB_up {K L : Frag} (le : Le K L) {p : Str × Option Str} (h : atB K p = true) : atB L p = true := by
  obtain ⟨x, y⟩ := p
  obtain ⟨k1, k2⟩ := He.ba (show (decide (nsIn K mainGlobals x ≠ none) && _) = true from h)
  have k1 := of_decide_eq_true k1
  cases e : nsIn K mainGlobals x with
  | none => exact absurd e k1
  | some r =>
    refine Bool.and_eq_true_iff.mpr ⟨decide_eq_true (by rw [show nsIn L mainGlobals x = some r from ns_up le e]; simp), ?_⟩
    cases y with
    | none => rfl
    | some m =>
      have k2 := of_decide_eq_true (show decide (findIn K (.ref (He.ga K x)) m ≠ none) = true from k2)
      cases e2 : findIn K (.ref (He.ga K x)) m with
      | none => exact absurd e2 k2
      | some r2 => exact decide_eq_true (by show findIn L (.ref (He.ga L x)) m ≠ none; rw [ga_up le e, find_up le e2]; simp)
theorem dflO_up {K L : Frag} (le : Le K L) {p : Str × Option Str} {i : Nat} {a : Addr} (h : atB K p = true) (e : dflO p i K = some a) : dflO p i L = some a := by
  unfold dflO at e ⊢
  rw [fAd_up le h]
  cases q : K.lookup (He.fAd K p) with
  | none => rw [q] at e; cases e
  | some o =>
    rw [q] at e
    rw [le _ _ q]
    obtain ⟨c, d, dt, sl⟩ := o
    cases dt with
    | func fd =>
      obtain ⟨n1, n2, n3, n4, n5, n6, n7, n8, n9, n10, n11, n12, n13, n14, n15⟩ := fd
      cases n8 with
      | ref T =>
        cases q1 : K.lookup T with
        | none =>
          have e2 : (match K.lookup T with
            | some ⟨_, _, .seq its _, _⟩ => (match its.toList[i]? with
              | some (.ref a) => some a
              | _ => none)
            | _ => none) = some a := e
          rw [q1] at e2
          cases e2
        | some o1 =>
          have e2 : (match K.lookup T with
            | some ⟨_, _, .seq its _, _⟩ => (match its.toList[i]? with
              | some (.ref a) => some a
              | _ => none)
            | _ => none) = some a := e
          show (match L.lookup T with
            | some ⟨_, _, .seq its _, _⟩ => (match its.toList[i]? with
              | some (.ref a) => some a
              | _ => none)
            | _ => none) = some a
          rw [q1] at e2
          rw [le _ _ q1]
          exact e2
      | _ => cases e
    | _ => cases e
theorem empB_up {K L : Frag} (le : Le K L) {a : Addr} (z : empB K a = true) : empB L a = true := by
  unfold empB at z ⊢
  cases e0 : K.lookup a with
  | none => rw [e0] at z; cases z
  | some o0 => rw [e0] at z; rw [le _ _ e0]; exact z
theorem Fx.up {K L : Frag} (le : Le K L) {f : Fx} (h : f.ok K = true) : f.ok L = true := by
  cases f with
  | glo x => exact (glo_up le h).1
  | free x => exact decide_eq_true (eqO_up le h (by simp)).1
  | int x i =>
    have h2 : (match nsIn K mainGlobals x with
      | some (some (.int j _)) => decide (j = i)
      | _ => false) = true := h
    show (match nsIn L mainGlobals x with
      | some (some (.int j _)) => decide (j = i)
      | _ => false) = true
    cases e : nsIn K mainGlobals x with
    | none => rw [e] at h2; cases h2
    | some r => rw [e] at h2; rw [ns_up le e]; exact h2
  | str x z =>
    have h2 : (match nsIn K mainGlobals x with
      | some (some (.str y _)) => decide (y = z)
      | _ => false) = true := h
    show (match nsIn L mainGlobals x with
      | some (some (.str y _)) => decide (y = z)
      | _ => false) = true
    cases e : nsIn K mainGlobals x with
    | none => rw [e] at h2; cases h2
    | some r => rw [e] at h2; rw [ns_up le e]; exact h2
  | cls x =>
    obtain ⟨h1, h2⟩ := He.ba (show (gloB K x && (He.Fa.cls x).ok K) = true from h)
    obtain ⟨g1, g2⟩ := glo_up le h1
    show (gloB L x && (He.Fa.cls x).ok L) = true
    rw [g1, Bool.true_and]
    simp only [He.Fa.ok] at h2 ⊢
    rw [g2]
    obtain ⟨c1, h2⟩ := He.ba h2
    obtain ⟨c2, h2⟩ := He.ba h2
    obtain ⟨c3, c4⟩ := He.ba h2
    rw [get_up le c1, show hasDictIn L (He.ga K x) = true from any_up le c2, show plainOver L (He.ga K x) = true from any_up le c3]
    exact decide_eq_true (find_up le (He.eqO_ok c4))
  | noat x f =>
    obtain ⟨h1, h2⟩ := He.ba (show (gloB K x && (He.Fa.noat x f).ok K) = true from h)
    obtain ⟨g1, g2⟩ := glo_up le h1
    show (gloB L x && (He.Fa.noat x f).ok L) = true
    rw [g1, Bool.true_and]
    simp only [He.Fa.ok] at h2 ⊢
    rw [g2]
    exact decide_eq_true (find_up le (He.eqO_ok h2))
  | meth x m =>
    obtain ⟨h1, h2⟩ := He.ba (show (gloB K x && (He.Fa.meth x m).ok K) = true from h)
    obtain ⟨g1, g2⟩ := glo_up le h1
    show (gloB L x && (He.Fa.meth x m).ok L) = true
    rw [g1, Bool.true_and]
    simp only [He.Fa.ok] at h2 ⊢
    rw [g2]
    obtain ⟨c1, h2⟩ := He.ba h2
    obtain ⟨c2, c3⟩ := He.ba h2
    have e := He.eqO_ok c1
    rw [ma_up le e, show isFn L (.ref (He.ma K (He.ga K x) m)) = true from beq_iff_eq.mpr (type_up le (beq_iff_eq.mp c2)), keep_up le c3, find_up le e]
    exact Bool.and_eq_true_iff.mpr ⟨decide_eq_true rfl, rfl⟩
  | mkr x =>
    obtain ⟨h1, h2⟩ := He.ba (show (gloB K x && (He.Fa.mkr x).ok K) = true from h)
    obtain ⟨g1, g2⟩ := glo_up le h1
    show (gloB L x && (He.Fa.mkr x).ok L) = true
    rw [g1, Bool.true_and]
    simp only [He.Fa.ok] at h2 ⊢
    rw [g2]
    obtain ⟨c1, h2⟩ := He.ba h2
    obtain ⟨c2, h2⟩ := He.ba h2
    obtain ⟨c3, c4⟩ := He.ba h2
    have e := He.eqO_ok c2
    rw [ma_up le e, show isFn L (.ref (He.ma K (He.ga K x) "__init__")) = true from beq_iff_eq.mpr (type_up le (beq_iff_eq.mp c3)), keep_up le c4, find_up le e, makes_up le c1]
    exact Bool.and_eq_true_iff.mpr ⟨rfl, Bool.and_eq_true_iff.mpr ⟨decide_eq_true rfl, rfl⟩⟩
  | tup x vs =>
    obtain ⟨h1, h2⟩ := He.ba (show (gloB K x && (vs.all flatDv && He.tupB K x vs)) = true from h)
    obtain ⟨g1, g2⟩ := glo_up le h1
    obtain ⟨h3, h4⟩ := He.ba h2
    show (gloB L x && (vs.all flatDv && He.tupB L x vs)) = true
    rw [g1, h3, Bool.true_and, Bool.true_and]
    unfold He.tupB at h4 ⊢
    rw [g2, flat_all (K := K) h3]
    cases e : K.lookup (He.ga K x) with
    | none => rw [e] at h4; cases h4
    | some o => rw [e] at h4; rw [le _ _ e]; exact h4
  | emp p i =>
    obtain ⟨h1, h2⟩ := He.ba (show (atB K p && (match dflO p i K with
      | some a => empB K a
      | none => false)) = true from h)
    show (atB L p && (match dflO p i L with
      | some a => empB L a
      | none => false)) = true
    rw [atB_up le h1, Bool.true_and]
    cases e : dflO p i K with
    | none => rw [e] at h2; cases h2
    | some a =>
      rw [e] at h2
      rw [dflO_up le h1 e]
      exact empB_up le h2
  | sub x y b =>
    obtain ⟨h1, h2⟩ := He.ba (show (gloB K x && (gloB K y && decide (subIn K (.ref (He.ga K x)) (.ref (He.ga K y)) = some b))) = true from h)
    obtain ⟨h2, h3⟩ := He.ba h2
    obtain ⟨g1, g2⟩ := glo_up le h1
    obtain ⟨g3, g4⟩ := glo_up le h2
    show (gloB L x && (gloB L y && decide (subIn L (.ref (He.ga L x)) (.ref (He.ga L y)) = some b))) = true
    rw [g1, g3, g2, g4, Bool.true_and, Bool.true_and]
    exact decide_eq_true (sub_up le (of_decide_eq_true h3))
/-! ### a def with its defaults: flat ones, or the i-th one as the object that it is -/
inductive Dx where
  | fl (v : He.Dv) | own (i : Nat)
structure DefX where
  at_ : Str × Option Str
  name : Str
  qual : Str
  params : Arguments
  body : List Stmt
  scope : Scope
  dfl : List Dx := []
  kwd : List (Str × He.Dv) := []
def DefX.to (d : DefX) : He.DefD := ⟨d.at_, d.name, d.qual, d.params, d.body, d.scope, d.dfl.map fun x => match x with
  | .fl v => v
  | .own i => .adr fun K => (dflO d.at_ i K).getD 0, d.kwd⟩
def Dx.ok (K : Frag) (p : Str × Option Str) : Dx → Bool
  | .fl v => flatDv v
  | .own i => (dflO p i K).isSome
def DefX.ok (K : Frag) (d : DefX) : Bool := atB K d.at_ && (d.dfl.all (Dx.ok K d.at_) && (d.kwd.all (fun q => flatDv q.2) && d.to.ok K))
def val_of (p : Str × Option Str) (K : Frag) : Dx → V
  | .fl v => v.v K
  | .own i => .ref ((dflO p i K).getD 0)
theorem to_dvs (d : DefX) (K : Frag) : d.to.dvs K = d.dfl.map (val_of d.at_ K) := by
  show (d.dfl.map _).map (He.Dv.v K) = _
  rw [List.map_map]
  refine List.map_congr_left fun x _ => ?_
  cases x <;> rfl
theorem dvs_up {K L : Frag} (le : Le K L) {p : Str × Option Str} (h : atB K p = true) : ∀ {l : List Dx}, l.all (Dx.ok K p) = true → l.map (val_of p L) = l.map (val_of p K)
  | [], _ => rfl
  | x :: l, hl => by
    obtain ⟨h1, h2⟩ := He.ba (show (Dx.ok K p x && l.all (Dx.ok K p)) = true from hl)
    rw [List.map_cons, List.map_cons, dvs_up le h h2]
    refine congrArg (· :: _) ?_
    cases x with
    | fl v => exact flat_v h1
    | own i =>
      have h1 : (dflO p i K).isSome = true := h1
      cases e : dflO p i K with
      | none => rw [e] at h1; cases h1
      | some a => show V.ref ((dflO p i L).getD 0) = V.ref ((dflO p i K).getD 0); rw [e, dflO_up le h e]
theorem kws_up {K L : Frag} : ∀ {l : List (Str × He.Dv)}, l.all (fun q => flatDv q.2) = true → (l.map fun q => (q.1, q.2.v L)) = l.map fun q => (q.1, q.2.v K)
  | [], _ => rfl
  | x :: l, hl => by
    obtain ⟨h1, h2⟩ := He.ba (show (flatDv x.2 && l.all (fun q => flatDv q.2)) = true from hl)
    rw [List.map_cons, List.map_cons, kws_up h2, flat_v (K := K) h1]
theorem fnW_up {K L : Frag} (le : Le K L) {p : Str × Option Str} (h : atB K p = true) {r : Str × Str × Arguments × FuncBody × Scope × Addr × List (Str × Addr) × Addr} (e : He.fnW K p = some r) : He.fnW L p = some r := by
  unfold He.fnW at e ⊢
  rw [fAd_up le h]
  cases q : K.lookup (He.fAd K p) with
  | none => rw [q] at e; cases e
  | some o => rw [q] at e; rw [le _ _ q]; exact e
theorem dflB_up {K L : Frag} (le : Le K L) {dV : Value} {vs : List V} (h : He.dflB K dV vs = true) : He.dflB L dV vs = true := by
  cases vs with
  | nil => exact h
  | cons v vs =>
    cases dV with
    | ref T =>
      have h1 : (match K.lookup T with
        | some ⟨_, _, .seq its _, _⟩ => He.relAll (v :: vs) its.toList
        | _ => false) = true := h
      show (match L.lookup T with
        | some ⟨_, _, .seq its _, _⟩ => He.relAll (v :: vs) its.toList
        | _ => false) = true
      cases q : K.lookup T with
      | none => rw [q] at h1; cases h1
      | some o => rw [q] at h1; rw [le _ _ q]; exact h1
    | _ => cases h
theorem kwdB_up {K L : Frag} (le : Le K L) {kV : Value} {l : List (Str × V)} (h : He.kwdB K kV l = true) : He.kwdB L kV l = true := by
  cases l with
  | nil => rfl
  | cons q qs =>
    cases kV with
    | ref D =>
      have h1 : ((q :: qs).all fun q => (match nsIn K D q.1 with
        | some (some u) => He.relB q.2 u
        | _ => false)) = true := h
      show ((q :: qs).all fun q => (match nsIn L D q.1 with
        | some (some u) => He.relB q.2 u
        | _ => false)) = true
      refine List.all_eq_true.mpr fun z hz => ?_
      have h2 := List.all_eq_true.mp h1 z hz
      cases e : nsIn K D z.1 with
      | none => rw [e] at h2; cases h2
      | some r => rw [e] at h2; rw [ns_up le e]; exact h2
    | _ => cases h
theorem DefX.up {K L : Frag} (le : Le K L) {d : DefX} (h : d.ok K = true) : d.ok L = true := by
  obtain ⟨h1, h⟩ := He.ba h
  obtain ⟨h2, h⟩ := He.ba h
  obtain ⟨h3, h4⟩ := He.ba h
  have e1 := to_dvs d K
  have e2 := to_dvs d L
  rw [dvs_up le h1 h2, ← e1] at e2
  have e3 : d.to.kws L = d.to.kws K := kws_up h3
  refine Bool.and_eq_true_iff.mpr ⟨atB_up le h1, Bool.and_eq_true_iff.mpr ⟨List.all_eq_true.mpr fun x hx => ?_, Bool.and_eq_true_iff.mpr ⟨h3, ?_⟩⟩⟩
  · have := List.all_eq_true.mp h2 x hx
    cases x with
    | fl v => exact this
    | own i =>
      have h1' : (dflO d.at_ i K).isSome = true := this
      cases e : dflO d.at_ i K with
      | none => rw [e] at h1'; cases h1'
      | some a => show (dflO d.at_ i L).isSome = true; rw [dflO_up le h1 e]; rfl
  · unfold He.DefD.ok at h4 ⊢
    rw [e2, e3]
    have g : He.fAd L d.to.at_ = He.fAd K d.to.at_ := fAd_up le h1
    rw [g]
    obtain ⟨k1, k2⟩ := He.ba h4
    rw [keep_up le k1, Bool.true_and]
    cases q : K.lookup (He.fAd K d.to.at_) with
    | none => rw [q] at k2; cases k2
    | some o =>
      rw [q] at k2
      rw [le _ _ q]
      obtain ⟨c, dd, dt, sl⟩ := o
      cases dt with
      | func fd =>
        have k3 : (codeIn K fd.code d.to.qual && (He.dflB K fd.defaults (d.to.dvs K) && He.kwdB K fd.kwdefaults (d.to.kws K))) = true := k2
        obtain ⟨a1, k3⟩ := He.ba k3
        obtain ⟨a2, a3⟩ := He.ba k3
        exact Bool.and_eq_true_iff.mpr ⟨code_up le a1, Bool.and_eq_true_iff.mpr ⟨dflB_up le a2, kwdB_up le a3⟩⟩
      | _ => cases k2

/-! ### where each is looked for -/
abbrev Gt : Type := Addr → Option Obj
def refL : Value → List Addr
  | .ref a => [a]
  | _ => []
def clsAd (g : Gt) (C : Addr) : List Addr := C :: match g C with
  | some ⟨_, _, .cls cd, _⟩ => cd.ns :: cd.mro.flatMap fun v => match v with
    | .ref b => b :: (match g b with
      | some ⟨_, _, .cls cb, _⟩ => [cb.ns]
      | _ => [])
    | _ => []
  | _ => []
def kN (g : Gt) : Frag := He.frG g [mainGlobals]
def kC (g : Gt) (x : Str) : Frag := He.frG g (mainGlobals :: clsAd g (He.ga (kN g) x))
def fnAd (g : Gt) (f : Addr) : List Addr := f :: match g f with
  | some ⟨_, _, .func fd, _⟩ => refL fd.code ++ refL fd.kwdefaults ++ (refL fd.defaults ++ (refL fd.defaults).flatMap fun T => match g T with
    | some ⟨_, _, .seq its _, _⟩ => its.toList.flatMap refL
    | _ => [])
  | _ => []
def kF (g : Gt) (p : Str × Option Str) : Frag := match p.2 with
  | none => He.frG g (mainGlobals :: fnAd g (He.ga (kN g) p.1))
  | some m => He.frG g (mainGlobals :: (clsAd g (He.ga (kN g) p.1) ++ fnAd g (He.ma (kC g p.1) (He.ga (kN g) p.1) m)))
def Fx.part (g : Gt) : Fx → Frag
  | .glo _ => kN g
  | .free _ => kN g
  | .int _ _ => kN g
  | .str _ _ => kN g
  | .cls x => kC g x
  | .noat x _ => kC g x
  | .meth x m => kF g (x, some m)
  | .mkr x => kF g (x, some "__init__")
  | .tup x _ => He.frG g [mainGlobals, He.ga (kN g) x]
  | .emp p _ => kF g p
  | .sub x _ _ => kC g x
abbrev Al : Type := Bool × List He.FnW
def obsX (fx : List Fx) (fn : List DefX) (g : Gt) : Al := ((fx.all fun f => f.ok (f.part g)) && fn.all fun d => d.ok (kF g d.at_), fn.map fun d => He.fnW (kF g d.at_) d.at_)
def valX (fn : List DefX) : Al := (true, fn.map fun d => d.to.val)
structure Says (fx : List Fx) (fn : List DefX) (K : Frag) : Prop where
  fact : ∀ f ∈ fx, f.ok K = true
  defs : ∀ d ∈ fn, d.ok K = true ∧ He.fnW K d.at_ = d.to.val
def whole (h : Heap) : Frag := He.frG h.get? (List.range h.objs.size)
theorem frG_lookup {g : Gt} {a : Addr} {o : Obj} (e : g a = some o) : ∀ {as : List Addr}, a ∈ as → (He.frG g as).lookup a = some o
  | [], h => absurd h (List.not_mem_nil)
  | b :: as, h => by
    have ih := frG_lookup e (as := as)
    by_cases hb : a = b
    · subst hb
      have e2 : He.frG g (a :: as) = (a, o) :: He.frG g as := by unfold He.frG; rw [List.filterMap_cons, e]; rfl
      rw [e2]
      simp [List.lookup]
    · have hm : a ∈ as := (List.mem_cons.mp h).resolve_left hb
      unfold He.frG at ih ⊢
      rw [List.filterMap_cons]
      cases q : g b with
      | none => exact ih hm
      | some ob =>
        show List.lookup a ((b, ob) :: _) = some o
        rw [List.lookup, show (a == b) = false from beq_eq_false_iff_ne.mpr hb]
        exact ih hm
theorem le_whole {h : Heap} {as : List Addr} : Le (He.frG h.get? as) (whole h) := fun a o e => by
  have e1 := He.frG_at as e
  exact frG_lookup e1 (List.mem_range.mpr (Heap.lt_size e1))
theorem kF_le {h : Heap} (p : Str × Option Str) : Le (kF h.get? p) (whole h) := by
  unfold kF
  split <;> exact le_whole
theorem part_le {h : Heap} (f : Fx) : Le (f.part h.get?) (whole h) := by
  cases f with
  | emp p i => exact kF_le p
  | _ => exact le_whole
theorem says_of {fx : List Fx} {fn : List DefX} {h : Heap} (e : obsX fx fn h.get? = valX fn) : Says fx fn (whole h) := by
  have e1 : ((fx.all fun f => f.ok (f.part h.get?)) && fn.all fun d => d.ok (kF h.get? d.at_)) = true := congrArg (fun z : Al => z.1) e
  have e2 : (fn.map fun d => He.fnW (kF h.get? d.at_) d.at_) = fn.map fun d => d.to.val := congrArg (fun z : Al => z.2) e
  obtain ⟨a1, a2⟩ := He.ba e1
  refine ⟨fun f hf => Fx.up (part_le f) (List.all_eq_true.mp a1 f hf), fun d hd => ?_⟩
  have b := List.all_eq_true.mp a2 d hd
  refine ⟨DefX.up (kF_le d.at_) b, ?_⟩
  have c : He.fnW (kF h.get? d.at_) d.at_ = d.to.val := by
    obtain ⟨i, hi⟩ := List.getElem?_of_mem hd
    have := congrArg (fun l => l[i]?) e2
    simp only [List.getElem?_map, hi, Option.map_some] at this
    exact Option.some.inj this
  exact fnW_up (kF_le d.at_) (He.ba b).1 c
def hookX (fx : List Fx) (fn : List DefX) : PySem.W.Hook where
  α := Al
  obs := fun s => obsX fx fn s.heap.get?
  val := fun _ => valX fn
  says := fun _ h => ∃ K : Frag, K.In h ∧ Says fx fn K
  of := fun _ _ e => ⟨_, He.frG_in, says_of e⟩
  keeps := fun _ _ _ ⟨K, hK, c⟩ k => ⟨K, PySem.W.Frag.In.keeps hK k, c⟩
theorem obsX_eq {fx : List Fx} {fn : List DefX} {g : Gt} {s : Shared} (h : ∀ a, g a = s.heap.get? a) : obsX fx fn g = (hookX fx fn).obs s := by
  rw [show g = s.heap.get? from funext h] <;> rfl

/-! ### what is told -/
section
variable {fx : List Fx} {fn : List DefX} {K : Frag} {h : Heap} {mg : Str → Option Value}
theorem Says.at (c : Says fx fn K) (i : Nat) {f : Fx} (e : fx[i]? = some f := by rfl) : f.ok K = true := c.fact f (List.mem_of_getElem? e)
theorem Says.def_ (c : Says fx fn K) (i : Nat) {d : DefX} (e : fn[i]? = some d := by rfl) : ∃ fd, FunD K d.name d.qual d.params d.body d.scope (d.dfl.map (val_of d.at_ K)) (d.kwd.map fun q => (q.1, q.2.v K)) (He.fAd K d.at_) fd := by
  obtain ⟨h1, h2⟩ := c.defs d (List.mem_of_getElem? e)
  obtain ⟨_, h1⟩ := He.ba h1
  obtain ⟨_, h1⟩ := He.ba h1
  obtain ⟨_, h1⟩ := He.ba h1
  have := He.DefD.funD (d := d.to) h2 h1
  rw [to_dvs] at this
  exact this
theorem x_glo (X : K.In h) (G : h.Ns mainGlobals mg) {x : Str} (c : (Fx.glo x).ok K = true) : mg x = some (.ref (He.ga K x)) := PySem.W.mg_of X G (He.eqO_ok c)
theorem x_free (X : K.In h) (G : h.Ns mainGlobals mg) {x : Str} (c : (Fx.free x).ok K = true) : mg x = none := He.free_ok X G c
theorem x_int (X : K.In h) (G : h.Ns mainGlobals mg) {x : Str} {i : Int} (c : (Fx.int x i).ok K = true) : ∃ t, mg x = some (.int i t) := He.int_ok X G c
theorem x_str (X : K.In h) (G : h.Ns mainGlobals mg) {x z : Str} (c : (Fx.str x z).ok K = true) : ∃ t, mg x = some (.str z t) := He.str_ok X G c
theorem x_cls {x : Str} (c : (Fx.cls x).ok K = true) : Cls K (He.ga K x) := He.cls_ok (He.ba c).2
theorem x_noat {x f : Str} (c : (Fx.noat x f).ok K = true) : NoAttr K (He.ga K x) f := He.noat_ok (He.ba c).2
theorem x_meth {x m : Str} (c : (Fx.meth x m).ok K = true) : Meth K (He.ga K x) m (He.ma K (He.ga K x) m) := He.meth_ok (He.ba c).2
theorem x_mkr {x : Str} (c : (Fx.mkr x).ok K = true) : Mk K (He.ga K x) (He.ma K (He.ga K x) "__init__") := He.mkr_ok (He.ba c).2
theorem x_sub {x y : Str} {b : Bool} (c : (Fx.sub x y b).ok K = true) : subIn K (.ref (He.ga K x)) (.ref (He.ga K y)) = some b := of_decide_eq_true (He.ba (He.ba c).2).2
theorem x_tup {x : Str} {vs : List He.Dv} (c : (Fx.tup x vs).ok K = true) (H : Hp) : SqT K H (He.ga K x) (vs.map (He.Dv.v K)) := He.tupB_ok (He.ba (He.ba c).2).2 H
end
end Cf

set_option Elab.async false
set_option linter.all false
set_option maxRecDepth 100000
set_option maxHeartbeats 4000000
/-! own exceptions over ValueError whose __init__ begins with super().__init__(..): the call of that, and the def around it -/
namespace Cf
open PySem PySem.Spec PyProof.Rows L2 NdefX

/-- what is asked of the class at C, its __init__ at f, its code object at cc -/
structure SupC (P : Program) (K : PySem.W.Frag) (C f cc : Addr) (arg : Str) : Prop where
  T : OexC K C
  fn : ∃ (of : Obj) (fd : FuncData) (ar : Arg), K.lookup f = some of ∧ of.data = .func fd ∧ (fd.params.posonlyargs ++ fd.params.args).head? = some ar ∧ ar.arg = arg
  code : ∃ (oc : Obj) (vs : Array Value) (file : Str) (tf : Tok), K.lookup cc = some oc ∧ oc.data = .fields vs ∧ vs[2]? = some (.str file tf) ∧ ((P.main.file : Str) == file) = true
  top : (P.main.scope.names.lookup ("super" : Str)).isSome = false
  sup : PySem.W.ks_superIn K C C "__init__" = some (some (.builtin "ValueError.__init__"))
  opq : PySem.W.nsIn K cStatics "thirdparty.any" = some none
  ve : PySem.W.subIn K (.ref C) (.type "ValueError") = some true
  own : PySem.W.mroIn K C (.ref C) = some true

section
variable {X : Cx} {pins : List (Addr × Obj)} {σ : L2.St} {H : Hp} {s : Shared} {a C f cc : Addr} {arg : Str} {Q : VK}
/-- a name of the def is loaded -/
theorem ld_slot {E : Value → Shared → Prop} {i : Nat} {x : Str} {v : V} {R : Value → Shared → Prop} (I : Inv X pins σ H s) (hN : X.N[i]? = some x) (e : σ[i]? = some (some v)) (hv : Vis X.env.scope x) (h : ∀ u, RelV v u → R u s)
    (hcd : (x == ("__classdict__" : Str)) = false := by decide) : wpAny (model X.prog X.w) X.A (loadName X.env x) R E s := by
  obtain ⟨m, hn, hl⟩ := I.loc
  obtain ⟨u, r, l⟩ := hl i x v hN e hv
  rcases l with ⟨hk, hm⟩ | ⟨hk | hk, c, hc, hcell⟩
  · exact wpAny_loadName_local I.ok.kind hk hn hm (h u r)
  · exact wpAny_loadName_cell I.ok.kind hk hc hcell (h u r)
  · exact wpAny_loadName_free I.ok.kind hk hc hcell (h u r) hcd

/-- the wrapper's call: the exception's arguments are laid anew -/
theorem call_wrap {u : Addr} {us : List Value} {R : Value → Shared → Prop} (T : OexC X.K C) (I : Inv X pins σ H s) (e : H a = some (exo a C none)) (hu : s.heap.get? u = some (PySem.W.kxs_mw "ValueError.__init__" a)) (hl : us.length ≤ sizeLine)
    (h : ∀ s', Inv X pins σ H s' → R .none s') : wpAny (model X.prog X.w) X.A (call (.ref u) us) R X.xe s := by
  obtain ⟨nm, q, N, bs, bm, sn, sub, ab, col, dd, k0, k1, k2, k3, k5, hC, hbm⟩ := T.cls
  obtain ⟨t1, ho⟩ := exo_at I.hok e
  have hCs := I.kIn _ _ hC
  obtain ⟨hh, g, d, t, os⟩ := s
  have fin : ∀ h', (∀ b o, b ≠ a → hh.get? b = some o → h'.get? b = some o) → h'.get? a = some ({ cls := .ref C, dict := none, data := .fields #[.ref hh.objs.size, .none, .none, .none, .bool false, .none] } : Obj) → R .none ⟨h', g, d, t, os⟩ := fun h' k hx => by
    have J := I.write (t' := t) (x := a) (e := a) (o := exo a C none) (by rw [e]; exact True.intro) (Or.inl rfl) k ⟨_, hx⟩ (exo_ok hx)
    have eu : upd H a (exo a C none) = H := funext fun b => by
      by_cases hb : b = a
      · rw [hb, upd_same, e]
      · rw [upd_ne hb]
    rw [eu] at J
    exact h _ J
  refine wpAny_call (codeAny_of_tree ?_)
  show wpAny _ X.A.in1 (callAny (.ref u) ⟨us, []⟩) _ _ _
  simp only [callAny]
  refine wpAny_bind (wpAny_load hu ?_)
  simp only [PySem.W.kxs_mw, show (Value.type "method-wrapper" == Value.type "method" || Value.type "method-wrapper" == Value.type "builtin_function_or_method" || Value.type "method-wrapper" == Value.type "method-wrapper") = true by decide, if_true]
  refine PySem.W.KFB.if_so (by decide) ?_
  refine wpAny_bind (PySem.W.check_bound_init F.excBase_ValueError.toExcCallFacts hCs ho rfl ?_)
  refine wpAny_bind (wpAny_pure (wpAny_pure ?_))
  refine ⟨plainId_quiet F.excBase_ValueError.init.plain _, codeAny_builtin F.excBase_ValueError.initEntry ?_⟩
  exact PySem.W.exc_init_tree (cls := .ref C) (t0 := t1) (dv := none) (c2 := .none) (c3 := .none) (b4 := .bool false) ho hl fun h' k hx _ => fin h' k hx

theorem eval_super {body : List Stmt} {e : Expr} {es : List Expr} {ta : TA} {p0 p1 p2 p3 : Pos} {i j : Nat} (S : SupC X.prog X.K C f cc arg) (I : Inv X pins σ H s)
    (hks : X.env.kindOf "super" = some .globalImplicit) (hkc : X.env.kindOf "__class__" = some .free) (hfu : X.env.func = some f) (hco : X.env.code = .ref cc) (hmS : X.mg "super" = none)
    (hNj : X.N[j]? = some ("__class__" : Str)) (ej : σ[j]? = some (some (.ref C))) (hNi : X.N[i]? = some arg) (ei : σ[i]? = some (some (.ref a))) (hvi : Vis X.env.scope arg) (hcd : (arg == ("__classdict__" : Str)) = false)
    (hE : H a = some (exo a C none)) (ha : PA X (e :: es) ta) (q : ta σ H fun us H1 => us.length ≤ 1000 ∧ H1 a = some (exo a C none) ∧ Q .non H1)
    (he : starEach (e :: es) X.env = (false, eval e X.env) :: starEach es X.env := by rfl) (hpl : (backTo p3 (starEach es X.env)).any (·.1) = false := by rfl)
    {pl : Sem Bool} (hev : eval (.Call (.Attribute (.Call (.Name "super" p0) [] [] p1) "__init__" p2) (e :: es) [] p3) X.env = (do
      let ov ← attributeBase (.Call (.Name "super" p0) [] [] p1) "__init__" X.env (eval (.Call (.Name "super" p0) [] [] p1) X.env)
      standAt p2.atName
      let (f, first) ← holding [ov] (getMethod ov "__init__" pl)
      callWith p3 f first (backTo p3 (starEach (e :: es) X.env)) []) := by rfl) :
    PySem.wpAt (model X.prog X.w) X.A (.func body X.env) (eval (.Call (.Attribute (.Call (.Name "super" p0) [] [] p1) "__init__" p2) (e :: es) [] p3) X.env) (EP X pins σ Q) X.xe s := by
  obtain ⟨of, fd, ar, lf, hfd, hp, rfl⟩ := S.fn
  obtain ⟨oc, vs, file, tf, lc, hoc, hvs, hfile⟩ := S.code
  obtain ⟨nm, q', N, bs, bm, sn, sub, ab, col, dd, k0, k1, k2, k3, k5, hC, hbm⟩ := S.T.cls
  obtain ⟨mb, hb1, hb2⟩ := I.mod.blt
  refine ks_wpAt_MethodCall ?_ hev
  refine ks_wpAt_super_base hks hkc (by decide) hfu (I.kIn _ _ lf) hfd hp hco (I.kIn _ _ lc) hoc hvs hfile S.top ?_
  refine PySem.W.ks_loadName_global I.ok.kind hks (Calls.loadGlobal_builtin (by rw [I.ok.glob]; exact I.mod.glob.keeps I.bk) hmS (by rw [I.ok.blt]; exact hb1.keeps I.bk) ((hb2 _ (by decide)).trans (by decide +kernel)) ⟨rfl, ?_⟩)
  refine ld_slot I hNj ej (Or.inr (Or.inr hkc)) fun u ru => ?_
  obtain rfl : u = Value.ref C := ru
  refine ld_slot I hNi ei hvi (fun u ru => ?_) hcd
  obtain rfl : u = Value.ref a := ru
  obtain ⟨t1, ho⟩ := exo_at I.hok hE
  have hCs := I.kIn _ _ hC
  have hcl : PySem.W.clsIn X.K C = some { name := nm, bases := bs, mro := .ref C :: bm, ns := N, qualname := q', hasDict := true, slotNames := sn, subclasses := sub, abstract := ab, collection := col, hasDel := false } := by unfold PySem.W.clsIn; rw [hC] <;> rfl
  obtain ⟨hh, g, d, t, os⟩ := s
  refine ks_wpAny_isType_cls hCs rfl ⟨rfl, ?_⟩
  refine ks_wpAny_call_super hCs rfl ho rfl (fun c z => nomatch z) (PySem.W.looks_mroIn I.kIn S.own) fun h1 hso k1' => ?_
  have I1 : Inv X pins σ H ⟨h1, g, d, t, os⟩ := I.kept (t' := t) k1'
  have hI : PySem.W.Looks (model X.prog X.w) h1 (isInstance (.ref a) (.type "ValueError")) true := (PySem.W.InstAt.type (show PySem.W.InstAt h1 a _ C none from ⟨k1' _ _ ho, rfl, rfl, True.intro⟩)).andThen (PySem.W.looks_subIn I1.kIn S.ve)
  have hmr : PySem.W.Looks (model X.prog X.w) h1 (mroOf (.ref C)) (.ref C :: bm) := (PySem.W.looks_clsIn I1.kIn hcl).andThen .now
  have hsup : PySem.W.alongIn X.K "__init__" (((Value.ref C :: bm).dropWhile (· != .ref C)).drop 1) = some (some (.builtin "ValueError.__init__")) := by
    have z := S.sup
    unfold PySem.W.ks_superIn at z
    rw [hcl] at z
    exact z
  have hne : a ≠ C := fun z => by
    subst z
    rw [ho] at hCs
    cases hCs
  refine PySem.W.kxs_getMethod PySem.W.kxs_ValueError hso (PySem.W.looks_opaque I1.kIn S.opq) hmr rfl I1.kIn hsup hI hne (by decide) ?_
  have k2' : ∀ b u, h1.get? b = some u → (h1.push (PySem.W.kxs_mw "ValueError.__init__" a)).get? b = some u := fun b u z => Heap.get?_push_of_some _ z
  have I2 : Inv X pins σ H ⟨h1.push (PySem.W.kxs_mw "ValueError.__init__" a), g, d, t + 1, os⟩ := I1.kept (t' := t + 1) k2'
  have at2 : (h1.push (PySem.W.kxs_mw "ValueError.__init__" a)).get? h1.objs.size = some (PySem.W.kxs_mw "ValueError.__init__" a) := Heap.get?_push_size _ rfl
  have hlt : X.env.locals < h1.objs.size := I1.lt
  have J : Inv X (pins ++ [(h1.objs.size, PySem.W.kxs_mw "ValueError.__init__" a)]) σ H ⟨h1.push (PySem.W.kxs_mw "ValueError.__init__" a), g, d, t + 1, os⟩ := I2.pins_of fun p hp => by
    rcases List.mem_append.mp hp with hp | hp
    · exact I2.pin p (List.mem_append_right _ hp)
    · obtain rfl := List.mem_singleton.mp hp
      exact ⟨at2, I1.hok.fresh (Nat.le_refl _), Nat.ne_of_gt hlt, I1.nofs (Nat.le_refl _), fun v z => nomatch z⟩
  refine PySem.W.kxs_callWith (i := "ValueError.__init__") (x := a) (by rw [he]; show (false || _) = false; rw [Bool.false_or]; exact hpl) ?_
  rw [he]
  refine Calls.evalArgs_plain ?_
  have hq := ha.run p3 _ _ σ H _ J q
  rw [he] at hq
  refine thn hq fun us s3 ⟨ws, H3, I3, r3, hlen, hE3, q3⟩ => ?_
  have at3 := (I3.pin (h1.objs.size, PySem.W.kxs_mw "ValueError.__init__" a) (List.mem_append_right _ (List.mem_append_right _ (List.mem_singleton.mpr rfl)))).1
  refine ⟨at3, ?_⟩
  show wpAny _ _ (call (.ref h1.objs.size) ([] ++ us)) _ _ _
  rw [List.nil_append]
  exact call_wrap S.T I3.unpinned hE3 at3 (by rw [← r3.length]; exact Nat.le_trans hlen (by rw [sizeLine_eq]; omega)) fun s' I' => ⟨.non, H3, I', rfl, q3⟩
end
end Cf

namespace Cf
open PySem PySem.Spec PyProof.Rows L2 NdefX
/-- such an __init__ keeps its promise, by what its first line's arguments and the rest of its body read -/
theorem sup_ok {P : Program} {w : World} {K : PySem.W.Frag} {mg : Str → Option Value} {base : Heap} {CX : CXT} {k : Nat} {f cl cc C : Addr} {qual self : Str} {params : Arguments} {body rest : List Stmt} {scope : Scope} {dV kV doc pm ct oc : Value} {an od : Option Addr}
    {osl : Array (Option Value)} {N ps : List Str} {sp : Sp} {e : Expr} {es : List Expr} {p0 p1 p2 p3 p4 : Pos} {pl : Env → Sem Bool}
    (lk : K.lookup f = some ⟨oc, od, .func (PySem.W.fnX "__init__" qual params body scope [("__class__", cl)] dV kV doc pm an (.ref cc) ct), osl⟩) (hcd : PySem.W.codeIn K (.ref cc) qual = true)
    (lcl : ∃ o, K.lookup cl = some o ∧ o.data = .cell (some (.ref C))) (S : NScope N ps ["__class__"] scope) (Sc : SupC P K C f cc self) (hself : ps[0]? = some self) (hmS : mg "super" = none)
    (hks : scope.names.lookup ("super" : Str) = some .globalImplicit) (len : ∀ vs H Q E, sp vs H Q E → vs.length = ps.length)
    (hb : body = .Expr (.Call (.Attribute (.Call (.Name "super" p0) [] [] p1) "__init__" p2) (e :: es) [] p3) p4 :: rest)
    (he : ∀ env, starEach (e :: es) env = (false, eval e env) :: starEach es env) (hpl : ∀ env, (backTo p3 (starEach es env)).any (·.1) = false)
    (hev : ∀ env, eval (.Call (.Attribute (.Call (.Name "super" p0) [] [] p1) "__init__" p2) (e :: es) [] p3) env = (do
      let ov ← attributeBase (.Call (.Name "super" p0) [] [] p1) "__init__" env (eval (.Call (.Name "super" p0) [] [] p1) env)
      standAt p2.atName
      let (f, first) ← holding [ov] (getMethod ov "__init__" (pl env))
      callWith p3 f first (backTo p3 (starEach (e :: es) env)) []))
    (hcd2 : (self == ("__classdict__" : Str)) = false)
    (hbody : ∀ (A : Around) (outer : List Env) (s : Shared) (H : Hp) (vs : List V) (Q : VK) (E : XK), Room k (A.deeper (envF ⟨"__init__", qual, params, body, scope, [("__class__", cl)], cc⟩ f s.heap.objs.size)) → sp vs H Q E →
      ∃ (a : Addr) (ta : TA) (t : TS), vs[0]? = some (.ref a) ∧ H a = some (exo a C none) ∧ PA (ncx CX P w K mg base N ⟨"__init__", qual, params, body, scope, [("__class__", cl)], cc⟩ f A outer s H E) (e :: es) ta ∧
        PSs (ncx CX P w K mg base N ⟨"__init__", qual, params, body, scope, [("__class__", cl)], cc⟩ f A outer s H E) rest t ∧
        ta (startF N vs [some (.ref C)]) H fun us H1 => us.length ≤ 1000 ∧ H1 a = some (exo a C none) ∧ t { nx := fun _ H' => Q .non H', rt := Q } (startF N vs [some (.ref C)]) H1) :
    FnOk P w K mg base CX (k + 1) f (PySem.W.fnX "__init__" qual params body scope [("__class__", cl)] dV kV doc pm an (.ref cc) ct) ps sp := by
  refine ⟨len, fun A outer s H args us vs Q E hr e0 hbd r hsp => ?_⟩
  have stay : ∀ b o, base.get? b = some o → s.heap.get? b = some o := fun b o e => (e0.bs b o e).1
  have KX : K.In s.heap := e0.mod.kin.keeps stay
  have lim := e0.mod.nolimit.keeps stay
  have hl := len _ _ _ _ hsp
  obtain ⟨ocl, lkc, dcl⟩ := lcl
  have cN : H cl = none := (e0.bs cl ocl (e0.mod.kin _ _ lkc)).2
  have cC : s.heap.IsCell cl (some (.ref C)) := ⟨ocl, KX _ _ lkc, dcl⟩
  have only : ∀ {y : Str} {c : Addr}, List.lookup y [(("__class__" : Str), cl)] = some c → y = "__class__" ∧ c = cl := fun {y c} z => by
    by_cases hy : y = ("__class__" : Str)
    · subst hy
      exact ⟨rfl, (Option.some.inj z).symm⟩
    · rw [List.lookup, show (y == ("__class__" : Str)) = false from beq_eq_false_iff_ne.mpr hy] at z
      cases z
  have Cs : CellsAt [(("__class__" : Str), cl)] ["__class__"] [some (.ref C)] s.heap H := {
    len := rfl
    all := fun y c z => by
      obtain ⟨_, rfl⟩ := only z
      exact ⟨cN, _, cC⟩
    inj := fun x y c z1 z2 => by rw [(only z1).1, (only z2).1]
    has := fun i y z => by
      cases i with
      | zero =>
        obtain rfl : ("__class__" : Str) = y := Option.some.inj z
        refine ⟨cl, rfl, fun v hv => ?_⟩
        obtain rfl : V.ref C = v := Option.some.inj (Option.some.inj hv)
        exact ⟨.ref C, rfl, cC⟩
      | succ i => cases z }
  refine codeAny_call_function hr.depth (KX _ _ lk) rfl S.co S.gen rfl (PySem.W.codeRec_of KX hcd) (hbd _ _ _ _ ?_)
  refine wpAny_newFunctionEnv S.nocell (fun ⟨n, _⟩ hy => S.par n (List.of_mem_zip hy).1) (fun h₁ hns hsb => ⟨lim.fresh _ hsb, ?_⟩) S.kind
  show codeAny _ _ (.func body (envF ⟨"__init__", qual, params, body, scope, [("__class__", cl)], cc⟩ f s.heap.objs.size)) _ _
  refine ks_codeAny_funcAt ?_
  have kp : ∀ b o, s.heap.get? b = some o → h₁.get? b = some o := fun b o e => hsb.extBut b o (Nat.ne_of_lt (Heap.lt_size e)) (Heap.get?_push_of_some _ e)
  obtain ⟨a, ta, t, ea, hE, hta, ht, hq⟩ := hbody A outer s H vs Q E (hr.deeper _) hsp
  have I := inv_startN (CX := CX) (P := P) (w := w) (mg := mg) (N := N) (F := ⟨"__init__", qual, params, body, scope, [("__class__", cl)], cc⟩) (f := f) (E := E) (tk := s.toks + (ps.zip us).length) S hr.hd e0 hl r Cs hns kp
  have hps : 0 < ps.length := by
    cases ps with
    | nil => cases hself
    | cons _ _ => exact Nat.succ_pos _
  have hN0 : N[0]? = some self := by
    have z := congrArg (fun l => l[0]?) S.pre
    simp only [List.getElem?_take] at z
    rw [if_pos (by omega)] at z
    rw [z, List.getElem?_append_left hps]
    exact hself
  have hNj : N[ps.length]? = some ("__class__" : Str) := by
    have z := congrArg (fun l => l[ps.length]?) S.pre
    simp only [List.getElem?_take, List.length_singleton] at z
    rw [if_pos (by omega)] at z
    rw [z, List.getElem?_append_right (Nat.le_refl _), Nat.sub_self] <;> rfl
  have σ0 : (startF N vs [some (.ref C)])[0]? = some (some (.ref a)) := by
    unfold startF
    rw [List.getElem?_append_left (by rw [List.length_map, hl]; exact hps), List.getElem?_map, ea] <;> rfl
  have σj : (startF N vs [some (.ref C)])[ps.length]? = some (some (.ref C)) := by
    unfold startF
    rw [List.getElem?_append_right (by rw [List.length_map, hl]; exact Nat.le_refl _), List.length_map, hl, Nat.sub_self] <;> rfl
  subst hb
  refine ks_wpAt_execs_cons (ks_wpAt_Expr_any (hi := by unfold interactive; simp [S.kind]) ?_)
  refine ks_wpAt_mono (eval_super (Q := fun _ H1 => t { nx := fun _ H' => Q .non H', rt := Q } (startF N vs [some (.ref C)]) H1) Sc I hks (S.frk _ (List.mem_singleton.mpr rfl)) rfl rfl hmS hNj σj hN0 σ0
    (Or.inl (S.par self (List.mem_of_getElem? hself))) hcd2 hE hta hq (he _) (hpl _) (hev _)) (fun u s1 hu => ?_) fun _ _ z => z
  · obtain ⟨v, H1, I1, _, q⟩ := hu
    refine wpAt_of_wpAny (wpAny_mono (ht.run [] s1 _ H1 _ I1 q) (fun fl s' hs => ?_) fun _ _ z => z)
    cases fl with
    | brk => exact hs.elim fun _ z => z.elim fun _ z => z.2.elim
    | cont => exact hs.elim fun _ z => z.elim fun _ z => z.2.elim
    | next =>
      obtain ⟨σ', H', J, q⟩ := hs
      exact ⟨V.non, H', J.os, J.bare, J.base, J.hok, rfl, q⟩
    | ret u =>
      obtain ⟨v, σ', H', J, rv, q⟩ := hs
      exact ⟨v, H', J.os, J.bare, J.base, J.hok, rv, q⟩
end Cf

set_option Elab.async false
set_option linter.all false
set_option maxRecDepth 100000
set_option maxHeartbeats 4000000
/-! the head's facts of exception classes -/
namespace Cf
open PySem PySem.Spec PyProof.Rows L2 PySem.W

/-- the class object of an exception over ValueError -/
def eclB (K : Frag) (C : Addr) : Bool := match K.lookup C with
  | some ⟨.type ty, _, .cls cd, sl⟩ => decide (ty = "type") && (match cd.mro, sl.toList with
    | .ref D :: bm, [_, _, _, _, some (.builtin n), _] => decide (D = C) && (decide (n = "ValueError.__new__") && (!cd.hasDel && (PySem.HandSPX.refsVE bm && cd.hasDict)))
    | _, _ => false)
  | _ => false
theorem ecl_up {K L : Frag} (le : Le K L) {C : Addr} (h : eclB K C = true) : eclB L C = true := by
  unfold eclB at h ⊢
  cases e : K.lookup C with
  | none => rw [e] at h; cases h
  | some o => rw [e] at h; rw [le _ _ e]; exact h
theorem ecl_ok {K : Frag} {C : Addr} (h : eclB K C = true) : ∃ nm q N bs bm sn sub ab col dd k0 k1 k2 k3 k5, K.lookup C = some (excClassObj nm q C N bs bm true sn sub ab col dd k0 k1 k2 k3 k5 "ValueError.__new__") ∧ PySem.HandSPX.refsVE bm = true := by
  unfold eclB at h
  cases e : K.lookup C with
  | none => rw [e] at h; cases h
  | some o =>
    rw [e] at h
    obtain ⟨c, d, dt, sl⟩ := o
    cases c with
    | type ty =>
      cases dt with
      | cls cd =>
        obtain ⟨nm, bs, mro, ns, qn, hd, sn, sb, ab, col, del⟩ := cd
        obtain ⟨h0, h⟩ := He.ba h
        have h0 := of_decide_eq_true h0
        first | subst h0 | skip
        dsimp only at h
        split at h
        · rename_i D bm a0 a1 a2 a3 n a5 hs _
          obtain ⟨_, h⟩ := He.ba h
          obtain ⟨h1, h⟩ := He.ba h
          obtain ⟨h2, h⟩ := He.ba h
          obtain ⟨h3, h⟩ := He.ba h
          obtain ⟨h4, h5⟩ := He.ba h
          have h1 := of_decide_eq_true h1
          have h2 := of_decide_eq_true h2
          subst h1
          subst h2
          have hs2 : sl = #[a0, a1, a2, a3, some (.builtin "ValueError.__new__"), a5] := by
            apply Array.ext'
            rw [hs]
          have h3 : del = false := by simpa using h3
          have h5 : hd = true := h5
          subst hs2 h3 h5
          exact ⟨nm, qn, ns, bs, bm, sn, sb, ab, col, d, a0, a1, a2, a3, a5, rfl, h4⟩
        · cases h
      | _ => cases h
    | _ => cases dt <;> cases h
/-- what every exception class of ours must have -/
def excB (K : Frag) (x : Str) : Bool := gloB K x && (eclB K (He.ga K x) && (decide (findIn K (.ref (He.ga K x)) "__setattr__" = some (some (.builtin "object.__setattr__"))) && (decide (subIn K (.ref (He.ga K x)) (.type "BaseException") = some true) &&
  (decide (typeIn K (.ref (He.ga K x)) = some (.type "type")) && (keepIn K (.ref (He.ga K x)) && (decide (subIn K (.ref (He.ga K x)) (.type "ValueError") = some true) && (decide (mroIn K (He.ga K x) (.ref (He.ga K x)) = some true) &&
  (decide (findIn K (.ref (He.ga K x)) "__getattribute__" = some (some (.builtin "BaseException.__getattribute__"))) && (decide (findIn K (.ref (He.ga K x)) "__getattr__" = some none) && (hasDictIn K (He.ga K x) &&
  (decide (findIn K (.ref (He.ga K x)) "__class__" = some (some (.builtin "object.__class__"))) && decide (mroIn K (He.ga K x) (.type "object") = some true))))))))))))
theorem dec_up {α : Type} [DecidableEq α] {a b : Option α} {r : α} (up : ∀ {r}, a = some r → b = some r) (h : decide (a = some r) = true) : decide (b = some r) = true := decide_eq_true (up (of_decide_eq_true h))
theorem and3 {a b : Bool} (h1 : a = true) (h2 : b = true) : (a && b) = true := by rw [h1, h2]; rfl
theorem exc_up {K L : Frag} (le : Le K L) {x : Str} (h : excB K x = true) : excB L x = true := by
  unfold excB at h ⊢
  obtain ⟨h0, h⟩ := He.ba h
  obtain ⟨g1, g2⟩ := glo_up le h0
  obtain ⟨h1, h⟩ := He.ba h
  obtain ⟨h2, h⟩ := He.ba h
  obtain ⟨h3, h⟩ := He.ba h
  obtain ⟨h4, h⟩ := He.ba h
  obtain ⟨h5, h⟩ := He.ba h
  obtain ⟨h6, h⟩ := He.ba h
  obtain ⟨h7, h⟩ := He.ba h
  obtain ⟨h8, h⟩ := He.ba h
  obtain ⟨h9, h⟩ := He.ba h
  obtain ⟨h10, h⟩ := He.ba h
  obtain ⟨h11, h12⟩ := He.ba h
  rw [g1, g2, Bool.true_and]
  exact and3 (ecl_up le h1) (and3 (dec_up (find_up le) h2) (and3 (dec_up (sub_up le) h3) (and3 (dec_up (type_up le) h4) (and3 (keep_up le h5) (and3 (dec_up (sub_up le) h6) (and3 (dec_up (mro_up le) h7)
    (and3 (dec_up (find_up le) h8) (and3 (dec_up (find_up le) h9) (and3 (any_up le h10) (and3 (dec_up (find_up le) h11) (dec_up (mro_up le) h12)))))))))))
structure ExcOk (K : Frag) (x : Str) : Prop where
  oex : OexC K (He.ga K x)
  xf : XfC K (He.ga K x)
  ve : subIn K (.ref (He.ga K x)) (.type "ValueError") = some true
  own : mroIn K (He.ga K x) (.ref (He.ga K x)) = some true
  ec : ExcC K (He.ga K x)
theorem exc_ok {K : Frag} {x : Str} (h : excB K x = true) : ExcOk K x := by
  unfold excB at h
  obtain ⟨h0, h⟩ := He.ba h
  obtain ⟨h1, h⟩ := He.ba h
  obtain ⟨h2, h⟩ := He.ba h
  obtain ⟨h3, h⟩ := He.ba h
  obtain ⟨h4, h⟩ := He.ba h
  obtain ⟨h5, h⟩ := He.ba h
  obtain ⟨h6, h⟩ := He.ba h
  obtain ⟨h7, h⟩ := He.ba h
  obtain ⟨h8, h⟩ := He.ba h
  obtain ⟨h9, h⟩ := He.ba h
  obtain ⟨h10, h⟩ := He.ba h
  obtain ⟨h11, h12⟩ := He.ba h
  refine ⟨⟨ecl_ok h1, of_decide_eq_true h2, of_decide_eq_true h3, of_decide_eq_true h4, h5⟩, ⟨of_decide_eq_true h8, of_decide_eq_true h9, of_decide_eq_true h3, h10⟩, of_decide_eq_true h6, of_decide_eq_true h7,
    ⟨of_decide_eq_true h8, of_decide_eq_true h9, of_decide_eq_true h3, h10, of_decide_eq_true h11, ?_, ?_, of_decide_eq_true h12⟩⟩
  · first | rfl | decide +kernel | (simp only [specialIn, typeIn]; decide +kernel)
  · first | rfl | decide +kernel

/-! an __init__ that closes over its class -/
structure DefS where
  x : Str
  qual : Str
  params : Arguments
  body : List Stmt
  scope : Scope
  dfl : List He.Dv := []
  flds : List Str := []
abbrev SuW : Type := Option (Str × Str × Arguments × FuncBody × Scope × Addr × Addr)
def suW (K : Frag) (x : Str) : SuW := match K.lookup (He.fAd K (x, some "__init__")) with
  | some ⟨_, _, .func fd, _⟩ => some (fd.name, fd.qualname, fd.params, fd.body, fd.scope, fd.globals, fd.builtins)
  | _ => none
def DefS.val (d : DefS) : SuW := some (("__init__" : Str), d.qual, d.params, .stmts d.body, d.scope, mainGlobals, builtinsNs)
def cellB (K : Frag) (c C : Addr) : Bool := match K.lookup c with
  | some ⟨_, _, .cell (some (.ref D)), _⟩ => decide (D = C)
  | _ => false
def fileB (K : Frag) (file : Str) (v : Value) : Bool := match v with
  | .ref c => (match K.lookup c with
    | some ⟨_, _, .fields vs, _⟩ => (match vs[2]? with
      | some (Value.str y _) => file == y
      | _ => false)
    | _ => false)
  | _ => false
def closB (K : Frag) (C : Addr) (l : List (Str × Addr)) : Bool := match l with
  | [(n, c)] => decide (n = ("__class__" : Str)) && cellB K c C
  | _ => false
def bodyB (K : Frag) (file : Str) (d : DefS) (fd : FuncData) : Bool := closB K (He.ga K d.x) fd.closure && (codeIn K fd.code d.qual && (fileB K file fd.code && (He.dflB K fd.defaults (d.dfl.map (He.Dv.v K)) && He.kwdB K fd.kwdefaults [])))
def DefS.ok (file : Str) (K : Frag) (d : DefS) : Bool := atB K (d.x, some "__init__") && (excB K d.x && (d.dfl.all flatDv && (decide (ks_superIn K (He.ga K d.x) (He.ga K d.x) "__init__" = some (some (.builtin "ValueError.__init__"))) &&
  (decide (nsIn K cStatics "thirdparty.any" = some none) && (d.flds.all (fun f => decide (findIn K (.ref (He.ga K d.x)) f = some none)) && (keepIn K (.ref (He.fAd K (d.x, some "__init__"))) && (decide (findIn K (.ref (He.ga K d.x)) "__init__" = some (some (.ref (He.fAd K (d.x, some "__init__"))))) && (isFn K (.ref (He.fAd K (d.x, some "__init__"))) &&
  match K.lookup (He.fAd K (d.x, some "__init__")) with
  | some ⟨_, _, .func fd, _⟩ => bodyB K file d fd
  | _ => false))))))))
theorem cell_up {K L : Frag} (le : Le K L) {c C : Addr} (h : cellB K c C = true) : cellB L c C = true := by
  unfold cellB at h ⊢
  cases e : K.lookup c with
  | none => rw [e] at h; cases h
  | some o => rw [e] at h; rw [le _ _ e]; exact h
theorem file_up {K L : Frag} (le : Le K L) {file : Str} {v : Value} (h : fileB K file v = true) : fileB L file v = true := by
  cases v with
  | ref c =>
    have h1 : (match K.lookup c with
      | some ⟨_, _, .fields vs, _⟩ => (match vs[2]? with
        | some (Value.str y _) => file == y
        | _ => false)
      | _ => false) = true := h
    show (match L.lookup c with
      | some ⟨_, _, .fields vs, _⟩ => (match vs[2]? with
        | some (Value.str y _) => file == y
        | _ => false)
      | _ => false) = true
    cases e : K.lookup c with
    | none => rw [e] at h1; cases h1
    | some o => rw [e] at h1; rw [le _ _ e]; exact h1
  | _ => cases h
theorem clos_up {K L : Frag} (le : Le K L) {C : Addr} {l : List (Str × Addr)} (h : closB K C l = true) : closB L C l = true := by
  unfold closB at h ⊢
  split at h
  · obtain ⟨h1, h2⟩ := He.ba h
    exact and3 h1 (cell_up le h2)
  · cases h
theorem sup_up {K L : Frag} (le : Le K L) {C D : Addr} {x : Str} {r : Option Value} (h : ks_superIn K C D x = some r) : ks_superIn L C D x = some r := by
  unfold ks_superIn at h ⊢
  cases e : clsIn K C with
  | none => rw [e] at h; cases h
  | some cd => rw [e] at h; rw [cls_up le e]; exact along_up le h
theorem suW_up {K L : Frag} (le : Le K L) {x : Str} (h : atB K (x, some "__init__") = true) {r : Str × Str × Arguments × FuncBody × Scope × Addr × Addr} (e : suW K x = some r) : suW L x = some r := by
  unfold suW at e ⊢
  rw [fAd_up le h]
  cases q : K.lookup (He.fAd K (x, some "__init__")) with
  | none => rw [q] at e; cases e
  | some o => rw [q] at e; rw [le _ _ q]; exact e
theorem exc_glo {K : Frag} {x : Str} (h : excB K x = true) : gloB K x = true := (He.ba h).1
theorem DefS.up {K L : Frag} (le : Le K L) {file : Str} {d : DefS} (h : d.ok file K = true) : d.ok file L = true := by
  unfold DefS.ok at h ⊢
  obtain ⟨h1, h⟩ := He.ba h
  obtain ⟨h2, h⟩ := He.ba h
  obtain ⟨h3, h⟩ := He.ba h
  obtain ⟨h4, h⟩ := He.ba h
  obtain ⟨h5, h⟩ := He.ba h
  obtain ⟨h6, h⟩ := He.ba h
  obtain ⟨h7, h⟩ := He.ba h
  obtain ⟨h8, h⟩ := He.ba h
  obtain ⟨h9, h10⟩ := He.ba h
  have g := (glo_up le (exc_glo h2)).2
  have gf := fAd_up le h1
  rw [gf, g, atB_up le h1, exc_up le h2, h3, Bool.true_and, Bool.true_and, Bool.true_and]
  refine and3 (dec_up (sup_up le) h4) (and3 (dec_up (ns_up le) h5) (and3 (List.all_eq_true.mpr fun f hf => dec_up (find_up le) (List.all_eq_true.mp h6 f hf)) (and3 (keep_up le h7) (and3 (dec_up (find_up le) h8) (and3 (show isFn L _ = true from beq_iff_eq.mpr (type_up le (beq_iff_eq.mp h9))) ?_)))))
  cases q : K.lookup (He.fAd K (d.x, some "__init__")) with
  | none => rw [q] at h10; cases h10
  | some o =>
    rw [q] at h10
    rw [le _ _ q]
    obtain ⟨c, dd, dt, sl⟩ := o
    cases dt with
    | func fd =>
      have k : bodyB K file d fd = true := h10
      show bodyB L file d fd = true
      unfold bodyB at k ⊢
      obtain ⟨k1, k⟩ := He.ba k
      obtain ⟨k2, k⟩ := He.ba k
      obtain ⟨k3, k⟩ := He.ba k
      obtain ⟨k4, k5⟩ := He.ba k
      rw [g, flat_all (K := K) h3]
      exact and3 (clos_up le k1) (and3 (code_up le k2) (and3 (file_up le k3) (and3 (dflB_up le k4) (kwdB_up le k5))))
    | _ => cases h10
/-- an __init__ of an exception, as it stands behind the top -/
structure FunS (K : Frag) (d : DefS) (f cl cc : Addr) (fd : FuncData) : Prop where
  ex : ∃ (oc : Value) (od : Option Addr) (dV kV doc pm : Value) (an : Option Addr) (ct : Value) (osl : Array (Option Value)), fd = fnX "__init__" d.qual d.params d.body d.scope [("__class__", cl)] dV kV doc pm an (.ref cc) ct ∧
    K.lookup f = some ⟨oc, od, .func fd, osl⟩ ∧ codeIn K (.ref cc) d.qual = true ∧ DflV K dV (d.dfl.map (He.Dv.v K))
  cell : ∃ o, K.lookup cl = some o ∧ o.data = .cell (some (.ref (He.ga K d.x)))
  kp : keepIn K (.ref f) = true
  fnd : findIn K (.ref (He.ga K d.x)) "__init__" = some (some (.ref f))
  isf : isFn K (.ref f) = true
theorem cell_ok {K : Frag} {c C : Addr} (h : cellB K c C = true) : ∃ o, K.lookup c = some o ∧ o.data = .cell (some (.ref C)) := by
  unfold cellB at h
  cases e : K.lookup c with
  | none => rw [e] at h; cases h
  | some o =>
    rw [e] at h
    refine ⟨o, rfl, ?_⟩
    split at h
    · rename_i z
      cases z
      rw [of_decide_eq_true h]
    · cases h
theorem file_ok {K : Frag} {file : Str} {v : Value} (h : fileB K file v = true) : ∃ (cc : Addr) (oc : Obj) (vs : Array Value) (y : Str) (t : Tok), v = .ref cc ∧ K.lookup cc = some oc ∧ oc.data = .fields vs ∧ vs[2]? = some (Value.str y t) ∧ (file == y) = true := by
  cases v with
  | ref c =>
    have h1 : (match K.lookup c with
      | some ⟨_, _, .fields vs, _⟩ => (match vs[2]? with
        | some (Value.str y _) => file == y
        | _ => false)
      | _ => false) = true := h
    cases e : K.lookup c with
    | none => rw [e] at h1; cases h1
    | some o =>
      rw [e] at h1
      obtain ⟨oc, od, dt, sl⟩ := o
      cases dt with
      | fields vs =>
        have h2 : (match vs[2]? with
          | some (Value.str y _) => file == y
          | _ => false) = true := h1
        split at h2
        · rename_i y t z
          exact ⟨c, _, vs, y, t, rfl, e, rfl, z, h2⟩
        · cases h2
      | _ => cases h1
  | _ => cases h
theorem DefS.told {P : Program} {K : Frag} {d : DefS} {ar : Arg} (hP : (P.main.scope.names.lookup ("super" : Str)).isSome = false) (h : d.ok (P.main.file : Str) K = true) (e : suW K d.x = d.val) (ha : (d.params.posonlyargs ++ d.params.args).head? = some ar) :
    ∃ cl cc fd, FunS K d (He.fAd K (d.x, some "__init__")) cl cc fd ∧ SupC P K (He.ga K d.x) (He.fAd K (d.x, some "__init__")) cc ar.arg ∧ ExcOk K d.x ∧ ∀ f ∈ d.flds, findIn K (.ref (He.ga K d.x)) f = some none := by
  unfold DefS.ok at h
  obtain ⟨h1, h⟩ := He.ba h
  obtain ⟨h2, h⟩ := He.ba h
  obtain ⟨h3, h⟩ := He.ba h
  obtain ⟨h4, h⟩ := He.ba h
  obtain ⟨h5, h⟩ := He.ba h
  obtain ⟨h6, h⟩ := He.ba h
  obtain ⟨h7, h⟩ := He.ba h
  obtain ⟨h8, h⟩ := He.ba h
  obtain ⟨h9, h10⟩ := He.ba h
  have X := exc_ok h2
  unfold suW at e
  cases q : K.lookup (He.fAd K (d.x, some "__init__")) with
  | none => rw [q] at e; cases e
  | some o =>
    obtain ⟨oc, od, dt, osl⟩ := o
    rw [q] at e h10
    cases dt with
    | func fd =>
      obtain ⟨n1, n2, n3, n4, n5, n6, n7, n8, n9, n10, n11, n12, n13, n14, n15⟩ := fd
      have e2 : (some (n1, n2, n3, n4, n5, n6, n15) : SuW) = some (("__init__" : Str), d.qual, d.params, FuncBody.stmts d.body, d.scope, mainGlobals, builtinsNs) := e
      simp only [Option.some.injEq, Prod.mk.injEq] at e2
      obtain ⟨z1, z2, z3, z4, z5, z6, z7⟩ := e2
      subst z1 z2 z3 z4 z5 z6 z7
      have k : (closB K (He.ga K d.x) n7 && (codeIn K n13 d.qual && (fileB K (P.main.file : Str) n13 && (He.dflB K n8 (d.dfl.map (He.Dv.v K)) && He.kwdB K n9 [])))) = true := h10
      obtain ⟨k1, k⟩ := He.ba k
      obtain ⟨k2, k⟩ := He.ba k
      obtain ⟨k3, k⟩ := He.ba k
      obtain ⟨k4, k5⟩ := He.ba k
      unfold closB at k1
      split at k1
      · rename_i n c
        obtain ⟨k6, k7⟩ := He.ba k1
        have k6 := of_decide_eq_true k6
        subst k6
        obtain ⟨cc, oo, vs, y, t, rfl, f1, f2, f3, f4⟩ := file_ok k3
        refine ⟨c, cc, _, ⟨⟨oc, od, n8, n9, n10, n11, n12, n14, osl, rfl, q, k2, He.dflB_ok k4⟩, cell_ok k7, h7, of_decide_eq_true h8, h9⟩, ⟨X.oex, ⟨_, _, ar, q, rfl, ha, rfl⟩, ⟨oo, vs, y, t, f1, f2, f3, f4⟩, hP, of_decide_eq_true h4, of_decide_eq_true h5, X.ve, X.own⟩, X, fun f hf => of_decide_eq_true (List.all_eq_true.mp h6 f hf)⟩
      · cases k1
    | _ => cases e

/-! ### the hook with these -/
def kS (g : Gt) (x : Str) : Frag := He.frG g (mainGlobals :: cStatics :: (clsAd g (He.ga (kN g) x) ++ (fnAd g (He.ma (kC g x) (He.ga (kN g) x) "__init__") ++ match g (He.ma (kC g x) (He.ga (kN g) x) "__init__") with
  | some ⟨_, _, .func fd, _⟩ => fd.closure.map (·.2)
  | _ => [])))
abbrev Al2 : Type := Bool × List He.FnW × List SuW
/-- a class y, and whether a handler of the class c takes it: exmOne -/
def exmB (K : Frag) (x : Str) (y : Value) (b : Bool) : Bool := gloB K x && decide (subIn K (.ref (He.ga K x)) y = some b)
def obsY (file : Str) (fx : List Fx) (fn : List DefX) (sx : List DefS) (ex : List Str) (g : Gt) : Al2 :=
  (((fx.all fun f => f.ok (f.part g)) && fn.all fun d => d.ok (kF g d.at_)) && ((sx.all fun d => d.ok file (kS g d.x)) && ex.all fun x => excB (kC g x) x), fn.map (fun d => He.fnW (kF g d.at_) d.at_), sx.map fun d => suW (kS g d.x) d.x)
def valY (fn : List DefX) (sx : List DefS) : Al2 := (true, fn.map (fun d => d.to.val), sx.map fun d => d.val)
structure SaysY (file : Str) (fx : List Fx) (fn : List DefX) (sx : List DefS) (ex : List Str) (K : Frag) : Prop extends Says fx fn K where
  sups : ∀ d ∈ sx, d.ok file K = true ∧ suW K d.x = d.val
  excs : ∀ x ∈ ex, excB K x = true
theorem saysY_of {file : Str} {fx : List Fx} {fn : List DefX} {sx : List DefS} {ex : List Str} {h : Heap} (e : obsY file fx fn sx ex h.get? = valY fn sx) : SaysY file fx fn sx ex (whole h) := by
  have e1 : (((fx.all fun f => f.ok (f.part h.get?)) && fn.all fun d => d.ok (kF h.get? d.at_)) && ((sx.all fun d => d.ok file (kS h.get? d.x)) && ex.all fun x => excB (kC h.get? x) x)) = true := congrArg (fun z : Al2 => z.1) e
  have e2 : (fn.map fun d => He.fnW (kF h.get? d.at_) d.at_) = fn.map fun d => d.to.val := congrArg (fun z : Al2 => z.2.1) e
  have e3 : (sx.map fun d => suW (kS h.get? d.x) d.x) = sx.map fun d => d.val := congrArg (fun z : Al2 => z.2.2) e
  obtain ⟨a0, a3⟩ := He.ba e1
  obtain ⟨a3, a4⟩ := He.ba a3
  refine ⟨says_of (show obsX fx fn h.get? = valX fn from Prod.ext a0 e2), fun d hd => ?_, fun x hx => exc_up le_whole (List.all_eq_true.mp a4 x hx)⟩
  have b := List.all_eq_true.mp a3 d hd
  have lw : Le (kS h.get? d.x) (whole h) := le_whole
  refine ⟨DefS.up lw b, ?_⟩
  have c : suW (kS h.get? d.x) d.x = d.val := by
    obtain ⟨i, hi⟩ := List.getElem?_of_mem hd
    have := congrArg (fun l => l[i]?) e3
    simp only [List.getElem?_map, hi, Option.map_some] at this
    exact Option.some.inj this
  exact suW_up lw (He.ba b).1 c
def hookY (file : Str) (fx : List Fx) (fn : List DefX) (sx : List DefS) (ex : List Str) : PySem.W.Hook where
  α := Al2
  obs := fun s => obsY file fx fn sx ex s.heap.get?
  val := fun _ => valY fn sx
  says := fun _ h => ∃ K : Frag, K.In h ∧ SaysY file fx fn sx ex K
  of := fun _ _ e => ⟨_, He.frG_in, saysY_of e⟩
  keeps := fun _ _ _ ⟨K, hK, c⟩ k => ⟨K, PySem.W.Frag.In.keeps hK k, c⟩
theorem obsY_eq {file : Str} {fx : List Fx} {fn : List DefX} {sx : List DefS} {ex : List Str} {g : Gt} {s : Shared} (h : ∀ a, g a = s.heap.get? a) : obsY file fx fn sx ex g = (hookY file fx fn sx ex).obs s := by
  rw [show g = s.heap.get? from funext h] <;> rfl
end Cf

set_option Elab.async false
set_option linter.all false
set_option maxRecDepth 100000
set_option maxHeartbeats 4000000
/-! calls that may let an exception out, where the wish knows the slots; the head's facts by name; isinstance of a caught exception that has a dict -/
namespace Cf
open PySem PySem.Spec PyProof.Rows L2

/-- a class of ours with the attributes that its instances may bear -/
def ClsA (K : PySem.W.Frag) (x : Str) (fs : List Str) : Prop := Cls K (He.ga K x) ∧ ∀ f ∈ fs, NoAttr K (He.ga K x) f
/-- a clause for y, an exception of the class x -/
theorem exm_of {K : PySem.W.Frag} {x y : Str} {b : Bool} (Y : ExcOk K y) (h : PySem.W.subIn K (.ref (He.ga K x)) (.ref (He.ga K y)) = some b) : PySem.W.exmOne K (.ref (He.ga K x)) (.ref (He.ga K y)) = some b :=
  PySem.W.exm_ref Y.oex.exC Y.xf.hdC Y.oex.tyC h
theorem kit_own {K : PySem.W.Frag} {v : Value} : PySem.W.kitOne K v v = some true := by
  unfold PySem.W.kitOne
  rw [if_pos (beq_self_eq_true v)]
theorem kit_sub {K : PySem.W.Frag} {x y : Str} {b : Bool} (Y : ExcOk K y) (hne : He.ga K x ≠ He.ga K y) (h : PySem.W.subIn K (.ref (He.ga K x)) (.ref (He.ga K y)) = some b) : PySem.W.kitOne K (.ref (He.ga K x)) (.ref (He.ga K y)) = some b := by
  unfold PySem.W.kitOne PySem.W.kitCls
  obtain ⟨cd, hc, _⟩ := PySem.W.any_some Y.xf.hdC
  rw [if_neg (by intro z; exact hne (Value.ref.inj (beq_iff_eq.mp z)))]
  show (if ((PySem.W.clsIn K (He.ga K y)).isSome && PySem.W.typeIn K (.ref (He.ga K y)) == some (.type "type")) = true then PySem.W.subIn K (.ref (He.ga K x)) (.ref (He.ga K y)) else none) = some b
  rw [if_pos (by rw [hc, Y.oex.tyC]; rfl)]
  exact h
theorem kit_ve {K : PySem.W.Frag} {x : Str} (X : ExcOk K x) : PySem.W.kitOne K (.ref (He.ga K x)) (.type "ValueError") = some true := by
  unfold PySem.W.kitOne PySem.W.kitCls
  rw [if_neg (by intro z; cases (beq_iff_eq.mp z))]
  show (if PySem.W.kitMeta "ValueError" = true then PySem.W.subIn K (.ref (He.ga K x)) (.type "ValueError") else none) = some true
  rw [if_pos (by decide +kernel)]
  exact X.ve

theorem b_len : bootBuiltins "len" = some (.builtin "len") := PyProof.Rows.Boot.«len»
theorem b_int : bootBuiltins "int" = some (.type "int") := PyProof.Rows.Boot.«int»
theorem b_str : bootBuiltins "str" = some (.type "str") := PyProof.Rows.Boot.«str»
theorem b_min : bootBuiltins "min" = some (.builtin "min") := PyProof.Rows.Boot.«min»
theorem b_max : bootBuiltins "max" = some (.builtin "max") := PyProof.Rows.Boot.«max»
theorem b_abs : bootBuiltins "abs" = some (.builtin "abs") := PyProof.Rows.Boot.«abs»
theorem b_list : bootBuiltins "list" = some (.type "list") := PyProof.Rows.Boot.«list»
theorem b_tuple : bootBuiltins "tuple" = some (.type "tuple") := PyProof.Rows.Boot.«tuple»
theorem b_sorted : bootBuiltins "sorted" = some (.builtin "sorted") := PyProof.Rows.Boot.«sorted»
theorem b_isinstance : bootBuiltins "isinstance" = some (.builtin "isinstance") := PyProof.Rows.Boot.«isinstance»
theorem b_repr : bootBuiltins "repr" = some (.builtin "repr") := PyProof.Rows.Boot.«repr»
theorem b_set : bootBuiltins "set" = some (.type "set") := PyProof.Rows.Boot.«set»
theorem b_sum : bootBuiltins "sum" = some (.builtin "sum") := PyProof.Rows.Boot.«sum»
theorem b_any : bootBuiltins "any" = some (.builtin "any") := PyProof.Rows.Boot.«any»
theorem b_all : bootBuiltins "all" = some (.builtin "all") := PyProof.Rows.Boot.«all»
theorem b_bool : bootBuiltins "bool" = some (.type "bool") := PyProof.Rows.Boot.«bool»

/-- nothing may come out -/
abbrev WN : WX := fun _ _ _ _ => False
/-! ### calls under a wish W -/
abbrev tCallW (sp : Sp) (dvs : List V) (W : WX) (t : TA) : TE := fun σ H Q => t σ H fun vs H1 => sp (vs ++ dvs) H1 Q (WE W σ)
abbrev tMethW (C : Addr) (m : Str) (sp : Sp) (dvs : List V) (W : WX) (ta : TE) (t : TA) : TE := fun σ H Q => tMeth C m sp dvs (WE W σ) ta t σ H Q
section
variable {X : Cx} {k j : Nat} {ps : List Str} {dvs : List V} {sp : Sp} {W : WX} {x m : Str} {C f : Addr} {fd : FuncData} {ds : List Value} {p apos pos : Pos} {e o : Expr} {es : List Expr} {ta : TE} {t : TA}
theorem run_W {pins : List (Addr × Obj)} {σ : L2.St} {H : Hp} {s : Shared} {Q : VK} {us : List Value} {vs : List V} (tk : Takes X W) (F : FnOk X.prog X.w X.K X.mg X.base (L2.CX X.prog X.w) k f fd ps sp) (hr : Room k X.A) (hb : Binds X.K fd ps ds) (hd : Vals dvs ds)
    (I : Inv X pins σ H s) (r : Vals vs us) (h : sp (vs ++ dvs) H Q (WE W σ)) : wpAny (model X.prog X.w) X.A (call (.ref f) us) (EP X pins σ Q) X.xe s := by
  have rr : Vals (vs ++ dvs) (us ++ ds) := Vals.append r hd
  have ll : (us ++ ds).length = ps.length := (Paired.length rr).symm.trans (F.len _ _ _ _ h)
  refine wpAny_call (codeAny_mono (F.run X.A X.stack s H ⟨us, []⟩ (us ++ ds) (vs ++ dvs) Q (WE W σ) hr I.env0 (hb s us I.kIn ll) rr h) fun z s' hz => ?_)
  rcases z with u | fl
  · exact passAt tk σ pins H s u s' I hz
  · cases fl with
    | ret u => exact I.after hz
    | next => exact hz.elim
    | brk => exact hz.elim
    | cont => exact hz.elim
/-- f(e, ..) -/
theorem pcW (F : Cal X.prog X.w X.K X.mg X.base (L2.CX X.prog X.w) k x ps dvs sp) (hr : Room j X.A) (tk : Takes X W) (ha : PA X (e :: es) t) (hg : Gl X x := by rfl) (hk : k ≤ j := by decide) (hd : (x == ("__debug__" : Str)) = false := by decide)
    (hst : starEach (e :: es) X.env = (false, eval e X.env) :: starEach es X.env := by rfl) (hpl : (backTo pos (starEach es X.env)).any (·.1) = false := by rfl) : PE X (.Call (.Name x p) (e :: es) [] pos) (tCallW sp dvs W t) := by
  obtain ⟨f, fd, ds, h1, h2, h3, h4, h5⟩ := F.ex
  refine ⟨fun pins s σ H Q I q => wpAny_Call_Name_kw (ld_glob I hg h2 ?_ hd)⟩
  refine PySem.W.callWith_K (h₀ := X.base) I.ok.mod.kin h3 (thn (ha.run pos pins s σ H _ I q) fun us s1 z => ?_) hst hpl
  obtain ⟨vs, H1, I1, r, q1⟩ := z
  exact ⟨I1.kIn, run_W tk h1 (hr.mono hk) h4 h5 I1 r q1⟩
/-- f() -/
theorem pcW0 (F : Cal X.prog X.w X.K X.mg X.base (L2.CX X.prog X.w) k x ps dvs sp) (hr : Room j X.A) (tk : Takes X W) (hg : Gl X x := by rfl) (hk : k ≤ j := by decide) (hd : (x == ("__debug__" : Str)) = false := by decide) :
    PE X (.Call (.Name x p) [] [] pos) (tCallW sp dvs W tNil) := by
  obtain ⟨f, fd, ds, h1, h2, h3, h4, h5⟩ := F.ex
  refine ⟨fun pins s σ H Q I q => wpAny_Call_Name_kw (ld_glob I hg h2 ?_ hd)⟩
  exact PySem.W.callWith_K0 I.kIn h3 (run_W (us := []) (vs := []) tk h1 (hr.mono hk) h4 h5 I .nil q)
/-- o.m(e, ..) -/
theorem pcmW {pl : Sem Bool} (ho : PE X o ta) (F : CalM X.prog X.w X.K X.mg X.base (L2.CX X.prog X.w) k C m ps dvs sp) (hr : Room j X.A) (tk : Takes X W) (ha : PA X (e :: es) t) (hk : k ≤ j := by decide)
    (hst : starEach (e :: es) X.env = (false, eval e X.env) :: starEach es X.env := by rfl) (hpl : (backTo pos (starEach es X.env)).any (·.1) = false := by rfl)
    (hev : eval (.Call (.Attribute o m apos) (e :: es) [] pos) X.env = (do let ov ← eval o X.env; standAt apos.atName; let (f, first) ← holding [ov] (getMethod ov m pl); callWith pos f first (backTo pos (starEach (e :: es) X.env)) (backToKw pos (keywordEach [] X.env))) := by rfl) :
    PE X (.Call (.Attribute o m apos) (e :: es) [] pos) (tMethW C m sp dvs W ta t) := by
  obtain ⟨f, fd, ds, h1, h2, h3, h4, h5⟩ := F.ex
  refine ⟨fun pins s σ H Q I q => PySem.W.methodCall_KW (pl := pl) (thn (ho.run pins s σ H _ I q) fun u s1 z => ?_) hev⟩
  obtain ⟨v, H1, I1, rv, a, dx, fs, rfl, ea, l, q1⟩ := z
  obtain rfl : u = Value.ref a := rv
  refine getmeth_ok I1 ea h2 h3 l (PySem.W.callWith_K (first := [.ref a]) (h₀ := X.base) I.ok.mod.kin h3.kp (thn (ha.run pos pins s1 σ H1 _ I1 q1) fun us s2 z => ?_) hst hpl)
  obtain ⟨vs, H2, I2, r, q2⟩ := z
  exact ⟨I2.kIn, run_W (us := .ref a :: us) (vs := .ref a :: vs) tk h1 (hr.mono hk) h4 h5 I2 (.cons rfl r) q2⟩
/-- o.m() -/
theorem pcmW0 {pl : Sem Bool} (ho : PE X o ta) (F : CalM X.prog X.w X.K X.mg X.base (L2.CX X.prog X.w) k C m ps dvs sp) (hr : Room j X.A) (tk : Takes X W) (hk : k ≤ j := by decide)
    (hev : eval (.Call (.Attribute o m apos) [] [] pos) X.env = (do let ov ← eval o X.env; standAt apos.atName; let (f, first) ← holding [ov] (getMethod ov m pl); callWith pos f first (backTo pos (starEach [] X.env)) (backToKw pos (keywordEach [] X.env))) := by rfl) :
    PE X (.Call (.Attribute o m apos) [] [] pos) (tMethW C m sp dvs W ta tNil) := by
  obtain ⟨f, fd, ds, h1, h2, h3, h4, h5⟩ := F.ex
  refine ⟨fun pins s σ H Q I q => PySem.W.methodCall_KW (pl := pl) (thn (ho.run pins s σ H _ I q) fun u s1 z => ?_) hev⟩
  obtain ⟨v, H1, I1, rv, a, dx, fs, rfl, ea, l, q1⟩ := z
  obtain rfl : u = Value.ref a := rv
  exact getmeth_ok I1 ea h2 h3 l (PySem.W.callWith_K0 (first := [.ref a]) I1.kIn h3.kp (run_W (us := [.ref a]) (vs := [.ref a]) tk h1 (hr.mono hk) h4 h5 I1 (.cons rfl .nil) q1))
end

/-! ### C(e, .., k = v) -/
structure CalK (P : Program) (w : World) (K : PySem.W.Frag) (mg : Str → Option Value) (base : Heap) (CX : CXT) (k : Nat) (x : Str) (C : Addr) (ps : List Str) (n : Nat) (ks : List Str) (gV : List V → List V → List V) (sp : Sp) : Prop where
  ex : ∃ (f : Addr) (fd : FuncData) (g : List Value → List Value → List Value), FnOk P w K mg base CX k f fd ps sp ∧ mg x = some (.ref C) ∧ Mk K C f ∧ KBn K fd ps (n + 1) ks g gV
theorem pck {X : Cx} {CX : CXT} {k j n : Nat} {ps ks : List Str} {gV : List V → List V → List V} {sp : Sp} {E : XK} {x : Str} {C : Addr} {p pos : Pos} {e : Expr} {es : List Expr} {kws : List Keyword} {t t' : TA} (F : CalK X.prog X.w X.K X.mg X.base CX k x C ps n ks gV sp)
    (hr : Room j X.A) (hx : Passes CX X E) (ha : PA X (e :: es) t) (hkw : PK X kws t') (hg : Gl X x := by rfl) (hk : k + 1 ≤ j := by decide)
    (hall : (backToKw pos (keywordEach kws X.env)).all (·.1.isSome) = true := by rfl) (hks : (backToKw pos (keywordEach kws X.env)).filterMap (·.1) = ks := by rfl) (hdb : (x == ("__debug__" : Str)) = false := by decide)
    (he : starEach (e :: es) X.env = (false, eval e X.env) :: starEach es X.env := by rfl) (hpl : ((backTo pos (starEach (e :: es) X.env)).any (·.1) || (backToKw pos (keywordEach kws X.env)).any (·.1.isNone)) = false := by rfl) :
    PE X (.Call (.Name x p) (e :: es) kws pos) (tMakeK C n ks.length sp gV E t t') := by
  obtain ⟨f, fd, g, h1, h2, h3, h4⟩ := F.ex
  exact pe_makeK h3 h1 (hr.mono hk) hg h2 h4 hx ha hkw hall hks hdb he hpl

/-! ### raise X(e, ..), X an exception of ours -/
structure CalX (P : Program) (w : World) (K : PySem.W.Frag) (mg : Str → Option Value) (base : Heap) (k : Nat) (x : Str) (C : Addr) (ps : List Str) (dvs : List V) (sp : Sp) : Prop where
  ex : ∃ (f : Addr) (fd : FuncData) (ds : List Value), FnOk P w K mg base (L2.CX P w) k f fd ps sp ∧ mg x = some (.ref C) ∧ OexC K C ∧ PySem.W.findIn K (.ref C) "__init__" = some (some (.ref f)) ∧ PySem.W.isFn K (.ref f) = true ∧ Binds K fd ps ds ∧ Vals dvs ds
abbrev tRaiseW (C : Addr) (sp : Sp) (dvs : List V) (t : TA) (W : WX) : TS := fun _ σ H => tMkO C sp dvs t σ H fun cls d H' => W cls d σ H'
theorem prz {X : Cx} {k j : Nat} {ps : List Str} {dvs : List V} {sp : Sp} {W : WX} {x : Str} {C : Addr} {p pos rpos : Pos} {e : Expr} {es : List Expr} {t : TA} (F : CalX X.prog X.w X.K X.mg X.base k x C ps dvs sp) (hc : X.calm = true) (hr : Room j X.A) (tk : Takes X W) (ha : PA X (e :: es) t)
    (hg : Gl X x := by rfl) (hk : k + 1 ≤ j := by decide) (hdb : (x == ("__debug__" : Str)) = false := by decide)
    (hst : starEach (e :: es) X.env = (false, eval e X.env) :: starEach es X.env := by rfl) (hpl : (backTo pos (starEach es X.env)).any (·.1) = false := by rfl) :
    PS X (.Raise (some (.Call (.Name x p) (e :: es) [] pos)) none rpos) (tRaiseW C sp dvs t W) := by
  obtain ⟨f, fd, ds, h1, h2, h3, h4, h5, h6, h7⟩ := F.ex
  exact ps_raise hc tk (pmk_oex h3 h4 (beq_iff_eq.mp h5) h1 (hr.mono hk) h6 h7 (fun pins σ H s u s' _ z => by
    obtain ⟨_, _, _, _, _, _, _, _, _, _, _, _, y⟩ := z
    exact y.elim) hg h2 ha hdb hst hpl)

/-! ### try: .. except X as e: .. -/
abbrev tTryAs (K : PySem.W.Frag) (c : Value) (i : Nat) (tb : WX → TS) (ts : Addr → Value → Option Addr → TS) (Wo : WX) : TS := fun D σ H => tb (wAs K c i ts Wo D) D σ H
abbrev tTryOn (K : PySem.W.Frag) (c : Value) (tb : WX → TS) (ts : Addr → Value → Option Addr → TS) (Wo : WX) : TS := fun D σ H => tb (wOnly K c ts Wo D) D σ H
/-- isinstance(e, c) of the caught e, its dict told -/
def rIsX (K : PySem.W.Frag) (a : Addr) (cls : Value) (d : Option Addr) : List V → Hp → VK → Prop := fun xs H Q => ∃ (c : V) (cv : Value) (b : Bool) (D dd : Addr) (fs : List (Str × V)), xs = [.ref a, c] ∧ cls = .ref D ∧ d = some dd ∧ H dd = some (.xd fs) ∧ ExcC K D ∧
  (∀ u, RelV c u → u = cv) ∧ PySem.W.kitOne K (.ref D) cv = some b ∧ Q (.bl b) H
theorem call_isX {X : Cx} {a : Addr} {cls : Value} {d : Option Addr} {oe : Obj} {pn : List (Addr × Obj)} (hz : Zc cls d oe) (hf : ∃ vs, oe.data = .fields vs) : CallR (X.suite a ((a, oe) :: pn)) (.builtin "isinstance") (rIsX X.K a cls d) := by
  intro pins s σ H xs us Q I r h
  obtain ⟨c, cv, b, D, dd, fs, rfl, rfl, rfl, hx, C, hcv, e, q⟩ := h
  obtain ⟨u1, us', rfl, r1, r2⟩ : ∃ u1 us', us = u1 :: us' ∧ RelV (.ref a) u1 ∧ Vals [c] us' := by cases r with | cons p q => exact ⟨_, _, rfl, p, q⟩
  obtain ⟨u2, rfl, r3⟩ := Vals.one r2
  obtain rfl : u1 = Value.ref a := r1
  obtain rfl := hcv _ r3
  have at_ : s.heap.get? a = some oe := (I.pin (a, oe) (List.mem_append.mpr (Or.inl List.mem_cons_self))).1
  obtain ⟨vs, hv⟩ := hf
  obtain ⟨mA, hns, hr⟩ : ObjOk X.prog X.w H s.heap dd (.xd fs) := I.hok dd _ hx
  obtain ⟨od, ho, _⟩ := lookIn_ns hns
  have J : PySem.W.InstAt s.heap a oe D (some od) := ⟨at_, hz.1, by unfold PySem.W.notCls; rw [hv] <;> rfl, by rw [hz.2]; exact ho⟩
  obtain ⟨cd, hcd, _⟩ := PySem.W.any_some C.hd
  exact PySem.W.kia_one (PySem.W.kitx_exc (od := some od) (by rw [hcd]; rfl) C.hg C.hk C.hs C.ha C.hn C.ht C.hm) I.kIn J e (fun z => nomatch z) fun tk => ⟨.bl b, H, I.kept (t' := tk) fun _ _ z => z, rfl, q⟩
/-- e.f of the caught e, whatever its class -/
def tXd (K : PySem.W.Frag) (a : Addr) (cls : Value) (d : Option Addr) (f : Str) (te : TE) : TE := fun σ H Q => te σ H fun x H1 => x = .ref a ∧ ∃ (C dd : Addr) (fs : List (Str × V)) (v : V), cls = .ref C ∧ XfC K C ∧ PySem.W.findIn K (.ref C) f = some none ∧ d = some dd ∧ H1 dd = some (.xd fs) ∧ fs.lookup f = some v ∧ Q v H1
theorem pe_xd {X : Cx} {a : Addr} {oe : Obj} {cls : Value} {d : Option Addr} {pn : List (Addr × Obj)} {e : Expr} {te : TE} {pos : Pos} {n : Str}
    (hz : Zc cls d oe) (hf : ∃ vs, oe.data = .fields vs) (he : PE (X.suite a ((a, oe) :: pn)) e te) (hb : attributeBase e n X.env (eval e X.env) = eval e X.env := by rfl) :
    PE (X.suite a ((a, oe) :: pn)) (.Attribute e n pos) (tXd X.K a cls d n te) := by
  refine ⟨fun pins s σ H Q I h => ?_⟩
  refine attr_of hb (thn (he.run pins s σ H _ I h) fun u s1 z => ?_)
  obtain ⟨v, H1, I1, rv, rfl, C, dd, fs, y, rfl, T, hno, rfl, ea, l, q⟩ := z
  obtain rfl : u = Value.ref a := rv
  have at_ : s1.heap.get? a = some oe := (I1.pin (a, oe) (List.mem_append.mpr (Or.inl List.mem_cons_self))).1
  obtain ⟨vs, hv⟩ := hf
  obtain ⟨mA, hns, hr⟩ : ObjOk X.prog X.w H1 s1.heap dd (.xd fs) := I1.hok dd _ ea
  obtain ⟨od, ho, hl⟩ := lookIn_ns hns
  obtain ⟨w, hw, rw'⟩ := RelO.some_of (v := y) (o := mA n) (by rw [← l]; exact hr n)
  have J : PySem.W.InstAt s1.heap a oe C (some od) := ⟨at_, hz.1, by unfold PySem.W.notCls; rw [hv] <;> rfl, by rw [hz.2]; exact ho⟩
  exact PySem.HandSPX.exc_get I1.kIn J T.ga T.gg T.exC (PySem.W.findObj_own T.hdC hno rfl (by rw [hl, hw])) (handed_of rw') ⟨y, H1, I1.tok _, rw', q⟩
end Cf

set_option Elab.async false
set_option linter.all false
set_option maxRecDepth 100000
set_option maxHeartbeats 4000000
/-! plain helpers: heaps, places, lists of numbers -/
namespace Cf
open PySem PySem.Spec PyProof.Rows L2

theorem str_app (a b : Str) : (a ++ b).length = a.length + b.length := by
  show (a.cps ++ b.cps).size = a.cps.size + b.cps.size
  rw [Array.size_append]
theorem str_num {i : Int} (h : i.natAbs.log2 < 1920) : (toString i : Str).length ≤ 1921 := PyProof.Rows.int_text_len_1921 h
/-- a test, both ways -/
theorem iteB {c : Bool} {P Q : Prop} (h1 : c = true → P) (h2 : c = false → Q) : if c = true then P else Q := by
  cases c with
  | true => exact h1 rfl
  | false => exact h2 rfl
theorem iteD {p : Prop} [Decidable p] {P Q : Prop} (h1 : p → P) (h2 : ¬p → Q) : if decide p = true then P else Q := iteB (fun e => h1 (of_decide_eq_true e)) fun e => h2 (of_decide_eq_false e)
theorem iteT {P Q : Prop} (h : P) : if true = true then P else Q := h
theorem iteF {P Q : Prop} (h : Q) : if false = true then P else Q := h
theorem upd_comm {H : Hp} {a b : Addr} {o u : HO} (h : a ≠ b) : upd (upd H a o) b u = upd (upd H b u) a o := by
  funext c
  unfold upd
  by_cases h1 : c = a
  · subst h1
    simp [h]
  · simp [h1]
theorem upd_id {H : Hp} {a : Addr} {o : HO} (h : H a = some o) : upd H a o = H := by
  funext c
  unfold upd
  split
  · rename_i e
    rw [e, h]
  · rfl
theorem ixN_ok {n : Nat} {k : Int} (h0 : 0 ≤ k) (h1 : k < n) : ixN n k = some k.toNat := by
  unfold ixN
  rw [if_pos h0, if_pos h1]
theorem at_int {ns : List Int} {k : Int} (h0 : 0 ≤ k) (h1 : k < ns.length) : ∃ i, ns[k.toNat]? = some i ∧ atI (ns.map V.int) k = some (.int i) := by
  have hl : k.toNat < ns.length := by omega
  refine ⟨ns[k.toNat], List.getElem?_eq_getElem hl, ?_⟩
  unfold atI
  rw [List.length_map, ixN_ok h0 h1]
  simp [List.getElem?_eq_getElem hl]
theorem cut_nat (ns : List V) (st n : Nat) : cutV ns (some st) (some ((st : Int) + n)) = (ns.drop st).take n := by
  unfold cutV
  have e1 : HT.sIx ns.length 0 (some (st : Int)) = min st ns.length := HT.sIx_nat _ _ _
  have e2 : HT.sIx ns.length ns.length (some ((st : Int) + n)) = min (st + n) ns.length := HT.sIx_nat _ _ (st + n)
  rw [e1, e2]
  apply List.ext_getElem?
  intro i
  simp only [List.getElem?_take, List.getElem?_drop]
  by_cases h : i < n
  · by_cases h2 : st + i < ns.length
    · rw [if_pos (by omega), if_pos h, show min st ns.length = st by omega]
    · rw [if_pos h]
      rw [List.getElem?_eq_none (l := ns) (i := st + i) (by omega)]
      split
      · exact List.getElem?_eq_none (by omega)
      · rfl
  · rw [if_neg h, if_neg (by omega)]
theorem sqOff {K : PySem.W.Frag} {H : Hp} {a l : Addr} {xs : List V} {o : HO} (h : SqL K H a xs) (hl : H l = none) : SqL K (upd H l o) a xs := by
  rcases h with h | h
  · left
    rcases h with h | ⟨ob, h⟩
    · exact Or.inl (by rw [upd_ne (ne_of_none h hl)]; exact h)
    · exact Or.inr ⟨ob, by rw [upd_ne (ne_of_none h hl)]; exact h⟩
  · exact Or.inr h
theorem log2_small {n k : Nat} (h : n < 2 ^ k) : n.log2 ≤ k := by
  by_cases z : n = 0
  · subst z
    rw [show Nat.log2 0 = 0 by decide +kernel]
    exact Nat.zero_le _
  · exact Nat.le_of_lt ((Nat.log2_lt z).mpr h)
theorem del_made {H : Hp} {a d : Addr} {o0 o1 o2 o3 : HO} (ha : H a = none) (hne : d ≠ a) : upd (del (upd (upd (upd H a o0) d o1) a o2) a) d o3 = upd H d o3 := by
  funext c
  unfold upd del
  by_cases h1 : c = d
  · simp [h1]
  · by_cases h2 : c = a
    · subst h2
      simp [h1, ha]
    · simp [h1, h2]
section
variable {K : PySem.W.Frag} {g : TG} {tb : TS} {D : Ends} {σ : L2.St} {H : Hp}
/-- a for over a range, by what holds ahead of the i-th turn -/
theorem rng_for {lo : Int} {n : Nat} (J : Nat → L2.St → Hp → Prop) (h0 : J 0 σ H) (step : ∀ i σ H, i < n → J i σ H → g (.int (lo + i)) σ H fun σ2 H2 => tb { D with nx := J (i + 1), ct := J (i + 1), bk := D.nx } σ2 H2) (fin : ∀ σ H, J n σ H → D.nx σ H) :
    ∃ W : Nat → Nat → L2.St → Hp → Prop, (∃ m, W 0 m σ H) ∧ ∀ i m σ H, W i m σ H → ((Itr lo n).stop i H ∧ D.nx σ H) ∨ ((Itr lo n).go i H ∧ ∃ N : L2.St → Hp → Prop, (∀ σ' H', N σ' H' → ∃ m', m' < m ∧ W (i + 1) m' σ' H') ∧
      ∀ x H', (Itr lo n).yld i H x H' → g x σ H' fun σ2 H2 => tb { D with nx := N, ct := N, bk := D.nx } σ2 H2) := by
  refine ⟨fun i m σ H => i + m = n ∧ J i σ H, ⟨n, by omega, h0⟩, fun i m σ H ⟨h1, h2⟩ => ?_⟩
  by_cases hi : n ≤ i
  · obtain rfl : i = n := by omega
    exact Or.inl ⟨Nat.le_refl _, fin _ _ h2⟩
  · refine Or.inr ⟨Nat.lt_of_not_le hi, J (i + 1), fun σ' H' h => ⟨m - 1, by omega, by omega, h⟩, fun x H' hx => ?_⟩
    obtain ⟨rfl, rfl⟩ := hx
    exact step i σ _ (Nat.lt_of_not_le hi) h2
/-- a for over a list that stays -/
theorem lst_for {a : Addr} (xs : List V) (J : Nat → L2.St → Hp → Prop) (hJ : ∀ i σ H, J i σ H → SqL K H a xs) (h0 : J 0 σ H) (step : ∀ i σ H x, xs[i]? = some x → J i σ H → g x σ H fun σ2 H2 => tb { D with nx := J (i + 1), ct := J (i + 1), bk := D.nx } σ2 H2)
    (fin : ∀ σ H, J xs.length σ H → D.nx σ H) :
    ∃ W : Nat → Nat → L2.St → Hp → Prop, (∃ m, W 0 m σ H) ∧ ∀ i m σ H, W i m σ H → ((Itl K a).stop i H ∧ D.nx σ H) ∨ ((Itl K a).go i H ∧ ∃ N : L2.St → Hp → Prop, (∀ σ' H', N σ' H' → ∃ m', m' < m ∧ W (i + 1) m' σ' H') ∧
      ∀ x H', (Itl K a).yld i H x H' → g x σ H' fun σ2 H2 => tb { D with nx := N, ct := N, bk := D.nx } σ2 H2) := by
  refine ⟨fun i m σ H => i + m = xs.length ∧ J i σ H, ⟨xs.length, by omega, h0⟩, fun i m σ H ⟨h1, h2⟩ => ?_⟩
  by_cases hi : xs.length ≤ i
  · obtain rfl : i = xs.length := by omega
    exact Or.inl ⟨⟨xs, hJ _ _ _ h2, Nat.le_refl _⟩, fin _ _ h2⟩
  · have e := List.getElem?_eq_getElem (Nat.lt_of_not_le hi)
    refine Or.inr ⟨⟨xs, _, hJ _ _ _ h2, e⟩, J (i + 1), fun σ' H' h => ⟨m - 1, by omega, by omega, h⟩, fun x H' hx => ?_⟩
    obtain ⟨rfl, hx⟩ := hx
    exact step i σ _ x (hx xs (hJ _ _ _ h2)) h2
theorem wipe_one {σ : L2.St} {s : Nat} (v : V) : wipe ((wipe σ [s]).set s (some v)) [s] = wipe σ [s] := by
  show ((σ.set s none).set s (some v)).set s none = σ.set s none
  rw [List.set_set, List.set_set]
/-- [te for slot s in range]: J speaks of the new list too -/
theorem rng_lc {te : TE} {s : Nat} {lo : Int} {n : Nat} {F : Addr → Hp → Prop} (J : Addr → Nat → Hp → Prop) (h0 : ∀ L, H L = none → J L 0 (upd H L (.lst [])))
    (step : ∀ L i H', i < n → J L i H' → te ((wipe σ [s]).set s (some (.int (lo + i)))) H' fun y H4 => ∃ acc, H4 L = some (.lst acc) ∧ acc.length < sizeLine ∧ J L (i + 1) (upd H4 L (.lst (acc ++ [y]))))
    (fin : ∀ L H', H L = none → J L n H' → F L H') : ∀ L, H L = none → ∃ W : Nat → Nat → Hp → Prop, (∃ m, W 0 m (upd H L (.lst []))) ∧ ∀ i m H, W i m H →
  ((Itr lo n).stop i H ∧ F L H) ∨ ((Itr lo n).go i H ∧ ∃ Nx : Hp → Prop, (∀ H', Nx H' → ∃ m', m' < m ∧ W (i + 1) m' H') ∧ ∀ x H', (Itr lo n).yld i H x H' → gName s x (wipe σ [s]) H' fun σ2 H2 => wipe σ2 [s] = wipe σ [s] ∧ tYes σ2 H2 fun b H3 =>
    if b = true then te σ2 H3 fun y H4 => ∃ acc, H4 L = some (.lst acc) ∧ acc.length < sizeLine ∧ Nx (upd H4 L (.lst (acc ++ [y]))) else Nx H3) := by
  intro L hL
  refine ⟨fun i m H' => i + m = n ∧ J L i H', ⟨n, by omega, h0 L hL⟩, fun i m H' ⟨h1, h2⟩ => ?_⟩
  by_cases hi : n ≤ i
  · obtain rfl : i = n := by omega
    exact Or.inl ⟨Nat.le_refl _, fin _ _ hL h2⟩
  · refine Or.inr ⟨Nat.lt_of_not_le hi, J L (i + 1), fun H' h => ⟨m - 1, by omega, by omega, h⟩, fun x H2 hx => ?_⟩
    obtain ⟨rfl, rfl⟩ := hx
    exact ⟨wipe_one _, step L i _ (Nat.lt_of_not_le hi) h2⟩
/-- [te for slot s in a list that stays] -/
theorem lst_lc {te : TE} {s : Nat} {a : Addr} {F : Addr → Hp → Prop} (xs : List V) (J : Addr → Nat → Hp → Prop) (hJ : ∀ L i H', J L i H' → SqL K H' a xs) (h0 : ∀ L, H L = none → J L 0 (upd H L (.lst [])))
    (step : ∀ L i H' x, xs[i]? = some x → J L i H' → te ((wipe σ [s]).set s (some x)) H' fun y H4 => ∃ acc, H4 L = some (.lst acc) ∧ acc.length < sizeLine ∧ J L (i + 1) (upd H4 L (.lst (acc ++ [y]))))
    (fin : ∀ L H', H L = none → J L xs.length H' → F L H') : ∀ L, H L = none → ∃ W : Nat → Nat → Hp → Prop, (∃ m, W 0 m (upd H L (.lst []))) ∧ ∀ i m H, W i m H →
  ((Itl K a).stop i H ∧ F L H) ∨ ((Itl K a).go i H ∧ ∃ Nx : Hp → Prop, (∀ H', Nx H' → ∃ m', m' < m ∧ W (i + 1) m' H') ∧ ∀ x H', (Itl K a).yld i H x H' → gName s x (wipe σ [s]) H' fun σ2 H2 => wipe σ2 [s] = wipe σ [s] ∧ tYes σ2 H2 fun b H3 =>
    if b = true then te σ2 H3 fun y H4 => ∃ acc, H4 L = some (.lst acc) ∧ acc.length < sizeLine ∧ Nx (upd H4 L (.lst (acc ++ [y]))) else Nx H3) := by
  intro L hL
  refine ⟨fun i m H' => i + m = xs.length ∧ J L i H', ⟨xs.length, by omega, h0 L hL⟩, fun i m H' ⟨h1, h2⟩ => ?_⟩
  by_cases hi : xs.length ≤ i
  · obtain rfl : i = xs.length := by omega
    exact Or.inl ⟨⟨xs, hJ _ _ _ h2, Nat.le_refl _⟩, fin _ _ hL h2⟩
  · have e := List.getElem?_eq_getElem (Nat.lt_of_not_le hi)
    refine Or.inr ⟨⟨xs, _, hJ _ _ _ h2, e⟩, J L (i + 1), fun H' h => ⟨m - 1, by omega, by omega, h⟩, fun x H2 hx => ?_⟩
    obtain ⟨rfl, hx⟩ := hx
    exact ⟨wipe_one _, step L i _ x (hx xs (hJ _ _ _ h2)) h2⟩
/-- [te for slot s in a text] -/
theorem str_lc {te : TE} {s : Nat} {x : Str} {F : Addr → Hp → Prop} (J : Addr → Nat → Hp → Prop) (h0 : ∀ L, H L = none → J L 0 (upd H L (.lst [])))
    (step : ∀ L i H' c, x.cps[i]? = some c → J L i H' → te ((wipe σ [s]).set s (some (.str ⟨#[c]⟩))) H' fun y H4 => ∃ acc, H4 L = some (.lst acc) ∧ acc.length < sizeLine ∧ J L (i + 1) (upd H4 L (.lst (acc ++ [y]))))
    (fin : ∀ L H', H L = none → J L x.cps.size H' → F L H') : ∀ L, H L = none → ∃ W : Nat → Nat → Hp → Prop, (∃ m, W 0 m (upd H L (.lst []))) ∧ ∀ i m H, W i m H →
  ((Its x).stop i H ∧ F L H) ∨ ((Its x).go i H ∧ ∃ Nx : Hp → Prop, (∀ H', Nx H' → ∃ m', m' < m ∧ W (i + 1) m' H') ∧ ∀ y H', (Its x).yld i H y H' → gName s y (wipe σ [s]) H' fun σ2 H2 => wipe σ2 [s] = wipe σ [s] ∧ tYes σ2 H2 fun b H3 =>
    if b = true then te σ2 H3 fun y H4 => ∃ acc, H4 L = some (.lst acc) ∧ acc.length < sizeLine ∧ Nx (upd H4 L (.lst (acc ++ [y]))) else Nx H3) := by
  intro L hL
  refine ⟨fun i m H' => i + m = x.cps.size ∧ J L i H', ⟨x.cps.size, by omega, h0 L hL⟩, fun i m H' ⟨h1, h2⟩ => ?_⟩
  by_cases hi : x.cps.size ≤ i
  · obtain rfl : i = x.cps.size := by omega
    exact Or.inl ⟨Nat.le_refl _, fin _ _ hL h2⟩
  · refine Or.inr ⟨Nat.lt_of_not_le hi, J L (i + 1), fun H' h => ⟨m - 1, by omega, by omega, h⟩, fun y H2 hy => ?_⟩
    obtain ⟨rfl, c, hc, rfl⟩ := hy
    exact ⟨wipe_one _, step L i _ c hc h2⟩
end
end Cf

set_option Elab.async false
set_option linter.all false
set_option maxRecDepth 100000
set_option maxHeartbeats 4000000
/-! plain helpers: what stands in a heap, as a list of places; data and their equality -/
namespace Cf
open PySem PySem.Spec PyProof.Rows L2

/-- the heap bears these objects, at places that differ -/
structure Holds (H : Hp) (L : List (Addr × HO)) : Prop where
  nd : (L.map (·.1)).Nodup
  at_ : ∀ q ∈ L, H q.1 = some q.2
section
variable {H : Hp} {L : List (Addr × HO)} {a b : Addr} {o u : HO}
theorem Holds.nil : Holds H [] := ⟨List.nodup_nil, fun _ h => absurd h List.not_mem_nil⟩
theorem Holds.at (h : Holds H L) (i : Nat) (e : L[i]? = some (a, o) := by rfl) : H a = some o := h.at_ (a, o) (List.mem_of_getElem? e)
theorem Holds.fresh (h : Holds H L) (ha : H a = none) : ∀ q ∈ L, q.1 ≠ a := fun q hq z => by
  have := h.at_ q hq
  rw [z, ha] at this
  cases this
theorem Holds.new (h : Holds H L) (ha : H a = none) : Holds (upd H a o) (L ++ [(a, o)]) := by
  refine ⟨?_, fun q hq => ?_⟩
  · rw [List.map_append, List.nodup_append]
    refine ⟨h.nd, by simp, fun x hx y hy z => ?_⟩
    obtain ⟨q, hq, rfl⟩ := List.mem_map.mp hx
    have hy : y = a := by simpa using hy
    exact h.fresh ha q hq (z.trans hy)
  · rcases List.mem_append.mp hq with hq | hq
    · rw [upd_ne (h.fresh ha q hq)]
      exact h.at_ q hq
    · obtain rfl := List.mem_singleton.mp hq
      exact upd_same
theorem Holds.ne (h : Holds H L) (i j : Nat) (e1 : L[i]? = some (a, o) := by rfl) (e2 : L[j]? = some (b, u) := by rfl) (hij : i ≠ j := by decide) : a ≠ b := fun z => by
  have f1 : (L.map (·.1))[i]? = some a := by rw [List.getElem?_map, e1]; rfl
  have f2 : (L.map (·.1))[j]? = some a := by rw [List.getElem?_map, e2, z]; rfl
  obtain ⟨h1, _⟩ := List.getElem?_eq_some_iff.mp f1
  exact hij ((List.getElem?_inj h1 h.nd).mp (f1.trans f2.symm))
theorem Holds.set (h : Holds H L) (i : Nat) (u : HO) (e : L[i]? = some (a, o) := by rfl) : Holds (upd H a u) (L.set i (a, u)) := by
  have hi : i < L.length := (List.getElem?_eq_some_iff.mp e).1
  have em : (L.set i (a, u)).map (·.1) = L.map (·.1) := by
    apply List.ext_getElem?
    intro j
    rw [List.getElem?_map, List.getElem?_map, List.getElem?_set]
    by_cases hj : i = j
    · subst hj
      rw [if_pos rfl, if_pos hi, e]
      rfl
    · rw [if_neg hj]
  refine ⟨by rw [em]; exact h.nd, fun q hq => ?_⟩
  obtain ⟨j, hj⟩ := List.getElem?_of_mem hq
  rw [List.getElem?_set] at hj
  by_cases hij : i = j
  · rw [if_pos hij, if_pos hi] at hj
    cases hj
    exact upd_same
  · rw [if_neg hij] at hj
    rw [upd_ne (h.ne j i hj e (Ne.symm hij))]
    exact h.at_ q (List.mem_of_getElem? hj)
theorem Holds.ext {H' : Hp} (h : Holds H L) (k : ∀ a o, H a = some o → H' a = some o) : Holds H' L := ⟨h.nd, fun q hq => k _ _ (h.at_ q hq)⟩
theorem Holds.left {M : List (Addr × HO)} (h : Holds H (L ++ M)) : Holds H L := by
  refine ⟨?_, fun q hq => h.at_ q (List.mem_append_left _ hq)⟩
  have := h.nd
  rw [List.map_append, List.nodup_append] at this
  exact this.1
theorem Holds.off (h : Holds H L) (hb : H b = none) {i : Nat} {u : HO} (e : L[i]? = some (a, o) := by rfl) : upd H a u b = none := by
  rw [upd_ne (Ne.symm (h.fresh hb _ (List.mem_of_getElem? e)))]
  exact hb
end

/-! ### places in lists of numbers -/
theorem ixN_eq {n j : Nat} {k : Int} (hk : k = j) (hj : j < n) : ixN n k = some j := by
  subst hk
  rw [ixN_ok (by omega) (by omega), Int.toNat_natCast]
theorem at_eq {ns : List Int} {k i : Int} {j : Nat} (hk : k = j) (h : ns[j]? = some i) : atI (ns.map V.int) k = some (.int i) := by
  have hj : j < ns.length := (List.getElem?_eq_some_iff.mp h).1
  unfold atI
  rw [List.length_map, ixN_eq hk hj, Option.bind_some, List.getElem?_map, h]
  rfl
theorem nums_snoc (ns : List Int) (z : Int) : ns.map V.int ++ [V.int z] = (ns ++ [z]).map V.int := by simp
theorem nums_set (ns : List Int) (j : Nat) (z : Int) : (ns.map V.int).set j (V.int z) = (ns.set j z).map V.int := by rw [List.map_set]
theorem nums_get {ns : List Int} {j : Nat} {x : V} (h : (ns.map V.int)[j]? = some x) : ∃ z, ns[j]? = some z ∧ x = .int z := by
  rw [List.getElem?_map] at h
  cases e : ns[j]? with
  | none => rw [e] at h; cases h
  | some z => rw [e] at h; cases h; exact ⟨z, rfl, rfl⟩
theorem take_snoc {ns : List Int} {j : Nat} {z : Int} (h : ns[j]? = some z) : ns.take j ++ [z] = ns.take (j + 1) := by
  rw [List.take_succ, h]
  rfl
theorem take_snoc' {α : Type} {ns : List α} {j : Nat} {z : α} (h : ns[j]? = some z) : ns.take j ++ [z] = ns.take (j + 1) := by
  rw [List.take_succ, h]
  rfl
/-! ### lists of numbers are equal to themselves -/
def numsD (ns : List Int) : PyData := .list (ns.map .int)
theorem dpAll_nums {K : PySem.W.Frag} {H : Hp} : ∀ ns : List Int, DpAll K H (ns.map V.int) (ns.map .int)
  | [] => .nil
  | n :: ns => .cons (.int n) (dpAll_nums ns)
theorem dp_nums {K : PySem.W.Frag} {H : Hp} {a : Addr} {ns : List Int} (h : H a = some (.lst (ns.map V.int))) : Dp K H (.ref a) (numsD ns) := .lst (SqL.of h) (dpAll_nums ns)
theorem lay_nums : ∀ ns : List Int, PyData.canLayAll0 (ns.map .int) = true
  | [] => rfl
  | n :: ns => by rw [List.map_cons, PyData.canLayAll0, lay_nums ns]; rfl
theorem depth_nums : ∀ ns : List Int, PyData.depthAll (ns.map .int) = 0
  | [] => by simp [PyData.depthAll]
  | n :: ns => by rw [List.map_cons, PyData.depthAll, depth_nums ns]; simp [PyData.depth]
theorem shaped_nums (ns : List Int) : SeqAt.shaped (numsD ns) = true := by
  unfold SeqAt.shaped numsD
  rw [PyData.canLay0, PyData.depth, lay_nums, depth_nums]
  rfl
theorem eqv_nums (ns : List Int) : PyData.eqv (numsD ns) (numsD ns) = true := PySem.SeqAt.eqv_refl _ (SeqAt.canLay_of_shaped (shaped_nums ns))
/-- xs != ys of equal numbers is False -/
theorem ne_nums {K : PySem.W.Frag} {H : Hp} {Q : VK} {a b : Addr} {ns : List Int} (ha : H a = some (.lst (ns.map V.int))) (hb : H b = some (.lst (ns.map V.int))) (q : Q (.bl false) H) : rNeD K (.ref a) (.ref b) H Q :=
  ⟨_, _, dp_nums ha, dp_nums hb, shaped_nums ns, shaped_nums ns, by rw [eqv_nums]; exact q⟩
/-- x != x of plain values is False -/
theorem ne_self {x : V} {H : Hp} {Q : VK} (h : scal x x = true) (q : Q (.bl false) H) : rNe x x H Q := ⟨h, by rw [decide_eq_true rfl]; exact q⟩
theorem ne_eqs {x y : V} {H : Hp} {Q : VK} (e : x = y) (h : scal y y = true) (q : Q (.bl false) H) : rNe x y H Q := by
  subst e
  exact ne_self h q
theorem eq_self {x : V} {H : Hp} {Q : VK} (h : scal x x = true) (q : Q (.bl true) H) : rEq x x H Q := ⟨h, by rw [decide_eq_true rfl]; exact q⟩
end Cf

set_option Elab.async false
set_option linter.all false
set_option maxRecDepth 100000
set_option maxHeartbeats 4000000
namespace Cf
open PySem PySem.Spec PyProof.Rows L2 NdefX
/-! the device and its law: what each def does -/
/-- the values of a list of numbers -/
abbrev nums (ns : List Int) : List V := ns.map V.int
def pwV : Option Int → V
  | none => .non
  | some p => .int p
abbrev devF (l : Addr) (sz : Int) (pw : Option Int) (wr : Int) : List (Str × V) := [("data", .ref l), ("size", .int sz), ("power", pwV pw), ("written", .int wr)]
abbrev devI (K : PySem.W.Frag) (dx l : Addr) (sz : Int) (pw : Option Int) (wr : Int) : HO := .ins (He.ga K "Device") dx (devF l sz pw wr)
/-- the numbers of ds from place st on replaced by those of row -/
def blit (ds : List Int) (st : Nat) (row : List Int) : List Int := ds.take st ++ row ++ ds.drop (st + row.length)
/-- how many of n bytes the power pw bears -/
def bears (pw : Option Int) (n : Nat) : Nat := match pw with
  | none => n
  | some p => min p.toNat n
def sp__law_cell (K : PySem.W.Frag) : Sp := fun vs H Q _ => ∃ (a : Addr) (ns : List Int) (k : Int), vs = [.ref a, .int k] ∧ SqL K H a (nums ns) ∧ 0 ≤ k ∧ ∀ i, Q (.int i) H
def sp__law_digits (K : PySem.W.Frag) : Sp := fun vs H Q _ => ∃ (a : Addr) (ns : List Int) (hi : Nat), vs = [.ref a, .int 0, .int hi] ∧ SqL K H a (nums ns) ∧ hi ≤ 64 ∧ ∀ l ds, H l = none → Q (.ref l) (upd H l (.lst (nums ds)))
def sp__law_draw (K : PySem.W.Frag) : Sp := fun vs H Q _ => ∃ (b d : Addr) (p : Int) (ds : List Int) (m : Int), vs = [.ref b, .int m] ∧ H b = some (.lst [.ref d, .int p]) ∧ H d = some (.lst (nums ds)) ∧ 0 ≤ p ∧ 0 < m ∧
  ∀ r, 0 ≤ r → r < m → Q (.int r) (upd H b (.lst [.ref d, .int (p + 1)]))
def sp_PowerCut_init (K : PySem.W.Frag) : Sp := fun vs H Q _ => ∃ (a : Addr) (n : Int), vs = [.ref a, .int n] ∧ n.natAbs.log2 < 1900 ∧ H a = some (exo a (He.ga K "PowerCut") none) ∧
  ∀ dx, H dx = none → dx ≠ a → Q .non (upd (upd H dx (exd dx [("written", .int n)])) a (exo a (He.ga K "PowerCut") (some dx)))
def sp_Device_init (K : PySem.W.Frag) : Sp := fun vs H Q _ => ∃ (x dx : Addr) (sz : Nat) (pw : Option Int), vs = [.ref x, .int sz, pwV pw] ∧ H x = some (.ins (He.ga K "Device") dx []) ∧ sz ≤ 100000 ∧
  ∀ l, H l = none → Q .non (upd (upd H l (.lst (nums (List.replicate sz 0)))) x (devI K dx l sz pw 0))
def sp_Device_recharge (K : PySem.W.Frag) : Sp := fun vs H Q _ => ∃ (x dx l : Addr) (sz wr : Int) (pw pw' : Option Int), vs = [.ref x, pwV pw'] ∧ H x = some (devI K dx l sz pw wr) ∧ Q .non (upd H x (devI K dx l sz pw' wr))
def sp_Device_write (K : PySem.W.Frag) : Sp := fun vs H Q E => ∃ (x r dx l : Addr) (st : Nat) (sz wr : Int) (pw : Option Int) (ds row : List Int), vs = [.ref x, .int st, .ref r] ∧ H x = some (devI K dx l sz pw wr) ∧ H l = some (.lst (nums ds)) ∧ H r = some (.lst (nums row)) ∧ r ≠ l ∧
  st + row.length ≤ ds.length ∧ (∀ p, pw = some p → 0 ≤ p) ∧ (0 ≤ wr ∧ wr + row.length < 2 ^ 64) ∧
  ∀ n H1, n = bears pw row.length → H1 = upd (upd H l (.lst (nums (blit ds st (row.take n))))) x (devI K dx l sz (pw.map (· - n)) (wr + n)) →
    (n = row.length → Q .non H1) ∧ (n < row.length → ∀ d, H1 d = none → E (.ref (He.ga K "PowerCut")) (some d) (upd H1 d (.xd [("written", .int (wr + n))])))
def sp_Device_read (K : PySem.W.Frag) : Sp := fun vs H Q _ => ∃ (x dx l : Addr) (st n : Nat) (sz wr : Int) (pw : Option Int) (ds : List Int), vs = [.ref x, .int st, .int n] ∧ H x = some (devI K dx l sz pw wr) ∧ H l = some (.lst (nums ds)) ∧
  ∀ p, H p = none → Q (.ref p) (upd H p (.lst (nums ((ds.drop st).take n))))
theorem len__law_cell {K : PySem.W.Frag} {vs : List V} {H : Hp} {Q : VK} {E : XK} (h : sp__law_cell K vs H Q E) : vs.length = 2 := by obtain ⟨_, _, _, rfl, _⟩ := h; rfl
theorem len__law_digits {K : PySem.W.Frag} {vs : List V} {H : Hp} {Q : VK} {E : XK} (h : sp__law_digits K vs H Q E) : vs.length = 3 := by obtain ⟨_, _, _, rfl, _⟩ := h; rfl
theorem len__law_draw {K : PySem.W.Frag} {vs : List V} {H : Hp} {Q : VK} {E : XK} (h : sp__law_draw K vs H Q E) : vs.length = 2 := by obtain ⟨_, _, _, _, _, rfl, _⟩ := h; rfl
theorem len_PowerCut_init {K : PySem.W.Frag} {vs : List V} {H : Hp} {Q : VK} {E : XK} (h : sp_PowerCut_init K vs H Q E) : vs.length = 2 := by obtain ⟨_, _, rfl, _⟩ := h; rfl
theorem len_Device_init {K : PySem.W.Frag} {vs : List V} {H : Hp} {Q : VK} {E : XK} (h : sp_Device_init K vs H Q E) : vs.length = 3 := by obtain ⟨_, _, _, _, rfl, _⟩ := h; rfl
theorem len_Device_recharge {K : PySem.W.Frag} {vs : List V} {H : Hp} {Q : VK} {E : XK} (h : sp_Device_recharge K vs H Q E) : vs.length = 2 := by obtain ⟨_, _, _, _, _, _, _, rfl, _⟩ := h; rfl
theorem len_Device_write {K : PySem.W.Frag} {vs : List V} {H : Hp} {Q : VK} {E : XK} (h : sp_Device_write K vs H Q E) : vs.length = 3 := by obtain ⟨_, _, _, _, _, _, _, _, _, _, rfl, _⟩ := h; rfl
theorem len_Device_read {K : PySem.W.Frag} {vs : List V} {H : Hp} {Q : VK} {E : XK} (h : sp_Device_read K vs H Q E) : vs.length = 3 := by obtain ⟨_, _, _, _, _, _, _, _, _, rfl, _⟩ := h; rfl
def t_Device_init (K : PySem.W.Frag) : TS := tSeq (sFld K (tVar 0) (tLc (iRng1 (tCons (tVar 1) (tNil))) (gName 3) (tYes) (tC (.int 0)) [3]) "data") (tSeq (sFld K (tVar 0) (tVar 1) "size") (tSeq (sFld K (tVar 0) (tVar 2) "power") (sFld K (tVar 0) (tC (.int 0)) "written")))
def t_Device_recharge (K : PySem.W.Frag) : TS := sFld K (tVar 0) (tVar 1) "power"
def t_Device_write (K : PySem.W.Frag) (W : WX) : TS := tSeq (tAsg (tVar 1) (gName 3)) (tFor (iList K (tVar 2)) (gName 4) (tSeq (tIfS (tTest (tOp rNotN (tFld K (tVar 0) "power") (tC .non))) (tSeq (tIfS (tTest (tOp rEq (tFld K (tVar 0) "power") (tC (.int 0)))) (tRaiseW (He.ga K "PowerCut") (sp_PowerCut_init K) [] (tCons (tFld K (tVar 0) "written") (tNil)) W) (tNext)) (sFldAug K (tVar 0) (tC (.int 1)) rSub "power")) (tNext)) (tSeq (tAsg (tVar 4) (gSub (tFld K (tVar 0) "data") (tVar 3) rSetL)) (tSeq (sFldAug K (tVar 0) (tC (.int 1)) rAdd "written") (tAug 3 (tC (.int 1)) (ipI fun i j => i + j))))))
def t_Device_read (K : PySem.W.Frag) : TS := tRet (tSl (rSlL K) (tFld K (tVar 0) "data") (tPart (tVar 1)) (tPart (tOp rAddI (tVar 1) (tVar 2))))
def t__law_cell (K : PySem.W.Frag) : TS := tSeq (tIfS (tTest (tOp rLtI (tVar 1) (tCB (rLenS K) (tCons (tVar 0) (tNil))))) (tRet (tOp (rIxL K) (tVar 0) (tVar 1))) (tNext)) (tRet (tC (.int 0)))
def t__law_digits (K : PySem.W.Frag) : TS := tSeq (tAsg (tLst (tNil)) (gName 3)) (tSeq (tFor (iRng2 (tCons (tVar 1) (tCons (tVar 2) (tNil)))) (gName 4) (tSeq (tAsg (tCall (sp__law_cell K) [] E0 (tCons (tVar 0) (tCons (tVar 4) (tNil)))) (gName 5)) (tSeq (tIfS (tTest (tOp rLtI (tVar 5) (tC (.int 0)))) (tAsg (tOp rSubI (tC (.int 1)) (tOp rMulI (tC (.int 2)) (tVar 5))) (gName 5)) (tNext)) (tIfS (tTest (tOp rGeI (tVar 5) (tOp rPowI (tC (.int 10)) (tC (.int 18))))) (tFor (iRng1 (tCons (tC (.int 60)) (tNil))) (gName 6) (tIfS (tTest (tOp rGtI (tVar 5) (tC (.int 0)))) (tSeq (tDrop (tBM K "list" rAppend (tVar 3) (tCons (tOp rModI (tCB rIntC (tCons (tVar 5) (tNil))) (tC (.int 1000))) (tNil)))) (tAsg (tOp rDivI (tVar 5) (tC (.int 1000))) (gName 5))) (tNext))) (tSeq (tAsg (tOp rModI (tCB rIntC (tCons (tOp rAddI (tOp rAddI (tOp rMulI (tVar 5) (tC (.int 48271))) (tOp rMulI (tVar 4) (tC (.int 69621)))) (tC (.int 11))) (tNil))) (tC (.int 2147483647))) (gName 7)) (tFor (iRng1 (tCons (tC (.int 12)) (tNil))) (gName 6) (tSeq (tAsg (tOp rModI (tCB rIntC (tCons (tOp rAddI (tOp rAddI (tOp rMulI (tVar 7) (tC (.int 16807))) (tOp rMulI (tC (.int 7)) (tVar 6))) (tC (.int 1))) (tNil))) (tC (.int 2147483647))) (gName 7)) (tDrop (tBM K "list" rAppend (tVar 3) (tCons (tOp rModI (tCB rIntC (tCons (tOp rDivI (tVar 7) (tC (.int 997))) (tNil))) (tC (.int 1000))) (tNil))))))))))) (tRet (tVar 3)))
def t__law_draw (K : PySem.W.Frag) : TS := tSeq (tAsg (tOp (rIxL K) (tVar 0) (tC (.int 1))) (gName 2)) (tSeq (tAsg (tOp rAddI (tVar 2) (tC (.int 1))) (gSub (tVar 0) (tC (.int 1)) rSetL)) (tSeq (tIfS (tTest (tOp rLtI (tVar 2) (tCB (rLenS K) (tCons (tOp (rIxL K) (tVar 0) (tC (.int 0))) (tNil))))) (tRet (tOp rModI (tCB rIntC (tCons (tOp (rIxL K) (tOp (rIxL K) (tVar 0) (tC (.int 0))) (tVar 2)) (tNil))) (tVar 1))) (tNext)) (tRet (tC (.int 0)))))
theorem pure__law_cell {K : PySem.W.Frag} (vs : List V) (H : Hp) (Q : VK) (E : XK) (h : sp__law_cell K vs H Q E) : t__law_cell K { nx := fun _ H' => Q .non H', rt := Q } (start ["_law_script", "_law_k"] vs) H := by
  obtain ⟨a, ns, k, rfl, hS, hk, hQ⟩ := h
  refine ⟨_, rfl, _, rfl, _, _, rfl, Or.inl hS, _, _, rfl, rfl, _, rfl, ?_⟩
  refine iteD (fun hl => ?_) fun hl => hQ 0
  obtain ⟨i, _, hi⟩ := at_int hk (by rw [List.length_map] at hl; exact hl)
  exact ⟨_, rfl, _, rfl, _, _, _, _, rfl, rfl, hS, hi, hQ i⟩
theorem pure__law_draw {K : PySem.W.Frag} (vs : List V) (H : Hp) (Q : VK) (E : XK) (h : sp__law_draw K vs H Q E) : t__law_draw K { nx := fun _ H' => Q .non H', rt := Q } (start ["_law_box", "_law_many", "_law_at"] vs) H := by
  obtain ⟨b, d, p, ds, m, rfl, hb, hd, hp, hm, hQ⟩ := h
  refine ⟨_, rfl, _, _, _, _, rfl, rfl, SqL.of hb, rfl, ?_⟩
  refine ⟨_, rfl, _, _, rfl, rfl, _, rfl, _, _, _, _, rfl, rfl, hb, rfl, ?_⟩
  have hne : d ≠ b := fun z => by
    subst z
    rw [hd] at hb
    cases ds with
    | nil => cases hb
    | cons i t => cases hb
  have hb2 : upd H b (.lst [.ref d, .int (p + 1)]) b = some (.lst [.ref d, .int (p + 1)]) := upd_same
  have hd2 : upd H b (.lst [.ref d, .int (p + 1)]) d = some (.lst (nums ds)) := (upd_ne hne).trans hd
  refine ⟨_, rfl, _, rfl, _, _, _, _, rfl, rfl, SqL.of hb2, rfl, _, _, rfl, Or.inl (SqL.of hd2), _, _, rfl, rfl, _, rfl, ?_⟩
  refine iteD (fun hl => ?_) fun hl => hQ 0 (Int.le_refl _) hm
  · obtain ⟨i, _, hi⟩ := at_int hp (by rw [List.length_map] at hl; exact hl)
    refine ⟨_, rfl, _, _, _, _, rfl, rfl, SqL.of hb2, rfl, _, rfl, _, _, _, _, rfl, rfl, SqL.of hd2, hi, Or.inl ⟨_, rfl, _, rfl, _, _, rfl, rfl, hm, ?_⟩⟩
    exact hQ _ (Int.emod_nonneg _ (by omega)) (Int.emod_lt_of_pos _ hm)
theorem pure_Device_recharge {K : PySem.W.Frag} (D : ClsA K "Device" ["data", "size", "power", "written"]) (vs : List V) (H : Hp) (Q : VK) (E : XK) (h : sp_Device_recharge K vs H Q E) : t_Device_recharge K { nx := fun _ H' => Q .non H', rt := Q } (start ["self", "power"] vs) H := by
  obtain ⟨x, dx, l, sz, wr, pw, pw', rfl, hx, hQ⟩ := h
  exact ⟨_, rfl, _, rfl, _, _, _, _, rfl, hx, D.1, D.2 _ (by decide), (by show (4 : Nat) < 1000; decide), hQ⟩
theorem pure_Device_read {K : PySem.W.Frag} (D : ClsA K "Device" ["data", "size", "power", "written"]) (vs : List V) (H : Hp) (Q : VK) (E : XK) (h : sp_Device_read K vs H Q E) : t_Device_read K { nx := fun _ H' => Q .non H', rt := Q } (start ["self", "start", "many"] vs) H := by
  obtain ⟨x, dx, l, st, n, sz, wr, pw, ds, rfl, hx, hl, hQ⟩ := h
  refine ⟨_, rfl, _, _, _, _, _, rfl, hx, D.1, D.2 _ (by decide), rfl, _, rfl, _, rfl, _, rfl, _, rfl, _, _, rfl, rfl, _, rfl, _, _, rfl, SqL.of hl, fun p hp => ?_⟩
  rw [cut_nat, ← List.map_drop, ← List.map_take]
  exact hQ p hp
theorem pure_PowerCut_init {K : PySem.W.Frag} (T : OexC K (He.ga K "PowerCut")) (no : ∀ f ∈ (["written"] : List Str), PySem.W.findIn K (.ref (He.ga K "PowerCut")) f = some none) (vs : List V) (H : Hp) (Q : VK) (E : XK) (h : sp_PowerCut_init K vs H Q E) :
    ∃ a, vs[0]? = some (.ref a) ∧ H a = some (exo a (He.ga K "PowerCut") none) ∧ tCons (tFs [tC (.str "no power behind "), tFmt (tVar 1), tC (.str " bytes")]) tNil (startF ["self", "written", "__class__"] vs [some (.ref (He.ga K "PowerCut"))]) H fun us H1 => us.length ≤ 1000 ∧ H1 a = some (exo a (He.ga K "PowerCut") none) ∧
      tOst K "written" (tVar 0) (tVar 1) { nx := fun _ H' => Q .non H', rt := Q } (startF ["self", "written", "__class__"] vs [some (.ref (He.ga K "PowerCut"))]) H1 := by
  obtain ⟨a, n, rfl, hn, hx, hQ⟩ := h
  refine ⟨a, rfl, hx, _, rfl, ?_, _, rfl, Or.inr ⟨n, rfl, by omega, _, rfl, ?_, _, rfl, ?_, ?_⟩⟩
  · rw [str_app, sizeLine_eq]
    decide +kernel
  · have z := str_num (i := n) (by omega)
    rw [str_app, str_app, sizeLine_eq]
    have e1 : (Str.empty : Str).length + ("no power behind " : Str).length = 16 := by decide +kernel
    omega
  · have z := str_num (i := n) (by omega)
    rw [str_app, str_app, str_app, sizeLine_eq]
    have e1 : (Str.empty : Str).length + ("no power behind " : Str).length = 16 := by decide +kernel
    have e2 : (" bytes" : Str).length = 6 := by decide +kernel
    omega
  · exact ⟨by show (1 : Nat) ≤ 1000; decide, hx, _, rfl, _, rfl, a, _, rfl, T, no _ (by decide), Or.inl ⟨hx, fun dx h1 h2 => hQ dx h1 h2⟩⟩
theorem pure_Device_init {K : PySem.W.Frag} (D : ClsA K "Device" ["data", "size", "power", "written"]) (vs : List V) (H : Hp) (Q : VK) (E : XK) (h : sp_Device_init K vs H Q E) : t_Device_init K { nx := fun _ H' => Q .non H', rt := Q } (start ["self", "size", "power", "place"] vs) H := by
  obtain ⟨x, dx, sz, pw, rfl, hx, hz, hQ⟩ := h
  refine ⟨_, rfl, _, rfl, by omega, by omega, fun l hl => ?_⟩
  have hne : l ≠ x := fun z => by rw [z, hx] at hl; cases hl
  refine ⟨fun i m H' => i + m = sz ∧ H' = upd H l (.lst (nums (List.replicate i 0))), ⟨sz, by omega, rfl⟩, fun i m H' hW => ?_⟩
  obtain ⟨h1, rfl⟩ := hW
  by_cases hi : sz ≤ i
  · left
    refine ⟨?_, ?_⟩
    · show ((sz : Int)).toNat ≤ i
      omega
    obtain rfl : i = sz := by omega
    have z0 : upd H l (.lst (nums (List.replicate i 0))) x = some (.ins (He.ga K "Device") dx []) := by rw [upd_ne (Ne.symm hne)]; exact hx
    refine ⟨_, rfl, _, _, _, _, rfl, z0, D.1, D.2 _ (by decide), (by decide), ?_⟩
    refine ⟨_, rfl, _, rfl, _, _, _, _, rfl, upd_same, D.1, D.2 _ (by decide), (by show (1 : Nat) < 1000; decide), ?_⟩
    refine ⟨_, rfl, _, rfl, _, _, _, _, rfl, upd_same, D.1, D.2 _ (by decide), (by show (2 : Nat) < 1000; decide), ?_⟩
    refine ⟨_, rfl, _, _, _, _, rfl, upd_same, D.1, D.2 _ (by decide), (by show (3 : Nat) < 1000; decide), ?_⟩
    rw [upd_upd, upd_upd, upd_upd]
    exact hQ l hl
  · right
    refine ⟨?_, fun H' => H' = upd H l (.lst (nums (List.replicate (i + 1) 0))), fun H' e => ⟨m - 1, by omega, by omega, e⟩, fun y H' hy => ?_⟩
    · show i < ((sz : Int)).toNat
      omega
    obtain ⟨rfl, rfl⟩ := hy
    refine ⟨rfl, _, upd_same, ?_, ?_⟩
    · rw [List.length_map, List.length_replicate, sizeLine_eq]
      omega
    · show upd _ _ _ = _
      rw [upd_upd]
      congr 2
      simp [nums, List.replicate_succ']
theorem pure__law_digits {K : PySem.W.Frag} (vs : List V) (H : Hp) (Q : VK) (E : XK) (h : sp__law_digits K vs H Q E) : t__law_digits K { nx := fun _ H' => Q .non H', rt := Q } (start ["_law_script", "_law_first", "_law_last", "_law_digits_here", "_law_k", "_law_cell_here", "_law_turn", "_law_seed"] vs) H := by
  obtain ⟨a, ns, hi, rfl, hS, hz, hQ⟩ := h
  refine ⟨by decide, fun l hl => ?_⟩
  refine ⟨_, rfl, _, rfl, _, _, rfl, by omega, ?_⟩
  refine rng_for (fun i σ H' => ∃ o4 o5 o6 o7 ds, σ = [some (.ref a), some (.int 0), some (.int hi), some (.ref l), o4, o5, o6, o7] ∧ H' = upd H l (.lst (nums ds)) ∧ ds.length ≤ i * 60) ⟨_, _, _, _, [], rfl, rfl, by decide⟩ ?_ ?_
  · rintro i _ _ hi1 ⟨o4, o5, o6, o7, ds, rfl, rfl, hd⟩
    have hi2 : i < 64 := by omega
    refine ⟨_, rfl, _, rfl, a, ns, _, rfl, sqOff hS hl, by omega, fun c => ?_⟩
    have go : ∀ c : Int, tIfS (tTest (tOp rGeI (tVar 5) (tOp rPowI (tC (.int 10)) (tC (.int 18))))) (tFor (iRng1 (tCons (tC (.int 60)) (tNil))) (gName 6) (tIfS (tTest (tOp rGtI (tVar 5) (tC (.int 0)))) (tSeq (tDrop (tBM K "list" rAppend (tVar 3) (tCons (tOp rModI (tCB rIntC (tCons (tVar 5) (tNil))) (tC (.int 1000))) (tNil)))) (tAsg (tOp rDivI (tVar 5) (tC (.int 1000))) (gName 5))) (tNext))) (tSeq (tAsg (tOp rModI (tCB rIntC (tCons (tOp rAddI (tOp rAddI (tOp rMulI (tVar 5) (tC (.int 48271))) (tOp rMulI (tVar 4) (tC (.int 69621)))) (tC (.int 11))) (tNil))) (tC (.int 2147483647))) (gName 7)) (tFor (iRng1 (tCons (tC (.int 12)) (tNil))) (gName 6) (tSeq (tAsg (tOp rModI (tCB rIntC (tCons (tOp rAddI (tOp rAddI (tOp rMulI (tVar 7) (tC (.int 16807))) (tOp rMulI (tC (.int 7)) (tVar 6))) (tC (.int 1))) (tNil))) (tC (.int 2147483647))) (gName 7)) (tDrop (tBM K "list" rAppend (tVar 3) (tCons (tOp rModI (tCB rIntC (tCons (tOp rDivI (tVar 7) (tC (.int 997))) (tNil))) (tC (.int 1000))) (tNil)))))))
        { nx := fun σ H' => ∃ o4 o5 o6 o7 ds, σ = [some (.ref a), some (.int 0), some (.int hi), some (.ref l), o4, o5, o6, o7] ∧ H' = upd H l (.lst (nums ds)) ∧ ds.length ≤ (i + 1) * 60, ct := fun σ H' => ∃ o4 o5 o6 o7 ds, σ = [some (.ref a), some (.int 0), some (.int hi), some (.ref l), o4, o5, o6, o7] ∧ H' = upd H l (.lst (nums ds)) ∧ ds.length ≤ (i + 1) * 60, bk := tRet (tVar 3) { nx := fun _ H' => Q .non H', rt := Q }, rt := Q }
        [some (.ref a), some (.int 0), some (.int hi), some (.ref l), some (.int (0 + i)), some (.int c), o6, o7] (upd H l (.lst (nums ds))) := by
      intro c
      have app : ∀ (ds : List Int) (z : Int), upd (upd H l (.lst (nums ds))) l (.lst (nums ds ++ [V.int z])) = upd H l (.lst (nums (ds ++ [z]))) := fun ds z => by
        rw [upd_upd]
        simp [nums]
      refine ⟨_, rfl, _, _, rfl, rfl, ⟨by decide, by decide, by decide⟩, _, _, rfl, rfl, _, rfl, ?_⟩
      refine iteB (fun _ => ?_) fun _ => ?_
      · refine ⟨_, rfl, by decide, by decide, ?_⟩
        refine rng_for (fun t σ H' => ∃ c o6 ds', σ = [some (.ref a), some (.int 0), some (.int hi), some (.ref l), some (.int (0 + i)), some (.int c), o6, o7] ∧ H' = upd H l (.lst (nums ds')) ∧ ds'.length ≤ ds.length + t) ⟨_, _, _, rfl, rfl, Nat.le_refl _⟩ ?_ ?_
        · rintro t _ _ ht ⟨c, o6, ds', rfl, rfl, hd'⟩
          have ht : t < 60 := ht
          refine ⟨_, rfl, _, _, rfl, rfl, _, rfl, ?_⟩
          refine iteB (fun _ => ?_) fun _ => ⟨_, _, _, rfl, rfl, by omega⟩
          refine ⟨_, rfl, Or.inl ⟨rfl, _, SqL.of upd_same⟩, _, rfl, Or.inl ⟨_, rfl, _, _, rfl, rfl, of_decide_eq_true rfl, ?_⟩⟩
          refine ⟨_, _, _, rfl, rfl, upd_same, ?_, ?_⟩
          · rw [List.length_map, sizeLine_eq]
            omega
          · refine ⟨_, rfl, _, _, rfl, rfl, ⟨by decide, by decide⟩, _, _, _, rfl, app _ _, ?_⟩
            rw [List.length_append, List.length_singleton]
            omega
        · rintro _ _ ⟨c, o6, ds', rfl, rfl, hd'⟩
          have hd' : ds'.length ≤ ds.length + 60 := hd'
          exact ⟨_, _, _, _, _, rfl, rfl, by omega⟩
      · refine ⟨_, rfl, _, _, rfl, rfl, Or.inr (by decide), _, rfl, _, _, rfl, rfl, Or.inr (by decide), _, _, rfl, rfl, _, _, rfl, rfl, Or.inl ⟨_, rfl, _, _, rfl, rfl, of_decide_eq_true rfl, ?_⟩⟩
        refine ⟨_, rfl, by decide, by decide, ?_⟩
        refine rng_for (fun t σ H' => ∃ sd o6 ds', σ = [some (.ref a), some (.int 0), some (.int hi), some (.ref l), some (.int (0 + i)), some (.int c), o6, some (.int sd)] ∧ H' = upd H l (.lst (nums ds')) ∧ ds'.length ≤ ds.length + t) ⟨_, _, _, rfl, rfl, Nat.le_refl _⟩ ?_ ?_
        · rintro t _ _ ht ⟨sd, o6, ds', rfl, rfl, hd'⟩
          have ht : t < 12 := ht
          refine ⟨_, rfl, _, _, rfl, rfl, Or.inr (by decide), _, rfl, _, _, rfl, rfl, Or.inl (by decide), _, _, rfl, rfl, _, _, rfl, rfl, Or.inl ⟨_, rfl, _, _, rfl, rfl, of_decide_eq_true rfl, ?_⟩⟩
          refine ⟨_, rfl, Or.inl ⟨rfl, _, SqL.of upd_same⟩, _, rfl, _, _, rfl, rfl, ⟨by decide, by decide⟩, Or.inl ⟨_, rfl, _, _, rfl, rfl, of_decide_eq_true rfl, ?_⟩⟩
          refine ⟨_, _, _, rfl, rfl, upd_same, ?_, ?_⟩
          · rw [List.length_map, sizeLine_eq]
            omega
          · refine ⟨_, _, _, rfl, app _ _, ?_⟩
            rw [List.length_append, List.length_singleton]
            omega
        · rintro _ _ ⟨sd, o6, ds', rfl, rfl, hd'⟩
          have hd' : ds'.length ≤ ds.length + 12 := hd'
          exact ⟨_, _, _, _, _, rfl, rfl, by omega⟩
    refine ⟨_, rfl, _, _, rfl, rfl, _, rfl, ?_⟩
    refine iteB (fun _ => ?_) fun _ => go c
    exact ⟨_, rfl, _, _, rfl, rfl, Or.inl (by decide), _, _, rfl, rfl, go _⟩
  · rintro _ _ ⟨o4, o5, o6, o7, ds, rfl, rfl, hd⟩
    exact ⟨_, rfl, hQ l ds hl⟩
theorem blit_length {ds row : List Int} {st : Nat} (h : st + row.length ≤ ds.length) : (blit ds st row).length = ds.length := by
  simp only [blit, List.length_append, List.length_take, List.length_drop]
  omega
theorem blit_get {ds row : List Int} {st : Nat} (h : st + row.length ≤ ds.length) (j : Nat) : (blit ds st row)[j]? = if j < st then ds[j]? else if j < st + row.length then row[j - st]? else ds[j]? := by
  have l1 : (ds.take st).length = st := by rw [List.length_take]; omega
  unfold blit
  by_cases h1 : j < st
  · rw [if_pos h1, List.append_assoc, List.getElem?_append_left (by omega), List.getElem?_take, if_pos h1]
  · rw [if_neg h1, List.append_assoc, List.getElem?_append_right (by omega), l1]
    by_cases h2 : j < st + row.length
    · rw [if_pos h2, List.getElem?_append_left (by omega)]
    · rw [if_neg h2, List.getElem?_append_right (by omega), List.getElem?_drop]
      congr 1
      omega
theorem blit_nil {ds : List Int} {st : Nat} : blit ds st [] = ds := by
  simp [blit]
theorem blit_step {ds row : List Int} {st i : Nat} {b : Int} (h : st + row.length ≤ ds.length) (hb : row[i]? = some b) : (blit ds st (row.take i)).set (st + i) b = blit ds st (row.take (i + 1)) := by
  have hi : i < row.length := (List.getElem?_eq_some_iff.mp hb).1
  have e1 : (row.take i).length = i := by rw [List.length_take]; omega
  have e2 : (row.take (i + 1)).length = i + 1 := by rw [List.length_take]; omega
  apply List.ext_getElem?
  intro j
  rw [List.getElem?_set, blit_get (by omega), blit_get (by omega), blit_length (by omega), e1, e2]
  by_cases h1 : st + i = j
  · subst h1
    rw [if_pos rfl, if_pos (by omega), if_neg (by omega), if_pos (by omega), List.getElem?_take, if_pos (by omega), show st + i - st = i by omega, hb]
  · rw [if_neg h1]
    by_cases h2 : j < st
    · rw [if_pos h2, if_pos h2]
    · rw [if_neg h2, if_neg h2]
      by_cases h3 : j < st + i
      · rw [if_pos h3, if_pos (by omega), List.getElem?_take, List.getElem?_take, if_pos (by omega), if_pos (by omega)]
      · rw [if_neg h3, if_neg (by omega)]
theorem pure_Device_write {K : PySem.W.Frag} (D : ClsA K "Device" ["data", "size", "power", "written"]) (X : ExcOk K "PowerCut") (vs : List V) (H : Hp) (Q : VK) (E : XK) (h : sp_Device_write K vs H Q E) :
    t_Device_write K (fun cls d _ H => E cls d H) { nx := fun _ H' => Q .non H', rt := Q } (start ["self", "start", "row", "place", "byte"] vs) H := by
  obtain ⟨x, r, dx, l, st, sz, wr, pw, ds, row, rfl, hx, hl, hr, hrl, hlen, hpw, hwr, hQ⟩ := h
  have hxl : x ≠ l := ne_of hx hl (fun z => nomatch z)
  have hxr : r ≠ x := ne_of hr hx (fun z => nomatch z)
  have hb : bears pw row.length ≤ row.length := by
    unfold bears
    split <;> omega
  refine ⟨_, rfl, _, rfl, r, rfl, ⟨_, SqL.of hr⟩, ?_⟩
  refine lst_for (nums row) (fun i σ H' => ∃ o4, σ = [some (.ref x), some (.int st), some (.ref r), some (.int (st + i)), o4] ∧ i ≤ bears pw row.length ∧ H' = upd (upd H l (.lst (nums (blit ds st (row.take i))))) x (devI K dx l sz (pw.map (· - (i : Int))) (wr + i)))
    (fun i σ H' ⟨_, _, _, e⟩ => SqL.of (by rw [e, upd_ne hxr, upd_ne hrl]; exact hr)) ?_ ?_ ?_
  · refine ⟨none, ?_, Nat.zero_le _, ?_⟩
    · show [some (V.ref x), some (V.int st), some (V.ref r), some (V.int st), none] = _
      rw [show (st : Int) + ((0 : Nat) : Int) = st by omega]
    have e : pw.map (· - ((0 : Nat) : Int)) = pw := by cases pw <;> simp
    rw [e, List.take_zero, blit_nil, upd_id hl, show wr + ((0 : Nat) : Int) = wr by omega, upd_id hx]
  · rintro i _ _ y hy ⟨o4, rfl, hi, rfl⟩
    obtain ⟨b, hb1, rfl⟩ : ∃ b, row[i]? = some b ∧ y = .int b := by
      rw [List.getElem?_map] at hy
      cases z : row[i]? with
      | none => rw [z] at hy; cases hy
      | some b => rw [z] at hy; cases hy; exact ⟨b, rfl, rfl⟩
    have hi2 : i < row.length := (List.getElem?_eq_some_iff.mp hb1).1
    have lk : (blit ds st (row.take i)).length = ds.length := blit_length (by rw [List.length_take]; omega)
    have rest : ∀ pw' : Option Int, pw' = pw.map (· - ((i + 1 : Nat) : Int)) → i + 1 ≤ bears pw row.length →
        tSeq (tAsg (tVar 4) (gSub (tFld K (tVar 0) "data") (tVar 3) rSetL)) (tSeq (sFldAug K (tVar 0) (tC (.int 1)) rAdd "written") (tAug 3 (tC (.int 1)) (ipI fun i j => i + j)))
          { nx := fun σ H' => ∃ o4, σ = [some (.ref x), some (.int st), some (.ref r), some (.int (st + (i + 1 : Nat))), o4] ∧ i + 1 ≤ bears pw row.length ∧ H' = upd (upd H l (.lst (nums (blit ds st (row.take (i + 1)))))) x (devI K dx l sz (pw.map (· - ((i + 1 : Nat) : Int))) (wr + (i + 1 : Nat))),
            ct := fun σ H' => ∃ o4, σ = [some (.ref x), some (.int st), some (.ref r), some (.int (st + (i + 1 : Nat))), o4] ∧ i + 1 ≤ bears pw row.length ∧ H' = upd (upd H l (.lst (nums (blit ds st (row.take (i + 1)))))) x (devI K dx l sz (pw.map (· - ((i + 1 : Nat) : Int))) (wr + (i + 1 : Nat))),
            bk := fun _ H' => Q .non H', rt := Q }
          [some (.ref x), some (.int st), some (.ref r), some (.int (st + i)), some (.int b)] (upd (upd H l (.lst (nums (blit ds st (row.take i))))) x (devI K dx l sz pw' (wr + i))) := by
      intro pw' hp hi3
      refine ⟨_, rfl, _, rfl, x, _, dx, _, _, rfl, upd_same, D.1, D.2 _ (by decide), rfl, _, rfl, l, nums (blit ds st (row.take i)), _, st + i, rfl, rfl, (by rw [upd_ne (Ne.symm hxl)]; exact upd_same), ?_, ?_⟩
      · rw [List.length_map, lk]
        exact ixN_ok (n := ds.length) (k := (st + i : Nat)) (by omega) (by omega)
      · refine ⟨_, rfl, x, _, dx, _, _, rfl, (by rw [upd_ne hxl]; exact upd_same), D.1, D.2 _ (by decide), rfl, _, _, rfl, rfl, dx, _, (by rw [upd_ne hxl]; exact upd_same), (by show (4 : Nat) < 1000; decide), ?_⟩
        refine ⟨_, rfl, _, _, rfl, rfl, some (.int b), ?_, hi3, ?_⟩
        · show [some (V.ref x), some (V.int st), some (V.ref r), some (V.int (st + i + 1)), some (V.int b)] = _
          rw [show (st : Int) + i + 1 = st + (i + 1 : Nat) by omega]
        · have hA : (nums (blit ds st (row.take i))).set (st + i) (V.int b) = nums (blit ds st (row.take (i + 1))) := by
            rw [← blit_step hlen hb1]
            simp [nums, List.map_set]
          rw [← hp, upd_comm (a := x) (b := l) hxl, upd_upd, upd_upd, hA]
          show upd _ x (.ins _ dx [("data", .ref l), ("size", .int sz), ("power", pwV pw'), ("written", .int (wr + i + 1))]) = _
          rw [show wr + (i : Int) + 1 = wr + (i + 1 : Nat) by omega]
    refine ⟨_, rfl, x, _, dx, _, _, rfl, upd_same, D.1, D.2 _ (by decide), rfl, rfl, _, rfl, ?_⟩
    cases pw with
    | none => exact rest none rfl hi2
    | some p =>
      refine iteB (fun _ => ?_) fun e => by cases e
      have p0 := hpw p rfl
      have bb : bears (some p) row.length = min p.toNat row.length := rfl
      refine ⟨_, rfl, x, _, dx, _, _, rfl, upd_same, D.1, D.2 _ (by decide), rfl, rfl, _, rfl, ?_⟩
      refine iteD (fun z => ?_) fun z => ?_
      · have z1 : p - (i : Int) = 0 := V.int.inj z
        have en : i = bears (some p) row.length := by omega
        refine ⟨_, rfl, x, _, dx, _, _, rfl, upd_same, D.1, D.2 _ (by decide), rfl, (by show (1 : Nat) ≤ 1000; decide), fun a ha => ?_⟩
        refine ⟨a, _, rfl, ?_, upd_same, fun d hd hne => ⟨rfl, d, [("written", .int (wr + i))], upd_same, ?_, ?_, ?_⟩⟩
        · have w1 : (wr + (i : Int)).natAbs < 2 ^ 64 := by omega
          have w2 := log2_small w1
          omega
        · rw [upd_ne hne]
          exact upd_same
        · rw [upd_ne hne] at hd
          exact hd
        · rw [upd_ne hne] at hd
          rw [del_made ha hne]
          exact (hQ i _ en rfl).2 hi2 d hd
      · have z1 : p - (i : Int) ≠ 0 := fun z2 => z (by rw [← z2]; rfl)
        refine ⟨_, rfl, x, _, dx, _, _, rfl, upd_same, D.1, D.2 _ (by decide), rfl, _, _, rfl, rfl, dx, _, upd_same, (by show (4 : Nat) < 1000; decide), ?_⟩
        rw [upd_upd]
        have k := rest (some (p - (i : Int) - 1)) (by show some (p - (i : Int) - 1) = some (p - ((i + 1 : Nat) : Int)); congr 1; omega) (by omega)
        exact k
  · rintro _ _ ⟨o4, rfl, hi, rfl⟩
    have hi : row.length ≤ bears pw row.length := by simpa using hi
    have e : bears pw row.length = row.length := by omega
    have z := (hQ row.length _ e.symm rfl).1 rfl
    simpa using z
end Cf

set_option Elab.async false
set_option linter.all false
set_option maxRecDepth 100000
set_option maxHeartbeats 4000000
namespace Cf
open PySem PySem.Spec PyProof.Rows L2 NdefX
/-! the journal's texts: what each def does -/
/-- what stands stays -/
def Ext (H H' : Hp) : Prop := ∀ a o, H a = some o → H' a = some o
abbrev SG : Str := "\n\t !\"#$&'()*+,-./0123456789:;<=>?@ABCDEFGHIJKLMNOPQRSTUVWXYZ[\\]^_`abcdefghijklmnopqrstuvwxyz{|}~" -- all of its signs
def sgn : List Nat := SG.cps.toList
abbrev S (l : List Nat) : Str := SX.S l
/-- the byte of a sign -/
def bt (c : Nat) : Nat := sgn.idxOf c + 1
def bts (cs : List Nat) : List Int := cs.map fun c => ((bt c : Nat) : Int)
def good (cs : List Nat) : Prop := (∀ c ∈ cs, c ∈ sgn) ∧ cs.length < 60000
def enc (cs : List Nat) : List Int := [1, (cs.length : Int) % 256, (cs.length : Int) / 256] ++ bts cs
def encs (ts : List (List Nat)) : List Int := ts.flatMap enc
abbrev txs (ts : List (List Nat)) : List V := ts.map fun cs => V.str (S cs)
/-- from place s on the records of ts, then the end -/
def Ar (ds : List Int) (s : Nat) (ts : List (List Nat)) : Prop := (∀ cs ∈ ts, good cs) ∧ ∃ r, ds.drop s = encs ts ++ 0 :: r
def asz (sz : Nat) : Nat := (sz - 1) / 2
def ast (sz h : Nat) : Nat := 1 + (h - 1) * asz sz
abbrev jI (K : PySem.W.Frag) (jdx x : Addr) : HO := .ins (He.ga K "Journal") jdx [("device", .ref x)]
def sp_byte_of (K : PySem.W.Frag) : Sp := fun vs H Q _ => ∃ c, vs = [.str (S [c])] ∧ c ∈ sgn ∧ Q (.int (bt c : Nat)) H
def sp_bytes_of (K : PySem.W.Frag) : Sp := fun vs H Q _ => ∃ cs, vs = [.str (S cs)] ∧ good cs ∧ ∀ l, H l = none → Q (.ref l) (upd H l (.lst (nums (bts cs))))
def sp_text_of (K : PySem.W.Frag) : Sp := fun vs H Q _ => ∃ (r : Addr) (cs : List Nat), vs = [.ref r] ∧ good cs ∧ H r = some (.lst (nums (bts cs))) ∧ ∀ H', Ext H H' → Q (.str (S cs)) H'
def sp_area_size (K : PySem.W.Frag) : Sp := fun vs H Q _ => ∃ (x dx l : Addr) (sz : Nat) (wr : Int) (pw : Option Int), vs = [.ref x] ∧ H x = some (devI K dx l sz pw wr) ∧ 1 ≤ sz ∧ Q (.int (asz sz : Nat)) H
def sp_area_start (K : PySem.W.Frag) : Sp := fun vs H Q _ => ∃ (x dx l : Addr) (sz h : Nat) (wr : Int) (pw : Option Int), vs = [.ref x, .int h] ∧ H x = some (devI K dx l sz pw wr) ∧ 1 ≤ sz ∧ (h = 1 ∨ h = 2) ∧ Q (.int (ast sz h : Nat)) H
def sp_valid_area (K : PySem.W.Frag) : Sp := fun vs H Q _ => ∃ (x dx l : Addr) (sz wr : Int) (pw : Option Int) (ds : List Int) (h : Int), vs = [.ref x] ∧ H x = some (devI K dx l sz pw wr) ∧ H l = some (.lst (nums ds)) ∧ ds[0]? = some h ∧ Q (if h = 1 ∨ h = 2 then .int h else .non) H
def sp_record_bytes (K : PySem.W.Frag) : Sp := fun vs H Q _ => ∃ cs, vs = [.str (S cs)] ∧ good cs ∧ ∀ q H', Ext H H' → H q = none → H' q = some (.lst (nums (enc cs))) → Q (.ref q) H'
theorem len_byte_of {K : PySem.W.Frag} {vs : List V} {H : Hp} {Q : VK} {E : XK} (h : sp_byte_of K vs H Q E) : vs.length = 1 := by obtain ⟨_, rfl, _⟩ := h; rfl
theorem len_bytes_of {K : PySem.W.Frag} {vs : List V} {H : Hp} {Q : VK} {E : XK} (h : sp_bytes_of K vs H Q E) : vs.length = 1 := by obtain ⟨_, rfl, _⟩ := h; rfl
theorem len_text_of {K : PySem.W.Frag} {vs : List V} {H : Hp} {Q : VK} {E : XK} (h : sp_text_of K vs H Q E) : vs.length = 1 := by obtain ⟨_, _, rfl, _⟩ := h; rfl
theorem len_area_size {K : PySem.W.Frag} {vs : List V} {H : Hp} {Q : VK} {E : XK} (h : sp_area_size K vs H Q E) : vs.length = 1 := by obtain ⟨_, _, _, _, _, _, rfl, _⟩ := h; rfl
theorem len_area_start {K : PySem.W.Frag} {vs : List V} {H : Hp} {Q : VK} {E : XK} (h : sp_area_start K vs H Q E) : vs.length = 2 := by obtain ⟨_, _, _, _, _, _, _, rfl, _⟩ := h; rfl
theorem len_valid_area {K : PySem.W.Frag} {vs : List V} {H : Hp} {Q : VK} {E : XK} (h : sp_valid_area K vs H Q E) : vs.length = 1 := by obtain ⟨_, _, _, _, _, _, _, _, rfl, _⟩ := h; rfl
theorem len_record_bytes {K : PySem.W.Frag} {vs : List V} {H : Hp} {Q : VK} {E : XK} (h : sp_record_bytes K vs H Q E) : vs.length = 1 := by obtain ⟨_, rfl, _⟩ := h; rfl
def sp_LimitError_init (K : PySem.W.Frag) : Sp := fun vs H Q _ => ∃ (a : Addr) (z : Str), vs = [.ref a, .str z] ∧ H a = some (exo a (He.ga K "LimitError") none) ∧
  ∀ dx, H dx = none → dx ≠ a → Q .non (upd (upd H dx (exd dx [("reason", .str z)])) a (exo a (He.ga K "LimitError") (some dx)))
def sp_Journal_init (K : PySem.W.Frag) : Sp := fun vs H Q _ => ∃ (j jdx x : Addr), vs = [.ref j, .ref x] ∧ H j = some (.ins (He.ga K "Journal") jdx []) ∧ Q .non (upd H j (jI K jdx x))
def sp_read_records (K : PySem.W.Frag) : Sp := fun vs H Q _ => ∃ (x dx l : Addr) (sz h : Nat) (wr : Int) (pw : Option Int) (ds : List Int) (ts : List (List Nat)), vs = [.ref x, .int h] ∧ H x = some (devI K dx l sz pw wr) ∧ H l = some (.lst (nums ds)) ∧ ds.length = sz ∧ 1 ≤ sz ∧ sz ≤ 100000 ∧
  (h = 1 ∨ h = 2) ∧ Ar ds (ast sz h) ts ∧ ∀ p q H', Ext H H' → H q = none → H p = none → p ≠ q → H' p = some (.tup [.ref q, .int (ast sz h + (encs ts).length : Nat)]) → H' q = some (.lst (txs ts)) → Q (.ref p) H'
theorem len_LimitError_init {K : PySem.W.Frag} {vs : List V} {H : Hp} {Q : VK} {E : XK} (h : sp_LimitError_init K vs H Q E) : vs.length = 2 := by obtain ⟨_, _, rfl, _⟩ := h; rfl
theorem len_Journal_init {K : PySem.W.Frag} {vs : List V} {H : Hp} {Q : VK} {E : XK} (h : sp_Journal_init K vs H Q E) : vs.length = 2 := by obtain ⟨_, _, _, rfl, _⟩ := h; rfl
theorem len_read_records {K : PySem.W.Frag} {vs : List V} {H : Hp} {Q : VK} {E : XK} (h : sp_read_records K vs H Q E) : vs.length = 2 := by obtain ⟨_, _, _, _, _, _, _, _, _, rfl, _⟩ := h; rfl
/-- a device as it stands -/
structure Dv (K : PySem.W.Frag) (H : Hp) (x dx l : Addr) (sz : Nat) (pw : Option Int) (wr : Int) (ds : List Int) : Prop where
  hx : H x = some (devI K dx l sz pw wr)
  hl : H l = some (.lst (nums ds))
  len : ds.length = sz
  s1 : 1 ≤ sz
  s2 : sz ≤ 100000
/-- the records of a device -/
structure Jv (ds : List Int) (sz h : Nat) (ts : List (List Nat)) : Prop where
  hd : ds[0]? = some (h : Int)
  h12 : h = 1 ∨ h = 2
  ar : Ar ds (ast sz h) ts
  fits : (encs ts).length + 1 ≤ asz sz
/-- all but the device stays -/
def Chg (x l : Addr) (H H' : Hp) : Prop := ∀ a o, H a = some o → a ≠ x → a ≠ l → H' a = some o
def sp_Journal_texts (K : PySem.W.Frag) : Sp := fun vs H Q _ => ∃ (j jdx x dx l : Addr) (sz h : Nat) (wr : Int) (pw : Option Int) (ds : List Int) (ts : List (List Nat)), vs = [.ref j] ∧ H j = some (jI K jdx x) ∧ Dv K H x dx l sz pw wr ds ∧ Jv ds sz h ts ∧
  ∀ q H', Ext H H' → H q = none → H' q = some (.lst (txs ts)) → Q (.ref q) H'
def sp_Journal_room (K : PySem.W.Frag) : Sp := fun vs H Q _ => ∃ (j jdx x dx l : Addr) (sz h : Nat) (wr : Int) (pw : Option Int) (ds : List Int) (ts : List (List Nat)), vs = [.ref j] ∧ H j = some (jI K jdx x) ∧ Dv K H x dx l sz pw wr ds ∧ Jv ds sz h ts ∧
  ∀ H', Ext H H' → Q (.int ((asz sz : Int) - (encs ts).length - 3 - 1)) H'
def sp_Journal_write_record (K : PySem.W.Frag) : Sp := fun vs H Q E => ∃ (j jdx x dx l : Addr) (sz h : Nat) (wr : Int) (pw : Option Int) (ds : List Int) (ts : List (List Nat)) (cs : List Nat), vs = [.ref j, .str (S cs)] ∧ H j = some (jI K jdx x) ∧ Dv K H x dx l sz pw wr ds ∧ Jv ds sz h ts ∧
  good cs ∧ (encs ts).length + cs.length + 4 ≤ asz sz ∧ (∀ p, pw = some p → 0 ≤ p) ∧ (0 ≤ wr ∧ wr ≤ 1000000000) ∧
  ∀ (ok : Bool) (ds' : List Int) (pw' : Option Int) (wr' : Int) (H' : Hp), (pw = none → ok = true ∧ pw' = none) → (∀ p, pw' = some p → 0 ≤ p) → (0 ≤ wr' ∧ wr' ≤ wr + 200000) → Chg x l H H' → Dv K H' x dx l sz pw' wr' ds' → Jv ds' sz h (if ok then ts ++ [cs] else ts) →
    (ok = true → Q .non H') ∧ (ok = false → ∀ d, E (.ref (He.ga K "PowerCut")) (some d) H')
theorem len_Journal_texts {K : PySem.W.Frag} {vs : List V} {H : Hp} {Q : VK} {E : XK} (h : sp_Journal_texts K vs H Q E) : vs.length = 1 := by obtain ⟨_, _, _, _, _, _, _, _, _, _, _, rfl, _⟩ := h; rfl
theorem len_Journal_room {K : PySem.W.Frag} {vs : List V} {H : Hp} {Q : VK} {E : XK} (h : sp_Journal_room K vs H Q E) : vs.length = 1 := by obtain ⟨_, _, _, _, _, _, _, _, _, _, _, rfl, _⟩ := h; rfl
theorem len_Journal_write_record {K : PySem.W.Frag} {vs : List V} {H : Hp} {Q : VK} {E : XK} (h : sp_Journal_write_record K vs H Q E) : vs.length = 2 := by obtain ⟨_, _, _, _, _, _, _, _, _, _, _, _, rfl, _⟩ := h; rfl
def sp_Journal_rewrite (K : PySem.W.Frag) : Sp := fun vs H Q E => ∃ (j jdx x dx l q : Addr) (sz h : Nat) (wr : Int) (pw : Option Int) (ds : List Int) (ts us : List (List Nat)), vs = [.ref j, .ref q] ∧ H j = some (jI K jdx x) ∧ Dv K H x dx l sz pw wr ds ∧ Jv ds sz h ts ∧
  H q = some (.lst (txs us)) ∧ (∀ cs ∈ us, good cs) ∧ (encs us).length + 1 ≤ asz sz ∧ (∀ p, pw = some p → 0 ≤ p) ∧ (0 ≤ wr ∧ wr ≤ 1000000000) ∧
  ∀ (ok : Bool) (h' : Nat) (ds' : List Int) (pw' : Option Int) (wr' : Int) (H' : Hp), (pw = none → ok = true ∧ pw' = none) → (∀ p, pw' = some p → 0 ≤ p) → (0 ≤ wr' ∧ wr' ≤ wr + 200000) → Chg x l H H' → Dv K H' x dx l sz pw' wr' ds' → Jv ds' sz h' (if ok then us else ts) →
    (ok = true → Q .non H') ∧ (ok = false → ∀ d, E (.ref (He.ga K "PowerCut")) (some d) H')
theorem len_Journal_rewrite {K : PySem.W.Frag} {vs : List V} {H : Hp} {Q : VK} {E : XK} (h : sp_Journal_rewrite K vs H Q E) : vs.length = 2 := by obtain ⟨_, _, _, _, _, _, _, _, _, _, _, _, _, rfl, _⟩ := h; rfl
def sp__law_sign (K : PySem.W.Frag) : Sp := fun vs H Q _ => ∃ k : Int, vs = [.int k] ∧ ∀ c ∈ sgn, Q (.str (S [c])) H
def sp__law_word (K : PySem.W.Frag) : Sp := fun vs H Q _ => ∃ (b d : Addr) (p : Int) (dg : List Int) (m : Nat), vs = [.ref b, .int m] ∧ H b = some (.lst [.ref d, .int p]) ∧ H d = some (.lst (nums dg)) ∧ 0 ≤ p ∧ m ≤ 1000 ∧
  ∀ (p' : Int) (cs : List Nat), 0 ≤ p' → good cs → cs.length ≤ m → Q (.str (S cs)) (upd H b (.lst [.ref d, .int p']))
def sp__law_words (K : PySem.W.Frag) : Sp := fun vs H Q _ => ∃ (b d : Addr) (p : Int) (dg : List Int) (n m : Nat), vs = [.ref b, .int n, .int m] ∧ H b = some (.lst [.ref d, .int p]) ∧ H d = some (.lst (nums dg)) ∧ 0 ≤ p ∧ m ≤ 1000 ∧ n ≤ 1000 ∧
  ∀ (q : Addr) (p' : Int) (us : List (List Nat)), H q = none → 0 ≤ p' → us.length ≤ n → (∀ cs ∈ us, good cs ∧ cs.length ≤ m) → Q (.ref q) (upd (upd H q (.lst (txs us))) b (.lst [.ref d, .int p']))
def sp__law_records (K : PySem.W.Frag) : Sp := sp_Journal_texts K
theorem len__law_sign {K : PySem.W.Frag} {vs : List V} {H : Hp} {Q : VK} {E : XK} (h : sp__law_sign K vs H Q E) : vs.length = 1 := by obtain ⟨_, rfl, _⟩ := h; rfl
theorem len__law_word {K : PySem.W.Frag} {vs : List V} {H : Hp} {Q : VK} {E : XK} (h : sp__law_word K vs H Q E) : vs.length = 2 := by obtain ⟨_, _, _, _, _, rfl, _⟩ := h; rfl
theorem len__law_words {K : PySem.W.Frag} {vs : List V} {H : Hp} {Q : VK} {E : XK} (h : sp__law_words K vs H Q E) : vs.length = 3 := by obtain ⟨_, _, _, _, _, _, rfl, _⟩ := h; rfl
theorem len__law_records {K : PySem.W.Frag} {vs : List V} {H : Hp} {Q : VK} {E : XK} (h : sp__law_records K vs H Q E) : vs.length = 1 := len_Journal_texts h
/-- the device's numbers when n of a new journal's three bytes are written -/
def fmt (n : Nat) (ds : List Int) : List Int := match n with
  | 0 => ds
  | 1 => blit ds 0 [0]
  | 2 => blit (blit ds 0 [0]) 1 [0]
  | _ => blit (blit (blit ds 0 [0]) 1 [0]) 0 [1]
def sp_format_device (K : PySem.W.Frag) : Sp := fun vs H Q E => ∃ (x dx l : Addr) (sz : Nat) (wr : Int) (pw : Option Int) (ds : List Int), vs = [.ref x] ∧ Dv K H x dx l sz pw wr ds ∧ (∀ p, pw = some p → 0 ≤ p) ∧ (0 ≤ wr ∧ wr ≤ 1000000000) ∧
  (sz < 3 → ∀ d H', Ext H H' → H d = none → H' d = some (.xd [("reason", .str "journal is full")]) → E (.ref (He.ga K "LimitError")) (some d) H') ∧
  (3 ≤ sz → ∀ n H', n = bears pw 3 → Chg x l H H' → Dv K H' x dx l sz (pw.map (· - (n : Int))) (wr + n) (fmt n ds) →
    (n = 3 → ∀ j jdx, H j = none → H' j = some (jI K jdx x) → Q (.ref j) H') ∧ (n < 3 → ∀ d fs, H d = none → H' d = some (.xd fs) → E (.ref (He.ga K "PowerCut")) (some d) H'))
theorem len_format_device {K : PySem.W.Frag} {vs : List V} {H : Hp} {Q : VK} {E : XK} (h : sp_format_device K vs H Q E) : vs.length = 1 := by obtain ⟨_, _, _, _, _, _, _, rfl, _⟩ := h; rfl
def t_byte_of (K : PySem.W.Frag) : TS := tRet (tOp rAddI (tBM K "str" rFind1 (tC (.str "\n\t !\"#$&'()*+,-./0123456789:;<=>?@ABCDEFGHIJKLMNOPQRSTUVWXYZ[\\]^_`abcdefghijklmnopqrstuvwxyz{|}~")) (tCons (tVar 0) (tNil))) (tC (.int 1)))
def t_bytes_of (K : PySem.W.Frag) : TS := tRet (tLc (iStr (tVar 0)) (gName 1) (tYes) (tCall (sp_byte_of K) [] E0 (tCons (tVar 1) (tNil))) [1])
def t_text_of (K : PySem.W.Frag) : TS := tRet (tM1 (rJoin1 K) (tC (.str "")) (tLc (iList K (tVar 0)) (gName 1) (tYes) (tOp rIxS (tC (.str "\n\t !\"#$&'()*+,-./0123456789:;<=>?@ABCDEFGHIJKLMNOPQRSTUVWXYZ[\\]^_`abcdefghijklmnopqrstuvwxyz{|}~")) (tOp rSubI (tVar 1) (tC (.int 1)))) [1]))
def t_area_size (K : PySem.W.Frag) : TS := tRet (tOp rDivI (tOp rSubI (tFld K (tVar 0) "size") (tC (.int 1))) (tC (.int 2)))
def t_area_start (K : PySem.W.Frag) : TS := tRet (tOp rAddI (tC (.int 1)) (tOp rMulI (tOp rSubI (tVar 1) (tC (.int 1))) (tCall (sp_area_size K) [] E0 (tCons (tVar 0) (tNil)))))
def t_valid_area (K : PySem.W.Frag) : TS := tSeq (tAsg (tOp (rIxL K) (tFld K (tVar 0) "data") (tC (.int 0))) (gName 1)) (tSeq (tIfS (tOr (tTest (tOp rEq (tVar 1) (tC (.int 1)))) (tTest (tOp rEq (tVar 1) (tC (.int 2))))) (tRet (tVar 1)) (tNext)) (tRet (tC .non)))
def t_record_bytes (K : PySem.W.Frag) : TS := tSeq (tAsg (tCB rLenT (tCons (tVar 0) (tNil))) (gName 1)) (tRet (tOp rCat (tLst (tCons (tC (.int 1)) (tCons (tOp rModI (tVar 1) (tC (.int 256))) (tCons (tOp rDivI (tVar 1) (tC (.int 256))) (tNil))))) (tCall (sp_bytes_of K) [] E0 (tCons (tVar 0) (tNil)))))
def t_read_records_b1 (K : PySem.W.Frag) : TS := tSeq (tAsg (tOp rAddI (tOp (rIxL K) (tFld K (tVar 0) "data") (tOp rAddI (tVar 2) (tC (.int 1)))) (tOp rMulI (tC (.int 256)) (tOp (rIxL K) (tFld K (tVar 0) "data") (tOp rAddI (tVar 2) (tC (.int 2)))))) (gName 4)) (tSeq (tDrop (tBM K "list" rAppend (tVar 3) (tCons (tCall (sp_text_of K) [] E0 (tCons (tMeth (He.ga K "Device") "read" (sp_Device_read K) [] E0 (tVar 0) (tCons (tOp rAddI (tVar 2) (tC (.int 3))) (tCons (tVar 4) (tNil)))) (tNil))) (tNil)))) (tAug 2 (tOp rAddI (tC (.int 3)) (tVar 4)) (ipI fun i j => i + j)))
def t_read_records_r2 (K : PySem.W.Frag) : TS := tRet (tTup (tCons (tVar 3) (tCons (tVar 2) (tNil))))
def t_read_records (K : PySem.W.Frag) : TS := tSeq (tAsg (tCall (sp_area_start K) [] E0 (tCons (tVar 0) (tCons (tVar 1) (tNil)))) (gName 2)) (tSeq (tAsg (tLst (tNil)) (gName 3)) (tSeq (tWhile (tTest (tOp rEq (tOp (rIxL K) (tFld K (tVar 0) "data") (tVar 2)) (tC (.int 1)))) (t_read_records_b1 K)) (t_read_records_r2 K)))
def t_format_device (K : PySem.W.Frag) (W : WX) : TS := tSeq (tIfS (tTest (tOp rLtI (tFld K (tVar 0) "size") (tC (.int 3)))) (tRaiseW (He.ga K "LimitError") (sp_LimitError_init K) [] (tCons (tC (.str "journal is full")) (tNil)) W) (tNext)) (tSeq (tDrop (tMethW (He.ga K "Device") "write" (sp_Device_write K) [] W (tVar 0) (tCons (tC (.int 0)) (tCons (tLst (tCons (tC (.int 0)) (tNil))) (tNil))))) (tSeq (tDrop (tMethW (He.ga K "Device") "write" (sp_Device_write K) [] W (tVar 0) (tCons (tCall (sp_area_start K) [] E0 (tCons (tVar 0) (tCons (tC (.int 1)) (tNil)))) (tCons (tLst (tCons (tC (.int 0)) (tNil))) (tNil))))) (tSeq (tDrop (tMethW (He.ga K "Device") "write" (sp_Device_write K) [] W (tVar 0) (tCons (tC (.int 0)) (tCons (tLst (tCons (tC (.int 1)) (tNil))) (tNil))))) (tRet (tMake (He.ga K "Journal") (sp_Journal_init K) [] E0 (tCons (tVar 0) (tNil)))))))
def t_Journal_init (K : PySem.W.Frag) : TS := sFld K (tVar 0) (tVar 1) "device"
def t_Journal_texts (K : PySem.W.Frag) : TS := tSeq (tAsg (tCall (sp_read_records K) [] E0 (tCons (tFld K (tVar 0) "device") (tCons (tCall (sp_valid_area K) [] E0 (tCons (tFld K (tVar 0) "device") (tNil))) (tNil)))) (gTup K 2 (gCons (gName 1) (gCons (gName 2) (gNil))))) (tRet (tVar 1))
def t_Journal_room (K : PySem.W.Frag) : TS := tSeq (tAsg (tCall (sp_valid_area K) [] E0 (tCons (tFld K (tVar 0) "device") (tNil))) (gName 1)) (tSeq (tAsg (tCall (sp_read_records K) [] E0 (tCons (tFld K (tVar 0) "device") (tCons (tVar 1) (tNil)))) (gTup K 2 (gCons (gName 2) (gCons (gName 3) (gNil))))) (tSeq (tAsg (tOp rAddI (tCall (sp_area_start K) [] E0 (tCons (tFld K (tVar 0) "device") (tCons (tVar 1) (tNil)))) (tCall (sp_area_size K) [] E0 (tCons (tFld K (tVar 0) "device") (tNil)))) (gName 4)) (tRet (tOp rSubI (tOp rSubI (tOp rSubI (tVar 4) (tVar 3)) (tC (.int 3))) (tC (.int 1))))))
def t_Journal_write_record (K : PySem.W.Frag) (W : WX) : TS := tSeq (tIfS (tTest (tOp rGtI (tCB rLenT (tCons (tVar 1) (tNil))) (tMeth (He.ga K "Journal") "room" (sp_Journal_room K) [] E0 (tVar 0) tNil))) (tRaiseW (He.ga K "LimitError") (sp_LimitError_init K) [] (tCons (tC (.str "journal is full")) (tNil)) W) (tNext)) (tSeq (tAsg (tCall (sp_read_records K) [] E0 (tCons (tFld K (tVar 0) "device") (tCons (tCall (sp_valid_area K) [] E0 (tCons (tFld K (tVar 0) "device") (tNil))) (tNil)))) (gTup K 2 (gCons (gName 2) (gCons (gName 3) (gNil))))) (tSeq (tAsg (tCall (sp_record_bytes K) [] E0 (tCons (tVar 1) (tNil))) (gName 4)) (tSeq (tDrop (tMethW (He.ga K "Device") "write" (sp_Device_write K) [] W (tFld K (tVar 0) "device") (tCons (tOp rAddI (tVar 3) (tC (.int 1))) (tCons (tOp rCat (tSl (rSlL K) (tVar 4) (tPart (tC (.int 1))) (tNoPart)) (tLst (tCons (tC (.int 0)) (tNil)))) (tNil))))) (tDrop (tMethW (He.ga K "Device") "write" (sp_Device_write K) [] W (tFld K (tVar 0) "device") (tCons (tVar 3) (tCons (tLst (tCons (tC (.int 1)) (tNil))) (tNil))))))))
def t_Journal_rewrite_b1 (K : PySem.W.Frag) (W : WX) : TS := tAsg (tOp rCat (tVar 3) (tCall (sp_record_bytes K) [] E0 (tCons (tVar 4) (tNil)))) (gName 3)
def t_Journal_rewrite_r2 (K : PySem.W.Frag) (W : WX) : TS := tSeq (tDrop (tBM K "list" rAppend (tVar 3) (tCons (tC (.int 0)) (tNil)))) (tSeq (tIfS (tTest (tOp rGtI (tCB (rLenS K) (tCons (tVar 3) (tNil))) (tCall (sp_area_size K) [] E0 (tCons (tFld K (tVar 0) "device") (tNil))))) (tRaiseW (He.ga K "LimitError") (sp_LimitError_init K) [] (tCons (tC (.str "journal is full")) (tNil)) W) (tNext)) (tSeq (tDrop (tMethW (He.ga K "Device") "write" (sp_Device_write K) [] W (tFld K (tVar 0) "device") (tCons (tCall (sp_area_start K) [] E0 (tCons (tFld K (tVar 0) "device") (tCons (tVar 2) (tNil)))) (tCons (tVar 3) (tNil))))) (tDrop (tMethW (He.ga K "Device") "write" (sp_Device_write K) [] W (tFld K (tVar 0) "device") (tCons (tC (.int 0)) (tCons (tLst (tCons (tVar 2) (tNil))) (tNil)))))))
def t_Journal_rewrite (K : PySem.W.Frag) (W : WX) : TS := tSeq (tAsg (tOp rSubI (tC (.int 3)) (tCall (sp_valid_area K) [] E0 (tCons (tFld K (tVar 0) "device") (tNil)))) (gName 2)) (tSeq (tAsg (tLst (tNil)) (gName 3)) (tSeq (tFor (iList K (tVar 1)) (gName 4) (t_Journal_rewrite_b1 K W)) (t_Journal_rewrite_r2 K W)))
def t__law_sign (K : PySem.W.Frag) : TS := tSeq (tAsg (tC (.str "\n\t !\"#$&'()*+,-./0123456789:;<=>?@ABCDEFGHIJKLMNOPQRSTUVWXYZ[\\]^_`abcdefghijklmnopqrstuvwxyz{|}~")) (gName 1)) (tRet (tOp rIxS (tVar 1) (tOp rModI (tCB rIntC (tCons (tVar 0) (tNil))) (tC (.int 96)))))
def t__law_word (K : PySem.W.Frag) : TS := tSeq (tAsg (tC (.str "")) (gName 2)) (tSeq (tFor (iRng1 (tCons (tCall (sp__law_draw K) [] E0 (tCons (tVar 0) (tCons (tOp rAddI (tVar 1) (tC (.int 1))) (tNil)))) (tNil))) (gName 3) (tAsg (tOp rAddT (tVar 2) (tCall (sp__law_sign K) [] E0 (tCons (tCall (sp__law_draw K) [] E0 (tCons (tVar 0) (tCons (tC (.int 96)) (tNil)))) (tNil)))) (gName 2))) (tRet (tVar 2)))
def t__law_words (K : PySem.W.Frag) : TS := tSeq (tAsg (tLst (tNil)) (gName 3)) (tSeq (tFor (iRng1 (tCons (tCall (sp__law_draw K) [] E0 (tCons (tVar 0) (tCons (tOp rAddI (tVar 1) (tC (.int 1))) (tNil)))) (tNil))) (gName 4) (tDrop (tBM K "list" rAppend (tVar 3) (tCons (tCall (sp__law_word K) [] E0 (tCons (tVar 0) (tCons (tVar 2) (tNil)))) (tNil))))) (tRet (tVar 3)))
def t__law_records_b1 (K : PySem.W.Frag) : TS := tIfS (tNot (tB (tCB (rIsi K) (tCons (tVar 2) (tCons (tC (.ty "str")) (tNil)))))) (tRet (tC .non)) (tNext)
def t__law_records_r2 (K : PySem.W.Frag) : TS := tRet (tVar 1)
def t__law_records (K : PySem.W.Frag) : TS := tSeq (tAsg (tMeth (He.ga K "Journal") "texts" (sp_Journal_texts K) [] E0 (tVar 0) tNil) (gName 1)) (tSeq (tIfS (tNot (tB (tCB (rIsi K) (tCons (tVar 1) (tCons (tC (.ty "list")) (tNil)))))) (tRet (tC .non)) (tNext)) (tSeq (tFor (iList K (tVar 1)) (gName 2) (t__law_records_b1 K)) (t__law_records_r2 K)))
theorem Ext.refl {H : Hp} : Ext H H := fun _ _ h => h
theorem Ext.trans {H H1 H2 : Hp} (a : Ext H H1) (b : Ext H1 H2) : Ext H H2 := fun x o h => b x o (a x o h)
theorem Ext.new {H H1 : Hp} {l : Addr} {o : HO} (a : Ext H H1) (hl : H l = none) : Ext H (upd H1 l o) := fun x u h => by
  rw [upd_ne (ne_of_none h hl)]
  exact a x u h
theorem Ext.off {H H1 : Hp} {l : Addr} (a : Ext H H1) (hl : H1 l = none) : H l = none := by
  cases e : H l with
  | none => rfl
  | some o => rw [a l o e] at hl; cases hl
theorem sgn_S : S sgn = SG := SX.S_tl SG
theorem sgn_find : sgn.all (fun c => decide (Txt.find SG (S [c]) = ((bt c : Nat) : Int) - 1)) = true := by decide +kernel
theorem sgn_len : sgn.length = 96 := by decide +kernel
theorem bt_find {c : Nat} (h : c ∈ sgn) : Txt.find SG (S [c]) + 1 = ((bt c : Nat) : Int) := by
  have := of_decide_eq_true (List.all_eq_true.mp sgn_find c h)
  omega
theorem bt_at {c : Nat} (h : c ∈ sgn) : atI SG.cps.toList (((bt c : Nat) : Int) - 1) = some c := by
  have h1 : sgn.idxOf c < sgn.length := List.idxOf_lt_length_of_mem h
  show atI sgn _ = some c
  have e : (((bt c : Nat) : Int) - 1) = (sgn.idxOf c : Nat) := by
    unfold bt
    omega
  rw [e]
  refine atI_nat ?_
  rw [List.getElem?_eq_getElem h1, List.getElem_idxOf h1]
theorem pure_byte_of {K : PySem.W.Frag} (vs : List V) (H : Hp) (Q : VK) (E : XK) (h : sp_byte_of K vs H Q E) : t_byte_of K { nx := fun _ H' => Q .non H', rt := Q } (start ["sign"] vs) H := by
  obtain ⟨c, rfl, hc, hQ⟩ := h
  refine ⟨rfl, _, rfl, SG, _, rfl, rfl, _, _, rfl, rfl, ?_⟩
  show Q (.int (Txt.find SG (S [c]) + 1)) H
  rw [bt_find hc]
  exact hQ
theorem pure_bytes_of {K : PySem.W.Frag} (vs : List V) (H : Hp) (Q : VK) (E : XK) (h : sp_bytes_of K vs H Q E) : t_bytes_of K { nx := fun _ H' => Q .non H', rt := Q } (start ["text", "sign"] vs) H := by
  obtain ⟨cs, rfl, hc, hQ⟩ := h
  refine ⟨_, rfl, S cs, rfl, ?_⟩
  refine str_lc (fun L i H' => H' = upd H L (.lst (nums (bts (cs.take i))))) (fun L hL => by rw [List.take_zero]; rfl) ?_ ?_
  · rintro L i H' c hx rfl
    have hx : cs[i]? = some c := by simpa using hx
    refine ⟨_, rfl, c, rfl, hc.1 c (List.mem_of_getElem? hx), _, upd_same, ?_, ?_⟩
    · have := hc.2
      rw [List.length_map, sizeLine_eq]
      unfold bts
      rw [List.length_map, List.length_take]
      omega
    · rw [upd_upd, nums_snoc]
      unfold bts
      rw [← take_snoc' hx, List.map_append]
      simp [nums]
  · rintro L H' hL rfl
    have e : (S cs).cps.size = cs.length := SX.S_len cs
    rw [e, List.take_length]
    exact hQ L hL
theorem asz_int {sz : Nat} (h : 1 ≤ sz) : ((sz : Int) - 1) / 2 = (asz sz : Nat) := by
  unfold asz
  omega
theorem pure_area_size {K : PySem.W.Frag} (D : ClsA K "Device" ["data", "size", "power", "written"]) (vs : List V) (H : Hp) (Q : VK) (E : XK) (h : sp_area_size K vs H Q E) : t_area_size K { nx := fun _ H' => Q .non H', rt := Q } (start ["device"] vs) H := by
  obtain ⟨x, dx, l, sz, wr, pw, rfl, hx, h1, hQ⟩ := h
  refine ⟨_, rfl, x, _, dx, _, _, rfl, hx, D.1, D.2 _ (by decide), rfl, _, _, rfl, rfl, _, _, rfl, rfl, ⟨by decide, by decide⟩, ?_⟩
  show Q (.int (((sz : Int) - 1) / 2)) H
  rw [asz_int h1]
  exact hQ
theorem pure_area_start {K : PySem.W.Frag} (D : ClsA K "Device" ["data", "size", "power", "written"]) (vs : List V) (H : Hp) (Q : VK) (E : XK) (h : sp_area_start K vs H Q E) : t_area_start K { nx := fun _ H' => Q .non H', rt := Q } (start ["device", "number"] vs) H := by
  obtain ⟨x, dx, l, sz, k, wr, pw, rfl, hx, h1, hk, hQ⟩ := h
  refine ⟨_, rfl, _, _, rfl, rfl, _, rfl, x, dx, l, sz, wr, pw, rfl, hx, h1, _, _, rfl, rfl, Or.inl (by omega), _, _, rfl, rfl, ?_⟩
  have e : (1 : Int) + ((k : Int) - 1) * (asz sz : Nat) = (ast sz k : Nat) := by
    unfold ast
    rcases hk with rfl | rfl
    · simp
    · simp
  show Q (.int ((1 : Int) + ((k : Int) - 1) * (asz sz : Nat))) H
  rw [e]
  exact hQ
theorem pure_valid_area {K : PySem.W.Frag} (D : ClsA K "Device" ["data", "size", "power", "written"]) (vs : List V) (H : Hp) (Q : VK) (E : XK) (h : sp_valid_area K vs H Q E) : t_valid_area K { nx := fun _ H' => Q .non H', rt := Q } (start ["device", "header"] vs) H := by
  obtain ⟨x, dx, l, sz, wr, pw, ds, k, rfl, hx, hl, hk, hQ⟩ := h
  refine ⟨_, rfl, x, _, dx, _, _, rfl, hx, D.1, D.2 _ (by decide), rfl, l, _, _, _, rfl, rfl, SqL.of hl, at_eq (j := 0) rfl hk, ?_⟩
  refine ⟨_, rfl, rfl, _, rfl, ?_⟩
  refine iteD (fun z => ?_) fun z => ?_
  · have z : k = 1 := V.int.inj z
    rw [if_pos (Or.inl z)] at hQ
    exact ⟨_, rfl, hQ⟩
  · refine ⟨_, rfl, rfl, _, rfl, ?_⟩
    refine iteD (fun y => ?_) fun y => ?_
    · have y : k = 2 := V.int.inj y
      rw [if_pos (Or.inr y)] at hQ
      exact ⟨_, rfl, hQ⟩
    · rw [if_neg (fun w => w.elim (fun e => z (congrArg V.int e)) fun e => y (congrArg V.int e))] at hQ
      exact hQ
theorem pure_record_bytes {K : PySem.W.Frag} (vs : List V) (H : Hp) (Q : VK) (E : XK) (h : sp_record_bytes K vs H Q E) : t_record_bytes K { nx := fun _ H' => Q .non H', rt := Q } (start ["text", "many"] vs) H := by
  obtain ⟨cs, rfl, hc, hQ⟩ := h
  have hl := hc.2
  refine ⟨_, rfl, S cs, rfl, by rw [SX.S_len, sizeLine_eq]; omega, ?_⟩
  refine ⟨_, rfl, _, _, rfl, rfl, (by show (0 : Int) < 256; decide), _, rfl, _, _, rfl, rfl, ⟨by decide, by decide⟩, by rw [sizeLine_eq]; show 3 ≤ 16777216; decide, fun p hp => ?_⟩
  refine ⟨_, rfl, cs, rfl, hc, fun b hb => ?_⟩
  have hbp : b ≠ p := fun z => by
    rw [z, upd_same] at hb
    cases hb
  refine ⟨p, b, _, _, rfl, rfl, by rw [upd_ne (Ne.symm hbp)]; exact upd_same, upd_same, ?_, fun q hq => ?_⟩
  · show 3 + (nums (bts cs)).length ≤ _
    rw [List.length_map, sizeLine_eq]
    unfold bts
    rw [List.length_map]
    omega
  · have hb0 : H b = none := by rw [upd_ne hbp] at hb; exact hb
    have ex : Ext H (upd (upd H p (.lst [.int 1, .int (((S cs).length : Int) % 256), .int (((S cs).length : Int) / 256)])) b (.lst (nums (bts cs)))) := (Ext.refl.new hp).new hb0
    refine hQ q _ (ex.new (ex.off hq)) (ex.off hq) ?_
    rw [upd_same]
    congr 2
theorem joinL_one : ∀ cs : List Nat, TL.joinL [] (cs.map fun c => [c]) = cs
  | [] => rfl
  | [c] => rfl
  | c :: d :: cs => by
    have ih := joinL_one (d :: cs)
    simp only [List.map_cons] at ih ⊢
    rw [show TL.joinL [] ([c] :: [d] :: cs.map fun c => [c]) = [c] ++ [] ++ TL.joinL [] ([d] :: cs.map fun c => [c]) from rfl, ih]
    rfl
theorem pure_text_of {K : PySem.W.Frag} (vs : List V) (H : Hp) (Q : VK) (E : XK) (h : sp_text_of K vs H Q E) : t_text_of K { nx := fun _ H' => Q .non H', rt := Q } (start ["row", "byte"] vs) H := by
  obtain ⟨r, cs, rfl, hc, hr, hQ⟩ := h
  have hl := hc.2
  refine ⟨⟨_, rfl⟩, _, rfl, r, rfl, ⟨_, SqL.of hr⟩, ?_⟩
  refine lst_lc (nums (bts cs)) (fun L i H' => H L = none ∧ H' = upd H L (.lst ((cs.take i).map fun c => V.str (S [c])))) (fun L i H' h => SqL.of (by rw [h.2, upd_ne (ne_of_none hr h.1)]; exact hr)) (fun L hL => ⟨hL, by rw [List.take_zero]; rfl⟩) ?_ ?_
  · rintro L i H' x hx ⟨h1, rfl⟩
    obtain ⟨z, hz, rfl⟩ := nums_get hx
    obtain ⟨c, hcc, rfl⟩ : ∃ c, cs[i]? = some c ∧ z = ((bt c : Nat) : Int) := by
      unfold bts at hz
      rw [List.getElem?_map] at hz
      cases e : cs[i]? with
      | none => rw [e] at hz; cases hz
      | some c => rw [e] at hz; cases hz; exact ⟨c, rfl, rfl⟩
    refine ⟨_, rfl, _, _, rfl, rfl, SG, _, c, rfl, rfl, by rw [sizeLine_eq]; decide +kernel, bt_at (hc.1 c (List.mem_of_getElem? hcc)), _, upd_same, ?_, h1, ?_⟩
    · rw [List.length_map, List.length_take, sizeLine_eq]
      omega
    · rw [upd_upd, ← take_snoc' hcc, List.map_append]
      rfl
  · rintro L H' hL ⟨h1, rfl⟩
    have e0 : (nums (bts cs)).length = cs.length := by
      unfold bts
      rw [List.length_map, List.length_map]
    rw [e0, List.take_length]
    have e : Txt.join "" (cs.map fun c => S [c]) = S cs := by
      have z := SX.join_S [] (cs.map fun c => [c])
      rw [joinL_one, List.map_map] at z
      exact z
    refine ⟨"", L, cs.map fun c => S [c], rfl, rfl, Or.inl (SqL.of (by rw [upd_same, List.map_map]; rfl)), ?_, ?_⟩
    · have e2 : ((cs.map fun c => S [c]).map (·.length)).sum = cs.length := by
        rw [List.map_map]
        clear hc hr hQ hl h1 hL e0 e
        induction cs with
        | nil => rfl
        | cons c cs ih =>
          rw [List.map_cons, List.sum_cons, ih, List.length_cons]
          show 1 + cs.length = _
          omega
      rw [e2, show ("" : Str).length = 0 by decide +kernel]
      omega
    · rw [e]
      exact hQ _ (Ext.refl.new h1)
theorem pure_LimitError_init {K : PySem.W.Frag} (T : OexC K (He.ga K "LimitError")) (no : ∀ f ∈ (["reason"] : List Str), PySem.W.findIn K (.ref (He.ga K "LimitError")) f = some none) (vs : List V) (H : Hp) (Q : VK) (E : XK) (h : sp_LimitError_init K vs H Q E) :
    ∃ a, vs[0]? = some (.ref a) ∧ H a = some (exo a (He.ga K "LimitError") none) ∧ tCons (tVar 1) tNil (startF ["self", "reason", "__class__"] vs [some (.ref (He.ga K "LimitError"))]) H fun us H1 => us.length ≤ 1000 ∧ H1 a = some (exo a (He.ga K "LimitError") none) ∧
      tOst K "reason" (tVar 0) (tVar 1) { nx := fun _ H' => Q .non H', rt := Q } (startF ["self", "reason", "__class__"] vs [some (.ref (He.ga K "LimitError"))]) H1 := by
  obtain ⟨a, z, rfl, hx, hQ⟩ := h
  exact ⟨a, rfl, hx, _, rfl, by show (1 : Nat) ≤ 1000; decide, hx, _, rfl, _, rfl, a, _, rfl, T, no _ (by decide), Or.inl ⟨hx, fun dx h1 h2 => hQ dx h1 h2⟩⟩
theorem pure_Journal_init {K : PySem.W.Frag} (J : ClsA K "Journal" ["device"]) (vs : List V) (H : Hp) (Q : VK) (E : XK) (h : sp_Journal_init K vs H Q E) : t_Journal_init K { nx := fun _ H' => Q .non H', rt := Q } (start ["self", "device"] vs) H := by
  obtain ⟨j, jdx, x, rfl, hj, hQ⟩ := h
  exact ⟨_, rfl, _, rfl, _, _, _, _, rfl, hj, J.1, J.2 _ (by decide), (by show (0 : Nat) < 1000; decide), hQ⟩
theorem encs_split {ts : List (List Nat)} (i : Nat) : encs ts = encs (ts.take i) ++ encs (ts.drop i) := by
  unfold encs
  rw [← List.flatMap_append, List.take_append_drop]
theorem Ar.at {ds : List Int} {s : Nat} {ts : List (List Nat)} {r : List Int} (h : ds.drop s = encs ts ++ 0 :: r) (i : Nat) : ds.drop (s + (encs (ts.take i)).length) = encs (ts.drop i) ++ 0 :: r := by
  have e : ds.drop (s + (encs (ts.take i)).length) = (ds.drop s).drop (encs (ts.take i)).length := by rw [List.drop_drop]
  have e2 : encs ts = encs (ts.take i) ++ encs (ts.drop i) := encs_split i
  rw [e, h, e2, List.append_assoc, List.drop_left]
theorem drop_get {ds e : List Int} {p : Nat} (h : ds.drop p = e) (j : Nat) : ds[p + j]? = e[j]? := by
  rw [← h, List.getElem?_drop]
theorem encs_snoc (ts : List (List Nat)) (cs : List Nat) : encs (ts ++ [cs]) = encs ts ++ enc cs := by simp [encs]
theorem enc_length (cs : List Nat) : (enc cs).length = cs.length + 3 := by
  unfold enc bts
  rw [List.length_append, List.length_map]
  show 3 + cs.length = _
  omega
theorem Ext.upd_new {H H' : Hp} {q : Addr} {o : HO} (h : Ext H H') (hq : H q = none) : Ext H (upd H' q o) := h.new hq
theorem pure_read_records {K : PySem.W.Frag} (D : ClsA K "Device" ["data", "size", "power", "written"]) (vs : List V) (H : Hp) (Q : VK) (E : XK) (h : sp_read_records K vs H Q E) : t_read_records K { nx := fun _ H' => Q .non H', rt := Q } (start ["device", "number", "place", "texts", "many"] vs) H := by
  obtain ⟨x, dx, l, sz, h, wr, pw, ds, ts, rfl, hx, hl, hds, h1, h2, hh, ⟨hg, r, hr⟩, hQ⟩ := h
  refine ⟨_, rfl, _, rfl, x, dx, l, sz, h, wr, pw, rfl, hx, h1, hh, by decide, fun q hq => ?_⟩
  have hs : ast sz h = ast sz h := rfl
  refine ⟨fun m σ H' => ∃ i o4, i + m = ts.length ∧ σ = [some (.ref x), some (.int h), some (.int (ast sz h + (encs (ts.take i)).length : Nat)), some (.ref q), o4] ∧ Ext H H' ∧ H' q = some (.lst (txs (ts.take i))),
    ⟨ts.length, 0, none, by omega, rfl, Ext.refl.new hq, by rw [upd_same]; rfl⟩, ?_⟩
  rintro m _ H' ⟨i, o4, hi, rfl, hE, hqq⟩
  have hx' := hE _ _ hx
  have hl' := hE _ _ hl
  have at_ := Ar.at hr i
  by_cases hlt : i < ts.length
  · have hc : ts[i]? = some ts[i] := List.getElem?_eq_getElem hlt
    generalize ts[i] = cs at hc
    have gc := hg cs (List.mem_of_getElem? hc)
    have lc := gc.2
    have e1 : encs (ts.drop i) = enc cs ++ encs (ts.drop (i + 1)) := by
      rw [List.drop_eq_getElem?_toList_append, hc]
      simp [encs]
    rw [e1] at at_
    have b0 : ds[ast sz h + (encs (ts.take i)).length]? = some 1 := drop_get at_ 0
    have b1 : ds[ast sz h + (encs (ts.take i)).length + 1]? = some ((cs.length : Int) % 256) := drop_get at_ 1
    have b2 : ds[ast sz h + (encs (ts.take i)).length + 2]? = some ((cs.length : Int) / 256) := drop_get at_ 2
    have b3 : (ds.drop (ast sz h + (encs (ts.take i)).length + 3)).take cs.length = bts cs := by
      rw [← List.drop_drop, at_]
      show (bts cs ++ encs (ts.drop (i + 1)) ++ 0 :: r).take cs.length = _
      rw [List.append_assoc]
      have : cs.length = (bts cs).length := by unfold bts; rw [List.length_map]
      rw [this, List.take_left]
    refine ⟨_, rfl, x, _, dx, _, _, rfl, hx', D.1, D.2 _ (by decide), rfl, _, rfl, l, _, _, _, rfl, rfl, SqL.of hl', at_eq rfl b0, ⟨rfl, _, rfl, ?_⟩⟩
    refine iteD (fun _ => ?_) fun z => absurd rfl z
    refine ⟨fun σ H' => ∃ o4, σ = [some (.ref x), some (.int h), some (.int (ast sz h + (encs (ts.take (i + 1))).length : Nat)), some (.ref q), o4] ∧ Ext H H' ∧ H' q = some (.lst (txs (ts.take (i + 1)))), fun σ' H' ⟨o4, a1, a2, a3⟩ => ⟨m - 1, by omega, i + 1, o4, by omega, a1, a2, a3⟩, ?_⟩
    refine ⟨_, rfl, x, _, dx, _, _, rfl, hx', D.1, D.2 _ (by decide), rfl, _, rfl, _, _, rfl, rfl, l, _, _, _, rfl, rfl, SqL.of hl', at_eq (by omega) b1, ?_⟩
    refine ⟨_, rfl, x, _, dx, _, _, rfl, hx', D.1, D.2 _ (by decide), rfl, _, rfl, _, _, rfl, rfl, l, _, _, _, rfl, rfl, SqL.of hl', at_eq (by omega) b2, _, _, rfl, rfl, Or.inl (by decide), _, _, rfl, rfl, ?_⟩
    have em : (cs.length : Int) % 256 + 256 * ((cs.length : Int) / 256) = (cs.length : Nat) := by omega
    show gName 4 (.int ((cs.length : Int) % 256 + 256 * ((cs.length : Int) / 256))) _ _ _
    rw [em]
    have qx : q ≠ x := fun z => by rw [z, hx] at hq; cases hq
    refine ⟨_, rfl, Or.inl ⟨rfl, _, SqL.of hqq⟩, _, rfl, x, dx, _, rfl, hx', rfl, _, rfl, _, _, rfl, rfl, _, rfl, x, dx, l, ast sz h + (encs (ts.take i)).length + 3, cs.length, sz, wr, pw, ds, rfl, hx', hl', fun p hp => ?_⟩
    rw [b3]
    refine ⟨p, cs, rfl, gc, upd_same, fun H2 hE2 => ?_⟩
    have pq : q ≠ p := ne_of_none hqq hp
    have hq2 : H2 q = some (.lst (txs (ts.take i))) := hE2 _ _ (by rw [upd_ne pq]; exact hqq)
    refine ⟨q, _, _, rfl, rfl, hq2, ?_, ?_⟩
    · rw [List.length_map, List.length_take, sizeLine_eq]
      have e3 : (encs ts).length + 1 ≤ ds.length := by
        have z := congrArg List.length hr
        rw [List.length_drop, List.length_append, List.length_cons] at z
        omega
      have e4 : ts.length ≤ (encs ts).length := by
        clear hg hr hqq hlt hc e1 at_ b0 b1 b2 b3 hq2 e3 hQ hi
        induction ts with
        | nil => exact Nat.zero_le _
        | cons c ts ih =>
          have : encs (c :: ts) = enc c ++ encs ts := by simp [encs]
          rw [this, List.length_append, enc_length, List.length_cons]
          omega
      omega
    · have e5 : encs (ts.take (i + 1)) = encs (ts.take i) ++ enc cs := by rw [← take_snoc' hc, encs_snoc]
      refine ⟨_, rfl, _, rfl, _, _, rfl, rfl, _, _, rfl, rfl, some (.int cs.length), ?_, ?_, ?_⟩
      · have e6 : ((ast sz h + (encs (ts.take i)).length : Nat) : Int) + (3 + (cs.length : Int)) = (ast sz h + (encs (ts.take (i + 1))).length : Nat) := by
          rw [e5, List.length_append, enc_length]
          omega
        show [some (V.ref x), some (V.int h), some (V.int (((ast sz h + (encs (ts.take i)).length : Nat) : Int) + (3 + (cs.length : Int)))), some (V.ref q), some (V.int cs.length)] = _
        rw [e6]
      · exact ((hE.trans (Ext.refl.new hp)).trans hE2).new hq
      · rw [upd_same, ← take_snoc' hc]
        simp [txs]
  · obtain rfl : i = ts.length := by omega
    rw [List.drop_length] at at_
    have b0 : ds[ast sz h + (encs (ts.take ts.length)).length]? = some 0 := drop_get at_ 0
    refine ⟨_, rfl, x, _, dx, _, _, rfl, hx', D.1, D.2 _ (by decide), rfl, _, rfl, l, _, _, _, rfl, rfl, SqL.of hl', at_eq rfl b0, ⟨rfl, _, rfl, ?_⟩⟩
    refine iteD (fun z => absurd (V.int.inj z) (by decide)) fun _ => ?_
    rw [List.take_length] at hqq ⊢
    refine ⟨_, rfl, _, rfl, by rw [sizeLine_eq]; show 2 ≤ 16777216; decide, fun p hp => ?_⟩
    have hp0 := hE.off hp
    have pq : q ≠ p := ne_of_none hqq hp
    exact hQ p q _ (hE.new hp0) hq hp0 (Ne.symm pq) upd_same (by rw [upd_ne pq]; exact hqq)
theorem Dv.ext {K : PySem.W.Frag} {H H' : Hp} {x dx l : Addr} {sz : Nat} {pw : Option Int} {wr : Int} {ds : List Int} (d : Dv K H x dx l sz pw wr ds) (e : Ext H H') : Dv K H' x dx l sz pw wr ds := ⟨e _ _ d.hx, e _ _ d.hl, d.len, d.s1, d.s2⟩
theorem Ar.iff {ds : List Int} {s : Nat} {e : List Int} : (∃ r, ds.drop s = e ++ r) ↔ ∀ j, j < e.length → ds[s + j]? = e[j]? := by
  constructor
  · rintro ⟨r, h⟩ j hj
    rw [drop_get h, List.getElem?_append_left hj]
  · intro h
    have hp : e <+: ds.drop s := by
      rw [List.prefix_iff_getElem?]
      intro j hj
      rw [List.getElem?_drop, h j hj, List.getElem?_eq_getElem hj]
    obtain ⟨r, hr⟩ := hp
    exact ⟨r, hr.symm⟩
theorem Ar.pt {ds : List Int} {s : Nat} {ts : List (List Nat)} (h : Ar ds s ts) : ∀ j, j < (encs ts).length + 1 → ds[s + j]? = (encs ts ++ [0])[j]? := by
  obtain ⟨_, r, hr⟩ := h
  have := Ar.iff.mp ⟨r, show ds.drop s = (encs ts ++ [0]) ++ r by rw [hr]; simp⟩
  intro j hj
  exact this j (by simpa using hj)
theorem Ar.of {ds : List Int} {s : Nat} {ts : List (List Nat)} (hg : ∀ cs ∈ ts, good cs) (h : ∀ j, j < (encs ts).length + 1 → ds[s + j]? = (encs ts ++ [0])[j]?) : Ar ds s ts := by
  obtain ⟨r, hr⟩ := Ar.iff.mpr (fun j hj => h j (by simpa using hj))
  exact ⟨hg, r, by rw [hr]; simp⟩
theorem Ar.frame {ds ds' : List Int} {s : Nat} {ts : List (List Nat)} (h : Ar ds s ts) (k : ∀ j, s ≤ j → j ≤ s + (encs ts).length → ds'[j]? = ds[j]?) : Ar ds' s ts :=
  Ar.of h.1 fun j hj => by rw [k (s + j) (by omega) (by omega)]; exact h.pt j hj
theorem Dv.arg {K : PySem.W.Frag} {H : Hp} {x dx l : Addr} {sz h : Nat} {pw : Option Int} {wr : Int} {ds : List Int} {ts : List (List Nat)} (J : Jv ds sz h ts) : (if ((h : Int) = 1 ∨ (h : Int) = 2) then V.int h else V.non) = V.int h := by
  rw [if_pos]
  rcases J.h12 with e | e <;> omega
theorem area_in {sz h : Nat} (hh : h = 1 ∨ h = 2) (h1 : 1 ≤ sz) : ast sz h + asz sz ≤ sz := by
  unfold ast asz
  rcases hh with rfl | rfl
  · simp
    omega
  · simp
    omega
theorem pure_Journal_texts {K : PySem.W.Frag} (D : ClsA K "Device" ["data", "size", "power", "written"]) (J : ClsA K "Journal" ["device"]) (vs : List V) (H : Hp) (Q : VK) (E : XK) (h : sp_Journal_texts K vs H Q E) : t_Journal_texts K { nx := fun _ H' => Q .non H', rt := Q } (start ["self", "texts", "place"] vs) H := by
  obtain ⟨j, jdx, x, dx, l, sz, h, wr, pw, ds, ts, rfl, hj, d, jv, hQ⟩ := h
  refine ⟨_, rfl, j, _, jdx, _, _, rfl, hj, J.1, J.2 _ (by decide), rfl, _, rfl, j, _, jdx, _, _, rfl, hj, J.1, J.2 _ (by decide), rfl, x, dx, l, sz, wr, pw, ds, h, rfl, d.hx, d.hl, jv.hd, ?_⟩
  rw [Dv.arg (K := K) (H := H) (x := x) (dx := dx) (l := l) (pw := pw) (wr := wr) jv]
  refine ⟨x, dx, l, sz, h, wr, pw, ds, ts, rfl, d.hx, d.hl, d.len, d.s1, d.s2, jv.h12, jv.ar, fun p q H' hE hq hp hne h1 h2 => ?_⟩
  exact ⟨p, _, rfl, SqT.of h1, rfl, _, _, rfl, _, _, rfl, rfl, _, rfl, hQ q H' hE hq h2⟩
theorem pure_Journal_room {K : PySem.W.Frag} (D : ClsA K "Device" ["data", "size", "power", "written"]) (J : ClsA K "Journal" ["device"]) (vs : List V) (H : Hp) (Q : VK) (E : XK) (h : sp_Journal_room K vs H Q E) : t_Journal_room K { nx := fun _ H' => Q .non H', rt := Q } (start ["self", "number", "texts", "place", "end"] vs) H := by
  obtain ⟨j, jdx, x, dx, l, sz, h, wr, pw, ds, ts, rfl, hj, d, jv, hQ⟩ := h
  refine ⟨_, rfl, j, _, jdx, _, _, rfl, hj, J.1, J.2 _ (by decide), rfl, x, dx, l, sz, wr, pw, ds, h, rfl, d.hx, d.hl, jv.hd, ?_⟩
  rw [Dv.arg (K := K) (H := H) (x := x) (dx := dx) (l := l) (pw := pw) (wr := wr) jv]
  refine ⟨_, rfl, j, _, jdx, _, _, rfl, hj, J.1, J.2 _ (by decide), rfl, _, rfl, x, dx, l, sz, h, wr, pw, ds, ts, rfl, d.hx, d.hl, d.len, d.s1, d.s2, jv.h12, jv.ar, fun p q H' hE hq hp hne h1 h2 => ?_⟩
  have hj' := hE _ _ hj
  have d' := d.ext hE
  refine ⟨p, _, rfl, SqT.of h1, rfl, _, _, rfl, _, _, rfl, rfl, ?_⟩
  refine ⟨_, rfl, j, _, jdx, _, _, rfl, hj', J.1, J.2 _ (by decide), rfl, _, rfl, x, dx, l, sz, h, wr, pw, rfl, d'.hx, d.s1, jv.h12, ?_⟩
  refine ⟨_, rfl, j, _, jdx, _, _, rfl, hj', J.1, J.2 _ (by decide), rfl, x, dx, l, sz, wr, pw, rfl, d'.hx, d.s1, _, _, rfl, rfl, ?_⟩
  refine ⟨_, rfl, _, rfl, _, _, rfl, rfl, _, _, rfl, rfl, _, _, rfl, rfl, ?_⟩
  have e : ((ast sz h : Nat) : Int) + (asz sz : Nat) - ((ast sz h + (encs ts).length : Nat) : Int) - 3 - 1 = (asz sz : Int) - (encs ts).length - 3 - 1 := by omega
  show Q (.int (((ast sz h : Nat) : Int) + (asz sz : Nat) - ((ast sz h + (encs ts).length : Nat) : Int) - 3 - 1)) H'
  rw [e]
  exact hQ H' hE
theorem cut_from (xs : List V) (k : Nat) : cutV xs (some (k : Int)) none = xs.drop k := by
  unfold cutV
  rw [show HT.sIx xs.length 0 (some (k : Int)) = min k xs.length from HT.sIx_nat _ _ _, HT.sIx_none]
  by_cases h : k ≤ xs.length
  · rw [Nat.min_eq_left h, List.take_of_length_le (by rw [List.length_drop]; omega)]
  · rw [Nat.min_eq_right (by omega), List.drop_of_length_le (by omega), List.drop_of_length_le (by omega)]
    simp
theorem Chg.of_ext {x l : Addr} {H H' : Hp} (e : Ext H H') : Chg x l H H' := fun a o h _ _ => e a o h
theorem Chg.trans {x l : Addr} {H H1 H2 : Hp} (a : Chg x l H H1) (b : Chg x l H1 H2) : Chg x l H H2 := fun c o h n1 n2 => b c o (a c o h n1 n2) n1 n2
theorem Chg.dev {x l : Addr} {H : Hp} {o u : HO} : Chg x l H (upd (upd H l o) x u) := fun a v h n1 n2 => by rw [upd_ne n1, upd_ne n2]; exact h
theorem dev_ne {K : PySem.W.Frag} {H : Hp} {x dx l : Addr} {sz : Nat} {pw : Option Int} {wr : Int} {ds : List Int} (d : Dv K H x dx l sz pw wr ds) : x ≠ l := ne_of d.hx d.hl (fun z => nomatch z)
/-- the device behind a write -/
theorem Dv.wrote {K : PySem.W.Frag} {H : Hp} {x dx l : Addr} {sz : Nat} {pw : Option Int} {wr : Int} {ds : List Int} (d : Dv K H x dx l sz pw wr ds) {st n : Nat} {row : List Int} (h : st + row.length ≤ ds.length) {pw' : Option Int} {wr' : Int} :
    Dv K (upd (upd H l (.lst (nums (blit ds st (row.take n))))) x (devI K dx l sz pw' wr')) x dx l sz pw' wr' (blit ds st (row.take n)) :=
  ⟨upd_same, by rw [upd_ne (Ne.symm (dev_ne d))]; exact upd_same, by rw [blit_length (by rw [List.length_take]; omega)]; exact d.len, d.s1, d.s2⟩
theorem jI_dev {K : PySem.W.Frag} {H : Hp} {j jdx x y dx l : Addr} {sz : Int} {pw : Option Int} {wr : Int} (hj : H j = some (jI K jdx x)) (hy : H y = some (devI K dx l sz pw wr)) : j ≠ y := ne_of hj hy (fun z => by
  have := (HO.ins.inj z).2.2
  cases this)
theorem bears_le (pw : Option Int) (n : Nat) : bears pw n ≤ n := by
  unfold bears
  split <;> omega
theorem bears_ok {pw : Option Int} {n : Nat} (hp : ∀ p, pw = some p → 0 ≤ p) : ∀ p, pw.map (· - ((bears pw n : Nat) : Int)) = some p → 0 ≤ p := by
  intro p h
  cases pw with
  | none => cases h
  | some q =>
    have := hp q rfl
    have e : q - ((min q.toNat n : Nat) : Int) = p := Option.some.inj h
    omega
/-- the end of the records stands; what is behind it doesn't matter -/
theorem Ar.behind {ds : List Int} {s : Nat} {ts : List (List Nat)} (h : Ar ds s ts) {st : Nat} {row : List Int} (hst : s + (encs ts).length < st) (hl : st + row.length ≤ ds.length) : Ar (blit ds st row) s ts :=
  h.frame fun j h1 h2 => by rw [blit_get hl, if_pos (by omega)]
theorem Ar.wrote {ds : List Int} {s : Nat} {ts : List (List Nat)} {cs : List Nat} (h : Ar ds s ts) (gc : good cs) (hl : s + (encs ts).length + cs.length + 4 ≤ ds.length) :
    Ar (blit (blit ds (s + (encs ts).length + 1) ((enc cs).drop 1 ++ [0])) (s + (encs ts).length) [1]) s (ts ++ [cs]) := by
  have l1 : ((enc cs).drop 1 ++ [0]).length = cs.length + 3 := by
    rw [List.length_append, List.length_drop, enc_length]
    simp
  refine Ar.of (fun c hc => ?_) fun j hj => ?_
  · rcases List.mem_append.mp hc with hc | hc
    · exact h.1 c hc
    · obtain rfl := List.mem_singleton.mp hc
      exact gc
  rw [encs_snoc, List.length_append, enc_length] at hj
  have l2 : ([1] : List Int).length = 1 := rfl
  rw [blit_get (by rw [blit_length (by omega)]; show _ + 1 ≤ _; omega), blit_get (by omega), l1, l2, encs_snoc]
  have e0 : enc cs ++ [0] = 1 :: ((enc cs).drop 1 ++ [0]) := rfl
  rw [List.append_assoc, e0]
  by_cases c1 : j < (encs ts).length
  · rw [if_pos (by omega), if_pos (by omega), h.pt j (by omega), List.getElem?_append_left c1, List.getElem?_append_left c1]
  · rw [List.getElem?_append_right (l₁ := encs ts) (by omega)]
    by_cases c2 : j = (encs ts).length
    · subst c2
      rw [if_neg (by omega), if_pos (by omega), Nat.sub_self, Nat.sub_self]
      rfl
    · rw [if_neg (by omega), if_neg (by omega), if_neg (by omega), if_pos (by omega)]
      obtain ⟨k, hk⟩ : ∃ k, j - (encs ts).length = k + 1 := ⟨j - (encs ts).length - 1, by omega⟩
      rw [hk, List.getElem?_cons_succ]
      congr 1
      omega
theorem pure_Journal_write_record {K : PySem.W.Frag} (D : ClsA K "Device" ["data", "size", "power", "written"]) (J : ClsA K "Journal" ["device"]) (X : ExcOk K "LimitError") (vs : List V) (H : Hp) (Q : VK) (E : XK) (h : sp_Journal_write_record K vs H Q E) :
    t_Journal_write_record K (fun cls d _ H => E cls d H) { nx := fun _ H' => Q .non H', rt := Q } (start ["self", "text", "texts", "place", "row"] vs) H := by
  obtain ⟨j, jdx, x, dx, l, sz, h, wr, pw, ds, ts, cs, rfl, hj, d, jv, gc, hroom, hpw, hwr, hQ⟩ := h
  have lc := gc.2
  have hain := area_in jv.h12 d.s1
  have hlen := d.len
  refine ⟨_, rfl, S cs, rfl, by rw [SX.S_len, sizeLine_eq]; omega, _, rfl, j, jdx, _, rfl, hj, rfl, j, jdx, x, dx, l, sz, h, wr, pw, ds, ts, rfl, hj, d, jv, fun H1 hE1 => ⟨_, _, rfl, rfl, _, rfl, ?_⟩⟩
  refine iteD (fun z => absurd z (by rw [SX.S_len]; omega)) fun _ => ?_
  have hj1 := hE1 _ _ hj
  have d1 := d.ext hE1
  refine ⟨_, rfl, j, _, jdx, _, _, rfl, hj1, J.1, J.2 _ (by decide), rfl, _, rfl, j, _, jdx, _, _, rfl, hj1, J.1, J.2 _ (by decide), rfl, x, dx, l, sz, wr, pw, ds, h, rfl, d1.hx, d1.hl, jv.hd, ?_⟩
  rw [Dv.arg (K := K) (H := H) (x := x) (dx := dx) (l := l) (pw := pw) (wr := wr) jv]
  refine ⟨x, dx, l, sz, h, wr, pw, ds, ts, rfl, d1.hx, d1.hl, d.len, d.s1, d.s2, jv.h12, jv.ar, fun p q H2 hE2 hq hp hne g1 g2 => ?_⟩
  refine ⟨p, _, rfl, SqT.of g1, rfl, _, _, rfl, _, _, rfl, rfl, ?_⟩
  refine ⟨_, rfl, cs, rfl, gc, fun b H3 hE3 hb0 hb => ?_⟩
  have hE13 := (hE1.trans hE2).trans hE3
  have hj3 := hE13 _ _ hj
  have d3 := d.ext hE13
  refine ⟨_, rfl, j, _, jdx, _, _, rfl, hj3, J.1, J.2 _ (by decide), rfl, x, dx, _, rfl, d3.hx, rfl, _, rfl, _, _, rfl, rfl, _, rfl, _, rfl, b, _, rfl, SqL.of hb, fun s1 hs1 => ?_⟩
  refine ⟨by rw [sizeLine_eq]; show 1 ≤ 16777216; decide, fun z1 hz1 => ?_⟩
  have n1 : s1 ≠ z1 := fun z => by rw [← z, upd_same] at hz1; cases hz1
  have ec : cutV (nums (enc cs)) (some 1) none = nums ((enc cs).drop 1) := by
    rw [show (1 : Int) = ((1 : Nat) : Int) from rfl, cut_from]
    simp [nums]
  rw [ec] at hz1 ⊢
  have l1 : ((enc cs).drop 1 ++ [0]).length = cs.length + 3 := by
    rw [List.length_append, List.length_drop, enc_length]
    simp
  refine ⟨s1, z1, _, _, rfl, rfl, by rw [upd_ne n1]; exact upd_same, upd_same, ?_, fun c hc => ?_⟩
  · show (nums ((enc cs).drop 1)).length + 1 ≤ _
    rw [List.length_map, List.length_drop, enc_length, sizeLine_eq]
    omega
  have hE4 : Ext H3 (upd (upd (upd H3 s1 (.lst (nums ((enc cs).drop 1)))) z1 (.lst [V.int 0])) c (.lst (nums ((enc cs).drop 1) ++ [V.int 0]))) := by
    have e1 : Ext H3 (upd H3 s1 (.lst (nums ((enc cs).drop 1)))) := Ext.refl.new hs1
    have e2 : Ext H3 (upd (upd H3 s1 (.lst (nums ((enc cs).drop 1)))) z1 (.lst [V.int 0])) := e1.new (e1.off hz1)
    exact e2.new (e2.off hc)
  generalize hH4 : upd (upd (upd H3 s1 (.lst (nums ((enc cs).drop 1)))) z1 (.lst [V.int 0])) c (.lst (nums ((enc cs).drop 1) ++ [V.int 0])) = H4 at hE4
  have hc4 : H4 c = some (.lst (nums ((enc cs).drop 1 ++ [0]))) := by
    rw [← hH4, upd_same]
    simp [nums]
  have hcl : c ≠ l := fun z => by
    have : H3 c = none := by
      rw [← z] at d3
      cases e : H3 c with
      | none => rfl
      | some o =>
        have e1 : Ext H3 (upd H3 s1 (.lst (nums ((enc cs).drop 1)))) := Ext.refl.new hs1
        have e2 : Ext H3 (upd (upd H3 s1 (.lst (nums ((enc cs).drop 1)))) z1 (.lst [V.int 0])) := e1.new (e1.off hz1)
        rw [e2 _ _ e] at hc
        cases hc
    rw [z, d3.hl] at this
    cases this
  have d4 := d3.ext hE4
  have hj4 := hE4 _ _ hj3
  have c04 : Chg x l H H4 := Chg.of_ext (hE13.trans hE4)
  refine ⟨x, c, dx, l, ast sz h + (encs ts).length + 1, sz, wr, pw, ds, _, rfl, d4.hx, d4.hl, hc4, hcl, by omega, hpw, ⟨hwr.1, by omega⟩, fun n H5 hn hH5 => ⟨fun e => ?_, fun e dd hdd => ?_⟩⟩
  · -- all of the row is written
    have d5 : Dv K H5 x dx l sz (pw.map (· - (n : Int))) (wr + n) (blit ds (ast sz h + (encs ts).length + 1) (((enc cs).drop 1 ++ [0]).take n)) := by
      rw [hH5]
      exact d4.wrote (by omega)
    have c05 : Chg x l H H5 := c04.trans (by rw [hH5]; exact Chg.dev)
    rw [e, List.take_length] at d5
    have hjx := jI_dev hj d.hx
    have hjl : j ≠ l := ne_of hj d.hl (fun z => nomatch z)
    have hj5 := c05 _ _ hj hjx hjl
    refine ⟨_, rfl, j, _, jdx, _, _, rfl, hj5, J.1, J.2 _ (by decide), rfl, x, dx, _, rfl, d5.hx, rfl, _, rfl, by rw [sizeLine_eq]; show 1 ≤ 16777216; decide, fun z2 hz2 => ?_⟩
    have d6 := d5.ext (Ext.refl.new hz2 (o := .lst [V.int 1]))
    have hz2l : z2 ≠ l := fun z => by rw [z, d5.hl] at hz2; cases hz2
    have hp5 : ∀ p, pw.map (· - ((((enc cs).drop 1 ++ [0]).length : Nat) : Int)) = some p → 0 ≤ p := by
      rw [← e, hn]
      exact bears_ok hpw
    refine ⟨x, z2, dx, l, ast sz h + (encs ts).length, sz, _, _, _, [1], rfl, d6.hx, d6.hl, upd_same, hz2l, by rw [d5.len]; show _ + 1 ≤ _; omega, hp5, ⟨by omega, by show _ + 1 < _; omega⟩, fun n2 H7 hn2 hH7 => ?_⟩
    have hb2 := bears_le (pw.map (· - ((((enc cs).drop 1 ++ [0]).length : Nat) : Int))) 1
    have hn2' : n2 ≤ 1 := by rw [hn2]; exact hb2
    have d7 := d6.wrote (st := ast sz h + (encs ts).length) (n := n2) (row := [1]) (pw' := (pw.map (· - ((((enc cs).drop 1 ++ [0]).length : Nat) : Int))).map (· - (n2 : Int))) (wr' := wr + ((((enc cs).drop 1 ++ [0]).length : Nat) : Int) + n2) (by rw [d5.len]; show _ + 1 ≤ _; omega)
    rw [← hH7] at d7
    have c07 : Chg x l H H7 := c05.trans ((Chg.of_ext (Ext.refl.new hz2)).trans (by rw [hH7]; exact Chg.dev))
    have hd0 : ∀ (st : Nat) (row ds : List Int), 0 < st → st + row.length ≤ ds.length → (blit ds st row)[0]? = ds[0]? := fun st row ds h1 h2 => by rw [blit_get h2, if_pos h1]
    have ast1 : 1 ≤ ast sz h := by unfold ast; omega
    have lb : (blit ds (ast sz h + (encs ts).length + 1) ((enc cs).drop 1 ++ [0])).length = ds.length := blit_length (by omega)
    refine ⟨fun e2 => ?_, fun e2 dd hdd => ?_⟩
    · have e2 : n2 = 1 := e2
      refine (hQ true _ _ _ H7 (fun e3 => ⟨rfl, ?_⟩) ?_ ⟨?_, ?_⟩ c07 d7 ?_).1 rfl
      · rw [e3]
        rfl
      · rw [hn2]
        exact bears_ok hp5
      · omega
      · omega
      · rw [e2]
        refine ⟨?_, jv.h12, ?_, ?_⟩
        · show (blit _ _ [1])[0]? = _
          rw [hd0 _ _ _ (by omega) (by show _ + 1 ≤ _; omega), hd0 _ _ _ (by omega) (by omega)]
          exact jv.hd
        · exact jv.ar.wrote gc (by omega)
        · show (encs (ts ++ [cs])).length + 1 ≤ _
          rw [encs_snoc, List.length_append, enc_length]
          omega
    · have e2 : n2 = 0 := by
        have : n2 < 1 := e2
        omega
      have hne : pw ≠ none := fun z => by
        rw [z] at hn2
        have : n2 = 1 := hn2
        omega
      refine (hQ false _ _ _ (upd H7 dd _) (fun e3 => absurd e3 hne) ?_ ⟨?_, ?_⟩ (c07.trans (Chg.of_ext (Ext.refl.new hdd))) (d7.ext (Ext.refl.new hdd)) ?_).2 rfl dd
      · rw [hn2]
        exact bears_ok hp5
      · omega
      · omega
      · rw [e2]
        refine ⟨?_, jv.h12, ?_, jv.fits⟩
        · show (blit _ _ [])[0]? = _
          rw [blit_nil, hd0 _ _ _ (by omega) (by omega)]
          exact jv.hd
        · show Ar (blit _ _ []) _ ts
          rw [blit_nil]
          exact jv.ar.behind (by omega) (by omega)
  · have hn2 : n ≤ ((enc cs).drop 1 ++ [0]).length := Nat.le_of_lt e
    have d5 : Dv K H5 x dx l sz (pw.map (· - (n : Int))) (wr + n) (blit ds (ast sz h + (encs ts).length + 1) (((enc cs).drop 1 ++ [0]).take n)) := by
      rw [hH5]
      exact d4.wrote (by omega)
    have c05 : Chg x l H H5 := c04.trans (by rw [hH5]; exact Chg.dev)
    have hne : pw ≠ none := fun z => by
      rw [z] at hn
      have : n = ((enc cs).drop 1 ++ [0]).length := hn
      omega
    have lt : (((enc cs).drop 1 ++ [0]).take n).length ≤ cs.length + 3 := by rw [List.length_take]; omega
    refine (hQ false _ _ _ (upd H5 dd _) (fun e3 => absurd e3 hne) ?_ ⟨?_, ?_⟩ (c05.trans (Chg.of_ext (Ext.refl.new hdd))) (d5.ext (Ext.refl.new hdd)) ?_).2 rfl dd
    · rw [hn]
      exact bears_ok hpw
    · omega
    · omega
    · refine ⟨?_, jv.h12, jv.ar.behind (by omega) (by omega), jv.fits⟩
      rw [blit_get (by omega), if_pos (by omega)]
      exact jv.hd
theorem at_mem {α : Type} {xs : List α} {k : Int} (h0 : 0 ≤ k) (h1 : k < xs.length) : ∃ c, c ∈ xs ∧ atI xs k = some c := by
  have hl : k.toNat < xs.length := by omega
  refine ⟨xs[k.toNat], List.getElem_mem hl, ?_⟩
  unfold atI
  rw [ixN_ok h0 h1, Option.bind_some, List.getElem?_eq_getElem hl]
theorem pure__law_sign {K : PySem.W.Frag} (vs : List V) (H : Hp) (Q : VK) (E : XK) (h : sp__law_sign K vs H Q E) : t__law_sign K { nx := fun _ H' => Q .non H', rt := Q } (start ["_law_k", "_law_row"] vs) H := by
  obtain ⟨k, rfl, hQ⟩ := h
  obtain ⟨c, hc, ha⟩ := at_mem (xs := sgn) (k := k % 96) (Int.emod_nonneg _ (by decide)) (by rw [sgn_len]; exact Int.emod_lt_of_pos _ (by decide))
  exact ⟨_, rfl, _, rfl, Or.inl ⟨_, rfl, _, _, rfl, rfl, of_decide_eq_true rfl, SG, _, c, rfl, rfl, by rw [sizeLine_eq]; decide +kernel, ha, hQ c hc⟩⟩
theorem pure__law_word {K : PySem.W.Frag} (vs : List V) (H : Hp) (Q : VK) (E : XK) (h : sp__law_word K vs H Q E) : t__law_word K { nx := fun _ H' => Q .non H', rt := Q } (start ["_law_box", "_law_most", "_law_word_here", "_law_k"] vs) H := by
  obtain ⟨b, d, p, dg, m, rfl, hb, hd, hp, hm, hQ⟩ := h
  have hdb : d ≠ b := ne_of hd hb (fun z => by cases dg <;> simp at z)
  refine ⟨_, rfl, _, rfl, _, _, rfl, rfl, b, d, p, dg, (m : Int) + 1, rfl, hb, hd, hp, by omega, fun n n0 n1 => ⟨_, rfl, by omega, by omega, ?_⟩⟩
  refine rng_for (fun i σ H' => ∃ o3 p' cs, σ = [some (.ref b), some (.int m), some (.str (S cs)), o3] ∧ 0 ≤ p' ∧ (∀ c ∈ cs, c ∈ sgn) ∧ cs.length = i ∧ H' = upd H b (.lst [.ref d, .int p'])) ⟨none, p + 1, [], rfl, by omega, fun _ z => absurd z List.not_mem_nil, rfl, rfl⟩ ?_ ?_
  · rintro i _ _ hi ⟨o3, p', cs, rfl, hp', hc, hl, rfl⟩
    have hi : i < n.toNat := hi
    refine ⟨_, rfl, _, rfl, b, d, p', dg, 96, rfl, upd_same, by rw [upd_ne hdb]; exact hd, hp', by decide, fun z z0 z1 => ⟨z, rfl, fun c hcc => ?_⟩⟩
    refine ⟨S cs, S [c], rfl, rfl, by rw [SX.S_len, SX.S_len, sizeLine_eq]; show cs.length + 1 ≤ _; omega, ?_⟩
    refine ⟨some (.int (0 + i)), p' + 1, cs ++ [c], ?_, by omega, ?_, by rw [List.length_append, hl]; rfl, upd_upd⟩
    · rw [SX.S_cat]
      rfl
    · intro e he
      rcases List.mem_append.mp he with he | he
      · exact hc e he
      · rw [List.mem_singleton.mp he]
        exact hcc
  · rintro _ _ ⟨o3, p', cs, rfl, hp', hc, hl, rfl⟩
    exact ⟨_, rfl, hQ p' cs hp' ⟨hc, by omega⟩ (by omega)⟩
theorem pure__law_words {K : PySem.W.Frag} (vs : List V) (H : Hp) (Q : VK) (E : XK) (h : sp__law_words K vs H Q E) : t__law_words K { nx := fun _ H' => Q .non H', rt := Q } (start ["_law_box", "_law_many", "_law_most", "_law_words_here", "_law_k"] vs) H := by
  obtain ⟨b, d, p, dg, n, m, rfl, hb, hd, hp, hm, hn, hQ⟩ := h
  have hdb : d ≠ b := ne_of hd hb (fun z => by cases dg <;> simp at z)
  refine ⟨by decide, fun q hq => ?_⟩
  have qb : q ≠ b := fun z => by rw [z, hb] at hq; cases hq
  have qd : q ≠ d := fun z => by rw [z, hd] at hq; cases hq
  refine ⟨_, rfl, _, rfl, _, _, rfl, rfl, b, d, p, dg, (n : Int) + 1, rfl, by rw [upd_ne (Ne.symm qb)]; exact hb, by rw [upd_ne (Ne.symm qd)]; exact hd, hp, by omega, fun k n0 n1 => ⟨_, rfl, by omega, by omega, ?_⟩⟩
  refine rng_for (fun i σ H' => ∃ o4 p' us, σ = [some (.ref b), some (.int n), some (.int m), some (.ref q), o4] ∧ 0 ≤ p' ∧ (∀ cs ∈ us, good cs ∧ cs.length ≤ m) ∧ us.length = i ∧ H' = upd (upd H q (.lst (txs us))) b (.lst [.ref d, .int p'])) ⟨none, p + 1, [], rfl, by omega, fun _ z => absurd z List.not_mem_nil, rfl, rfl⟩ ?_ ?_
  · rintro i _ _ hi ⟨o4, p', us, rfl, hp', hc, hl, rfl⟩
    have hi : i < k.toNat := hi
    refine ⟨_, rfl, Or.inl ⟨rfl, _, SqL.of (by rw [upd_ne qb]; exact upd_same)⟩, _, rfl, _, rfl, b, d, p', dg, m, rfl, upd_same, by rw [upd_ne hdb, upd_ne (Ne.symm qd)]; exact hd, hp', hm, fun p2 cs hp2 gc lc => ?_⟩
    refine ⟨q, _, _, rfl, rfl, by rw [upd_ne qb, upd_ne qb]; exact upd_same, ?_, some (.int (0 + i)), p2, us ++ [cs], rfl, hp2, ?_, by rw [List.length_append, hl]; rfl, ?_⟩
    · rw [List.length_map, sizeLine_eq]
      omega
    · intro e he
      rcases List.mem_append.mp he with he | he
      · exact hc e he
      · rw [List.mem_singleton.mp he]
        exact ⟨gc, lc⟩
    · rw [upd_upd, upd_comm (Ne.symm qb), upd_upd]
      simp [txs]
  · rintro _ _ ⟨o4, p', us, rfl, hp', hc, hl, rfl⟩
    exact ⟨_, rfl, hQ q p' us hq hp' (by omega) hc⟩
theorem pure__law_records {K : PySem.W.Frag} (D : ClsA K "Device" ["data", "size", "power", "written"]) (J : ClsA K "Journal" ["device"]) (vs : List V) (H : Hp) (Q : VK) (E : XK) (h : sp__law_records K vs H Q E) : t__law_records K { nx := fun _ H' => Q .non H', rt := Q } (start ["_law_journal", "_law_texts", "_law_text"] vs) H := by
  obtain ⟨j, jdx, x, dx, l, sz, h, wr, pw, ds, ts, rfl, hj, d, jv, hQ⟩ := h
  refine ⟨_, rfl, j, jdx, _, rfl, hj, rfl, j, jdx, x, dx, l, sz, h, wr, pw, ds, ts, rfl, hj, d, jv, fun q H' hE hq hqq => ?_⟩
  refine ⟨_, rfl, _, _, .type "list", .type "list", true, rfl, .ty _, .base (.lst hqq), kit_own, _, rfl, ?_⟩
  refine ⟨_, rfl, q, rfl, ⟨_, SqL.of hqq⟩, ?_⟩
  refine lst_for (txs ts) (fun i σ H2 => ∃ o2, σ = [some (.ref j), some (.ref q), o2] ∧ H2 = H') (fun i σ H2 ⟨_, _, e⟩ => SqL.of (by rw [e]; exact hqq)) ⟨_, rfl, rfl⟩ ?_ ?_
  · rintro i _ _ y hy ⟨o2, rfl, rfl⟩
    obtain ⟨cs, hc, rfl⟩ : ∃ cs, ts[i]? = some cs ∧ y = .str (S cs) := by
      rw [List.getElem?_map] at hy
      cases e : ts[i]? with
      | none => rw [e] at hy; cases hy
      | some c => rw [e] at hy; cases hy; exact ⟨c, rfl, rfl⟩
    exact ⟨_, rfl, _, _, .type "str", .type "str", true, rfl, .ty _, .base (.str _), kit_own, _, rfl, _, rfl, rfl⟩
  · rintro _ _ ⟨o2, rfl, rfl⟩
    exact ⟨_, rfl, hQ q _ hE hq hqq⟩
theorem Ar.laid {ds : List Int} {s : Nat} {us : List (List Nat)} (hg : ∀ cs ∈ us, good cs) (h : s + (encs us).length + 1 ≤ ds.length) : Ar (blit ds s (encs us ++ [0])) s us := by
  refine Ar.of hg fun j hj => ?_
  have l1 : (encs us ++ [0]).length = (encs us).length + 1 := by simp
  rw [blit_get (by omega), l1, if_neg (by omega), if_pos (by omega)]
  congr 1
  omega
theorem pure_Journal_rewrite {K : PySem.W.Frag} (D : ClsA K "Device" ["data", "size", "power", "written"]) (J : ClsA K "Journal" ["device"]) (X : ExcOk K "LimitError") (vs : List V) (H : Hp) (Q : VK) (E : XK) (h : sp_Journal_rewrite K vs H Q E) :
    t_Journal_rewrite K (fun cls d _ H => E cls d H) { nx := fun _ H' => Q .non H', rt := Q } (start ["self", "texts", "number", "row", "text"] vs) H := by
  obtain ⟨j, jdx, x, dx, l, q, sz, h, wr, pw, ds, ts, us, rfl, hj, d, jv, hq, hg, hfit, hpw, hwr, hQ⟩ := h
  have hain := area_in jv.h12 d.s1
  have hlen := d.len
  have h12' : 3 - h = 1 ∨ 3 - h = 2 := by rcases jv.h12 with e | e <;> omega
  have hain' := area_in h12' d.s1
  have jf := jv.fits
  have hs2 := d.s2
  refine ⟨_, rfl, j, _, jdx, _, _, rfl, hj, J.1, J.2 _ (by decide), rfl, x, dx, l, sz, wr, pw, ds, h, rfl, d.hx, d.hl, jv.hd, ?_⟩
  rw [Dv.arg (K := K) (H := H) (x := x) (dx := dx) (l := l) (pw := pw) (wr := wr) jv]
  refine ⟨_, _, rfl, rfl, ?_⟩
  have eh : (3 : Int) - (h : Nat) = (3 - h : Nat) := by rcases jv.h12 with e | e <;> omega
  show gName 2 (.int ((3 : Int) - (h : Nat))) _ _ _
  rw [eh]
  refine ⟨by decide, fun b0 hb0 => ?_⟩
  refine ⟨_, rfl, q, rfl, ⟨_, SqL.of (by rw [upd_ne (ne_of_none hq hb0)]; exact hq)⟩, ?_⟩
  refine lst_for (txs us) (fun i σ H' => ∃ b o4, σ = [some (.ref j), some (.ref q), some (.int (3 - h : Nat)), some (.ref b), o4] ∧ Ext H H' ∧ H b = none ∧ H' b = some (.lst (nums (encs (us.take i))))) (fun i σ H' ⟨_, _, _, e, _⟩ => SqL.of (e _ _ hq))
    ⟨b0, none, rfl, Ext.refl.new hb0, hb0, by rw [upd_same]; rfl⟩ ?_ ?_
  · rintro i _ H' y hy ⟨b, o4, rfl, hE, hbn, hb⟩
    obtain ⟨cs, hc, rfl⟩ : ∃ cs, us[i]? = some cs ∧ y = .str (S cs) := by
      rw [List.getElem?_map] at hy
      cases e : us[i]? with
      | none => rw [e] at hy; cases hy
      | some c => rw [e] at hy; cases hy; exact ⟨c, rfl, rfl⟩
    have e5 : encs (us.take (i + 1)) = encs (us.take i) ++ enc cs := by rw [← take_snoc' hc, encs_snoc]
    have le : (encs (us.take (i + 1))).length ≤ (encs us).length := by
      have := congrArg List.length (encs_split (ts := us) (i + 1))
      rw [List.length_append] at this
      omega
    refine ⟨_, rfl, _, rfl, cs, rfl, hg cs (List.mem_of_getElem? hc), fun bb H2 hE2 hbb0 hbb => ?_⟩
    refine ⟨b, bb, _, _, rfl, rfl, hE2 _ _ hb, hbb, ?_, fun c hc0 => ?_⟩
    · rw [e5, List.length_append] at le
      rw [List.length_map, List.length_map, sizeLine_eq]
      unfold asz at hfit
      omega
    · exact ⟨c, _, rfl, (hE.trans hE2).new ((hE.trans hE2).off hc0), (hE.trans hE2).off hc0, by rw [upd_same, e5]; simp [nums]⟩
  rintro _ H1 ⟨b, o4, rfl, hE, hbn, hb⟩
  rw [List.length_map, List.take_length] at hb
  refine ⟨_, rfl, Or.inl ⟨rfl, _, SqL.of hb⟩, b, _, _, rfl, rfl, hb, ?_, ?_⟩
  · rw [List.length_map, sizeLine_eq]
    unfold asz at hfit
    omega
  have en : nums (encs us) ++ [V.int 0] = nums (encs us ++ [0]) := nums_snoc _ _
  have hE2 : Ext H (upd H1 b (.lst (nums (encs us) ++ [V.int 0]))) := hE.new hbn
  generalize hH2 : upd H1 b (.lst (nums (encs us) ++ [V.int 0])) = H2 at hE2
  have hb2 : H2 b = some (.lst (nums (encs us ++ [0]))) := by rw [← hH2, upd_same, en]
  have d2 := d.ext hE2
  have hj2 := hE2 _ _ hj
  have l1 : (encs us ++ [0]).length = (encs us).length + 1 := by simp
  refine ⟨_, rfl, b, _, rfl, Or.inl (SqL.of hb2), _, rfl, j, _, jdx, _, _, rfl, hj2, J.1, J.2 _ (by decide), rfl, x, dx, l, sz, wr, pw, rfl, d2.hx, d.s1, _, _, rfl, rfl, _, rfl, ?_⟩
  refine iteD (fun z => absurd z (by rw [List.length_map, l1]; omega)) fun _ => ?_
  refine ⟨_, rfl, j, _, jdx, _, _, rfl, hj2, J.1, J.2 _ (by decide), rfl, x, dx, _, rfl, d2.hx, rfl, _, rfl, j, _, jdx, _, _, rfl, hj2, J.1, J.2 _ (by decide), rfl, _, rfl, x, dx, l, sz, 3 - h, wr, pw, rfl, d2.hx, d.s1, h12', ?_⟩
  have hbl : b ≠ l := fun z => by rw [z, d.hl] at hbn; cases hbn
  have c02 : Chg x l H H2 := Chg.of_ext hE2
  have ast1 : ∀ h, 1 ≤ ast sz h := fun h => by unfold ast; omega
  have asth : (h = 1 ∧ ast sz h = 1 ∧ ast sz (3 - h) = 1 + asz sz) ∨ (h = 2 ∧ ast sz (3 - h) = 1 ∧ ast sz h = 1 + asz sz) := by
    rcases jv.h12 with e | e
    · subst e
      exact Or.inl ⟨rfl, by simp [ast], by simp [ast]⟩
    · subst e
      exact Or.inr ⟨rfl, by simp [ast], by simp [ast]⟩
  have kept : ∀ n, Ar (blit ds (ast sz (3 - h)) ((encs us ++ [0]).take n)) (ast sz h) ts := fun n => jv.ar.frame fun k k1 k2 => by
    have lt : ((encs us ++ [0]).take n).length ≤ (encs us).length + 1 := by rw [List.length_take]; omega
    rw [blit_get (by omega)]
    rcases asth with ⟨_, a1, a2⟩ | ⟨_, a1, a2⟩
    · rw [if_pos (by omega)]
    · rw [if_neg (by omega), if_neg (by omega)]
  have hd0 : ∀ n, (blit ds (ast sz (3 - h)) ((encs us ++ [0]).take n))[0]? = some (h : Int) := fun n => by
    have lt : ((encs us ++ [0]).take n).length ≤ (encs us).length + 1 := by rw [List.length_take]; omega
    rw [blit_get (by omega), if_pos (by have := ast1 (3 - h); omega)]
    exact jv.hd
  refine ⟨_, rfl, x, b, dx, l, ast sz (3 - h), sz, wr, pw, ds, encs us ++ [0], rfl, d2.hx, d2.hl, hb2, hbl, by omega, hpw, ⟨hwr.1, by omega⟩, fun n H3 hn hH3 => ⟨fun e => ?_, fun e dd hdd => ?_⟩⟩
  · have d3 : Dv K H3 x dx l sz (pw.map (· - (n : Int))) (wr + n) (blit ds (ast sz (3 - h)) ((encs us ++ [0]).take n)) := by
      rw [hH3]
      exact d2.wrote (by omega)
    have c03 : Chg x l H H3 := c02.trans (by rw [hH3]; exact Chg.dev)
    have hj3 := c03 _ _ hj (jI_dev hj d.hx) (ne_of hj d.hl (fun z => nomatch z))
    refine ⟨_, rfl, j, _, jdx, _, _, rfl, hj3, J.1, J.2 _ (by decide), rfl, x, dx, _, rfl, d3.hx, rfl, _, rfl, by rw [sizeLine_eq]; show 1 ≤ 16777216; decide, fun z2 hz2 => ?_⟩
    have d4 := d3.ext (Ext.refl.new hz2 (o := .lst [V.int (3 - h : Nat)]))
    have hz2l : z2 ≠ l := fun z => by rw [z, d3.hl] at hz2; cases hz2
    have hp3 : ∀ p, pw.map (· - (n : Int)) = some p → 0 ≤ p := by
      rw [hn]
      exact bears_ok hpw
    refine ⟨x, z2, dx, l, 0, sz, _, _, _, [((3 - h : Nat) : Int)], rfl, d4.hx, d4.hl, upd_same, hz2l, by rw [d3.len]; show 0 + 1 ≤ _; omega, hp3, ⟨by omega, by show _ + 1 < _; omega⟩, fun n2 H5 hn2 hH5 => ?_⟩
    have hn2' : n2 ≤ 1 := by rw [hn2]; exact bears_le _ _
    have d5 := d4.wrote (st := 0) (n := n2) (row := [((3 - h : Nat) : Int)]) (pw' := (pw.map (· - (n : Int))).map (· - (n2 : Int))) (wr' := wr + n + n2) (by rw [d3.len]; show 0 + 1 ≤ _; omega)
    rw [← hH5] at d5
    have c05 : Chg x l H H5 := c03.trans ((Chg.of_ext (Ext.refl.new hz2)).trans (by rw [hH5]; exact Chg.dev))
    refine ⟨fun e2 => ?_, fun e2 dd hdd => ?_⟩
    · have e2 : n2 = 1 := e2
      refine (hQ true (3 - h) _ _ _ H5 (fun e3 => ⟨rfl, ?_⟩) ?_ ⟨?_, ?_⟩ c05 d5 ?_).1 rfl
      · rw [e3]
        rfl
      · rw [hn2]
        exact bears_ok hp3
      · omega
      · omega
      · rw [e2]
        have bb : 0 + ([((3 - h : Nat) : Int)].take 1).length ≤ (blit ds (ast sz (3 - h)) ((encs us ++ [0]).take n)).length := by
          rw [d3.len]
          show 0 + 1 ≤ _
          omega
        refine ⟨?_, h12', ?_, hfit⟩
        · rw [blit_get bb, if_neg (by omega), if_pos (by show 0 < 0 + 1; omega)]
          rfl
        · have z := Ar.laid (ds := ds) (s := ast sz (3 - h)) hg (by omega)
          rw [e, List.take_length]
          refine z.frame fun k k1 k2 => ?_
          rw [e, List.take_length] at bb
          rw [blit_get bb, if_neg (by omega), if_neg (by have := ast1 (3 - h); show ¬ k < 0 + 1; omega)]
    · have e2 : n2 = 0 := by
        have : n2 < 1 := e2
        omega
      have hne : pw ≠ none := fun z => by
        rw [z] at hn2
        have : n2 = 1 := hn2
        omega
      refine (hQ false h _ _ _ (upd H5 dd _) (fun e3 => absurd e3 hne) ?_ ⟨?_, ?_⟩ (c05.trans (Chg.of_ext (Ext.refl.new hdd))) (d5.ext (Ext.refl.new hdd)) ?_).2 rfl dd
      · rw [hn2]
        exact bears_ok hp3
      · omega
      · omega
      · rw [e2, List.take_zero, blit_nil]
        exact ⟨hd0 n, jv.h12, kept n, jv.fits⟩
  · have d3 : Dv K H3 x dx l sz (pw.map (· - (n : Int))) (wr + n) (blit ds (ast sz (3 - h)) ((encs us ++ [0]).take n)) := by
      rw [hH3]
      exact d2.wrote (by omega)
    have c03 : Chg x l H H3 := c02.trans (by rw [hH3]; exact Chg.dev)
    have hne : pw ≠ none := fun z => by
      rw [z] at hn
      have : n = (encs us ++ [0]).length := hn
      omega
    refine (hQ false h _ _ _ (upd H3 dd _) (fun e3 => absurd e3 hne) ?_ ⟨?_, ?_⟩ (c03.trans (Chg.of_ext (Ext.refl.new hdd))) (d3.ext (Ext.refl.new hdd)) ⟨hd0 n, jv.h12, kept n, jv.fits⟩).2 rfl dd
    · rw [hn]
      exact bears_ok hpw
    · omega
    · omega
/-- one byte of a list that was just made is written -/
theorem wr1 {K : PySem.W.Frag} {H : Hp} {x dx l z : Addr} {sz st : Nat} {pw : Option Int} {wr v : Int} {ds : List Int} {Q : VK} {E : XK} (d : Dv K H x dx l sz pw wr ds) (hst : st + 1 ≤ sz) (hz : H z = none) (hpw : ∀ p, pw = some p → 0 ≤ p) (hwr : 0 ≤ wr ∧ wr ≤ 2000000000)
    (ok : bears pw 1 = 1 → ∀ H', Chg x l H H' → Dv K H' x dx l sz (pw.map (· - ((1 : Nat) : Int))) (wr + ((1 : Nat) : Int)) (blit ds st [v]) → Q .non H')
    (no : bears pw 1 = 0 → ∀ dd H' fs, Chg x l H H' → H dd = none → H' dd = some (.xd fs) → Dv K H' x dx l sz (pw.map (· - ((0 : Nat) : Int))) (wr + ((0 : Nat) : Int)) ds → E (.ref (He.ga K "PowerCut")) (some dd) H') :
    sp_Device_write K [.ref x, .int st, .ref z] (upd H z (.lst [.int v])) Q E := by
  have d2 := d.ext (Ext.refl.new hz (o := .lst [V.int v]))
  have hzl : z ≠ l := fun e => by rw [e, d.hl] at hz; cases hz
  have hb := bears_le pw 1
  refine ⟨x, z, dx, l, st, sz, wr, pw, ds, [v], rfl, d2.hx, d2.hl, upd_same, hzl, by rw [d.len]; exact hst, hpw, ⟨hwr.1, by show _ + 1 < _; omega⟩, fun n H1 hn hH1 => ?_⟩
  have hn : n = bears pw 1 := hn
  have d3 := d2.wrote (st := st) (n := n) (row := [v]) (pw' := pw.map (· - (n : Int))) (wr' := wr + n) (by rw [d.len]; exact hst)
  rw [← hH1] at d3
  have c3 : Chg x l H H1 := (Chg.of_ext (Ext.refl.new hz)).trans (by rw [hH1]; exact Chg.dev)
  refine ⟨fun e => ?_, fun e dd hdd => ?_⟩
  · have e : n = 1 := e
    rw [e] at d3 hn
    exact ok hn.symm H1 c3 d3
  · have e : n = 0 := by
      have : n < 1 := e
      omega
    rw [e] at d3 hn
    rw [List.take_zero, blit_nil] at d3
    refine no hn.symm dd _ _ (c3.trans (Chg.of_ext (Ext.refl.new hdd))) ?_ upd_same (d3.ext (Ext.refl.new hdd))
    cases q : H dd with
    | none => rfl
    | some o =>
      have : dd ≠ x := fun z => by rw [z, d3.hx] at hdd; cases hdd
      have : dd ≠ l := fun z => by rw [z, d3.hl] at hdd; cases hdd
      rw [c3 dd o q (by assumption) (by assumption)] at hdd
      cases hdd
theorem map_sub {pw : Option Int} {a b c : Nat} (h : a + b = c) : (pw.map (· - (a : Int))).map (· - (b : Int)) = pw.map (· - (c : Int)) := by
  cases pw with
  | none => rfl
  | some p =>
    show some (p - (a : Int) - (b : Int)) = some (p - (c : Int))
    congr 1
    omega
theorem pure_format_device {K : PySem.W.Frag} (D : ClsA K "Device" ["data", "size", "power", "written"]) (J : ClsA K "Journal" ["device"]) (X : ExcOk K "LimitError") (vs : List V) (H : Hp) (Q : VK) (E : XK) (h : sp_format_device K vs H Q E) :
    t_format_device K (fun cls d _ H => E cls d H) { nx := fun _ H' => Q .non H', rt := Q } (start ["device"] vs) H := by
  obtain ⟨x, dx, l, sz, wr, pw, ds, rfl, d, hpw, hwr, hlow, hfull⟩ := h
  refine ⟨_, rfl, x, _, dx, _, _, rfl, d.hx, D.1, D.2 _ (by decide), rfl, _, _, rfl, rfl, _, rfl, ?_⟩
  refine iteD (fun z => ?_) fun z => ?_
  · refine ⟨by show (1 : Nat) ≤ 1000; decide, fun a ha => ⟨a, "journal is full", rfl, upd_same, fun dd hd hne => ⟨rfl, dd, [("reason", .str "journal is full")], upd_same, ?_, ?_, ?_⟩⟩⟩
    · rw [upd_ne hne]
      exact upd_same
    · rw [upd_ne hne] at hd
      exact hd
    · rw [upd_ne hne] at hd
      rw [del_made ha hne]
      exact hlow (by omega) dd _ (Ext.refl.new hd) hd upd_same
  have h3 : 3 ≤ sz := by omega
  have full := hfull h3
  have e1 : ast sz 1 = 1 := by simp [ast]
  have bb : ∀ p : Int, bears (some p) 1 = min p.toNat 1 := fun _ => rfl
  refine ⟨_, rfl, x, dx, _, rfl, d.hx, rfl, by rw [sizeLine_eq]; show 1 ≤ 16777216; decide, fun z1 hz1 => ?_⟩
  dsimp only [tNil]
  refine wr1 (st := 0) d (by omega) hz1 hpw ⟨hwr.1, by omega⟩ (fun b1 H1 c1 d1 => ?_) (fun b1 dd H1 fs c1 hdd hxd d1 => ?_)
  · have hp1 := bears_ok hpw (n := 1)
    rw [b1] at hp1
    refine ⟨_, rfl, x, dx, _, rfl, d1.hx, rfl, _, rfl, x, dx, l, sz, 1, _, _, rfl, d1.hx, d.s1, Or.inl rfl, by rw [sizeLine_eq]; show 1 ≤ 16777216; decide, fun z2 hz2 => ?_⟩
    rw [e1]
    dsimp only [tNil]
    refine wr1 (st := 1) d1 (by omega) hz2 hp1 ⟨by omega, by omega⟩ (fun b2 H2 c2 d2 => ?_) (fun b2 dd H2 fs c2 hdd hxd d2 => ?_)
    · have hp2 := bears_ok hp1 (n := 1)
      rw [b2] at hp2
      refine ⟨_, rfl, x, dx, _, rfl, d2.hx, rfl, by rw [sizeLine_eq]; show 1 ≤ 16777216; decide, fun z3 hz3 => ?_⟩
      dsimp only [tNil]
      refine wr1 (st := 0) d2 (by omega) hz3 hp2 ⟨by omega, by omega⟩ (fun b3 H3 c3 d3 => ?_) (fun b3 dd H3 fs c3 hdd hxd d3 => ?_)
      · refine ⟨_, rfl, fun j jdx hj hjdx hne => ⟨j, jdx, x, rfl, upd_same, rfl, ?_⟩⟩
        have ex : Ext H3 (upd (upd H3 jdx (.own j)) j (jI K jdx x)) := (Ext.refl.new hjdx).new hj
        have n3 : (3 : Nat) = bears pw 3 := by
          cases pw with
          | none => rfl
          | some p =>
            have := bb p
            have := bb (p - ((1 : Nat) : Int))
            have := bb (p - ((1 : Nat) : Int) - ((1 : Nat) : Int))
            show 3 = min p.toNat 3
            have b3 : bears (some (p - ((1 : Nat) : Int) - ((1 : Nat) : Int))) 1 = 1 := b3
            omega
        rw [upd_upd]
        have c03 := (c1.trans c2).trans c3
        have d4 := d3.ext ex
        rw [map_sub (c := 2) rfl, map_sub (c := 3) rfl] at d4
        have z := full 3 (upd (upd H3 jdx (.own j)) j (jI K jdx x)) n3 (c03.trans (Chg.of_ext ex)) (by
          have e : wr + ((1 : Nat) : Int) + ((1 : Nat) : Int) + ((1 : Nat) : Int) = wr + ((3 : Nat) : Int) := by omega
          rw [e] at d4
          exact d4)
        refine z.1 rfl j jdx ?_ upd_same
        cases q : H j with
        | none => rfl
        | some o =>
          have k1 : j ≠ x := fun z => by rw [z, d3.hx] at hj; cases hj
          have k2 : j ≠ l := fun z => by rw [z, d3.hl] at hj; cases hj
          rw [c03 j o q k1 k2] at hj
          cases hj
      · have n2 : (2 : Nat) = bears pw 3 := by
          cases pw with
          | none => cases b3
          | some p =>
            have := bb p
            have := bb (p - ((1 : Nat) : Int))
            have := bb (p - ((1 : Nat) : Int) - ((1 : Nat) : Int))
            have b1 : bears (some p) 1 = 1 := b1
            have b2 : bears (some (p - ((1 : Nat) : Int))) 1 = 1 := b2
            have b3 : bears (some (p - ((1 : Nat) : Int) - ((1 : Nat) : Int))) 1 = 0 := b3
            show 2 = min p.toNat 3
            omega
        rw [map_sub (c := 1) rfl, map_sub (c := 2) rfl, show wr + ((1 : Nat) : Int) + ((1 : Nat) : Int) + ((0 : Nat) : Int) = wr + ((2 : Nat) : Int) by omega] at d3
        refine (full 2 H3 n2 ((c1.trans c2).trans c3) d3).2 (by decide) dd fs ?_ hxd
        cases q : H dd with
        | none => rfl
        | some o =>
          have k1 : dd ≠ x := fun z => by rw [z, d2.hx] at hdd; cases hdd
          have k2 : dd ≠ l := fun z => by rw [z, d2.hl] at hdd; cases hdd
          rw [(c1.trans c2) dd o q k1 k2] at hdd
          cases hdd
    · have n1 : (1 : Nat) = bears pw 3 := by
        cases pw with
        | none => cases b2
        | some p =>
          have := bb p
          have := bb (p - ((1 : Nat) : Int))
          have b1 : bears (some p) 1 = 1 := b1
          have b2 : bears (some (p - ((1 : Nat) : Int))) 1 = 0 := b2
          show 1 = min p.toNat 3
          omega
      rw [map_sub (c := 1) rfl, show wr + ((1 : Nat) : Int) + ((0 : Nat) : Int) = wr + ((1 : Nat) : Int) by omega] at d2
      refine (full 1 H2 n1 (c1.trans c2) d2).2 (by decide) dd fs ?_ hxd
      cases q : H dd with
      | none => rfl
      | some o =>
        have k1 : dd ≠ x := fun z => by rw [z, d1.hx] at hdd; cases hdd
        have k2 : dd ≠ l := fun z => by rw [z, d1.hl] at hdd; cases hdd
        rw [c1 dd o q k1 k2] at hdd
        cases hdd
  · have n0 : (0 : Nat) = bears pw 3 := by
      cases pw with
      | none => cases b1
      | some p =>
        have := bb p
        have b1 : bears (some p) 1 = 0 := b1
        show 0 = min p.toNat 3
        omega
    exact (full 0 H1 n0 c1 d1).2 (by decide) dd fs hdd hxd
/-! ### the journal's laws: what stands -/
structure St (K : PySem.W.Frag) (H : Hp) (b d x dx l : Addr) (p : Int) (dg : List Int) (sz : Nat) (pw : Option Int) (wr : Int) (ds : List Int) : Prop where
  hb : H b = some (.lst [.ref d, .int p])
  hp : 0 ≤ p
  hd : H d = some (.lst (nums dg))
  dv : Dv K H x dx l sz pw wr ds
  dl : d ≠ l
theorem Dv.ne_nil {K : PySem.W.Frag} {H : Hp} {x dx l : Addr} {sz : Nat} {pw : Option Int} {wr : Int} {ds : List Int} (d : Dv K H x dx l sz pw wr ds) : ∃ a r, ds = a :: r := by
  cases ds with
  | nil =>
    have h1 := d.len
    have h2 := d.s1
    rw [← h1] at h2
    exact absurd h2 (by decide)
  | cons a r => exact ⟨a, r, rfl⟩
theorem Dv.off_txs {K : PySem.W.Frag} {H : Hp} {x dx l q : Addr} {sz : Nat} {pw : Option Int} {wr : Int} {ds : List Int} {ts : List (List Nat)} (d : Dv K H x dx l sz pw wr ds) (hq : H q = some (.lst (txs ts))) : q ≠ x ∧ q ≠ l := by
  refine ⟨ne_of hq d.hx (fun z => nomatch z), ne_of hq d.hl (fun z => ?_)⟩
  obtain ⟨a, r, rfl⟩ := d.ne_nil
  have z := HO.lst.inj z
  cases ts with
  | nil => cases z
  | cons c t => cases z
theorem Dv.off_j {K : PySem.W.Frag} {H : Hp} {x dx l j jdx y : Addr} {sz : Nat} {pw : Option Int} {wr : Int} {ds : List Int} (d : Dv K H x dx l sz pw wr ds) (hj : H j = some (jI K jdx y)) : j ≠ x ∧ j ≠ l := ⟨jI_dev hj d.hx, ne_of hj d.hl (fun z => nomatch z)⟩
section
variable {K : PySem.W.Frag} {H H' : Hp} {b d x dx l q j jdx y : Addr} {p p' : Int} {dg ds ds' : List Int} {sz : Nat} {pw pw' : Option Int} {wr wr' : Int} {ts : List (List Nat)}
theorem St.ext (s : St K H b d x dx l p dg sz pw wr ds) (e : Ext H H') : St K H' b d x dx l p dg sz pw wr ds := ⟨e _ _ s.hb, s.hp, e _ _ s.hd, s.dv.ext e, s.dl⟩
theorem St.bx (s : St K H b d x dx l p dg sz pw wr ds) : b ≠ x ∧ b ≠ l ∧ d ≠ b ∧ d ≠ x := by
  refine ⟨ne_of s.hb s.dv.hx (fun z => nomatch z), ne_of s.hb s.dv.hl (fun z => ?_), ne_of s.hd s.hb (fun z => ?_), ne_of s.hd s.dv.hx (fun z => nomatch z)⟩
  · obtain ⟨a, r, rfl⟩ := s.dv.ne_nil
    cases (HO.lst.inj z)
  · have z := HO.lst.inj z
    cases dg with
    | nil => cases z
    | cons c t => cases z
theorem St.chg (s : St K H b d x dx l p dg sz pw wr ds) (c : Chg x l H H') (d' : Dv K H' x dx l sz pw' wr' ds') : St K H' b d x dx l p dg sz pw' wr' ds' := by
  obtain ⟨h1, h2, h3, h4⟩ := s.bx
  exact ⟨c _ _ s.hb h1 h2, s.hp, c _ _ s.hd h4 s.dl, d', s.dl⟩
theorem St.box (s : St K H b d x dx l p dg sz pw wr ds) (hp : 0 ≤ p') : St K (upd H b (.lst [.ref d, .int p'])) b d x dx l p' dg sz pw wr ds := by
  obtain ⟨h1, h2, h3, h4⟩ := s.bx
  exact ⟨upd_same, hp, by rw [upd_ne h3]; exact s.hd, ⟨by rw [upd_ne (Ne.symm h1)]; exact s.dv.hx, by rw [upd_ne (Ne.symm h2)]; exact s.dv.hl, s.dv.len, s.dv.s1, s.dv.s2⟩, s.dl⟩
theorem St.pow (s : St K H b d x dx l p dg sz pw wr ds) : St K (upd H x (devI K dx l sz pw' wr)) b d x dx l p dg sz pw' wr ds := by
  obtain ⟨h1, h2, h3, h4⟩ := s.bx
  exact ⟨by rw [upd_ne h1]; exact s.hb, s.hp, by rw [upd_ne h4]; exact s.hd, ⟨upd_same, by rw [upd_ne (Ne.symm (dev_ne s.dv))]; exact s.dv.hl, s.dv.len, s.dv.s1, s.dv.s2⟩, s.dl⟩
theorem St.txs_box (s : St K H b d x dx l p dg sz pw wr ds) {o : HO} (hq : H q = some (.lst (txs ts))) : upd H b o q = some (.lst (txs ts)) := by
  rw [upd_ne (ne_of hq s.hb (fun z => ?_))]
  · exact hq
  · have z := HO.lst.inj z
    cases ts with
    | nil => cases z
    | cons c t => cases z
theorem St.j_box (s : St K H b d x dx l p dg sz pw wr ds) {o : HO} (hj : H j = some (jI K jdx y)) : upd H b o j = some (jI K jdx y) := by
  rw [upd_ne (ne_of hj s.hb (fun z => nomatch z))]
  exact hj
theorem St.txs_pow (s : St K H b d x dx l p dg sz pw wr ds) {o : HO} (hq : H q = some (.lst (txs ts))) : upd H x o q = some (.lst (txs ts)) := by
  rw [upd_ne (s.dv.off_txs hq).1]
  exact hq
theorem St.j_pow (s : St K H b d x dx l p dg sz pw wr ds) {o : HO} (hj : H j = some (jI K jdx y)) : upd H x o j = some (jI K jdx y) := by
  rw [upd_ne (s.dv.off_j hj).1]
  exact hj
theorem St.txs_chg (s : St K H b d x dx l p dg sz pw wr ds) (c : Chg x l H H') (hq : H q = some (.lst (txs ts))) : H' q = some (.lst (txs ts)) := c _ _ hq (s.dv.off_txs hq).1 (s.dv.off_txs hq).2
theorem St.j_chg (s : St K H b d x dx l p dg sz pw wr ds) (c : Chg x l H H') (hj : H j = some (jI K jdx y)) : H' j = some (jI K jdx y) := c _ _ hj (s.dv.off_j hj).1 (s.dv.off_j hj).2
end
theorem Jv.new {ds : List Int} {sz : Nat} (h : ds.length = sz) (h3 : 3 ≤ sz) : Jv (fmt 3 ds) sz 1 [] := by
  have e : fmt 3 ds = blit (blit (blit ds 0 [0]) 1 [0]) 0 [1] := rfl
  have l1 : ([0] : List Int).length = 1 := rfl
  have l2 : ([1] : List Int).length = 1 := rfl
  have b1 : (blit ds 0 [0]).length = ds.length := blit_length (by rw [l1]; omega)
  have b2 : (blit (blit ds 0 [0]) 1 [0]).length = ds.length := by rw [blit_length (by rw [l1, b1]; omega), b1]
  refine ⟨?_, Or.inl rfl, Ar.of (fun _ z => absurd z List.not_mem_nil) fun j hj => ?_, ?_⟩
  · rw [e, blit_get (by rw [l2, b2]; omega), if_neg (by omega), if_pos (by rw [l2]; omega)]
    rfl
  · have hj : j < 0 + 1 := hj
    obtain rfl : j = 0 := by omega
    have e1 : ast sz 1 = 1 := by simp [ast]
    rw [e, e1, blit_get (by rw [l2, b2]; omega), if_neg (by omega), if_neg (by rw [l2]; omega), blit_get (by rw [l1, b1]; omega), if_neg (by omega), if_pos (by rw [l1]; omega)]
    rfl
  · show 0 + 1 ≤ _
    unfold asz
    omega
theorem encs_le {m : Nat} : ∀ {ts : List (List Nat)}, (∀ cs ∈ ts, cs.length ≤ m) → (encs ts).length ≤ (m + 3) * ts.length
  | [], _ => by simp [encs]
  | c :: ts, h => by
    have ih := encs_le fun cs hc => h cs (List.mem_cons_of_mem _ hc)
    have h1 := h c List.mem_cons_self
    have e : encs (c :: ts) = enc c ++ encs ts := by simp [encs]
    rw [e, List.length_append, enc_length, List.length_cons, Nat.mul_add]
    omega
/-! ### lists of texts are equal to themselves -/
def txsD (ts : List (List Nat)) : PyData := .list (ts.map fun cs => .str (S cs))
theorem dpAll_txs {K : PySem.W.Frag} {H : Hp} : ∀ ts : List (List Nat), DpAll K H (txs ts) (ts.map fun cs => .str (S cs))
  | [] => .nil
  | c :: ts => .cons (.str _) (dpAll_txs ts)
theorem sgn_small : sgn.all (· < 128) = true := by decide +kernel
theorem good_ok {cs : List Nat} (h : good cs) : PyData.strOk (S cs) = true := by
  unfold PyData.strOk
  rw [Array.all_eq_true]
  intro i hi
  have hi : i < cs.length := by simpa using hi
  have z := of_decide_eq_true (List.all_eq_true.mp sgn_small _ (h.1 _ (List.getElem_mem hi)))
  refine decide_eq_true ?_
  show cs[i] < _
  omega
theorem lay_txs : ∀ {ts : List (List Nat)}, (∀ cs ∈ ts, good cs) → PyData.canLayAll0 (ts.map fun cs => .str (S cs)) = true
  | [], _ => rfl
  | c :: ts, h => by
    rw [List.map_cons, PyData.canLayAll0, lay_txs fun cs hc => h cs (List.mem_cons_of_mem _ hc), PyData.canLay0, good_ok (h c List.mem_cons_self)]
    rfl
theorem depth_txs : ∀ ts : List (List Nat), PyData.depthAll (ts.map fun cs => .str (S cs)) = 0
  | [] => by simp [PyData.depthAll]
  | c :: ts => by rw [List.map_cons, PyData.depthAll, depth_txs ts]; simp [PyData.depth]
theorem shaped_txs {ts : List (List Nat)} (h : ∀ cs ∈ ts, good cs) : SeqAt.shaped (txsD ts) = true := by
  unfold SeqAt.shaped txsD
  rw [PyData.canLay0, PyData.depth, lay_txs h, depth_txs]
  rfl
theorem dp_txs {K : PySem.W.Frag} {H : Hp} {a : Addr} {ts : List (List Nat)} (h : H a = some (.lst (txs ts))) : Dp K H (.ref a) (txsD ts) := .lst (SqL.of h) (dpAll_txs ts)
theorem ne_txs {K : PySem.W.Frag} {H : Hp} {Q : VK} {a b : Addr} {ts : List (List Nat)} (g : ∀ cs ∈ ts, good cs) (ha : H a = some (.lst (txs ts))) (hb : H b = some (.lst (txs ts))) (q : Q (.bl false) H) : rNeD K (.ref a) (.ref b) H Q :=
  ⟨_, _, dp_txs ha, dp_txs hb, shaped_txs g, shaped_txs g, by rw [PySem.SeqAt.eqv_refl _ (SeqAt.canLay_of_shaped (shaped_txs g))]; exact q⟩
theorem eq_txs {K : PySem.W.Frag} {H : Hp} {Q : VK} {a b : Addr} {ts : List (List Nat)} (g : ∀ cs ∈ ts, good cs) (ha : H a = some (.lst (txs ts))) (hb : H b = some (.lst (txs ts))) (q : Q (.bl true) H) : rEqD K (.ref a) (.ref b) H Q :=
  ⟨_, _, dp_txs ha, dp_txs hb, shaped_txs g, shaped_txs g, by rw [PySem.SeqAt.eqv_refl _ (SeqAt.canLay_of_shaped (shaped_txs g))]; exact q⟩
theorem txs_snoc (ts : List (List Nat)) (cs : List Nat) : txs ts ++ [V.str (S cs)] = txs (ts ++ [cs]) := by simp [txs]
theorem txs_get {ts : List (List Nat)} {i : Nat} {y : V} (h : (txs ts)[i]? = some y) : ∃ cs, ts[i]? = some cs ∧ y = .str (S cs) := by
  rw [List.getElem?_map] at h
  cases e : ts[i]? with
  | none => rw [e] at h; cases h
  | some c => rw [e] at h; cases h; exact ⟨c, rfl, rfl⟩
end Cf

set_option Elab.async false
set_option linter.all false
set_option maxRecDepth 100000
set_option maxHeartbeats 4000000
namespace Cf
open PySem PySem.Spec PyProof.Rows L2 NdefX
/-! the law of an empty journal -/
/-- format_device, told by a number -/
def sp__law_formatted (K : PySem.W.Frag) : Sp := fun vs H Q _ => ∃ (x dx l : Addr) (sz : Nat) (wr : Int) (pw : Option Int) (ds : List Int), vs = [.ref x] ∧ Dv K H x dx l sz pw wr ds ∧ (∀ p, pw = some p → 0 ≤ p) ∧ (0 ≤ wr ∧ wr ≤ 1000000000) ∧
  (sz < 3 → ∀ H', Ext H H' → Q (.int 2) H') ∧
  (3 ≤ sz → ∀ n H', n = bears pw 3 → Chg x l H H' → Dv K H' x dx l sz (pw.map (· - (n : Int))) (wr + n) (fmt n ds) → Q (.int (if n = 3 then 0 else 1)) H')
def sp_law (K : PySem.W.Frag) : Sp := fun vs H Q _ => ∃ (a : Addr) (ns : List Int), vs = [.ref a] ∧ SqL K H a (nums ns) ∧ ∀ H', Q (.bl true) H'
theorem sp_law_of {K : PySem.W.Frag} {H : Hp} {a : Addr} {ns : List Int} (h : SqL K H a (ns.map V.int)) (hl : ns.length ≤ 63) : sp_law K [.ref a] H (fun v _ => v = .bl true) fun _ _ _ => False := ⟨a, ns, rfl, h, fun _ => rfl⟩
theorem len__law_formatted {K : PySem.W.Frag} {vs : List V} {H : Hp} {Q : VK} {E : XK} (h : sp__law_formatted K vs H Q E) : vs.length = 1 := by obtain ⟨_, _, _, _, _, _, _, rfl, _⟩ := h; rfl
theorem len_law {K : PySem.W.Frag} {vs : List V} {H : Hp} {Q : VK} {E : XK} (h : sp_law K vs H Q E) : vs.length = 1 := by obtain ⟨_, _, rfl, _⟩ := h; rfl
def t__law_formatted (K : PySem.W.Frag) : TS := tSeq (tTryAs K (.ref (He.ga K "ClearfloorError")) 1 (fun W1 => tDrop (tCallW (sp_format_device K) [] W1 (tCons (tVar 0) (tNil)))) (fun a1 cls1 d1 => tSeq (tIfS (tB (tCB (rIsX K a1 cls1 d1) (tCons (tVar 1) (tCons (tC (.ref (He.ga K "PowerCut"))) (tNil))))) (tRet (tC (.int 1))) (tNext)) (tSeq (tIfS (tAnd (tB (tCB (rIsX K a1 cls1 d1) (tCons (tVar 1) (tCons (tC (.ref (He.ga K "LimitError"))) (tNil))))) (tTest (tOp rEq (tXd K a1 cls1 d1 "reason" (tVar 1)) (tC (.str "journal is full"))))) (tRet (tC (.int 2))) (tNext)) (tRet (tC (.int 3))))) WN) (tRet (tC (.int 0)))
def t_law_r1 (K : PySem.W.Frag) : TS := tAsg (tCall (sp__law_records K) [] E0 (tCons (tVar 6) (tNil))) (gName 5)
def t_law_r2 (K : PySem.W.Frag) : TS := tSeq (tIfS (tTest (tOp rNe (tCall (sp__law_formatted K) [] E0 (tCons (tVar 3) (tNil))) (tC (.int 0)))) (tRet (tC (.bl false))) (tNext)) (tRet (tAndV (tOp rEq (tCall (sp_valid_area K) [] E0 (tCons (tVar 3) (tNil))) (tC (.int 1))) (tOp (rEqD K) (tCall (sp__law_records K) [] E0 (tCons (tMake (He.ga K "Journal") (sp_Journal_init K) [] E0 (tCons (tVar 3) (tNil))) (tNil))) (tLst (tNil)))))
def t_law_r3 (K : PySem.W.Frag) : TS := tSeq (tDrop (tMeth (He.ga K "Device") "recharge" (sp_Device_recharge K) [] E0 (tVar 3) (tCons (tCall (sp__law_draw K) [] E0 (tCons (tVar 1) (tCons (tC (.int 6)) (tNil)))) (tNil)))) (tSeq (tAsg (tCall (sp__law_formatted K) [] E0 (tCons (tVar 3) (tNil))) (gName 7)) (tSeq (tDrop (tMeth (He.ga K "Device") "recharge" (sp_Device_recharge K) [.non] E0 (tVar 3) tNil)) (tSeq (tIfS (tTest (tOp rGtI (tVar 7) (tC (.int 1)))) (tRet (tC (.bl false))) (tNext)) (tSeq (tIfS (tAnd (tTest (tOp rEq (tVar 7) (tC (.int 0)))) (tTest (tOp rNe (tCall (sp_valid_area K) [] E0 (tCons (tVar 3) (tNil))) (tC (.int 1))))) (tRet (tC (.bl false))) (tNext)) (tSeq (tIfS (tTest (tOp rNotN (tCall (sp_valid_area K) [] E0 (tCons (tVar 3) (tNil))) (tC .non))) (tSeq (tAsg (tCall (sp__law_records K) [] E0 (tCons (tMake (He.ga K "Journal") (sp_Journal_init K) [] E0 (tCons (tVar 3) (tNil))) (tNil))) (gName 8)) (tIfS (tAnd (tTest (tOp (rNeD K) (tVar 8) (tLst (tNil)))) (tOr (tTest (tOp rEq (tVar 7) (tC (.int 0)))) (tTest (tOp (rNeD K) (tVar 8) (tVar 5))))) (tRet (tC (.bl false))) (tNext))) (tNext)) (t_law_r2 K))))))
def t_law (K : PySem.W.Frag) : TS := tSeq (tAsg (tLst (tCons (tCall (sp__law_digits K) [] E0 (tCons (tVar 0) (tCons (tC (.int 0)) (tCons (tC (.int 63)) (tNil))))) (tCons (tC (.int 0)) (tNil)))) (gName 1)) (tSeq (tAsg (tOp rAddI (tC (.int 1)) (tCall (sp__law_draw K) [] E0 (tCons (tVar 1) (tCons (tC (.int 30)) (tNil))))) (gName 2)) (tSeq (tAsg (tMake (He.ga K "Device") (sp_Device_init K) [.non] E0 (tCons (tVar 2) (tNil))) (gName 3)) (tSeq (tIfS (tTest (tOp rLtI (tVar 2) (tC (.int 3)))) (tRet (tAndV (tOp rEq (tCall (sp__law_formatted K) [] E0 (tCons (tVar 3) (tNil))) (tC (.int 2))) (tOp (rEqD K) (tFld K (tVar 3) "data") (tLc (iRng1 (tCons (tVar 2) (tNil))) (gName 4) (tYes) (tC (.int 0)) [4])))) (tNext)) (tSeq (tIfS (tTest (tOp rNotN (tCall (sp_valid_area K) [] E0 (tCons (tVar 3) (tNil))) (tC .non))) (tRet (tC (.bl false))) (tNext)) (tSeq (tAsg (tC .non) (gName 5)) (tSeq (tIfS (tTest (tOp rEq (tCall (sp__law_draw K) [] E0 (tCons (tVar 1) (tCons (tC (.int 2)) (tNil)))) (tC (.int 0)))) (tSeq (tAsg (tCallW (sp_format_device K) [] WN (tCons (tVar 3) (tNil))) (gName 6)) (tSeq (tIfS (tTest (tOp rGeI (tMeth (He.ga K "Journal") "room" (sp_Journal_room K) [] E0 (tVar 6) tNil) (tC (.int 1)))) (tDrop (tMethW (He.ga K "Journal") "write_record" (sp_Journal_write_record K) [] WN (tVar 6) (tCons (tC (.str "a")) (tNil)))) (tNext)) (t_law_r1 K))) (tNext)) (t_law_r3 K)))))))
theorem exm_self {K : PySem.W.Frag} {x : Str} (X : ExcOk K x) : PySem.W.exmOne K (.ref (He.ga K x)) (.ref (He.ga K x)) = some true := exm_of X X.own
theorem kit_not {K : PySem.W.Frag} (P : ExcOk K "PowerCut") (L : ExcOk K "LimitError") (S2 : PySem.W.subIn K (.ref (He.ga K "LimitError")) (.ref (He.ga K "PowerCut")) = some false) : PySem.W.kitOne K (.ref (He.ga K "LimitError")) (.ref (He.ga K "PowerCut")) = some false := by
  refine kit_sub P (fun z => ?_) S2
  rw [z] at S2
  have := S2.symm.trans (show PySem.W.subIn K (.ref (He.ga K "PowerCut")) (.ref (He.ga K "PowerCut")) = some true from P.own)
  cases this
theorem pure__law_formatted {K : PySem.W.Frag} (P : ExcOk K "PowerCut") (L : ExcOk K "LimitError") (Y : ExcOk K "ClearfloorError") (S0 : PySem.W.subIn K (.ref (He.ga K "PowerCut")) (.ref (He.ga K "ClearfloorError")) = some true)
    (S1 : PySem.W.subIn K (.ref (He.ga K "LimitError")) (.ref (He.ga K "ClearfloorError")) = some true) (S2 : PySem.W.subIn K (.ref (He.ga K "LimitError")) (.ref (He.ga K "PowerCut")) = some false) (no : ∀ f ∈ (["reason"] : List Str), PySem.W.findIn K (.ref (He.ga K "LimitError")) f = some none)
    (vs : List V) (H : Hp) (Q : VK) (E : XK) (h : sp__law_formatted K vs H Q E) : t__law_formatted K { nx := fun _ H' => Q .non H', rt := Q } (start ["_law_device", "e"] vs) H := by
  obtain ⟨x, dx, l, sz, wr, pw, ds, rfl, d, hpw, hwr, hlow, hfull⟩ := h
  refine ⟨_, rfl, x, dx, l, sz, wr, pw, ds, rfl, d, hpw, hwr, fun hz dd H' eH hdd hxd => ?_, fun hz n H' hn cH dH => ⟨fun e j jdx hj0 hj => ?_, fun e dd fs hdd hxd => ?_⟩⟩
  · refine ⟨true, exm_of Y S1, fun _ a ha => ?_, fun z => nomatch z⟩
    refine ⟨_, rfl, _, _, false, _, dd, _, rfl, rfl, rfl, hxd, L.ec, fun u z => z, kit_not P L S2, _, rfl, ?_⟩
    refine ⟨_, rfl, _, _, true, _, dd, _, rfl, rfl, rfl, hxd, L.ec, fun u z => z, kit_own, _, rfl, ?_⟩
    refine ⟨_, rfl, rfl, _, dd, _, _, rfl, L.xf, no _ (by decide), rfl, hxd, rfl, rfl, _, rfl, ?_⟩
    exact iteD (fun _ => hlow hz H' eH) fun z => absurd rfl z
  · have z := hfull hz n H' hn cH dH
    rw [if_pos e] at z
    exact z
  · refine ⟨true, exm_of Y S0, fun _ a ha => ?_, fun z => nomatch z⟩
    refine ⟨_, rfl, _, _, true, _, dd, _, rfl, rfl, rfl, hxd, P.ec, fun u z => z, kit_own, _, rfl, ?_⟩
    have z := hfull hz n H' hn cH dH
    rw [if_neg (by omega)] at z
    exact z
theorem eq_nums {K : PySem.W.Frag} {H : Hp} {Q : VK} {a b : Addr} {ns : List Int} (ha : H a = some (.lst (ns.map V.int))) (hb : H b = some (.lst (ns.map V.int))) (q : Q (.bl true) H) : rEqD K (.ref a) (.ref b) H Q :=
  ⟨_, _, dp_nums ha, dp_nums hb, shaped_nums ns, shaped_nums ns, by rw [eqv_nums]; exact q⟩
theorem law_r2 {K : PySem.W.Frag} {En : Ends} {H : Hp} {b d x dx l : Addr} {p wr : Int} {dg ds : List Int} {sz : Nat} {o0 o1 o2 o4 o5 o6 o7 o8 : Option V}
    (s : St K H b d x dx l p dg sz none wr ds) (h3 : 3 ≤ sz) (hw : 0 ≤ wr ∧ wr ≤ 1000000000) (fin : ∀ H', En.rt (.bl true) H') : t_law_r2 K En [o0, o1, o2, some (.ref x), o4, o5, o6, o7, o8] H := by
  refine ⟨_, rfl, x, dx, l, sz, wr, none, ds, rfl, s.dv, (fun p z => nomatch z), hw, (fun z => absurd z (by omega)), fun _ n H1 hn c1 d1 => ?_⟩
  have hn : n = 3 := hn
  subst hn
  have jv := Jv.new s.dv.len h3
  refine ⟨rfl, _, rfl, ?_⟩
  refine iteB (fun z => by cases z) fun _ => ?_
  refine ⟨_, rfl, x, dx, l, sz, _, _, fmt 3 ds, ((1 : Nat) : Int), rfl, d1.hx, d1.hl, jv.hd, ?_⟩
  rw [Dv.arg (K := K) (H := H) (x := x) (dx := dx) (l := l) (pw := none) (wr := wr) jv]
  refine ⟨rfl, _, rfl, ?_⟩
  refine iteD (fun _ => ?_) fun z => absurd rfl z
  refine ⟨_, rfl, fun r rdx hr hrdx hne => ⟨r, rdx, x, rfl, upd_same, rfl, ?_⟩⟩
  rw [upd_upd]
  have e2 : Ext H1 (upd (upd H1 rdx (.own r)) r (jI K rdx x)) := (Ext.refl.new hrdx).new hr
  refine ⟨r, rdx, x, dx, l, sz, 1, _, _, _, [], rfl, upd_same, d1.ext e2, jv, fun t H3 e3 ht0 ht => ?_⟩
  refine ⟨by decide, fun y hy => ?_⟩
  exact eq_txs (ts := []) (fun _ z => absurd z List.not_mem_nil) (by rw [upd_ne (ne_of_none ht hy)]; exact ht) upd_same (fin _)
theorem law_r3 {K : PySem.W.Frag} (D : ClsA K "Device" ["data", "size", "power", "written"]) (J : ClsA K "Journal" ["device"]) {En : Ends} {H : Hp} {b d x dx l : Addr} {p wr : Int} {dg ds : List Int} {sz : Nat} {o0 o2 o4 o6 o7 o8 : Option V} {before : V}
    (s : St K H b d x dx l p dg sz none wr ds) (h3 : 3 ≤ sz) (hw : 0 ≤ wr ∧ wr ≤ 1000000)
    (hs : ds[0]? = some 0 ∨ ∃ (q : Addr) (ts : List (List Nat)), before = .ref q ∧ H q = some (.lst (txs ts)) ∧ Jv ds sz 1 ts ∧ ∀ cs ∈ ts, good cs) (fin : ∀ H', En.rt (.bl true) H') :
    t_law_r3 K En [o0, some (.ref b), o2, some (.ref x), o4, some before, o6, o7, o8] H := by
  refine ⟨_, rfl, x, dx, _, rfl, s.dv.hx, rfl, _, rfl, b, d, p, dg, 6, rfl, s.hb, s.hd, s.hp, by decide, fun k k0 k1 => ?_⟩
  have s1 := s.box (p' := p + 1) (by have := s.hp; omega)
  refine ⟨x, dx, l, _, _, none, some k, rfl, s1.dv.hx, ?_⟩
  have s2 := s1.pow (pw' := some k)
  have hs2 : ds[0]? = some 0 ∨ ∃ (q : Addr) (ts : List (List Nat)), before = .ref q ∧ upd (upd H b (.lst [.ref d, .int (p + 1)])) x (devI K dx l sz (some k) wr) q = some (.lst (txs ts)) ∧ Jv ds sz 1 ts ∧ ∀ cs ∈ ts, good cs := by
    rcases hs with hs | ⟨q, ts, f1, f2, f3, f4⟩
    · exact Or.inl hs
    · exact Or.inr ⟨q, ts, f1, s1.txs_pow (s.txs_box f2), f3, f4⟩
  generalize upd (upd H b (.lst [.ref d, .int (p + 1)])) x (devI K dx l sz (some k) wr) = H2 at s2 hs2
  refine ⟨_, rfl, x, dx, l, sz, wr, some k, ds, rfl, s2.dv, (fun y z => by cases z; exact k0), ⟨hw.1, by omega⟩, (fun z => absurd z (by omega)), fun _ n H3 hn c3 d3 => ?_⟩
  have s3 := s2.chg c3 d3
  have hnle : n ≤ 3 := by rw [hn]; exact bears_le _ _
  refine ⟨_, rfl, x, dx, _, rfl, d3.hx, rfl, x, dx, l, _, _, _, none, rfl, d3.hx, ?_⟩
  have s4 := s3.pow (pw' := none)
  have q4 : ∀ {q : Addr} {ts : List (List Nat)}, H2 q = some (.lst (txs ts)) → upd H3 x (devI K dx l sz none (wr + n)) q = some (.lst (txs ts)) := fun z => s3.txs_pow (s2.txs_chg c3 z)
  generalize upd H3 x (devI K dx l sz none (wr + n)) = H4 at s4 q4
  have w4 : 0 ≤ wr + (n : Int) ∧ wr + (n : Int) ≤ 1000000000 := ⟨by omega, by omega⟩
  have l1 : ([0] : List Int).length = 1 := rfl
  have lds := s.dv.len
  have g0 : ∀ e : List Int, 1 ≤ e.length → (blit e 0 [0])[0]? = some 0 := fun e he => by
    rw [blit_get (by rw [l1]; omega), if_neg (by omega), if_pos (by rw [l1]; omega)]
    rfl
  -- a device without a journal
  have none_ : (fmt n ds)[0]? = some 0 → n ≠ 3 → ∀ o7, o7 = V.int (if n = 3 then 0 else 1) → t_law_r3 K En [o0, some (.ref b), o2, some (.ref x), o4, some before, o6, some o7, o8] H → True := fun _ _ _ _ _ => trivial
  clear none_
  by_cases n3 : n = 3
  · subst n3
    have jv := Jv.new s.dv.len h3
    refine ⟨_, rfl, _, _, rfl, rfl, _, rfl, ?_⟩
    refine iteB (fun z => by cases z) fun _ => ?_
    refine ⟨_, rfl, rfl, _, rfl, ?_⟩
    refine iteD (fun _ => ?_) fun z => absurd rfl z
    refine ⟨_, rfl, x, dx, l, sz, _, _, fmt 3 ds, ((1 : Nat) : Int), rfl, s4.dv.hx, s4.dv.hl, jv.hd, ?_⟩
    rw [Dv.arg (K := K) (H := H) (x := x) (dx := dx) (l := l) (pw := none) (wr := wr) jv]
    refine ⟨rfl, _, rfl, ?_⟩
    refine iteB (fun z => by cases z) fun _ => ?_
    refine ⟨_, rfl, x, dx, l, sz, _, _, fmt 3 ds, ((1 : Nat) : Int), rfl, s4.dv.hx, s4.dv.hl, jv.hd, ?_⟩
    rw [Dv.arg (K := K) (H := H) (x := x) (dx := dx) (l := l) (pw := none) (wr := wr) jv]
    refine ⟨rfl, _, rfl, ?_⟩
    refine iteB (fun _ => ?_) fun z => by cases z
    refine ⟨_, rfl, fun r rdx hr hrdx hne => ⟨r, rdx, x, rfl, upd_same, rfl, ?_⟩⟩
    rw [upd_upd]
    have e5 : Ext H4 (upd (upd H4 rdx (.own r)) r (jI K rdx x)) := (Ext.refl.new hrdx).new hr
    refine ⟨r, rdx, x, dx, l, sz, 1, _, _, _, [], rfl, upd_same, s4.dv.ext e5, jv, fun t H6 e6 ht0 ht => ?_⟩
    refine ⟨_, rfl, by decide, fun y hy => ?_⟩
    refine ne_txs (ts := []) (fun _ z => absurd z List.not_mem_nil) (by rw [upd_ne (ne_of_none ht hy)]; exact ht) upd_same ⟨_, rfl, ?_⟩
    exact law_r2 ((s4.ext (e5.trans e6)).ext (Ext.refl.new hy)) h3 w4 fin
  · have ek : (if n = 3 then (0 : Int) else 1) = 1 := if_neg n3
    rw [ek]
    refine ⟨_, rfl, _, _, rfl, rfl, _, rfl, ?_⟩
    refine iteB (fun z => by cases z) fun _ => ?_
    refine ⟨_, rfl, rfl, _, rfl, ?_⟩
    refine iteD (fun z => absurd (V.int.inj z) (by decide)) fun _ => ?_
    by_cases hz : (fmt n ds)[0]? = some 0
    · refine ⟨_, rfl, x, dx, l, sz, _, _, fmt n ds, 0, rfl, s4.dv.hx, s4.dv.hl, hz, ?_⟩
      rw [if_neg (by decide)]
      refine ⟨rfl, _, rfl, ?_⟩
      refine iteB (fun z => by cases z) fun _ => ?_
      exact law_r2 s4 h3 w4 fin
    · have n0 : n = 0 := by
        have : n = 0 ∨ n = 1 ∨ n = 2 := by omega
        rcases this with e | e | e
        · exact e
        · refine absurd ?_ hz
          rw [e]
          exact g0 ds (by omega)
        · refine absurd ?_ hz
          rw [e]
          show (blit (blit ds 0 [0]) 1 [0])[0]? = some 0
          rw [blit_get (by rw [blit_length (by rw [l1]; omega), l1]; omega), if_pos (by omega)]
          exact g0 ds (by omega)
      subst n0
      rcases hs2 with hs2 | ⟨q, ts, rfl, f2, jv, f4⟩
      · exact absurd hs2 hz
      have q5 := q4 f2
      refine ⟨_, rfl, x, dx, l, sz, _, _, ds, ((1 : Nat) : Int), rfl, s4.dv.hx, s4.dv.hl, jv.hd, ?_⟩
      rw [Dv.arg (K := K) (H := H) (x := x) (dx := dx) (l := l) (pw := none) (wr := wr) jv]
      refine ⟨rfl, _, rfl, ?_⟩
      refine iteB (fun _ => ?_) fun z => by cases z
      refine ⟨_, rfl, fun r rdx hr hrdx hne => ⟨r, rdx, x, rfl, upd_same, rfl, ?_⟩⟩
      rw [upd_upd]
      have e5 : Ext H4 (upd (upd H4 rdx (.own r)) r (jI K rdx x)) := (Ext.refl.new hrdx).new hr
      refine ⟨r, rdx, x, dx, l, sz, 1, _, _, _, ts, rfl, upd_same, s4.dv.ext e5, jv, fun t H6 e6 ht0 ht => ?_⟩
      have q6 := e6 _ _ (e5 _ _ q5)
      refine ⟨_, rfl, by decide, fun y hy => ?_⟩
      have e7 : Ext H6 (upd H6 y (.lst [])) := Ext.refl.new hy
      have s7 := (s4.ext (e5.trans e6)).ext e7
      refine ⟨_, _, dp_txs (e7 _ _ ht), dp_txs (ts := []) upd_same, shaped_txs f4, shaped_txs (fun _ z => absurd z List.not_mem_nil), _, rfl, ?_⟩
      refine iteB (fun _ => ?_) fun _ => law_r2 s7 h3 w4 fin
      refine ⟨_, rfl, rfl, _, rfl, ?_⟩
      refine iteD (fun z => absurd (V.int.inj z) (by decide)) fun _ => ?_
      exact ⟨_, rfl, _, rfl, ne_txs f4 (e7 _ _ ht) (e7 _ _ q6) ⟨_, rfl, law_r2 s7 h3 w4 fin⟩⟩
theorem pure_law {K : PySem.W.Frag} (D : ClsA K "Device" ["data", "size", "power", "written"]) (J : ClsA K "Journal" ["device"]) (vs : List V) (H : Hp) (Q : VK) (E : XK) (h : sp_law K vs H Q E) :
    t_law K { nx := fun _ H' => Q .non H', rt := Q } (start ["_law_script", "_law_box", "_law_size", "_law_device", "_law_k", "_law_before", "_law_journal", "_law_kind", "_law_told"] vs) H := by
  obtain ⟨a, ns, rfl, hS, hQ⟩ := h
  refine ⟨_, rfl, a, ns, 63, rfl, hS, by decide, fun d dg hd => ⟨(by rw [sizeLine_eq]; show 2 ≤ 16777216; decide), fun b hb => ?_⟩⟩
  have S0 := (Holds.nil.new hd (o := .lst (nums dg))).new hb (o := .lst [.ref d, .int 0])
  refine ⟨_, rfl, b, d, 0, dg, 30, rfl, S0.at 1, S0.at 0, by decide, by decide, fun s1 g1 g2 => ⟨_, _, rfl, rfl, ?_⟩⟩
  obtain ⟨m, rfl⟩ := Int.eq_ofNat_of_zero_le g1
  have S1 := S0.set 1 (.lst [.ref d, .int 1])
  refine ⟨_, rfl, fun x dx hx hdx hne => ⟨x, dx, 1 + m, none, rfl, upd_same, by omega, fun l hl => ⟨rfl, ?_⟩⟩⟩
  have S3 := S1.new hdx (o := .own x)
  have S4 := S3.new (a := x) (by rw [upd_ne (Ne.symm hne)]; exact hx) (o := .ins (He.ga K "Device") dx [])
  have S5 := (S4.new hl (o := .lst (nums (List.replicate (1 + m) 0)))).set 3 (devI K dx l (1 + m : Nat) none 0)
  have s : St K _ b d x dx l 1 dg (1 + m) none 0 (List.replicate (1 + m) 0) := ⟨S5.at 1, by decide, S5.at 0, ⟨S5.at 3, S5.at 4, by rw [List.length_replicate], by omega, by omega⟩, S5.ne 0 4⟩
  refine ⟨_, rfl, _, _, rfl, rfl, _, rfl, ?_⟩
  refine iteD (fun z => ?_) fun z => ?_
  · have z : (1 : Int) + (m : Nat) < 3 := z
    have hm : m ≤ 1 := by omega
    refine ⟨_, rfl, x, dx, l, 1 + m, 0, none, List.replicate (1 + m) 0, rfl, s.dv, (fun p z => nomatch z), ⟨by decide, by decide⟩, (fun _ H2 e2 => ?_), fun y => absurd y (by omega)⟩
    have d2 := s.dv.ext e2
    refine ⟨rfl, _, rfl, ?_⟩
    refine iteD (fun _ => ?_) fun z => absurd rfl z
    refine ⟨_, rfl, x, _, dx, _, _, rfl, d2.hx, D.1, D.2 _ (by decide), rfl, _, rfl, _, rfl, by omega, by omega, ?_⟩
    have e1 : ((1 : Int) + (m : Nat)).toNat = 1 + m := by omega
    have snoc : ∀ i : Nat, nums (List.replicate i 0) ++ [V.int 0] = nums (List.replicate (i + 1) 0) := fun i => by simp [nums, List.replicate_succ']
    refine rng_lc (fun L i H' => H2 L = none ∧ H' = upd H2 L (HO.lst (nums (List.replicate i 0)))) (fun L hL => ⟨hL, rfl⟩) ?_ ?_
    · rintro L i _ hi ⟨hL, rfl⟩
      have hi : i < 2 := by
        have : i < ((1 : Int) + (m : Nat)).toNat := hi
        omega
      refine ⟨_, upd_same, ?_, hL, ?_⟩
      · rw [List.length_map, List.length_replicate, sizeLine_eq]
        omega
      · rw [upd_upd, snoc]
    · rintro L _ hL ⟨_, rfl⟩
      refine eq_nums (ns := List.replicate (1 + m) 0) ?_ ?_ (hQ _)
      · rw [upd_ne (ne_of_none d2.hl hL)]
        exact d2.hl
      · rw [upd_same]
        congr 4
  have h3 : 3 ≤ 1 + m := by omega
  have z0 : (List.replicate (1 + m) (0 : Int))[0]? = some 0 := by
    rw [List.getElem?_replicate, if_pos (by omega)]
  refine ⟨_, rfl, x, dx, l, _, _, none, List.replicate (1 + m) 0, 0, rfl, s.dv.hx, s.dv.hl, z0, ?_⟩
  rw [if_neg (by decide)]
  refine ⟨rfl, _, rfl, ?_⟩
  refine iteB (fun z => by cases z) fun _ => ?_
  refine ⟨_, rfl, b, d, 1, dg, 2, rfl, s.hb, s.hd, by decide, by decide, fun t t0 t1 => ⟨rfl, _, rfl, ?_⟩⟩
  have s2 := s.box (p' := 2) (by decide)
  refine iteB (fun _ => ?_) fun _ => ?_
  · refine ⟨_, rfl, x, dx, l, 1 + m, 0, none, List.replicate (1 + m) 0, rfl, s2.dv, (fun p z => nomatch z), ⟨by decide, by decide⟩, (fun z => absurd z (by omega)), fun _ n H2 hn c2 d2 => ⟨fun e3 j jdx hj0 hj => ?_, fun e3 => ?_⟩⟩
    · have e3 : n = 3 := hn
      subst e3
      have s3 := s2.chg c2 d2
      have jv : Jv (fmt 3 (List.replicate (1 + m) 0)) (1 + m) 1 [] := Jv.new (by rw [List.length_replicate]) h3
      refine ⟨_, rfl, j, jdx, _, rfl, hj, rfl, j, jdx, x, dx, l, 1 + m, 1, _, none, _, [], rfl, hj, d2, jv, fun H3 eH3 => ⟨_, _, rfl, rfl, _, rfl, ?_⟩⟩
      have s4 := s3.ext eH3
      have j4 := eH3 _ _ hj
      have after : ∀ (H4 : Hp) (wr : Int) (ds : List Int) (ts : List (List Nat)), St K H4 b d x dx l 2 dg (1 + m) none wr ds → H4 j = some (jI K jdx x) → Jv ds (1 + m) 1 ts → (∀ cs ∈ ts, good cs) → 0 ≤ wr → wr ≤ 500000 →
          t_law_r1 K { nx := t_law_r3 K { nx := fun _ H' => Q .non H', rt := Q }, rt := Q } [some (.ref a), some (.ref b), some (.int ((1 : Int) + (m : Nat))), some (.ref x), none, some .non, some (.ref j), none, none] H4 := by
        intro H4 wr ds ts t4 tj tv tg w1 w2
        refine ⟨_, rfl, j, jdx, x, dx, l, 1 + m, 1, wr, none, ds, ts, rfl, tj, t4.dv, tv, fun q H5 e5 hq0 hq => ?_⟩
        exact law_r3 D J (before := .ref q) (t4.ext e5) h3 ⟨w1, by omega⟩ (Or.inr ⟨q, ts, rfl, hq, tv, tg⟩) hQ
      refine iteD (fun z => ?_) fun z => ?_
      · have z : (1 : Int) ≤ (asz (1 + m) : Int) - (encs []).length - 3 - 1 := z
        have z : (1 : Int) ≤ (asz (1 + m) : Int) - 0 - 3 - 1 := z
        have gx : good [97] := ⟨fun c hc => by rw [List.mem_singleton.mp hc]; decide +kernel, by decide⟩
        refine ⟨_, rfl, j, jdx, _, rfl, j4, rfl, j, jdx, x, dx, l, 1 + m, 1, _, none, _, [], [97], rfl, j4, s4.dv, jv, gx, ?_, (fun p z => nomatch z), ⟨by omega, by omega⟩, fun ok ds' pw' wr' H5 hnone _ hw' c5 d5 jv5 => ⟨fun e5 => ?_, fun e5 => ?_⟩⟩
        · show 0 + 1 + 4 ≤ _
          omega
        · obtain ⟨f1, f2⟩ := hnone rfl
          subst f1 f2
          refine after H5 wr' ds' [[97]] (s4.chg c5 d5) (s4.j_chg c5 j4) jv5 (fun c hc => ?_) hw'.1 (by omega)
          rw [List.mem_singleton.mp hc]
          exact gx
        · have := (hnone rfl).1
          rw [this] at e5
          cases e5
      · exact after H3 _ _ [] s4 j4 jv (fun _ z => absurd z List.not_mem_nil) (by omega) (by omega)
    · have : n = 3 := hn
      omega
  · exact law_r3 D J (before := .non) s2 h3 ⟨by decide, by decide⟩ (Or.inl z0) hQ
end Cf

set_option Elab.async false
set_option linter.all false
set_option maxRecDepth 100000
set_option maxHeartbeats 0
namespace Cf.k22
open PySem PySem.Spec PyProof.Rows L2
def top (i : Nat) : Stmt := PySem.Challenge.pw_clearfloor_k22_an_empty_journal_is_writt.main.body.getD i (.Pass ⟨0, 0, 0, 0⟩)
abbrev s__wall : Stmt := top 0
abbrev s_LimitError_init : Stmt := inClass (top 3) 0
abbrev s_PowerCut_init : Stmt := inClass (top 4) 0
abbrev s_byte_of : Stmt := top 7
abbrev s_bytes_of : Stmt := top 8
abbrev s_text_of : Stmt := top 9
abbrev s_area_size : Stmt := top 14
abbrev s_area_start : Stmt := top 15
abbrev s_valid_area : Stmt := top 16
abbrev s_record_bytes : Stmt := top 17
abbrev s_read_records : Stmt := top 18
abbrev s_format_device : Stmt := top 19
abbrev s_Journal_init : Stmt := inClass (top 20) 0
abbrev s_Journal_texts : Stmt := inClass (top 20) 1
abbrev s_Journal_room : Stmt := inClass (top 20) 2
abbrev s_Journal_write_record : Stmt := inClass (top 20) 3
abbrev s_Journal_rewrite : Stmt := inClass (top 20) 4
abbrev s_Device_init : Stmt := inClass (top 22) 0
abbrev s_Device_recharge : Stmt := inClass (top 22) 1
abbrev s_Device_write : Stmt := inClass (top 22) 2
abbrev s_Device_read : Stmt := inClass (top 22) 3
abbrev s__law_cell : Stmt := top 24
abbrev s__law_digits : Stmt := top 25
abbrev s__law_draw : Stmt := top 26
abbrev s__law_records : Stmt := top 27
abbrev s__law_formatted : Stmt := top 28
abbrev s_law : Stmt := top 29
def d_0 : DefX := ⟨("byte_of", none), "byte_of", "byte_of", defArgs s_byte_of, defBody s_byte_of, defScope s_byte_of, [], []⟩
def d_1 : DefX := ⟨("bytes_of", none), "bytes_of", "bytes_of", defArgs s_bytes_of, defBody s_bytes_of, defScope s_bytes_of, [], []⟩
def d_2 : DefX := ⟨("text_of", none), "text_of", "text_of", defArgs s_text_of, defBody s_text_of, defScope s_text_of, [], []⟩
def d_3 : DefX := ⟨("area_size", none), "area_size", "area_size", defArgs s_area_size, defBody s_area_size, defScope s_area_size, [], []⟩
def d_4 : DefX := ⟨("area_start", none), "area_start", "area_start", defArgs s_area_start, defBody s_area_start, defScope s_area_start, [], []⟩
def d_5 : DefX := ⟨("valid_area", none), "valid_area", "valid_area", defArgs s_valid_area, defBody s_valid_area, defScope s_valid_area, [], []⟩
def d_6 : DefX := ⟨("record_bytes", none), "record_bytes", "record_bytes", defArgs s_record_bytes, defBody s_record_bytes, defScope s_record_bytes, [], []⟩
def d_7 : DefX := ⟨("read_records", none), "read_records", "read_records", defArgs s_read_records, defBody s_read_records, defScope s_read_records, [], []⟩
def d_8 : DefX := ⟨("format_device", none), "format_device", "format_device", defArgs s_format_device, defBody s_format_device, defScope s_format_device, [], []⟩
def d_9 : DefX := ⟨("Journal", some "__init__"), "__init__", "Journal.__init__", defArgs s_Journal_init, defBody s_Journal_init, defScope s_Journal_init, [], []⟩
def d_10 : DefX := ⟨("Journal", some "texts"), "texts", "Journal.texts", defArgs s_Journal_texts, defBody s_Journal_texts, defScope s_Journal_texts, [], []⟩
def d_11 : DefX := ⟨("Journal", some "room"), "room", "Journal.room", defArgs s_Journal_room, defBody s_Journal_room, defScope s_Journal_room, [], []⟩
def d_12 : DefX := ⟨("Journal", some "write_record"), "write_record", "Journal.write_record", defArgs s_Journal_write_record, defBody s_Journal_write_record, defScope s_Journal_write_record, [], []⟩
def d_13 : DefX := ⟨("Device", some "__init__"), "__init__", "Device.__init__", defArgs s_Device_init, defBody s_Device_init, defScope s_Device_init, [], [("power", .non)]⟩
def d_14 : DefX := ⟨("Device", some "recharge"), "recharge", "Device.recharge", defArgs s_Device_recharge, defBody s_Device_recharge, defScope s_Device_recharge, [.fl (.non)], []⟩
def d_15 : DefX := ⟨("Device", some "write"), "write", "Device.write", defArgs s_Device_write, defBody s_Device_write, defScope s_Device_write, [], []⟩
def d_16 : DefX := ⟨("Device", some "read"), "read", "Device.read", defArgs s_Device_read, defBody s_Device_read, defScope s_Device_read, [], []⟩
def d_17 : DefX := ⟨("_law_cell", none), "_law_cell", "_law_cell", defArgs s__law_cell, defBody s__law_cell, defScope s__law_cell, [], []⟩
def d_18 : DefX := ⟨("_law_digits", none), "_law_digits", "_law_digits", defArgs s__law_digits, defBody s__law_digits, defScope s__law_digits, [], []⟩
def d_19 : DefX := ⟨("_law_draw", none), "_law_draw", "_law_draw", defArgs s__law_draw, defBody s__law_draw, defScope s__law_draw, [], []⟩
def d_20 : DefX := ⟨("_law_records", none), "_law_records", "_law_records", defArgs s__law_records, defBody s__law_records, defScope s__law_records, [], []⟩
def d_21 : DefX := ⟨("_law_formatted", none), "_law_formatted", "_law_formatted", defArgs s__law_formatted, defBody s__law_formatted, defScope s__law_formatted, [], []⟩
def d_22 : DefX := ⟨("law", none), "law", "law", defArgs s_law, defBody s_law, defScope s_law, [], []⟩
def fn : List DefX := [d_0, d_1, d_2, d_3, d_4, d_5, d_6, d_7, d_8, d_9, d_10, d_11, d_12, d_13, d_14, d_15, d_16, d_17, d_18, d_19, d_20, d_21, d_22]
def dS_0 : DefS := ⟨"LimitError", "LimitError.__init__", defArgs s_LimitError_init, defBody s_LimitError_init, defScope s_LimitError_init, [], ["reason"]⟩
def dS_1 : DefS := ⟨"PowerCut", "PowerCut.__init__", defArgs s_PowerCut_init, defBody s_PowerCut_init, defScope s_PowerCut_init, [], ["written"]⟩
def sx : List DefS := [dS_0, dS_1]
def ex : List Str := ["ClearfloorError", "LimitError", "PowerCut"]
def fx_0 : List Fx := [.glo "byte_of", .glo "bytes_of", .glo "text_of", .glo "area_size", .glo "area_start", .glo "valid_area", .glo "record_bytes", .glo "read_records", .glo "format_device", .glo "_law_cell", .glo "_law_digits", .glo "_law_draw", .glo "_law_records", .glo "_law_formatted", .glo "law", .str "SIGNS" "\n\t !\"#$&'()*+,-./0123456789:;<=>?@ABCDEFGHIJKLMNOPQRSTUVWXYZ[\\]^_`abcdefghijklmnopqrstuvwxyz{|}~"]
def fx_1 : List Fx := [.int "RECORD" (1), .int "END" (0), .int "PREFIX" (3), .free "int", .free "isinstance", .free "len", .free "list", .free "range", .free "str", .free "super", .glo "ClearfloorError", .glo "LimitError", .glo "PowerCut", .glo "Journal", .cls "Journal", .noat "Journal" "device"]
def fx_2 : List Fx := [.meth "Journal" "texts", .meth "Journal" "room", .meth "Journal" "write_record", .mkr "Journal", .glo "Device", .cls "Device", .noat "Device" "data", .noat "Device" "size", .noat "Device" "power", .noat "Device" "written", .meth "Device" "recharge", .meth "Device" "write", .meth "Device" "read", .mkr "Device", .sub "PowerCut" "ClearfloorError" true, .sub "LimitError" "ClearfloorError" true]
def fx_3 : List Fx := [.sub "LimitError" "PowerCut" false]
def fx : List Fx := fx_0 ++ fx_1 ++ fx_2 ++ fx_3
abbrev R : PySem.W.OpenRow := PySem.W.OpenLaw.row PySem.Challenge.rw_clearfloor_k22_an_empty_journal_is_writt
abbrev hk : PySem.W.Hook := hookY (PySem.Challenge.pw_clearfloor_k22_an_empty_journal_is_writt.main.file : Str) fx fn sx ex
def ob (s : PySem.W.SharedT) : Al2 := obsY (PySem.Challenge.pw_clearfloor_k22_an_empty_journal_is_writt.main.file : Str) fx fn sx ex (HandSHeadRun.getT s)
theorem ob_eq (s : PySem.W.SharedT) : ob s = hk.obs s.abs := obsY_eq (HandSHeadRun.getT_eq s)
def lo_0 : List PySem.Str := ["_wall", "ClearfloorError", "LimitError", "PowerCut", "SIGNS", "byte_of", "bytes_of", "text_of", "RECORD", "END", "PREFIX", "area_size", "area_start", "valid_area", "record_bytes", "read_records"]
def lo_1 : List PySem.Str := ["format_device", "Journal", "Device", "_law_cell", "_law_digits", "_law_draw", "_law_records", "_law_formatted"]
def lo : List PySem.Str := lo_0 ++ lo_1
theorem run (w : World) : HandSHeadRun.RunEq R (PySem.W.view R.prog [29]) hk ob 3000 lo w := by
  intro os
  kernel_rfl
structure Env (P : Program) (w : World) (K : PySem.W.Frag) (mg : Str → Option Value) (base : Heap) : Prop where
  c : SaysY (P.main.file : Str) fx fn sx ex K
  X : K.In base
  G : base.Ns mainGlobals mg
  top : (P.main.scope.names.lookup ("super" : Str)).isSome = false
theorem sc_LimitError_init : NdefX.NScope ["self", "reason", "__class__"] ["self", "reason"] ["__class__"] (defScope s_LimitError_init) := NdefX.nscope_by (by decide +kernel)
theorem sc_PowerCut_init : NdefX.NScope ["self", "written", "__class__"] ["self", "written"] ["__class__"] (defScope s_PowerCut_init) := NdefX.nscope_by (by decide +kernel)
theorem sc_byte_of : FnScope ["sign"] ["sign"] (defScope s_byte_of) := ⟨rfl, rfl, rfl, by decide +kernel, rfl, by decide +kernel, by decide +kernel⟩
theorem sc_bytes_of : FnScope ["text", "sign"] ["text"] (defScope s_bytes_of) := ⟨rfl, rfl, rfl, by decide +kernel, rfl, by decide +kernel, by decide +kernel⟩
theorem sc_text_of : FnScope ["row", "byte"] ["row"] (defScope s_text_of) := ⟨rfl, rfl, rfl, by decide +kernel, rfl, by decide +kernel, by decide +kernel⟩
theorem sc_area_size : FnScope ["device"] ["device"] (defScope s_area_size) := ⟨rfl, rfl, rfl, by decide +kernel, rfl, by decide +kernel, by decide +kernel⟩
theorem sc_area_start : FnScope ["device", "number"] ["device", "number"] (defScope s_area_start) := ⟨rfl, rfl, rfl, by decide +kernel, rfl, by decide +kernel, by decide +kernel⟩
theorem sc_valid_area : FnScope ["device", "header"] ["device"] (defScope s_valid_area) := ⟨rfl, rfl, rfl, by decide +kernel, rfl, by decide +kernel, by decide +kernel⟩
theorem sc_record_bytes : FnScope ["text", "many"] ["text"] (defScope s_record_bytes) := ⟨rfl, rfl, rfl, by decide +kernel, rfl, by decide +kernel, by decide +kernel⟩
theorem sc_read_records : FnScope ["device", "number", "place", "texts", "many"] ["device", "number"] (defScope s_read_records) := ⟨rfl, rfl, rfl, by decide +kernel, rfl, by decide +kernel, by decide +kernel⟩
theorem sc_format_device : FnScope ["device"] ["device"] (defScope s_format_device) := ⟨rfl, rfl, rfl, by decide +kernel, rfl, by decide +kernel, by decide +kernel⟩
theorem sc_Journal_init : FnScope ["self", "device"] ["self", "device"] (defScope s_Journal_init) := ⟨rfl, rfl, rfl, by decide +kernel, rfl, by decide +kernel, by decide +kernel⟩
theorem sc_Journal_texts : FnScope ["self", "texts", "place"] ["self"] (defScope s_Journal_texts) := ⟨rfl, rfl, rfl, by decide +kernel, rfl, by decide +kernel, by decide +kernel⟩
theorem sc_Journal_room : FnScope ["self", "number", "texts", "place", "end"] ["self"] (defScope s_Journal_room) := ⟨rfl, rfl, rfl, by decide +kernel, rfl, by decide +kernel, by decide +kernel⟩
theorem sc_Journal_write_record : FnScope ["self", "text", "texts", "place", "row"] ["self", "text"] (defScope s_Journal_write_record) := ⟨rfl, rfl, rfl, by decide +kernel, rfl, by decide +kernel, by decide +kernel⟩
theorem sc_Device_init : FnScope ["self", "size", "power", "place"] ["self", "size", "power"] (defScope s_Device_init) := ⟨rfl, rfl, rfl, by decide +kernel, rfl, by decide +kernel, by decide +kernel⟩
theorem sc_Device_recharge : FnScope ["self", "power"] ["self", "power"] (defScope s_Device_recharge) := ⟨rfl, rfl, rfl, by decide +kernel, rfl, by decide +kernel, by decide +kernel⟩
theorem sc_Device_write : FnScope ["self", "start", "row", "place", "byte"] ["self", "start", "row"] (defScope s_Device_write) := ⟨rfl, rfl, rfl, by decide +kernel, rfl, by decide +kernel, by decide +kernel⟩
theorem sc_Device_read : FnScope ["self", "start", "many"] ["self", "start", "many"] (defScope s_Device_read) := ⟨rfl, rfl, rfl, by decide +kernel, rfl, by decide +kernel, by decide +kernel⟩
theorem sc__law_cell : FnScope ["_law_script", "_law_k"] ["_law_script", "_law_k"] (defScope s__law_cell) := ⟨rfl, rfl, rfl, by decide +kernel, rfl, by decide +kernel, by decide +kernel⟩
theorem sc__law_digits : FnScope ["_law_script", "_law_first", "_law_last", "_law_digits_here", "_law_k", "_law_cell_here", "_law_turn", "_law_seed"] ["_law_script", "_law_first", "_law_last"] (defScope s__law_digits) := ⟨rfl, rfl, rfl, by decide +kernel, rfl, by decide +kernel, by decide +kernel⟩
theorem sc__law_draw : FnScope ["_law_box", "_law_many", "_law_at"] ["_law_box", "_law_many"] (defScope s__law_draw) := ⟨rfl, rfl, rfl, by decide +kernel, rfl, by decide +kernel, by decide +kernel⟩
theorem sc__law_records : FnScope ["_law_journal", "_law_texts", "_law_text"] ["_law_journal"] (defScope s__law_records) := ⟨rfl, rfl, rfl, by decide +kernel, rfl, by decide +kernel, by decide +kernel⟩
theorem sc__law_formatted : FnScope ["_law_device", "e"] ["_law_device"] (defScope s__law_formatted) := ⟨rfl, rfl, rfl, by decide +kernel, rfl, by decide +kernel, by decide +kernel⟩
theorem sc_law : FnScope ["_law_script", "_law_box", "_law_size", "_law_device", "_law_k", "_law_before", "_law_journal", "_law_kind", "_law_told"] ["_law_script"] (defScope s_law) := ⟨rfl, rfl, rfl, by decide +kernel, rfl, by decide +kernel, by decide +kernel⟩
section
variable {P : Program} {w : World} {K : PySem.W.Frag} {mg : Str → Option Value} {base : Heap} (e : Env P w K mg base)
include e
theorem g_byte_of : mg "byte_of" = some (.ref (He.ga K "byte_of")) := x_glo e.X e.G (e.c.toSays.at 0)
theorem g_bytes_of : mg "bytes_of" = some (.ref (He.ga K "bytes_of")) := x_glo e.X e.G (e.c.toSays.at 1)
theorem g_text_of : mg "text_of" = some (.ref (He.ga K "text_of")) := x_glo e.X e.G (e.c.toSays.at 2)
theorem g_area_size : mg "area_size" = some (.ref (He.ga K "area_size")) := x_glo e.X e.G (e.c.toSays.at 3)
theorem g_area_start : mg "area_start" = some (.ref (He.ga K "area_start")) := x_glo e.X e.G (e.c.toSays.at 4)
theorem g_valid_area : mg "valid_area" = some (.ref (He.ga K "valid_area")) := x_glo e.X e.G (e.c.toSays.at 5)
theorem g_record_bytes : mg "record_bytes" = some (.ref (He.ga K "record_bytes")) := x_glo e.X e.G (e.c.toSays.at 6)
theorem g_read_records : mg "read_records" = some (.ref (He.ga K "read_records")) := x_glo e.X e.G (e.c.toSays.at 7)
theorem g_format_device : mg "format_device" = some (.ref (He.ga K "format_device")) := x_glo e.X e.G (e.c.toSays.at 8)
theorem g__law_cell : mg "_law_cell" = some (.ref (He.ga K "_law_cell")) := x_glo e.X e.G (e.c.toSays.at 9)
theorem g__law_digits : mg "_law_digits" = some (.ref (He.ga K "_law_digits")) := x_glo e.X e.G (e.c.toSays.at 10)
theorem g__law_draw : mg "_law_draw" = some (.ref (He.ga K "_law_draw")) := x_glo e.X e.G (e.c.toSays.at 11)
theorem g__law_records : mg "_law_records" = some (.ref (He.ga K "_law_records")) := x_glo e.X e.G (e.c.toSays.at 12)
theorem g__law_formatted : mg "_law_formatted" = some (.ref (He.ga K "_law_formatted")) := x_glo e.X e.G (e.c.toSays.at 13)
theorem g_law : mg "law" = some (.ref (He.ga K "law")) := x_glo e.X e.G (e.c.toSays.at 14)
theorem g_SIGNS : ∃ t, mg "SIGNS" = some (.str "\n\t !\"#$&'()*+,-./0123456789:;<=>?@ABCDEFGHIJKLMNOPQRSTUVWXYZ[\\]^_`abcdefghijklmnopqrstuvwxyz{|}~" t) := x_str e.X e.G (e.c.toSays.at 15)
theorem g_RECORD : ∃ t, mg "RECORD" = some (.int (1) t) := x_int e.X e.G (e.c.toSays.at 16)
theorem g_END : ∃ t, mg "END" = some (.int (0) t) := x_int e.X e.G (e.c.toSays.at 17)
theorem g_PREFIX : ∃ t, mg "PREFIX" = some (.int (3) t) := x_int e.X e.G (e.c.toSays.at 18)
theorem m_int : mg "int" = none := x_free e.X e.G (e.c.toSays.at 19)
theorem m_isinstance : mg "isinstance" = none := x_free e.X e.G (e.c.toSays.at 20)
theorem m_len : mg "len" = none := x_free e.X e.G (e.c.toSays.at 21)
theorem m_list : mg "list" = none := x_free e.X e.G (e.c.toSays.at 22)
theorem m_range : mg "range" = none := x_free e.X e.G (e.c.toSays.at 23)
theorem m_str : mg "str" = none := x_free e.X e.G (e.c.toSays.at 24)
theorem m_super : mg "super" = none := x_free e.X e.G (e.c.toSays.at 25)
theorem g_ClearfloorError : mg "ClearfloorError" = some (.ref (He.ga K "ClearfloorError")) := x_glo e.X e.G (e.c.toSays.at 26)
theorem g_LimitError : mg "LimitError" = some (.ref (He.ga K "LimitError")) := x_glo e.X e.G (e.c.toSays.at 27)
theorem g_PowerCut : mg "PowerCut" = some (.ref (He.ga K "PowerCut")) := x_glo e.X e.G (e.c.toSays.at 28)
theorem g_Journal : mg "Journal" = some (.ref (He.ga K "Journal")) := x_glo e.X e.G (e.c.toSays.at 29)
theorem k_Journal : Cls K (He.ga K "Journal") := x_cls (e.c.toSays.at 30)
theorem a_Journal_device : NoAttr K (He.ga K "Journal") "device" := x_noat (e.c.toSays.at 31)
theorem h_Journal_texts : Meth K (He.ga K "Journal") "texts" (He.ma K (He.ga K "Journal") "texts") := x_meth (e.c.toSays.at 32)
theorem h_Journal_room : Meth K (He.ga K "Journal") "room" (He.ma K (He.ga K "Journal") "room") := x_meth (e.c.toSays.at 33)
theorem h_Journal_write_record : Meth K (He.ga K "Journal") "write_record" (He.ma K (He.ga K "Journal") "write_record") := x_meth (e.c.toSays.at 34)
theorem mk_Journal : Mk K (He.ga K "Journal") (He.ma K (He.ga K "Journal") "__init__") := x_mkr (e.c.toSays.at 35)
theorem g_Device : mg "Device" = some (.ref (He.ga K "Device")) := x_glo e.X e.G (e.c.toSays.at 36)
theorem k_Device : Cls K (He.ga K "Device") := x_cls (e.c.toSays.at 37)
theorem a_Device_data : NoAttr K (He.ga K "Device") "data" := x_noat (e.c.toSays.at 38)
theorem a_Device_size : NoAttr K (He.ga K "Device") "size" := x_noat (e.c.toSays.at 39)
theorem a_Device_power : NoAttr K (He.ga K "Device") "power" := x_noat (e.c.toSays.at 40)
theorem a_Device_written : NoAttr K (He.ga K "Device") "written" := x_noat (e.c.toSays.at 41)
theorem h_Device_recharge : Meth K (He.ga K "Device") "recharge" (He.ma K (He.ga K "Device") "recharge") := x_meth (e.c.toSays.at 42)
theorem h_Device_write : Meth K (He.ga K "Device") "write" (He.ma K (He.ga K "Device") "write") := x_meth (e.c.toSays.at 43)
theorem h_Device_read : Meth K (He.ga K "Device") "read" (He.ma K (He.ga K "Device") "read") := x_meth (e.c.toSays.at 44)
theorem mk_Device : Mk K (He.ga K "Device") (He.ma K (He.ga K "Device") "__init__") := x_mkr (e.c.toSays.at 45)
theorem x_ClearfloorError : ExcOk K "ClearfloorError" := exc_ok (e.c.excs "ClearfloorError" (List.mem_of_getElem? (i := 0) rfl))
theorem x_LimitError : ExcOk K "LimitError" := exc_ok (e.c.excs "LimitError" (List.mem_of_getElem? (i := 1) rfl))
theorem x_PowerCut : ExcOk K "PowerCut" := exc_ok (e.c.excs "PowerCut" (List.mem_of_getElem? (i := 2) rfl))
theorem cl_Journal : ClsA K "Journal" ["device"] := ⟨k_Journal e, by
  intro f hf
  simp only [List.mem_cons, List.not_mem_nil, or_false] at hf
  rcases hf with rfl
  · exact a_Journal_device e⟩
theorem cl_Device : ClsA K "Device" ["data", "size", "power", "written"] := ⟨k_Device e, by
  intro f hf
  simp only [List.mem_cons, List.not_mem_nil, or_false] at hf
  rcases hf with rfl | rfl | rfl | rfl
  · exact a_Device_data e
  · exact a_Device_size e
  · exact a_Device_power e
  · exact a_Device_written e⟩
theorem s_PowerCut_ClearfloorError : PySem.W.subIn K (.ref (He.ga K "PowerCut")) (.ref (He.ga K "ClearfloorError")) = some true := x_sub (e.c.toSays.at 46)
theorem s_LimitError_ClearfloorError : PySem.W.subIn K (.ref (He.ga K "LimitError")) (.ref (He.ga K "ClearfloorError")) = some true := x_sub (e.c.toSays.at 47)
theorem s_LimitError_PowerCut : PySem.W.subIn K (.ref (He.ga K "LimitError")) (.ref (He.ga K "PowerCut")) = some false := x_sub (e.c.toSays.at 48)
theorem no_LimitError : ∀ f ∈ (["reason"] : List Str), PySem.W.findIn K (.ref (He.ga K "LimitError")) f = some none := by
  obtain ⟨h1, h2⟩ := e.c.sups dS_0 (List.mem_of_getElem? (i := 0) rfl)
  obtain ⟨_, _, _, _, _, _, no⟩ := DefS.told (d := dS_0) e.top h1 h2 rfl
  exact no
theorem no_PowerCut : ∀ f ∈ (["written"] : List Str), PySem.W.findIn K (.ref (He.ga K "PowerCut")) f = some none := by
  obtain ⟨h1, h2⟩ := e.c.sups dS_1 (List.mem_of_getElem? (i := 1) rfl)
  obtain ⟨_, _, _, _, _, _, no⟩ := DefS.told (d := dS_1) e.top h1 h2 rfl
  exact no
theorem ok_LimitError_init : ∃ f fd, FnOk P w K mg base (L2.CX P w) 1 f fd ["self", "reason"] (sp_LimitError_init K) ∧ PySem.W.findIn K (.ref (He.ga K "LimitError")) "__init__" = some (some (.ref f)) ∧ PySem.W.isFn K (.ref f) = true ∧ Binds K fd ["self", "reason"] [] := by
  obtain ⟨h1, h2⟩ := e.c.sups dS_0 (List.mem_of_getElem? (i := 0) rfl)
  obtain ⟨cl, cc, fd, F, S, X, no⟩ := DefS.told (d := dS_0) e.top h1 h2 rfl
  obtain ⟨oc, od, dV, kV, doc, pm, an, ct, osl, e0, lk, hcd, hd⟩ := F.ex
  have hm := m_super e
  subst e0
  refine ⟨_, _, sup_ok (N := ["self", "reason", "__class__"]) (ps := ["self", "reason"]) (sp := sp_LimitError_init K) (k := 0) lk hcd F.cell sc_LimitError_init S rfl hm (by rfl) (fun vs H Q E h => len_LimitError_init h) (by rfl) (fun _ => by rfl) (fun _ => by rfl) (fun _ => by rfl) (by decide) (fun A outer s H vs Q E hr h => ?_), F.fnd, F.isf, ?_⟩
  · obtain ⟨a, h1, h2, h3⟩ := pure_LimitError_init (K := K) X.oex (fun f hf => no f hf) vs H Q E h
    exact ⟨a, tCons (tVar 1) (tNil), tOst K "reason" (tVar 0) (tVar 1), h1, h2, (pa_cons (pv 1) pa_nil), (pss_one (ps_ost (pv 0) (pv 1) rfl)), h3⟩
  · exact Binds.all fun us hl => match us, hl with | [_, _], _ => (by
      rcases hd with ⟨_, z⟩ | ⟨z, _⟩
      · subst z; rfl
      · exact absurd rfl z)

theorem c_LimitError : CalX P w K mg base 1 "LimitError" (He.ga K "LimitError") ["self", "reason"] [] (sp_LimitError_init K) := by
  obtain ⟨f, fd, h1, h2, h3, h4⟩ := ok_LimitError_init e
  exact ⟨f, fd, [], h1, g_LimitError e, (x_LimitError e).oex, h2, h3, h4, .nil⟩
theorem ok_PowerCut_init : ∃ f fd, FnOk P w K mg base (L2.CX P w) 1 f fd ["self", "written"] (sp_PowerCut_init K) ∧ PySem.W.findIn K (.ref (He.ga K "PowerCut")) "__init__" = some (some (.ref f)) ∧ PySem.W.isFn K (.ref f) = true ∧ Binds K fd ["self", "written"] [] := by
  obtain ⟨h1, h2⟩ := e.c.sups dS_1 (List.mem_of_getElem? (i := 1) rfl)
  obtain ⟨cl, cc, fd, F, S, X, no⟩ := DefS.told (d := dS_1) e.top h1 h2 rfl
  obtain ⟨oc, od, dV, kV, doc, pm, an, ct, osl, e0, lk, hcd, hd⟩ := F.ex
  have hm := m_super e
  subst e0
  refine ⟨_, _, sup_ok (N := ["self", "written", "__class__"]) (ps := ["self", "written"]) (sp := sp_PowerCut_init K) (k := 0) lk hcd F.cell sc_PowerCut_init S rfl hm (by rfl) (fun vs H Q E h => len_PowerCut_init h) (by rfl) (fun _ => by rfl) (fun _ => by rfl) (fun _ => by rfl) (by decide) (fun A outer s H vs Q E hr h => ?_), F.fnd, F.isf, ?_⟩
  · obtain ⟨a, h1, h2, h3⟩ := pure_PowerCut_init (K := K) X.oex (fun f hf => no f hf) vs H Q E h
    exact ⟨a, tCons (tFs [tC (.str "no power behind "), tFmt (tVar 1), tC (.str " bytes")]) (tNil), tOst K "written" (tVar 0) (tVar 1), h1, h2, (pa_cons (pe_joined (PJ.cons pe_str (PJ.cons (pe_fmt (pv 1)) (PJ.cons pe_str PJ.nil)))) pa_nil), (pss_one (ps_ost (pv 0) (pv 1) rfl)), h3⟩
  · exact Binds.all fun us hl => match us, hl with | [_, _], _ => (by
      rcases hd with ⟨_, z⟩ | ⟨z, _⟩
      · subst z; rfl
      · exact absurd rfl z)

theorem c_PowerCut : CalX P w K mg base 1 "PowerCut" (He.ga K "PowerCut") ["self", "written"] [] (sp_PowerCut_init K) := by
  obtain ⟨f, fd, h1, h2, h3, h4⟩ := ok_PowerCut_init e
  exact ⟨f, fd, [], h1, g_PowerCut e, (x_PowerCut e).oex, h2, h3, h4, .nil⟩
theorem ok_byte_of : ∃ fd, FunD K "byte_of" "byte_of" (defArgs s_byte_of) (defBody s_byte_of) (defScope s_byte_of) [] [] (He.fAd K ("byte_of", none)) fd ∧ FnOk P w K mg base (L2.CX P w) 1 (He.fAd K ("byte_of", none)) fd ["sign"] (sp_byte_of K) := by
  obtain ⟨fd, F⟩ : ∃ fd, FunD K "byte_of" "byte_of" (defArgs s_byte_of) (defBody s_byte_of) (defScope s_byte_of) [] [] (He.fAd K ("byte_of", none)) fd := e.c.toSays.def_ 0 (d := d_0)
  refine ⟨fd, F, F.ok sc_byte_of (fun vs H Q E h => len_byte_of h) (fun cdv A outer s H vs Q E hr h => ?_)⟩
  have g_SIGNS := g_SIGNS e
  refine ⟨t_byte_of K, ?_, pure_byte_of  vs H Q E h⟩
  refine PSs.nox ?_
  exact (pss_one (ps_ret (pe_op op_add (pe_bm PySem.F.plainAttrs_str PySem.F.slot_str_find PySem.F.type_str_find mt_find (pe_glob rfl g_SIGNS.choose_spec ⟨_, rfl⟩) (pa_cons (pv 0) pa_nil)) pe_int)))
theorem c_byte_of : Cal P w K mg base (L2.CX P w) 1 "byte_of" ["sign"] [] (sp_byte_of K) := by
  obtain ⟨fd, F, ok⟩ := ok_byte_of e
  have hb : ∃ ds, Vals [] ds ∧ Binds K fd ["sign"] ds := ⟨[], .nil, F.bindsN fun _ _ _ _ _ _ us hl => match us, hl with | [_], _ => rfl⟩
  obtain ⟨ds, h1, h2⟩ := hb
  exact ⟨_, fd, ds, ok, g_byte_of e, F.kp, h2, h1⟩
theorem ok_bytes_of : ∃ fd, FunD K "bytes_of" "bytes_of" (defArgs s_bytes_of) (defBody s_bytes_of) (defScope s_bytes_of) [] [] (He.fAd K ("bytes_of", none)) fd ∧ FnOk P w K mg base (L2.CX P w) 2 (He.fAd K ("bytes_of", none)) fd ["text"] (sp_bytes_of K) := by
  obtain ⟨fd, F⟩ : ∃ fd, FunD K "bytes_of" "bytes_of" (defArgs s_bytes_of) (defBody s_bytes_of) (defScope s_bytes_of) [] [] (He.fAd K ("bytes_of", none)) fd := e.c.toSays.def_ 1 (d := d_1)
  refine ⟨fd, F, F.ok sc_bytes_of (fun vs H Q E h => len_bytes_of h) (fun cdv A outer s H vs Q E hr h => ?_)⟩
  have c_byte_of := c_byte_of e
  refine ⟨t_bytes_of K, ?_, pure_bytes_of  vs H Q E h⟩
  refine PSs.nox ?_
  exact (pss_one (ps_ret (pe_lc (own := [("sign", 1)]) (g := gName 1) (by rfl) sc_bytes_of.nd (pi_str (pv 0)) (blkOk_by (own := [("sign", 1)]) (N := ["text", "sign"]) (sc := defScope s_bytes_of) (by decide +kernel)) (fun _ _ _ _ _ => pg_name (i := 1) sc_bytes_of.nd rfl (by first | exact Or.inl rfl | exact Or.inr rfl)) (fun _ _ _ _ _ => pts_nil) (fun _ _ _ _ _ => (pc c_byte_of hr passL (pa_cons (pv 1) pa_nil))))))
theorem c_bytes_of : Cal P w K mg base (L2.CX P w) 2 "bytes_of" ["text"] [] (sp_bytes_of K) := by
  obtain ⟨fd, F, ok⟩ := ok_bytes_of e
  have hb : ∃ ds, Vals [] ds ∧ Binds K fd ["text"] ds := ⟨[], .nil, F.bindsN fun _ _ _ _ _ _ us hl => match us, hl with | [_], _ => rfl⟩
  obtain ⟨ds, h1, h2⟩ := hb
  exact ⟨_, fd, ds, ok, g_bytes_of e, F.kp, h2, h1⟩
theorem ok_text_of : ∃ fd, FunD K "text_of" "text_of" (defArgs s_text_of) (defBody s_text_of) (defScope s_text_of) [] [] (He.fAd K ("text_of", none)) fd ∧ FnOk P w K mg base (L2.CX P w) 1 (He.fAd K ("text_of", none)) fd ["row"] (sp_text_of K) := by
  obtain ⟨fd, F⟩ : ∃ fd, FunD K "text_of" "text_of" (defArgs s_text_of) (defBody s_text_of) (defScope s_text_of) [] [] (He.fAd K ("text_of", none)) fd := e.c.toSays.def_ 2 (d := d_2)
  refine ⟨fd, F, F.ok sc_text_of (fun vs H Q E h => len_text_of h) (fun cdv A outer s H vs Q E hr h => ?_)⟩
  have g_SIGNS := g_SIGNS e
  refine ⟨t_text_of K, ?_, pure_text_of  vs H Q E h⟩
  refine PSs.nox ?_
  exact (pss_one (ps_ret (pe_join pe_str (pe_lc (own := [("byte", 1)]) (g := gName 1) (by rfl) sc_text_of.nd (pi_list (pv 0)) (blkOk_by (own := [("byte", 1)]) (N := ["row", "byte"]) (sc := defScope s_text_of) (by decide +kernel)) (fun _ _ _ _ _ => pg_name (i := 1) sc_text_of.nd rfl (by first | exact Or.inl rfl | exact Or.inr rfl)) (fun _ _ _ _ _ => pts_nil) (fun _ _ _ _ _ => (pe_ix ix_str (pe_glob rfl g_SIGNS.choose_spec ⟨_, rfl⟩) (pe_op op_sub (pv 1) pe_int) (fun _ _ => rfl)))))))
theorem c_text_of : Cal P w K mg base (L2.CX P w) 1 "text_of" ["row"] [] (sp_text_of K) := by
  obtain ⟨fd, F, ok⟩ := ok_text_of e
  have hb : ∃ ds, Vals [] ds ∧ Binds K fd ["row"] ds := ⟨[], .nil, F.bindsN fun _ _ _ _ _ _ us hl => match us, hl with | [_], _ => rfl⟩
  obtain ⟨ds, h1, h2⟩ := hb
  exact ⟨_, fd, ds, ok, g_text_of e, F.kp, h2, h1⟩
theorem ok_area_size : ∃ fd, FunD K "area_size" "area_size" (defArgs s_area_size) (defBody s_area_size) (defScope s_area_size) [] [] (He.fAd K ("area_size", none)) fd ∧ FnOk P w K mg base (L2.CX P w) 1 (He.fAd K ("area_size", none)) fd ["device"] (sp_area_size K) := by
  obtain ⟨fd, F⟩ : ∃ fd, FunD K "area_size" "area_size" (defArgs s_area_size) (defBody s_area_size) (defScope s_area_size) [] [] (He.fAd K ("area_size", none)) fd := e.c.toSays.def_ 3 (d := d_3)
  refine ⟨fd, F, F.ok sc_area_size (fun vs H Q E h => len_area_size h) (fun cdv A outer s H vs Q E hr h => ?_)⟩
  refine ⟨t_area_size K, ?_, pure_area_size (cl_Device e) vs H Q E h⟩
  refine PSs.nox ?_
  exact (pss_one (ps_ret (pe_op op_fdiv (pe_op op_sub (pe_fld (pv 0) rfl) pe_int) pe_int)))
theorem c_area_size : Cal P w K mg base (L2.CX P w) 1 "area_size" ["device"] [] (sp_area_size K) := by
  obtain ⟨fd, F, ok⟩ := ok_area_size e
  have hb : ∃ ds, Vals [] ds ∧ Binds K fd ["device"] ds := ⟨[], .nil, F.bindsN fun _ _ _ _ _ _ us hl => match us, hl with | [_], _ => rfl⟩
  obtain ⟨ds, h1, h2⟩ := hb
  exact ⟨_, fd, ds, ok, g_area_size e, F.kp, h2, h1⟩
theorem ok_area_start : ∃ fd, FunD K "area_start" "area_start" (defArgs s_area_start) (defBody s_area_start) (defScope s_area_start) [] [] (He.fAd K ("area_start", none)) fd ∧ FnOk P w K mg base (L2.CX P w) 2 (He.fAd K ("area_start", none)) fd ["device", "number"] (sp_area_start K) := by
  obtain ⟨fd, F⟩ : ∃ fd, FunD K "area_start" "area_start" (defArgs s_area_start) (defBody s_area_start) (defScope s_area_start) [] [] (He.fAd K ("area_start", none)) fd := e.c.toSays.def_ 4 (d := d_4)
  refine ⟨fd, F, F.ok sc_area_start (fun vs H Q E h => len_area_start h) (fun cdv A outer s H vs Q E hr h => ?_)⟩
  have c_area_size := c_area_size e
  refine ⟨t_area_start K, ?_, pure_area_start (cl_Device e) vs H Q E h⟩
  refine PSs.nox ?_
  exact (pss_one (ps_ret (pe_op op_add pe_int (pe_op op_mul (pe_op op_sub (pv 1) pe_int) (pc c_area_size hr passL (pa_cons (pv 0) pa_nil))))))
theorem c_area_start : Cal P w K mg base (L2.CX P w) 2 "area_start" ["device", "number"] [] (sp_area_start K) := by
  obtain ⟨fd, F, ok⟩ := ok_area_start e
  have hb : ∃ ds, Vals [] ds ∧ Binds K fd ["device", "number"] ds := ⟨[], .nil, F.bindsN fun _ _ _ _ _ _ us hl => match us, hl with | [_, _], _ => rfl⟩
  obtain ⟨ds, h1, h2⟩ := hb
  exact ⟨_, fd, ds, ok, g_area_start e, F.kp, h2, h1⟩
theorem ok_valid_area : ∃ fd, FunD K "valid_area" "valid_area" (defArgs s_valid_area) (defBody s_valid_area) (defScope s_valid_area) [] [] (He.fAd K ("valid_area", none)) fd ∧ FnOk P w K mg base (L2.CX P w) 1 (He.fAd K ("valid_area", none)) fd ["device"] (sp_valid_area K) := by
  obtain ⟨fd, F⟩ : ∃ fd, FunD K "valid_area" "valid_area" (defArgs s_valid_area) (defBody s_valid_area) (defScope s_valid_area) [] [] (He.fAd K ("valid_area", none)) fd := e.c.toSays.def_ 5 (d := d_5)
  refine ⟨fd, F, F.ok sc_valid_area (fun vs H Q E h => len_valid_area h) (fun cdv A outer s H vs Q E hr h => ?_)⟩
  refine ⟨t_valid_area K, ?_, pure_valid_area (cl_Device e) vs H Q E h⟩
  refine PSs.nox ?_
  exact (pss_cons (ps_set (i := 1) sc_valid_area.nd rfl (by first | exact Or.inl rfl | exact Or.inr rfl) (pe_ix ix_list (pe_fld (pv 0) rfl) pe_int (fun _ _ => rfl))) (pss_cons (ps_if (PW.pt (pw_or (pt_cmpR op_eq (pv 1) pe_int (nomark _)) (pw_or1 (pt_cmpR op_eq (pv 1) pe_int (nomark _))))) (pss_one (ps_ret (pv 1))) pss_nil) (pss_one (ps_ret pe_non))))
theorem c_valid_area : Cal P w K mg base (L2.CX P w) 1 "valid_area" ["device"] [] (sp_valid_area K) := by
  obtain ⟨fd, F, ok⟩ := ok_valid_area e
  have hb : ∃ ds, Vals [] ds ∧ Binds K fd ["device"] ds := ⟨[], .nil, F.bindsN fun _ _ _ _ _ _ us hl => match us, hl with | [_], _ => rfl⟩
  obtain ⟨ds, h1, h2⟩ := hb
  exact ⟨_, fd, ds, ok, g_valid_area e, F.kp, h2, h1⟩
theorem ok_record_bytes : ∃ fd, FunD K "record_bytes" "record_bytes" (defArgs s_record_bytes) (defBody s_record_bytes) (defScope s_record_bytes) [] [] (He.fAd K ("record_bytes", none)) fd ∧ FnOk P w K mg base (L2.CX P w) 3 (He.fAd K ("record_bytes", none)) fd ["text"] (sp_record_bytes K) := by
  obtain ⟨fd, F⟩ : ∃ fd, FunD K "record_bytes" "record_bytes" (defArgs s_record_bytes) (defBody s_record_bytes) (defScope s_record_bytes) [] [] (He.fAd K ("record_bytes", none)) fd := e.c.toSays.def_ 6 (d := d_6)
  refine ⟨fd, F, F.ok sc_record_bytes (fun vs H Q E h => len_record_bytes h) (fun cdv A outer s H vs Q E hr h => ?_)⟩
  have m_len := m_len e
  have g_RECORD := g_RECORD e
  have c_bytes_of := c_bytes_of e
  refine ⟨t_record_bytes K, ?_, pure_record_bytes  vs H Q E h⟩
  refine PSs.nox ?_
  exact (pss_cons (ps_set (i := 1) sc_record_bytes.nd rfl (by first | exact Or.inl rfl | exact Or.inr rfl) (pe_callB call_len_str (by rfl) m_len b_len (pa_cons (pv 0) pa_nil))) (pss_one (ps_ret (pe_op op_cat (pe_lst (pa_cons (pe_glob rfl g_RECORD.choose_spec ⟨_, rfl⟩) (pa_cons (pe_op op_mod (pv 1) pe_int) (pa_cons (pe_op op_fdiv (pv 1) pe_int) pa_nil)))) (pc c_bytes_of hr passL (pa_cons (pv 0) pa_nil))))))
theorem c_record_bytes : Cal P w K mg base (L2.CX P w) 3 "record_bytes" ["text"] [] (sp_record_bytes K) := by
  obtain ⟨fd, F, ok⟩ := ok_record_bytes e
  have hb : ∃ ds, Vals [] ds ∧ Binds K fd ["text"] ds := ⟨[], .nil, F.bindsN fun _ _ _ _ _ _ us hl => match us, hl with | [_], _ => rfl⟩
  obtain ⟨ds, h1, h2⟩ := hb
  exact ⟨_, fd, ds, ok, g_record_bytes e, F.kp, h2, h1⟩
theorem ok_Device_read : ∃ fd, FunD K "read" "Device.read" (defArgs s_Device_read) (defBody s_Device_read) (defScope s_Device_read) [] [] (He.fAd K ("Device", some "read")) fd ∧ FnOk P w K mg base (L2.CX P w) 1 (He.fAd K ("Device", some "read")) fd ["self", "start", "many"] (sp_Device_read K) := by
  obtain ⟨fd, F⟩ : ∃ fd, FunD K "read" "Device.read" (defArgs s_Device_read) (defBody s_Device_read) (defScope s_Device_read) [] [] (He.fAd K ("Device", some "read")) fd := e.c.toSays.def_ 16 (d := d_16)
  refine ⟨fd, F, F.ok sc_Device_read (fun vs H Q E h => len_Device_read h) (fun cdv A outer s H vs Q E hr h => ?_)⟩
  refine ⟨t_Device_read K, ?_, pure_Device_read (cl_Device e) vs H Q E h⟩
  refine PSs.nox ?_
  exact (pss_one (ps_ret (pe_slice sl_list (pe_fld (pv 0) rfl) (po_some (pv 1)) (po_some (pe_op op_add (pv 1) (pv 2))))))
theorem c_Device_read_2 : CalM P w K mg base (L2.CX P w) 1 (He.ga K "Device") "read" ["self", "start", "many"] [] (sp_Device_read K) := by
  obtain ⟨fd, F, ok⟩ := ok_Device_read e
  have hb : ∃ ds, Vals [] ds ∧ Binds K fd ["self", "start", "many"] ds := ⟨[], .nil, F.bindsN fun _ _ _ _ _ _ us hl => match us, hl with | [_, _, _], _ => rfl⟩
  obtain ⟨ds, h1, h2⟩ := hb
  exact ⟨_, fd, ds, ok, k_Device e, h_Device_read e, h2, h1⟩
theorem ok_read_records : ∃ fd, FunD K "read_records" "read_records" (defArgs s_read_records) (defBody s_read_records) (defScope s_read_records) [] [] (He.fAd K ("read_records", none)) fd ∧ FnOk P w K mg base (L2.CX P w) 3 (He.fAd K ("read_records", none)) fd ["device", "number"] (sp_read_records K) := by
  obtain ⟨fd, F⟩ : ∃ fd, FunD K "read_records" "read_records" (defArgs s_read_records) (defBody s_read_records) (defScope s_read_records) [] [] (He.fAd K ("read_records", none)) fd := e.c.toSays.def_ 7 (d := d_7)
  refine ⟨fd, F, F.ok sc_read_records (fun vs H Q E h => len_read_records h) (fun cdv A outer s H vs Q E hr h => ?_)⟩
  have c_area_start := c_area_start e
  have g_RECORD := g_RECORD e
  have c_text_of := c_text_of e
  have c_Device_read_2 := c_Device_read_2 e
  have g_PREFIX := g_PREFIX e
  refine ⟨t_read_records K, ?_, pure_read_records (cl_Device e) vs H Q E h⟩
  refine PSs.nox ?_
  exact (pss_cons (ps_set (i := 2) sc_read_records.nd rfl (by first | exact Or.inl rfl | exact Or.inr rfl) (pc c_area_start hr passL (pa_cons (pv 0) (pa_cons (pv 1) pa_nil)))) (pss_cons (ps_set (i := 3) sc_read_records.nd rfl (by first | exact Or.inl rfl | exact Or.inr rfl) (pe_lst pa_nil)) (pss_cons (ps_while PassesOwn.never (pt_cmpR op_eq (pe_ix ix_list (pe_fld (pv 0) rfl) (pv 2) (fun _ _ => rfl)) (pe_glob rfl g_RECORD.choose_spec ⟨_, rfl⟩) (nomark _)) (pss_cons (ps_set (i := 4) sc_read_records.nd rfl (by first | exact Or.inl rfl | exact Or.inr rfl) (pe_op op_add (pe_ix ix_list (pe_fld (pv 0) rfl) (pe_op op_add (pv 2) pe_int) (fun _ _ => rfl)) (pe_op op_mul pe_int (pe_ix ix_list (pe_fld (pv 0) rfl) (pe_op op_add (pv 2) pe_int) (fun _ _ => rfl))))) (pss_cons (ps_expr (pe_bm PySem.F.plainAttrs_list PySem.F.slot_list_append PySem.F.type_list_append mt_append (pv 3) (pa_cons (pc c_text_of hr passL (pa_cons (pcm (pv 0) c_Device_read_2 hr passL (pa_cons (pe_op op_add (pv 2) (pe_glob rfl g_PREFIX.choose_spec ⟨_, rfl⟩)) (pa_cons (pv 4) pa_nil))) pa_nil)) pa_nil))) (pss_one (ps_aug (i := 2) sc_read_records.nd rfl (by first | exact Or.inl rfl | exact Or.inr rfl) (pe_op op_add (pe_glob rfl g_PREFIX.choose_spec ⟨_, rfl⟩) (pv 4)) ip_add))))) (pss_one (ps_ret (pe_tup (pa_cons (pv 3) (pa_cons (pv 2) pa_nil))))))))
theorem c_read_records : Cal P w K mg base (L2.CX P w) 3 "read_records" ["device", "number"] [] (sp_read_records K) := by
  obtain ⟨fd, F, ok⟩ := ok_read_records e
  have hb : ∃ ds, Vals [] ds ∧ Binds K fd ["device", "number"] ds := ⟨[], .nil, F.bindsN fun _ _ _ _ _ _ us hl => match us, hl with | [_, _], _ => rfl⟩
  obtain ⟨ds, h1, h2⟩ := hb
  exact ⟨_, fd, ds, ok, g_read_records e, F.kp, h2, h1⟩
theorem ok_Device_write : ∃ fd, FunD K "write" "Device.write" (defArgs s_Device_write) (defBody s_Device_write) (defScope s_Device_write) [] [] (He.fAd K ("Device", some "write")) fd ∧ FnOk P w K mg base (L2.CX P w) 3 (He.fAd K ("Device", some "write")) fd ["self", "start", "row"] (sp_Device_write K) := by
  obtain ⟨fd, F⟩ : ∃ fd, FunD K "write" "Device.write" (defArgs s_Device_write) (defBody s_Device_write) (defScope s_Device_write) [] [] (He.fAd K ("Device", some "write")) fd := e.c.toSays.def_ 15 (d := d_15)
  refine ⟨fd, F, F.ok sc_Device_write (fun vs H Q E h => len_Device_write h) (fun cdv A outer s H vs Q E hr h => ?_)⟩
  have c_PowerCut := c_PowerCut e
  refine ⟨t_Device_write K (fun cls d _ H => E cls d H), ?_, pure_Device_write (cl_Device e) (x_PowerCut e) vs H Q E h⟩
  have tk : Takes (cxOf (L2.CX P w) P w K mg base ["self", "start", "row", "place", "byte"] "Device.write" (defScope s_Device_write) (He.fAd K ("Device", some "write")) cdv A outer s H E) (fun cls d _ H => E cls d H) := takes_of rfl rfl rfl rfl
  exact (pss_cons (ps_set (i := 3) sc_Device_write.nd rfl (by first | exact Or.inl rfl | exact Or.inr rfl) (pv 1)) (pss_one (ps_for (passes_of rfl) rfl (pi_list (pv 2)) (pg_name (i := 4) sc_Device_write.nd rfl (by first | exact Or.inl rfl | exact Or.inr rfl)) (pss_cons (ps_if (pt_cmpR op_notN1 (pe_fld (pv 0) rfl) pe_non (nomark _)) (pss_cons (ps_if (pt_cmpR op_eq (pe_fld (pv 0) rfl) pe_int (nomark _)) (pss_one (prz c_PowerCut rfl hr tk (pa_cons (pe_fld (pv 0) rfl) pa_nil))) pss_nil) (pss_one (ps_fldaug (pv 0) pe_int in_sub))) pss_nil) (pss_cons (ps_asg (pv 4) (pg_sub (pe_fld (pv 0) rfl) (pv 3) set_list)) (pss_cons (ps_fldaug (pv 0) pe_int in_add) (pss_one (ps_aug (i := 3) sc_Device_write.nd rfl (by first | exact Or.inl rfl | exact Or.inr rfl) pe_int ip_add))))))))
theorem c_Device_write_2 : CalM P w K mg base (L2.CX P w) 3 (He.ga K "Device") "write" ["self", "start", "row"] [] (sp_Device_write K) := by
  obtain ⟨fd, F, ok⟩ := ok_Device_write e
  have hb : ∃ ds, Vals [] ds ∧ Binds K fd ["self", "start", "row"] ds := ⟨[], .nil, F.bindsN fun _ _ _ _ _ _ us hl => match us, hl with | [_, _, _], _ => rfl⟩
  obtain ⟨ds, h1, h2⟩ := hb
  exact ⟨_, fd, ds, ok, k_Device e, h_Device_write e, h2, h1⟩
theorem ok_Journal_init : ∃ fd, FunD K "__init__" "Journal.__init__" (defArgs s_Journal_init) (defBody s_Journal_init) (defScope s_Journal_init) [] [] (He.fAd K ("Journal", some "__init__")) fd ∧ FnOk P w K mg base (L2.CX P w) 1 (He.fAd K ("Journal", some "__init__")) fd ["self", "device"] (sp_Journal_init K) := by
  obtain ⟨fd, F⟩ : ∃ fd, FunD K "__init__" "Journal.__init__" (defArgs s_Journal_init) (defBody s_Journal_init) (defScope s_Journal_init) [] [] (He.fAd K ("Journal", some "__init__")) fd := e.c.toSays.def_ 9 (d := d_9)
  refine ⟨fd, F, F.ok sc_Journal_init (fun vs H Q E h => len_Journal_init h) (fun cdv A outer s H vs Q E hr h => ?_)⟩
  refine ⟨t_Journal_init K, ?_, pure_Journal_init (cl_Journal e) vs H Q E h⟩
  refine PSs.nox ?_
  exact (pss_one (ps_fld (pv 0) (pv 1) rfl))
theorem c_Journal_1 : CalC P w K mg base (L2.CX P w) 1 "Journal" (He.ga K "Journal") ["self", "device"] [] (sp_Journal_init K) := by
  obtain ⟨fd, F, ok⟩ := ok_Journal_init e
  have hb : ∃ ds, Vals [] ds ∧ Binds K fd ["self", "device"] ds := ⟨[], .nil, F.bindsN fun _ _ _ _ _ _ us hl => match us, hl with | [_, _], _ => rfl⟩
  obtain ⟨ds, h1, h2⟩ := hb
  exact ⟨_, fd, ds, ok, g_Journal e, mk_Journal e, h2, h1⟩
theorem ok_format_device : ∃ fd, FunD K "format_device" "format_device" (defArgs s_format_device) (defBody s_format_device) (defScope s_format_device) [] [] (He.fAd K ("format_device", none)) fd ∧ FnOk P w K mg base (L2.CX P w) 4 (He.fAd K ("format_device", none)) fd ["device"] (sp_format_device K) := by
  obtain ⟨fd, F⟩ : ∃ fd, FunD K "format_device" "format_device" (defArgs s_format_device) (defBody s_format_device) (defScope s_format_device) [] [] (He.fAd K ("format_device", none)) fd := e.c.toSays.def_ 8 (d := d_8)
  refine ⟨fd, F, F.ok sc_format_device (fun vs H Q E h => len_format_device h) (fun cdv A outer s H vs Q E hr h => ?_)⟩
  have c_LimitError := c_LimitError e
  have c_Device_write_2 := c_Device_write_2 e
  have c_area_start := c_area_start e
  have g_END := g_END e
  have c_Journal_1 := c_Journal_1 e
  refine ⟨t_format_device K (fun cls d _ H => E cls d H), ?_, pure_format_device (cl_Device e) (cl_Journal e) (x_LimitError e) vs H Q E h⟩
  have tk : Takes (cxOf (L2.CX P w) P w K mg base ["device"] "format_device" (defScope s_format_device) (He.fAd K ("format_device", none)) cdv A outer s H E) (fun cls d _ H => E cls d H) := takes_of rfl rfl rfl rfl
  exact (pss_cons (ps_if (pt_cmpR op_lt (pe_fld (pv 0) rfl) pe_int (nomark _)) (pss_one (prz c_LimitError rfl hr tk (pa_cons pe_str pa_nil))) pss_nil) (pss_cons (ps_expr (pcmW (pv 0) c_Device_write_2 hr tk (pa_cons pe_int (pa_cons (pe_lst (pa_cons pe_int pa_nil)) pa_nil)))) (pss_cons (ps_expr (pcmW (pv 0) c_Device_write_2 hr tk (pa_cons (pc c_area_start hr passL (pa_cons (pv 0) (pa_cons pe_int pa_nil))) (pa_cons (pe_lst (pa_cons (pe_glob rfl g_END.choose_spec ⟨_, rfl⟩) pa_nil)) pa_nil)))) (pss_cons (ps_expr (pcmW (pv 0) c_Device_write_2 hr tk (pa_cons pe_int (pa_cons (pe_lst (pa_cons pe_int pa_nil)) pa_nil)))) (pss_one (ps_ret (pcc c_Journal_1 hr passL (pa_cons (pv 0) pa_nil))))))))
theorem c_format_device : Cal P w K mg base (L2.CX P w) 4 "format_device" ["device"] [] (sp_format_device K) := by
  obtain ⟨fd, F, ok⟩ := ok_format_device e
  have hb : ∃ ds, Vals [] ds ∧ Binds K fd ["device"] ds := ⟨[], .nil, F.bindsN fun _ _ _ _ _ _ us hl => match us, hl with | [_], _ => rfl⟩
  obtain ⟨ds, h1, h2⟩ := hb
  exact ⟨_, fd, ds, ok, g_format_device e, F.kp, h2, h1⟩
theorem ok_Journal_texts : ∃ fd, FunD K "texts" "Journal.texts" (defArgs s_Journal_texts) (defBody s_Journal_texts) (defScope s_Journal_texts) [] [] (He.fAd K ("Journal", some "texts")) fd ∧ FnOk P w K mg base (L2.CX P w) 4 (He.fAd K ("Journal", some "texts")) fd ["self"] (sp_Journal_texts K) := by
  obtain ⟨fd, F⟩ : ∃ fd, FunD K "texts" "Journal.texts" (defArgs s_Journal_texts) (defBody s_Journal_texts) (defScope s_Journal_texts) [] [] (He.fAd K ("Journal", some "texts")) fd := e.c.toSays.def_ 10 (d := d_10)
  refine ⟨fd, F, F.ok sc_Journal_texts (fun vs H Q E h => len_Journal_texts h) (fun cdv A outer s H vs Q E hr h => ?_)⟩
  have c_read_records := c_read_records e
  have c_valid_area := c_valid_area e
  refine ⟨t_Journal_texts K, ?_, pure_Journal_texts (cl_Device e) (cl_Journal e) vs H Q E h⟩
  refine PSs.nox ?_
  exact (pss_cons (ps_asg (pc c_read_records hr passL (pa_cons (pe_fld (pv 0) rfl) (pa_cons (pc c_valid_area hr passL (pa_cons (pe_fld (pv 0) rfl) pa_nil)) pa_nil))) (pg_tup (by rfl) (pgs_cons (pg_name (i := 1) sc_Journal_texts.nd rfl (by first | exact Or.inl rfl | exact Or.inr rfl)) (pgs_cons (pg_name (i := 2) sc_Journal_texts.nd rfl (by first | exact Or.inl rfl | exact Or.inr rfl)) pgs_nil)))) (pss_one (ps_ret (pv 1))))
theorem c_Journal_texts_0 : CalM P w K mg base (L2.CX P w) 4 (He.ga K "Journal") "texts" ["self"] [] (sp_Journal_texts K) := by
  obtain ⟨fd, F, ok⟩ := ok_Journal_texts e
  have hb : ∃ ds, Vals [] ds ∧ Binds K fd ["self"] ds := ⟨[], .nil, F.bindsN fun _ _ _ _ _ _ us hl => match us, hl with | [_], _ => rfl⟩
  obtain ⟨ds, h1, h2⟩ := hb
  exact ⟨_, fd, ds, ok, k_Journal e, h_Journal_texts e, h2, h1⟩
theorem ok_Journal_room : ∃ fd, FunD K "room" "Journal.room" (defArgs s_Journal_room) (defBody s_Journal_room) (defScope s_Journal_room) [] [] (He.fAd K ("Journal", some "room")) fd ∧ FnOk P w K mg base (L2.CX P w) 4 (He.fAd K ("Journal", some "room")) fd ["self"] (sp_Journal_room K) := by
  obtain ⟨fd, F⟩ : ∃ fd, FunD K "room" "Journal.room" (defArgs s_Journal_room) (defBody s_Journal_room) (defScope s_Journal_room) [] [] (He.fAd K ("Journal", some "room")) fd := e.c.toSays.def_ 11 (d := d_11)
  refine ⟨fd, F, F.ok sc_Journal_room (fun vs H Q E h => len_Journal_room h) (fun cdv A outer s H vs Q E hr h => ?_)⟩
  have c_valid_area := c_valid_area e
  have c_read_records := c_read_records e
  have c_area_start := c_area_start e
  have c_area_size := c_area_size e
  have g_PREFIX := g_PREFIX e
  refine ⟨t_Journal_room K, ?_, pure_Journal_room (cl_Device e) (cl_Journal e) vs H Q E h⟩
  refine PSs.nox ?_
  exact (pss_cons (ps_set (i := 1) sc_Journal_room.nd rfl (by first | exact Or.inl rfl | exact Or.inr rfl) (pc c_valid_area hr passL (pa_cons (pe_fld (pv 0) rfl) pa_nil))) (pss_cons (ps_asg (pc c_read_records hr passL (pa_cons (pe_fld (pv 0) rfl) (pa_cons (pv 1) pa_nil))) (pg_tup (by rfl) (pgs_cons (pg_name (i := 2) sc_Journal_room.nd rfl (by first | exact Or.inl rfl | exact Or.inr rfl)) (pgs_cons (pg_name (i := 3) sc_Journal_room.nd rfl (by first | exact Or.inl rfl | exact Or.inr rfl)) pgs_nil)))) (pss_cons (ps_set (i := 4) sc_Journal_room.nd rfl (by first | exact Or.inl rfl | exact Or.inr rfl) (pe_op op_add (pc c_area_start hr passL (pa_cons (pe_fld (pv 0) rfl) (pa_cons (pv 1) pa_nil))) (pc c_area_size hr passL (pa_cons (pe_fld (pv 0) rfl) pa_nil)))) (pss_one (ps_ret (pe_op op_sub (pe_op op_sub (pe_op op_sub (pv 4) (pv 3)) (pe_glob rfl g_PREFIX.choose_spec ⟨_, rfl⟩)) pe_int))))))
theorem c_Journal_room_0 : CalM P w K mg base (L2.CX P w) 4 (He.ga K "Journal") "room" ["self"] [] (sp_Journal_room K) := by
  obtain ⟨fd, F, ok⟩ := ok_Journal_room e
  have hb : ∃ ds, Vals [] ds ∧ Binds K fd ["self"] ds := ⟨[], .nil, F.bindsN fun _ _ _ _ _ _ us hl => match us, hl with | [_], _ => rfl⟩
  obtain ⟨ds, h1, h2⟩ := hb
  exact ⟨_, fd, ds, ok, k_Journal e, h_Journal_room e, h2, h1⟩
theorem ok_Journal_write_record : ∃ fd, FunD K "write_record" "Journal.write_record" (defArgs s_Journal_write_record) (defBody s_Journal_write_record) (defScope s_Journal_write_record) [] [] (He.fAd K ("Journal", some "write_record")) fd ∧ FnOk P w K mg base (L2.CX P w) 5 (He.fAd K ("Journal", some "write_record")) fd ["self", "text"] (sp_Journal_write_record K) := by
  obtain ⟨fd, F⟩ : ∃ fd, FunD K "write_record" "Journal.write_record" (defArgs s_Journal_write_record) (defBody s_Journal_write_record) (defScope s_Journal_write_record) [] [] (He.fAd K ("Journal", some "write_record")) fd := e.c.toSays.def_ 12 (d := d_12)
  refine ⟨fd, F, F.ok sc_Journal_write_record (fun vs H Q E h => len_Journal_write_record h) (fun cdv A outer s H vs Q E hr h => ?_)⟩
  have m_len := m_len e
  have c_Journal_room_0 := c_Journal_room_0 e
  have c_LimitError := c_LimitError e
  have c_read_records := c_read_records e
  have c_valid_area := c_valid_area e
  have c_record_bytes := c_record_bytes e
  have c_Device_write_2 := c_Device_write_2 e
  have g_END := g_END e
  have g_RECORD := g_RECORD e
  refine ⟨t_Journal_write_record K (fun cls d _ H => E cls d H), ?_, pure_Journal_write_record (cl_Device e) (cl_Journal e) (x_LimitError e) vs H Q E h⟩
  have tk : Takes (cxOf (L2.CX P w) P w K mg base ["self", "text", "texts", "place", "row"] "Journal.write_record" (defScope s_Journal_write_record) (He.fAd K ("Journal", some "write_record")) cdv A outer s H E) (fun cls d _ H => E cls d H) := takes_of rfl rfl rfl rfl
  exact (pss_cons (ps_if (pt_cmpR op_gt (pe_callB call_len_str (by rfl) m_len b_len (pa_cons (pv 1) pa_nil)) (pcm0 (pv 0) c_Journal_room_0 hr passL) (nomark _)) (pss_one (prz c_LimitError rfl hr tk (pa_cons pe_str pa_nil))) pss_nil) (pss_cons (ps_asg (pc c_read_records hr passL (pa_cons (pe_fld (pv 0) rfl) (pa_cons (pc c_valid_area hr passL (pa_cons (pe_fld (pv 0) rfl) pa_nil)) pa_nil))) (pg_tup (by rfl) (pgs_cons (pg_name (i := 2) sc_Journal_write_record.nd rfl (by first | exact Or.inl rfl | exact Or.inr rfl)) (pgs_cons (pg_name (i := 3) sc_Journal_write_record.nd rfl (by first | exact Or.inl rfl | exact Or.inr rfl)) pgs_nil)))) (pss_cons (ps_set (i := 4) sc_Journal_write_record.nd rfl (by first | exact Or.inl rfl | exact Or.inr rfl) (pc c_record_bytes hr passL (pa_cons (pv 1) pa_nil))) (pss_cons (ps_expr (pcmW (pe_fld (pv 0) rfl) c_Device_write_2 hr tk (pa_cons (pe_op op_add (pv 3) pe_int) (pa_cons (pe_op op_cat (pe_slice sl_list (pv 4) (po_some pe_int) po_none) (pe_lst (pa_cons (pe_glob rfl g_END.choose_spec ⟨_, rfl⟩) pa_nil))) pa_nil)))) (pss_one (ps_expr (pcmW (pe_fld (pv 0) rfl) c_Device_write_2 hr tk (pa_cons (pv 3) (pa_cons (pe_lst (pa_cons (pe_glob rfl g_RECORD.choose_spec ⟨_, rfl⟩) pa_nil)) pa_nil)))))))))
theorem c_Journal_write_record_1 : CalM P w K mg base (L2.CX P w) 5 (He.ga K "Journal") "write_record" ["self", "text"] [] (sp_Journal_write_record K) := by
  obtain ⟨fd, F, ok⟩ := ok_Journal_write_record e
  have hb : ∃ ds, Vals [] ds ∧ Binds K fd ["self", "text"] ds := ⟨[], .nil, F.bindsN fun _ _ _ _ _ _ us hl => match us, hl with | [_, _], _ => rfl⟩
  obtain ⟨ds, h1, h2⟩ := hb
  exact ⟨_, fd, ds, ok, k_Journal e, h_Journal_write_record e, h2, h1⟩
theorem ok_Device_init : ∃ fd, FunD K "__init__" "Device.__init__" (defArgs s_Device_init) (defBody s_Device_init) (defScope s_Device_init) [] [("power", .non)] (He.fAd K ("Device", some "__init__")) fd ∧ FnOk P w K mg base (L2.CX P w) 1 (He.fAd K ("Device", some "__init__")) fd ["self", "size", "power"] (sp_Device_init K) := by
  obtain ⟨fd, F⟩ : ∃ fd, FunD K "__init__" "Device.__init__" (defArgs s_Device_init) (defBody s_Device_init) (defScope s_Device_init) [] [("power", .non)] (He.fAd K ("Device", some "__init__")) fd := e.c.toSays.def_ 13 (d := d_13)
  refine ⟨fd, F, F.ok sc_Device_init (fun vs H Q E h => len_Device_init h) (fun cdv A outer s H vs Q E hr h => ?_)⟩
  have m_range := m_range e
  refine ⟨t_Device_init K, ?_, pure_Device_init (cl_Device e) vs H Q E h⟩
  refine PSs.nox ?_
  exact (pss_cons (ps_fld (pv 0) (pe_lc (own := [("place", 3)]) (g := gName 3) (by rfl) sc_Device_init.nd (pi_range1 (by rfl) m_range (pa_cons (pv 1) pa_nil)) (blkOk_by (own := [("place", 3)]) (N := ["self", "size", "power", "place"]) (sc := defScope s_Device_init) (by decide +kernel)) (fun _ _ _ _ _ => pg_name (i := 3) sc_Device_init.nd rfl (by first | exact Or.inl rfl | exact Or.inr rfl)) (fun _ _ _ _ _ => pts_nil) (fun _ _ _ _ _ => pe_int)) rfl) (pss_cons (ps_fld (pv 0) (pv 1) rfl) (pss_cons (ps_fld (pv 0) (pv 2) rfl) (pss_one (ps_fld (pv 0) pe_int rfl)))))
theorem c_Device_1 : CalC P w K mg base (L2.CX P w) 1 "Device" (He.ga K "Device") ["self", "size", "power"] [.non] (sp_Device_init K) := by
  obtain ⟨fd, F, ok⟩ := ok_Device_init e
  have hb : ∃ ds, Vals [.non] ds ∧ Binds K fd ["self", "size", "power"] ds := F.binds0 2 (fun z => nomatch z) rfl (fun _ _ _ _ _ _ us ks h1 h2 => match us, ks, h1, h2 with | [_, _], [_], _, _ => ⟨_, _, _, _, _, _, rfl, rfl, rfl⟩)
  obtain ⟨ds, h1, h2⟩ := hb
  exact ⟨_, fd, ds, ok, g_Device e, mk_Device e, h2, h1⟩
theorem ok_Device_recharge : ∃ fd, FunD K "recharge" "Device.recharge" (defArgs s_Device_recharge) (defBody s_Device_recharge) (defScope s_Device_recharge) [.non] [] (He.fAd K ("Device", some "recharge")) fd ∧ FnOk P w K mg base (L2.CX P w) 1 (He.fAd K ("Device", some "recharge")) fd ["self", "power"] (sp_Device_recharge K) := by
  obtain ⟨fd, F⟩ : ∃ fd, FunD K "recharge" "Device.recharge" (defArgs s_Device_recharge) (defBody s_Device_recharge) (defScope s_Device_recharge) [.non] [] (He.fAd K ("Device", some "recharge")) fd := e.c.toSays.def_ 14 (d := d_14)
  refine ⟨fd, F, F.ok sc_Device_recharge (fun vs H Q E h => len_Device_recharge h) (fun cdv A outer s H vs Q E hr h => ?_)⟩
  refine ⟨t_Device_recharge K, ?_, pure_Device_recharge (cl_Device e) vs H Q E h⟩
  refine PSs.nox ?_
  exact (pss_one (ps_fld (pv 0) (pv 1) rfl))
theorem c_Device_recharge_1 : CalM P w K mg base (L2.CX P w) 1 (He.ga K "Device") "recharge" ["self", "power"] [] (sp_Device_recharge K) := by
  obtain ⟨fd, F, ok⟩ := ok_Device_recharge e
  have hb : ∃ ds, Vals [] ds ∧ Binds K fd ["self", "power"] ds := F.binds1 2 1 (fun z => nomatch z) rfl (fun _ _ _ _ _ _ _ us its h1 h2 => match us, its, h1, h2 with | [_, _], [_], _, _ => ⟨_, rfl, rfl⟩)
  obtain ⟨ds, h1, h2⟩ := hb
  exact ⟨_, fd, ds, ok, k_Device e, h_Device_recharge e, h2, h1⟩
theorem c_Device_recharge_0 : CalM P w K mg base (L2.CX P w) 1 (He.ga K "Device") "recharge" ["self", "power"] [.non] (sp_Device_recharge K) := by
  obtain ⟨fd, F, ok⟩ := ok_Device_recharge e
  have hb : ∃ ds, Vals [.non] ds ∧ Binds K fd ["self", "power"] ds := F.binds1 1 0 (fun z => nomatch z) rfl (fun _ _ _ _ _ _ _ us its h1 h2 => match us, its, h1, h2 with | [_], [_], _, _ => ⟨_, rfl, rfl⟩)
  obtain ⟨ds, h1, h2⟩ := hb
  exact ⟨_, fd, ds, ok, k_Device e, h_Device_recharge e, h2, h1⟩
theorem ok__law_cell : ∃ fd, FunD K "_law_cell" "_law_cell" (defArgs s__law_cell) (defBody s__law_cell) (defScope s__law_cell) [] [] (He.fAd K ("_law_cell", none)) fd ∧ FnOk P w K mg base (L2.CX P w) 1 (He.fAd K ("_law_cell", none)) fd ["_law_script", "_law_k"] (sp__law_cell K) := by
  obtain ⟨fd, F⟩ : ∃ fd, FunD K "_law_cell" "_law_cell" (defArgs s__law_cell) (defBody s__law_cell) (defScope s__law_cell) [] [] (He.fAd K ("_law_cell", none)) fd := e.c.toSays.def_ 17 (d := d_17)
  refine ⟨fd, F, F.ok sc__law_cell (fun vs H Q E h => len__law_cell h) (fun cdv A outer s H vs Q E hr h => ?_)⟩
  have m_len := m_len e
  refine ⟨t__law_cell K, ?_, pure__law_cell  vs H Q E h⟩
  refine PSs.nox ?_
  exact (pss_cons (ps_if (pt_cmpR op_lt (pv 1) (pe_callB call_len_seq (by rfl) m_len b_len (pa_cons (pv 0) pa_nil)) (nomark _)) (pss_one (ps_ret (pe_ix ix_list (pv 0) (pv 1) (fun _ _ => rfl)))) pss_nil) (pss_one (ps_ret pe_int)))
theorem c__law_cell : Cal P w K mg base (L2.CX P w) 1 "_law_cell" ["_law_script", "_law_k"] [] (sp__law_cell K) := by
  obtain ⟨fd, F, ok⟩ := ok__law_cell e
  have hb : ∃ ds, Vals [] ds ∧ Binds K fd ["_law_script", "_law_k"] ds := ⟨[], .nil, F.bindsN fun _ _ _ _ _ _ us hl => match us, hl with | [_, _], _ => rfl⟩
  obtain ⟨ds, h1, h2⟩ := hb
  exact ⟨_, fd, ds, ok, g__law_cell e, F.kp, h2, h1⟩
theorem ok__law_digits : ∃ fd, FunD K "_law_digits" "_law_digits" (defArgs s__law_digits) (defBody s__law_digits) (defScope s__law_digits) [] [] (He.fAd K ("_law_digits", none)) fd ∧ FnOk P w K mg base (L2.CX P w) 2 (He.fAd K ("_law_digits", none)) fd ["_law_script", "_law_first", "_law_last"] (sp__law_digits K) := by
  obtain ⟨fd, F⟩ : ∃ fd, FunD K "_law_digits" "_law_digits" (defArgs s__law_digits) (defBody s__law_digits) (defScope s__law_digits) [] [] (He.fAd K ("_law_digits", none)) fd := e.c.toSays.def_ 18 (d := d_18)
  refine ⟨fd, F, F.ok sc__law_digits (fun vs H Q E h => len__law_digits h) (fun cdv A outer s H vs Q E hr h => ?_)⟩
  have m_range := m_range e
  have c__law_cell := c__law_cell e
  have m_int := m_int e
  refine ⟨t__law_digits K, ?_, pure__law_digits  vs H Q E h⟩
  refine PSs.nox ?_
  exact (pss_cons (ps_set (i := 3) sc__law_digits.nd rfl (by first | exact Or.inl rfl | exact Or.inr rfl) (pe_lst pa_nil)) (pss_cons (ps_for PassesOwn.never rfl (pi_range2 (by rfl) m_range (pa_cons (pv 1) (pa_cons (pv 2) pa_nil))) (pg_name (i := 4) sc__law_digits.nd rfl (by first | exact Or.inl rfl | exact Or.inr rfl)) (pss_cons (ps_set (i := 5) sc__law_digits.nd rfl (by first | exact Or.inl rfl | exact Or.inr rfl) (pc c__law_cell hr passL (pa_cons (pv 0) (pa_cons (pv 4) pa_nil)))) (pss_cons (ps_if (pt_cmpR op_lt (pv 5) pe_int (nomark _)) (pss_one (ps_set (i := 5) sc__law_digits.nd rfl (by first | exact Or.inl rfl | exact Or.inr rfl) (pe_op op_sub pe_int (pe_op op_mul pe_int (pv 5))))) pss_nil) (pss_one (ps_if (pt_cmpR op_ge (pv 5) (pe_op op_pow pe_int pe_int) (nomark _)) (pss_one (ps_for PassesOwn.never rfl (pi_range1 (by rfl) m_range (pa_cons pe_int pa_nil)) (pg_name (i := 6) sc__law_digits.nd rfl (by first | exact Or.inl rfl | exact Or.inr rfl)) (pss_one (ps_if (pt_cmpR op_gt (pv 5) pe_int (nomark _)) (pss_cons (ps_expr (pe_bm PySem.F.plainAttrs_list PySem.F.slot_list_append PySem.F.type_list_append mt_append (pv 3) (pa_cons (pe_op op_mod (pe_callTy call_int1 (by rfl) m_int b_int (pa_cons (pv 5) pa_nil)) pe_int) pa_nil))) (pss_one (ps_set (i := 5) sc__law_digits.nd rfl (by first | exact Or.inl rfl | exact Or.inr rfl) (pe_op op_fdiv (pv 5) pe_int)))) pss_nil)))) (pss_cons (ps_set (i := 7) sc__law_digits.nd rfl (by first | exact Or.inl rfl | exact Or.inr rfl) (pe_op op_mod (pe_callTy call_int1 (by rfl) m_int b_int (pa_cons (pe_op op_add (pe_op op_add (pe_op op_mul (pv 5) pe_int) (pe_op op_mul (pv 4) pe_int)) pe_int) pa_nil)) pe_int)) (pss_one (ps_for PassesOwn.never rfl (pi_range1 (by rfl) m_range (pa_cons pe_int pa_nil)) (pg_name (i := 6) sc__law_digits.nd rfl (by first | exact Or.inl rfl | exact Or.inr rfl)) (pss_cons (ps_set (i := 7) sc__law_digits.nd rfl (by first | exact Or.inl rfl | exact Or.inr rfl) (pe_op op_mod (pe_callTy call_int1 (by rfl) m_int b_int (pa_cons (pe_op op_add (pe_op op_add (pe_op op_mul (pv 7) pe_int) (pe_op op_mul pe_int (pv 6))) pe_int) pa_nil)) pe_int)) (pss_one (ps_expr (pe_bm PySem.F.plainAttrs_list PySem.F.slot_list_append PySem.F.type_list_append mt_append (pv 3) (pa_cons (pe_op op_mod (pe_callTy call_int1 (by rfl) m_int b_int (pa_cons (pe_op op_fdiv (pv 7) pe_int) pa_nil)) pe_int) pa_nil))))))))))))) (pss_one (ps_ret (pv 3)))))
theorem c__law_digits : Cal P w K mg base (L2.CX P w) 2 "_law_digits" ["_law_script", "_law_first", "_law_last"] [] (sp__law_digits K) := by
  obtain ⟨fd, F, ok⟩ := ok__law_digits e
  have hb : ∃ ds, Vals [] ds ∧ Binds K fd ["_law_script", "_law_first", "_law_last"] ds := ⟨[], .nil, F.bindsN fun _ _ _ _ _ _ us hl => match us, hl with | [_, _, _], _ => rfl⟩
  obtain ⟨ds, h1, h2⟩ := hb
  exact ⟨_, fd, ds, ok, g__law_digits e, F.kp, h2, h1⟩
theorem ok__law_draw : ∃ fd, FunD K "_law_draw" "_law_draw" (defArgs s__law_draw) (defBody s__law_draw) (defScope s__law_draw) [] [] (He.fAd K ("_law_draw", none)) fd ∧ FnOk P w K mg base (L2.CX P w) 1 (He.fAd K ("_law_draw", none)) fd ["_law_box", "_law_many"] (sp__law_draw K) := by
  obtain ⟨fd, F⟩ : ∃ fd, FunD K "_law_draw" "_law_draw" (defArgs s__law_draw) (defBody s__law_draw) (defScope s__law_draw) [] [] (He.fAd K ("_law_draw", none)) fd := e.c.toSays.def_ 19 (d := d_19)
  refine ⟨fd, F, F.ok sc__law_draw (fun vs H Q E h => len__law_draw h) (fun cdv A outer s H vs Q E hr h => ?_)⟩
  have m_len := m_len e
  have m_int := m_int e
  refine ⟨t__law_draw K, ?_, pure__law_draw  vs H Q E h⟩
  refine PSs.nox ?_
  exact (pss_cons (ps_set (i := 2) sc__law_draw.nd rfl (by first | exact Or.inl rfl | exact Or.inr rfl) (pe_ix ix_list (pv 0) pe_int (fun _ _ => rfl))) (pss_cons (ps_asg (pe_op op_add (pv 2) pe_int) (pg_sub (pv 0) pe_int set_list)) (pss_cons (ps_if (pt_cmpR op_lt (pv 2) (pe_callB call_len_seq (by rfl) m_len b_len (pa_cons (pe_ix ix_list (pv 0) pe_int (fun _ _ => rfl)) pa_nil)) (nomark _)) (pss_one (ps_ret (pe_op op_mod (pe_callTy call_int1 (by rfl) m_int b_int (pa_cons (pe_ix ix_list (pe_ix ix_list (pv 0) pe_int (fun _ _ => rfl)) (pv 2) (fun _ _ => rfl)) pa_nil)) (pv 1)))) pss_nil) (pss_one (ps_ret pe_int)))))
theorem c__law_draw : Cal P w K mg base (L2.CX P w) 1 "_law_draw" ["_law_box", "_law_many"] [] (sp__law_draw K) := by
  obtain ⟨fd, F, ok⟩ := ok__law_draw e
  have hb : ∃ ds, Vals [] ds ∧ Binds K fd ["_law_box", "_law_many"] ds := ⟨[], .nil, F.bindsN fun _ _ _ _ _ _ us hl => match us, hl with | [_, _], _ => rfl⟩
  obtain ⟨ds, h1, h2⟩ := hb
  exact ⟨_, fd, ds, ok, g__law_draw e, F.kp, h2, h1⟩
theorem ok__law_records : ∃ fd, FunD K "_law_records" "_law_records" (defArgs s__law_records) (defBody s__law_records) (defScope s__law_records) [] [] (He.fAd K ("_law_records", none)) fd ∧ FnOk P w K mg base (L2.CX P w) 5 (He.fAd K ("_law_records", none)) fd ["_law_journal"] (sp__law_records K) := by
  obtain ⟨fd, F⟩ : ∃ fd, FunD K "_law_records" "_law_records" (defArgs s__law_records) (defBody s__law_records) (defScope s__law_records) [] [] (He.fAd K ("_law_records", none)) fd := e.c.toSays.def_ 20 (d := d_20)
  refine ⟨fd, F, F.ok sc__law_records (fun vs H Q E h => len__law_records h) (fun cdv A outer s H vs Q E hr h => ?_)⟩
  have c_Journal_texts_0 := c_Journal_texts_0 e
  have m_list := m_list e
  have m_isinstance := m_isinstance e
  have m_str := m_str e
  refine ⟨t__law_records K, ?_, pure__law_records (cl_Device e) (cl_Journal e) vs H Q E h⟩
  refine PSs.nox ?_
  exact (pss_cons (ps_set (i := 1) sc__law_records.nd rfl (by first | exact Or.inl rfl | exact Or.inr rfl) (pcm0 (pv 0) c_Journal_texts_0 hr passL)) (pss_cons (ps_if (pt_not (pt_val (pe_callB call_isi (by rfl) m_isinstance b_isinstance (pa_cons (pv 1) (pa_cons (pe_bltn rfl m_list PyProof.Rows.Boot.«list» rfl) pa_nil))))) (pss_one (ps_ret pe_non)) pss_nil) (pss_cons (ps_for PassesOwn.never rfl (pi_list (pv 1)) (pg_name (i := 2) sc__law_records.nd rfl (by first | exact Or.inl rfl | exact Or.inr rfl)) (pss_one (ps_if (pt_not (pt_val (pe_callB call_isi (by rfl) m_isinstance b_isinstance (pa_cons (pv 2) (pa_cons (pe_bltn rfl m_str PyProof.Rows.Boot.«str» rfl) pa_nil))))) (pss_one (ps_ret pe_non)) pss_nil))) (pss_one (ps_ret (pv 1))))))
theorem c__law_records : Cal P w K mg base (L2.CX P w) 5 "_law_records" ["_law_journal"] [] (sp__law_records K) := by
  obtain ⟨fd, F, ok⟩ := ok__law_records e
  have hb : ∃ ds, Vals [] ds ∧ Binds K fd ["_law_journal"] ds := ⟨[], .nil, F.bindsN fun _ _ _ _ _ _ us hl => match us, hl with | [_], _ => rfl⟩
  obtain ⟨ds, h1, h2⟩ := hb
  exact ⟨_, fd, ds, ok, g__law_records e, F.kp, h2, h1⟩
theorem ok__law_formatted : ∃ fd, FunD K "_law_formatted" "_law_formatted" (defArgs s__law_formatted) (defBody s__law_formatted) (defScope s__law_formatted) [] [] (He.fAd K ("_law_formatted", none)) fd ∧ FnOk P w K mg base (L2.CX P w) 5 (He.fAd K ("_law_formatted", none)) fd ["_law_device"] (sp__law_formatted K) := by
  obtain ⟨fd, F⟩ : ∃ fd, FunD K "_law_formatted" "_law_formatted" (defArgs s__law_formatted) (defBody s__law_formatted) (defScope s__law_formatted) [] [] (He.fAd K ("_law_formatted", none)) fd := e.c.toSays.def_ 21 (d := d_21)
  refine ⟨fd, F, F.ok sc__law_formatted (fun vs H Q E h => len__law_formatted h) (fun cdv A outer s H vs Q E hr h => ?_)⟩
  have c_format_device := c_format_device e
  have g_PowerCut := g_PowerCut e
  have m_isinstance := m_isinstance e
  have g_LimitError := g_LimitError e
  have g_ClearfloorError := g_ClearfloorError e
  refine ⟨t__law_formatted K, ?_, pure__law_formatted (x_PowerCut e) (x_LimitError e) (x_ClearfloorError e) (s_PowerCut_ClearfloorError e) (s_LimitError_ClearfloorError e) (s_LimitError_PowerCut e) (no_LimitError e) vs H Q E h⟩
  refine PSs.nox ?_
  exact (pss_cons (ps_try_as rfl rfl sc__law_formatted.nd (i := 1) rfl rfl (x := "ClearfloorError") (c := .ref (He.ga K "ClearfloorError")) ⟨by rfl, by decide, Or.inl g_ClearfloorError⟩ takes0 (fun W1 pn1 xe1 tk1 po1 => (pss_one (ps_expr (pcW c_format_device hr tk1 (pa_cons (pv 0) pa_nil))))) (fun a1 oe1 cls1 d1 pn1 hz1 hf1 => (pss_cons (ps_if (pt_val (pe_callB (call_isX hz1 hf1) (by rfl) m_isinstance b_isinstance (pa_cons (pv 1) (pa_cons (pe_glob rfl g_PowerCut rfl) pa_nil)))) (pss_one (ps_ret pe_int)) pss_nil) (pss_cons (ps_if (PW.pt (pw_and (pt_val (pe_callB (call_isX hz1 hf1) (by rfl) m_isinstance b_isinstance (pa_cons (pv 1) (pa_cons (pe_glob rfl g_LimitError rfl) pa_nil)))) (pw_and1 (pt_cmpR op_eq (pe_xd hz1 hf1 (pv 1)) pe_str (nomark _))))) (pss_one (ps_ret pe_int)) pss_nil) (pss_one (ps_ret pe_int)))))) (pss_one (ps_ret pe_int)))
theorem c__law_formatted : Cal P w K mg base (L2.CX P w) 5 "_law_formatted" ["_law_device"] [] (sp__law_formatted K) := by
  obtain ⟨fd, F, ok⟩ := ok__law_formatted e
  have hb : ∃ ds, Vals [] ds ∧ Binds K fd ["_law_device"] ds := ⟨[], .nil, F.bindsN fun _ _ _ _ _ _ us hl => match us, hl with | [_], _ => rfl⟩
  obtain ⟨ds, h1, h2⟩ := hb
  exact ⟨_, fd, ds, ok, g__law_formatted e, F.kp, h2, h1⟩
theorem ok_law {fd : FuncData} (F : FunD K "law" "law" (defArgs s_law) (defBody s_law) (defScope s_law) [] [] (He.ga K "law") fd) : FnOk P w K mg base CX0 6 (He.ga K "law") fd ["_law_script"] (sp_law K) := by
  refine F.ok sc_law (fun vs H Q E h => len_law h) (fun cdv A outer s H vs Q E hr h => ?_)
  have c__law_digits := c__law_digits e
  have c__law_draw := c__law_draw e
  have c_Device_1 := c_Device_1 e
  have c__law_formatted := c__law_formatted e
  have m_range := m_range e
  have c_valid_area := c_valid_area e
  have c_format_device := c_format_device e
  have c_Journal_room_0 := c_Journal_room_0 e
  have c_Journal_write_record_1 := c_Journal_write_record_1 e
  have c__law_records := c__law_records e
  have c_Device_recharge_1 := c_Device_recharge_1 e
  have c_Device_recharge_0 := c_Device_recharge_0 e
  have c_Journal_1 := c_Journal_1 e
  refine ⟨t_law K, ?_, pure_law (cl_Device e) (cl_Journal e) vs H Q E h⟩
  refine PSs.nox ?_
  exact (pss_cons (ps_set (i := 1) sc_law.nd rfl (by first | exact Or.inl rfl | exact Or.inr rfl) (pe_lst (pa_cons (pc c__law_digits hr passL (pa_cons (pv 0) (pa_cons pe_int (pa_cons pe_int pa_nil)))) (pa_cons pe_int pa_nil)))) (pss_cons (ps_set (i := 2) sc_law.nd rfl (by first | exact Or.inl rfl | exact Or.inr rfl) (pe_op op_add pe_int (pc c__law_draw hr passL (pa_cons (pv 1) (pa_cons pe_int pa_nil))))) (pss_cons (ps_set (i := 3) sc_law.nd rfl (by first | exact Or.inl rfl | exact Or.inr rfl) (pcc c_Device_1 hr passL (pa_cons (pv 2) pa_nil))) (pss_cons (ps_if (pt_cmpR op_lt (pv 2) pe_int (nomark _)) (pss_one (ps_ret (pe_and (pe_cmpR op_eq (pc c__law_formatted hr passL (pa_cons (pv 3) pa_nil)) pe_int (nomark _)) (pe_one (pe_cmpR (op_eqD (hu64 hr)) (pe_fld (pv 3) rfl) (pe_lc (own := [("_law_k", 4)]) (g := gName 4) (by rfl) sc_law.nd (pi_range1 (by rfl) m_range (pa_cons (pv 2) pa_nil)) (blkOk_by (own := [("_law_k", 4)]) (N := ["_law_script", "_law_box", "_law_size", "_law_device", "_law_k", "_law_before", "_law_journal", "_law_kind", "_law_told"]) (sc := defScope s_law) (by decide +kernel)) (fun _ _ _ _ _ => pg_name (i := 4) sc_law.nd rfl (by first | exact Or.inl rfl | exact Or.inr rfl)) (fun _ _ _ _ _ => pts_nil) (fun _ _ _ _ _ => pe_int)) (nomark _)))))) pss_nil) (pss_cons (ps_if (pt_cmpR op_notN1 (pc c_valid_area hr passL (pa_cons (pv 3) pa_nil)) pe_non (nomark _)) (pss_one (ps_ret pe_bl)) pss_nil) (pss_cons (ps_set (i := 5) sc_law.nd rfl (by first | exact Or.inl rfl | exact Or.inr rfl) pe_non) (pss_cons (ps_if (pt_cmpR op_eq (pc c__law_draw hr passL (pa_cons (pv 1) (pa_cons pe_int pa_nil))) pe_int (nomark _)) (pss_cons (ps_set (i := 6) sc_law.nd rfl (by first | exact Or.inl rfl | exact Or.inr rfl) (pcW c_format_device hr takes0 (pa_cons (pv 3) pa_nil))) (pss_cons (ps_if (pt_cmpR op_ge (pcm0 (pv 6) c_Journal_room_0 hr passL) pe_int (nomark _)) (pss_one (ps_expr (pcmW (pv 6) c_Journal_write_record_1 hr takes0 (pa_cons pe_str pa_nil)))) pss_nil) (pss_one (ps_set (i := 5) sc_law.nd rfl (by first | exact Or.inl rfl | exact Or.inr rfl) (pc c__law_records hr passL (pa_cons (pv 6) pa_nil)))))) pss_nil) (pss_cons (ps_expr (pcm (pv 3) c_Device_recharge_1 hr passL (pa_cons (pc c__law_draw hr passL (pa_cons (pv 1) (pa_cons pe_int pa_nil))) pa_nil))) (pss_cons (ps_set (i := 7) sc_law.nd rfl (by first | exact Or.inl rfl | exact Or.inr rfl) (pc c__law_formatted hr passL (pa_cons (pv 3) pa_nil))) (pss_cons (ps_expr (pcm0 (pv 3) c_Device_recharge_0 hr passL)) (pss_cons (ps_if (pt_cmpR op_gt (pv 7) pe_int (nomark _)) (pss_one (ps_ret pe_bl)) pss_nil) (pss_cons (ps_if (PW.pt (pw_and (pt_cmpR op_eq (pv 7) pe_int (nomark _)) (pw_and1 (pt_cmpR op_ne (pc c_valid_area hr passL (pa_cons (pv 3) pa_nil)) pe_int (nomark _))))) (pss_one (ps_ret pe_bl)) pss_nil) (pss_cons (ps_if (pt_cmpR op_notN1 (pc c_valid_area hr passL (pa_cons (pv 3) pa_nil)) pe_non (nomark _)) (pss_cons (ps_set (i := 8) sc_law.nd rfl (by first | exact Or.inl rfl | exact Or.inr rfl) (pc c__law_records hr passL (pa_cons (pcc c_Journal_1 hr passL (pa_cons (pv 3) pa_nil)) pa_nil))) (pss_one (ps_if (PW.pt (pw_and (pt_cmpR (op_neD (hu64 hr)) (pv 8) (pe_lst pa_nil) (nomark _)) (pw_and1 (PW.pt (pw_or (pt_cmpR op_eq (pv 7) pe_int (nomark _)) (pw_or1 (pt_cmpR (op_neD (hu64 hr)) (pv 8) (pv 5) (nomark _)))))))) (pss_one (ps_ret pe_bl)) pss_nil))) pss_nil) (pss_cons (ps_if (pt_cmpR op_ne (pc c__law_formatted hr passL (pa_cons (pv 3) pa_nil)) pe_int (nomark _)) (pss_one (ps_ret pe_bl)) pss_nil) (pss_one (ps_ret (pe_and (pe_cmpR op_eq (pc c_valid_area hr passL (pa_cons (pv 3) pa_nil)) pe_int (nomark _)) (pe_one (pe_cmpR (op_eqD (hu64 hr)) (pc c__law_records hr passL (pa_cons (pcc c_Journal_1 hr passL (pa_cons (pv 3) pa_nil)) pa_nil)) (pe_lst pa_nil) (nomark _))))))))))))))))))))
end
theorem done {P : Program} {w : World} {K : PySem.W.Frag} {h : Heap} {mg : Str → Option Value} {f : Addr} (X : K.In h) (G : h.Ns mainGlobals mg) (hfa : mg ("law" : Str) = some (.ref f)) (c : SaysY (P.main.file : Str) fx fn sx ex K) (top : (P.main.scope.names.lookup ("super" : Str)).isSome = false) :
    ∃ fd : FuncData, (∀ (s : Shared) (v : Value), BindsTo s fd ⟨[v], []⟩ [("_law_script", v)]) ∧ ∀ base : Heap, K.In base → base.Ns mainGlobals mg → FnG P w K mg base CX0 6 f fd ["_law_script"] (sp_law K) := by
  obtain ⟨fd, F⟩ : ∃ fd, FunD K "law" "law" (defArgs s_law) (defBody s_law) (defScope s_law) [] [] (He.ga K "law") fd := c.toSays.def_ 22 (d := d_22)
  have z := hfa.symm.trans (x_glo X G (c.toSays.at 14))
  cases z
  have b := FunD.bindsA (ps := ["_law_script"]) F fun _ _ _ _ _ _ us hl => match us, hl with | [_], _ => rfl
  refine ⟨fd, fun s v => b s [v] rfl, fun base X2 G2 => ?_⟩
  exact FnG.of (ok_law (w := w) ⟨c, X2, G2, top⟩ F)
end Cf.k22
open PySem PySem.W PySem.Calls PyProof.Rows
theorem PySem.Challenge.cw_clearfloor_k22_an_empty_journal_is_writt_holds : PySem.Challenge.rw_clearfloor_k22_an_empty_journal_is_writt.Holds := by
  w_on; o_law
  refine HandSHeadRun.head_any (r := OpenLaw.row PySem.Challenge.rw_clearfloor_k22_an_empty_journal_is_writt) (q := view (OpenLaw.row PySem.Challenge.rw_clearfloor_k22_an_empty_journal_is_writt).prog [29]) (H := Cf.k22.hk) (ob := Cf.k22.ob) (M := 3000) (loose := Cf.k22.lo) (d := HandSHeadRun.topDef (OpenLaw.row PySem.Challenge.rw_clearfloor_k22_an_empty_journal_is_writt).prog 29) (kwd := []) Cf.k22.ob_eq
    (by kernel_rfl) (fun s => by kernel_rfl) Cf.k22.run (by kernel_rfl) (by kernel_rfl) (by kernel_rfl) (by rfl) (by first | assumption | decide +kernel) (by decide +kernel) ⟨rfl, rfl, rfl, rfl, rfl, by decide +kernel⟩ ?hw ?hc
  case hw => w_witness2
  case hc =>
    refine Cf.end_law (l := PySem.Challenge.rw_clearfloor_k22_an_empty_journal_is_writt) (n := 63) (k := 6) (x := "_law_script") (CX := L2.CX0) rfl (by decide) (by kernel_rfl) ⟨rfl, by decide, by decide⟩ ?F (fun _ _ _ _ z => z)
    intro w mg fa h Y G hmg0
    obtain ⟨K, KX, c⟩ := Y
    have hmg : mg ("law" : PySem.Str) = some (.ref fa) := by
      have z : (HandSHeadRun.topDef (OpenLaw.row PySem.Challenge.rw_clearfloor_k22_an_empty_journal_is_writt).prog 29).name = ("law" : PySem.Str) := by kernel_rfl
      rw [← z]
      exact hmg0
    obtain ⟨fd, hb, hF⟩ := Cf.k22.done (P := (PySem.Challenge.rw_clearfloor_k22_an_empty_journal_is_writt).prog) (w := w) KX G hmg c (by kernel_rfl)
    exact ⟨K, fd, Cf.sp_law K, KX, hb, fun H a ns hl _ hS => Cf.sp_law_of hS hl, hF⟩

