import PyProof.Rows.All
import Wide.All
import OpenK.AllK
import Wide.FinOn
import KE.KStateDown
import HandS.ForMost
import HandS.Exc
import HandS.TryOnly
import HandS.ExcOwn
import HandS.WordsExc
import HandS.Defaults
import HandS.IsInst
import HandS.Flow
import HandS.Style
import HandS.TupAny
import HandS.Walk
import HandS.Codes
import HandS.Head0
import HandS.Head1
import HandS.Head2
import HandS.HeadEnd
import HandS.HeadHook1
import HandS.HeadHook2
import HandS.More
import PySem.Challenge.RW_signalwhole_k10_files_keep_a_beginning
set_option Elab.async false
set_option linter.all false
set_option maxRecDepth 100000
set_option maxHeartbeats 4000000

/-! ### my own words over the hand layer -/
namespace My
open PySem PySem.Spec PyProof.Rows L2

/-- a def of the top, by its name -/
structure DefAt (K : PySem.W.Frag) (mg : Str → Option Value) (x : Str) (st : Stmt) : Prop where
  ex : ∃ (f : Addr) (fd : FuncData), FunD K x x (defArgs st) (defBody st) (defScope st) [] [] f fd ∧ mg x = some (.ref f)
/-- a method of a class, by its name -/
structure MetAt (K : PySem.W.Frag) (C : Addr) (m q : Str) (st : Stmt) : Prop where
  cl : Cls K C
  ex : ∃ (f : Addr) (fd : FuncData), FunD K m q (defArgs st) (defBody st) (defScope st) [] [] f fd ∧ Meth K C m f
/-- the maker of a class -/
structure MkAt (K : PySem.W.Frag) (mg : Str → Option Value) (C : Addr) (x q : Str) (st : Stmt) : Prop where
  ex : ∃ (f : Addr) (fd : FuncData), FunD K "__init__" q (defArgs st) (defBody st) (defScope st) [] [] f fd ∧ Mk K C f ∧ mg x = some (.ref C)

/-- what a def promises, by its name -/
structure Kal (P : Program) (w : World) (K : PySem.W.Frag) (mg : Str → Option Value) (base : Heap) (CX : CXT) (k : Nat) (x : Str) (ps : List Str) (sp : Sp) : Prop where
  ex : ∃ (f : Addr) (fd : FuncData), FnOk P w K mg base CX k f fd ps sp ∧ mg x = some (.ref f) ∧ PySem.W.keepIn K (.ref f) = true ∧ Binds K fd ps []
structure KMet (P : Program) (w : World) (K : PySem.W.Frag) (mg : Str → Option Value) (base : Heap) (CX : CXT) (k : Nat) (C : Addr) (m : Str) (ps : List Str) (sp : Sp) : Prop where
  ex : ∃ (f : Addr) (fd : FuncData), FnOk P w K mg base CX k f fd ps sp ∧ Cls K C ∧ Meth K C m f ∧ Binds K fd ps []
structure KMak (P : Program) (w : World) (K : PySem.W.Frag) (mg : Str → Option Value) (base : Heap) (CX : CXT) (k : Nat) (x : Str) (C : Addr) (ps : List Str) (sp : Sp) : Prop where
  ex : ∃ (f : Addr) (fd : FuncData), FnOk P w K mg base CX k f fd ps sp ∧ mg x = some (.ref C) ∧ Mk K C f ∧ Binds K fd ps []

section
variable {X : Cx} {CX : CXT} {k j : Nat} {x m : Str} {p pos apos : Pos} {e o : Expr} {es : List Expr} {t : TA} {ta : TE} {ps : List Str} {sp : Sp} {C : Addr} {W : WX}
theorem pe_kal (c : Kal X.prog X.w X.K X.mg X.base CX0 k x ps sp) (hr : Room j X.A) (hk : k ≤ j) (ha : PA X (e :: es) t) (hg : Gl X x := by rfl) (hdb : (x == ("__debug__" : Str)) = false := by decide)
    (he : starEach (e :: es) X.env = (false, eval e X.env) :: starEach es X.env := by rfl) (hpl : (backTo pos (starEach es X.env)).any (·.1) = false := by rfl) : PE X (.Call (.Name x p) (e :: es) [] pos) (tCall sp [] E0 t) := by
  obtain ⟨f, fd, F, hm, kp, hb⟩ := c.ex
  exact pe_call F (hr.mono hk) hg hm kp hb .nil pass0 ha hdb he hpl
theorem pe_kal0 (c : Kal X.prog X.w X.K X.mg X.base CX0 k x ps sp) (hr : Room j X.A) (hk : k ≤ j) (hg : Gl X x := by rfl) (hdb : (x == ("__debug__" : Str)) = false := by decide) : PE X (.Call (.Name x p) [] [] pos) (tCall sp [] E0 tNil) := by
  obtain ⟨f, fd, F, hm, kp, hb⟩ := c.ex
  exact pe_call0 F (hr.mono hk) hg hm kp hb .nil pass0 hdb
/-- a def that may raise, called where the raised is wished for by W -/
theorem pe_kalX (c : Kal X.prog X.w X.K X.mg X.base (L2.CX X.prog X.w) k x ps sp) (hr : Room j X.A) (hk : k ≤ j) (tk : Takes X W) (ha : PA X (e :: es) t) (hg : Gl X x := by rfl) (hdb : (x == ("__debug__" : Str)) = false := by decide)
    (he : starEach (e :: es) X.env = (false, eval e X.env) :: starEach es X.env := by rfl) (hpl : (backTo pos (starEach es X.env)).any (·.1) = false := by rfl) : PE X (.Call (.Name x p) (e :: es) [] pos) (tCallS sp (WE W) t) := by
  obtain ⟨f, fd, F, hm, kp, hb⟩ := c.ex
  exact pe_callS F (hr.mono hk) hg hm kp hb (fun σ => passAt tk σ) ha hdb he hpl
theorem pe_kmet {pl : Sem Bool} (c : KMet X.prog X.w X.K X.mg X.base CX0 k C m ps sp) (hr : Room j X.A) (hk : k ≤ j) (ho : PE X o ta) (ha : PA X (e :: es) t)
    (hst : starEach (e :: es) X.env = (false, eval e X.env) :: starEach es X.env := by rfl) (hpl : (backTo pos (starEach es X.env)).any (·.1) = false := by rfl)
    (ht : eval (.Call (.Attribute o m apos) (e :: es) [] pos) X.env = (do
      let ov ← eval o X.env
      standAt apos.atName
      let (f, first) ← holding [ov] (getMethod ov m pl)
      callWith pos f first (backTo pos (starEach (e :: es) X.env)) (backToKw pos (keywordEach [] X.env))) := by rfl) :
    PE X (.Call (.Attribute o m apos) (e :: es) [] pos) (tMeth C m sp [] E0 ta t) := by
  obtain ⟨f, fd, F, c, hm, hb⟩ := c.ex
  exact pe_meth ho c hm F (hr.mono hk) hb .nil pass0 ha hst hpl ht
theorem pe_kmet0 {pl : Sem Bool} (c : KMet X.prog X.w X.K X.mg X.base CX0 k C m ps sp) (hr : Room j X.A) (hk : k ≤ j) (ho : PE X o ta)
    (ht : eval (.Call (.Attribute o m apos) [] [] pos) X.env = (do
      let ov ← eval o X.env
      standAt apos.atName
      let (f, first) ← holding [ov] (getMethod ov m pl)
      callWith pos f first (backTo pos (starEach [] X.env)) (backToKw pos (keywordEach [] X.env))) := by rfl) :
    PE X (.Call (.Attribute o m apos) [] [] pos) (tMeth C m sp [] E0 ta tNil) := by
  obtain ⟨f, fd, F, c, hm, hb⟩ := c.ex
  exact pe_meth0 ho c hm F (hr.mono hk) hb .nil pass0 ht
/-- o.m(e, ..) of a method that may raise -/
def tMethX (C : Addr) (m : Str) (sp : Sp) (E : L2.St → XK) (ta : TE) (t : TA) : TE := fun σ H Q => ta σ H fun x H1 => ∃ a dx fs, x = .ref a ∧ H1 a = some (.ins C dx fs) ∧ fs.lookup m = none ∧ t σ H1 fun vs H2 => sp (x :: vs) H2 Q (E σ)
theorem pe_kmetX {pl : Sem Bool} (c : KMet X.prog X.w X.K X.mg X.base (L2.CX X.prog X.w) k C m ps sp) (hr : Room j X.A) (hk : k ≤ j) (tk : Takes X W) (ho : PE X o ta) (ha : PA X (e :: es) t)
    (hst : starEach (e :: es) X.env = (false, eval e X.env) :: starEach es X.env := by rfl) (hpl : (backTo pos (starEach es X.env)).any (·.1) = false := by rfl)
    (ht : eval (.Call (.Attribute o m apos) (e :: es) [] pos) X.env = (do
      let ov ← eval o X.env
      standAt apos.atName
      let (f, first) ← holding [ov] (getMethod ov m pl)
      callWith pos f first (backTo pos (starEach (e :: es) X.env)) (backToKw pos (keywordEach [] X.env))) := by rfl) :
    PE X (.Call (.Attribute o m apos) (e :: es) [] pos) (tMethX C m sp (WE W) ta t) := by
  obtain ⟨f, fd, F, c, hm, hb⟩ := c.ex
  refine ⟨fun pins s σ H Q I h => ?_⟩
  refine PySem.W.methodCall_KW (pl := pl) (thn (ho.run pins s σ H _ I h) fun u s1 ⟨x, H1, I1, rx, a, dx, fs, ex, ea, l, q⟩ => ?_) ht
  subst ex
  obtain rfl : u = Value.ref a := rx
  refine getmeth_ok I1 ea c hm l ?_
  refine PySem.W.callWith_K (first := [.ref a]) (h₀ := X.base) I.ok.mod.kin hm.kp (thn (ha.run pos pins s1 σ H1 _ I1 q) fun us s2 ⟨vs, H2, I2, r, q2⟩ => ⟨I2.kIn, ?_⟩) hst hpl
  exact run_fnS (us := .ref a :: us) (vs := .ref a :: vs) F (hr.mono hk) hb (passAt tk σ) I2 (.cons rfl r) q2
theorem pe_kmetX0 {pl : Sem Bool} (c : KMet X.prog X.w X.K X.mg X.base (L2.CX X.prog X.w) k C m ps sp) (hr : Room j X.A) (hk : k ≤ j) (tk : Takes X W) (ho : PE X o ta)
    (ht : eval (.Call (.Attribute o m apos) [] [] pos) X.env = (do
      let ov ← eval o X.env
      standAt apos.atName
      let (f, first) ← holding [ov] (getMethod ov m pl)
      callWith pos f first (backTo pos (starEach [] X.env)) (backToKw pos (keywordEach [] X.env))) := by rfl) :
    PE X (.Call (.Attribute o m apos) [] [] pos) (tMethX C m sp (WE W) ta tNil) := by
  obtain ⟨f, fd, F, c, hm, hb⟩ := c.ex
  refine ⟨fun pins s σ H Q I h => ?_⟩
  refine PySem.W.methodCall_KW (pl := pl) (thn (ho.run pins s σ H _ I h) fun u s1 ⟨x, H1, I1, rx, a, dx, fs, ex, ea, l, q⟩ => ?_) ht
  subst ex
  obtain rfl : u = Value.ref a := rx
  refine getmeth_ok I1 ea c hm l ?_
  refine PySem.W.callWith_K0 (first := [.ref a]) I1.kIn hm.kp ?_
  exact run_fnS (us := [.ref a]) (vs := [.ref a]) F (hr.mono hk) hb (passAt tk σ) I1 (.cons rfl .nil) q
theorem pe_kmk (c : KMak X.prog X.w X.K X.mg X.base CX0 k x C ps sp) (hr : Room j X.A) (hk : k + 1 ≤ j) (ha : PA X (e :: es) t) (hg : Gl X x := by rfl) (hdb : (x == ("__debug__" : Str)) = false := by decide)
    (he : starEach (e :: es) X.env = (false, eval e X.env) :: starEach es X.env := by rfl) (hpl : (backTo pos (starEach es X.env)).any (·.1) = false := by rfl) : PE X (.Call (.Name x p) (e :: es) [] pos) (tMake C sp [] E0 t) := by
  obtain ⟨f, fd, F, hm, M, hb⟩ := c.ex
  exact pe_make M F (hr.mono hk) hg hm hb .nil pass0 ha hdb he hpl
theorem pe_kmk0 (c : KMak X.prog X.w X.K X.mg X.base CX0 k x C ps sp) (hr : Room j X.A) (hk : k + 1 ≤ j) (hg : Gl X x := by rfl) (hdb : (x == ("__debug__" : Str)) = false := by decide) : PE X (.Call (.Name x p) [] [] pos) (tMake C sp [] E0 tNil) := by
  obtain ⟨f, fd, F, hm, M, hb⟩ := c.ex
  exact pe_make0 M F (hr.mono hk) hg hm hb .nil pass0 hdb
/-- o[i] of a list, for o[i] op= e: the place is told from the front or from the back -/
theorem get_list : PGet X (rIxL X.K) := by
  rintro pins s σ H _ _ ov iv Q I ro ri ⟨p, xs, i, z, rfl, rfl, sq, hat, q⟩
  cases ro
  obtain ⟨t, rfl⟩ := ri
  obtain ⟨us, rel, plain, _⟩ := I.list sq
  obtain ⟨j, seq, get, lt, low, high⟩ := atI_get hat
  obtain ⟨u, hu, ru⟩ := rel.get get
  have same_len := rel.length
  have big := line63
  have done : EP X pins σ Q u s := ⟨z, H, I, ru, q⟩
  rcases Int.lt_or_le i 0 with neg | pos
  · rw [seqIndex_neg neg low] at seq
    have at_ : (i + (us.toArray.size : Int)).toNat = j := by
      rw [List.size_toArray, ← same_len]; exact Option.some.inj seq
    exact wpAny_getItem_list_neg plain.isList neg (by simp only [List.size_toArray]; omega) (by omega) (by rw [at_]; simpa using hu) done
  · rw [seqIndex_of pos high] at seq
    have at_ : i.toNat = j := Option.some.inj seq
    exact wpAny_getItem_list plain.isList pos (by omega) (by rw [at_]; simpa using hu) done
end

/-! ### a def's promise by its body -/
section
variable {P : Program} {w : World} {K : PySem.W.Frag} {mg : Str → Option Value} {base : Heap} {k : Nat} {x m q : Str} {st : Stmt} {N ps : List Str} {sp : Sp} {C : Addr}
/-- how the arguments bind -/
abbrev BindsBy (x q : Str) (st : Stmt) (ps : List Str) : Prop := ∀ (kV doc pm : Value) (an : Option Addr) (cdv ct : Value) (us : List Value), us.length = ps.length → bindArgs (PySem.W.fnOf x q (defArgs st) (defBody st) (defScope st) .none kV doc pm an cdv ct) ⟨us, []⟩ = pure (ps.zip us)
/-- the body keeps the promise; nothing is raised -/
abbrev Body0 (P : Program) (w : World) (K : PySem.W.Frag) (mg : Str → Option Value) (base : Heap) (k : Nat) (q : Str) (st : Stmt) (N : List Str) (sp : Sp) : Prop :=
  ∀ (f : Addr) (cdv : Value) (A : Around) (outer : List Env) (s : Shared) (H : Hp) (vs : List V) (Q : VK) (E : XK), Room k (A.deeper (envOfC q (defScope st) s.heap.objs.size f cdv)) → sp vs H Q E →
      ∃ t, PSs (cxOf CX0 P w K mg base N q (defScope st) f cdv A outer s H E).nox (defBody st) t ∧ t { nx := fun _ H' => Q .non H', rt := Q } (start N vs) H
/-- .. what is raised is wished for -/
abbrev BodyX (P : Program) (w : World) (K : PySem.W.Frag) (mg : Str → Option Value) (base : Heap) (k : Nat) (q : Str) (st : Stmt) (N : List Str) (sp : Sp) : Prop :=
  ∀ (f : Addr) (cdv : Value) (A : Around) (outer : List Env) (s : Shared) (H : Hp) (vs : List V) (Q : VK) (E : XK), Room k (A.deeper (envOfC q (defScope st) s.heap.objs.size f cdv)) → sp vs H Q E →
      ∃ t, PSs (cxOf (L2.CX P w) P w K mg base N q (defScope st) f cdv A outer s H E) (defBody st) t ∧ t { nx := fun _ H' => Q .non H', rt := Q } (start N vs) H
theorem kal_mk (D : DefAt K mg x st) (S : FnScope N ps (defScope st)) (hb : BindsBy x x st ps) (len : ∀ vs H Q E, sp vs H Q E → vs.length = ps.length) (body : Body0 P w K mg base k x st N sp) : Kal P w K mg base CX0 (k + 1) x ps sp := by
  obtain ⟨f, fd, F, hm⟩ := D.ex
  exact ⟨f, fd, F.ok S len fun cdv A outer s H vs Q E hr h => let ⟨t, h1, h2⟩ := body f cdv A outer s H vs Q E hr h; ⟨t, h1.nox, h2⟩, hm, F.kp, F.bindsN hb⟩
theorem kal_mkX (D : DefAt K mg x st) (S : FnScope N ps (defScope st)) (hb : BindsBy x x st ps) (len : ∀ vs H Q E, sp vs H Q E → vs.length = ps.length) (body : BodyX P w K mg base k x st N sp) : Kal P w K mg base (L2.CX P w) (k + 1) x ps sp := by
  obtain ⟨f, fd, F, hm⟩ := D.ex
  exact ⟨f, fd, F.ok S len fun cdv A outer s H vs Q E hr h => body f cdv A outer s H vs Q E hr h, hm, F.kp, F.bindsN hb⟩
theorem kmet_mk (D : MetAt K C m q st) (S : FnScope N ps (defScope st)) (hb : BindsBy m q st ps) (len : ∀ vs H Q E, sp vs H Q E → vs.length = ps.length) (body : Body0 P w K mg base k q st N sp) : KMet P w K mg base CX0 (k + 1) C m ps sp := by
  obtain ⟨f, fd, F, hm⟩ := D.ex
  exact ⟨f, fd, F.ok S len fun cdv A outer s H vs Q E hr h => let ⟨t, h1, h2⟩ := body f cdv A outer s H vs Q E hr h; ⟨t, h1.nox, h2⟩, D.cl, hm, F.bindsN hb⟩
theorem kmet_mkX (D : MetAt K C m q st) (S : FnScope N ps (defScope st)) (hb : BindsBy m q st ps) (len : ∀ vs H Q E, sp vs H Q E → vs.length = ps.length) (body : BodyX P w K mg base k q st N sp) : KMet P w K mg base (L2.CX P w) (k + 1) C m ps sp := by
  obtain ⟨f, fd, F, hm⟩ := D.ex
  exact ⟨f, fd, F.ok S len fun cdv A outer s H vs Q E hr h => body f cdv A outer s H vs Q E hr h, D.cl, hm, F.bindsN hb⟩
theorem kmak_mk (D : MkAt K mg C x q st) (S : FnScope N ps (defScope st)) (hb : BindsBy "__init__" q st ps) (len : ∀ vs H Q E, sp vs H Q E → vs.length = ps.length) (body : Body0 P w K mg base k q st N sp) : KMak P w K mg base CX0 (k + 1) x C ps sp := by
  obtain ⟨f, fd, F, M, hm⟩ := D.ex
  exact ⟨f, fd, F.ok S len fun cdv A outer s H vs Q E hr h => let ⟨t, h1, h2⟩ := body f cdv A outer s H vs Q E hr h; ⟨t, h1.nox, h2⟩, hm, M, F.bindsN hb⟩
end

/-- a module's int -/
theorem pe_gint {X : Cx} {x : Str} {pos : Pos} {i : Int} (hg : Gl X x) (hm : ∃ t, X.mg x = some (.int i t)) (hd : (x == ("__debug__" : Str)) = false := by decide) : PE X (.Name x pos) (tC (.int i)) := by
  obtain ⟨t, e⟩ := hm
  exact pe_glob hg e ⟨t, rfl⟩ hd

/-! ### heaps -/
/-- all that was tracked but what P names is as it was -/
def Keep (P : Addr → Prop) (H H' : Hp) : Prop := ∀ b o, H b = some o → ¬ P b → H' b = some o
theorem Keep.refl {P : Addr → Prop} (H : Hp) : Keep P H H := fun _ _ h _ => h
theorem Keep.trans {P : Addr → Prop} {H H1 H2 : Hp} (a : Keep P H H1) (b : Keep P H1 H2) : Keep P H H2 := fun c o h n => b c o (a c o h n) n
theorem Keep.mono {P P' : Addr → Prop} {H H' : Hp} (a : Keep P H H') (h : ∀ b, P b → P' b ∨ H b = none) : Keep P' H H' := fun b o e n => a b o e fun p => (h b p).elim n fun z => by rw [z] at e; cases e
theorem Keep.of {P : Addr → Prop} {H H' : Hp} (a : Same H H') : Keep P H H' := fun b o e _ => a b o e
theorem Keep.new {P : Addr → Prop} {H : Hp} {p : Addr} {o : HO} (h : H p = none) : Keep P H (upd H p o) := fun b u e _ => by rw [upd_ne (ne_of_none e h)]; exact e
theorem Keep.put {P : Addr → Prop} {H : Hp} {p : Addr} {o : HO} (h : P p) : Keep P H (upd H p o) := fun b u e n => by
  rw [upd_ne fun z => n (by rw [z]; exact h)]
  exact e
theorem same_new {H : Hp} {p : Addr} {o : HO} (h : H p = none) : Same H (upd H p o) := fun b u e => by rw [upd_ne (ne_of_none e h)]; exact e
theorem same_of {H H' : Hp} {p : Addr} {o : HO} (e : upd H p o = H') (h : H p = none) : Same H H' := by rw [← e]; exact same_new h
theorem upd_at {H H' : Hp} {p : Addr} {o : HO} (e : upd H p o = H') : H' p = some o := by rw [← e]; exact upd_same
theorem keep_of {P : Addr → Prop} {H H' : Hp} {p : Addr} {o : HO} (e : upd H p o = H') (h : P p) : Keep P H H' := by rw [← e]; exact Keep.put h
theorem Keep.seq {K : PySem.W.Frag} {P : Addr → Prop} {H H' : Hp} {a : Addr} {xs : List V} (e : Keep P H H') (n : ¬ P a) (h : SqL K H a xs) : SqL K H' a xs := by
  rcases h with (h | ⟨o, h⟩) | h
  · exact .inl (.inl (e _ _ h n))
  · exact .inl (.inr ⟨o, e _ _ h n⟩)
  · exact .inr h
theorem Keep.seqT {K : PySem.W.Frag} {P : Addr → Prop} {H H' : Hp} {a : Addr} {xs : List V} (e : Keep P H H') (n : ¬ P a) (h : SqT K H a xs) : SqT K H' a xs := by
  rcases h with (h | ⟨o, h⟩) | h
  · exact .inl (.inl (e _ _ h n))
  · exact .inl (.inr ⟨o, e _ _ h n⟩)
  · exact .inr h
theorem Same.seqT {K : PySem.W.Frag} {H H' : Hp} {a : Addr} {xs : List V} (e : Same H H') (h : SqT K H a xs) : SqT K H' a xs := by
  rcases h with (h | ⟨o, h⟩) | h
  · exact .inl (.inl (e _ _ h))
  · exact .inl (.inr ⟨o, e _ _ h⟩)
  · exact .inr h
mutual
theorem Dp.same {K : PySem.W.Frag} {H H' : Hp} (e : Same H H') : ∀ {d : PyData} {v : V}, Dp K H v d → Dp K H' v d
  | _, _, .non => .non
  | _, _, .bl b => .bl b
  | _, _, .int i => .int i
  | _, _, .str x => .str x
  | _, _, .lst s a => .lst (e.seq s) (DpAll.same e a)
  | _, _, .tup s a => .tup (Same.seqT e s) (DpAll.same e a)
theorem DpAll.same {K : PySem.W.Frag} {H H' : Hp} (e : Same H H') : ∀ {ds : List PyData} {vs : List V}, DpAll K H vs ds → DpAll K H' vs ds
  | _, _, .nil => .nil
  | _, _, .cons a b => .cons (Dp.same e a) (DpAll.same e b)
end
theorem ty_list {K : PySem.W.Frag} {H : Hp} {a : Addr} {xs : List V} (h : SqL K H a xs) : TyX K H (.ref a) (.type "list") := by
  rcases h with (h | ⟨o, h⟩) | ⟨o, its, n, h, c, _⟩
  · exact .base (.lst h)
  · exact .base (.frz h)
  · exact .kList h c
theorem ty_tup {K : PySem.W.Frag} {H : Hp} {a : Addr} {xs : List V} (h : SqT K H a xs) : TyX K H (.ref a) (.type "tuple") := by
  rcases h with (h | ⟨o, h⟩) | ⟨o, its, n, h, c, _⟩
  · exact .base (.tup h)
  · exact .fTuple h
  · exact .kTuple h c
/-! ### texts by their signs -/
open SX in
theorem S_get {l : List Nat} {j c : Nat} (h : l[j]? = some c) : atI (S l).cps.toList ((j : Nat) : Int) = some c := atI_nat (by simpa [S] using h)
open SX in
theorem S_get' {l : List Nat} {j c : Nat} {z : Int} (e : z = (j : Nat)) (h : l[j]? = some c) : atI (S l).cps.toList z = some c := by
  rw [e]; exact S_get h
theorem line24 : sizeLine = 16777216 := by decide
theorem S_small {l : List Nat} (h : l.length ≤ 16777216) : (SX.S l).length ≤ sizeLine := by rw [SX.S_len, line24]; exact h
theorem cut_S (l : List Nat) (a b : Nat) (hb : b ≤ l.length) : cutS (SX.S l) (some (a : Int)) (some (b : Int)) = SX.S ((l.drop a).take (b - a)) := by
  unfold cutS
  rw [HT.sIx_nat, HT.sIx_nat, SX.S_len, Nat.min_eq_left hb]
  by_cases h : a ≤ l.length
  · rw [Nat.min_eq_left h]
  · rw [Nat.min_eq_right (by omega), List.drop_eq_nil_of_le (show l.length ≤ a by omega), List.drop_eq_nil_of_le (show l.length ≤ l.length by omega)]
    simp
theorem cutS_to (l : List Nat) (b : Nat) (hb : b ≤ l.length) : cutS (SX.S l) none (some (b : Int)) = SX.S (l.take b) := by
  unfold cutS
  rw [HT.sIx_nat, HT.sIx_none, SX.S_len, Nat.min_eq_left hb]
  simp
theorem cutV_from (xs : List V) (a : Nat) : cutV xs (some (a : Int)) none = xs.drop a := by
  unfold cutV
  rw [HT.sIx_nat, HT.sIx_none]
  by_cases h : a ≤ xs.length
  · rw [Nat.min_eq_left h, List.take_of_length_le (by rw [List.length_drop] <;> omega)]
  · rw [Nat.min_eq_right (by omega), List.drop_eq_nil_of_le (show xs.length ≤ xs.length by omega), List.drop_eq_nil_of_le (show xs.length ≤ a by omega)]
    simp
theorem cutV_to (xs : List V) (b : Nat) : cutV xs none (some (b : Int)) = xs.take b := by
  unfold cutV
  rw [HT.sIx_nat, HT.sIx_none]
  by_cases h : b ≤ xs.length
  · rw [Nat.min_eq_left h]; simp
  · rw [Nat.min_eq_right (by omega), List.take_of_length_le (show xs.length ≤ b by omega)]; simp
theorem cutV_mid (xs : List V) (a b : Nat) : cutV xs (some (a : Int)) (some (b : Int)) = (xs.drop a).take (b - a) := by
  unfold cutV
  rw [HT.sIx_nat, HT.sIx_nat]
  by_cases h : a ≤ xs.length
  · by_cases hb : b ≤ xs.length
    · rw [Nat.min_eq_left h, Nat.min_eq_left hb]
    · rw [Nat.min_eq_left h, Nat.min_eq_right (by omega), List.take_of_length_le (by rw [List.length_drop] <;> omega), List.take_of_length_le (by rw [List.length_drop] <;> omega)]
  · rw [Nat.min_eq_right (show xs.length ≤ a by omega), List.drop_eq_nil_of_le (show xs.length ≤ xs.length by omega), List.drop_eq_nil_of_le (show xs.length ≤ a by omega)]
    simp
theorem dec_t {p : Prop} [Decidable p] (h : decide p = true) : p := of_decide_eq_true h
theorem dec_f {p : Prop} [Decidable p] (h : ¬ decide p = true) : ¬ p := fun z => h (decide_eq_true z)
theorem vint {a b : Int} (h : decide (V.int a = V.int b) = true) : a = b := V.int.inj (of_decide_eq_true h)
theorem vintF {a b : Int} (h : ¬ decide (V.int a = V.int b) = true) : a ≠ b := fun z => h (decide_eq_true (by rw [z]))
theorem vstr1 {a : Nat} {l : List Nat} (h : decide (V.str ⟨#[a]⟩ = V.str (SX.S l)) = true) : [a] = l := SX.S_inj (V.str.inj (of_decide_eq_true h) : SX.S [a] = SX.S l)
theorem vstr1F {a : Nat} {l : List Nat} (h : ¬ decide (V.str ⟨#[a]⟩ = V.str (SX.S l)) = true) : [a] ≠ l := fun z => h (decide_eq_true (by rw [← z]))
theorem map_get {α β : Type} {xs : List α} {f : α → β} {i : Nat} {y : β} (h : (xs.map f)[i]? = some y) : ∃ z, xs[i]? = some z ∧ y = f z := by
  rw [List.getElem?_map] at h
  cases e : xs[i]? with
  | none => rw [e] at h; cases h
  | some z => rw [e] at h; exact ⟨z, rfl, (Option.some.inj h).symm⟩
theorem map_put {α β : Type} {xs : List α} {f : α → β} {i : Nat} {z : α} (h : xs[i]? = some z) : (xs.map f)[i]? = some (f z) := by rw [List.getElem?_map, h]; rfl
/-- what holds between two turns, shut for ⟨..⟩ -/
inductive Hold (p : Prop) : Prop where
  | mk (h : p)
  | no (h : False)
theorem Hold.out {p : Prop} : Hold p → p
  | .mk h => h
  | .no h => h.elim
/-! ### walks from 0 on -/
theorem for_range0 {n : Nat} {g : TG} {tb : TS} {D : Ends} {σ : L2.St} {H : Hp} (Pv : Nat → L2.St → Hp → Prop) (h0 : Pv 0 σ H)
    (hs : ∀ (i : Nat) σ H, i < n → Pv i σ H → g (.int (i : Nat)) σ H fun σ2 H2 => tb { D with nx := Pv (i + 1), ct := Pv (i + 1), bk := D.nx } σ2 H2) (hd : ∀ σ H, Pv n σ H → D.nx σ H) :
    ∃ W : Nat → Nat → L2.St → Hp → Prop, (∃ m, W 0 m σ H) ∧ ∀ i m σ H, W i m σ H →
      ((Itr 0 n).stop i H ∧ D.nx σ H) ∨ ((Itr 0 n).go i H ∧ ∃ N : L2.St → Hp → Prop, (∀ σ' H', N σ' H' → ∃ m', m' < m ∧ W (i + 1) m' σ' H') ∧ ∀ x H', (Itr 0 n).yld i H x H' → g x σ H' fun σ2 H2 => tb { D with nx := N, ct := N, bk := D.nx } σ2 H2) :=
  for_range (lo := 0) Pv h0 (fun i σ H hi p => by rw [Int.zero_add]; exact hs i σ H hi p) hd
theorem lc_range0 {n : Nat} {g : TG} {tt : TT} {te : TE} {vs : List Nat} {σ : L2.St} {H1 : Hp} {D : Addr} {Qd : Hp → Prop} (Pv : Nat → Hp → Prop) (h0 : Pv 0 (upd H1 D (.lst [])))
    (hs : ∀ (i : Nat) H, i < n → Pv i H → g (.int (i : Nat)) (wipe σ vs) H fun σ2 H2 => wipe σ2 vs = wipe σ vs ∧ tt σ2 H2 fun b H3 =>
      if b = true then te σ2 H3 fun y H4 => ∃ acc, H4 D = some (.lst acc) ∧ acc.length < sizeLine ∧ Pv (i + 1) (upd H4 D (.lst (acc ++ [y]))) else Pv (i + 1) H3) (hd : ∀ H, Pv n H → Qd H) :
    ∃ W : Nat → Nat → Hp → Prop, (∃ m, W 0 m (upd H1 D (.lst []))) ∧ ∀ i m H, W i m H →
      ((Itr 0 n).stop i H ∧ Qd H) ∨ ((Itr 0 n).go i H ∧ ∃ Nx : Hp → Prop, (∀ H', Nx H' → ∃ m', m' < m ∧ W (i + 1) m' H') ∧ ∀ x H', (Itr 0 n).yld i H x H' → g x (wipe σ vs) H' fun σ2 H2 => wipe σ2 vs = wipe σ vs ∧ tt σ2 H2 fun b H3 =>
        if b = true then te σ2 H3 fun y H4 => ∃ acc, H4 D = some (.lst acc) ∧ acc.length < sizeLine ∧ Nx (upd H4 D (.lst (acc ++ [y]))) else Nx H3) :=
  lc_range (lo := 0) Pv h0 (fun i H hi p => by rw [Int.zero_add]; exact hs i H hi p) hd
/-- len of a text, a list, a tuple; its size is bounded -/
theorem call_lenB {X : Cx} : CallR X (.builtin "len") (fun xs H Q => ∃ x n, xs = [x] ∧ LenV X.K x H n ∧ (n ≤ sizeLine → Q (.int n) H)) := by
  intro pins s σ H xs us Q I r h
  obtain ⟨x, n, rfl, e, q⟩ := h
  have hz : n ≤ sizeLine := by
    cases x with
    | str y => obtain ⟨h1, rfl⟩ := (show y.length ≤ sizeLine ∧ n = y.length from e); exact h1
    | byt y => obtain ⟨h1, rfl⟩ := (show y.size ≤ sizeLine ∧ n = y.size from e); exact h1
    | ref p =>
      rcases (show (∃ xs, SqL X.K H p xs ∧ n = xs.length) ∨ ∃ xs, SqT X.K H p xs ∧ n = xs.length from e) with ⟨xs, h1, rfl⟩ | ⟨xs, h1, rfl⟩
      · obtain ⟨_, _, _, h2⟩ := I.list h1; exact h2
      · obtain ⟨_, _, _, h2⟩ := I.tuple h1; exact h2
    | _ => exact False.elim e
  exact call_len pins s σ H _ us Q I r ⟨x, n, rfl, e, q hz⟩
/-! ### isinstance of data -/
theorem kb_NoneType_bool : kitB "NoneType" "bool" = some false := by decide +kernel
theorem kb_NoneType_int : kitB "NoneType" "int" = some false := by decide +kernel
theorem kb_NoneType_str : kitB "NoneType" "str" = some false := by decide +kernel
theorem kb_NoneType_tuple : kitB "NoneType" "tuple" = some false := by decide +kernel
theorem kb_NoneType_list : kitB "NoneType" "list" = some false := by decide +kernel
theorem kb_bool_bool : kitB "bool" "bool" = some true := by decide +kernel
theorem kb_bool_int : kitB "bool" "int" = some true := by decide +kernel
theorem kb_bool_str : kitB "bool" "str" = some false := by decide +kernel
theorem kb_bool_tuple : kitB "bool" "tuple" = some false := by decide +kernel
theorem kb_bool_list : kitB "bool" "list" = some false := by decide +kernel
theorem kb_int_bool : kitB "int" "bool" = some false := by decide +kernel
theorem kb_int_int : kitB "int" "int" = some true := by decide +kernel
theorem kb_int_str : kitB "int" "str" = some false := by decide +kernel
theorem kb_int_tuple : kitB "int" "tuple" = some false := by decide +kernel
theorem kb_int_list : kitB "int" "list" = some false := by decide +kernel
theorem kb_str_bool : kitB "str" "bool" = some false := by decide +kernel
theorem kb_str_int : kitB "str" "int" = some false := by decide +kernel
theorem kb_str_str : kitB "str" "str" = some true := by decide +kernel
theorem kb_str_tuple : kitB "str" "tuple" = some false := by decide +kernel
theorem kb_str_list : kitB "str" "list" = some false := by decide +kernel
theorem kb_list_bool : kitB "list" "bool" = some false := by decide +kernel
theorem kb_list_int : kitB "list" "int" = some false := by decide +kernel
theorem kb_list_str : kitB "list" "str" = some false := by decide +kernel
theorem kb_list_tuple : kitB "list" "tuple" = some false := by decide +kernel
theorem kb_list_list : kitB "list" "list" = some true := by decide +kernel
theorem kb_tuple_bool : kitB "tuple" "bool" = some false := by decide +kernel
theorem kb_tuple_int : kitB "tuple" "int" = some false := by decide +kernel
theorem kb_tuple_str : kitB "tuple" "str" = some false := by decide +kernel
theorem kb_tuple_tuple : kitB "tuple" "tuple" = some true := by decide +kernel
theorem kb_tuple_list : kitB "tuple" "list" = some false := by decide +kernel
theorem kitLT {K : PySem.W.Frag} {a : String} {r1 r2 : Bool} (h1 : kitB a "list" = some r1) (h2 : kitB a "tuple" = some r2) : PySem.W.kitAny K (.type a) [.type "list", .type "tuple"] = some (r1 || r2) := by
  refine kitAny_cons (kit_ty h1) (fun z => ?_) (fun z => by rw [z]; rfl)
  refine kitAny_cons (kit_ty h2) (fun z2 => ?_) (fun z2 => by rw [z2, Bool.or_true])
  rw [z, z2]; exact kitAny_nil
/-! ### data: how deep; both of the same -/
mutual
def deep : PyData → Nat
  | .list ds => deepAll ds + 1
  | .tuple ds => deepAll ds + 1
  | _ => 0
def deepAll : List PyData → Nat
  | [] => 0
  | d :: ds => max (deep d) (deepAll ds)
end
theorem deepAll_get : ∀ {ds : List PyData} {i : Nat} {d : PyData}, ds[i]? = some d → deep d ≤ deepAll ds
  | [], _, _, h => by simp at h
  | e :: ds, 0, d, h => by
    simp at h; subst h
    unfold deepAll; exact Nat.le_max_left _ _
  | e :: ds, i + 1, d, h => by
    have := deepAll_get (ds := ds) (i := i) (d := d) (by simpa using h)
    unfold deepAll; exact Nat.le_trans this (Nat.le_max_right _ _)
theorem DpAll.get {K : PySem.W.Frag} {H : Hp} : ∀ {vs : List V} {ds : List PyData} {i : Nat} {d : PyData}, DpAll K H vs ds → ds[i]? = some d → ∃ v, vs[i]? = some v ∧ Dp K H v d
  | _, _, _, _, .nil, h => by simp at h
  | _, _, 0, d, .cons a _, h => by simp at h; subst h; exact ⟨_, rfl, a⟩
  | _, _, i + 1, d, .cons _ t, h => by
    obtain ⟨v, h1, h2⟩ := DpAll.get t (i := i) (d := d) (by simpa using h)
    exact ⟨v, by simpa using h1, h2⟩
theorem DpAll.len {K : PySem.W.Frag} {H : Hp} : ∀ {vs : List V} {ds : List PyData}, DpAll K H vs ds → vs.length = ds.length
  | _, _, .nil => rfl
  | _, _, .cons _ t => by simp [DpAll.len t]
theorem DpAll.by {K : PySem.W.Frag} {H : Hp} : ∀ {vs : List V} {ds : List PyData}, vs.length = ds.length → (∀ (i : Nat) (v : V) (d : PyData), vs[i]? = some v → ds[i]? = some d → Dp K H v d) → DpAll K H vs ds
  | [], [], _, _ => .nil
  | [], _ :: _, h, _ => by simp at h
  | _ :: _, [], h, _ => by simp at h
  | v :: vs, d :: ds, h, f => .cons (f 0 v d rfl rfl) (DpAll.by (by simpa using h) fun i v d a b => f (i + 1) v d (by simpa using a) (by simpa using b))
/-- a promise that is never asked -/
theorem kal_none {P : Program} {w : World} {K : PySem.W.Frag} {mg : Str → Option Value} {base : Heap} {x : Str} {st : Stmt} {ps : List Str} (D : DefAt K mg x st) (hb : BindsBy x x st ps) (k : Nat) : Kal P w K mg base CX0 k x ps (fun _ _ _ _ => False) := by
  obtain ⟨f, fd, F, hm⟩ := D.ex
  exact ⟨f, fd, ⟨fun _ _ _ _ h => h.elim, fun _ _ _ _ _ _ _ _ _ _ _ _ _ h => h.elim⟩, hm, F.kp, F.bindsN hb⟩
/-- two values of the same data -/
def spSame (K : PySem.W.Frag) (n : Nat) : Sp := fun vs H Q _ => ∃ (x y : V) (d : PyData), vs = [x, y] ∧ Dp K H x d ∧ Dp K H y d ∧ deep d ≤ n ∧ ∀ H', Same H H' → Q (.bl true) H'
end My
local macro_rules | `(tactic| walk_at "cond") => `(tactic| first
  | omega
  | decide
  | (dsimp only; omega)
  | (refine ⟨?_, ?_⟩ <;> first | omega | decide | (dsimp only; omega))
  | (refine ⟨?_, ?_, ?_⟩ <;> first | omega | decide | (dsimp only; omega))
  | (refine Or.inl ⟨?_, ?_⟩ <;> first | omega | decide | (dsimp only; omega))
  | (refine Or.inr ⟨?_, ?_⟩ <;> first | omega | decide | (dsimp only; omega)))
-- a list's item, the list told by a fact H p = some (.lst ..)
local macro_rules | `(tactic| walk_at "ixl") => `(tactic| ((first
  | refine' ⟨_, _, _, _, rfl, rfl, L2.SqL.of L2.upd_same, ?ati, ?rest⟩
  | refine' ⟨_, _, _, _, rfl, rfl, L2.SqL.of (by assumption), ?ati, ?rest⟩
  | refine' ⟨_, _, _, _, rfl, rfl, (by assumption), ?ati, ?rest⟩); (case ati => first | rfl | assumption | exact L2.atI_nat (by assumption))))
local macro_rules | `(tactic| walk_at "len") => `(tactic| first
  | refine ⟨_, _, rfl, Or.inl (L2.SqL.of L2.upd_same), ?_⟩
  | refine ⟨_, _, rfl, Or.inl (L2.SqL.of (by assumption)), ?_⟩
  | refine ⟨_, _, rfl, Or.inl (by assumption), ?_⟩)
-- a list's item stored
local macro_rules | `(tactic| walk_at "setl") => `(tactic| ((first
  | refine' ⟨_, _, _, _, rfl, rfl, L2.upd_same, ?ix, ?rest⟩
  | refine' ⟨_, _, _, _, rfl, rfl, (by assumption), ?ix, ?rest⟩); (case ix => first | rfl | assumption)))
local macro_rules | `(tactic| walk_at "op") => `(tactic| (refine' ⟨_, _, rfl, rfl, ?c, ?rest⟩; (case c => (show (_ : Prop); walk_at "cond"))))
-- a sign of a text
local macro_rules | `(tactic| walk_at "ixs") => `(tactic| (refine' ⟨_, _, _, rfl, rfl, ?sz, ?ati, ?rest⟩; (case sz => first | assumption | exact My.S_small (by omega)); (case ati => first | assumption | exact My.S_get (by assumption))))
local macro_rules | `(tactic| walk_at "go") => `(tactic| repeat first
  | refine ⟨_, rfl, ?_⟩
  | walk_at "ixl"
  | walk_at "ixs"
  | walk_at "setl"
  | walk_at "len"
  | refine ⟨_, _, rfl, Or.inl ⟨_, (by assumption), rfl⟩, fun _ => ?_⟩
  | refine ⟨_, _, rfl, Or.inr ⟨_, (by assumption), rfl⟩, fun _ => ?_⟩
  | walk_at "isi"
  | walk_at "op"
  | refine ⟨_, _, rfl, rfl, ?_⟩
  | refine ⟨Or.inl ⟨rfl, _, L2.SqL.of L2.upd_same⟩, ?_⟩
  | refine ⟨Or.inl ⟨rfl, _, L2.SqL.of (by assumption)⟩, ?_⟩
  | refine Or.inl ⟨_, rfl, ?_⟩
  | refine ⟨rfl, ?_⟩)
-- xs.append(e), behind its argument
local macro_rules | `(tactic| walk_at "app") => `(tactic| first
  | refine ⟨_, _, _, rfl, rfl, L2.upd_same, ?_, ?_⟩
  | refine ⟨_, _, _, rfl, rfl, (by assumption), ?_, ?_⟩)
-- isinstance(x, T)
local macro_rules | `(tactic| walk_at "kb") => `(tactic| first | exact My.kb_NoneType_bool | exact My.kb_NoneType_int | exact My.kb_NoneType_str | exact My.kb_NoneType_tuple | exact My.kb_NoneType_list | exact My.kb_bool_bool | exact My.kb_bool_int | exact My.kb_bool_str | exact My.kb_bool_tuple | exact My.kb_bool_list | exact My.kb_int_bool | exact My.kb_int_int | exact My.kb_int_str | exact My.kb_int_tuple | exact My.kb_int_list | exact My.kb_str_bool | exact My.kb_str_int | exact My.kb_str_str | exact My.kb_str_tuple | exact My.kb_str_list | exact My.kb_list_bool | exact My.kb_list_int | exact My.kb_list_str | exact My.kb_list_tuple | exact My.kb_list_list | exact My.kb_tuple_bool | exact My.kb_tuple_int | exact My.kb_tuple_str | exact My.kb_tuple_tuple | exact My.kb_tuple_list)
local macro_rules | `(tactic| walk_at "isi") => `(tactic| first
  | refine ⟨_, _, _, _, _, rfl, L2.ClsV.ty _, L2.TyX.base L2.TyOf.non, L2.kit_ty (by walk_at "kb"), ?_⟩
  | refine ⟨_, _, _, _, _, rfl, L2.ClsV.ty _, L2.TyX.base (L2.TyOf.bl _), L2.kit_ty (by walk_at "kb"), ?_⟩
  | refine ⟨_, _, _, _, _, rfl, L2.ClsV.ty _, L2.TyX.base (L2.TyOf.int _), L2.kit_ty (by walk_at "kb"), ?_⟩
  | refine ⟨_, _, _, _, _, rfl, L2.ClsV.ty _, L2.TyX.base (L2.TyOf.str _), L2.kit_ty (by walk_at "kb"), ?_⟩
  | refine ⟨_, _, _, _, _, rfl, L2.ClsV.ty _, My.ty_list (by assumption), L2.kit_ty (by walk_at "kb"), ?_⟩
  | refine ⟨_, _, _, _, _, rfl, L2.ClsV.ty _, My.ty_tup (by assumption), L2.kit_ty (by walk_at "kb"), ?_⟩)

namespace Mk10
/-- one step: an appended byte, or a truncation -/
def step1 (d : List Nat) (s : Bool × Nat) : List Nat := if s.1 then d.take s.2 else d ++ [s.2]
def after (d : List Nat) (st : List (Bool × Nat)) : List Nat := st.foldl step1 d
theorem after_nil (d : List Nat) : after d [] = d := rfl
theorem after_app (d : List Nat) (a b : List (Bool × Nat)) : after d (a ++ b) = after (after d a) b := List.foldl_append
theorem after_take {d : List Nat} {st : List (Bool × Nat)} {i : Nat} {s : Bool × Nat} (h : st[i]? = some s) : after d (st.take (i + 1)) = step1 (after d (st.take i)) s := by
  rw [List.take_add_one, h, after_app]; rfl
theorem after_len : ∀ (st : List (Bool × Nat)) (d : List Nat), (after d st).length ≤ d.length + st.length
  | [], d => Nat.le_refl _
  | s :: st, d => by
    have ih := after_len st (step1 d s)
    have : (step1 d s).length ≤ d.length + 1 := by
      unfold step1; split
      · rw [List.length_take]; omega
      · simp
    show (after (step1 d s) st).length ≤ d.length + (st.length + 1)
    omega
end Mk10
namespace Mk10
open PySem PySem.Spec PyProof.Rows L2 My
/-! ### the text by places -/
def top (i : Nat) : Stmt := PySem.Challenge.pw_signalwhole_k10_files_keep_a_beginning.main.body.getD i (.Pass ⟨0, 0, 0, 0⟩)
abbrev s__applied : Stmt := top 1
abbrev s_File___init__ : Stmt := inClass (top 2) 0
abbrev s_File_write : Stmt := inClass (top 2) 1
abbrev s_File_shorten : Stmt := inClass (top 2) 2
abbrev s_File_flush : Stmt := inClass (top 2) 3
abbrev s_File_content : Stmt := inClass (top 2) 4
abbrev s_File_pending : Stmt := inClass (top 2) 5
abbrev s_File_lose : Stmt := inClass (top 2) 6
abbrev s__law_mix : Stmt := top 4
abbrev s__law_draws : Stmt := top 5
abbrev s__law_at : Stmt := top 6
abbrev s__law_is_integer : Stmt := top 7
abbrev s__law_same : Stmt := top 8
abbrev s__law_next : Stmt := top 9
abbrev s__law_after : Stmt := top 10
abbrev s__law_deed : Stmt := top 11
abbrev s_law : Stmt := top 12
theorem sc__applied : FnScope ["data", "steps", "result", "name", "number"] ["data", "steps"] (defScope s__applied) := ⟨rfl, rfl, rfl, by decide +kernel, rfl, by decide +kernel, by decide +kernel⟩
theorem bi__applied : BindsBy "_applied" "_applied" s__applied ["data", "steps"] := fun _ _ _ _ _ _ us hl => match us, hl with | [_, _], _ => rfl
theorem sc_File___init__ : FnScope ["self"] ["self"] (defScope s_File___init__) := ⟨rfl, rfl, rfl, by decide +kernel, rfl, by decide +kernel, by decide +kernel⟩
theorem bi_File___init__ : BindsBy "__init__" "File.__init__" s_File___init__ ["self"] := fun _ _ _ _ _ _ us hl => match us, hl with | [_], _ => rfl
theorem sc_File_write : FnScope ["self", "data", "steps", "count", "byte"] ["self", "data", "steps"] (defScope s_File_write) := ⟨rfl, rfl, rfl, by decide +kernel, rfl, by decide +kernel, by decide +kernel⟩
theorem bi_File_write : BindsBy "write" "File.write" s_File_write ["self", "data", "steps"] := fun _ _ _ _ _ _ us hl => match us, hl with | [_, _, _], _ => rfl
theorem sc_File_shorten : FnScope ["self", "size", "steps"] ["self", "size", "steps"] (defScope s_File_shorten) := ⟨rfl, rfl, rfl, by decide +kernel, rfl, by decide +kernel, by decide +kernel⟩
theorem bi_File_shorten : BindsBy "shorten" "File.shorten" s_File_shorten ["self", "size", "steps"] := fun _ _ _ _ _ _ us hl => match us, hl with | [_, _, _], _ => rfl
theorem sc_File_flush : FnScope ["self", "steps"] ["self", "steps"] (defScope s_File_flush) := ⟨rfl, rfl, rfl, by decide +kernel, rfl, by decide +kernel, by decide +kernel⟩
theorem bi_File_flush : BindsBy "flush" "File.flush" s_File_flush ["self", "steps"] := fun _ _ _ _ _ _ us hl => match us, hl with | [_, _], _ => rfl
theorem sc_File_content : FnScope ["self"] ["self"] (defScope s_File_content) := ⟨rfl, rfl, rfl, by decide +kernel, rfl, by decide +kernel, by decide +kernel⟩
theorem bi_File_content : BindsBy "content" "File.content" s_File_content ["self"] := fun _ _ _ _ _ _ us hl => match us, hl with | [_], _ => rfl
theorem sc_File_pending : FnScope ["self"] ["self"] (defScope s_File_pending) := ⟨rfl, rfl, rfl, by decide +kernel, rfl, by decide +kernel, by decide +kernel⟩
theorem bi_File_pending : BindsBy "pending" "File.pending" s_File_pending ["self"] := fun _ _ _ _ _ _ us hl => match us, hl with | [_], _ => rfl
theorem sc_File_lose : FnScope ["self", "steps"] ["self", "steps"] (defScope s_File_lose) := ⟨rfl, rfl, rfl, by decide +kernel, rfl, by decide +kernel, by decide +kernel⟩
theorem bi_File_lose : BindsBy "lose" "File.lose" s_File_lose ["self", "steps"] := fun _ _ _ _ _ _ us hl => match us, hl with | [_, _], _ => rfl
theorem sc__law_mix : FnScope ["cell", "k", "value"] ["cell", "k"] (defScope s__law_mix) := ⟨rfl, rfl, rfl, by decide +kernel, rfl, by decide +kernel, by decide +kernel⟩
theorem bi__law_mix : BindsBy "_law_mix" "_law_mix" s__law_mix ["cell", "k"] := fun _ _ _ _ _ _ us hl => match us, hl with | [_, _], _ => rfl
theorem sc__law_draws : FnScope ["script", "draws", "k", "cell", "place"] ["script"] (defScope s__law_draws) := ⟨rfl, rfl, rfl, by decide +kernel, rfl, by decide +kernel, by decide +kernel⟩
theorem bi__law_draws : BindsBy "_law_draws" "_law_draws" s__law_draws ["script"] := fun _ _ _ _ _ _ us hl => match us, hl with | [_], _ => rfl
theorem sc__law_at : FnScope ["draws", "index"] ["draws", "index"] (defScope s__law_at) := ⟨rfl, rfl, rfl, by decide +kernel, rfl, by decide +kernel, by decide +kernel⟩
theorem bi__law_at : BindsBy "_law_at" "_law_at" s__law_at ["draws", "index"] := fun _ _ _ _ _ _ us hl => match us, hl with | [_, _], _ => rfl
theorem sc__law_is_integer : FnScope ["actual"] ["actual"] (defScope s__law_is_integer) := ⟨rfl, rfl, rfl, by decide +kernel, rfl, by decide +kernel, by decide +kernel⟩
theorem bi__law_is_integer : BindsBy "_law_is_integer" "_law_is_integer" s__law_is_integer ["actual"] := fun _ _ _ _ _ _ us hl => match us, hl with | [_], _ => rfl
theorem sc__law_same : FnScope ["actual", "expected", "k"] ["actual", "expected"] (defScope s__law_same) := ⟨rfl, rfl, rfl, by decide +kernel, rfl, by decide +kernel, by decide +kernel⟩
theorem bi__law_same : BindsBy "_law_same" "_law_same" s__law_same ["actual", "expected"] := fun _ _ _ _ _ _ us hl => match us, hl with | [_, _], _ => rfl
theorem sc__law_next : FnScope ["state", "limit"] ["state", "limit"] (defScope s__law_next) := ⟨rfl, rfl, rfl, by decide +kernel, rfl, by decide +kernel, by decide +kernel⟩
theorem bi__law_next : BindsBy "_law_next" "_law_next" s__law_next ["state", "limit"] := fun _ _ _ _ _ _ us hl => match us, hl with | [_, _], _ => rfl
theorem sc__law_after : FnScope ["data", "steps", "kind", "number"] ["data", "steps"] (defScope s__law_after) := ⟨rfl, rfl, rfl, by decide +kernel, rfl, by decide +kernel, by decide +kernel⟩
theorem bi__law_after : BindsBy "_law_after" "_law_after" s__law_after ["data", "steps"] := fun _ _ _ _ _ _ us hl => match us, hl with | [_, _], _ => rfl
theorem sc__law_deed : FnScope ["state", "file", "lasting", "steps", "pick", "limit", "data", "count", "passed", "done", "size", "k", "byte"] ["state", "file", "lasting", "steps"] (defScope s__law_deed) := ⟨rfl, rfl, rfl, by decide +kernel, rfl, by decide +kernel, by decide +kernel⟩
theorem bi__law_deed : BindsBy "_law_deed" "_law_deed" s__law_deed ["state", "file", "lasting", "steps"] := fun _ _ _ _ _ _ us hl => match us, hl with | [_, _, _, _], _ => rfl
theorem sc_law : FnScope ["script", "state", "file", "lasting", "steps", "other", "still", "k", "right"] ["script"] (defScope s_law) := ⟨rfl, rfl, rfl, by decide +kernel, rfl, by decide +kernel, by decide +kernel⟩
theorem bi_law : BindsBy "law" "law" s_law ["script"] := fun _ _ _ _ _ _ us hl => match us, hl with | [_], _ => rfl
/-- what the top leaves of the names that the text uses -/
structure TopF (K : PySem.W.Frag) (mg : Str → Option Value) : Prop where
  bool : mg "bool" = none
  int_ : mg "int" = none
  isinstance : mg "isinstance" = none
  len : mg "len" = none
  list : mg "list" = none
  min : mg "min" = none
  range : mg "range" = none
  str : mg "str" = none
  tuple : mg "tuple" = none
  n_File__lasting : NoAttr K (He.ga K "File") "_lasting"
  n_File__steps : NoAttr K (He.ga K "File") "_steps"
structure Defs (K : PySem.W.Frag) (mg : Str → Option Value) : Prop where
  d__applied : DefAt K mg "_applied" s__applied
  d_File___init__ : MkAt K mg (He.ga K "File") "File" "File.__init__" s_File___init__
  d_File_write : MetAt K (He.ga K "File") "write" "File.write" s_File_write
  d_File_shorten : MetAt K (He.ga K "File") "shorten" "File.shorten" s_File_shorten
  d_File_flush : MetAt K (He.ga K "File") "flush" "File.flush" s_File_flush
  d_File_content : MetAt K (He.ga K "File") "content" "File.content" s_File_content
  d_File_pending : MetAt K (He.ga K "File") "pending" "File.pending" s_File_pending
  d_File_lose : MetAt K (He.ga K "File") "lose" "File.lose" s_File_lose
  d__law_mix : DefAt K mg "_law_mix" s__law_mix
  d__law_draws : DefAt K mg "_law_draws" s__law_draws
  d__law_at : DefAt K mg "_law_at" s__law_at
  d__law_is_integer : DefAt K mg "_law_is_integer" s__law_is_integer
  d__law_same : DefAt K mg "_law_same" s__law_same
  d__law_next : DefAt K mg "_law_next" s__law_next
  d__law_after : DefAt K mg "_law_after" s__law_after
  d__law_deed : DefAt K mg "_law_deed" s__law_deed
  d_law : DefAt K mg "law" s_law
/-- the law's own def, for the end -/
def spLaw (K : PySem.W.Frag) : Sp := fun vs H Q _ => ∃ (a : Addr) (ns : List Int), vs = [.ref a] ∧ SqL K H a (ns.map V.int) ∧ ns.length ≤ 63 ∧ ∀ H', Q (.bl true) H'
theorem law_of {P : Program} {w : World} {K : PySem.W.Frag} {mg : Str → Option Value} {fa : Addr} {k : Nat} {sp : Sp} (D : Defs K mg) (hmg : mg "law" = some (.ref fa)) (S : FnScope ["script", "state", "file", "lasting", "steps", "other", "still", "k", "right"] ["script"] (defScope s_law)) (len : ∀ vs H Q E, sp vs H Q E → vs.length = 1)
    (body : ∀ base : Heap, Body0 P w K mg base k "law" s_law ["script", "state", "file", "lasting", "steps", "other", "still", "k", "right"] sp) :
    ∃ fd : FuncData, (∀ (s : Shared) (v : Value), BindsTo s fd ⟨[v], []⟩ [("script", v)]) ∧ ∀ base : Heap, K.In base → base.Ns mainGlobals mg → FnOk P w K mg base CX0 (k + 1) fa fd ["script"] sp := by
  obtain ⟨f, fd, F, hm⟩ := D.d_law.ex
  have e := hmg.symm.trans hm
  cases e
  have b := FunD.bindsA (ps := ["script"]) F bi_law
  exact ⟨fd, fun s v => b s [v] rfl, fun base _ _ => F.ok S len fun cdv A outer s H vs Q E hr h => let ⟨t, h1, h2⟩ := body base _ cdv A outer s H vs Q E hr h; ⟨t, h1.nox, h2⟩⟩
end Mk10
namespace Mk10
open PySem PySem.Spec PyProof.Rows L2 My

section
variable {P : Program} {w : World} {K : PySem.W.Frag} {mg : Str → Option Value} {base : Heap}
def spMix : Sp := fun vs H Q _ => ∃ c k : Int, vs = [.int c, .int k] ∧ ∀ r : Int, 0 ≤ r → r < 9973 → Q (.int r) H
theorem k__law_mix (T : TopF K mg) (D : Defs K mg) : Kal P w K mg base CX0 1 "_law_mix" ["cell", "k"] spMix := by
  refine kal_mk D.d__law_mix sc__law_mix bi__law_mix (fun vs H Q E h => ?_) (fun f cdv A outer s H vs Q E hr h => ?_)
  · obtain ⟨_, _, rfl, _⟩ := h; rfl
  · obtain ⟨c, k, rfl, kk⟩ := h
    have nd := sc__law_mix.nd
    refine ⟨_, (pss_cons (ps_set (i := 2) nd rfl (by first | exact Or.inl rfl | exact Or.inr rfl) (pe_op op_mod (pe_callTy call_int1 (by rfl) T.int_ (by decide +kernel) (pa_cons (pe_op op_add (pe_op op_add (pe_op op_mul (pe_callTy call_int1 (by rfl) T.int_ (by decide +kernel) (pa_cons (pv 0) pa_nil)) pe_int) (pe_op op_mul (pv 1) pe_int)) pe_int) pa_nil)) pe_int))
 (pss_cons (ps_set (i := 2) nd rfl (by first | exact Or.inl rfl | exact Or.inr rfl) (pe_op op_mod (pe_callTy call_int1 (by rfl) T.int_ (by decide +kernel) (pa_cons (pe_op op_add (pe_op op_add (pe_op op_mul (pv 2) (pv 2)) (pe_op op_mul (pv 1) pe_int)) pe_int) pa_nil)) pe_int))
 (pss_one (ps_ret (pe_op op_mod (pe_op op_fdiv (pv 2) pe_int) pe_int))))), ?_⟩
    walk_at "go"
    exact kk _ (Int.emod_nonneg _ (by decide)) (Int.emod_lt_of_pos _ (by decide))
/-- a list of draws -/
def DrawsAt (K : PySem.W.Frag) (H : Hp) (p : Addr) (ds : List Int) : Prop := H p = some (.lst (ds.map V.int)) ∧ ∀ d ∈ ds, 0 ≤ d ∧ d < 9973
def spDraws (K : PySem.W.Frag) : Sp := fun vs H Q _ => ∃ (a : Addr) (ns : List Int), vs = [.ref a] ∧ SqL K H a (ns.map V.int) ∧ ∀ (H' : Hp) (p : Addr) (ds : List Int), Same H H' → H p = none → DrawsAt K H' p ds → Q (.ref p) H'
theorem k__law_draws (T : TopF K mg) (D : Defs K mg) (c__law_mix : Kal P w K mg base CX0 1 "_law_mix" ["cell", "k"] spMix) : Kal P w K mg base CX0 2 "_law_draws" ["script"] (spDraws K) := by
  refine kal_mk D.d__law_draws sc__law_draws bi__law_draws (fun vs H Q E h => ?_) (fun f cdv A outer s H vs Q E hr h => ?_)
  · obtain ⟨_, _, rfl, _⟩ := h; rfl
  · obtain ⟨a, ns, rfl, hS, kk⟩ := h
    have nd := sc__law_draws.nd
    refine ⟨_, (pss_cons (ps_set (i := 1) nd rfl (by first | exact Or.inl rfl | exact Or.inr rfl) (pe_lst pa_nil))
 (pss_cons (ps_for PassesOwn.never rfl (pi_range1 (by rfl) T.range (pa_cons (pe_callB (call_min2 rfl) (by rfl) T.min (by decide +kernel) (pa_cons pe_int (pa_cons (pe_callB call_len_seq (by rfl) T.len (by decide +kernel) (pa_cons (pv 0) pa_nil)) pa_nil))) pa_nil)) (pg_name (i := 2) nd rfl (by first | exact Or.inl rfl | exact Or.inr rfl))
 (pss_cons (ps_set (i := 3) nd rfl (by first | exact Or.inl rfl | exact Or.inr rfl) (pe_callTy call_int1 (by rfl) T.int_ (by decide +kernel) (pa_cons (pe_ix ix_list (pv 0) (pv 2) (fun _ _ => rfl)) pa_nil)))
 (pss_one (ps_if (pt_cmpR op_lt (pv 3) (pe_op op_pow pe_int pe_int) (nomark _))
 (pss_one (ps_expr (pe_bm PySem.F.plainAttrs_list PySem.F.slot_list_append PySem.F.type_list_append mt_append (pv 1) (pa_cons (pe_kal c__law_mix hr (by first | decide | exact Nat.le_refl _ | omega) (pa_cons (pv 3) (pa_cons (pv 2) pa_nil))) pa_nil)))) (pss_one (ps_for PassesOwn.never rfl (pi_range1 (by rfl) T.range (pa_cons pe_int pa_nil)) (pg_name (i := 4) nd rfl (by first | exact Or.inl rfl | exact Or.inr rfl))
 (pss_one (ps_if (pt_cmpR op_gt (pv 3) pe_int (nomark _))
 (pss_cons (ps_expr (pe_bm PySem.F.plainAttrs_list PySem.F.slot_list_append PySem.F.type_list_append mt_append (pv 1) (pa_cons (pe_op op_mod (pe_callTy call_int1 (by rfl) T.int_ (by decide +kernel) (pa_cons (pv 3) pa_nil)) pe_int) pa_nil)))
 (pss_one (ps_set (i := 3) nd rfl (by first | exact Or.inl rfl | exact Or.inr rfl) (pe_op op_fdiv (pv 3) pe_int)))) pss_nil))))))))
 (pss_one (ps_ret (pv 1))))), ?_⟩
    refine ⟨Nat.zero_le _, fun p np => ?_⟩
    generalize hp : upd _ p _ = H1
    have s1 := same_of hp np
    have ap := upd_at hp
    have hS1 := s1.seq hS
    refine ⟨_, rfl, _, _, rfl, .inl hS1, _, _, rfl, ?_⟩
    rw [List.length_map]
    refine ⟨_, rfl, by split <;> omega, by split <;> omega, for_range0 (fun i σ H' => Hold (∃ (v1 v2 v3 : Option V) (ds : List Int), σ = [some (.ref a), some (.ref p), v1, v2, v3] ∧ Keep (· = p) H1 H' ∧ DrawsAt K H' p ds ∧ ds.length ≤ 60 * i)) ?_ ?_ ?_⟩
    · exact .mk ⟨none, none, none, [], rfl, Keep.refl _, ⟨ap, by simp⟩, by simp⟩
    · intro i σ H' hi W
      obtain ⟨v1, v2, v3, ds, rfl, kp, ⟨hd, hb⟩, hl⟩ := W.out
      have hi2 : i < ns.length ∧ i < 63 := by split at hi <;> omega
      obtain ⟨z, hz⟩ : ∃ z, ns[i]? = some z := ⟨_, List.getElem?_eq_getElem hi2.1⟩
      have na_p : a ≠ p ∨ True := .inr trivial
      have hSK : SqL K H' a (ns.map V.int) := by
        rcases hS with (h | ⟨o, h⟩) | h
        · exact .inl (.inl (kp _ _ (s1 _ _ h) (ne_of_none h np)))
        · exact .inl (.inr ⟨o, kp _ _ (s1 _ _ h) (ne_of_none h np)⟩)
        · exact .inr h
      refine ⟨_, rfl, _, rfl, _, _, _, _, rfl, rfl, hSK, atI_nat (map_put hz), .inl ⟨_, rfl, ?_⟩⟩
      walk_at "go"
      refine ite2 (fun e => ?_) (fun e => ?_)
      · -- draws.append(_law_mix(cell, k))
        refine ⟨_, rfl, .inl ⟨rfl, _, SqL.of hd⟩, _, rfl, _, rfl, z, i, rfl, fun r r0 r1 => ?_⟩
        refine ⟨p, _, _, rfl, rfl, hd, by rw [List.length_map, line24]; omega, ?_⟩
        refine .mk ⟨_, _, _, ds ++ [r], rfl, kp.trans (Keep.put rfl), ⟨by rw [upd_same]; simp, ?_⟩, by simp; omega⟩
        intro d hd
        rcases List.mem_append.mp hd with hd | hd
        · exact hb d hd
        · simp at hd; omega
      · -- for place in range(60)
        refine ⟨_, rfl, by decide, by decide, for_range0 (fun j σ H' => Hold (∃ (v3 : Option V) (c : Int) (ds : List Int), σ = [some (.ref a), some (.ref p), some (.int (i : Nat)), some (.int c), v3] ∧ Keep (· = p) H1 H' ∧ DrawsAt K H' p ds ∧ ds.length ≤ 60 * i + j)) ?_ ?_ ?_⟩
        · exact .mk ⟨_, _, ds, rfl, kp, ⟨hd, hb⟩, by omega⟩
        · intro j σ H' hj W
          obtain ⟨v3, c, ds, rfl, kp, ⟨hd, hb⟩, hl⟩ := W.out
          have hj : j < 60 := hj
          walk_at "go"
          refine ite2 (fun e => ?_) (fun e => ?_)
          · refine ⟨_, rfl, .inl ⟨rfl, _, SqL.of hd⟩, _, rfl, .inl ⟨_, rfl, ?_⟩⟩
            refine ⟨_, _, rfl, rfl, by show (0 : Int) < 9973; decide, ?_⟩
            refine ⟨p, _, _, rfl, rfl, hd, by rw [List.length_map, line24]; omega, ?_⟩
            refine ⟨_, rfl, _, _, rfl, rfl, ⟨by decide, by decide⟩, ?_⟩
            refine .mk ⟨_, _, ds ++ [c % 9973], rfl, kp.trans (Keep.put rfl), ⟨by rw [upd_same]; simp, ?_⟩, by simp; omega⟩
            intro d hd
            rcases List.mem_append.mp hd with hd | hd
            · exact hb d hd
            · simp at hd
              have h1 := Int.emod_nonneg c (show (9973 : Int) ≠ 0 by decide)
              have h2 := Int.emod_lt_of_pos c (show (0 : Int) < 9973 by decide)
              omega
          · exact .mk ⟨_, _, ds, rfl, kp, ⟨hd, hb⟩, by omega⟩
        · intro σ H' W
          obtain ⟨v3, c, ds, rfl, kp, hd, hl⟩ := W.out
          exact .mk ⟨_, _, _, ds, rfl, kp, hd, by simp at hl; omega⟩
    · intro σ H' W
      obtain ⟨v1, v2, v3, ds, rfl, kp, hd, hl⟩ := W.out
      exact ⟨_, rfl, kk H' p ds (fun b o e => kp b o (s1 b o e) (ne_of_none e np)) np hd⟩
/-- one draw -/
def spAt (K : PySem.W.Frag) : Sp := fun vs H Q _ => ∃ (p : Addr) (ds : List Int) (i : Int), vs = [.ref p, .int i] ∧ DrawsAt K H p ds ∧ 0 ≤ i ∧ ∀ r : Int, 0 ≤ r → r < 9973 → Q (.int r) H
theorem k__law_at (T : TopF K mg) (D : Defs K mg) (c__law_mix : Kal P w K mg base CX0 1 "_law_mix" ["cell", "k"] spMix) : Kal P w K mg base CX0 2 "_law_at" ["draws", "index"] (spAt K) := by
  refine kal_mk D.d__law_at sc__law_at bi__law_at (fun vs H Q E h => ?_) (fun f cdv A outer s H vs Q E hr h => ?_)
  · obtain ⟨_, _, _, rfl, _⟩ := h; rfl
  · obtain ⟨p, ds, i, rfl, ⟨hd, hb⟩, hi, kk⟩ := h
    have nd := sc__law_at.nd
    refine ⟨_, (pss_cons (ps_if (pt_cmpR op_lt (pv 1) (pe_callB call_len_seq (by rfl) T.len (by decide +kernel) (pa_cons (pv 0) pa_nil)) (nomark _))
 (pss_one (ps_ret (pe_ix ix_list (pv 0) (pv 1) (fun _ _ => rfl)))) pss_nil)
 (pss_cons (ps_if (pt_cmpR op_eq (pe_callB call_len_seq (by rfl) T.len (by decide +kernel) (pa_cons (pv 0) pa_nil)) pe_int (nomark _))
 (pss_one (ps_ret (pe_kal c__law_mix hr (by first | decide | exact Nat.le_refl _ | omega) (pa_cons (pv 1) (pa_cons pe_int pa_nil))))) pss_nil)
 (pss_one (ps_ret (pe_kal c__law_mix hr (by first | decide | exact Nat.le_refl _ | omega) (pa_cons (pe_op op_add (pe_ix ix_list (pv 0) (pe_op op_mod (pe_callTy call_int1 (by rfl) T.int_ (by decide +kernel) (pa_cons (pv 1) pa_nil)) (pe_callB call_len_seq (by rfl) T.len (by decide +kernel) (pa_cons (pv 0) pa_nil))) (fun _ _ => rfl)) (pe_op op_mul (pv 1) pe_int)) (pa_cons (pv 1) pa_nil))))))), ?_⟩
    walk_at "go"
    refine ite2 (fun e => ?_) (fun e => ?_)
    · rw [decide_eq_true_eq, List.length_map] at e
      obtain ⟨j, rfl⟩ : ∃ j : Nat, i = (j : Int) := ⟨i.toNat, by omega⟩
      obtain ⟨z, hz⟩ : ∃ z, ds[j]? = some z := ⟨_, List.getElem?_eq_getElem (by omega)⟩
      have hm := hb z (List.mem_of_getElem? hz)
      exact ⟨_, rfl, _, rfl, _, _, _, _, rfl, rfl, SqL.of hd, atI_nat (map_put hz), kk z hm.1 hm.2⟩
    · walk_at "go"
      refine ite2 (fun e2 => ?_) (fun e2 => ?_)
      · exact ⟨_, rfl, i, 77, rfl, fun r r0 r1 => kk r r0 r1⟩
      · have hl : 0 < ds.length := by
          have := vintF e2
          rw [List.length_map] at this
          omega
        refine ⟨_, rfl, _, rfl, .inl ⟨_, rfl, ?_⟩⟩
        refine ⟨_, rfl, _, _, rfl, .inl (SqL.of hd), ?_⟩
        refine ⟨_, _, rfl, rfl, by rw [List.length_map]; show (0 : Int) < _; omega, ?_⟩
        obtain ⟨j, hj, hj2⟩ : ∃ j : Nat, i % (((ds.map V.int).length : Nat) : Int) = (j : Int) ∧ j < ds.length := by
          rw [List.length_map]
          have h1 := Int.emod_nonneg i (b := (ds.length : Int)) (by omega)
          have h2 := Int.emod_lt_of_pos i (b := (ds.length : Int)) (by omega)
          exact ⟨(i % (ds.length : Int)).toNat, by omega, by omega⟩
        obtain ⟨z, hz⟩ : ∃ z, ds[j]? = some z := ⟨_, List.getElem?_eq_getElem hj2⟩
        refine ⟨_, _, _, _, rfl, rfl, SqL.of hd, by rw [hj]; exact atI_nat (map_put hz), ?_⟩
        refine ⟨_, rfl, _, _, rfl, rfl, .inr ⟨by decide, by decide⟩, ?_⟩
        refine ⟨_, _, rfl, rfl, _, rfl, _, _, rfl, fun r r0 r1 => kk r r0 r1⟩
end
end Mk10
namespace Mk10
open PySem PySem.Spec PyProof.Rows L2 My

section
variable {P : Program} {w : World} {K : PySem.W.Frag} {mg : Str → Option Value} {base : Heap}
def spIsInt : Sp := fun vs H Q _ => ∃ i : Int, vs = [.int i] ∧ Q (.bl true) H
theorem k__law_is_integer (T : TopF K mg) (D : Defs K mg) : Kal P w K mg base CX0 1 "_law_is_integer" ["actual"] spIsInt := by
  refine kal_mk D.d__law_is_integer sc__law_is_integer bi__law_is_integer (fun vs H Q E h => ?_) (fun f cdv A outer s H vs Q E hr h => ?_)
  · obtain ⟨_, rfl, _⟩ := h; rfl
  · obtain ⟨i, rfl, kk⟩ := h
    have nd := sc__law_is_integer.nd
    refine ⟨_, (pss_one (ps_ret (pe_and (pe_callB call_isi (by rfl) T.isinstance (by decide +kernel) (pa_cons (pv 0) (pa_cons (pe_bltn (v := .ty "int") (u := .type "int") (by rfl) T.int_ (by decide +kernel) rfl) pa_nil))) (pe_one (pe_not (pe_callB call_isi (by rfl) T.isinstance (by decide +kernel) (pa_cons (pv 0) (pa_cons (pe_bltn (v := .ty "bool") (u := .type "bool") (by rfl) T.bool (by decide +kernel) rfl) pa_nil)))))))), ?_⟩
    walk_at "go"
    exact kk
theorem same_step (T : TopF K mg) (D : Defs K mg) (k n : Nat) (spI : Sp) (c__law_is_integer : Kal P w K mg base CX0 1 "_law_is_integer" ["actual"] spIsInt) (c__law_same : Kal P w K mg base CX0 (k + 1) "_law_same" ["actual", "expected"] spI) (hI : ∀ m, n = m + 1 → spI = spSame K m) : Kal P w K mg base CX0 (k + 2) "_law_same" ["actual", "expected"] (spSame K n) := by
  refine kal_mk D.d__law_same sc__law_same bi__law_same (fun vs H Q E h => ?_) (fun f cdv A outer s H vs Q E hr h => ?_)
  · obtain ⟨_, _, _, rfl, _⟩ := h; rfl
  · obtain ⟨x, y, d, rfl, hx, hy, hd, kk⟩ := h
    have nd := sc__law_same.nd
    refine ⟨_, (pss_cons (ps_if (pt_val (pe_callB call_isiT (by rfl) T.isinstance (by decide +kernel) (pa_cons (pv 1) (pa_cons (pe_tup (pa_cons (pe_bltn (v := .ty "list") (u := .type "list") (by rfl) T.list (by decide +kernel) rfl) (pa_cons (pe_bltn (v := .ty "tuple") (u := .type "tuple") (by rfl) T.tuple (by decide +kernel) rfl) pa_nil))) pa_nil))))
 (pss_cons (ps_if (PW.pt (pw_or (pt_cmpR op_ne (pe_callB call_isi (by rfl) T.isinstance (by decide +kernel) (pa_cons (pv 1) (pa_cons (pe_bltn (v := .ty "list") (u := .type "list") (by rfl) T.list (by decide +kernel) rfl) pa_nil))) (pe_callB call_isi (by rfl) T.isinstance (by decide +kernel) (pa_cons (pv 0) (pa_cons (pe_bltn (v := .ty "list") (u := .type "list") (by rfl) T.list (by decide +kernel) rfl) pa_nil))) (nomark _)) (pw_or1 (pt_cmpR op_ne (pe_callB call_isi (by rfl) T.isinstance (by decide +kernel) (pa_cons (pv 1) (pa_cons (pe_bltn (v := .ty "tuple") (u := .type "tuple") (by rfl) T.tuple (by decide +kernel) rfl) pa_nil))) (pe_callB call_isi (by rfl) T.isinstance (by decide +kernel) (pa_cons (pv 0) (pa_cons (pe_bltn (v := .ty "tuple") (u := .type "tuple") (by rfl) T.tuple (by decide +kernel) rfl) pa_nil))) (nomark _)))))
 (pss_one (ps_ret pe_bl)) pss_nil)
 (pss_cons (ps_if (pt_cmpR op_ne (pe_callB call_lenB (by rfl) T.len (by decide +kernel) (pa_cons (pv 0) pa_nil)) (pe_callB call_lenB (by rfl) T.len (by decide +kernel) (pa_cons (pv 1) pa_nil)) (nomark _))
 (pss_one (ps_ret pe_bl)) pss_nil)
 (pss_cons (ps_for PassesOwn.never rfl (pi_range1 (by rfl) T.range (pa_cons (pe_callB call_lenB (by rfl) T.len (by decide +kernel) (pa_cons (pv 1) pa_nil)) pa_nil)) (pg_name (i := 2) nd rfl (by first | exact Or.inl rfl | exact Or.inr rfl))
 (pss_one (ps_if (pt_not (pt_val (pe_kal c__law_same hr (by first | decide | exact Nat.le_refl _ | omega) (pa_cons (pe_ix ix_seq (pv 0) (pv 2) (fun _ _ => rfl)) (pa_cons (pe_ix ix_seq (pv 1) (pv 2) (fun _ _ => rfl)) pa_nil)))))
 (pss_one (ps_ret pe_bl)) pss_nil)))
 (pss_one (ps_ret pe_bl))))) pss_nil)
 (pss_cons (ps_if (pt_cmpR op_isN (pv 1) pe_non (nomark _))
 (pss_one (ps_ret (pe_cmpR op_isN (pv 0) pe_non (nomark _)))) pss_nil)
 (pss_cons (ps_if (pt_val (pe_callB call_isi (by rfl) T.isinstance (by decide +kernel) (pa_cons (pv 1) (pa_cons (pe_bltn (v := .ty "bool") (u := .type "bool") (by rfl) T.bool (by decide +kernel) rfl) pa_nil))))
 (pss_one (ps_ret (pe_and (pe_callB call_isi (by rfl) T.isinstance (by decide +kernel) (pa_cons (pv 0) (pa_cons (pe_bltn (v := .ty "bool") (u := .type "bool") (by rfl) T.bool (by decide +kernel) rfl) pa_nil))) (pe_one (pe_cmpR op_eq (pv 0) (pv 1) (nomark _)))))) pss_nil)
 (pss_cons (ps_if (pt_val (pe_callB call_isi (by rfl) T.isinstance (by decide +kernel) (pa_cons (pv 1) (pa_cons (pe_bltn (v := .ty "int") (u := .type "int") (by rfl) T.int_ (by decide +kernel) rfl) pa_nil))))
 (pss_one (ps_ret (pe_and (pe_kal c__law_is_integer hr (by first | decide | exact Nat.le_refl _ | omega) (pa_cons (pv 0) pa_nil)) (pe_one (pe_cmpR op_eq (pv 0) (pv 1) (nomark _)))))) pss_nil)
 (pss_one (ps_ret (pe_and (pe_callB call_isi (by rfl) T.isinstance (by decide +kernel) (pa_cons (pv 0) (pa_cons (pe_bltn (v := .ty "str") (u := .type "str") (by rfl) T.str (by decide +kernel) rfl) pa_nil))) (pe_one (pe_cmpR op_eq (pv 0) (pv 1) (nomark _)))))))))), ?_⟩
    refine ⟨_, rfl, by show 2 ≤ sizeLine; decide, fun p np => ?_⟩
    generalize hp : upd _ p _ = H1
    have s1 := same_of hp np
    have ap := upd_at hp
    replace hx := Dp.same s1 hx
    replace hy := Dp.same s1 hy
    clear hp
    cases d with
    | none =>
      cases hx; cases hy
      refine ⟨_, _, _, _, _, _, rfl, ap, .cons (.ty _) (.cons (.ty _) .nil), L2.TyX.base L2.TyOf.non, kitLT kb_NoneType_list kb_NoneType_tuple, ?_⟩
      walk_at "go"
      exact kk _ s1
    | bool b =>
      cases hx; cases hy
      refine ⟨_, _, _, _, _, _, rfl, ap, .cons (.ty _) (.cons (.ty _) .nil), L2.TyX.base (L2.TyOf.bl _), kitLT kb_bool_list kb_bool_tuple, ?_⟩
      walk_at "go"
      show Q (V.bl (decide (V.bl b = V.bl b))) H1
      rw [decide_eq_true rfl]
      exact kk _ s1
    | int i =>
      cases hx; cases hy
      refine ⟨_, _, _, _, _, _, rfl, ap, .cons (.ty _) (.cons (.ty _) .nil), L2.TyX.base (L2.TyOf.int _), kitLT kb_int_list kb_int_tuple, ?_⟩
      walk_at "go"
      show Q (V.bl (decide (V.int i = V.int i))) H1
      rw [decide_eq_true rfl]
      exact kk _ s1
    | str x =>
      cases hx; cases hy
      refine ⟨_, _, _, _, _, _, rfl, ap, .cons (.ty _) (.cons (.ty _) .nil), L2.TyX.base (L2.TyOf.str _), kitLT kb_str_list kb_str_tuple, ?_⟩
      walk_at "go"
      show Q (V.bl (decide (V.str x = V.str x))) H1
      rw [decide_eq_true rfl]
      exact kk _ s1
    | list ds =>
      cases hx with
      | @lst a xs _ sx ax =>
      cases hy with
      | @lst b ys _ sy ay =>
      have lx := My.DpAll.len ax
      have ly := My.DpAll.len ay
      refine ⟨_, _, _, _, _, _, rfl, ap, .cons (.ty _) (.cons (.ty _) .nil), ty_list sy, kitLT kb_list_list kb_list_tuple, ?_⟩
      walk_at "go"
      refine ite2 (fun e => ?_) (fun _ => ?_)
      · rw [lx, ly] at e
        simp at e
      have hsz : ys.length ≤ sizeLine := by assumption
      walk_at "go"
      rw [line24] at hsz
      refine ⟨by omega, by omega, for_range0 (fun i σ H' => Hold (∃ v, σ = [some (.ref a), some (.ref b), v] ∧ Same H1 H')) ?_ ?_ ?_⟩
      · exact .mk ⟨none, rfl, Same.refl _⟩
      · intro i σ H' hi W
        obtain ⟨v, rfl, s2⟩ := W.out
        have hi2 : i < ds.length := by rw [← ly]; simpa using hi
        obtain ⟨d, hdi⟩ : ∃ d, ds[i]? = some d := ⟨_, List.getElem?_eq_getElem hi2⟩
        obtain ⟨x, hx, dx⟩ := My.DpAll.get ax hdi
        obtain ⟨y, hy, dy⟩ := My.DpAll.get ay hdi
        have hdd := deepAll_get hdi
        have hn : deepAll ds + 1 ≤ n := hd
        obtain ⟨m, rfl⟩ : ∃ m, n = m + 1 := ⟨n - 1, by omega⟩
        have e := hI m rfl
        subst e
        refine ⟨_, rfl, _, rfl, .inl ⟨_, _, _, _, rfl, rfl, s2.seq sx, atI_nat hx, ?_⟩⟩
        refine ⟨_, rfl, _, rfl, .inl ⟨_, _, _, _, rfl, rfl, s2.seq sy, atI_nat hy, ?_⟩⟩
        refine ⟨x, y, d, rfl, Dp.same s2 dx, Dp.same s2 dy, by omega, fun H2 s3 => ?_⟩
        exact ⟨_, rfl, .mk ⟨_, rfl, s2.trans s3⟩⟩
      · intro σ H' W
        obtain ⟨v, rfl, s2⟩ := W.out
        exact kk _ (s1.trans s2)
    | tuple ds =>
      cases hx with
      | @tup a xs _ sx ax =>
      cases hy with
      | @tup b ys _ sy ay =>
      have lx := My.DpAll.len ax
      have ly := My.DpAll.len ay
      refine ⟨_, _, _, _, _, _, rfl, ap, .cons (.ty _) (.cons (.ty _) .nil), ty_tup sy, kitLT kb_tuple_list kb_tuple_tuple, ?_⟩
      walk_at "go"
      refine ite2 (fun e => ?_) (fun _ => ?_)
      · rw [lx, ly] at e
        simp at e
      have hsz : ys.length ≤ sizeLine := by assumption
      walk_at "go"
      rw [line24] at hsz
      refine ⟨by omega, by omega, for_range0 (fun i σ H' => Hold (∃ v, σ = [some (.ref a), some (.ref b), v] ∧ Same H1 H')) ?_ ?_ ?_⟩
      · exact .mk ⟨none, rfl, Same.refl _⟩
      · intro i σ H' hi W
        obtain ⟨v, rfl, s2⟩ := W.out
        have hi2 : i < ds.length := by rw [← ly]; simpa using hi
        obtain ⟨d, hdi⟩ : ∃ d, ds[i]? = some d := ⟨_, List.getElem?_eq_getElem hi2⟩
        obtain ⟨x, hx, dx⟩ := My.DpAll.get ax hdi
        obtain ⟨y, hy, dy⟩ := My.DpAll.get ay hdi
        have hdd := deepAll_get hdi
        have hn : deepAll ds + 1 ≤ n := hd
        obtain ⟨m, rfl⟩ : ∃ m, n = m + 1 := ⟨n - 1, by omega⟩
        have e := hI m rfl
        subst e
        refine ⟨_, rfl, _, rfl, .inr <| .inl ⟨_, _, _, _, rfl, rfl, My.Same.seqT s2 sx, atI_nat hx, ?_⟩⟩
        refine ⟨_, rfl, _, rfl, .inr <| .inl ⟨_, _, _, _, rfl, rfl, My.Same.seqT s2 sy, atI_nat hy, ?_⟩⟩
        refine ⟨x, y, d, rfl, Dp.same s2 dx, Dp.same s2 dy, by omega, fun H2 s3 => ?_⟩
        exact ⟨_, rfl, .mk ⟨_, rfl, s2.trans s3⟩⟩
      · intro σ H' W
        obtain ⟨v, rfl, s2⟩ := W.out
        exact kk _ (s1.trans s2)
    | dict _ => cases hx
/-- _law_same of data of any depth up to n -/
theorem k__law_same (T : TopF K mg) (D : Defs K mg) (c : Kal P w K mg base CX0 1 "_law_is_integer" ["actual"] spIsInt) : ∀ n : Nat, Kal P w K mg base CX0 (n + 2) "_law_same" ["actual", "expected"] (spSame K n)
  | 0 => same_step T D 0 0 _ c (kal_none D.d__law_same bi__law_same 1) (fun m h => by omega)
  | n + 1 => same_step T D (n + 1) (n + 1) _ c (k__law_same T D c n) (fun m h => by cases h; rfl)
end
end Mk10
namespace Mk10
open PySem PySem.Spec PyProof.Rows L2 My

/-- the law's state: the draws' list, how far -/
def StAt (K : PySem.W.Frag) (H : Hp) (s p : Addr) : Prop := ∃ (ds : List Int) (i : Int), H s = some (.lst [.ref p, .int i]) ∧ DrawsAt K H p ds ∧ 0 ≤ i
def spNext (K : PySem.W.Frag) : Sp := fun vs H Q _ => ∃ (s p : Addr) (lim : Int), vs = [.ref s, .int lim] ∧ StAt K H s p ∧ 0 < lim ∧ ∀ (H' : Hp) (n : Int), Keep (· = s) H H' → StAt K H' s p → 0 ≤ n → n < lim → n < 9973 → Q (.int n) H'
section
variable {P : Program} {w : World} {K : PySem.W.Frag} {mg : Str → Option Value} {base : Heap}
theorem k__law_next (T : TopF K mg) (D : Defs K mg) (c__law_at : Kal P w K mg base CX0 2 "_law_at" ["draws", "index"] (spAt K)) : Kal P w K mg base CX0 3 "_law_next" ["state", "limit"] (spNext K) := by
  refine kal_mk D.d__law_next sc__law_next bi__law_next (fun vs H Q E h => ?_) (fun f cdv A outer s H vs Q E hr h => ?_)
  · obtain ⟨_, _, _, rfl, _⟩ := h; rfl
  · obtain ⟨s, p, lim, rfl, ⟨ds, i, hs, ⟨hd, hb⟩, hi⟩, h0, k⟩ := h
    have nd := sc__law_next.nd
    have nps : p ≠ s := fun e => by
      subst e; rw [hd] at hs
      cases ds with
      | nil => simp at hs
      | cons x r => simp at hs
    refine ⟨_, (pss_cons (ps_augS (pv 0) pe_int get_list pe_int ip_add set_list)
 (pss_one (ps_ret (pe_op op_mod (pe_kal c__law_at hr (by first | decide | exact Nat.le_refl _ | omega) (pa_cons (pe_ix ix_list (pv 0) pe_int (fun _ _ => rfl)) (pa_cons (pe_ix ix_list (pv 0) pe_int (fun _ _ => rfl)) pa_nil))) (pv 1))))), ?_⟩
    refine ⟨_, rfl, _, _, _, _, rfl, rfl, SqL.of hs, rfl, _, _, rfl, rfl, _, _, _, _, rfl, rfl, hs, rfl, ?_⟩
    generalize hH : upd _ s _ = H1
    have k1 : Keep (· = s) H H1 := keep_of hH rfl
    have as := upd_at hH
    have ad := k1 _ _ hd nps
    refine ⟨_, rfl, _, _, _, _, rfl, rfl, SqL.of as, rfl, _, rfl, _, _, _, _, rfl, rfl, SqL.of as, rfl, ?_⟩
    refine ⟨p, ds, _, rfl, ⟨ad, hb⟩, by show (0 : Int) ≤ i + 1; omega, fun r r0 r1 => ?_⟩
    refine ⟨_, rfl, _, _, rfl, rfl, h0, ?_⟩
    exact k H1 _ k1 ⟨ds, i + 1, as, ⟨ad, hb⟩, by omega⟩ (Int.emod_nonneg _ (by omega)) (Int.emod_lt_of_pos _ h0) (by
      have z := Int.emod_lt_of_pos r h0
      by_cases c : r < lim
      · rw [Int.emod_eq_of_lt r0 c]; exact r1
      · omega)
end
end Mk10
namespace Mk10
open PySem PySem.Spec PyProof.Rows L2 My

/-! ### lists of ints as data -/
abbrev intsP (l : List Int) : List PyData := l.map PyData.int
theorem ints_dp {K : PySem.W.Frag} {H : Hp} : ∀ l : List Int, DpAll K H (l.map V.int) (intsP l)
  | [] => .nil
  | i :: l => .cons (.int i) (ints_dp l)
theorem ints_deep : ∀ l : List Int, deepAll (intsP l) = 0
  | [] => rfl
  | i :: l => by
    show max (deep (.int i)) (deepAll (intsP l)) = 0
    rw [ints_deep l]; rfl
theorem ints_lay : ∀ l : List Int, PyData.canLayAll0 (intsP l) = true
  | [] => rfl
  | i :: l => by
    show (PyData.canLay0 (.int i) && PyData.canLayAll0 (intsP l)) = true
    rw [ints_lay l]; rfl
theorem ints_depth : ∀ l : List Int, PyData.depthAll (intsP l) ≤ 1
  | [] => by decide
  | i :: l => by
    show max (PyData.depth (.int i)) (PyData.depthAll (intsP l)) ≤ 1
    have := ints_depth l
    have e : PyData.depth (.int i) ≤ 1 := by simp [PyData.depth]
    omega
theorem ints_shaped (l : List Int) : SeqAt.shaped (.list (intsP l)) = true := by
  have h := ints_depth l
  have e : PyData.depth (.list (intsP l)) ≤ 64 := by
    show PyData.depthAll (intsP l) + 1 ≤ 64
    omega
  show (PyData.canLay0 (.list (intsP l)) && decide (PyData.depth (.list (intsP l)) ≤ 64)) = true
  rw [decide_eq_true e, Bool.and_true]
  exact ints_lay l
theorem ints_eqv (l : List Int) : PyData.eqv (.list (intsP l)) (.list (intsP l)) = true := SeqAt.eqv_refl _ (ints_lay l)
end Mk10
namespace Mk10
open PySem PySem.Spec PyProof.Rows L2 My

section
variable {P : Program} {w : World} {K : PySem.W.Frag} {mg : Str → Option Value} {base : Heap}
/-- a list of ints -/
abbrev nums (l : List Nat) : List V := l.map fun n => V.int (n : Nat)
/-- a list of steps, as pairs of a name and a number -/
def StepsAt (nm : Bool → V) (H : Hp) (b : Addr) (st : List (Bool × Nat)) : Prop := ∃ ts : List Addr, H b = some (.lst (ts.map V.ref)) ∧ ts.length = st.length ∧ ∀ (i : Nat) (t : Addr) (s : Bool × Nat), ts[i]? = some t → st[i]? = some s → H t = some (.tup [nm s.1, .int (s.2 : Nat)])
theorem StepsAt.keep {nm : Bool → V} {H H' : Hp} {b : Addr} {st : List (Bool × Nat)} (h : StepsAt nm H b st) (s : Same H H') : StepsAt nm H' b st := by
  obtain ⟨ts, h1, h2, h3⟩ := h
  exact ⟨ts, s _ _ h1, h2, fun i t d a b => s _ _ (h3 i t d a b)⟩
def sn : Bool → V := fun b => if b then .str "truncate" else .str "append"
def ln : Bool → V := fun b => .int (if b then 1 else 0)
def spApplied (nm : Bool → V) : Sp := fun vs H Q _ => ∃ (a b : Addr) (d : List Nat) (st : List (Bool × Nat)), vs = [.ref a, .ref b] ∧ H a = some (.lst (nums d)) ∧ StepsAt nm H b st ∧ d.length + st.length ≤ 1000000 ∧
  ∀ (H' : Hp) (p : Addr), Same H H' → H p = none → H' p = some (.lst (nums (after d st))) → Q (.ref p) H'
theorem k__applied (T : TopF K mg) (D : Defs K mg) : Kal P w K mg base CX0 1 "_applied" ["data", "steps"] (spApplied sn) := by
  refine kal_mk D.d__applied sc__applied bi__applied (fun vs H Q E h => ?_) (fun f cdv A outer s H vs Q E hr h => ?_)
  · obtain ⟨_, _, _, _, rfl, _⟩ := h; rfl
  · obtain ⟨a, b, d, st, rfl, ha, ⟨ts, t1, t2, t3⟩, hl, kk⟩ := h
    have nd := sc__applied.nd
    refine ⟨_, (pss_cons (ps_set (i := 2) nd rfl (by first | exact Or.inl rfl | exact Or.inr rfl) (pe_callTy call_list_of (by rfl) T.list (by decide +kernel) (pa_cons (pv 0) pa_nil)))
 (pss_cons (ps_for PassesOwn.never rfl (pi_list (pv 1)) (pg_tup rfl (pgs_cons (pg_name (i := 3) nd rfl (by first | exact Or.inl rfl | exact Or.inr rfl)) (pgs_cons (pg_name (i := 4) nd rfl (by first | exact Or.inl rfl | exact Or.inr rfl)) pgs_nil)))
 (pss_one (ps_if (pt_cmpR op_eq (pv 3) pe_str (nomark _))
 (pss_one (ps_expr (pe_bm PySem.F.plainAttrs_list PySem.F.slot_list_append PySem.F.type_list_append mt_append (pv 2) (pa_cons (pv 4) pa_nil)))) (pss_one (ps_set (i := 2) nd rfl (by first | exact Or.inl rfl | exact Or.inr rfl) (pe_slice sl_list (pv 2) po_none (po_some (pv 4))))))))
 (pss_one (ps_ret (pv 2))))), ?_⟩
    refine ⟨_, rfl, _, _, rfl, .inl (SqL.of ha), fun r nr => ?_⟩
    generalize hr1 : upd _ r _ = H1
    have s1 := same_of hr1 nr
    have ar := upd_at hr1
    refine ⟨_, rfl, b, rfl, ⟨_, SqL.of (s1 _ _ t1)⟩, for_list (K := K) (a := b) (xs := ts.map V.ref) (fun i σ H' => Hold (∃ (r : Addr) (v3 v4 : Option V), σ = [some (.ref a), some (.ref b), some (.ref r), v3, v4] ∧ Same H H' ∧ H r = none ∧ H' r = some (.lst (nums (after d (st.take i)))))) ?_ ?_ ?_ ?_⟩
    · exact .mk ⟨r, none, none, rfl, s1, nr, ar⟩
    · intro i σ H' _ W
      obtain ⟨r, v3, v4, rfl, s2, _, _⟩ := W.out
      exact SqL.of (s2 _ _ t1)
    · intro i x σ H' hx W
      obtain ⟨r, v3, v4, rfl, s2, nr, hr2⟩ := W.out
      obtain ⟨t, ht, rfl⟩ := map_get hx
      obtain ⟨⟨tr, n⟩, hs⟩ : ∃ s, st[i]? = some s := ⟨_, List.getElem?_eq_getElem (by rw [← t2]; exact (List.getElem?_eq_some_iff.mp ht).1)⟩
      have e3 := s2 _ _ (t3 i t _ ht hs)
      have al := after_len (st.take i) d
      have al2 : (st.take i).length ≤ st.length := by rw [List.length_take]; omega
      refine ⟨t, _, rfl, .inl (.inl e3), rfl, _, _, rfl, _, _, rfl, rfl, ?_⟩
      cases tr with
      | false =>
        walk_at "go"
        refine ⟨r, _, _, rfl, rfl, hr2, by rw [List.length_map, line24]; omega, ?_⟩
        refine .mk ⟨r, _, _, rfl, fun b o e => ?_, nr, ?_⟩
        · rw [upd_ne (ne_of_none e nr)]; exact s2 _ _ e
        · rw [upd_same, after_take hs]; simp [step1, nums]
      | true =>
        walk_at "go"
        refine ⟨_, _, rfl, SqL.of hr2, fun q nq => ?_⟩
        refine .mk ⟨q, _, _, rfl, s2.trans (same_new nq), s2.free nq, ?_⟩
        rw [upd_same, after_take hs, cutV_to]
        simp [step1, nums, List.map_take]
    · intro σ H' W
      obtain ⟨r, v3, v4, rfl, s2, nr, hr2⟩ := W.out
      rw [List.length_map, t2, List.take_length] at hr2
      exact ⟨_, rfl, kk H' r s2 nr hr2⟩
theorem k__law_after (T : TopF K mg) (D : Defs K mg) : Kal P w K mg base CX0 1 "_law_after" ["data", "steps"] (spApplied ln) := by
  refine kal_mk D.d__law_after sc__law_after bi__law_after (fun vs H Q E h => ?_) (fun f cdv A outer s H vs Q E hr h => ?_)
  · obtain ⟨_, _, _, _, rfl, _⟩ := h; rfl
  · obtain ⟨a, b, d, st, rfl, ha, ⟨ts, t1, t2, t3⟩, hl, kk⟩ := h
    have nd := sc__law_after.nd
    refine ⟨_, (pss_cons (ps_set (i := 0) nd rfl (by first | exact Or.inl rfl | exact Or.inr rfl) (pe_callTy call_list_of (by rfl) T.list (by decide +kernel) (pa_cons (pv 0) pa_nil)))
 (pss_cons (ps_for PassesOwn.never rfl (pi_list (pv 1)) (pg_tup rfl (pgs_cons (pg_name (i := 2) nd rfl (by first | exact Or.inl rfl | exact Or.inr rfl)) (pgs_cons (pg_name (i := 3) nd rfl (by first | exact Or.inl rfl | exact Or.inr rfl)) pgs_nil)))
 (pss_one (ps_if (pt_cmpR op_eq (pv 2) pe_int (nomark _))
 (pss_one (ps_expr (pe_bm PySem.F.plainAttrs_list PySem.F.slot_list_append PySem.F.type_list_append mt_append (pv 0) (pa_cons (pv 3) pa_nil)))) (pss_one (ps_set (i := 0) nd rfl (by first | exact Or.inl rfl | exact Or.inr rfl) (pe_slice sl_list (pv 0) po_none (po_some (pv 3))))))))
 (pss_one (ps_ret (pv 0))))), ?_⟩
    refine ⟨_, rfl, _, _, rfl, .inl (SqL.of ha), fun r nr => ?_⟩
    generalize hr1 : upd _ r _ = H1
    have s1 := same_of hr1 nr
    have ar := upd_at hr1
    refine ⟨_, rfl, b, rfl, ⟨_, SqL.of (s1 _ _ t1)⟩, for_list (K := K) (a := b) (xs := ts.map V.ref) (fun i σ H' => Hold (∃ (r : Addr) (v3 v4 : Option V), σ = [some (.ref r), some (.ref b), v3, v4] ∧ Same H H' ∧ H r = none ∧ H' r = some (.lst (nums (after d (st.take i)))))) ?_ ?_ ?_ ?_⟩
    · exact .mk ⟨r, none, none, rfl, s1, nr, ar⟩
    · intro i σ H' _ W
      obtain ⟨r, v3, v4, rfl, s2, _, _⟩ := W.out
      exact SqL.of (s2 _ _ t1)
    · intro i x σ H' hx W
      obtain ⟨r, v3, v4, rfl, s2, nr, hr2⟩ := W.out
      obtain ⟨t, ht, rfl⟩ := map_get hx
      obtain ⟨⟨tr, n⟩, hs⟩ : ∃ s, st[i]? = some s := ⟨_, List.getElem?_eq_getElem (by rw [← t2]; exact (List.getElem?_eq_some_iff.mp ht).1)⟩
      have e3 := s2 _ _ (t3 i t _ ht hs)
      have al := after_len (st.take i) d
      have al2 : (st.take i).length ≤ st.length := by rw [List.length_take]; omega
      refine ⟨t, _, rfl, .inl (.inl e3), rfl, _, _, rfl, _, _, rfl, rfl, ?_⟩
      cases tr with
      | false =>
        walk_at "go"
        refine ⟨r, _, _, rfl, rfl, hr2, by rw [List.length_map, line24]; omega, ?_⟩
        refine .mk ⟨r, _, _, rfl, fun b o e => ?_, nr, ?_⟩
        · rw [upd_ne (ne_of_none e nr)]; exact s2 _ _ e
        · rw [upd_same, after_take hs]; simp [step1, nums]
      | true =>
        walk_at "go"
        refine ⟨_, _, rfl, SqL.of hr2, fun q nq => ?_⟩
        refine .mk ⟨q, _, _, rfl, s2.trans (same_new nq), s2.free nq, ?_⟩
        rw [upd_same, after_take hs, cutV_to]
        simp [step1, nums, List.map_take]
    · intro σ H' W
      obtain ⟨r, v3, v4, rfl, s2, nr, hr2⟩ := W.out
      rw [List.length_map, t2, List.take_length] at hr2
      exact ⟨_, rfl, kk H' r s2 nr hr2⟩
end
end Mk10
namespace Mk10
open PySem PySem.Spec PyProof.Rows L2 My

/-! ### the File object. M: the addresses that may change -/
/-- each of M is a list or an instance -/
def Gr (M : Addr → Prop) (H : Hp) : Prop := ∀ b, M b → (∃ xs, H b = some (.lst xs)) ∨ ∃ C dx fs, H b = some (.ins C dx fs)
theorem Gr.no {M : Addr → Prop} {H : Hp} {b : Addr} (g : Gr M H) (h : H b = none) : ¬ M b := fun m => by
  rcases g b m with ⟨xs, e⟩ | ⟨C, dx, fs, e⟩ <;> rw [h] at e <;> cases e
theorem Gr.tup {M : Addr → Prop} {H : Hp} {b : Addr} {xs : List V} (g : Gr M H) (h : H b = some (.tup xs)) : ¬ M b := fun m => by
  rcases g b m with ⟨xs, e⟩ | ⟨C, dx, fs, e⟩ <;> rw [h] at e <;> cases e
theorem ls_ : ¬ (("_lasting" : Str) = "_steps") := by decide +kernel
theorem sl_ : ¬ (("_steps" : Str) = "_lasting") := by decide +kernel
def ff (l1 l2 : Addr) : List (Str × V) := [("_lasting", .ref l1), ("_steps", .ref l2)]
theorem ff_l (l1 l2 : Addr) : (ff l1 l2).lookup ("_lasting" : Str) = some (.ref l1) := by
  show List.lookup ("_lasting" : Str) (("_lasting", V.ref l1) :: _) = _
  rw [List.lookup_cons_self]
theorem ff_s (l1 l2 : Addr) : (ff l1 l2).lookup ("_steps" : Str) = some (.ref l2) := by
  have : (("_steps" : Str) == ("_lasting" : Str)) = false := by decide +kernel
  show List.lookup ("_steps" : Str) (("_lasting", V.ref l1) :: ("_steps", V.ref l2) :: []) = _
  rw [List.lookup_cons, this, List.lookup_cons_self]
theorem ff_no {m : Str} (l1 l2 : Addr) (h1 : (m == ("_lasting" : Str)) = false) (h2 : (m == ("_steps" : Str)) = false) : (ff l1 l2).lookup m = none := by
  show List.lookup m (("_lasting", V.ref l1) :: ("_steps", V.ref l2) :: []) = _
  rw [List.lookup_cons, h1, List.lookup_cons, h2]; rfl
theorem ff_put_l (l1 l2 m : Addr) : putF "_lasting" (.ref m) (ff l1 l2) = ff m l2 := by
  show (if ("_lasting" : Str) = "_lasting" then _ else _) = _
  rw [if_pos rfl]; rfl
theorem ff_put_s (l1 l2 m : Addr) : putF "_steps" (.ref m) (ff l1 l2) = ff l1 m := by
  show (if ("_lasting" : Str) = "_steps" then _ else (("_lasting" : Str), V.ref l1) :: (if ("_steps" : Str) = "_steps" then _ else _)) = _
  rw [if_neg ls_, if_pos rfl]; rfl
/-- a File stands at f: its own list of steps at l2; what it holds of the disk is st behind las -/
def FileAt (C : Addr) (M : Addr → Prop) (H : Hp) (f l2 : Addr) (las : List Nat) (st : List (Bool × Nat)) : Prop :=
  M f ∧ M l2 ∧ ∃ dx l1 : Addr, H f = some (.ins C dx (ff l1 l2)) ∧ H l1 = some (.lst (nums las)) ∧ ¬ M l1 ∧ StepsAt sn H l2 st
theorem FileAt.keep {C : Addr} {M M' : Addr → Prop} {H H' : Hp} {f l2 : Addr} {las : List Nat} {st : List (Bool × Nat)} (h : FileAt C M H f l2 las st) (g : Gr M H) (k : Keep M' H H') (hm : ∀ b, M' b → M b) (nf : ¬ M' f) (nl : ¬ M' l2) : FileAt C M H' f l2 las st := by
  obtain ⟨mf, ml, dx, l1, h1, h2, n1, ts, t1, t2, t3⟩ := h
  exact ⟨mf, ml, dx, l1, k _ _ h1 nf, k _ _ h2 (fun z => n1 (hm _ z)), n1, ts, k _ _ t1 nl, t2, fun i t s a b => k _ _ (t3 i t s a b) fun z => g.tup (t3 i t s a b) (hm _ z)⟩
theorem FileAt.more {C : Addr} {M M' : Addr → Prop} {H : Hp} {f l2 : Addr} {las : List Nat} {st : List (Bool × Nat)} (h : FileAt C M H f l2 las st) (hm : ∀ b, M b → M' b) (hn : ∀ b xs, H b = some (.lst xs) → M' b → M b) : FileAt C M' H f l2 las st := by
  obtain ⟨mf, ml, dx, l1, h1, h2, n1, r⟩ := h
  exact ⟨hm _ mf, hm _ ml, dx, l1, h1, h2, fun z => n1 (hn _ _ h2 z), r⟩
def spInit (C : Addr) : Sp := fun vs H Q _ => ∃ (M : Addr → Prop) (f dx : Addr), vs = [.ref f] ∧ Gr M H ∧ H f = some (.ins C dx []) ∧ ∀ (H' : Hp) (l2 : Addr), Keep (· = f) H H' → H l2 = none → FileAt C (fun b => (M b ∨ b = f) ∨ b = l2) H' f l2 [] [] → Q .non H'
def spWrite (K : PySem.W.Frag) (C : Addr) : Sp := fun vs H Q _ => ∃ (M : Addr → Prop) (f l2 d : Addr) (las : List Nat) (st : List (Bool × Nat)) (bs : List Nat) (x : V) (n : Nat), vs = [.ref f, .ref d, x] ∧ Gr M H ∧ FileAt C M H f l2 las st ∧ H d = some (.lst (nums bs)) ∧
  ((x = .non ∧ n = bs.length) ∨ ∃ m : Nat, x = .int (m : Nat) ∧ n = min m bs.length) ∧ st.length + bs.length ≤ 1000000 ∧
  ∀ H' : Hp, Keep (fun b => b = l2) H H' → FileAt C M H' f l2 las (st ++ (bs.take n).map fun b => (false, b)) → Q (.int (n : Nat)) H'
section
variable {P : Program} {w : World} {K : PySem.W.Frag} {mg : Str → Option Value} {base : Heap}
theorem k_init (T : TopF K mg) (D : Defs K mg) : KMak P w K mg base CX0 1 "File" (He.ga K "File") ["self"] (spInit (He.ga K "File")) := by
  refine kmak_mk D.d_File___init__ sc_File___init__ bi_File___init__ (fun vs H Q E h => ?_) (fun f cdv A outer s H vs Q E hr h => ?_)
  · obtain ⟨_, _, _, rfl, _⟩ := h; rfl
  · obtain ⟨M, f, dx, rfl, g, hf, kk⟩ := h
    have nd := sc_File___init__.nd
    have cl := D.d_File_write.cl
    refine ⟨_, (pss_cons (ps_fld (pv 0) (pe_lst pa_nil) rfl)
 (pss_one (ps_fld (pv 0) (pe_lst pa_nil) rfl))), ?_⟩
    refine ⟨Nat.zero_le _, fun l1 n1 => ?_⟩
    generalize h1 : upd _ l1 _ = H1
    have s1 := same_of h1 n1
    have a1 := upd_at h1
    refine ⟨_, rfl, f, _, dx, [], rfl, s1 _ _ hf, cl, T.n_File__lasting, by show 0 < 1000; decide, ?_⟩
    generalize h2 : upd _ f _ = H2
    have k2 : Keep (· = f) H1 H2 := keep_of h2 rfl
    have a2 := upd_at h2
    refine ⟨Nat.zero_le _, fun l2 n2 => ?_⟩
    generalize h3 : upd _ l2 _ = H3
    have s3 := same_of h3 n2
    have a3 := upd_at h3
    refine ⟨_, rfl, f, _, dx, _, rfl, s3 _ _ a2, cl, T.n_File__steps, by show 1 < 1000; decide, ?_⟩
    generalize h4 : upd _ f _ = H4
    have k4 : Keep (· = f) H3 H4 := keep_of h4 rfl
    have a4 := upd_at h4
    have e : putF "_steps" (V.ref l2) (putF "_lasting" (V.ref l1) []) = ff l1 l2 := by
      show (if ("_lasting" : Str) = "_steps" then _ else (("_lasting" : Str), V.ref l1) :: putF "_steps" (V.ref l2) []) = _
      rw [if_neg ls_]; rfl
    rw [e] at a4
    have nfl1 : l1 ≠ f := fun z => by rw [z, hf] at n1; cases n1
    have nfl2 : l2 ≠ f := fun z => by rw [z, a2] at n2; cases n2
    have nl12 : l1 ≠ l2 := fun z => by
      rw [← z] at n2
      have := k2 _ _ a1 nfl1
      rw [this] at n2; cases n2
    refine kk H4 l2 (((Keep.of s1).trans k2).trans ((Keep.of s3).trans k4)) ?_ ⟨.inl (.inr rfl), .inr rfl, dx, l1, a4, k4 _ _ (s3 _ _ (k2 _ _ a1 nfl1)) nfl1, ?_, [], ?_, rfl, fun i t s a b => by simp at a⟩
    · cases q : H l2 with
      | none => rfl
      | some o =>
        have := k2 _ _ (s1 _ _ q) nfl2
        rw [this] at n2; cases n2
    · rintro ((z | z) | z)
      · exact g.no n1 z
      · exact nfl1 z
      · exact nl12 z
    · exact k4 _ _ a3 nfl2
theorem k_write (T : TopF K mg) (D : Defs K mg) : KMet P w K mg base CX0 1 (He.ga K "File") "write" ["self", "data", "steps"] (spWrite K (He.ga K "File")) := by
  refine kmet_mk D.d_File_write sc_File_write bi_File_write (fun vs H Q E h => ?_) (fun f cdv A outer s H vs Q E hr h => ?_)
  · obtain ⟨_, _, _, _, _, _, _, _, _, rfl, _⟩ := h; rfl
  · obtain ⟨M, f, l2, d, las, st, bs, x, n, rfl, g, ⟨mf, ml, dx, l1, f1, f2, f3, ts, t1, t2, t3⟩, hd, hx, hl, kk⟩ := h
    have nd := sc_File_write.nd
    have cl := D.d_File_write.cl
    refine ⟨_, (C8.pss_cut (ps_set (i := 3) nd rfl (by first | exact Or.inl rfl | exact Or.inr rfl) (pe_ifExp (pt_cmpR op_isN (pv 2) pe_non (nomark _)) (pe_callB call_len_seq (by rfl) T.len (by decide +kernel) (pa_cons (pv 1) pa_nil)) (pe_callB (call_min2 rfl) (by rfl) T.min (by decide +kernel) (pa_cons (pv 2) (pa_cons (pe_callB call_len_seq (by rfl) T.len (by decide +kernel) (pa_cons (pv 1) pa_nil)) pa_nil)))))
 (pss_cons (ps_expr (pe_bm PySem.F.plainAttrs_list PySem.F.slot_list_extend PySem.F.type_list_extend mt_extend (pe_fld (pv 0) rfl) (pa_cons (pe_lc (g := gName 4) (own := [("byte", 4)]) rfl nd (pi_list (pe_slice sl_list (pv 1) po_none (po_some (pv 3)))) (blkOk_by (own := [("byte", 4)]) (N := ["self", "data", "steps", "count", "byte"]) (sc := defScope s_File_write) (by decide +kernel)) (fun _ _ _ _ _ => (pg_name (i := 4) nd rfl (by first | exact Or.inl rfl | exact Or.inr rfl))) (fun _ _ _ _ _ => pts_nil) (fun _ _ _ _ _ => (pe_tup (pa_cons pe_str (pa_cons (pv 4) pa_nil))))) pa_nil)))
 (pss_one (ps_ret (pv 3))))), ?_⟩
    refine ⟨fun σ H' => Hold (σ = [some (.ref f), some (.ref d), some x, some (.int (n : Nat)), none] ∧ H' = H), ?_, ?_⟩
    · rcases hx with ⟨rfl, rfl⟩ | ⟨m, rfl, rfl⟩
      · walk_at "go"
        rw [List.length_map]
        exact .mk ⟨rfl, rfl⟩
      · refine ⟨_, rfl, rfl, _, rfl, ?_⟩
        refine ite2 (fun e => by simp at e) (fun _ => ?_)
        refine ⟨_, rfl, _, rfl, _, _, rfl, .inl (SqL.of hd), _, _, rfl, ?_⟩
        rw [List.length_map]
        have : (if ((bs.length : Nat) : Int) < ((m : Nat) : Int) then ((bs.length : Nat) : Int) else ((m : Nat) : Int)) = ((min m bs.length : Nat) : Int) := by
          split <;> omega
        rw [this]
        exact .mk ⟨rfl, rfl⟩
    rintro σ H' W
    obtain ⟨rfl, rfl⟩ := W.out
    clear W
    have nl : n ≤ bs.length := by
      rcases hx with ⟨_, rfl⟩ | ⟨m, _, rfl⟩ <;> omega
    -- self._steps.extend([("append", byte) for byte in data[:count]])
    refine ⟨_, rfl, f, _, dx, _, _, rfl, f1, cl, T.n_File__steps, ff_s _ _, .inl ⟨rfl, _, SqL.of t1⟩, ?_⟩
    refine ⟨_, rfl, _, rfl, _, rfl, _, _, rfl, SqL.of hd, fun c nc => ?_⟩
    generalize hc : upd _ c _ = H1
    have s1 := same_of hc nc
    have ac := upd_at hc
    rw [cutV_to] at ac
    refine ⟨c, rfl, ⟨_, SqL.of ac⟩, fun e ne => ?_⟩
    have nl2e : l2 ≠ e := ne_of_none (s1 _ _ t1) ne
    refine lc_list (K := K) (a := c) (xs := (nums bs).take n) (fun i H' => Hold (Keep (· = e) H1 H' ∧ ∃ us : List Addr, H' e = some (.lst (us.map V.ref)) ∧ us.length = i ∧ ∀ (j : Nat) (t : Addr) (b : Nat), us[j]? = some t → (bs.take n)[j]? = some b → H' t = some (.tup [.str "append", .int (b : Nat)]))) ?_ ?_ ?_ ?_
    · exact .mk ⟨Keep.new ne, [], upd_same, rfl, fun j t b a => by simp at a⟩
    · intro i H' _ W
      exact W.out.1.seq (ne_of_none ac ne) (SqL.of ac)
    · intro i y H' hy W
      obtain ⟨kp, us, u1, u2, u3⟩ := W.out
      rw [← List.map_take] at hy
      obtain ⟨b, hb, rfl⟩ := map_get hy
      have hi : i < n := by
        have := (List.getElem?_eq_some_iff.mp hb).1
        rw [List.length_take] at this; omega
      refine ⟨rfl, ?_⟩
      refine ⟨_, rfl, by show 2 ≤ sizeLine; decide, fun t nt => ?_⟩
      generalize ht : upd _ t _ = H2
      have s2 := same_of ht nt
      have at_ := upd_at ht
      refine ⟨_, s2 _ _ u1, by rw [List.length_map, u2, line24]; omega, .mk ⟨kp.trans ((Keep.of s2).trans (Keep.put rfl)), us ++ [t], by rw [upd_same]; simp, by simp [u2], fun j t' b' h1 h2 => ?_⟩⟩
      have nte : t ≠ e := ne_of at_ (s2 _ _ u1) (by intro z; cases z)
      by_cases hj : j < us.length
      · rw [List.getElem?_append_left hj] at h1
        have := u3 j t' b' h1 h2
        rw [upd_ne (ne_of (s2 _ _ this) (s2 _ _ u1) (by intro z; cases z))]
        exact s2 _ _ this
      · have hj2 : j = us.length := by
          have := (List.getElem?_eq_some_iff.mp h1).1
          simp at this; omega
        subst hj2
        simp at h1
        rw [u2, hb] at h2
        cases h2
        subst h1
        rw [upd_ne nte]; exact at_
    · intro H' W
      obtain ⟨kp, us, u1, u2, u3⟩ := W.out
      have hlen : us.length = n := by rw [u2, List.length_take, List.length_map]; omega
      refine ⟨l2, e, _, _, rfl, rfl, kp _ _ (s1 _ _ t1) nl2e, u1, by rw [List.length_map, List.length_map, t2, hlen, line24]; omega, ?_⟩
      generalize hz : upd _ l2 _ = H3
      have k3 : Keep (fun b => b = l2) H' H3 := keep_of hz rfl
      have a3 := upd_at hz
      refine ⟨_, rfl, kk H3 (fun b o eb nb => k3 _ _ (kp _ _ (s1 _ _ eb) (ne_of_none (s1 _ _ eb) ne)) nb) ⟨mf, ml, dx, l1, ?_, ?_, f3, ts ++ us, by rw [a3]; simp, by simp [t2, hlen]; omega, fun i t s h1 h2 => ?_⟩⟩
      · exact k3 _ _ (kp _ _ (s1 _ _ f1) (ne_of_none (s1 _ _ f1) ne)) (ne_of f1 t1 (by intro z; cases z))
      · exact k3 _ _ (kp _ _ (s1 _ _ f2) (ne_of_none (s1 _ _ f2) ne)) (fun z => f3 (z ▸ ml))
      · by_cases hi : i < ts.length
        · rw [List.getElem?_append_left hi] at h1
          rw [List.getElem?_append_left (by omega)] at h2
          have := t3 i t s h1 h2
          exact k3 _ _ (kp _ _ (s1 _ _ this) (ne_of_none (s1 _ _ this) ne)) (ne_of this t1 (by intro z; cases z))
        · rw [List.getElem?_append_right (by omega)] at h1
          rw [List.getElem?_append_right (by omega), ← t2] at h2
          obtain ⟨b, hb, rfl⟩ := map_get h2
          have := u3 _ t b h1 hb
          refine k3 _ _ this (ne_of this (kp _ _ (s1 _ _ t1) nl2e) (by intro z; cases z))
end
end Mk10
namespace Mk10
open PySem PySem.Spec PyProof.Rows L2 My

def spShorten (C : Addr) : Sp := fun vs H Q _ => ∃ (M : Addr → Prop) (f l2 : Addr) (las : List Nat) (st : List (Bool × Nat)) (z : Nat) (x : V), vs = [.ref f, .int (z : Nat), x] ∧ Gr M H ∧ FileAt C M H f l2 las st ∧
  (x = .non ∨ ∃ m : Nat, x = .int (m : Nat)) ∧ st.length ≤ 1000000 ∧
  (x = .int 0 → Q (.int 0) H) ∧ (x ≠ .int 0 → ∀ H' : Hp, Keep (fun b => b = l2) H H' → FileAt C M H' f l2 las (st ++ [(true, z)]) → Q (.int 1) H')
def spContent (C : Addr) : Sp := fun vs H Q _ => ∃ (M : Addr → Prop) (f l2 : Addr) (las : List Nat) (st : List (Bool × Nat)), vs = [.ref f] ∧ FileAt C M H f l2 las st ∧ las.length + st.length ≤ 1000000 ∧
  ∀ (H' : Hp) (p : Addr), Same H H' → H p = none → H' p = some (.lst (nums (after las st))) → Q (.ref p) H'
def spPending (C : Addr) : Sp := fun vs H Q _ => ∃ (M : Addr → Prop) (f l2 : Addr) (las : List Nat) (st : List (Bool × Nat)), vs = [.ref f] ∧ FileAt C M H f l2 las st ∧ Q (.int (st.length : Nat)) H
def spLose (C : Addr) : Sp := fun vs H Q _ => ∃ (M : Addr → Prop) (f l2 : Addr) (las : List Nat) (st : List (Bool × Nat)) (n : Nat), vs = [.ref f, .int (n : Nat)] ∧ Gr M H ∧ FileAt C M H f l2 las st ∧ las.length + st.length ≤ 1000000 ∧
  ∀ (H' : Hp) (m2 : Addr), H m2 = none → Keep (fun b => b = f) H H' → FileAt C (fun b => M b ∨ b = m2) H' f m2 (after las (st.take n)) [] → Q .non H'
def spFlush (C : Addr) : Sp := fun vs H Q _ => ∃ (M : Addr → Prop) (f l2 : Addr) (las : List Nat) (st : List (Bool × Nat)) (x : V), vs = [.ref f, x] ∧ Gr M H ∧ FileAt C M H f l2 las st ∧ (x = .non ∨ ∃ m : Nat, x = .int (m : Nat)) ∧ las.length + st.length ≤ 1000000 ∧
  (x = .int 0 → Q (.int 0) H) ∧ (x ≠ .int 0 → ∀ (H' : Hp) (m2 : Addr), H m2 = none → Keep (fun b => b = f) H H' → FileAt C (fun b => M b ∨ b = m2) H' f m2 (after las st) [] → Q (.int 1) H')
theorem StepsAt.cut {nm : Bool → V} {H : Hp} {b : Addr} {st : List (Bool × Nat)} (h : StepsAt nm H b st) (n : Nat) : ∃ ts : List Addr, H b = some (.lst (ts.map V.ref)) ∧ ∀ (H' : Hp) (c : Addr), Same H H' → H' c = some (.lst ((ts.map V.ref).take n)) → StepsAt nm H' c (st.take n) := by
  obtain ⟨ts, h1, h2, h3⟩ := h
  refine ⟨ts, h1, fun H' c s e => ⟨ts.take n, by rw [e, List.map_take], by rw [List.length_take, List.length_take, h2], fun i t d a b => ?_⟩⟩
  rw [List.getElem?_take] at a b
  split at a
  · rename_i lt
    rw [if_pos lt] at b
    exact s _ _ (h3 i t d a b)
  · cases a
theorem isz {x : V} (h : x = .non ∨ ∃ m : Nat, x = .int (m : Nat)) : scal x (.int 0) = true := by
  rcases h with rfl | ⟨m, rfl⟩ <;> rfl
section
variable {P : Program} {w : World} {K : PySem.W.Frag} {mg : Str → Option Value} {base : Heap}
theorem k_shorten (T : TopF K mg) (D : Defs K mg) : KMet P w K mg base CX0 1 (He.ga K "File") "shorten" ["self", "size", "steps"] (spShorten (He.ga K "File")) := by
  refine kmet_mk D.d_File_shorten sc_File_shorten bi_File_shorten (fun vs H Q E h => ?_) (fun f cdv A outer s H vs Q E hr h => ?_)
  · obtain ⟨_, _, _, _, _, _, _, rfl, _⟩ := h; rfl
  · obtain ⟨M, f, l2, las, st, z, x, rfl, g, ⟨mf, ml, dx, l1, f1, f2, f3, ts, t1, t2, t3⟩, hx, hl, k0, k1⟩ := h
    have nd := sc_File_shorten.nd
    have cl := D.d_File_write.cl
    refine ⟨_, (pss_cons (ps_if (pt_cmpR op_eq (pv 2) pe_int (nomark _))
 (pss_one (ps_ret pe_int)) pss_nil)
 (pss_cons (ps_expr (pe_bm PySem.F.plainAttrs_list PySem.F.slot_list_append PySem.F.type_list_append mt_append (pe_fld (pv 0) rfl) (pa_cons (pe_tup (pa_cons pe_str (pa_cons (pv 1) pa_nil))) pa_nil)))
 (pss_one (ps_ret pe_int)))), ?_⟩
    refine ⟨_, rfl, isz hx, _, rfl, ?_⟩
    refine ite2 (fun e => ?_) (fun e => ?_)
    · exact k0 (of_decide_eq_true e)
    · have ne : x ≠ .int 0 := fun q => e (decide_eq_true q)
      refine ⟨_, rfl, f, _, dx, _, _, rfl, f1, cl, T.n_File__steps, ff_s _ _, .inl ⟨rfl, _, SqL.of t1⟩, ?_⟩
      refine ⟨_, rfl, by show 2 ≤ sizeLine; decide, fun t nt => ?_⟩
      generalize ht : upd _ t _ = H2
      have s2 := same_of ht nt
      have at_ := upd_at ht
      refine ⟨l2, _, _, rfl, rfl, s2 _ _ t1, by rw [List.length_map, t2, line24]; omega, ?_⟩
      generalize hz : upd _ l2 _ = H3
      have k3 : Keep (fun b => b = l2) H2 H3 := keep_of hz rfl
      have a3 := upd_at hz
      have ntl : t ≠ l2 := ne_of at_ (s2 _ _ t1) (by intro z; cases z)
      refine k1 ne H3 ((Keep.of s2).trans k3) ⟨mf, ml, dx, l1, ?_, ?_, f3, ts ++ [t], by rw [a3]; simp, by simp [t2], fun i t' s' h1 h2 => ?_⟩
      · exact k3 _ _ (s2 _ _ f1) (ne_of f1 t1 (by intro z; cases z))
      · exact k3 _ _ (s2 _ _ f2) (fun z => f3 (z ▸ ml))
      · by_cases hi : i < ts.length
        · rw [List.getElem?_append_left hi] at h1
          rw [List.getElem?_append_left (by omega)] at h2
          have := t3 i t' s' h1 h2
          exact k3 _ _ (s2 _ _ this) (ne_of this t1 (by intro z; cases z))
        · have hj2 : i = ts.length := by
            have := (List.getElem?_eq_some_iff.mp h1).1
            simp at this; omega
          subst hj2
          rw [t2] at h2
          simp at h1 h2
          subst h1 h2
          exact k3 _ _ at_ ntl
theorem k_pending (T : TopF K mg) (D : Defs K mg) : KMet P w K mg base CX0 1 (He.ga K "File") "pending" ["self"] (spPending (He.ga K "File")) := by
  refine kmet_mk D.d_File_pending sc_File_pending bi_File_pending (fun vs H Q E h => ?_) (fun f cdv A outer s H vs Q E hr h => ?_)
  · obtain ⟨_, _, _, _, _, rfl, _⟩ := h; rfl
  · obtain ⟨M, f, l2, las, st, rfl, ⟨mf, ml, dx, l1, f1, f2, f3, ts, t1, t2, t3⟩, kk⟩ := h
    have nd := sc_File_pending.nd
    have cl := D.d_File_write.cl
    refine ⟨_, (pss_one (ps_ret (pe_callB call_len_seq (by rfl) T.len (by decide +kernel) (pa_cons (pe_fld (pv 0) rfl) pa_nil)))), ?_⟩
    refine ⟨_, rfl, f, _, dx, _, _, rfl, f1, cl, T.n_File__steps, ff_s _ _, _, _, rfl, .inl (SqL.of t1), ?_⟩
    rw [List.length_map, t2]
    exact kk
theorem k_content (T : TopF K mg) (D : Defs K mg) (c__applied : Kal P w K mg base CX0 1 "_applied" ["data", "steps"] (spApplied sn)) : KMet P w K mg base CX0 2 (He.ga K "File") "content" ["self"] (spContent (He.ga K "File")) := by
  refine kmet_mk D.d_File_content sc_File_content bi_File_content (fun vs H Q E h => ?_) (fun f cdv A outer s H vs Q E hr h => ?_)
  · obtain ⟨_, _, _, _, _, rfl, _⟩ := h; rfl
  · obtain ⟨M, f, l2, las, st, rfl, ⟨mf, ml, dx, l1, f1, f2, f3, f4⟩, hl, kk⟩ := h
    have nd := sc_File_content.nd
    have cl := D.d_File_write.cl
    have f5 := f4
    obtain ⟨ts, t1, t2, t3⟩ := f5
    refine ⟨_, (pss_one (ps_ret (pe_kal c__applied hr (by first | decide | exact Nat.le_refl _ | omega) (pa_cons (pe_fld (pv 0) rfl) (pa_cons (pe_fld (pv 0) rfl) pa_nil))))), ?_⟩
    refine ⟨_, rfl, f, _, dx, _, _, rfl, f1, cl, T.n_File__lasting, ff_l _ _, _, rfl, f, _, dx, _, _, rfl, f1, cl, T.n_File__steps, ff_s _ _, ?_⟩
    exact ⟨l1, l2, las, st, rfl, f2, f4, hl, fun H' p s n e => kk H' p s n e⟩
theorem k_lose (T : TopF K mg) (D : Defs K mg) (c__applied : Kal P w K mg base CX0 1 "_applied" ["data", "steps"] (spApplied sn)) : KMet P w K mg base CX0 2 (He.ga K "File") "lose" ["self", "steps"] (spLose (He.ga K "File")) := by
  refine kmet_mk D.d_File_lose sc_File_lose bi_File_lose (fun vs H Q E h => ?_) (fun f cdv A outer s H vs Q E hr h => ?_)
  · obtain ⟨_, _, _, _, _, _, rfl, _⟩ := h; rfl
  · obtain ⟨M, f, l2, las, st, n, rfl, g, ⟨mf, ml, dx, l1, f1, f2, f3, f4⟩, hl, kk⟩ := h
    have nd := sc_File_lose.nd
    have cl := D.d_File_write.cl
    obtain ⟨ts, t1, cut⟩ := f4.cut n
    refine ⟨_, (pss_cons (ps_fld (pv 0) (pe_kal c__applied hr (by first | decide | exact Nat.le_refl _ | omega) (pa_cons (pe_fld (pv 0) rfl) (pa_cons (pe_slice sl_list (pe_fld (pv 0) rfl) po_none (po_some (pv 1))) pa_nil))) rfl)
 (pss_one (ps_fld (pv 0) (pe_lst pa_nil) rfl))), ?_⟩
    refine ⟨_, rfl, f, _, dx, _, _, rfl, f1, cl, T.n_File__lasting, ff_l _ _, ?_⟩
    refine ⟨_, rfl, f, _, dx, _, _, rfl, f1, cl, T.n_File__steps, ff_s _ _, ?_⟩
    refine ⟨_, rfl, _, rfl, _, _, rfl, SqL.of t1, fun c nc => ?_⟩
    generalize hc : upd _ c _ = H1
    have s1 := same_of hc nc
    have ac := upd_at hc
    rw [cutV_to] at ac
    have tl : las.length + (st.take n).length ≤ 1000000 := by
      have : (st.take n).length ≤ st.length := by rw [List.length_take]; omega
      omega
    refine ⟨l1, c, las, st.take n, rfl, s1 _ _ f2, cut H1 c s1 ac, tl, fun H2 m1 s2 n1 e1 => ?_⟩
    refine ⟨_, rfl, f, _, dx, _, rfl, s2 _ _ (s1 _ _ f1), cl, T.n_File__lasting, by show 2 < 1000; decide, ?_⟩
    rw [ff_put_l]
    generalize h3 : upd _ f _ = H3
    have k3 : Keep (· = f) H2 H3 := keep_of h3 rfl
    have a3 := upd_at h3
    refine ⟨Nat.zero_le _, fun m2 n2 => ?_⟩
    generalize h4 : upd _ m2 _ = H4
    have s4 := same_of h4 n2
    have a4 := upd_at h4
    refine ⟨_, rfl, f, _, dx, _, rfl, s4 _ _ a3, cl, T.n_File__steps, by show 2 < 1000; decide, ?_⟩
    rw [ff_put_s]
    generalize h5 : upd _ f _ = H5
    have k5 : Keep (· = f) H4 H5 := keep_of h5 rfl
    have a5 := upd_at h5
    have kp : Keep (· = f) H1 H4 := ((Keep.of s2).trans k3).trans (Keep.of s4)
    have q2 : H m2 = none := by
      cases q : H m2 with
      | none => rfl
      | some o =>
        by_cases z : m2 = f
        · rw [z, a3] at n2; cases n2
        · have := k3 _ _ (s2 _ _ (s1 _ _ q)) z
          rw [n2] at this; cases this
    have q1 : H m1 = none := s1.free n1
    have m1f : m1 ≠ f := fun z => by rw [z, f1] at q1; cases q1
    have m12 : m1 ≠ m2 := fun z => by
      have := k3 _ _ e1 m1f
      rw [z, n2] at this; cases this
    refine kk H5 m2 q2 ((Keep.of s1).trans (kp.trans k5)) ⟨.inl mf, .inr rfl, dx, m1, a5, k5 _ _ (s4 _ _ (k3 _ _ e1 m1f)) m1f, ?_, [], ?_, rfl, fun i t d a b => by simp at a⟩
    · rintro (z | z)
      · exact g.no q1 z
      · exact m12 z
    · exact k5 _ _ a4 fun z => by rw [z, f1] at q2; cases q2
theorem k_flush (T : TopF K mg) (D : Defs K mg) (c_File_lose : KMet P w K mg base CX0 2 (He.ga K "File") "lose" ["self", "steps"] (spLose (He.ga K "File"))) : KMet P w K mg base CX0 3 (He.ga K "File") "flush" ["self", "steps"] (spFlush (He.ga K "File")) := by
  refine kmet_mk D.d_File_flush sc_File_flush bi_File_flush (fun vs H Q E h => ?_) (fun f cdv A outer s H vs Q E hr h => ?_)
  · obtain ⟨_, _, _, _, _, _, rfl, _⟩ := h; rfl
  · obtain ⟨M, f, l2, las, st, x, rfl, g, F, hx, hl, k0, k1⟩ := h
    have F' := F
    obtain ⟨mf, ml, dx, l1, f1, f2, f3, ts, t1, t2, t3⟩ := F'
    have nd := sc_File_flush.nd
    have cl := D.d_File_write.cl
    refine ⟨_, (pss_cons (ps_if (pt_cmpR op_eq (pv 1) pe_int (nomark _))
 (pss_one (ps_ret pe_int)) pss_nil)
 (pss_cons (ps_expr (pe_kmet c_File_lose hr (by first | decide | exact Nat.le_refl _ | omega) (pv 0) (pa_cons (pe_callB call_len_seq (by rfl) T.len (by decide +kernel) (pa_cons (pe_fld (pv 0) rfl) pa_nil)) pa_nil)))
 (pss_one (ps_ret pe_int)))), ?_⟩
    refine ⟨_, rfl, isz hx, _, rfl, ?_⟩
    refine ite2 (fun e => ?_) (fun e => ?_)
    · exact k0 (of_decide_eq_true e)
    · have ne : x ≠ .int 0 := fun q => e (decide_eq_true q)
      refine ⟨_, rfl, f, dx, _, rfl, f1, ff_no _ _ (by decide +kernel) (by decide +kernel), ?_⟩
      refine ⟨_, rfl, f, _, dx, _, _, rfl, f1, cl, T.n_File__steps, ff_s _ _, _, _, rfl, .inl (SqL.of t1), ?_⟩
      rw [List.length_map, t2]
      refine ⟨M, f, l2, las, st, st.length, rfl, g, F, hl, fun H' m2 q2 kp F2 => ?_⟩
      rw [List.take_length] at F2
      exact k1 ne H' m2 q2 kp F2
end
end Mk10
namespace Mk10
open PySem PySem.Spec PyProof.Rows L2 My

theorem FileAt.keep' {C : Addr} {M N : Addr → Prop} {H H' : Hp} {f l2 : Addr} {las : List Nat} {st : List (Bool × Nat)} (h : FileAt C M H f l2 las st) (g : Gr M H) (k : Keep N H H') (hm : ∀ b o, H b = some o → N b → M b) (nf : ¬ N f) (nl : ¬ N l2) : FileAt C M H' f l2 las st := by
  obtain ⟨mf, ml, dx, l1, h1, h2, n1, ts, t1, t2, t3⟩ := h
  exact ⟨mf, ml, dx, l1, k _ _ h1 nf, k _ _ h2 (fun z => n1 (hm _ _ h2 z)), n1, ts, k _ _ t1 nl, t2, fun i t s a b => k _ _ (t3 i t s a b) fun z => g.tup (t3 i t s a b) (hm _ _ (t3 i t s a b) z)⟩
theorem FileAt.more' {C : Addr} {M M' : Addr → Prop} {H : Hp} {f l2 : Addr} {las : List Nat} {st : List (Bool × Nat)} (h : FileAt C M H f l2 las st) (hm : ∀ b, M b → M' b) (hn : ∀ b, M' b → M b ∨ H b = none) : FileAt C M' H f l2 las st := by
  obtain ⟨mf, ml, dx, l1, h1, h2, n1, r⟩ := h
  exact ⟨hm _ mf, hm _ ml, dx, l1, h1, h2, fun z => (hn _ z).elim n1 fun q => (by rw [h2] at q; cases q), r⟩
/-- the law's two lists -/
def LawAt (M : Addr → Prop) (H : Hp) (p1 p2 : Addr) (las : List Nat) (st : List (Bool × Nat)) : Prop := H p1 = some (.lst (nums las)) ∧ ¬ M p1 ∧ StepsAt ln H p2 st ∧ ¬ M p2
theorem LawAt.keep {M N : Addr → Prop} {H H' : Hp} {p1 p2 : Addr} {las : List Nat} {st : List (Bool × Nat)} (h : LawAt M H p1 p2 las st) (g : Gr M H) (k : Keep N H H') (hm : ∀ b o, H b = some o → N b → M b) : LawAt M H' p1 p2 las st := by
  obtain ⟨h1, n1, ⟨ts, t1, t2, t3⟩, n2⟩ := h
  exact ⟨k _ _ h1 fun z => n1 (hm _ _ h1 z), n1, ⟨ts, k _ _ t1 fun z => n2 (hm _ _ t1 z), t2, fun i t s a b => k _ _ (t3 i t s a b) fun z => g.tup (t3 i t s a b) (hm _ _ (t3 i t s a b) z)⟩, n2⟩
theorem LawAt.more {M M' : Addr → Prop} {H : Hp} {p1 p2 : Addr} {las : List Nat} {st : List (Bool × Nat)} (h : LawAt M H p1 p2 las st) (hn : ∀ b, M' b → M b ∨ H b = none) : LawAt M' H p1 p2 las st := by
  obtain ⟨h1, n1, h3, n2⟩ := h
  refine ⟨h1, fun z => (hn _ z).elim n1 fun q => (by rw [h1] at q; cases q), h3, fun z => (hn _ z).elim n2 fun q => ?_⟩
  obtain ⟨ts, t1, _⟩ := h3
  rw [t1] at q; cases q
theorem StAt.keep {K : PySem.W.Frag} {N : Addr → Prop} {H H' : Hp} {s p : Addr} (h : StAt K H s p) (k : Keep N H H') (ns : ¬ N s) (np : ¬ N p) : StAt K H' s p := by
  obtain ⟨ds, i, h1, ⟨h2, h3⟩, h4⟩ := h
  exact ⟨ds, i, k _ _ h1 ns, ⟨k _ _ h2 np, h3⟩, h4⟩
theorem Gr.keep {M N : Addr → Prop} {H H' : Hp} (g : Gr M H) (k : Keep N H H') (hn : ∀ b, M b → N b → (∃ xs, H' b = some (.lst xs)) ∨ ∃ C dx fs, H' b = some (.ins C dx fs)) : Gr M H' := fun b m => by
  by_cases z : N b
  · exact hn b m z
  · rcases g b m with ⟨xs, e⟩ | ⟨C, dx, fs, e⟩
    · exact .inl ⟨xs, k _ _ e z⟩
    · exact .inr ⟨C, dx, fs, k _ _ e z⟩
theorem Gr.or {M : Addr → Prop} {H : Hp} {e : Addr} {xs : List V} (g : Gr M H) (h : H e = some (.lst xs)) : Gr (fun b => M b ∨ b = e) H := fun b m => by
  rcases m with m | rfl
  · exact g b m
  · exact .inl ⟨xs, h⟩
/-- the law's state and its file -/
structure Wo (K : PySem.W.Frag) (C : Addr) (M : Addr → Prop) (H : Hp) (s p f l2 : Addr) (las : List Nat) (st : List (Bool × Nat)) : Prop where
  g : Gr M H
  ms : M s
  sa : StAt K H s p
  np : ¬ M p
  sl : s ≠ l2
  fl : FileAt C M H f l2 las st
section
variable {K : PySem.W.Frag} {C : Addr} {M N : Addr → Prop} {H H' : Hp} {s p f l2 p1 p2 e : Addr} {las las' : List Nat} {st st' : List (Bool × Nat)} {xs : List V}
theorem StAt.lst (h : StAt K H s p) : ∃ xs, H s = some (.lst xs) := by
  obtain ⟨_, _, h2, _⟩ := h; exact ⟨_, h2⟩
theorem StAt.plst (h : StAt K H s p) : ∃ xs, H p = some (.lst xs) := by
  obtain ⟨_, _, _, h2, _⟩ := h; exact ⟨_, h2.1⟩
theorem FileAt.ins (h : FileAt C M H f l2 las st) : ∃ dx l1, H f = some (.ins C dx (ff l1 l2)) := by
  obtain ⟨_, _, dx, l1, h1, _⟩ := h; exact ⟨dx, l1, h1⟩
theorem FileAt.lst (h : FileAt C M H f l2 las st) : ∃ xs, H l2 = some (.lst xs) := by
  obtain ⟨_, _, dx, l1, h1, _, _, ts, h2, _⟩ := h; exact ⟨_, h2⟩
theorem Wo.sf (W : Wo K C M H s p f l2 las st) : f ≠ s := by
  obtain ⟨dx, l1, h1⟩ := W.fl.ins
  obtain ⟨_, h2⟩ := W.sa.lst
  exact ne_of h1 h2 (by intro z; cases z)
theorem Wo.hm (W : Wo K C M H s p f l2 las st) (hN : ∀ b, N b → b = s ∨ H b = none) : ∀ b o, H b = some o → N b → M b := fun b o e n => (hN b n).elim (fun z => by rw [z]; exact W.ms) fun z => by rw [z] at e; cases e
theorem Wo.keepN (W : Wo K C M H s p f l2 las st) (hN : ∀ b, N b → b = s ∨ H b = none) (k : Keep N H H') (sa : StAt K H' s p) : Wo K C M H' s p f l2 las st := by
  refine ⟨W.g.keep k fun b m n => .inl ?_, W.ms, sa, W.np, W.sl, W.fl.keep' W.g k (W.hm hN) (fun n => ?_) (fun n => ?_)⟩
  · rcases hN b n with z | z
    · rw [z]; exact sa.lst
    · exact absurd m (W.g.no z)
  · rcases hN _ n with z | z
    · exact W.sf z
    · obtain ⟨dx, l1, h1⟩ := W.fl.ins
      rw [z] at h1; cases h1
  · rcases hN _ n with z | z
    · exact W.sl z.symm
    · obtain ⟨_, h1⟩ := W.fl.lst
      rw [z] at h1; cases h1
theorem LawAt.keepN (L : LawAt M H p1 p2 las st) (W : Wo K C M H s p f l2 las' st') (hN : ∀ b, N b → b = s ∨ H b = none) (k : Keep N H H') : LawAt M H' p1 p2 las st := L.keep W.g k (W.hm hN)
theorem Keep.free' {b : Addr} (k : Keep N H H') (q : H' b = none) (n : ¬ N b) : H b = none := by
  cases z : H b with
  | none => rfl
  | some o =>
    have := k _ _ z n
    rw [q] at this; cases this
theorem StAt.keepT {v : Addr} (h : StAt K H s p) (k : Keep (· = v) H H') (nv : H v = none) : StAt K H' s p := by
  obtain ⟨_, h1⟩ := h.lst
  obtain ⟨_, h2⟩ := h.plst
  exact h.keep k (ne_of_none h1 nv) (ne_of_none h2 nv)
theorem StAt.same (h : StAt K H s p) (k : Same H H') : StAt K H' s p := h.keep (N := fun _ => False) (Keep.of k) (fun z => z) (fun z => z)
theorem Wo.same (W : Wo K C M H s p f l2 las st) (k : Same H H') : Wo K C M H' s p f l2 las st := W.keepN (N := fun _ => False) (fun _ z => z.elim) (Keep.of k) (W.sa.same k)
theorem LawAt.same (L : LawAt M H p1 p2 las st) (W : Wo K C M H s p f l2 las' st') (k : Same H H') : LawAt M H' p1 p2 las st := L.keepN W (N := fun _ => False) (fun _ z => z.elim) (Keep.of k)
/-- a new list may be changed, too -/
theorem Wo.add (W : Wo K C M H s p f l2 las st) (ne : H e = none) (k : Same H H') (a : H' e = some (.lst xs)) : Wo K C (fun b => M b ∨ b = e) H' s p f l2 las st := by
  have W' := W.same k
  refine ⟨W'.g.or a, .inl W.ms, W'.sa, ?_, W.sl, ?_⟩
  · rintro (z | z)
    · exact W.np z
    · obtain ⟨_, h⟩ := W.sa.plst
      rw [z, ne] at h; cases h
  · have F2 := W.fl.more' (M' := fun b => M b ∨ b = e) (fun b m => .inl m) (fun b m => m.elim .inl fun z => .inr (by rw [z]; exact ne))
    obtain ⟨mf, ml, dx, l1, h1, h2, n1, h3⟩ := F2
    exact ⟨mf, ml, dx, l1, k _ _ h1, k _ _ h2, n1, h3.keep k⟩
theorem LawAt.add (L : LawAt M H p1 p2 las st) (W : Wo K C M H s p f l2 las' st') (ne : H e = none) (k : Same H H') : LawAt (fun b => M b ∨ b = e) H' p1 p2 las st := by
  obtain ⟨h1, n1, h3, n2⟩ := L.more (M' := fun b => M b ∨ b = e) (fun b m => m.elim .inl fun z => .inr (by rw [z]; exact ne))
  exact ⟨k _ _ h1, n1, h3.keep k, n2⟩
/-- .. and is changed -/
theorem Wo.put (W : Wo K C M H s p f l2 las st) (me : M e) (n1 : e ≠ s) (n2 : e ≠ f) (n3 : e ≠ l2) (k : Keep (· = e) H H') (a : H' e = some (.lst xs)) : Wo K C M H' s p f l2 las st := by
  have hm : ∀ b o, H b = some o → b = e → M b := fun b o _ z => by rw [z]; exact me
  refine ⟨W.g.keep k fun b m n => .inl ⟨xs, by rw [n]; exact a⟩, W.ms, W.sa.keep k (fun z => n1 z.symm) (fun z => W.np (by rw [z]; exact me)), W.np, W.sl, W.fl.keep' W.g k hm (fun z => n2 z.symm) (fun z => n3 z.symm)⟩
theorem LawAt.put (L : LawAt M H p1 p2 las st) (W : Wo K C M H s p f l2 las' st') (me : M e) (k : Keep (· = e) H H') : LawAt M H' p1 p2 las st := L.keep W.g k fun b o _ z => by rw [z]; exact me
/-- the file has done something -/
theorem Wo.step (W : Wo K C M H s p f l2 las st) (k : Keep (fun b => b = l2) H H') (F : FileAt C M H' f l2 las' st') : Wo K C M H' s p f l2 las' st' :=
  ⟨W.g.keep k fun b m n => .inl (by rw [n]; exact F.lst), W.ms, W.sa.keep k W.sl (fun z => W.np (by rw [z]; exact W.fl.2.1)), W.np, W.sl, F⟩
theorem LawAt.step {las2 : List Nat} {st2 : List (Bool × Nat)} (L : LawAt M H p1 p2 las2 st2) (W : Wo K C M H s p f l2 las st) (k : Keep (fun b => b = l2) H H') : LawAt M H' p1 p2 las2 st2 := L.keep W.g k fun b o _ z => by rw [z]; exact W.fl.2.1
theorem Wo.step2 {m2 : Addr} (W : Wo K C M H s p f l2 las st) (q : H m2 = none) (k : Keep (fun b => b = f) H H') (F : FileAt C (fun b => M b ∨ b = m2) H' f m2 las' st') : Wo K C (fun b => M b ∨ b = m2) H' s p f m2 las' st' := by
  obtain ⟨ys, hy⟩ := F.lst
  obtain ⟨dx, l1, hf⟩ := F.ins
  refine ⟨(W.g.keep k fun b m n => .inr ⟨C, dx, ff l1 m2, by rw [n]; exact hf⟩).or hy, .inl W.ms, W.sa.keep k (fun z => W.sf z.symm) (fun z => W.np (by rw [z]; exact W.fl.1)), ?_, fun z => ?_, F⟩
  · rintro (z | z)
    · exact W.np z
    · obtain ⟨_, h⟩ := W.sa.plst
      rw [z, q] at h; cases h
  · obtain ⟨_, h⟩ := W.sa.lst
    rw [z, q] at h; cases h
theorem LawAt.step2 {m2 : Addr} {las2 : List Nat} {st2 : List (Bool × Nat)} (L : LawAt M H p1 p2 las2 st2) (W : Wo K C M H s p f l2 las st) (q : H m2 = none) (k : Keep (fun b => b = f) H H') : LawAt (fun b => M b ∨ b = m2) H' p1 p2 las2 st2 := by
  have L2 := L.more (M' := fun b => M b ∨ b = m2) (fun b m => m.elim .inl fun z => .inr (by rw [z]; exact q))
  obtain ⟨h1, n1, ⟨ts, t1, t2, t3⟩, n2⟩ := L2
  have nf : ∀ {b o}, H b = some o → (∀ dx fs, o ≠ .ins C dx fs) → b ≠ f := fun h hn z => by
    obtain ⟨dx, l1, hf⟩ := W.fl.ins
    rw [z, hf] at h; cases h; exact hn _ _ rfl
  exact ⟨k _ _ h1 (nf h1 (by intro _ _ z; cases z)), n1, ⟨ts, k _ _ t1 (nf t1 (by intro _ _ z; cases z)), t2, fun i t s a b => k _ _ (t3 i t s a b) (nf (t3 i t s a b) (by intro _ _ z; cases z))⟩, n2⟩
end
def spDeed (K : PySem.W.Frag) (C : Addr) : Sp := fun vs H Q _ => ∃ (M : Addr → Prop) (s p f l2 p1 p2 : Addr) (las : List Nat) (st : List (Bool × Nat)), vs = [.ref s, .ref f, .ref p1, .ref p2] ∧ Wo K C M H s p f l2 las st ∧ LawAt M H p1 p2 las st ∧ las.length + st.length ≤ 900000 ∧
  ∀ (H' : Hp) (M' : Addr → Prop) (r q1 q2 m2 : Addr) (las' : List Nat) (st' : List (Bool × Nat)), Keep (fun b => b = s ∨ b = f ∨ b = l2) H H' → (m2 = l2 ∨ H m2 = none) → (∀ b, M b → M' b) → (∀ b, M' b → M b ∨ H b = none) → Wo K C M' H' s p f m2 las' st' → LawAt M' H' q1 q2 las' st' → las'.length + st'.length ≤ las.length + st.length + 60 → H' r = some (.lst [.bl true, .ref q1, .ref q2]) → Q (.ref r) H'
theorem nums_eq (l : List Nat) : nums l = (l.map fun n : Nat => (n : Int)).map V.int := by rw [List.map_map]; rfl
section
variable {P : Program} {w : World} {K : PySem.W.Frag} {mg : Str → Option Value} {base : Heap}
theorem k__law_deed (T : TopF K mg) (D : Defs K mg) (c__law_next : Kal P w K mg base CX0 3 "_law_next" ["state", "limit"] (spNext K)) (c__law_same : Kal P w K mg base CX0 3 "_law_same" ["actual", "expected"] (spSame K 1)) (c__law_after : Kal P w K mg base CX0 1 "_law_after" ["data", "steps"] (spApplied ln))
    (c_File_write : KMet P w K mg base CX0 1 (He.ga K "File") "write" ["self", "data", "steps"] (spWrite K (He.ga K "File"))) (c_File_shorten : KMet P w K mg base CX0 1 (He.ga K "File") "shorten" ["self", "size", "steps"] (spShorten (He.ga K "File"))) (c_File_lose : KMet P w K mg base CX0 2 (He.ga K "File") "lose" ["self", "steps"] (spLose (He.ga K "File"))) (c_File_flush : KMet P w K mg base CX0 3 (He.ga K "File") "flush" ["self", "steps"] (spFlush (He.ga K "File"))) :
    Kal P w K mg base CX0 4 "_law_deed" ["state", "file", "lasting", "steps"] (spDeed K (He.ga K "File")) := by
  refine kal_mk D.d__law_deed sc__law_deed bi__law_deed (fun vs H Q E h => ?_) (fun f cdv A outer s0 H vs Q E hr h => ?_)
  · obtain ⟨_, _, _, _, _, _, _, _, _, rfl, _⟩ := h; rfl
  · obtain ⟨M, s, p, f, l2, p1, p2, las, st, rfl, W, L, hl, kk⟩ := h
    have nd := sc__law_deed.nd
    refine ⟨_, (pss_cons (ps_set (i := 4) nd rfl (by first | exact Or.inl rfl | exact Or.inr rfl) (pe_kal c__law_next hr (by first | decide | exact Nat.le_refl _ | omega) (pa_cons (pv 0) (pa_cons pe_int pa_nil))))
 (pss_cons (ps_set (i := 5) nd rfl (by first | exact Or.inl rfl | exact Or.inr rfl) pe_non)
 (C8.pss_cut (ps_if (pt_cmpR op_eq (pe_kal c__law_next hr (by first | decide | exact Nat.le_refl _ | omega) (pa_cons (pv 0) (pa_cons pe_int pa_nil))) pe_int (nomark _))
 (pss_one (ps_set (i := 5) nd rfl (by first | exact Or.inl rfl | exact Or.inr rfl) (pe_ix ix_list (pe_lst (pa_cons (pe_kal c__law_next hr (by first | decide | exact Nat.le_refl _ | omega) (pa_cons (pv 0) (pa_cons pe_int pa_nil))) (pa_cons (pe_kal c__law_next hr (by first | decide | exact Nat.le_refl _ | omega) (pa_cons (pv 0) (pa_cons pe_int pa_nil))) pa_nil))) (pe_kal c__law_next hr (by first | decide | exact Nat.le_refl _ | omega) (pa_cons (pv 0) (pa_cons pe_int pa_nil))) (fun _ _ => rfl)))) pss_nil)
 (pss_cons (ps_if (pt_cmpR op_lt (pv 4) pe_int (nomark _))
 (pss_cons (ps_setLc (g := gName 11) (i := 6) (own := [("k", 11)]) rfl nd rfl rfl (sw_true rfl rfl rfl (by decide +kernel)) (pi_range1 (by rfl) T.range (pa_cons (pe_op op_add (pe_kal c__law_next hr (by first | decide | exact Nat.le_refl _ | omega) (pa_cons (pv 0) (pa_cons pe_int pa_nil))) (pe_op op_mul pe_int (pe_callTy call_int1 (by rfl) T.int_ (by decide +kernel) (pa_cons (pe_cmpR op_eq (pe_kal c__law_next hr (by first | decide | exact Nat.le_refl _ | omega) (pa_cons (pv 0) (pa_cons pe_int pa_nil))) pe_int (nomark _)) pa_nil)))) pa_nil)) (blkOk_by (own := [("k", 11)]) (N := ["state", "file", "lasting", "steps", "pick", "limit", "data", "count", "passed", "done", "size", "k", "byte"]) (sc := defScope s__law_deed) (by decide +kernel)) (fun _ _ _ _ _ => (pg_name (i := 11) nd rfl (by first | exact Or.inl rfl | exact Or.inr rfl))) (fun _ _ _ _ _ => pts_nil) (fun _ _ _ _ _ => (pe_kal c__law_next hr (by first | decide | exact Nat.le_refl _ | omega) (pa_cons (pv 0) (pa_cons pe_int pa_nil)))))
 (pss_cons (ps_set (i := 7) nd rfl (by first | exact Or.inl rfl | exact Or.inr rfl) (pe_callB call_len_seq (by rfl) T.len (by decide +kernel) (pa_cons (pv 6) pa_nil)))
 (C8.pss_cut (ps_if (pt_cmpR op_notN (pv 5) pe_non (nomark _))
 (pss_one (ps_set (i := 7) nd rfl (by first | exact Or.inl rfl | exact Or.inr rfl) (pe_callB (call_min2 rfl) (by rfl) T.min (by decide +kernel) (pa_cons (pv 7) (pa_cons (pv 5) pa_nil))))) pss_nil)
 (pss_cons (ps_set (i := 8) nd rfl (by first | exact Or.inl rfl | exact Or.inr rfl) (pe_callTy call_list_of (by rfl) T.list (by decide +kernel) (pa_cons (pv 6) pa_nil)))
 (pss_cons (ps_set (i := 9) nd rfl (by first | exact Or.inl rfl | exact Or.inr rfl) (pe_kmet c_File_write hr (by first | decide | exact Nat.le_refl _ | omega) (pv 1) (pa_cons (pv 8) (pa_cons (pv 5) pa_nil))))
 (pss_cons (ps_if (pt_cmpR (op_neD hr.units) (pv 8) (pv 6) (nomark _))
 (pss_one (ps_ret (pe_lst (pa_cons pe_bl (pa_cons (pv 2) (pa_cons (pv 3) pa_nil)))))) pss_nil)
 (pss_cons (ps_expr (pe_bm PySem.F.plainAttrs_list PySem.F.slot_list_insert PySem.F.type_list_insert mt_insert (pv 8) (pa_cons pe_int (pa_cons pe_int pa_nil))))
 (pss_cons (ps_expr (pe_bm PySem.F.plainAttrs_list PySem.F.slot_list_append PySem.F.type_list_append mt_append (pv 8) (pa_cons pe_int pa_nil)))
 (pss_one (ps_ret (pe_lst (pa_cons (pe_kal c__law_same hr (by first | decide | exact Nat.le_refl _ | omega) (pa_cons (pv 9) (pa_cons (pv 7) pa_nil))) (pa_cons (pv 2) (pa_cons (pe_op op_cat (pv 3) (pe_lc (g := gName 12) (own := [("byte", 12)]) rfl nd (pi_list (pe_slice sl_list (pv 6) po_none (po_some (pv 7)))) (blkOk_by (own := [("byte", 12)]) (N := ["state", "file", "lasting", "steps", "pick", "limit", "data", "count", "passed", "done", "size", "k", "byte"]) (sc := defScope s__law_deed) (by decide +kernel)) (fun _ _ _ _ _ => (pg_name (i := 12) nd rfl (by first | exact Or.inl rfl | exact Or.inr rfl))) (fun _ _ _ _ _ => pts_nil) (fun _ _ _ _ _ => (pe_tup (pa_cons pe_int (pa_cons (pv 12) pa_nil)))))) pa_nil)))))))))))))) pss_nil)
 (pss_cons (ps_if (pt_cmpR op_lt (pv 4) pe_int (nomark _))
 (pss_cons (ps_set (i := 10) nd rfl (by first | exact Or.inl rfl | exact Or.inr rfl) (pe_kal c__law_next hr (by first | decide | exact Nat.le_refl _ | omega) (pa_cons (pv 0) (pa_cons (pe_op op_add (pe_callB call_len_seq (by rfl) T.len (by decide +kernel) (pa_cons (pe_kal c__law_after hr (by first | decide | exact Nat.le_refl _ | omega) (pa_cons (pv 2) (pa_cons (pv 3) pa_nil))) pa_nil)) pe_int) pa_nil))))
 (pss_cons (ps_set (i := 9) nd rfl (by first | exact Or.inl rfl | exact Or.inr rfl) (pe_kmet c_File_shorten hr (by first | decide | exact Nat.le_refl _ | omega) (pv 1) (pa_cons (pv 10) (pa_cons (pv 5) pa_nil))))
 (pss_cons (ps_if (pt_cmpR op_eq (pv 5) pe_int (nomark _))
 (pss_one (ps_ret (pe_lst (pa_cons (pe_kal c__law_same hr (by first | decide | exact Nat.le_refl _ | omega) (pa_cons (pv 9) (pa_cons pe_int pa_nil))) (pa_cons (pv 2) (pa_cons (pv 3) pa_nil)))))) pss_nil)
 (pss_one (ps_ret (pe_lst (pa_cons (pe_kal c__law_same hr (by first | decide | exact Nat.le_refl _ | omega) (pa_cons (pv 9) (pa_cons pe_int pa_nil))) (pa_cons (pv 2) (pa_cons (pe_op op_cat (pv 3) (pe_lst (pa_cons (pe_tup (pa_cons pe_int (pa_cons (pv 10) pa_nil))) pa_nil))) pa_nil))))))))) pss_nil)
 (pss_cons (ps_if (pt_cmpR op_lt (pv 4) pe_int (nomark _))
 (pss_cons (ps_set (i := 9) nd rfl (by first | exact Or.inl rfl | exact Or.inr rfl) (pe_kmet c_File_flush hr (by first | decide | exact Nat.le_refl _ | omega) (pv 1) (pa_cons (pv 5) pa_nil)))
 (pss_cons (ps_if (pt_cmpR op_eq (pv 5) pe_int (nomark _))
 (pss_one (ps_ret (pe_lst (pa_cons (pe_kal c__law_same hr (by first | decide | exact Nat.le_refl _ | omega) (pa_cons (pv 9) (pa_cons pe_int pa_nil))) (pa_cons (pv 2) (pa_cons (pv 3) pa_nil)))))) pss_nil)
 (pss_one (ps_ret (pe_lst (pa_cons (pe_kal c__law_same hr (by first | decide | exact Nat.le_refl _ | omega) (pa_cons (pv 9) (pa_cons pe_int pa_nil))) (pa_cons (pe_kal c__law_after hr (by first | decide | exact Nat.le_refl _ | omega) (pa_cons (pv 2) (pa_cons (pv 3) pa_nil))) (pa_cons (pe_lst pa_nil) pa_nil)))))))) pss_nil)
 (pss_cons (ps_set (i := 7) nd rfl (by first | exact Or.inl rfl | exact Or.inr rfl) (pe_kal c__law_next hr (by first | decide | exact Nat.le_refl _ | omega) (pa_cons (pv 0) (pa_cons (pe_op op_add (pe_callB call_len_seq (by rfl) T.len (by decide +kernel) (pa_cons (pv 3) pa_nil)) pe_int) pa_nil))))
 (pss_cons (ps_expr (pe_kmet c_File_lose hr (by first | decide | exact Nat.le_refl _ | omega) (pv 1) (pa_cons (pv 7) pa_nil)))
 (pss_one (ps_ret (pe_lst (pa_cons pe_bl (pa_cons (pe_kal c__law_after hr (by first | decide | exact Nat.le_refl _ | omega) (pa_cons (pv 2) (pa_cons (pe_slice sl_list (pv 3) po_none (po_some (pv 7))) pa_nil))) (pa_cons (pe_lst pa_nil) pa_nil)))))))))))))), ?_⟩
    refine ⟨_, rfl, s, p, 8, rfl, W.sa, by decide, fun H1 pick k1 sa1 q0 q1 _ => ?_⟩
    refine ⟨fun σ H' => Hold (∃ x : V, σ = [some (.ref s), some (.ref f), some (.ref p1), some (.ref p2), some (.int pick), some x, none, none, none, none, none, none, none] ∧ (x = .non ∨ ∃ m : Nat, x = .int (m : Nat)) ∧ Keep (· = s) H H' ∧ StAt K H' s p), ?_, ?_⟩
    · refine ⟨_, rfl, s, p, 3, rfl, sa1, by decide, fun H2 n2 k2 sa2 _ _ _ => ?_⟩
      refine ⟨rfl, _, rfl, ?_⟩
      refine ite2 (fun e => ?_) (fun _ => .mk ⟨.non, rfl, .inl rfl, k1.trans k2, sa2⟩)
      refine ⟨_, rfl, s, p, 7, rfl, sa2, by decide, fun H3 a k3 sa3 a0 a1 _ => ?_⟩
      refine ⟨_, rfl, s, p, 60, rfl, sa3, by decide, fun H4 b k4 sa4 b0 b1 _ => ?_⟩
      refine ⟨by show 2 ≤ sizeLine; decide, fun q nq => ?_⟩
      generalize h5 : upd _ q _ = H5
      have s5 := same_of h5 nq
      have a5 := upd_at h5
      have sa5 : StAt K H5 s p := sa4.keep (N := fun _ => False) (Keep.of s5) (fun z => z) (fun z => z)
      have nqs : q ≠ s := fun z => by
        obtain ⟨_, _, g, _⟩ := sa4
        rw [z, g] at nq; cases nq
      refine ⟨_, rfl, s, p, 2, rfl, sa5, by decide, fun H6 c k6 sa6 c0 c1 _ => ?_⟩
      have a6 := k6 _ _ a5 nqs
      have kz : Keep (· = s) H H6 := k1.trans (k2.trans (k3.trans (k4.trans ((Keep.of s5).trans k6))))
      have hc : c = 0 ∨ c = 1 := by omega
      rcases hc with rfl | rfl
      · refine ⟨_, _, _, _, rfl, rfl, SqL.of a6, rfl, ?_⟩
        exact .mk ⟨.int a, rfl, .inr ⟨a.toNat, by rw [Int.toNat_of_nonneg a0]⟩, kz, sa6⟩
      · refine ⟨_, _, _, _, rfl, rfl, SqL.of a6, rfl, ?_⟩
        exact .mk ⟨.int b, rfl, .inr ⟨b.toNat, by rw [Int.toNat_of_nonneg b0]⟩, kz, sa6⟩
    rintro σ H2 V
    obtain ⟨x, rfl, hx, k2, sa2⟩ := V.out
    have W2 := W.keepN (fun _ z => .inl z) k2 sa2
    have L2 := L.keepN W (fun _ z => .inl z) k2
    clear V
    refine ⟨_, rfl, _, _, rfl, rfl, _, rfl, ?_⟩
    refine ite2 (fun e => ?_) (fun e => ?_)
    · -- a write
      refine ⟨_, rfl, s, p, 10, rfl, sa2, by decide, fun H3 a k3 sa3 a0 a1 _ => ?_⟩
      refine ⟨_, rfl, s, p, 5, rfl, sa3, by decide, fun H4 b k4 sa4 b0 b1 _ => ?_⟩
      refine ⟨rfl, .inr ⟨_, rfl, ?_⟩⟩
      refine ⟨_, _, rfl, rfl, .inl (by constructor <;> decide), ?_⟩
      refine ⟨_, _, rfl, rfl, ?_⟩
      obtain ⟨u, hu, u1⟩ : ∃ u : Nat, a + 50 * (if decide (V.int b = V.int 0) = true then 1 else 0) = (u : Int) ∧ u ≤ 59 := ⟨(a + 50 * (if decide (V.int b = V.int 0) = true then 1 else 0)).toNat, by split <;> omega, by split <;> omega⟩
      refine ⟨(u : Int), congrArg (fun z => [V.int z]) hu, by omega, by omega, fun d nd' => ?_⟩
      have nds : d ≠ s := fun z => by
        obtain ⟨_, h⟩ := sa4.lst
        rw [← z, nd'] at h; cases h
      have npd : d ≠ p := fun z => by
        obtain ⟨_, h⟩ := sa4.plst
        rw [← z, nd'] at h; cases h
      refine lc_range0 (n := u) (fun i H' => Hold (Keep (fun b => b = s ∨ b = d) H4 H' ∧ StAt K H' s p ∧ ∃ ds : List Nat, ds.length = i ∧ H' d = some (.lst (nums ds)))) ?_ ?_ ?_
      · exact .mk ⟨Keep.new nd', sa4.keep (N := fun _ => False) (Keep.of (same_new nd')) (fun z => z) (fun z => z), [], rfl, upd_same⟩
      · intro i H' hi V
        obtain ⟨kp, sa, ds, l, hd⟩ := V.out
        refine ⟨rfl, ?_⟩
        refine ⟨_, rfl, s, p, 256, rfl, sa, by decide, fun H6 v k6 sa6 v0 v1 _ => ?_⟩
        refine ⟨_, k6 _ _ hd nds, by rw [List.length_map, line24]; omega, .mk ⟨kp.trans ((k6.mono (fun _ q => .inl (.inl q))).trans (Keep.put (.inr rfl))), ?_, ds ++ [v.toNat], by simp [l], by rw [upd_same]; simp [Int.toNat_of_nonneg v0]⟩⟩
        exact sa6.keep (N := fun b => b = d) (Keep.put rfl) (fun z => nds z.symm) (fun z => npd z.symm)
      intro H5 V
      obtain ⟨kp, sa5, ds, l, hd⟩ := V.out
      clear V
      have kp5 : Keep (fun b => b = s ∨ b = d) H2 H5 := ((k3.trans k4).mono fun _ z => .inl (.inl z)).trans kp
      have qd : H2 d = none := by
        cases q : H2 d with
        | none => rfl
        | some o =>
          have := k4 _ _ (k3 _ _ q nds) nds
          rw [this] at nd'; cases nd'
      have W5 := W2.keepN (fun b z => z.imp id fun z => by rw [z]; exact qd) kp5 sa5
      have L5 := L2.keepN W2 (fun b z => z.imp id fun z => by rw [z]; exact qd) kp5
      refine ⟨_, rfl, _, _, rfl, .inl (SqL.of hd), ?_⟩
      refine ⟨fun σ H' => Hold (∃ n : Nat, σ = [some (.ref s), some (.ref f), some (.ref p1), some (.ref p2), some (.int pick), some x, some (.ref d), some (.int (n : Nat)), none, none, none, none, none] ∧ ((x = .non ∧ n = ds.length) ∨ ∃ m : Nat, x = .int (m : Nat) ∧ n = min m ds.length) ∧ H' = H5), ?_, ?_⟩
      · rw [List.length_map]
        rcases hx with rfl | ⟨m, rfl⟩
        · refine ⟨_, rfl, rfl, _, rfl, ?_⟩
          refine ite2 (fun e => by simp at e) (fun _ => ?_)
          exact .mk ⟨_, rfl, .inl ⟨rfl, rfl⟩, rfl⟩
        · refine ⟨_, rfl, rfl, _, rfl, ?_⟩
          refine ite2 (fun _ => ?_) (fun e => by simp at e)
          refine ⟨_, rfl, _, rfl, _, _, rfl, ?_⟩
          have : (if ((m : Nat) : Int) < ((ds.length : Nat) : Int) then ((m : Nat) : Int) else ((ds.length : Nat) : Int)) = ((min m ds.length : Nat) : Int) := by
            split <;> omega
          rw [this]
          exact .mk ⟨_, rfl, .inr ⟨_, rfl, rfl⟩, rfl⟩
      rintro σ H' V
      obtain ⟨n, rfl, hn, rfl⟩ := V.out
      clear V
      refine ⟨_, rfl, _, _, rfl, .inl (SqL.of hd), fun e ne => ?_⟩
      generalize h6 : upd _ e _ = H6
      have s6 := same_of h6 ne
      have a6 := upd_at h6
      have W6 := W5.add ne s6 a6
      have L6 := L5.add W5 ne s6
      obtain ⟨dx, l1, hf⟩ := W6.fl.ins
      refine ⟨_, rfl, f, dx, _, rfl, hf, ff_no _ _ (by decide +kernel) (by decide +kernel), ?_⟩
      refine ⟨_, rfl, _, rfl, ?_⟩
      refine ⟨_, f, l2, e, las, st, ds, x, n, rfl, W6.g, W6.fl, a6, hn, by omega, fun H7 k7 F7 => ?_⟩
      have W7 := W6.step k7 F7
      have L7 := L6.step W6 k7
      have nel : e ≠ l2 := fun z => by
        obtain ⟨_, h⟩ := W5.fl.lst
        rw [← z, ne] at h; cases h
      have nes : e ≠ s := fun z => by
        obtain ⟨_, h⟩ := W5.sa.lst
        rw [← z, ne] at h; cases h
      have nef : e ≠ f := fun z => by
        obtain ⟨_, _, h⟩ := W5.fl.ins
        rw [← z, ne] at h; cases h
      have ndl : d ≠ l2 := fun z => by
        obtain ⟨_, h⟩ := W2.fl.lst
        rw [← z, qd] at h; cases h
      have nde : d ≠ e := ne_of_none hd ne
      have a7 := k7 _ _ a6 nel
      have d7 := k7 _ _ (s6 _ _ hd) ndl
      refine ⟨_, rfl, _, rfl, _, _, .lst (SqL.of a7) (by rw [nums_eq]; exact ints_dp _), .lst (SqL.of d7) (by rw [nums_eq]; exact ints_dp _), ints_shaped _, ints_shaped _, _, rfl, ?_⟩
      rw [ints_eqv]
      refine ite2 (fun z => by simp at z) (fun _ => ?_)
      refine ⟨_, rfl, .inl ⟨rfl, _, SqL.of a7⟩, ?_⟩
      refine ⟨e, nums ds, 0, .int 9, rfl, rfl, a7, by rw [List.length_map, line24]; omega, by decide, by decide, ?_⟩
      generalize h8 : upd _ e _ = H8
      have k8 : Keep (· = e) H7 H8 := keep_of h8 rfl
      have a8 := upd_at h8
      refine ⟨_, rfl, .inl ⟨rfl, _, SqL.of a8⟩, ?_⟩
      refine ⟨_, _, _, rfl, rfl, a8, by simp [line24]; omega, ?_⟩
      generalize h9 : upd _ e _ = H9
      have k9 : Keep (· = e) H8 H9 := keep_of h9 rfl
      have a9 := upd_at h9
      have k79 := k8.trans k9
      have W9 := W7.put (.inr rfl) nes nef nel k79 a9
      have L9 := L7.put W7 (.inr rfl) k79
      have d9 := k79 _ _ d7 nde
      refine ⟨_, rfl, _, rfl, _, _, _, rfl, .int _, .int _, Nat.zero_le _, fun H10 s10 => ?_⟩
      have W10 := W9.same s10
      have L10 := L9.same W9 s10
      have d10 := s10 _ _ d9
      obtain ⟨y1, y2, ⟨ts, t1, t2, t3⟩, y4⟩ := L10
      refine ⟨_, rfl, _, rfl, _, rfl, _, rfl, _, rfl, _, _, rfl, SqL.of d10, fun c nc => ?_⟩
      generalize hc : upd _ c _ = H11
      have s11 := same_of hc nc
      have ac := upd_at hc
      rw [cutV_to] at ac
      have W11 := W10.same s11
      refine ⟨c, rfl, ⟨_, SqL.of ac⟩, fun v nv => ?_⟩
      refine lc_list (K := K) (a := c) (xs := (nums ds).take n) (fun i H' => Hold (Keep (· = v) H11 H' ∧ ∃ us : List Addr, H' v = some (.lst (us.map V.ref)) ∧ us.length = i ∧ ∀ (j : Nat) (t : Addr) (b : Nat), us[j]? = some t → (ds.take n)[j]? = some b → H' t = some (.tup [.int 0, .int (b : Nat)]))) ?_ ?_ ?_ ?_
      · exact .mk ⟨Keep.new nv, [], upd_same, rfl, fun j t b a => by simp at a⟩
      · intro i H' _ V
        exact V.out.1.seq (ne_of_none ac nv) (SqL.of ac)
      · intro i y H' hy V
        obtain ⟨kp, us, u1, u2, u3⟩ := V.out
        rw [← List.map_take] at hy
        obtain ⟨b, hb, rfl⟩ := map_get hy
        have hi : i < ds.length := by
          have := (List.getElem?_eq_some_iff.mp hb).1
          rw [List.length_take] at this; omega
        refine ⟨rfl, ?_⟩
        refine ⟨_, rfl, by show 2 ≤ sizeLine; decide, fun t nt => ?_⟩
        generalize ht : upd _ t _ = H2'
        have s2 := same_of ht nt
        have at_ := upd_at ht
        refine ⟨_, s2 _ _ u1, by rw [List.length_map, u2, line24]; omega, .mk ⟨kp.trans ((Keep.of s2).trans (Keep.put rfl)), us ++ [t], by rw [upd_same]; simp, by simp [u2], fun j t' b' h1 h2 => ?_⟩⟩
        have nte : t ≠ v := ne_of at_ (s2 _ _ u1) (by intro z; cases z)
        by_cases hj : j < us.length
        · rw [List.getElem?_append_left hj] at h1
          have := u3 j t' b' h1 h2
          rw [upd_ne (ne_of (s2 _ _ this) (s2 _ _ u1) (by intro z; cases z))]
          exact s2 _ _ this
        · have hj2 : j = us.length := by
            have := (List.getElem?_eq_some_iff.mp h1).1
            simp at this; omega
          subst hj2
          simp at h1
          rw [u2, hb] at h2
          cases h2
          subst h1
          rw [upd_ne nte]; exact at_
      intro H12 V
      obtain ⟨kv, us, u1, u2, u3⟩ := V.out
      clear V
      have hn2 : n ≤ ds.length := by
        rcases hn with ⟨_, rfl⟩ | ⟨m, _, rfl⟩ <;> omega
      have hlen : us.length = n := by rw [u2, List.length_take, List.length_map]; omega
      have nv2 : ∀ {b o}, H11 b = some o → b ≠ v := fun h => ne_of_none h nv
      refine ⟨p2, v, _, _, rfl, rfl, kv _ _ (s11 _ _ t1) (nv2 (s11 _ _ t1)), u1, by rw [List.length_map, List.length_map, t2, hlen, line24]; omega, fun p2' np2 => ?_⟩
      generalize h13 : upd _ p2' _ = H13
      have s13 := same_of h13 np2
      have a13 := upd_at h13
      refine ⟨by show 3 ≤ sizeLine; decide, fun r nr => ?_⟩
      generalize h14 : upd _ r _ = H14
      have s14 := same_of h14 nr
      have a14 := upd_at h14
      have st14 : Same H12 H14 := s13.trans s14
      have W12 := W11.keepN (fun b z => .inr (by rw [z]; exact nv)) kv (W11.sa.keepT kv nv)
      have W14 := W12.same st14
      have qe : H2 e = none := Keep.free' kp5 ne (by
        rintro (z | z)
        · exact nes z
        · exact nde z.symm)
      have qe0 : H e = none := Keep.free' k2 qe nes
      have kB : Keep (fun b => b = s ∨ b = l2 ∨ b = d ∨ b = e) H2 H9 := (kp5.mono (fun b z => .inl (z.imp id fun z => .inr (.inl z)))).trans ((Keep.of s6).trans ((k7.mono fun b z => .inl (.inr (.inl z))).trans (k79.mono fun b z => .inl (.inr (.inr (.inr z))))))
      have kC : Keep (fun b => b = s ∨ b = f ∨ b = l2) H2 H9 := kB.mono fun b z => by
        rcases z with z | z | z | z
        · exact .inl (.inl z)
        · exact .inl (.inr (.inr z))
        · exact .inr (by rw [z]; exact qd)
        · exact .inr (by rw [z]; exact qe)
      have kD : Keep (fun b => b = s ∨ b = f ∨ b = l2) H H14 := (k2.mono fun b z => .inl (.inl z)).trans (kC.trans ((Keep.of (s10.trans s11)).trans ((kv.mono fun b z => .inr (by rw [z]; exact nv)).trans (Keep.of st14))))
      have q12 : H11 p2' = none := Keep.free' kv np2 fun z => by rw [z, u1] at np2; cases np2
      have lst : LawAt (fun b => M b ∨ b = e) H14 p1 p2' las (st ++ (ds.take n).map fun b => (false, b)) := by
        refine ⟨st14 _ _ (kv _ _ (s11 _ _ y1) (nv2 (s11 _ _ y1))), y2, ⟨ts ++ us, by rw [s14 _ _ a13]; simp, by simp [t2, hlen]; omega, fun i t s' h1 h2 => ?_⟩, W11.g.no q12⟩
        by_cases hi : i < ts.length
        · rw [List.getElem?_append_left hi] at h1
          rw [List.getElem?_append_left (by omega)] at h2
          have := s11 _ _ (t3 i t s' h1 h2)
          exact st14 _ _ (kv _ _ this (nv2 this))
        · rw [List.getElem?_append_right (by omega)] at h1
          rw [List.getElem?_append_right (by omega), ← t2] at h2
          obtain ⟨b, hb, rfl⟩ := map_get h2
          exact st14 _ _ (u3 _ t b h1 hb)
      refine kk H14 _ r p1 p2' l2 _ _ kD (.inl rfl) (fun _ m => .inl m) (fun b m => m.imp id fun z => by rw [z]; exact qe0) W14 lst ?_ a14
      rw [List.length_append, List.length_map, List.length_take]; omega
    refine ⟨_, rfl, _, _, rfl, rfl, _, rfl, ?_⟩
    refine ite2 (fun e => ?_) (fun e => ?_)
    · -- a truncation
      have L2' := L2
      obtain ⟨y1, y2, y3, y4⟩ := L2'
      refine ⟨_, rfl, _, rfl, _, rfl, p1, p2, las, st, rfl, y1, y3, by omega, fun H3 c s3 n3 e3 => ?_⟩
      have W3 := W2.same s3
      have L3 := L2.same W2 s3
      refine ⟨_, _, rfl, .inl (SqL.of e3), ?_⟩
      refine ⟨_, _, rfl, rfl, ?_⟩
      refine ⟨s, p, _, rfl, W3.sa, by omega, fun H4 z k4 sa4 z0 z1 _ => ?_⟩
      have W4 := W3.keepN (fun _ z => .inl z) k4 sa4
      have L4 := L3.keepN W3 (fun _ z => .inl z) k4
      obtain ⟨z', rfl⟩ : ∃ z' : Nat, z = (z' : Int) := ⟨z.toNat, by rw [Int.toNat_of_nonneg z0]⟩
      have kA : Keep (· = s) H H4 := k2.trans ((Keep.of s3).trans k4)
      obtain ⟨dx, l1, hf⟩ := W4.fl.ins
      refine ⟨_, rfl, f, dx, _, rfl, hf, ff_no _ _ (by decide +kernel) (by decide +kernel), ?_⟩
      refine ⟨_, rfl, _, rfl, ?_⟩
      refine ⟨M, f, l2, las, st, z', x, rfl, W4.g, W4.fl, hx, by omega, fun e0 => ?_, fun e0 H5 k5 F5 => ?_⟩
      · refine ⟨_, rfl, isz hx, _, rfl, ?_⟩
        refine ite2 (fun _ => ?_) (fun e => absurd (decide_eq_true e0) e)
        refine ⟨_, rfl, _, _, _, rfl, .int _, .int _, Nat.zero_le _, fun H6 s6 => ?_⟩
        refine ⟨_, rfl, _, rfl, by show 3 ≤ sizeLine; decide, fun r nr => ?_⟩
        generalize h7 : upd _ r _ = H7
        have s7 := same_of h7 nr
        have a7 := upd_at h7
        refine kk H7 M r p1 p2 l2 las st ((kA.mono fun b z => .inl (.inl z)).trans (Keep.of (s6.trans s7))) (.inl rfl) (fun _ m => m) (fun _ m => .inl m) (W4.same (s6.trans s7)) (L4.same W4 (s6.trans s7)) (by omega) a7
      · have W5 := W4.step k5 F5
        have L5 := L4.step W4 k5
        refine ⟨_, rfl, isz hx, _, rfl, ?_⟩
        refine ite2 (fun e => absurd (of_decide_eq_true e) e0) (fun _ => ?_)
        refine ⟨_, rfl, _, _, _, rfl, .int _, .int _, Nat.zero_le _, fun H6 s6 => ?_⟩
        have W6 := W5.same s6
        have L6 := L5.same W5 s6
        obtain ⟨y1, y2, ⟨ts, t1, t2, t3⟩, y4⟩ := L6
        refine ⟨_, rfl, _, rfl, _, rfl, by show 2 ≤ sizeLine; decide, fun t nt => ?_⟩
        generalize h7 : upd _ t _ = H7
        have s7 := same_of h7 nt
        have a7 := upd_at h7
        refine ⟨by show 1 ≤ sizeLine; decide, fun v nv => ?_⟩
        generalize h8 : upd _ v _ = H8
        have s8 := same_of h8 nv
        have a8 := upd_at h8
        refine ⟨p2, v, _, _, rfl, rfl, s8 _ _ (s7 _ _ t1), a8, by rw [List.length_map, t2, line24]; simp; omega, fun p2' np2 => ?_⟩
        generalize h9 : upd _ p2' _ = H9
        have s9 := same_of h9 np2
        have a9 := upd_at h9
        refine ⟨by show 3 ≤ sizeLine; decide, fun r nr => ?_⟩
        generalize h10 : upd _ r _ = H10
        have s10 := same_of h10 nr
        have a10 := upd_at h10
        have s78 := s7.trans s8
        have sA := s78.trans (s9.trans s10)
        have W10 := W6.same sA
        refine kk H10 M r p1 p2' l2 las (st ++ [(true, z')]) ((kA.mono fun b z => .inl (.inl z)).trans ((k5.mono fun b z => .inl (.inr (.inr z))).trans (Keep.of (s6.trans sA)))) (.inl rfl) (fun _ m => m) (fun _ m => .inl m) W10 ⟨sA _ _ y1, y2, ⟨ts ++ [t], by rw [s10 _ _ a9]; simp, by simp [t2], fun i t' s' h1 h2 => ?_⟩, (W6.same s78).g.no np2⟩ (by simp; omega) a10
        by_cases hi : i < ts.length
        · rw [List.getElem?_append_left hi] at h1
          rw [List.getElem?_append_left (by omega)] at h2
          exact sA _ _ (t3 i t' s' h1 h2)
        · have hj2 : i = ts.length := by
            have := (List.getElem?_eq_some_iff.mp h1).1
            simp at this; omega
          subst hj2
          rw [t2] at h2
          simp at h1 h2
          subst h1 h2
          exact s10 _ _ (s9 _ _ (s8 _ _ a7))
    refine ⟨_, rfl, _, _, rfl, rfl, _, rfl, ?_⟩
    refine ite2 (fun e => ?_) (fun e => ?_)
    · -- a flush
      obtain ⟨dx, l1, hf⟩ := W2.fl.ins
      refine ⟨_, rfl, f, dx, _, rfl, hf, ff_no _ _ (by decide +kernel) (by decide +kernel), ?_⟩
      refine ⟨_, rfl, ?_⟩
      refine ⟨M, f, l2, las, st, x, rfl, W2.g, W2.fl, hx, by omega, fun e0 => ?_, fun e0 H3 m2 q3 k3 F3 => ?_⟩
      · refine ⟨_, rfl, isz hx, _, rfl, ?_⟩
        refine ite2 (fun _ => ?_) (fun e => absurd (decide_eq_true e0) e)
        refine ⟨_, rfl, _, _, _, rfl, .int _, .int _, Nat.zero_le _, fun H6 s6 => ?_⟩
        refine ⟨_, rfl, _, rfl, by show 3 ≤ sizeLine; decide, fun r nr => ?_⟩
        generalize h7 : upd _ r _ = H7
        have s7 := same_of h7 nr
        have a7 := upd_at h7
        refine kk H7 M r p1 p2 l2 las st ((k2.mono fun b z => .inl (.inl z)).trans (Keep.of (s6.trans s7))) (.inl rfl) (fun _ m => m) (fun _ m => .inl m) (W2.same (s6.trans s7)) (L2.same W2 (s6.trans s7)) (by omega) a7
      · have W3 := W2.step2 q3 k3 F3
        have L3 := L2.step2 W2 q3 k3
        have qs : m2 ≠ s := fun z => by
          obtain ⟨_, h⟩ := W2.sa.lst
          rw [← z, q3] at h; cases h
        refine ⟨_, rfl, isz hx, _, rfl, ?_⟩
        refine ite2 (fun e => absurd (of_decide_eq_true e) e0) (fun _ => ?_)
        refine ⟨_, rfl, _, _, _, rfl, .int _, .int _, Nat.zero_le _, fun H6 s6 => ?_⟩
        have W6 := W3.same s6
        have L6 := L3.same W3 s6
        obtain ⟨y1, y2, y3, y4⟩ := L6
        refine ⟨_, rfl, _, rfl, p1, p2, las, st, rfl, y1, y3, by omega, fun H7 c s7 n7 e7 => ?_⟩
        refine ⟨Nat.zero_le _, fun b nb => ?_⟩
        generalize h8 : upd _ b _ = H8
        have s8 := same_of h8 nb
        have a8 := upd_at h8
        refine ⟨by show 3 ≤ sizeLine; decide, fun r nr => ?_⟩
        generalize h10 : upd _ r _ = H10
        have s10 := same_of h10 nr
        have a10 := upd_at h10
        have sA := s8.trans s10
        refine kk H10 _ r c b m2 (after las st) [] ((k2.mono fun b z => .inl (.inl z)).trans ((k3.mono fun b z => .inl (.inr (.inl z))).trans (Keep.of (s6.trans (s7.trans sA))))) (.inr (Keep.free' k2 q3 qs)) (fun _ m => .inl m) (fun b m => m.imp id fun z => by rw [z]; exact Keep.free' k2 q3 qs) (W6.same (s7.trans sA)) ⟨sA _ _ e7, W6.g.no n7, ⟨[], s10 _ _ a8, rfl, fun i t d a _ => by simp at a⟩, (W6.same s7).g.no nb⟩ ?_ a10
        have := after_len st las
        simp; omega
    -- a loss
    have L2' := L2
    obtain ⟨y1, y2, ⟨ts, t1, t2, t3⟩, y4⟩ := L2'
    refine ⟨_, rfl, _, rfl, _, _, rfl, .inl (SqL.of t1), ?_⟩
    refine ⟨_, _, rfl, rfl, ?_⟩
    refine ⟨s, p, _, rfl, W2.sa, by omega, fun H4 z k4 sa4 z0 z1 _ => ?_⟩
    have W4 := W2.keepN (fun _ z => .inl z) k4 sa4
    have L4 := L2.keepN W2 (fun _ z => .inl z) k4
    obtain ⟨z', rfl⟩ : ∃ z' : Nat, z = (z' : Int) := ⟨z.toNat, by rw [Int.toNat_of_nonneg z0]⟩
    have kA : Keep (· = s) H H4 := k2.trans k4
    obtain ⟨dx, l1, hf⟩ := W4.fl.ins
    refine ⟨_, rfl, f, dx, _, rfl, hf, ff_no _ _ (by decide +kernel) (by decide +kernel), ?_⟩
    refine ⟨_, rfl, ?_⟩
    refine ⟨M, f, l2, las, st, z', rfl, W4.g, W4.fl, by omega, fun H5 m2 q5 k5 F5 => ?_⟩
    have W5 := W4.step2 q5 k5 F5
    have L5 := L4.step2 W4 q5 k5
    have qs : m2 ≠ s := fun z => by
      obtain ⟨_, h⟩ := W4.sa.lst
      rw [← z, q5] at h; cases h
    obtain ⟨y1, y2, y3, y4⟩ := L5
    obtain ⟨ts, t1, cut⟩ := y3.cut z'
    refine ⟨_, rfl, _, rfl, _, rfl, _, rfl, _, _, rfl, SqL.of t1, fun c nc => ?_⟩
    generalize hc : upd _ c _ = H6
    have s6 := same_of hc nc
    have ac := upd_at hc
    rw [cutV_to] at ac
    have tl : las.length + (st.take z').length ≤ 1000000 := by
      have : (st.take z').length ≤ st.length := by rw [List.length_take]; omega
      omega
    refine ⟨p1, c, las, st.take z', rfl, s6 _ _ y1, cut H6 c s6 ac, tl, fun H7 c s7 n7 e7 => ?_⟩
    refine ⟨Nat.zero_le _, fun b nb => ?_⟩
    generalize h8 : upd _ b _ = H8
    have s8 := same_of h8 nb
    have a8 := upd_at h8
    refine ⟨by show 3 ≤ sizeLine; decide, fun r nr => ?_⟩
    generalize h10 : upd _ r _ = H10
    have s10 := same_of h10 nr
    have a10 := upd_at h10
    have sA := s8.trans s10
    have W6 := W5.same s6
    refine kk H10 _ r c b m2 (after las (st.take z')) [] ((kA.mono fun b z => .inl (.inl z)).trans ((k5.mono fun b z => .inl (.inr (.inl z))).trans (Keep.of (s6.trans (s7.trans sA))))) (.inr (Keep.free' kA q5 qs)) (fun _ m => .inl m) (fun b m => m.imp id fun z => by rw [z]; exact Keep.free' kA q5 qs) (W6.same (s7.trans sA)) ⟨sA _ _ e7, W6.g.no n7, ⟨[], s10 _ _ a8, rfl, fun i t d a _ => by simp at a⟩, (W6.same s7).g.no nb⟩ ?_ a10
    have := after_len (st.take z') las
    have : (st.take z').length ≤ st.length := by rw [List.length_take]; omega
    simp; omega
end
end Mk10
namespace Mk10
open PySem PySem.Spec PyProof.Rows L2 My

section
variable {K : PySem.W.Frag} {C : Addr} {M M' N : Addr → Prop} {H H' : Hp} {s p f l2 p1 p2 e q lq o lo : Addr} {las las' : List Nat} {st st' ost ost' : List (Bool × Nat)} {xs : List V}
theorem FileAt.keepM (h : FileAt C M H f l2 las st) (g : Gr M H) (k : Keep N H H') (hm : ∀ b o, H b = some o → N b → M b) (nf : ¬ N f) (nl : ¬ N l2) (m1 : ∀ b, M b → M' b) (m2 : ∀ b, M' b → M b ∨ H b = none) : FileAt C M' H' f l2 las st := by
  have F := h.keep' g k hm nf nl
  obtain ⟨_, _, dx', l1', h1', h2', n1', _⟩ := h
  obtain ⟨mf, ml, dx, l1, h1, h2, n1, r⟩ := F
  refine ⟨m1 _ mf, m1 _ ml, dx, l1, h1, h2, fun z => ?_, r⟩
  have e := (k _ _ h1' nf).symm.trans h1
  simp only [ff, Option.some.injEq, HO.ins.injEq, List.cons.injEq, Prod.mk.injEq, V.ref.injEq, true_and] at e
  obtain ⟨-, rfl, -⟩ := e
  exact (m2 _ z).elim n1 fun q => by rw [h2'] at q; cases q
theorem FileAt.same (h : FileAt C M H f l2 las st) (k : Same H H') : FileAt C M H' f l2 las st := by
  obtain ⟨mf, ml, dx, l1, h1, h2, n1, h3⟩ := h
  exact ⟨mf, ml, dx, l1, k _ _ h1, k _ _ h2, n1, h3.keep k⟩
theorem mk_file {E : XK} {Q : Addr → Hp → Prop} (g : Gr M H) (kk : ∀ (x l2 : Addr) (H' : Hp), H x = none → H l2 = none → Same H H' → Gr (fun b => (M b ∨ b = x) ∨ b = l2) H' → FileAt C (fun b => (M b ∨ b = x) ∨ b = l2) H' x l2 [] [] → Q x H') :
    ∀ x dx, H x = none → H dx = none → dx ≠ x → spInit C (.ref x :: ([] ++ [])) (upd (upd H dx (.own x)) x (.ins C dx [])) (fun v H2 => v = .non ∧ Q x H2) E := by
  intro x dx nx ndx ne
  have s1 : Same H (upd (upd H dx (.own x)) x (.ins C dx [])) := (same_new ndx).trans (same_new (by rw [upd_ne ne.symm]; exact nx))
  have g1 : Gr M (upd (upd H dx (.own x)) x (.ins C dx [])) := g.keep (N := fun _ => False) (Keep.of s1) fun _ _ z => z.elim
  refine ⟨M, x, dx, rfl, g1, upd_same, fun H' l2 k q F => ⟨rfl, kk x l2 H' nx (s1.free q) (fun b o h => ?_) ?_ F⟩⟩
  · exact k _ _ (s1 _ _ h) (ne_of_none h nx)
  · obtain ⟨dx2, l1, hf⟩ := F.ins
    obtain ⟨ys, hy⟩ := F.lst
    have g2 : Gr M H' := g1.keep k fun b m z => .inr ⟨C, dx2, ff l1 l2, by rw [z]; exact hf⟩
    rintro b ((m | rfl) | rfl)
    · exact g2 b m
    · exact .inr ⟨C, dx2, _, hf⟩
    · exact .inl ⟨_, hy⟩
/-- the law's state, its file, the two other files -/
structure All (K : PySem.W.Frag) (C : Addr) (M : Addr → Prop) (H : Hp) (s p f l2 q lq o lo : Addr) (las : List Nat) (st ost : List (Bool × Nat)) : Prop where
  w : Wo K C M H s p f l2 las st
  fq : FileAt C M H q lq [1, 2] [(false, 3)]
  fo : FileAt C M H o lo [] ost
  d1 : s ≠ lq
  d2 : s ≠ lo
  d3 : l2 ≠ lq
  d4 : l2 ≠ lo
  d5 : lq ≠ lo
  d6 : q ≠ f
  d7 : o ≠ f
  d8 : q ≠ o
theorem FileAt.nN {K : PySem.W.Frag} {N : Addr → Prop} (F : FileAt C M H q lq las st) (hs : StAt K H s p) (hl : s ≠ lq) (hN : ∀ b, N b → b = s ∨ H b = none) : ¬ N q ∧ ¬ N lq := by
  obtain ⟨dx, l1, h1⟩ := F.ins
  obtain ⟨_, h2⟩ := F.lst
  obtain ⟨_, h3⟩ := hs.lst
  refine ⟨fun n => ?_, fun n => ?_⟩
  · rcases hN _ n with z | z
    · rw [z, h3] at h1; cases h1
    · rw [h1] at z; cases z
  · rcases hN _ n with z | z
    · exact hl z.symm
    · rw [h2] at z; cases z
theorem All.keepN (A : All K C M H s p f l2 q lq o lo las st ost) (hN : ∀ b, N b → b = s ∨ H b = none) (k : Keep N H H') (sa : StAt K H' s p) : All K C M H' s p f l2 q lq o lo las st ost :=
  { A with
    w := A.w.keepN hN k sa
    fq := A.fq.keep' A.w.g k (A.w.hm hN) (A.fq.nN A.w.sa A.d1 hN).1 (A.fq.nN A.w.sa A.d1 hN).2
    fo := A.fo.keep' A.w.g k (A.w.hm hN) (A.fo.nN A.w.sa A.d2 hN).1 (A.fo.nN A.w.sa A.d2 hN).2 }
theorem All.same (A : All K C M H s p f l2 q lq o lo las st ost) (k : Same H H') : All K C M H' s p f l2 q lq o lo las st ost := A.keepN (N := fun _ => False) (fun _ z => z.elim) (Keep.of k) (A.w.sa.same k)
theorem FileAt.add (F : FileAt C M H q lq las st) (ne : H e = none) (k : Same H H') : FileAt C (fun b => M b ∨ b = e) H' q lq las st :=
  (F.more' (M' := fun b => M b ∨ b = e) (fun b m => .inl m) (fun b m => m.elim .inl fun z => .inr (by rw [z]; exact ne))).same k
theorem All.add (A : All K C M H s p f l2 q lq o lo las st ost) (ne : H e = none) (k : Same H H') (a : H' e = some (.lst xs)) : All K C (fun b => M b ∨ b = e) H' s p f l2 q lq o lo las st ost :=
  { A with w := A.w.add ne k a, fq := A.fq.add ne k, fo := A.fo.add ne k }
theorem All.put (A : All K C M H s p f l2 q lq o lo las st ost) (me : M e) (n1 : e ≠ s) (n2 : e ≠ f) (n3 : e ≠ l2) (n4 : e ≠ q) (n5 : e ≠ lq) (n6 : e ≠ o) (n7 : e ≠ lo) (k : Keep (· = e) H H') (a : H' e = some (.lst xs)) : All K C M H' s p f l2 q lq o lo las st ost :=
  { A with
    w := A.w.put me n1 n2 n3 k a
    fq := A.fq.keep' A.w.g k (fun b o _ z => by rw [z]; exact me) (fun z => n4 z.symm) (fun z => n5 z.symm)
    fo := A.fo.keep' A.w.g k (fun b o _ z => by rw [z]; exact me) (fun z => n6 z.symm) (fun z => n7 z.symm) }
theorem FileAt.nl (F : FileAt C M H q lq las st) (F2 : FileAt C M' H f l2 las' st') : q ≠ l2 := by
  obtain ⟨dx, l1, h1⟩ := F.ins
  obtain ⟨_, h2⟩ := F2.lst
  exact ne_of h1 h2 (by intro z; cases z)
theorem All.stepO (A : All K C M H s p f l2 q lq o lo las st ost) (k : Keep (fun b => b = lo) H H') (F : FileAt C M H' o lo [] ost') : All K C M H' s p f l2 q lq o lo las st ost' := by
  have hm : ∀ b o, H b = some o → b = lo → M b := fun b o _ z => by rw [z]; exact A.fo.2.1
  have w := A.w
  refine { A with w := ⟨w.g.keep k fun b m n => .inl (by rw [n]; exact F.lst), w.ms, w.sa.keep k A.d2 (fun z => w.np (by rw [z]; exact A.fo.2.1)), w.np, w.sl, w.fl.keep' w.g k hm (w.fl.nl A.fo) A.d4⟩, fq := A.fq.keep' w.g k hm (A.fq.nl A.fo) A.d5, fo := F }
theorem All.newO {x lx : Addr} (A : All K C M H s p f l2 q lq o lo las st ost) (nx : H x = none) (nlx : H lx = none) (k : Same H H') (g : Gr (fun b => (M b ∨ b = x) ∨ b = lx) H') (F : FileAt C (fun b => (M b ∨ b = x) ∨ b = lx) H' x lx [] []) : All K C (fun b => (M b ∨ b = x) ∨ b = lx) H' s p f l2 q lq x lx las st [] := by
  have w := A.w
  have m1 : ∀ b, M b → (M b ∨ b = x) ∨ b = lx := fun b m => .inl (.inl m)
  have m2 : ∀ b, (M b ∨ b = x) ∨ b = lx → M b ∨ H b = none := by
    rintro b ((m | rfl) | rfl)
    · exact .inl m
    · exact .inr nx
    · exact .inr nlx
  have tr : ∀ {b o}, H b = some o → b ≠ x ∧ b ≠ lx := fun h => ⟨ne_of_none h nx, ne_of_none h nlx⟩
  obtain ⟨_, hs⟩ := w.sa.lst
  obtain ⟨_, hp⟩ := w.sa.plst
  obtain ⟨_, hl⟩ := w.fl.lst
  obtain ⟨_, hlq⟩ := A.fq.lst
  obtain ⟨_, _, hf⟩ := w.fl.ins
  obtain ⟨_, _, hq⟩ := A.fq.ins
  refine ⟨⟨g, m1 _ w.ms, w.sa.same k, fun z => (m2 _ z).elim w.np fun z => (by rw [hp] at z; cases z), w.sl, (w.fl.more' m1 m2).same k⟩, (A.fq.more' m1 m2).same k, F, A.d1, (tr hs).2, A.d3, (tr hl).2, (tr hlq).2, A.d6, (tr hf).1.symm, (tr hq).1⟩
theorem All.deed {m2 : Addr} (A : All K C M H s p f l2 q lq o lo las st ost) (k : Keep (fun b => b = s ∨ b = f ∨ b = l2) H H') (hm2 : m2 = l2 ∨ H m2 = none) (h1 : ∀ b, M b → M' b) (h2 : ∀ b, M' b → M b ∨ H b = none) (w : Wo K C M' H' s p f m2 las' st') : All K C M' H' s p f m2 q lq o lo las' st' ost := by
  have hm : ∀ b o, H b = some o → (b = s ∨ b = f ∨ b = l2) → M b := by
    rintro b o _ (z | z | z)
    · rw [z]; exact A.w.ms
    · rw [z]; exact A.w.fl.1
    · rw [z]; exact A.w.fl.2.1
  obtain ⟨_, hs⟩ := A.w.sa.lst
  obtain ⟨_, hlq⟩ := A.fq.lst
  obtain ⟨_, hlo⟩ := A.fo.lst
  obtain ⟨_, _, hf⟩ := A.w.fl.ins
  have nn : ∀ {q lq : Addr} {las st}, FileAt C M H q lq las st → s ≠ lq → l2 ≠ lq → q ≠ f → ¬ (q = s ∨ q = f ∨ q = l2) ∧ ¬ (lq = s ∨ lq = f ∨ lq = l2) := fun {q lq las st} F a b c => by
    obtain ⟨_, _, hq⟩ := F.ins
    obtain ⟨_, hl⟩ := F.lst
    refine ⟨?_, ?_⟩
    · rintro (z | z | z)
      · rw [z, hs] at hq; cases hq
      · exact c z
      · exact F.nl A.w.fl z
    · rintro (z | z | z)
      · exact a z.symm
      · rw [z, hf] at hl; cases hl
      · exact b z.symm
  have mq : ∀ {lq : Addr} {xs}, H lq = some (.lst xs) → l2 ≠ lq → m2 ≠ lq := fun h n => hm2.elim (fun z => by rw [z]; exact n) fun z y => by rw [y, h] at z; cases z
  exact ⟨w, A.fq.keepM A.w.g k hm (nn A.fq A.d1 A.d3 A.d6).1 (nn A.fq A.d1 A.d3 A.d6).2 h1 h2, A.fo.keepM A.w.g k hm (nn A.fo A.d2 A.d4 A.d7).1 (nn A.fo A.d2 A.d4 A.d7).2 h1 h2, A.d1, A.d2, mq hlq A.d3, mq hlo A.d4, A.d5, A.d6, A.d7, A.d8⟩
theorem Wo.more (W : Wo K C M H s p f l2 las st) (m1 : ∀ b, M b → M' b) (m2 : ∀ b, M' b → M b ∨ H b = none) (k : Same H H') (g : Gr M' H') : Wo K C M' H' s p f l2 las st := by
  obtain ⟨_, hp⟩ := W.sa.plst
  exact ⟨g, m1 _ W.ms, W.sa.same k, fun z => (m2 _ z).elim W.np fun z => (by rw [hp] at z; cases z), W.sl, (W.fl.more' m1 m2).same k⟩
theorem LawAt.moreS (L : LawAt M H p1 p2 las st) (m2 : ∀ b, M' b → M b ∨ H b = none) (k : Same H H') : LawAt M' H' p1 p2 las st := by
  obtain ⟨h1, h2, h3, h4⟩ := L.more m2
  exact ⟨k _ _ h1, h2, h3.keep k, h4⟩
theorem LawAt.keepM (h : LawAt M H p1 p2 las st) (g : Gr M H) (k : Keep N H H') (hm : ∀ b o, H b = some o → N b → M b) (m2 : ∀ b, M' b → M b ∨ H b = none) : LawAt M' H' p1 p2 las st := by
  obtain ⟨h1, n1, ⟨ts, t1, t2, t3⟩, n2⟩ := h.keep g k hm
  obtain ⟨h1', _, ⟨ts', t1', _⟩, _⟩ := h
  exact ⟨h1, fun z => (m2 _ z).elim n1 fun z => (by rw [h1'] at z; cases z), ⟨ts, t1, t2, t3⟩, fun z => (m2 _ z).elim n2 fun z => (by rw [t1'] at z; cases z)⟩
theorem All.start {H5 H6 H7 H12 : Hp} {m : Addr} (W5 : Wo K C M H5 s p f l2 [] []) (L5 : LawAt M H5 p1 p2 [] []) (no : H5 o = none) (nlo : H5 lo = none) (s6 : Same H5 H6) (g6 : Gr (fun b => (M b ∨ b = o) ∨ b = lo) H6) (F6 : FileAt C (fun b => (M b ∨ b = o) ∨ b = lo) H6 o lo [] [])
    (nq : H6 q = none) (nlq : H6 lq = none) (s7 : Same H6 H7) (g7 : Gr (fun b => (((M b ∨ b = o) ∨ b = lo) ∨ b = q) ∨ b = lq) H7) (n7m : H7 m = none) (kQ : Keep (fun b => b = q ∨ b = lq) H7 H12)
    (gM : Gr (fun b => ((((M b ∨ b = o) ∨ b = lo) ∨ b = q) ∨ b = lq) ∨ b = m) H12) (F12 : FileAt C (fun b => ((((M b ∨ b = o) ∨ b = lo) ∨ b = q) ∨ b = lq) ∨ b = m) H12 q m [1, 2] [(false, 3)]) :
    All K C (fun b => ((((M b ∨ b = o) ∨ b = lo) ∨ b = q) ∨ b = lq) ∨ b = m) H12 s p f l2 q m o lo [] [] [] ∧ LawAt (fun b => ((((M b ∨ b = o) ∨ b = lo) ∨ b = q) ∨ b = lq) ∨ b = m) H12 p1 p2 [] [] := by
  have a1 : ∀ b, (M b ∨ b = o) ∨ b = lo → M b ∨ H5 b = none := by
    rintro b ((z | rfl) | rfl)
    · exact .inl z
    · exact .inr no
    · exact .inr nlo
  have a2 : ∀ b, (((M b ∨ b = o) ∨ b = lo) ∨ b = q) ∨ b = lq → ((M b ∨ b = o) ∨ b = lo) ∨ H6 b = none := by
    rintro b ((z | rfl) | rfl)
    · exact .inl z
    · exact .inr nq
    · exact .inr nlq
  have W6 := W5.more (M' := fun b => (M b ∨ b = o) ∨ b = lo) (fun b z => .inl (.inl z)) a1 s6 g6
  have W7 := W6.more (M' := fun b => (((M b ∨ b = o) ∨ b = lo) ∨ b = q) ∨ b = lq) (fun b z => .inl (.inl z)) a2 s7 g7
  have L6 := L5.moreS a1 s6
  have L7 := L6.moreS a2 s7
  have F7 := (F6.more' (M' := fun b => (((M b ∨ b = o) ∨ b = lo) ∨ b = q) ∨ b = lq) (fun b z => .inl (.inl z)) a2).same s7
  have hm : ∀ b o', H7 b = some o' → (b = q ∨ b = lq) → (((M b ∨ b = o) ∨ b = lo) ∨ b = q) ∨ b = lq := by
    rintro b _ _ (z | z)
    · exact .inl (.inr z)
    · exact .inr z
  have a3 : ∀ b, ((((M b ∨ b = o) ∨ b = lo) ∨ b = q) ∨ b = lq) ∨ b = m → ((((M b ∨ b = o) ∨ b = lo) ∨ b = q) ∨ b = lq) ∨ H7 b = none := by
    rintro b (z | rfl)
    · exact .inl z
    · exact .inr n7m
  have tr : ∀ {b o'}, H6 b = some o' → b ≠ q ∧ b ≠ lq ∧ b ≠ m := fun h => ⟨ne_of_none h nq, ne_of_none h nlq, ne_of_none (s7 _ _ h) n7m⟩
  have nn : ∀ {b o'}, H6 b = some o' → ¬ (b = q ∨ b = lq) := fun h z => z.elim (tr h).1 (tr h).2.1
  obtain ⟨_, hs⟩ := W6.sa.lst
  obtain ⟨_, hp⟩ := W6.sa.plst
  obtain ⟨_, hl⟩ := W6.fl.lst
  obtain ⟨_, _, hf⟩ := W6.fl.ins
  obtain ⟨_, ho2⟩ := F6.lst
  obtain ⟨_, _, ho⟩ := F6.ins
  obtain ⟨_, hs5⟩ := W5.sa.lst
  obtain ⟨_, hl5⟩ := W5.fl.lst
  obtain ⟨_, _, hf5⟩ := W5.fl.ins
  refine ⟨⟨⟨gM, .inl W7.ms, W7.sa.keep kQ (nn hs) (nn hp), fun z => z.elim W7.np (tr hp).2.2, W7.sl, W7.fl.keepM g7 kQ hm (nn hf) (nn hl) (fun _ z => .inl z) a3⟩, F12, F7.keepM g7 kQ hm (nn ho) (nn ho2) (fun _ z => .inl z) a3, (tr hs).2.2, ne_of_none hs5 nlo, (tr hl).2.2, ne_of_none hl5 nlo, fun z => (tr ho2).2.2 z.symm, fun z => (tr hf).1 z.symm, fun z => ne_of_none hf5 no z.symm, fun z => (tr ho).1 z.symm⟩, L7.keepM g7 kQ hm a3⟩
end
end Mk10
namespace Mk10
open PySem PySem.Spec PyProof.Rows L2 My

section
variable {P : Program} {w : World} {K : PySem.W.Frag} {mg : Str → Option Value}
abbrev nD (l : List Nat) : PyData := .list (intsP (l.map fun n : Nat => (n : Int)))
theorem nums_dp {H : Hp} {a : Addr} {l : List Nat} (h : H a = some (.lst (nums l))) : Dp K H (.ref a) (nD l) := .lst (SqL.of h) (by rw [nums_eq]; exact ints_dp _)
theorem nums_deep (l : List Nat) : deep (nD l) ≤ 1 := by
  show deepAll _ + 1 ≤ 1
  rw [ints_deep]; decide
theorem law_fn (T : TopF K mg) (D : Defs K mg) {fa : Addr} (hmg : mg "law" = some (.ref fa)) : ∃ fd : FuncData, (∀ (s : Shared) (v : Value), BindsTo s fd ⟨[v], []⟩ [("script", v)]) ∧ ∀ base : Heap, K.In base → base.Ns mainGlobals mg → FnOk P w K mg base CX0 6 fa fd ["script"] (spLaw K) := by
  refine law_of D hmg sc_law (fun vs H Q E h => ?_) (fun base f cdv A outer s₀ H vs Q E hr h => ?_)
  · obtain ⟨_, _, rfl, _⟩ := h; rfl
  · obtain ⟨a, ns, rfl, hS, hlen, kk⟩ := h
    have nd := sc_law.nd
    have c__law_mix := k__law_mix (P := P) (w := w) (base := base) T D
    have c__law_draws := k__law_draws T D c__law_mix
    have c__law_next := k__law_next T D (k__law_at T D c__law_mix)
    have c__law_after := k__law_after (P := P) (w := w) (base := base) T D
    have c__applied := k__applied (P := P) (w := w) (base := base) T D
    have c__law_same := k__law_same T D (k__law_is_integer (P := P) (w := w) (base := base) T D) 1
    have c_File := k_init (P := P) (w := w) (base := base) T D
    have c_File_write := k_write (P := P) (w := w) (base := base) T D
    have c_File_shorten := k_shorten (P := P) (w := w) (base := base) T D
    have c_File_lose := k_lose T D c__applied
    have c_File_flush := k_flush T D c_File_lose
    have c_File_content := k_content T D c__applied
    have c_File_pending := k_pending (P := P) (w := w) (base := base) T D
    have c__law_deed := k__law_deed T D c__law_next c__law_same c__law_after c_File_write c_File_shorten c_File_lose c_File_flush
    refine ⟨_, (pss_cons (ps_set (i := 1) nd rfl (by first | exact Or.inl rfl | exact Or.inr rfl) (pe_lst (pa_cons (pe_kal c__law_draws hr (by first | decide | exact Nat.le_refl _ | omega) (pa_cons (pv 0) pa_nil)) (pa_cons pe_int pa_nil))))
 (pss_cons (ps_set (i := 2) nd rfl (by first | exact Or.inl rfl | exact Or.inr rfl) (pe_kmk0 c_File hr (by first | decide | exact Nat.le_refl _ | omega)))
 (pss_cons (ps_set (i := 3) nd rfl (by first | exact Or.inl rfl | exact Or.inr rfl) (pe_lst pa_nil))
 (pss_cons (ps_set (i := 4) nd rfl (by first | exact Or.inl rfl | exact Or.inr rfl) (pe_lst pa_nil))
 (pss_cons (ps_set (i := 5) nd rfl (by first | exact Or.inl rfl | exact Or.inr rfl) (pe_kmk0 c_File hr (by first | decide | exact Nat.le_refl _ | omega)))
 (pss_cons (ps_set (i := 6) nd rfl (by first | exact Or.inl rfl | exact Or.inr rfl) (pe_kmk0 c_File hr (by first | decide | exact Nat.le_refl _ | omega)))
 (pss_cons (ps_expr (pe_kmet c_File_write hr (by first | decide | exact Nat.le_refl _ | omega) (pv 6) (pa_cons (pe_lst (pa_cons pe_int (pa_cons pe_int pa_nil))) (pa_cons pe_non pa_nil))))
 (pss_cons (ps_expr (pe_kmet c_File_flush hr (by first | decide | exact Nat.le_refl _ | omega) (pv 6) (pa_cons pe_non pa_nil)))
 (pss_cons (ps_expr (pe_kmet c_File_write hr (by first | decide | exact Nat.le_refl _ | omega) (pv 6) (pa_cons (pe_lst (pa_cons pe_int pa_nil)) (pa_cons pe_non pa_nil))))
 (pss_cons (ps_for PassesOwn.never rfl (pi_range1 (by rfl) T.range (pa_cons (pe_kal c__law_next hr (by first | decide | exact Nat.le_refl _ | omega) (pa_cons (pv 1) (pa_cons pe_int pa_nil))) pa_nil)) (pg_name (i := 7) nd rfl (by first | exact Or.inl rfl | exact Or.inr rfl))
 (C8.pss_cut (ps_if (pt_cmpR op_eq (pe_kal c__law_next hr (by first | decide | exact Nat.le_refl _ | omega) (pa_cons (pv 1) (pa_cons pe_int pa_nil))) pe_int (nomark _))
 (pss_cons (ps_expr (pe_kmet c_File_write hr (by first | decide | exact Nat.le_refl _ | omega) (pv 5) (pa_cons (pe_lst (pa_cons (pv 7) (pa_cons (pe_op op_add (pv 7) pe_int) (pa_cons (pe_op op_add (pv 7) pe_int) pa_nil)))) (pa_cons pe_non pa_nil))))
 (pss_cons (ps_if (PW.pt (pw_or (pt_not (pt_val (pe_kal c__law_same hr (by first | decide | exact Nat.le_refl _ | omega) (pa_cons (pe_kmet0 c_File_content hr (by first | decide | exact Nat.le_refl _ | omega) (pv 5)) (pa_cons (pe_lst (pa_cons (pv 7) (pa_cons (pe_op op_add (pv 7) pe_int) (pa_cons (pe_op op_add (pv 7) pe_int) pa_nil)))) pa_nil))))) (pw_or1 (pt_not (pt_val (pe_kal c__law_same hr (by first | decide | exact Nat.le_refl _ | omega) (pa_cons (pe_kmet0 c_File_pending hr (by first | decide | exact Nat.le_refl _ | omega) (pv 5)) (pa_cons pe_int pa_nil))))))))
 (pss_one (ps_ret pe_bl)) pss_nil)
 (pss_cons (ps_set (i := 5) nd rfl (by first | exact Or.inl rfl | exact Or.inr rfl) (pe_kmk0 c_File hr (by first | decide | exact Nat.le_refl _ | omega)))
 (pss_one (ps_if (PW.pt (pw_or (pt_cmpR (op_neD hr.units) (pe_kmet0 c_File_content hr (by first | decide | exact Nat.le_refl _ | omega) (pv 5)) (pe_lst pa_nil) (nomark _)) (pw_or1 (pt_not (pt_val (pe_kal c__law_same hr (by first | decide | exact Nat.le_refl _ | omega) (pa_cons (pe_kmet0 c_File_pending hr (by first | decide | exact Nat.le_refl _ | omega) (pv 5)) (pa_cons pe_int pa_nil))))))))
 (pss_one (ps_ret pe_bl)) pss_nil))))) pss_nil)
 (pss_cons (ps_asg (pe_kal c__law_deed hr (by first | decide | exact Nat.le_refl _ | omega) (pa_cons (pv 1) (pa_cons (pv 2) (pa_cons (pv 3) (pa_cons (pv 4) pa_nil))))) (pg_lst rfl (pgs_cons (pg_name (i := 8) nd rfl (by first | exact Or.inl rfl | exact Or.inr rfl)) (pgs_cons (pg_name (i := 3) nd rfl (by first | exact Or.inl rfl | exact Or.inr rfl)) (pgs_cons (pg_name (i := 4) nd rfl (by first | exact Or.inl rfl | exact Or.inr rfl)) pgs_nil)))))
 (pss_cons (ps_if (PW.pt (pw_or (pt_not (pt_val (pv 8))) (pw_or1 (pt_not (pt_val (pe_kal c__law_same hr (by first | decide | exact Nat.le_refl _ | omega) (pa_cons (pe_kmet0 c_File_content hr (by first | decide | exact Nat.le_refl _ | omega) (pv 2)) (pa_cons (pe_kal c__law_after hr (by first | decide | exact Nat.le_refl _ | omega) (pa_cons (pv 3) (pa_cons (pv 4) pa_nil))) pa_nil))))))))
 (pss_one (ps_ret pe_bl)) pss_nil)
 (pss_cons (ps_if (pt_not (pt_val (pe_kal c__law_same hr (by first | decide | exact Nat.le_refl _ | omega) (pa_cons (pe_kmet0 c_File_pending hr (by first | decide | exact Nat.le_refl _ | omega) (pv 2)) (pa_cons (pe_callB call_len_seq (by rfl) T.len (by decide +kernel) (pa_cons (pv 4) pa_nil)) pa_nil)))))
 (pss_one (ps_ret pe_bl)) pss_nil)
 (pss_cons (ps_expr (pe_bm PySem.F.plainAttrs_list PySem.F.slot_list_append PySem.F.type_list_append mt_append (pe_kmet0 c_File_content hr (by first | decide | exact Nat.le_refl _ | omega) (pv 2)) (pa_cons pe_int pa_nil)))
 (pss_one (ps_if (PW.pt (pw_and (pt_cmpR op_eq (pe_kal c__law_next hr (by first | decide | exact Nat.le_refl _ | omega) (pa_cons (pv 1) (pa_cons pe_int pa_nil))) pe_int (nomark _)) (pw_and1 (pt_not (pt_val (pe_kal c__law_same hr (by first | decide | exact Nat.le_refl _ | omega) (pa_cons (pe_kmet0 c_File_content hr (by first | decide | exact Nat.le_refl _ | omega) (pv 2)) (pa_cons (pe_kal c__law_after hr (by first | decide | exact Nat.le_refl _ | omega) (pa_cons (pv 3) (pa_cons (pv 4) pa_nil))) pa_nil))))))))
 (pss_one (ps_ret pe_bl)) pss_nil))))))))
 (pss_cons (ps_expr (pe_kmet c_File_lose hr (by first | decide | exact Nat.le_refl _ | omega) (pv 2) (pa_cons pe_int pa_nil)))
 (pss_cons (ps_if (PW.pt (pw_or (pt_not (pt_val (pe_kal c__law_same hr (by first | decide | exact Nat.le_refl _ | omega) (pa_cons (pe_kmet0 c_File_content hr (by first | decide | exact Nat.le_refl _ | omega) (pv 6)) (pa_cons (pe_lst (pa_cons pe_int (pa_cons pe_int (pa_cons pe_int pa_nil)))) pa_nil))))) (pw_or1 (pt_not (pt_val (pe_kal c__law_same hr (by first | decide | exact Nat.le_refl _ | omega) (pa_cons (pe_kmet0 c_File_pending hr (by first | decide | exact Nat.le_refl _ | omega) (pv 6)) (pa_cons pe_int pa_nil))))))))
 (pss_one (ps_ret pe_bl)) pss_nil)
 (pss_one (ps_ret (pe_and (pe_kal c__law_same hr (by first | decide | exact Nat.le_refl _ | omega) (pa_cons (pe_kmet0 c_File_content hr (by first | decide | exact Nat.le_refl _ | omega) (pv 2)) (pa_cons (pv 3) pa_nil))) (pe_one (pe_kal c__law_same hr (by first | decide | exact Nat.le_refl _ | omega) (pa_cons (pe_kmet0 c_File_pending hr (by first | decide | exact Nat.le_refl _ | omega) (pv 2)) (pa_cons pe_int pa_nil))))))))))))))))))), ?_⟩
    -- state
    refine ⟨_, rfl, a, ns, rfl, hS, fun H1 p ds s1 n1 hp => ?_⟩
    refine ⟨by show 2 ≤ sizeLine; decide, fun s nS => ?_⟩
    generalize hs : upd _ s _ = H2
    have s2 := same_of hs nS
    have as := upd_at hs
    have sa2 : StAt K H2 s p := ⟨ds, 20, as, ⟨s2 _ _ hp.1, hp.2⟩, by decide⟩
    have nps : p ≠ s := ne_of_none hp.1 nS
    have g2 : Gr (fun b => b = s) H2 := fun b z => by
      obtain rfl : b = s := z
      exact .inl ⟨_, as⟩
    -- file, lasting, steps, other, still
    show ∀ (x dx : Addr), H2 x = none → H2 dx = none → dx ≠ x → _
    refine mk_file g2 (fun f l2 H3 nf nl s3 g3 F3 => ?_)
    obtain ⟨_, hp2⟩ := sa2.plst
    have W3 : Wo K (He.ga K "File") (fun b => (b = s ∨ b = f) ∨ b = l2) H3 s p f l2 [] [] := by
      refine ⟨g3, .inl (.inl rfl), sa2.same s3, ?_, ne_of_none as nl, F3⟩
      rintro ((z | z) | z)
      · exact nps z
      · rw [← z, hp2] at nf; cases nf
      · rw [← z, hp2] at nl; cases nl
    refine ⟨Nat.zero_le _, fun p1 n4 => ?_⟩
    generalize h4 : upd _ p1 _ = H4
    have s4 := same_of h4 n4
    have a4 := upd_at h4
    refine ⟨Nat.zero_le _, fun p2 n5 => ?_⟩
    generalize h5 : upd _ p2 _ = H5
    have s5 := same_of h5 n5
    have a5 := upd_at h5
    have W5 := W3.same (s4.trans s5)
    have L5 : LawAt (fun b => (b = s ∨ b = f) ∨ b = l2) H5 p1 p2 [] [] := ⟨s5 _ _ a4, W3.g.no n4, ⟨[], a5, rfl, fun i t d a _ => by simp at a⟩, (W3.same s4).g.no n5⟩
    show ∀ (x dx : Addr), H5 x = none → H5 dx = none → dx ≠ x → _
    refine mk_file W5.g (fun o lo H6 no nlo s6 g6 F6 => ?_)
    show ∀ (x dx : Addr), H6 x = none → H6 dx = none → dx ≠ x → _
    refine mk_file g6 (fun q lq H7 nq nlq s7 g7 F7 => ?_)
    -- still.write([1, 2], None)
    obtain ⟨dx, l1, hq⟩ := F7.ins
    refine ⟨_, rfl, q, dx, _, rfl, hq, ff_no _ _ (by decide +kernel) (by decide +kernel), ?_⟩
    refine ⟨by show 2 ≤ sizeLine; decide, fun c nc => ?_⟩
    generalize h8 : upd _ c _ = H8
    have s8 := same_of h8 nc
    have a8 := upd_at h8
    have g8 := g7.keep (N := fun _ => False) (Keep.of s8) fun _ _ z => z.elim
    refine ⟨_, q, lq, c, [], [], [1, 2], .non, 2, rfl, g8, F7.same s8, a8, .inl ⟨rfl, rfl⟩, by decide, fun H9 k9 F9 => ?_⟩
    have g9 := Gr.keep (H' := H9) g8 k9 fun b _ z => by
      obtain rfl : b = lq := z
      exact .inl F9.lst
    -- still.flush(None)
    obtain ⟨dx, l1, hq⟩ := F9.ins
    refine ⟨_, rfl, q, dx, _, rfl, hq, ff_no _ _ (by decide +kernel) (by decide +kernel), ?_⟩
    refine ⟨_, q, lq, [], _, .non, rfl, g9, F9, .inl rfl, by decide, fun z => (by cases z), fun _ H10 m n10 k10 F10 => ?_⟩
    have g10 := (Gr.keep (H' := H10) g9 k10 fun b _ z => by
      obtain rfl : b = q := z
      obtain ⟨_, _, h⟩ := F10.ins
      exact .inr ⟨_, _, _, h⟩).or F10.lst.choose_spec
    -- still.write([3], None)
    obtain ⟨dx, l1, hq⟩ := F10.ins
    refine ⟨_, rfl, q, dx, _, rfl, hq, ff_no _ _ (by decide +kernel) (by decide +kernel), ?_⟩
    refine ⟨by show 1 ≤ sizeLine; decide, fun c2 nc2 => ?_⟩
    generalize h11 : upd _ c2 _ = H11
    have s11 := same_of h11 nc2
    have a11 := upd_at h11
    have g11 := g10.keep (N := fun _ => False) (Keep.of s11) fun _ _ z => z.elim
    refine ⟨_, q, m, c2, _, [], [3], .non, 1, rfl, g11, F10.same s11, a11, .inl ⟨rfl, rfl⟩, by decide, fun H12 k12 F12 => ?_⟩
    -- what stands before the loop
    have nlqq : lq ≠ q := fun z => by
      obtain ⟨_, h⟩ := F7.lst
      obtain ⟨_, _, h2⟩ := F7.ins
      rw [z, h2] at h; cases h
    have n8m : H8 m = none := Keep.free' k9 n10 fun z => by
      obtain ⟨_, h⟩ := F9.lst
      rw [z, h] at n10; cases n10
    have n7m : H7 m = none := s8.free n8m
    have kQ : Keep (fun b => b = q ∨ b = lq) H7 H12 := by
      refine Keep.mono (P := fun b => (b = q ∨ b = lq) ∨ b = m) ?_ fun b z => z.imp id fun z => by rw [z]; exact n7m
      exact (Keep.of s8).trans ((k9.mono fun b z => .inl (.inl (.inr z))).trans ((k10.mono fun b z => .inl (.inl (.inl z))).trans ((Keep.of s11).trans (k12.mono fun b z => .inl (.inr z)))))
    have lqm : lq ≠ m := fun z => by
      obtain ⟨_, h⟩ := F7.lst
      rw [z, n7m] at h; cases h
    have gM := Gr.keep (H' := H12) g11 k12 fun b _ z => by
      obtain rfl : b = m := z
      exact .inl F12.lst
    obtain ⟨A12, L12⟩ := All.start W5 L5 no nlo s6 g6 F6 nq nlq s7 g7 n7m kQ gM F12
    clear kQ gM F12 a11 h11 s11 g11 g10 F10 k10 n10 n8m g9 F9 k9 g8 s8 a8 h8 g7 F7 s7 g6 F6 s6 W5 L5 a5 a4 s5 s4
    generalize hM : (fun b => (((((((b = s ∨ b = f) ∨ b = l2) ∨ b = o) ∨ b = lo) ∨ b = q) ∨ b = lq) ∨ b = m)) = M at A12 L12
    -- the loop
    refine ⟨_, rfl, s, p, 31, rfl, A12.w.sa, by decide, fun H13 n k13 sa13 n0 n1 _ => ?_⟩
    have A13 := A12.keepN (fun _ z => .inl z) k13 sa13
    have L13 := L12.keepN A12.w (fun _ z => .inl z) k13
    obtain ⟨n, rfl⟩ : ∃ m : Nat, n = (m : Int) := ⟨n.toNat, by omega⟩
    refine ⟨_, rfl, by omega, by omega, for_range0 (fun i σ H' => Hold (∃ (M : Addr → Prop) (l2 p1 p2 o lo : Addr) (las : List Nat) (st : List (Bool × Nat)) (v7 v8 : Option V), σ = [some (.ref a), some (.ref s), some (.ref f), some (.ref p1), some (.ref p2), some (.ref o), some (.ref q), v7, v8] ∧ All K (He.ga K "File") M H' s p f l2 q m o lo las st [] ∧ LawAt M H' p1 p2 las st ∧ las.length + st.length ≤ 60 * i)) ?_ ?_ ?_⟩
    · exact .mk ⟨M, l2, p1, p2, o, lo, [], [], none, none, rfl, A13, L13, Nat.zero_le _⟩
    · intro i σ H1 hi V
      obtain ⟨M, l2, p1, p2, o, lo, las, st, v7, v8, rfl, A, L, hb⟩ := V.out
      have him : i < n := by simpa using hi
      refine ⟨fun σ H' => Hold (∃ (M : Addr → Prop) (o lo : Addr), σ = [some (.ref a), some (.ref s), some (.ref f), some (.ref p1), some (.ref p2), some (.ref o), some (.ref q), some (.int (i : Nat)), v8] ∧ All K (He.ga K "File") M H' s p f l2 q m o lo las st [] ∧ LawAt M H' p1 p2 las st), ?_, ?_⟩
      · refine ⟨_, rfl, s, p, 6, rfl, A.w.sa, by decide, fun H2 x k2 sa2 _ _ _ => ?_⟩
        have A2 := A.keepN (fun _ z => .inl z) k2 sa2
        have L2 := L.keepN A.w (fun _ z => .inl z) k2
        refine ⟨rfl, _, rfl, ?_⟩
        refine ite2 (fun e => ?_) (fun _ => .mk ⟨M, o, lo, rfl, A2, L2⟩)
        obtain ⟨dx, l1, ho⟩ := A2.fo.ins
        refine ⟨_, rfl, o, dx, _, rfl, ho, ff_no _ _ (by decide +kernel) (by decide +kernel), ?_⟩
        refine ⟨_, rfl, _, rfl, _, _, rfl, rfl, _, rfl, _, _, rfl, rfl, by show 3 ≤ sizeLine; decide, fun c nc => ?_⟩
        generalize h3 : upd _ c _ = H3
        have s3 := same_of h3 nc
        have a3 := upd_at h3
        have A3 := A2.same s3
        have L3 := L2.same A2.w s3
        refine ⟨M, o, lo, c, [], [], [i, i + 1, i + 2], .non, 3, rfl, A3.w.g, A3.fo, a3, .inl ⟨rfl, rfl⟩, by simp, fun H4 k4 F4 => ?_⟩
        have A4 := A3.stepO k4 F4
        have L4 := L3.keep A3.w.g k4 (fun b o _ z => by rw [z]; exact A3.fo.2.1)
        obtain ⟨dx, l1, ho⟩ := A4.fo.ins
        refine ⟨_, rfl, o, dx, _, rfl, ho, ff_no _ _ (by decide +kernel) (by decide +kernel), ?_⟩
        refine ⟨M, o, lo, [], _, rfl, A4.fo, by simp, fun H5 c5 s5 n5 e5 => ?_⟩
        refine ⟨_, rfl, _, rfl, _, _, rfl, rfl, _, rfl, _, _, rfl, rfl, by show 3 ≤ sizeLine; decide, fun c6 n6 => ?_⟩
        generalize h6 : upd _ c6 _ = H6
        have s6 := same_of h6 n6
        have a6 := upd_at h6
        refine ⟨_, _, nD [i, i + 1, i + 2], rfl, nums_dp (s6 _ _ e5), nums_dp a6, nums_deep _, fun H7 s7 => ?_⟩
        have A7 := A4.same (s5.trans (s6.trans s7))
        have L7 := L4.same A4.w (s5.trans (s6.trans s7))
        refine ⟨_, rfl, ?_⟩
        refine ite2 (fun z => by simp at z) (fun _ => ?_)
        obtain ⟨dx, l1, ho⟩ := A7.fo.ins
        refine ⟨_, rfl, o, dx, _, rfl, ho, ff_no _ _ (by decide +kernel) (by decide +kernel), M, o, lo, [], _, rfl, A7.fo, ?_⟩
        refine ⟨_, _, .int 3, rfl, .int 3, .int 3, Nat.zero_le _, fun H8 s8 => ?_⟩
        have A8 := A7.same s8
        have L8 := L7.same A7.w s8
        refine ⟨_, rfl, ?_⟩
        refine ite2 (fun z => by simp at z) (fun _ => ?_)
        show ∀ (x dx : Addr), H8 x = none → H8 dx = none → dx ≠ x → _
        refine mk_file A8.w.g (fun o2 lo2 H9 no nlo s9 g9 F9 => ?_)
        have A9 := A8.newO no nlo s9 g9 F9
        have L9 := L8.moreS (M' := fun b => (M b ∨ b = o2) ∨ b = lo2) (by
          rintro b ((z | rfl) | rfl)
          · exact .inl z
          · exact .inr no
          · exact .inr nlo) s9
        obtain ⟨dx, l1, ho⟩ := A9.fo.ins
        refine ⟨_, rfl, o2, dx, _, rfl, ho, ff_no _ _ (by decide +kernel) (by decide +kernel), ?_⟩
        refine ⟨_, o2, lo2, [], [], rfl, A9.fo, by simp, fun H10 c10 s10 n10 e10 => ?_⟩
        refine ⟨Nat.zero_le _, fun c11 n11 => ?_⟩
        generalize h11 : upd _ c11 _ = H11
        have s11 := same_of h11 n11
        have a11 := upd_at h11
        refine ⟨_, _, nums_dp (s11 _ _ e10), nums_dp (l := []) a11, ints_shaped _, ints_shaped _, _, rfl, ?_⟩
        refine ite2 (fun z => by
          have e : PyData.eqv (nD (after [] [])) (nD []) = true := ints_eqv []
          rw [e] at z; cases z) (fun _ => ?_)
        have A11 := A9.same (s10.trans s11)
        have L11 := L9.same A9.w (s10.trans s11)
        obtain ⟨dx, l1, ho⟩ := A11.fo.ins
        refine ⟨_, rfl, o2, dx, _, rfl, ho, ff_no _ _ (by decide +kernel) (by decide +kernel), _, o2, lo2, [], _, rfl, A11.fo, ?_⟩
        refine ⟨_, _, .int 0, rfl, .int 0, .int 0, Nat.zero_le _, fun H12 s12 => ?_⟩
        refine ⟨_, rfl, ?_⟩
        refine ite2 (fun z => by simp at z) (fun _ => ?_)
        exact .mk ⟨_, o2, lo2, rfl, A11.same s12, L11.same A11.w s12⟩
      clear V A L
      intro σ H2 V
      obtain ⟨M, o, lo, rfl, A, L⟩ := V.out
      clear V
      refine ⟨_, rfl, _, rfl, _, rfl, _, rfl, M, s, p, f, l2, p1, p2, las, st, rfl, A.w, L, by omega, fun H3 M3 r q1 q2 m2 las3 st3 k3 hm2 h1 h2 w3 L3 hl3 hr => ?_⟩
      have A3 := A.deed k3 hm2 h1 h2 w3
      refine ⟨r, _, rfl, SqL.of hr, rfl, _, _, rfl, _, _, rfl, _, _, rfl, rfl, ?_⟩
      -- if not right or not _law_same(file.content(), _law_after(lasting, steps))
      refine ⟨_, rfl, _, rfl, ?_⟩
      refine ite2 (fun z => by simp at z) (fun _ => ?_)
      obtain ⟨dx, l1, hf⟩ := A3.w.fl.ins
      refine ⟨_, rfl, f, dx, _, rfl, hf, ff_no _ _ (by decide +kernel) (by decide +kernel), ?_⟩
      refine ⟨M3, f, m2, las3, st3, rfl, A3.w.fl, by omega, fun H4 c4 s4 n4 e4 => ?_⟩
      have L4 := L3.same w3 s4
      refine ⟨_, rfl, _, rfl, q1, q2, las3, st3, rfl, L4.1, L4.2.2.1, by omega, fun H5 c5 s5 n5 e5 => ?_⟩
      refine ⟨_, _, nD (after las3 st3), rfl, nums_dp (s5 _ _ e4), nums_dp e5, nums_deep _, fun H6 s6 => ?_⟩
      have s36 := s4.trans (s5.trans s6)
      have A6 := A3.same s36
      have L6 := L3.same w3 s36
      refine ⟨_, rfl, ?_⟩
      refine ite2 (fun z => by simp at z) (fun _ => ?_)
      -- if not _law_same(file.pending(), len(steps))
      obtain ⟨dx, l1, hf⟩ := A6.w.fl.ins
      obtain ⟨y1, y2, ⟨ts, t1, t2, t3⟩, y4⟩ := id L6
      refine ⟨_, rfl, f, dx, _, rfl, hf, ff_no _ _ (by decide +kernel) (by decide +kernel), M3, f, m2, las3, st3, rfl, A6.w.fl, ?_⟩
      refine ⟨_, rfl, _, _, rfl, .inl (SqL.of t1), ?_⟩
      rw [List.length_map, t2]
      refine ⟨_, _, _, rfl, .int _, .int _, Nat.zero_le _, fun H7 s7 => ?_⟩
      have A7 := A6.same s7
      have L7 := L6.same A6.w s7
      refine ⟨_, rfl, ?_⟩
      refine ite2 (fun z => by simp at z) (fun _ => ?_)
      -- file.content().append(7)
      obtain ⟨dx, l1, hf⟩ := A7.w.fl.ins
      refine ⟨_, rfl, f, dx, _, rfl, hf, ff_no _ _ (by decide +kernel) (by decide +kernel), ?_⟩
      refine ⟨M3, f, m2, las3, st3, rfl, A7.w.fl, by omega, fun H8 c s8 nc ec => ?_⟩
      have A8 := A7.add nc s8 ec
      have L8 := L7.add A7.w nc s8
      refine ⟨.inl ⟨rfl, _, SqL.of ec⟩, ?_⟩
      have al := after_len st3 las3
      refine ⟨c, _, _, rfl, rfl, ec, by rw [List.length_map, line24]; omega, ?_⟩
      generalize h9 : upd _ c _ = H9
      have k9 : Keep (· = c) H8 H9 := keep_of h9 rfl
      have a9 := upd_at h9
      have nn : ∀ {b o'}, H7 b = some o' → c ≠ b := fun h z => by rw [← z, nc] at h; cases h
      have A9 := A8.put (.inr rfl) (nn A7.w.sa.lst.choose_spec) (nn hf) (nn A7.w.fl.lst.choose_spec) (nn A7.fq.ins.choose_spec.choose_spec) (nn A7.fq.lst.choose_spec) (nn A7.fo.ins.choose_spec.choose_spec) (nn A7.fo.lst.choose_spec) k9 a9
      have L9 := L8.put A8.w (.inr rfl) k9
      -- the last test
      refine ⟨_, rfl, s, p, 4, rfl, A9.w.sa, by decide, fun H10 x k10 sa10 _ _ _ => ?_⟩
      have A10 := A9.keepN (fun _ z => .inl z) k10 sa10
      have L10 := L9.keepN A9.w (fun _ z => .inl z) k10
      refine ⟨rfl, _, rfl, ?_⟩
      refine ite2 (fun _ => ?_) (fun _ => ?_)
      · obtain ⟨dx, l1, hf⟩ := A10.w.fl.ins
        refine ⟨_, rfl, f, dx, _, rfl, hf, ff_no _ _ (by decide +kernel) (by decide +kernel), ?_⟩
        refine ⟨_, f, m2, las3, st3, rfl, A10.w.fl, by omega, fun H11 c11 s11 n11 e11 => ?_⟩
        have L11 := L10.same A10.w s11
        refine ⟨_, rfl, _, rfl, q1, q2, las3, st3, rfl, L11.1, L11.2.2.1, by omega, fun H12 c12 s12 n12 e12 => ?_⟩
        refine ⟨_, _, nD (after las3 st3), rfl, nums_dp (s12 _ _ e11), nums_dp e12, nums_deep _, fun H13 s13 => ?_⟩
        have s36 := s11.trans (s12.trans s13)
        refine ⟨_, rfl, ?_⟩
        refine ite2 (fun z => by simp at z) (fun _ => ?_)
        exact .mk ⟨_, m2, q1, q2, o, lo, las3, st3, _, _, rfl, A10.same s36, L10.same A10.w s36, by omega⟩
      · refine ite2 (fun z => by simp at z) (fun _ => ?_)
        exact .mk ⟨_, m2, q1, q2, o, lo, las3, st3, _, _, rfl, A10, L10, by omega⟩
    -- behind the loop
    intro σ H1 V
    obtain ⟨M, l2, p1, p2, o, lo, las, st, v7, v8, rfl, A, L, hb⟩ := V.out
    clear V
    obtain ⟨dx, l1, hf⟩ := A.w.fl.ins
    refine ⟨_, rfl, f, dx, _, rfl, hf, ff_no _ _ (by decide +kernel) (by decide +kernel), ?_⟩
    refine ⟨M, f, l2, las, st, 0, rfl, A.w.g, A.w.fl, by omega, fun H2 m2 q2 k2 F2 => ?_⟩
    have Fq := FileAt.keepM (M' := fun b => M b ∨ b = m2) (H' := H2) A.fq A.w.g k2 (fun b _ _ z => by rw [z]; exact A.w.fl.1) A.d6 (fun z => by
      obtain ⟨_, h⟩ := A.fq.lst
      rw [z, hf] at h; cases h) (fun b z => .inl z) (fun b z => z.imp id fun z => by rw [z]; exact q2)
    have hl2 : H2 p1 = some (.lst (nums las)) := k2 _ _ L.1 (ne_of L.1 hf (by intro z; cases z))
    obtain ⟨dx, l1, hq⟩ := Fq.ins
    refine ⟨_, rfl, q, dx, _, rfl, hq, ff_no _ _ (by decide +kernel) (by decide +kernel), ?_⟩
    refine ⟨_, q, m, _, _, rfl, Fq, by decide, fun H3 c3 s3 n3 e3 => ?_⟩
    refine ⟨by show 3 ≤ sizeLine; decide, fun c4 n4 => ?_⟩
    generalize h4 : upd _ c4 _ = H4
    have s4 := same_of h4 n4
    have a4 := upd_at h4
    refine ⟨_, _, nD [1, 2, 3], rfl, nums_dp (l := [1, 2, 3]) (s4 _ _ e3), nums_dp (l := [1, 2, 3]) a4, nums_deep _, fun H5 s5 => ?_⟩
    refine ⟨_, rfl, ?_⟩
    refine ite2 (fun z => by simp at z) (fun _ => ?_)
    have s25 := s3.trans (s4.trans s5)
    have Fq5 := Fq.same s25
    obtain ⟨dx, l1, hq⟩ := Fq5.ins
    refine ⟨_, rfl, q, dx, _, rfl, hq, ff_no _ _ (by decide +kernel) (by decide +kernel), _, q, m, _, _, rfl, Fq5, ?_⟩
    refine ⟨_, _, .int 1, rfl, .int 1, .int 1, Nat.zero_le _, fun H6 s6 => ?_⟩
    refine ⟨_, rfl, ?_⟩
    refine ite2 (fun z => by simp at z) (fun _ => ?_)
    have s26 := s25.trans s6
    have F6 := F2.same s26
    obtain ⟨dx, l1, hf⟩ := F6.ins
    refine ⟨_, rfl, f, dx, _, rfl, hf, ff_no _ _ (by decide +kernel) (by decide +kernel), ?_⟩
    refine ⟨_, f, m2, _, _, rfl, F6, by show las.length + 0 ≤ _; omega, fun H7 c7 s7 n7 e7 => ?_⟩
    refine ⟨_, rfl, _, _, nD las, rfl, nums_dp e7, nums_dp (s7 _ _ (s26 _ _ hl2)), nums_deep _, fun H8 s8 => ?_⟩
    refine ⟨_, rfl, ?_⟩
    refine ite2 (fun _ => ?_) (fun z => absurd rfl z)
    have F8 := F6.same (s7.trans s8)
    obtain ⟨dx, l1, hf⟩ := F8.ins
    refine ⟨_, rfl, f, dx, _, rfl, hf, ff_no _ _ (by decide +kernel) (by decide +kernel), _, f, m2, _, _, rfl, F8, ?_⟩
    exact ⟨_, _, .int 0, rfl, .int 0, .int 0, Nat.zero_le _, fun H9 s9 => kk _⟩
end
end Mk10
namespace Mk10
open PySem PySem.Spec PyProof.Rows L2 My
def dd__applied : He.DefD := ⟨("_applied", none), "_applied", "_applied", defArgs s__applied, defBody s__applied, defScope s__applied, [], []⟩
def dd_File___init__ : He.DefD := ⟨("File", some "__init__"), "__init__", "File.__init__", defArgs s_File___init__, defBody s_File___init__, defScope s_File___init__, [], []⟩
def dd_File_write : He.DefD := ⟨("File", some "write"), "write", "File.write", defArgs s_File_write, defBody s_File_write, defScope s_File_write, [], []⟩
def dd_File_shorten : He.DefD := ⟨("File", some "shorten"), "shorten", "File.shorten", defArgs s_File_shorten, defBody s_File_shorten, defScope s_File_shorten, [], []⟩
def dd_File_flush : He.DefD := ⟨("File", some "flush"), "flush", "File.flush", defArgs s_File_flush, defBody s_File_flush, defScope s_File_flush, [], []⟩
def dd_File_content : He.DefD := ⟨("File", some "content"), "content", "File.content", defArgs s_File_content, defBody s_File_content, defScope s_File_content, [], []⟩
def dd_File_pending : He.DefD := ⟨("File", some "pending"), "pending", "File.pending", defArgs s_File_pending, defBody s_File_pending, defScope s_File_pending, [], []⟩
def dd_File_lose : He.DefD := ⟨("File", some "lose"), "lose", "File.lose", defArgs s_File_lose, defBody s_File_lose, defScope s_File_lose, [], []⟩
def dd__law_mix : He.DefD := ⟨("_law_mix", none), "_law_mix", "_law_mix", defArgs s__law_mix, defBody s__law_mix, defScope s__law_mix, [], []⟩
def dd__law_draws : He.DefD := ⟨("_law_draws", none), "_law_draws", "_law_draws", defArgs s__law_draws, defBody s__law_draws, defScope s__law_draws, [], []⟩
def dd__law_at : He.DefD := ⟨("_law_at", none), "_law_at", "_law_at", defArgs s__law_at, defBody s__law_at, defScope s__law_at, [], []⟩
def dd__law_is_integer : He.DefD := ⟨("_law_is_integer", none), "_law_is_integer", "_law_is_integer", defArgs s__law_is_integer, defBody s__law_is_integer, defScope s__law_is_integer, [], []⟩
def dd__law_same : He.DefD := ⟨("_law_same", none), "_law_same", "_law_same", defArgs s__law_same, defBody s__law_same, defScope s__law_same, [], []⟩
def dd__law_next : He.DefD := ⟨("_law_next", none), "_law_next", "_law_next", defArgs s__law_next, defBody s__law_next, defScope s__law_next, [], []⟩
def dd__law_after : He.DefD := ⟨("_law_after", none), "_law_after", "_law_after", defArgs s__law_after, defBody s__law_after, defScope s__law_after, [], []⟩
def dd__law_deed : He.DefD := ⟨("_law_deed", none), "_law_deed", "_law_deed", defArgs s__law_deed, defBody s__law_deed, defScope s__law_deed, [], []⟩
def dd_law : He.DefD := ⟨("law", none), "law", "law", defArgs s_law, defBody s_law, defScope s_law, [], []⟩
def fn : List He.DefD := ([dd__applied, dd_File___init__, dd_File_write, dd_File_shorten, dd_File_flush, dd_File_content, dd_File_pending, dd_File_lose, dd__law_mix, dd__law_draws, dd__law_at, dd__law_is_integer, dd__law_same, dd__law_next, dd__law_after, dd__law_deed, dd_law] : List He.DefD)
def fa : List He.Fa := ([.glo "_applied", .mkr "File", .glo "File", .cls "File", .meth "File" "write", .meth "File" "shorten", .meth "File" "flush", .meth "File" "content", .meth "File" "pending", .meth "File" "lose", .glo "_law_mix", .glo "_law_draws", .glo "_law_at", .glo "_law_is_integer", .glo "_law_same", .glo "_law_next", .glo "_law_after", .glo "_law_deed", .glo "law", .free "bool", .free "int", .free "isinstance", .free "len", .free "list", .free "min", .free "range", .free "str", .free "tuple", .noat "File" "_lasting", .noat "File" "_steps"] : List He.Fa)
theorem tops {K : PySem.W.Frag} {h : Heap} {mg : Str → Option Value} (X : K.In h) (G : h.Ns mainGlobals mg) (c : He.SaysD fa fn K) : TopF K mg where
  bool := He.free_ok X G (c.fact 19 (f := .free "bool") rfl)
  int_ := He.free_ok X G (c.fact 20 (f := .free "int") rfl)
  isinstance := He.free_ok X G (c.fact 21 (f := .free "isinstance") rfl)
  len := He.free_ok X G (c.fact 22 (f := .free "len") rfl)
  list := He.free_ok X G (c.fact 23 (f := .free "list") rfl)
  min := He.free_ok X G (c.fact 24 (f := .free "min") rfl)
  range := He.free_ok X G (c.fact 25 (f := .free "range") rfl)
  str := He.free_ok X G (c.fact 26 (f := .free "str") rfl)
  tuple := He.free_ok X G (c.fact 27 (f := .free "tuple") rfl)
  n_File__lasting := He.noat_ok (c.fact 28 (f := .noat "File" "_lasting") rfl)
  n_File__steps := He.noat_ok (c.fact 29 (f := .noat "File" "_steps") rfl)
theorem defs {K : PySem.W.Frag} {h : Heap} {mg : Str → Option Value} (X : K.In h) (G : h.Ns mainGlobals mg) (c : He.SaysD fa fn K) : Defs K mg where
  d__applied := let ⟨fd, F⟩ := c.def_ 0 (d := dd__applied) rfl; ⟨⟨_, fd, F, He.glo_ok X G (c.fact 0 (f := .glo "_applied") rfl)⟩⟩
  d_File___init__ := let ⟨fd, F⟩ := c.def_ 1 (d := dd_File___init__) rfl; ⟨⟨_, fd, F, He.mkr_ok (c.fact 1 (f := .mkr "File") rfl), He.glo_ok X G (c.fact 2 (f := .glo "File") rfl)⟩⟩
  d_File_write := let ⟨fd, F⟩ := c.def_ 2 (d := dd_File_write) rfl; ⟨He.cls_ok (c.fact 3 (f := .cls "File") rfl), ⟨_, fd, F, He.meth_ok (c.fact 4 (f := .meth "File" "write") rfl)⟩⟩
  d_File_shorten := let ⟨fd, F⟩ := c.def_ 3 (d := dd_File_shorten) rfl; ⟨He.cls_ok (c.fact 3 (f := .cls "File") rfl), ⟨_, fd, F, He.meth_ok (c.fact 5 (f := .meth "File" "shorten") rfl)⟩⟩
  d_File_flush := let ⟨fd, F⟩ := c.def_ 4 (d := dd_File_flush) rfl; ⟨He.cls_ok (c.fact 3 (f := .cls "File") rfl), ⟨_, fd, F, He.meth_ok (c.fact 6 (f := .meth "File" "flush") rfl)⟩⟩
  d_File_content := let ⟨fd, F⟩ := c.def_ 5 (d := dd_File_content) rfl; ⟨He.cls_ok (c.fact 3 (f := .cls "File") rfl), ⟨_, fd, F, He.meth_ok (c.fact 7 (f := .meth "File" "content") rfl)⟩⟩
  d_File_pending := let ⟨fd, F⟩ := c.def_ 6 (d := dd_File_pending) rfl; ⟨He.cls_ok (c.fact 3 (f := .cls "File") rfl), ⟨_, fd, F, He.meth_ok (c.fact 8 (f := .meth "File" "pending") rfl)⟩⟩
  d_File_lose := let ⟨fd, F⟩ := c.def_ 7 (d := dd_File_lose) rfl; ⟨He.cls_ok (c.fact 3 (f := .cls "File") rfl), ⟨_, fd, F, He.meth_ok (c.fact 9 (f := .meth "File" "lose") rfl)⟩⟩
  d__law_mix := let ⟨fd, F⟩ := c.def_ 8 (d := dd__law_mix) rfl; ⟨⟨_, fd, F, He.glo_ok X G (c.fact 10 (f := .glo "_law_mix") rfl)⟩⟩
  d__law_draws := let ⟨fd, F⟩ := c.def_ 9 (d := dd__law_draws) rfl; ⟨⟨_, fd, F, He.glo_ok X G (c.fact 11 (f := .glo "_law_draws") rfl)⟩⟩
  d__law_at := let ⟨fd, F⟩ := c.def_ 10 (d := dd__law_at) rfl; ⟨⟨_, fd, F, He.glo_ok X G (c.fact 12 (f := .glo "_law_at") rfl)⟩⟩
  d__law_is_integer := let ⟨fd, F⟩ := c.def_ 11 (d := dd__law_is_integer) rfl; ⟨⟨_, fd, F, He.glo_ok X G (c.fact 13 (f := .glo "_law_is_integer") rfl)⟩⟩
  d__law_same := let ⟨fd, F⟩ := c.def_ 12 (d := dd__law_same) rfl; ⟨⟨_, fd, F, He.glo_ok X G (c.fact 14 (f := .glo "_law_same") rfl)⟩⟩
  d__law_next := let ⟨fd, F⟩ := c.def_ 13 (d := dd__law_next) rfl; ⟨⟨_, fd, F, He.glo_ok X G (c.fact 15 (f := .glo "_law_next") rfl)⟩⟩
  d__law_after := let ⟨fd, F⟩ := c.def_ 14 (d := dd__law_after) rfl; ⟨⟨_, fd, F, He.glo_ok X G (c.fact 16 (f := .glo "_law_after") rfl)⟩⟩
  d__law_deed := let ⟨fd, F⟩ := c.def_ 15 (d := dd__law_deed) rfl; ⟨⟨_, fd, F, He.glo_ok X G (c.fact 17 (f := .glo "_law_deed") rfl)⟩⟩
  d_law := let ⟨fd, F⟩ := c.def_ 16 (d := dd_law) rfl; ⟨⟨_, fd, F, He.glo_ok X G (c.fact 18 (f := .glo "law") rfl)⟩⟩
def loose : List PySem.Str := (["_applied", "File", "_law_mix", "_law_draws", "_law_at", "_law_is_integer", "_law_same", "_law_next", "_law_after", "_law_deed"] : List PySem.Str)
abbrev R : PySem.W.OpenRow := PySem.W.OpenLaw.row PySem.Challenge.rw_signalwhole_k10_files_keep_a_beginning
abbrev hk : PySem.W.Hook := He.hookD 4 fa fn
def ob (s : PySem.W.SharedT) : He.AlD := He.obsDG 4 fa fn (HandSHeadRun.getT s)
theorem ob_eq (s : PySem.W.SharedT) : ob s = hk.obs s.abs := He.obsDG_eq (HandSHeadRun.getT_eq s)
set_option maxHeartbeats 0 in
theorem run (w : World) : HandSHeadRun.RunEq R (PySem.W.view R.prog [12]) hk ob 4000 loose w := by
  intro os
  kernel_rfl
end Mk10
open PySem PySem.W PySem.Calls PyProof.Rows
set_option maxRecDepth 100000 in
set_option maxHeartbeats 0 in
theorem PySem.Challenge.cw_signalwhole_k10_files_keep_a_beginning_holds : PySem.Challenge.rw_signalwhole_k10_files_keep_a_beginning.Holds := by
  w_on; o_law
  refine HandSHeadRun.head_any (r := OpenLaw.row PySem.Challenge.rw_signalwhole_k10_files_keep_a_beginning) (q := view (OpenLaw.row PySem.Challenge.rw_signalwhole_k10_files_keep_a_beginning).prog [12]) (H := Mk10.hk) (ob := Mk10.ob) (M := 4000) (loose := Mk10.loose) (d := HandSHeadRun.topDef (OpenLaw.row PySem.Challenge.rw_signalwhole_k10_files_keep_a_beginning).prog 12) (kwd := []) Mk10.ob_eq
    (by kernel_rfl) (fun s => by kernel_rfl) Mk10.run (by kernel_rfl) (by kernel_rfl) (by kernel_rfl) (by rfl) (by first | assumption | decide +kernel) (by decide +kernel) ⟨rfl, rfl, rfl, rfl, rfl, by decide +kernel⟩ ?hw ?hc
  case hw => w_witness2
  case hc =>
    refine L2.walk_ofE (l := PySem.Challenge.rw_signalwhole_k10_files_keep_a_beginning) (n := 63) (k := 6) (x := "script") (CX := L2.CX0) rfl (by decide) (by kernel_rfl) ⟨rfl, by decide, by decide⟩ ?F (fun _ _ _ _ z => z)
    intro w mg fa h Y G hmg0
    obtain ⟨K, KX, c⟩ := Y
    have hmg : mg ("law" : PySem.Str) = some (.ref fa) := by
      have e : (HandSHeadRun.topDef (OpenLaw.row PySem.Challenge.rw_signalwhole_k10_files_keep_a_beginning).prog 12).name = ("law" : PySem.Str) := by kernel_rfl
      rw [← e]
      exact hmg0
    have T := Mk10.tops KX G c
    have D := Mk10.defs KX G c
    obtain ⟨fd, hb, hF⟩ := Mk10.law_fn (P := (PySem.Challenge.rw_signalwhole_k10_files_keep_a_beginning).prog) (w := w) T D hmg
    exact ⟨K, fd, Mk10.spLaw K, KX, hb, fun H a ns hl _ hS => ⟨a, ns, rfl, hS, hl, fun _ => rfl⟩, hF⟩
