import PyProof.Rows.All
import Wide.All
import OpenK.AllK
import Wide.FinOn
import KE.KStateDown
import HandS.ForMost
import HandS.Exc
import HandS.TryOnly
import HandS.ExcOwn
import HandS.WordsExc
import HandS.Defaults
import HandS.IsInst
import HandS.Flow
import HandS.Style
import HandS.TupAny
import HandS.Walk
import HandS.Codes
import HandS.Head0
import HandS.Head1
import HandS.Head2
import HandS.HeadEnd
import HandS.HeadHook1
import HandS.HeadHook2
import PySem.Challenge.RW_signalwhole_k09_chunks_of_a_text
set_option Elab.async false
set_option linter.all false
set_option maxRecDepth 100000
set_option maxHeartbeats 4000000

/-! ### my own words over the hand layer -/
namespace My
open PySem PySem.Spec PyProof.Rows L2

/-- a def of the top, by its name -/
structure DefAt (K : PySem.W.Frag) (mg : Str → Option Value) (x : Str) (st : Stmt) : Prop where
  ex : ∃ (f : Addr) (fd : FuncData), FunD K x x (defArgs st) (defBody st) (defScope st) [] [] f fd ∧ mg x = some (.ref f)
/-- a method of a class, by its name -/
structure MetAt (K : PySem.W.Frag) (C : Addr) (m q : Str) (st : Stmt) : Prop where
  cl : Cls K C
  ex : ∃ (f : Addr) (fd : FuncData), FunD K m q (defArgs st) (defBody st) (defScope st) [] [] f fd ∧ Meth K C m f
/-- the maker of a class -/
structure MkAt (K : PySem.W.Frag) (mg : Str → Option Value) (C : Addr) (x q : Str) (st : Stmt) : Prop where
  ex : ∃ (f : Addr) (fd : FuncData), FunD K "__init__" q (defArgs st) (defBody st) (defScope st) [] [] f fd ∧ Mk K C f ∧ mg x = some (.ref C)

/-- what a def promises, by its name -/
structure Kal (P : Program) (w : World) (K : PySem.W.Frag) (mg : Str → Option Value) (base : Heap) (CX : CXT) (k : Nat) (x : Str) (ps : List Str) (sp : Sp) : Prop where
  ex : ∃ (f : Addr) (fd : FuncData), FnOk P w K mg base CX k f fd ps sp ∧ mg x = some (.ref f) ∧ PySem.W.keepIn K (.ref f) = true ∧ Binds K fd ps []
structure KMet (P : Program) (w : World) (K : PySem.W.Frag) (mg : Str → Option Value) (base : Heap) (CX : CXT) (k : Nat) (C : Addr) (m : Str) (ps : List Str) (sp : Sp) : Prop where
  ex : ∃ (f : Addr) (fd : FuncData), FnOk P w K mg base CX k f fd ps sp ∧ Cls K C ∧ Meth K C m f ∧ Binds K fd ps []
structure KMak (P : Program) (w : World) (K : PySem.W.Frag) (mg : Str → Option Value) (base : Heap) (CX : CXT) (k : Nat) (x : Str) (C : Addr) (ps : List Str) (sp : Sp) : Prop where
  ex : ∃ (f : Addr) (fd : FuncData), FnOk P w K mg base CX k f fd ps sp ∧ mg x = some (.ref C) ∧ Mk K C f ∧ Binds K fd ps []

section
variable {X : Cx} {CX : CXT} {k j : Nat} {x m : Str} {p pos apos : Pos} {e o : Expr} {es : List Expr} {t : TA} {ta : TE} {ps : List Str} {sp : Sp} {C : Addr} {W : WX}
theorem pe_kal (c : Kal X.prog X.w X.K X.mg X.base CX0 k x ps sp) (hr : Room j X.A) (hk : k ≤ j) (ha : PA X (e :: es) t) (hg : Gl X x := by rfl) (hdb : (x == ("__debug__" : Str)) = false := by decide)
    (he : starEach (e :: es) X.env = (false, eval e X.env) :: starEach es X.env := by rfl) (hpl : (backTo pos (starEach es X.env)).any (·.1) = false := by rfl) : PE X (.Call (.Name x p) (e :: es) [] pos) (tCall sp [] E0 t) := by
  obtain ⟨f, fd, F, hm, kp, hb⟩ := c.ex
  exact pe_call F (hr.mono hk) hg hm kp hb .nil pass0 ha hdb he hpl
theorem pe_kal0 (c : Kal X.prog X.w X.K X.mg X.base CX0 k x ps sp) (hr : Room j X.A) (hk : k ≤ j) (hg : Gl X x := by rfl) (hdb : (x == ("__debug__" : Str)) = false := by decide) : PE X (.Call (.Name x p) [] [] pos) (tCall sp [] E0 tNil) := by
  obtain ⟨f, fd, F, hm, kp, hb⟩ := c.ex
  exact pe_call0 F (hr.mono hk) hg hm kp hb .nil pass0 hdb
/-- a def that may raise, called where the raised is wished for by W -/
theorem pe_kalX (c : Kal X.prog X.w X.K X.mg X.base (L2.CX X.prog X.w) k x ps sp) (hr : Room j X.A) (hk : k ≤ j) (tk : Takes X W) (ha : PA X (e :: es) t) (hg : Gl X x := by rfl) (hdb : (x == ("__debug__" : Str)) = false := by decide)
    (he : starEach (e :: es) X.env = (false, eval e X.env) :: starEach es X.env := by rfl) (hpl : (backTo pos (starEach es X.env)).any (·.1) = false := by rfl) : PE X (.Call (.Name x p) (e :: es) [] pos) (tCallS sp (WE W) t) := by
  obtain ⟨f, fd, F, hm, kp, hb⟩ := c.ex
  exact pe_callS F (hr.mono hk) hg hm kp hb (fun σ => passAt tk σ) ha hdb he hpl
theorem pe_kmet {pl : Sem Bool} (c : KMet X.prog X.w X.K X.mg X.base CX0 k C m ps sp) (hr : Room j X.A) (hk : k ≤ j) (ho : PE X o ta) (ha : PA X (e :: es) t)
    (hst : starEach (e :: es) X.env = (false, eval e X.env) :: starEach es X.env := by rfl) (hpl : (backTo pos (starEach es X.env)).any (·.1) = false := by rfl)
    (ht : eval (.Call (.Attribute o m apos) (e :: es) [] pos) X.env = (do
      let ov ← eval o X.env
      standAt apos.atName
      let (f, first) ← holding [ov] (getMethod ov m pl)
      callWith pos f first (backTo pos (starEach (e :: es) X.env)) (backToKw pos (keywordEach [] X.env))) := by rfl) :
    PE X (.Call (.Attribute o m apos) (e :: es) [] pos) (tMeth C m sp [] E0 ta t) := by
  obtain ⟨f, fd, F, c, hm, hb⟩ := c.ex
  exact pe_meth ho c hm F (hr.mono hk) hb .nil pass0 ha hst hpl ht
theorem pe_kmet0 {pl : Sem Bool} (c : KMet X.prog X.w X.K X.mg X.base CX0 k C m ps sp) (hr : Room j X.A) (hk : k ≤ j) (ho : PE X o ta)
    (ht : eval (.Call (.Attribute o m apos) [] [] pos) X.env = (do
      let ov ← eval o X.env
      standAt apos.atName
      let (f, first) ← holding [ov] (getMethod ov m pl)
      callWith pos f first (backTo pos (starEach [] X.env)) (backToKw pos (keywordEach [] X.env))) := by rfl) :
    PE X (.Call (.Attribute o m apos) [] [] pos) (tMeth C m sp [] E0 ta tNil) := by
  obtain ⟨f, fd, F, c, hm, hb⟩ := c.ex
  exact pe_meth0 ho c hm F (hr.mono hk) hb .nil pass0 ht
/-- o.m(e, ..) of a method that may raise -/
def tMethX (C : Addr) (m : Str) (sp : Sp) (E : L2.St → XK) (ta : TE) (t : TA) : TE := fun σ H Q => ta σ H fun x H1 => ∃ a dx fs, x = .ref a ∧ H1 a = some (.ins C dx fs) ∧ fs.lookup m = none ∧ t σ H1 fun vs H2 => sp (x :: vs) H2 Q (E σ)
theorem pe_kmetX {pl : Sem Bool} (c : KMet X.prog X.w X.K X.mg X.base (L2.CX X.prog X.w) k C m ps sp) (hr : Room j X.A) (hk : k ≤ j) (tk : Takes X W) (ho : PE X o ta) (ha : PA X (e :: es) t)
    (hst : starEach (e :: es) X.env = (false, eval e X.env) :: starEach es X.env := by rfl) (hpl : (backTo pos (starEach es X.env)).any (·.1) = false := by rfl)
    (ht : eval (.Call (.Attribute o m apos) (e :: es) [] pos) X.env = (do
      let ov ← eval o X.env
      standAt apos.atName
      let (f, first) ← holding [ov] (getMethod ov m pl)
      callWith pos f first (backTo pos (starEach (e :: es) X.env)) (backToKw pos (keywordEach [] X.env))) := by rfl) :
    PE X (.Call (.Attribute o m apos) (e :: es) [] pos) (tMethX C m sp (WE W) ta t) := by
  obtain ⟨f, fd, F, c, hm, hb⟩ := c.ex
  refine ⟨fun pins s σ H Q I h => ?_⟩
  refine PySem.W.methodCall_KW (pl := pl) (thn (ho.run pins s σ H _ I h) fun u s1 ⟨x, H1, I1, rx, a, dx, fs, ex, ea, l, q⟩ => ?_) ht
  subst ex
  obtain rfl : u = Value.ref a := rx
  refine getmeth_ok I1 ea c hm l ?_
  refine PySem.W.callWith_K (first := [.ref a]) (h₀ := X.base) I.ok.mod.kin hm.kp (thn (ha.run pos pins s1 σ H1 _ I1 q) fun us s2 ⟨vs, H2, I2, r, q2⟩ => ⟨I2.kIn, ?_⟩) hst hpl
  exact run_fnS (us := .ref a :: us) (vs := .ref a :: vs) F (hr.mono hk) hb (passAt tk σ) I2 (.cons rfl r) q2
theorem pe_kmetX0 {pl : Sem Bool} (c : KMet X.prog X.w X.K X.mg X.base (L2.CX X.prog X.w) k C m ps sp) (hr : Room j X.A) (hk : k ≤ j) (tk : Takes X W) (ho : PE X o ta)
    (ht : eval (.Call (.Attribute o m apos) [] [] pos) X.env = (do
      let ov ← eval o X.env
      standAt apos.atName
      let (f, first) ← holding [ov] (getMethod ov m pl)
      callWith pos f first (backTo pos (starEach [] X.env)) (backToKw pos (keywordEach [] X.env))) := by rfl) :
    PE X (.Call (.Attribute o m apos) [] [] pos) (tMethX C m sp (WE W) ta tNil) := by
  obtain ⟨f, fd, F, c, hm, hb⟩ := c.ex
  refine ⟨fun pins s σ H Q I h => ?_⟩
  refine PySem.W.methodCall_KW (pl := pl) (thn (ho.run pins s σ H _ I h) fun u s1 ⟨x, H1, I1, rx, a, dx, fs, ex, ea, l, q⟩ => ?_) ht
  subst ex
  obtain rfl : u = Value.ref a := rx
  refine getmeth_ok I1 ea c hm l ?_
  refine PySem.W.callWith_K0 (first := [.ref a]) I1.kIn hm.kp ?_
  exact run_fnS (us := [.ref a]) (vs := [.ref a]) F (hr.mono hk) hb (passAt tk σ) I1 (.cons rfl .nil) q
theorem pe_kmk (c : KMak X.prog X.w X.K X.mg X.base CX0 k x C ps sp) (hr : Room j X.A) (hk : k + 1 ≤ j) (ha : PA X (e :: es) t) (hg : Gl X x := by rfl) (hdb : (x == ("__debug__" : Str)) = false := by decide)
    (he : starEach (e :: es) X.env = (false, eval e X.env) :: starEach es X.env := by rfl) (hpl : (backTo pos (starEach es X.env)).any (·.1) = false := by rfl) : PE X (.Call (.Name x p) (e :: es) [] pos) (tMake C sp [] E0 t) := by
  obtain ⟨f, fd, F, hm, M, hb⟩ := c.ex
  exact pe_make M F (hr.mono hk) hg hm hb .nil pass0 ha hdb he hpl
theorem pe_kmk0 (c : KMak X.prog X.w X.K X.mg X.base CX0 k x C ps sp) (hr : Room j X.A) (hk : k + 1 ≤ j) (hg : Gl X x := by rfl) (hdb : (x == ("__debug__" : Str)) = false := by decide) : PE X (.Call (.Name x p) [] [] pos) (tMake C sp [] E0 tNil) := by
  obtain ⟨f, fd, F, hm, M, hb⟩ := c.ex
  exact pe_make0 M F (hr.mono hk) hg hm hb .nil pass0 hdb
/-- o[i] of a list, for o[i] op= e: the place is told from the front or from the back -/
theorem get_list : PGet X (rIxL X.K) := by
  rintro pins s σ H _ _ ov iv Q I ro ri ⟨p, xs, i, z, rfl, rfl, sq, hat, q⟩
  cases ro
  obtain ⟨t, rfl⟩ := ri
  obtain ⟨us, rel, plain, _⟩ := I.list sq
  obtain ⟨j, seq, get, lt, low, high⟩ := atI_get hat
  obtain ⟨u, hu, ru⟩ := rel.get get
  have same_len := rel.length
  have big := line63
  have done : EP X pins σ Q u s := ⟨z, H, I, ru, q⟩
  rcases Int.lt_or_le i 0 with neg | pos
  · rw [seqIndex_neg neg low] at seq
    have at_ : (i + (us.toArray.size : Int)).toNat = j := by
      rw [List.size_toArray, ← same_len]; exact Option.some.inj seq
    exact wpAny_getItem_list_neg plain.isList neg (by simp only [List.size_toArray]; omega) (by omega) (by rw [at_]; simpa using hu) done
  · rw [seqIndex_of pos high] at seq
    have at_ : i.toNat = j := Option.some.inj seq
    exact wpAny_getItem_list plain.isList pos (by omega) (by rw [at_]; simpa using hu) done
end

/-! ### a def's promise by its body -/
section
variable {P : Program} {w : World} {K : PySem.W.Frag} {mg : Str → Option Value} {base : Heap} {k : Nat} {x m q : Str} {st : Stmt} {N ps : List Str} {sp : Sp} {C : Addr}
/-- how the arguments bind -/
abbrev BindsBy (x q : Str) (st : Stmt) (ps : List Str) : Prop := ∀ (kV doc pm : Value) (an : Option Addr) (cdv ct : Value) (us : List Value), us.length = ps.length → bindArgs (PySem.W.fnOf x q (defArgs st) (defBody st) (defScope st) .none kV doc pm an cdv ct) ⟨us, []⟩ = pure (ps.zip us)
/-- the body keeps the promise; nothing is raised -/
abbrev Body0 (P : Program) (w : World) (K : PySem.W.Frag) (mg : Str → Option Value) (base : Heap) (k : Nat) (q : Str) (st : Stmt) (N : List Str) (sp : Sp) : Prop :=
  ∀ (f : Addr) (cdv : Value) (A : Around) (outer : List Env) (s : Shared) (H : Hp) (vs : List V) (Q : VK) (E : XK), Room k (A.deeper (envOfC q (defScope st) s.heap.objs.size f cdv)) → sp vs H Q E →
      ∃ t, PSs (cxOf CX0 P w K mg base N q (defScope st) f cdv A outer s H E).nox (defBody st) t ∧ t { nx := fun _ H' => Q .non H', rt := Q } (start N vs) H
/-- .. what is raised is wished for -/
abbrev BodyX (P : Program) (w : World) (K : PySem.W.Frag) (mg : Str → Option Value) (base : Heap) (k : Nat) (q : Str) (st : Stmt) (N : List Str) (sp : Sp) : Prop :=
  ∀ (f : Addr) (cdv : Value) (A : Around) (outer : List Env) (s : Shared) (H : Hp) (vs : List V) (Q : VK) (E : XK), Room k (A.deeper (envOfC q (defScope st) s.heap.objs.size f cdv)) → sp vs H Q E →
      ∃ t, PSs (cxOf (L2.CX P w) P w K mg base N q (defScope st) f cdv A outer s H E) (defBody st) t ∧ t { nx := fun _ H' => Q .non H', rt := Q } (start N vs) H
theorem kal_mk (D : DefAt K mg x st) (S : FnScope N ps (defScope st)) (hb : BindsBy x x st ps) (len : ∀ vs H Q E, sp vs H Q E → vs.length = ps.length) (body : Body0 P w K mg base k x st N sp) : Kal P w K mg base CX0 (k + 1) x ps sp := by
  obtain ⟨f, fd, F, hm⟩ := D.ex
  exact ⟨f, fd, F.ok S len fun cdv A outer s H vs Q E hr h => let ⟨t, h1, h2⟩ := body f cdv A outer s H vs Q E hr h; ⟨t, h1.nox, h2⟩, hm, F.kp, F.bindsN hb⟩
theorem kal_mkX (D : DefAt K mg x st) (S : FnScope N ps (defScope st)) (hb : BindsBy x x st ps) (len : ∀ vs H Q E, sp vs H Q E → vs.length = ps.length) (body : BodyX P w K mg base k x st N sp) : Kal P w K mg base (L2.CX P w) (k + 1) x ps sp := by
  obtain ⟨f, fd, F, hm⟩ := D.ex
  exact ⟨f, fd, F.ok S len fun cdv A outer s H vs Q E hr h => body f cdv A outer s H vs Q E hr h, hm, F.kp, F.bindsN hb⟩
theorem kmet_mk (D : MetAt K C m q st) (S : FnScope N ps (defScope st)) (hb : BindsBy m q st ps) (len : ∀ vs H Q E, sp vs H Q E → vs.length = ps.length) (body : Body0 P w K mg base k q st N sp) : KMet P w K mg base CX0 (k + 1) C m ps sp := by
  obtain ⟨f, fd, F, hm⟩ := D.ex
  exact ⟨f, fd, F.ok S len fun cdv A outer s H vs Q E hr h => let ⟨t, h1, h2⟩ := body f cdv A outer s H vs Q E hr h; ⟨t, h1.nox, h2⟩, D.cl, hm, F.bindsN hb⟩
theorem kmet_mkX (D : MetAt K C m q st) (S : FnScope N ps (defScope st)) (hb : BindsBy m q st ps) (len : ∀ vs H Q E, sp vs H Q E → vs.length = ps.length) (body : BodyX P w K mg base k q st N sp) : KMet P w K mg base (L2.CX P w) (k + 1) C m ps sp := by
  obtain ⟨f, fd, F, hm⟩ := D.ex
  exact ⟨f, fd, F.ok S len fun cdv A outer s H vs Q E hr h => body f cdv A outer s H vs Q E hr h, D.cl, hm, F.bindsN hb⟩
theorem kmak_mk (D : MkAt K mg C x q st) (S : FnScope N ps (defScope st)) (hb : BindsBy "__init__" q st ps) (len : ∀ vs H Q E, sp vs H Q E → vs.length = ps.length) (body : Body0 P w K mg base k q st N sp) : KMak P w K mg base CX0 (k + 1) x C ps sp := by
  obtain ⟨f, fd, F, M, hm⟩ := D.ex
  exact ⟨f, fd, F.ok S len fun cdv A outer s H vs Q E hr h => let ⟨t, h1, h2⟩ := body f cdv A outer s H vs Q E hr h; ⟨t, h1.nox, h2⟩, hm, M, F.bindsN hb⟩
end

/-- a module's int -/
theorem pe_gint {X : Cx} {x : Str} {pos : Pos} {i : Int} (hg : Gl X x) (hm : ∃ t, X.mg x = some (.int i t)) (hd : (x == ("__debug__" : Str)) = false := by decide) : PE X (.Name x pos) (tC (.int i)) := by
  obtain ⟨t, e⟩ := hm
  exact pe_glob hg e ⟨t, rfl⟩ hd

/-! ### heaps -/
/-- all that was tracked but what P names is as it was -/
def Keep (P : Addr → Prop) (H H' : Hp) : Prop := ∀ b o, H b = some o → ¬ P b → H' b = some o
theorem Keep.refl {P : Addr → Prop} (H : Hp) : Keep P H H := fun _ _ h _ => h
theorem Keep.trans {P : Addr → Prop} {H H1 H2 : Hp} (a : Keep P H H1) (b : Keep P H1 H2) : Keep P H H2 := fun c o h n => b c o (a c o h n) n
theorem Keep.mono {P P' : Addr → Prop} {H H' : Hp} (a : Keep P H H') (h : ∀ b, P b → P' b ∨ H b = none) : Keep P' H H' := fun b o e n => a b o e fun p => (h b p).elim n fun z => by rw [z] at e; cases e
theorem Keep.of {P : Addr → Prop} {H H' : Hp} (a : Same H H') : Keep P H H' := fun b o e _ => a b o e
theorem Keep.new {P : Addr → Prop} {H : Hp} {p : Addr} {o : HO} (h : H p = none) : Keep P H (upd H p o) := fun b u e _ => by rw [upd_ne (ne_of_none e h)]; exact e
theorem Keep.put {P : Addr → Prop} {H : Hp} {p : Addr} {o : HO} (h : P p) : Keep P H (upd H p o) := fun b u e n => by
  rw [upd_ne fun z => n (by rw [z]; exact h)]
  exact e
theorem same_new {H : Hp} {p : Addr} {o : HO} (h : H p = none) : Same H (upd H p o) := fun b u e => by rw [upd_ne (ne_of_none e h)]; exact e
theorem same_of {H H' : Hp} {p : Addr} {o : HO} (e : upd H p o = H') (h : H p = none) : Same H H' := by rw [← e]; exact same_new h
theorem upd_at {H H' : Hp} {p : Addr} {o : HO} (e : upd H p o = H') : H' p = some o := by rw [← e]; exact upd_same
theorem keep_of {P : Addr → Prop} {H H' : Hp} {p : Addr} {o : HO} (e : upd H p o = H') (h : P p) : Keep P H H' := by rw [← e]; exact Keep.put h
theorem Keep.seq {K : PySem.W.Frag} {P : Addr → Prop} {H H' : Hp} {a : Addr} {xs : List V} (e : Keep P H H') (n : ¬ P a) (h : SqL K H a xs) : SqL K H' a xs := by
  rcases h with (h | ⟨o, h⟩) | h
  · exact .inl (.inl (e _ _ h n))
  · exact .inl (.inr ⟨o, e _ _ h n⟩)
  · exact .inr h
theorem Keep.seqT {K : PySem.W.Frag} {P : Addr → Prop} {H H' : Hp} {a : Addr} {xs : List V} (e : Keep P H H') (n : ¬ P a) (h : SqT K H a xs) : SqT K H' a xs := by
  rcases h with (h | ⟨o, h⟩) | h
  · exact .inl (.inl (e _ _ h n))
  · exact .inl (.inr ⟨o, e _ _ h n⟩)
  · exact .inr h
theorem Same.seqT {K : PySem.W.Frag} {H H' : Hp} {a : Addr} {xs : List V} (e : Same H H') (h : SqT K H a xs) : SqT K H' a xs := by
  rcases h with (h | ⟨o, h⟩) | h
  · exact .inl (.inl (e _ _ h))
  · exact .inl (.inr ⟨o, e _ _ h⟩)
  · exact .inr h
mutual
theorem Dp.same {K : PySem.W.Frag} {H H' : Hp} (e : Same H H') : ∀ {d : PyData} {v : V}, Dp K H v d → Dp K H' v d
  | _, _, .non => .non
  | _, _, .bl b => .bl b
  | _, _, .int i => .int i
  | _, _, .str x => .str x
  | _, _, .lst s a => .lst (e.seq s) (DpAll.same e a)
  | _, _, .tup s a => .tup (Same.seqT e s) (DpAll.same e a)
theorem DpAll.same {K : PySem.W.Frag} {H H' : Hp} (e : Same H H') : ∀ {ds : List PyData} {vs : List V}, DpAll K H vs ds → DpAll K H' vs ds
  | _, _, .nil => .nil
  | _, _, .cons a b => .cons (Dp.same e a) (DpAll.same e b)
end
theorem ty_list {K : PySem.W.Frag} {H : Hp} {a : Addr} {xs : List V} (h : SqL K H a xs) : TyX K H (.ref a) (.type "list") := by
  rcases h with (h | ⟨o, h⟩) | ⟨o, its, n, h, c, _⟩
  · exact .base (.lst h)
  · exact .base (.frz h)
  · exact .kList h c
theorem ty_tup {K : PySem.W.Frag} {H : Hp} {a : Addr} {xs : List V} (h : SqT K H a xs) : TyX K H (.ref a) (.type "tuple") := by
  rcases h with (h | ⟨o, h⟩) | ⟨o, its, n, h, c, _⟩
  · exact .base (.tup h)
  · exact .fTuple h
  · exact .kTuple h c
/-! ### texts by their signs -/
open SX in
theorem S_get {l : List Nat} {j c : Nat} (h : l[j]? = some c) : atI (S l).cps.toList ((j : Nat) : Int) = some c := atI_nat (by simpa [S] using h)
open SX in
theorem S_get' {l : List Nat} {j c : Nat} {z : Int} (e : z = (j : Nat)) (h : l[j]? = some c) : atI (S l).cps.toList z = some c := by
  rw [e]; exact S_get h
theorem line24 : sizeLine = 16777216 := by decide
theorem S_small {l : List Nat} (h : l.length ≤ 16777216) : (SX.S l).length ≤ sizeLine := by rw [SX.S_len, line24]; exact h
theorem cut_S (l : List Nat) (a b : Nat) (hb : b ≤ l.length) : cutS (SX.S l) (some (a : Int)) (some (b : Int)) = SX.S ((l.drop a).take (b - a)) := by
  unfold cutS
  rw [HT.sIx_nat, HT.sIx_nat, SX.S_len, Nat.min_eq_left hb]
  by_cases h : a ≤ l.length
  · rw [Nat.min_eq_left h]
  · rw [Nat.min_eq_right (by omega), List.drop_eq_nil_of_le (show l.length ≤ a by omega), List.drop_eq_nil_of_le (show l.length ≤ l.length by omega)]
    simp
theorem cutS_to (l : List Nat) (b : Nat) (hb : b ≤ l.length) : cutS (SX.S l) none (some (b : Int)) = SX.S (l.take b) := by
  unfold cutS
  rw [HT.sIx_nat, HT.sIx_none, SX.S_len, Nat.min_eq_left hb]
  simp
theorem cutV_from (xs : List V) (a : Nat) : cutV xs (some (a : Int)) none = xs.drop a := by
  unfold cutV
  rw [HT.sIx_nat, HT.sIx_none]
  by_cases h : a ≤ xs.length
  · rw [Nat.min_eq_left h, List.take_of_length_le (by rw [List.length_drop] <;> omega)]
  · rw [Nat.min_eq_right (by omega), List.drop_eq_nil_of_le (show xs.length ≤ xs.length by omega), List.drop_eq_nil_of_le (show xs.length ≤ a by omega)]
    simp
theorem cutV_to (xs : List V) (b : Nat) : cutV xs none (some (b : Int)) = xs.take b := by
  unfold cutV
  rw [HT.sIx_nat, HT.sIx_none]
  by_cases h : b ≤ xs.length
  · rw [Nat.min_eq_left h]; simp
  · rw [Nat.min_eq_right (by omega), List.take_of_length_le (show xs.length ≤ b by omega)]; simp
theorem cutV_mid (xs : List V) (a b : Nat) : cutV xs (some (a : Int)) (some (b : Int)) = (xs.drop a).take (b - a) := by
  unfold cutV
  rw [HT.sIx_nat, HT.sIx_nat]
  by_cases h : a ≤ xs.length
  · by_cases hb : b ≤ xs.length
    · rw [Nat.min_eq_left h, Nat.min_eq_left hb]
    · rw [Nat.min_eq_left h, Nat.min_eq_right (by omega), List.take_of_length_le (by rw [List.length_drop] <;> omega), List.take_of_length_le (by rw [List.length_drop] <;> omega)]
  · rw [Nat.min_eq_right (show xs.length ≤ a by omega), List.drop_eq_nil_of_le (show xs.length ≤ xs.length by omega), List.drop_eq_nil_of_le (show xs.length ≤ a by omega)]
    simp
theorem dec_t {p : Prop} [Decidable p] (h : decide p = true) : p := of_decide_eq_true h
theorem dec_f {p : Prop} [Decidable p] (h : ¬ decide p = true) : ¬ p := fun z => h (decide_eq_true z)
theorem vint {a b : Int} (h : decide (V.int a = V.int b) = true) : a = b := V.int.inj (of_decide_eq_true h)
theorem vintF {a b : Int} (h : ¬ decide (V.int a = V.int b) = true) : a ≠ b := fun z => h (decide_eq_true (by rw [z]))
theorem vstr1 {a : Nat} {l : List Nat} (h : decide (V.str ⟨#[a]⟩ = V.str (SX.S l)) = true) : [a] = l := SX.S_inj (V.str.inj (of_decide_eq_true h) : SX.S [a] = SX.S l)
theorem vstr1F {a : Nat} {l : List Nat} (h : ¬ decide (V.str ⟨#[a]⟩ = V.str (SX.S l)) = true) : [a] ≠ l := fun z => h (decide_eq_true (by rw [← z]))
theorem map_get {α β : Type} {xs : List α} {f : α → β} {i : Nat} {y : β} (h : (xs.map f)[i]? = some y) : ∃ z, xs[i]? = some z ∧ y = f z := by
  rw [List.getElem?_map] at h
  cases e : xs[i]? with
  | none => rw [e] at h; cases h
  | some z => rw [e] at h; exact ⟨z, rfl, (Option.some.inj h).symm⟩
theorem map_put {α β : Type} {xs : List α} {f : α → β} {i : Nat} {z : α} (h : xs[i]? = some z) : (xs.map f)[i]? = some (f z) := by rw [List.getElem?_map, h]; rfl
/-- what holds between two turns, shut for ⟨..⟩ -/
inductive Hold (p : Prop) : Prop where
  | mk (h : p)
  | no (h : False)
theorem Hold.out {p : Prop} : Hold p → p
  | .mk h => h
  | .no h => h.elim
/-! ### walks from 0 on -/
theorem for_range0 {n : Nat} {g : TG} {tb : TS} {D : Ends} {σ : L2.St} {H : Hp} (Pv : Nat → L2.St → Hp → Prop) (h0 : Pv 0 σ H)
    (hs : ∀ (i : Nat) σ H, i < n → Pv i σ H → g (.int (i : Nat)) σ H fun σ2 H2 => tb { D with nx := Pv (i + 1), ct := Pv (i + 1), bk := D.nx } σ2 H2) (hd : ∀ σ H, Pv n σ H → D.nx σ H) :
    ∃ W : Nat → Nat → L2.St → Hp → Prop, (∃ m, W 0 m σ H) ∧ ∀ i m σ H, W i m σ H →
      ((Itr 0 n).stop i H ∧ D.nx σ H) ∨ ((Itr 0 n).go i H ∧ ∃ N : L2.St → Hp → Prop, (∀ σ' H', N σ' H' → ∃ m', m' < m ∧ W (i + 1) m' σ' H') ∧ ∀ x H', (Itr 0 n).yld i H x H' → g x σ H' fun σ2 H2 => tb { D with nx := N, ct := N, bk := D.nx } σ2 H2) :=
  for_range (lo := 0) Pv h0 (fun i σ H hi p => by rw [Int.zero_add]; exact hs i σ H hi p) hd
theorem lc_range0 {n : Nat} {g : TG} {tt : TT} {te : TE} {vs : List Nat} {σ : L2.St} {H1 : Hp} {D : Addr} {Qd : Hp → Prop} (Pv : Nat → Hp → Prop) (h0 : Pv 0 (upd H1 D (.lst [])))
    (hs : ∀ (i : Nat) H, i < n → Pv i H → g (.int (i : Nat)) (wipe σ vs) H fun σ2 H2 => wipe σ2 vs = wipe σ vs ∧ tt σ2 H2 fun b H3 =>
      if b = true then te σ2 H3 fun y H4 => ∃ acc, H4 D = some (.lst acc) ∧ acc.length < sizeLine ∧ Pv (i + 1) (upd H4 D (.lst (acc ++ [y]))) else Pv (i + 1) H3) (hd : ∀ H, Pv n H → Qd H) :
    ∃ W : Nat → Nat → Hp → Prop, (∃ m, W 0 m (upd H1 D (.lst []))) ∧ ∀ i m H, W i m H →
      ((Itr 0 n).stop i H ∧ Qd H) ∨ ((Itr 0 n).go i H ∧ ∃ Nx : Hp → Prop, (∀ H', Nx H' → ∃ m', m' < m ∧ W (i + 1) m' H') ∧ ∀ x H', (Itr 0 n).yld i H x H' → g x (wipe σ vs) H' fun σ2 H2 => wipe σ2 vs = wipe σ vs ∧ tt σ2 H2 fun b H3 =>
        if b = true then te σ2 H3 fun y H4 => ∃ acc, H4 D = some (.lst acc) ∧ acc.length < sizeLine ∧ Nx (upd H4 D (.lst (acc ++ [y]))) else Nx H3) :=
  lc_range (lo := 0) Pv h0 (fun i H hi p => by rw [Int.zero_add]; exact hs i H hi p) hd
/-- len of a text, a list, a tuple; its size is bounded -/
theorem call_lenB {X : Cx} : CallR X (.builtin "len") (fun xs H Q => ∃ x n, xs = [x] ∧ LenV X.K x H n ∧ (n ≤ sizeLine → Q (.int n) H)) := by
  intro pins s σ H xs us Q I r h
  obtain ⟨x, n, rfl, e, q⟩ := h
  have hz : n ≤ sizeLine := by
    cases x with
    | str y => obtain ⟨h1, rfl⟩ := (show y.length ≤ sizeLine ∧ n = y.length from e); exact h1
    | byt y => obtain ⟨h1, rfl⟩ := (show y.size ≤ sizeLine ∧ n = y.size from e); exact h1
    | ref p =>
      rcases (show (∃ xs, SqL X.K H p xs ∧ n = xs.length) ∨ ∃ xs, SqT X.K H p xs ∧ n = xs.length from e) with ⟨xs, h1, rfl⟩ | ⟨xs, h1, rfl⟩
      · obtain ⟨_, _, _, h2⟩ := I.list h1; exact h2
      · obtain ⟨_, _, _, h2⟩ := I.tuple h1; exact h2
    | _ => exact False.elim e
  exact call_len pins s σ H _ us Q I r ⟨x, n, rfl, e, q hz⟩
/-! ### isinstance of data -/
theorem kb_NoneType_bool : kitB "NoneType" "bool" = some false := by decide +kernel
theorem kb_NoneType_int : kitB "NoneType" "int" = some false := by decide +kernel
theorem kb_NoneType_str : kitB "NoneType" "str" = some false := by decide +kernel
theorem kb_NoneType_tuple : kitB "NoneType" "tuple" = some false := by decide +kernel
theorem kb_NoneType_list : kitB "NoneType" "list" = some false := by decide +kernel
theorem kb_bool_bool : kitB "bool" "bool" = some true := by decide +kernel
theorem kb_bool_int : kitB "bool" "int" = some true := by decide +kernel
theorem kb_bool_str : kitB "bool" "str" = some false := by decide +kernel
theorem kb_bool_tuple : kitB "bool" "tuple" = some false := by decide +kernel
theorem kb_bool_list : kitB "bool" "list" = some false := by decide +kernel
theorem kb_int_bool : kitB "int" "bool" = some false := by decide +kernel
theorem kb_int_int : kitB "int" "int" = some true := by decide +kernel
theorem kb_int_str : kitB "int" "str" = some false := by decide +kernel
theorem kb_int_tuple : kitB "int" "tuple" = some false := by decide +kernel
theorem kb_int_list : kitB "int" "list" = some false := by decide +kernel
theorem kb_str_bool : kitB "str" "bool" = some false := by decide +kernel
theorem kb_str_int : kitB "str" "int" = some false := by decide +kernel
theorem kb_str_str : kitB "str" "str" = some true := by decide +kernel
theorem kb_str_tuple : kitB "str" "tuple" = some false := by decide +kernel
theorem kb_str_list : kitB "str" "list" = some false := by decide +kernel
theorem kb_list_bool : kitB "list" "bool" = some false := by decide +kernel
theorem kb_list_int : kitB "list" "int" = some false := by decide +kernel
theorem kb_list_str : kitB "list" "str" = some false := by decide +kernel
theorem kb_list_tuple : kitB "list" "tuple" = some false := by decide +kernel
theorem kb_list_list : kitB "list" "list" = some true := by decide +kernel
theorem kb_tuple_bool : kitB "tuple" "bool" = some false := by decide +kernel
theorem kb_tuple_int : kitB "tuple" "int" = some false := by decide +kernel
theorem kb_tuple_str : kitB "tuple" "str" = some false := by decide +kernel
theorem kb_tuple_tuple : kitB "tuple" "tuple" = some true := by decide +kernel
theorem kb_tuple_list : kitB "tuple" "list" = some false := by decide +kernel
/-! ### data: how deep; both of the same -/
mutual
def deep : PyData → Nat
  | .list ds => deepAll ds + 1
  | .tuple ds => deepAll ds + 1
  | _ => 0
def deepAll : List PyData → Nat
  | [] => 0
  | d :: ds => max (deep d) (deepAll ds)
end
theorem deepAll_get : ∀ {ds : List PyData} {i : Nat} {d : PyData}, ds[i]? = some d → deep d ≤ deepAll ds
  | [], _, _, h => by simp at h
  | e :: ds, 0, d, h => by
    simp at h; subst h
    unfold deepAll; exact Nat.le_max_left _ _
  | e :: ds, i + 1, d, h => by
    have := deepAll_get (ds := ds) (i := i) (d := d) (by simpa using h)
    unfold deepAll; exact Nat.le_trans this (Nat.le_max_right _ _)
theorem DpAll.get {K : PySem.W.Frag} {H : Hp} : ∀ {vs : List V} {ds : List PyData} {i : Nat} {d : PyData}, DpAll K H vs ds → ds[i]? = some d → ∃ v, vs[i]? = some v ∧ Dp K H v d
  | _, _, _, _, .nil, h => by simp at h
  | _, _, 0, d, .cons a _, h => by simp at h; subst h; exact ⟨_, rfl, a⟩
  | _, _, i + 1, d, .cons _ t, h => by
    obtain ⟨v, h1, h2⟩ := DpAll.get t (i := i) (d := d) (by simpa using h)
    exact ⟨v, by simpa using h1, h2⟩
theorem DpAll.len {K : PySem.W.Frag} {H : Hp} : ∀ {vs : List V} {ds : List PyData}, DpAll K H vs ds → vs.length = ds.length
  | _, _, .nil => rfl
  | _, _, .cons _ t => by simp [DpAll.len t]
theorem DpAll.by {K : PySem.W.Frag} {H : Hp} : ∀ {vs : List V} {ds : List PyData}, vs.length = ds.length → (∀ (i : Nat) (v : V) (d : PyData), vs[i]? = some v → ds[i]? = some d → Dp K H v d) → DpAll K H vs ds
  | [], [], _, _ => .nil
  | [], _ :: _, h, _ => by simp at h
  | _ :: _, [], h, _ => by simp at h
  | v :: vs, d :: ds, h, f => .cons (f 0 v d rfl rfl) (DpAll.by (by simpa using h) fun i v d a b => f (i + 1) v d (by simpa using a) (by simpa using b))
/-- a promise that is never asked -/
theorem kal_none {P : Program} {w : World} {K : PySem.W.Frag} {mg : Str → Option Value} {base : Heap} {x : Str} {st : Stmt} {ps : List Str} (D : DefAt K mg x st) (hb : BindsBy x x st ps) (k : Nat) : Kal P w K mg base CX0 k x ps (fun _ _ _ _ => False) := by
  obtain ⟨f, fd, F, hm⟩ := D.ex
  exact ⟨f, fd, ⟨fun _ _ _ _ h => h.elim, fun _ _ _ _ _ _ _ _ _ _ _ _ _ h => h.elim⟩, hm, F.kp, F.bindsN hb⟩
/-- two values of the same data -/
def spSame (K : PySem.W.Frag) (n : Nat) : Sp := fun vs H Q _ => ∃ (x y : V) (d : PyData), vs = [x, y] ∧ Dp K H x d ∧ Dp K H y d ∧ deep d ≤ n ∧ ∀ H', Same H H' → Q (.bl true) H'
end My
local macro_rules | `(tactic| walk_at "cond") => `(tactic| first
  | omega
  | decide
  | (dsimp only; omega)
  | (refine ⟨?_, ?_⟩ <;> first | omega | decide | (dsimp only; omega))
  | (refine ⟨?_, ?_, ?_⟩ <;> first | omega | decide | (dsimp only; omega))
  | (refine Or.inl ⟨?_, ?_⟩ <;> first | omega | decide | (dsimp only; omega))
  | (refine Or.inr ⟨?_, ?_⟩ <;> first | omega | decide | (dsimp only; omega)))
-- a list's item, the list told by a fact H p = some (.lst ..)
local macro_rules | `(tactic| walk_at "ixl") => `(tactic| ((first
  | refine' ⟨_, _, _, _, rfl, rfl, L2.SqL.of L2.upd_same, ?ati, ?rest⟩
  | refine' ⟨_, _, _, _, rfl, rfl, L2.SqL.of (by assumption), ?ati, ?rest⟩
  | refine' ⟨_, _, _, _, rfl, rfl, (by assumption), ?ati, ?rest⟩); (case ati => first | rfl | assumption | exact L2.atI_nat (by assumption))))
local macro_rules | `(tactic| walk_at "len") => `(tactic| first
  | refine ⟨_, _, rfl, Or.inl (L2.SqL.of L2.upd_same), ?_⟩
  | refine ⟨_, _, rfl, Or.inl (L2.SqL.of (by assumption)), ?_⟩
  | refine ⟨_, _, rfl, Or.inl (by assumption), ?_⟩)
-- a list's item stored
local macro_rules | `(tactic| walk_at "setl") => `(tactic| ((first
  | refine' ⟨_, _, _, _, rfl, rfl, L2.upd_same, ?ix, ?rest⟩
  | refine' ⟨_, _, _, _, rfl, rfl, (by assumption), ?ix, ?rest⟩); (case ix => first | rfl | assumption)))
local macro_rules | `(tactic| walk_at "op") => `(tactic| (refine' ⟨_, _, rfl, rfl, ?c, ?rest⟩; (case c => (show (_ : Prop); walk_at "cond"))))
-- a sign of a text
local macro_rules | `(tactic| walk_at "ixs") => `(tactic| (refine' ⟨_, _, _, rfl, rfl, ?sz, ?ati, ?rest⟩; (case sz => first | assumption | exact My.S_small (by omega)); (case ati => first | assumption | exact My.S_get (by assumption))))
local macro_rules | `(tactic| walk_at "go") => `(tactic| repeat first
  | refine ⟨_, rfl, ?_⟩
  | walk_at "ixl"
  | walk_at "ixs"
  | walk_at "setl"
  | walk_at "len"
  | refine ⟨_, _, rfl, Or.inl ⟨_, (by assumption), rfl⟩, fun _ => ?_⟩
  | refine ⟨_, _, rfl, Or.inr ⟨_, (by assumption), rfl⟩, fun _ => ?_⟩
  | walk_at "isi"
  | walk_at "op"
  | refine ⟨_, _, rfl, rfl, ?_⟩
  | refine ⟨Or.inl ⟨rfl, _, L2.SqL.of L2.upd_same⟩, ?_⟩
  | refine ⟨Or.inl ⟨rfl, _, L2.SqL.of (by assumption)⟩, ?_⟩
  | refine Or.inl ⟨_, rfl, ?_⟩
  | refine ⟨rfl, ?_⟩)
-- xs.append(e), behind its argument
local macro_rules | `(tactic| walk_at "app") => `(tactic| first
  | refine ⟨_, _, _, rfl, rfl, L2.upd_same, ?_, ?_⟩
  | refine ⟨_, _, _, rfl, rfl, (by assumption), ?_, ?_⟩)
-- isinstance(x, T)
local macro_rules | `(tactic| walk_at "kb") => `(tactic| first | exact My.kb_NoneType_bool | exact My.kb_NoneType_int | exact My.kb_NoneType_str | exact My.kb_NoneType_tuple | exact My.kb_NoneType_list | exact My.kb_bool_bool | exact My.kb_bool_int | exact My.kb_bool_str | exact My.kb_bool_tuple | exact My.kb_bool_list | exact My.kb_int_bool | exact My.kb_int_int | exact My.kb_int_str | exact My.kb_int_tuple | exact My.kb_int_list | exact My.kb_str_bool | exact My.kb_str_int | exact My.kb_str_str | exact My.kb_str_tuple | exact My.kb_str_list | exact My.kb_list_bool | exact My.kb_list_int | exact My.kb_list_str | exact My.kb_list_tuple | exact My.kb_list_list | exact My.kb_tuple_bool | exact My.kb_tuple_int | exact My.kb_tuple_str | exact My.kb_tuple_tuple | exact My.kb_tuple_list)
local macro_rules | `(tactic| walk_at "isi") => `(tactic| first
  | refine ⟨_, _, _, _, _, rfl, L2.ClsV.ty _, L2.TyX.base L2.TyOf.non, L2.kit_ty (by walk_at "kb"), ?_⟩
  | refine ⟨_, _, _, _, _, rfl, L2.ClsV.ty _, L2.TyX.base (L2.TyOf.bl _), L2.kit_ty (by walk_at "kb"), ?_⟩
  | refine ⟨_, _, _, _, _, rfl, L2.ClsV.ty _, L2.TyX.base (L2.TyOf.int _), L2.kit_ty (by walk_at "kb"), ?_⟩
  | refine ⟨_, _, _, _, _, rfl, L2.ClsV.ty _, L2.TyX.base (L2.TyOf.str _), L2.kit_ty (by walk_at "kb"), ?_⟩
  | refine ⟨_, _, _, _, _, rfl, L2.ClsV.ty _, My.ty_list (by assumption), L2.kit_ty (by walk_at "kb"), ?_⟩
  | refine ⟨_, _, _, _, _, rfl, L2.ClsV.ty _, My.ty_tup (by assumption), L2.kit_ty (by walk_at "kb"), ?_⟩)

namespace Mk09
/-- the places at which a line starts with a sign that is no blank -/
def starts (b : Bool) (i : Nat) : List Nat → List Nat
  | [] => []
  | c :: r => (if b = true ∧ c ≠ 32 ∧ c ≠ 10 then [i] else []) ++ starts (decide (c = 10)) (i + 1) r
/-- does a line start behind it -/
def fin (b : Bool) : List Nat → Bool
  | [] => b
  | c :: r => fin (decide (c = 10)) r
theorem starts_app : ∀ (l r : List Nat) (b : Bool) (i : Nat), starts b i (l ++ r) = starts b i l ++ starts (fin b l) (i + l.length) r
  | [], r, b, i => by simp [starts, fin]
  | c :: l, r, b, i => by
    have ih := starts_app l r (decide (c = 10)) (i + 1)
    simp only [List.cons_append, starts, fin, List.length_cons]
    rw [ih, List.append_assoc, show i + 1 + l.length = i + (l.length + 1) by omega]
theorem fin_app : ∀ (l r : List Nat) (b : Bool), fin b (l ++ r) = fin (fin b l) r
  | [], r, b => rfl
  | c :: l, r, b => fin_app l r _
theorem fin_take (l : List Nat) (i : Nat) (h : i < l.length) : fin true (l.take i) = decide (i = 0 ∨ l[i - 1]? = some 10) := by
  cases i with
  | zero => simp [fin]
  | succ i =>
    have hi : i < l.length := by omega
    rw [List.take_succ_eq_append_getElem hi, fin_app]
    simp only [fin, Nat.add_sub_cancel, List.getElem?_eq_getElem hi, Option.some.injEq]
    by_cases c : l[i] = 10 <;> simp [c]
theorem starts_step (l : List Nat) (i c : Nat) (h : l[i]? = some c) :
    starts true 0 (l.take (i + 1)) = starts true 0 (l.take i) ++ (if (i = 0 ∨ l[i - 1]? = some 10) ∧ c ≠ 32 ∧ c ≠ 10 then [i] else []) := by
  obtain ⟨hi, e⟩ := List.getElem?_eq_some_iff.mp h
  rw [List.take_succ_eq_append_getElem hi, starts_app, fin_take l i hi, e]
  simp only [starts, List.append_nil, List.length_take, Nat.zero_add, Nat.min_eq_left (Nat.le_of_lt hi), decide_eq_true_eq]
theorem starts_noNl : ∀ (l : List Nat) (i : Nat), (10 ∉ l) → starts false i l = [] ∧ fin false l = false
  | [], i, _ => ⟨rfl, rfl⟩
  | c :: l, i, h => by
    have hc : ¬ c = 10 := fun e => h (by simp [e])
    have ih := starts_noNl l (i + 1) (fun m => h (List.mem_cons_of_mem _ m))
    simp only [starts, fin, decide_eq_false hc]
    refine ⟨?_, ih.2⟩
    rw [ih.1]; simp
/-- lines that are empty or start with a space -/
def Bl (l : List Nat) : Prop := (∀ i, starts true i l = []) ∧ fin true l = true
theorem Bl.nil : Bl [] := ⟨fun _ => rfl, rfl⟩
theorem Bl.nl {l : List Nat} (h : Bl l) : Bl (l ++ [10]) := ⟨fun i => by rw [starts_app, h.1]; simp [starts], by rw [fin_app]; rfl⟩
theorem Bl.sp {l m : List Nat} (h : Bl l) (hm : 10 ∉ m) : Bl (l ++ [32] ++ m ++ [10]) := by
  have e : l ++ [32] ++ m ++ [10] = l ++ (32 :: (m ++ [10])) := by simp
  rw [e]
  refine ⟨fun i => ?_, ?_⟩
  · rw [starts_app, h.1, h.2]
    show [] ++ (if (true = true ∧ (32 : Nat) ≠ 32 ∧ (32 : Nat) ≠ 10) then [i + l.length] else []) ++ starts (decide ((32 : Nat) = 10)) (i + l.length + 1) (m ++ [10]) = []
    rw [if_neg (by simp)]
    show [] ++ [] ++ starts false (i + l.length + 1) (m ++ [10]) = []
    rw [starts_app, (starts_noNl m _ hm).1, (starts_noNl m 0 hm).2]
    simp [starts]
  · rw [fin_app]
    show fin (decide ((32 : Nat) = 10)) (m ++ [10]) = true
    rw [fin_app]; rfl
/-- a chunk -/
def Ch (l : List Nat) : Prop := ∀ i, starts true i l = [i]
theorem ch_full {c : Nat} {m b : List Nat} (hc : c ≠ 32 ∧ c ≠ 10) (hm : 10 ∉ m) (hb : Bl b) : Ch ([c] ++ m ++ [10] ++ b) ∧ fin true ([c] ++ m ++ [10] ++ b) = true := by
  have e : [c] ++ m ++ [10] ++ b = (c :: (m ++ [10])) ++ b := by simp
  have f1 : fin true (c :: (m ++ [10])) = true := by
    show fin (decide (c = 10)) (m ++ [10]) = true
    rw [fin_app]; rfl
  rw [e]
  refine ⟨fun i => ?_, ?_⟩
  · rw [starts_app, f1, hb.1]
    show (if (true = true ∧ c ≠ 32 ∧ c ≠ 10) then [i] else []) ++ starts (decide (c = 10)) (i + 1) (m ++ [10]) ++ [] = [i]
    rw [if_pos ⟨rfl, hc⟩, decide_eq_false hc.2, starts_app, (starts_noNl m _ hm).1, (starts_noNl m 0 hm).2]
    simp [starts]
  · rw [fin_app, f1]; exact hb.2
theorem ch_cut {l : List Nat} (h : Ch l) (h2 : 2 ≤ l.length) : Ch (l.take (l.length - 1)) := fun i => by
  have e := h i
  have el : l = l.take (l.length - 1) ++ l.drop (l.length - 1) := (List.take_append_drop _ _).symm
  cases l with
  | nil => simp at h2
  | cons c r =>
    have hl : (c :: r).length - 1 = r.length - 1 + 1 := by simp at h2 ⊢; omega
    rw [hl, List.take_succ_cons]
    rw [hl, List.take_succ_cons, List.drop_succ_cons] at el
    have e2 : starts true i (c :: r) = [i] := e
    -- the first sign is the only one at which a chunk starts
    have hr : c :: r = (c :: r.take (r.length - 1)) ++ r.drop (r.length - 1) := el
    rw [hr, starts_app] at e2
    have c1 : starts true i (c :: r.take (r.length - 1)) = (if (true = true ∧ c ≠ 32 ∧ c ≠ 10) then [i] else []) ++ starts (decide (c = 10)) (i + 1) (r.take (r.length - 1)) := rfl
    by_cases hc : c ≠ 32 ∧ c ≠ 10
    · rw [c1, if_pos ⟨rfl, hc⟩] at e2 ⊢
      simp only [List.cons_append, List.nil_append, List.append_assoc, List.cons.injEq, true_and, List.append_eq_nil_iff] at e2
      rw [e2.1]; rfl
    · exfalso
      have e3 := h i
      have c2 : starts true i (c :: r) = (if (true = true ∧ c ≠ 32 ∧ c ≠ 10) then [i] else []) ++ starts (decide (c = 10)) (i + 1) r := rfl
      rw [c2, if_neg (fun z => hc z.2), List.nil_append] at e3
      have ge : ∀ (l : List Nat) (b : Bool) (j x : Nat), x ∈ starts b j l → j ≤ x := by
        intro l
        induction l with
        | nil => intro b j x hx; simp [starts] at hx
        | cons c l ih =>
          intro b j x hx
          simp only [starts, List.mem_append] at hx
          rcases hx with hx | hx
          · split at hx
            · simp at hx; omega
            · simp at hx
          · have := ih _ _ _ hx; omega
      have := ge r (decide (c = 10)) (i + 1) i (by rw [e3]; simp)
      omega
/-- the chunks with their places -/
def place (i : Nat) : List (List Nat) → List (Nat × List Nat)
  | [] => []
  | c :: r => (i, c) :: place (i + c.length) r
theorem place_app : ∀ (cs : List (List Nat)) (c : List Nat) (i : Nat), place i (cs ++ [c]) = place i cs ++ [(i + cs.flatten.length, c)]
  | [], c, i => by simp [place]
  | d :: cs, c, i => by
    have ih := place_app cs c (i + d.length)
    simp only [List.cons_append, place, ih, List.flatten_cons, List.length_append]
    rw [show i + d.length + cs.flatten.length = i + (d.length + cs.flatten.length) by omega]
theorem place_len : ∀ (cs : List (List Nat)) (i : Nat), (place i cs).length = cs.length
  | [], _ => rfl
  | _ :: cs, i => by simp [place, place_len cs]
theorem place_snd : ∀ (cs : List (List Nat)) (i : Nat), (place i cs).map (·.2) = cs
  | [], _ => rfl
  | _ :: cs, i => by simp [place, place_snd cs]
def Good : List (List Nat) → Prop
  | [] => True
  | [c] => Ch c
  | c :: d :: r => Ch c ∧ fin true c = true ∧ Good (d :: r)
theorem good_app : ∀ (cs : List (List Nat)) (c : List Nat), (∀ d ∈ cs, Ch d ∧ fin true d = true) → Ch c → Good (cs ++ [c])
  | [], c, _, h => h
  | [d], c, h, hc => ⟨(h d (by simp)).1, (h d (by simp)).2, hc⟩
  | d :: e :: r, c, h, hc => ⟨(h d (by simp)).1, (h d (by simp)).2, good_app (e :: r) c (fun x hx => h x (List.mem_cons_of_mem _ hx)) hc⟩
theorem good_of : ∀ (cs : List (List Nat)), (∀ d ∈ cs, Ch d ∧ fin true d = true) → Good cs
  | [], _ => trivial
  | [d], h => (h d (by simp)).1
  | d :: e :: r, h => ⟨(h d (by simp)).1, (h d (by simp)).2, good_of (e :: r) fun x hx => h x (List.mem_cons_of_mem _ hx)⟩
theorem starts_flat : ∀ (cs : List (List Nat)) (i : Nat), Good cs → starts true i cs.flatten = (place i cs).map (·.1)
  | [], _, _ => rfl
  | [c], i, h => by simp [place]; exact h i
  | c :: d :: r, i, h => by
    have ih := starts_flat (d :: r) (i + c.length) h.2.2
    rw [List.flatten_cons, starts_app, h.1, h.2.1, ih]
    rfl
theorem starts_text {bf : List Nat} {cs : List (List Nat)} (hb : Bl bf) (hg : Good cs) : starts true 0 (bf ++ cs.flatten) = (place bf.length cs).map (·.1) := by
  rw [starts_app, hb.1, hb.2, Nat.zero_add, List.nil_append]
  exact starts_flat cs bf.length hg
/-- what the program makes of the places -/
def cut (tx : List Nat) (sts : List Nat) : List (Nat × List Nat) := (sts.zip (sts.drop 1 ++ [tx.length])).map fun p => (p.1, (tx.drop p.1).take (p.2 - p.1))
theorem cut_text : ∀ (cs : List (List Nat)) (pf : List Nat), cut (pf ++ cs.flatten) ((place pf.length cs).map (·.1)) = place pf.length cs
  | [], pf => rfl
  | c :: r, pf => by
    have ih := cut_text r (pf ++ c)
    have e1 : pf ++ (c :: r).flatten = (pf ++ c) ++ r.flatten := by simp
    have e2 : (pf ++ c).length = pf.length + c.length := by simp
    rw [e2] at ih
    rw [e1]
    simp only [place, List.map_cons]
    unfold cut at ih ⊢
    cases r with
    | nil =>
      simp only [place, List.map_nil, List.drop_succ_cons, List.drop_zero, List.nil_append, List.zip_cons_cons, List.zip_nil_right, List.map_cons, List.map_nil, List.flatten_nil, List.append_nil]
      rw [e2, Nat.add_sub_cancel_left, List.drop_left]
      simp
    | cons d q =>
      simp only [place, List.map_cons, List.drop_succ_cons, List.drop_zero, List.cons_append, List.zip_cons_cons, List.cons.injEq, Prod.mk.injEq, true_and] at ih ⊢
      refine ⟨?_, ?_⟩
      · rw [Nat.add_sub_cancel_left, List.append_assoc, List.drop_left]
        simp
      · exact ih
theorem chunks_law {bf : List Nat} {cs : List (List Nat)} (hb : Bl bf) (hg : Good cs) : cut (bf ++ cs.flatten) (starts true 0 (bf ++ cs.flatten)) = place bf.length cs := by
  rw [starts_text hb hg]
  exact cut_text cs bf
end Mk09
namespace Mk09
open PySem PySem.Spec PyProof.Rows L2 My
/-! ### the text by places -/
def top (i : Nat) : Stmt := PySem.Challenge.pw_signalwhole_k09_chunks_of_a_text.main.body.getD i (.Pass ⟨0, 0, 0, 0⟩)
abbrev s_line_starts : Stmt := top 1
abbrev s_chunks : Stmt := top 2
abbrev s__law_next : Stmt := top 4
abbrev s__law_same : Stmt := top 5
abbrev s__law_char : Stmt := top 6
abbrev s__law_line : Stmt := top 7
abbrev s__law_lines : Stmt := top 8
abbrev s_law : Stmt := top 9
theorem sc_line_starts : FnScope ["text", "found", "position"] ["text"] (defScope s_line_starts) := ⟨rfl, rfl, rfl, by decide +kernel, rfl, by decide +kernel, by decide +kernel⟩
theorem bi_line_starts : BindsBy "line_starts" "line_starts" s_line_starts ["text"] := fun _ _ _ _ _ _ us hl => match us, hl with | [_], _ => rfl
theorem sc_chunks : FnScope ["text", "starts", "ends", "start", "end"] ["text"] (defScope s_chunks) := ⟨rfl, rfl, rfl, by decide +kernel, rfl, by decide +kernel, by decide +kernel⟩
theorem bi_chunks : BindsBy "chunks" "chunks" s_chunks ["text"] := fun _ _ _ _ _ _ us hl => match us, hl with | [_], _ => rfl
theorem sc__law_next : FnScope ["state", "limit", "cell", "value"] ["state", "limit"] (defScope s__law_next) := ⟨rfl, rfl, rfl, by decide +kernel, rfl, by decide +kernel, by decide +kernel⟩
theorem bi__law_next : BindsBy "_law_next" "_law_next" s__law_next ["state", "limit"] := fun _ _ _ _ _ _ us hl => match us, hl with | [_, _], _ => rfl
theorem sc__law_same : FnScope ["actual", "expected", "k"] ["actual", "expected"] (defScope s__law_same) := ⟨rfl, rfl, rfl, by decide +kernel, rfl, by decide +kernel, by decide +kernel⟩
theorem bi__law_same : BindsBy "_law_same" "_law_same" s__law_same ["actual", "expected"] := fun _ _ _ _ _ _ us hl => match us, hl with | [_, _], _ => rfl
theorem sc__law_char : FnScope ["index", "chars"] ["index"] (defScope s__law_char) := ⟨rfl, rfl, rfl, by decide +kernel, rfl, by decide +kernel, by decide +kernel⟩
theorem bi__law_char : BindsBy "_law_char" "_law_char" s__law_char ["index"] := fun _ _ _ _ _ _ us hl => match us, hl with | [_], _ => rfl
theorem sc__law_line : FnScope ["state", "line", "k"] ["state"] (defScope s__law_line) := ⟨rfl, rfl, rfl, by decide +kernel, rfl, by decide +kernel, by decide +kernel⟩
theorem bi__law_line : BindsBy "_law_line" "_law_line" s__law_line ["state"] := fun _ _ _ _ _ _ us hl => match us, hl with | [_], _ => rfl
theorem sc__law_lines : FnScope ["state", "count", "text", "k"] ["state", "count"] (defScope s__law_lines) := ⟨rfl, rfl, rfl, by decide +kernel, rfl, by decide +kernel, by decide +kernel⟩
theorem bi__law_lines : BindsBy "_law_lines" "_law_lines" s__law_lines ["state", "count"] := fun _ _ _ _ _ _ us hl => match us, hl with | [_, _], _ => rfl
theorem sc_law : FnScope ["script", "state", "text", "expected", "before", "count", "k", "chunk", "actual", "position"] ["script"] (defScope s_law) := ⟨rfl, rfl, rfl, by decide +kernel, rfl, by decide +kernel, by decide +kernel⟩
theorem bi_law : BindsBy "law" "law" s_law ["script"] := fun _ _ _ _ _ _ us hl => match us, hl with | [_], _ => rfl
/-- what the top leaves of the names that the text uses -/
structure TopF (K : PySem.W.Frag) (mg : Str → Option Value) : Prop where
  bool : mg "bool" = none
  int_ : mg "int" = none
  isinstance : mg "isinstance" = none
  len : mg "len" = none
  list : mg "list" = none
  range : mg "range" = none
  str : mg "str" = none
  tuple : mg "tuple" = none
  zip : mg "zip" = none
structure Defs (K : PySem.W.Frag) (mg : Str → Option Value) : Prop where
  d_line_starts : DefAt K mg "line_starts" s_line_starts
  d_chunks : DefAt K mg "chunks" s_chunks
  d__law_next : DefAt K mg "_law_next" s__law_next
  d__law_same : DefAt K mg "_law_same" s__law_same
  d__law_char : DefAt K mg "_law_char" s__law_char
  d__law_line : DefAt K mg "_law_line" s__law_line
  d__law_lines : DefAt K mg "_law_lines" s__law_lines
  d_law : DefAt K mg "law" s_law
/-- the law's own def, for the end -/
def spLaw (K : PySem.W.Frag) : Sp := fun vs H Q _ => ∃ (a : Addr) (ns : List Int), vs = [.ref a] ∧ SqL K H a (ns.map V.int) ∧ ns.length ≤ 63 ∧ ∀ H', Q (.bl true) H'
theorem law_of {P : Program} {w : World} {K : PySem.W.Frag} {mg : Str → Option Value} {fa : Addr} {k : Nat} {sp : Sp} (D : Defs K mg) (hmg : mg "law" = some (.ref fa)) (S : FnScope ["script", "state", "text", "expected", "before", "count", "k", "chunk", "actual", "position"] ["script"] (defScope s_law)) (len : ∀ vs H Q E, sp vs H Q E → vs.length = 1)
    (body : ∀ base : Heap, Body0 P w K mg base k "law" s_law ["script", "state", "text", "expected", "before", "count", "k", "chunk", "actual", "position"] sp) :
    ∃ fd : FuncData, (∀ (s : Shared) (v : Value), BindsTo s fd ⟨[v], []⟩ [("script", v)]) ∧ ∀ base : Heap, K.In base → base.Ns mainGlobals mg → FnOk P w K mg base CX0 (k + 1) fa fd ["script"] sp := by
  obtain ⟨f, fd, F, hm⟩ := D.d_law.ex
  have e := hmg.symm.trans hm
  cases e
  have b := FunD.bindsA (ps := ["script"]) F bi_law
  exact ⟨fd, fun s v => b s [v] rfl, fun base _ _ => F.ok S len fun cdv A outer s H vs Q E hr h => let ⟨t, h1, h2⟩ := body base _ cdv A outer s H vs Q E hr h; ⟨t, h1.nox, h2⟩⟩
end Mk09
namespace Mk09
open PySem PySem.Spec PyProof.Rows L2 My

/-- the law's state -/
def StAt (H : Hp) (s l : Addr) : Prop := ∃ (ns : List Int) (i c d : Int), H s = some (.lst [.ref l, .int i, .int c, .int d]) ∧ H l = some (.lst (ns.map V.int)) ∧ 0 ≤ i ∧ 0 ≤ c ∧ 0 ≤ d
def spNext : Sp := fun vs H Q _ => ∃ (s sl : Addr) (lim : Int), vs = [.ref s, .int lim] ∧ StAt H s sl ∧ 0 < lim ∧ lim < 1000000 ∧ ∀ (H' : Hp) (n : Int), Keep (· = s) H H' → StAt H' s sl → 0 ≤ n → n < lim → Q (.int n) H'
section
variable {P : Program} {w : World} {K : PySem.W.Frag} {mg : Str → Option Value} {base : Heap}
theorem k__law_next (T : TopF K mg) (D : Defs K mg) : Kal P w K mg base CX0 1 "_law_next" ["state", "limit"] spNext := by
  refine kal_mk D.d__law_next sc__law_next bi__law_next (fun vs H Q E h => ?_) (fun f cdv A outer s H vs Q E hr h => ?_)
  · obtain ⟨_, _, _, rfl, _⟩ := h; rfl
  · obtain ⟨s, l, lim, rfl, ⟨ns, i, c, d, hs, hl, hi, hc, hd⟩, h0, h1, k⟩ := h
    have nd := sc__law_next.nd
    refine ⟨_, (C8.pss_cut (ps_if (PW.pt (pw_and (pt_cmpR op_eq (pe_ix ix_list (pv 0) pe_int (fun _ _ => rfl)) pe_int (nomark _)) (pw_and1 (pt_cmpR op_lt (pe_ix ix_list (pv 0) pe_int (fun _ _ => rfl)) (pe_callB call_len_seq (by rfl) T.len (by decide +kernel) (pa_cons (pe_ix ix_list (pv 0) pe_int (fun _ _ => rfl)) pa_nil)) (nomark _)))))
 (pss_cons (ps_set (i := 2) nd rfl (by first | exact Or.inl rfl | exact Or.inr rfl) (pe_ix ix_list (pe_ix ix_list (pv 0) pe_int (fun _ _ => rfl)) (pe_ix ix_list (pv 0) pe_int (fun _ _ => rfl)) (fun _ _ => rfl)))
 (pss_cons (ps_augS (pv 0) pe_int get_list pe_int ip_add set_list)
 (pss_one (ps_if (pt_cmpR op_ge (pv 2) (pe_op op_pow pe_int pe_int) (nomark _))
 (pss_one (ps_asg (pv 2) (pg_sub (pv 0) pe_int set_list))) (pss_one (ps_asg (pe_op op_mod (pe_callTy call_int1 (by rfl) T.int_ (by decide +kernel) (pa_cons (pe_op op_add (pe_op op_add (pe_op op_mul (pe_ix ix_list (pv 0) pe_int (fun _ _ => rfl)) pe_int) (pe_op op_mod (pe_callTy call_int1 (by rfl) T.int_ (by decide +kernel) (pa_cons (pv 2) pa_nil)) pe_int)) pe_int) pa_nil)) pe_int) (pg_sub (pv 0) pe_int set_list))))))) pss_nil)
 (pss_cons (ps_if (pt_cmpR op_gt (pe_ix ix_list (pv 0) pe_int (fun _ _ => rfl)) pe_int (nomark _))
 (pss_cons (ps_set (i := 3) nd rfl (by first | exact Or.inl rfl | exact Or.inr rfl) (pe_op op_mod (pe_callTy call_int1 (by rfl) T.int_ (by decide +kernel) (pa_cons (pe_ix ix_list (pv 0) pe_int (fun _ _ => rfl)) pa_nil)) (pv 1)))
 (pss_cons (ps_asg (pe_op op_fdivN (pe_ix ix_list (pv 0) pe_int (fun _ _ => rfl)) (pv 1)) (pg_sub (pv 0) pe_int set_list))
 (pss_one (ps_ret (pv 3))))) pss_nil)
 (pss_cons (ps_asg (pe_op op_mod (pe_callTy call_int1 (by rfl) T.int_ (by decide +kernel) (pa_cons (pe_op op_add (pe_op op_mul (pe_ix ix_list (pv 0) pe_int (fun _ _ => rfl)) pe_int) pe_int) pa_nil)) pe_int) (pg_sub (pv 0) pe_int set_list))
 (pss_one (ps_ret (pe_op op_mod (pe_callTy call_int1 (by rfl) T.int_ (by decide +kernel) (pa_cons (pe_op op_fdiv (pe_ix ix_list (pv 0) pe_int (fun _ _ => rfl)) pe_int) pa_nil)) (pv 1))))))), ?_⟩
    have nls : l ≠ s := fun e => by
      subst e; rw [hl] at hs
      cases ns with
      | nil => simp at hs
      | cons x r => simp at hs
    -- behind the first if the state is one again
    refine ⟨fun σ' H' => (∃ v, σ' = [some (.ref s), some (.int lim), v, none]) ∧ Keep (· = s) H H' ∧ ∃ i' c' d' : Int, H' s = some (.lst [.ref l, .int i', .int c', .int d']) ∧ H' l = some (.lst (ns.map V.int)) ∧ 0 ≤ i' ∧ 0 ≤ c' ∧ 0 ≤ d', ?_, ?_⟩
    · walk_at "go"
      refine ite2 (fun e1 => ?_) (fun e1 => ?_)
      · walk_at "go"
        refine ite2 (fun e2 => ?_) (fun e2 => ?_)
        · have hlt : i < (ns.length : Int) := by
            rw [decide_eq_true_eq, List.length_map] at e2
            exact e2
          obtain ⟨j, rfl⟩ : ∃ j : Nat, i = (j : Int) := ⟨i.toNat, by omega⟩
          have hj : j < ns.length := by omega
          have at1 : (ns.map V.int)[j]? = some (.int ns[j]) := by rw [List.getElem?_map, List.getElem?_eq_getElem hj]; rfl
          have s1 : (upd H s (.lst [.ref l, .int (j + 1), .int c, .int d])) s = some (.lst [.ref l, .int (j + 1), .int c, .int d]) := upd_same
          walk_at "go"
          refine ite2 (fun e3 => ?_) (fun e3 => ?_)
          · have q : (0 : Int) ≤ ns[j] := by
              have z := e3
              rw [decide_eq_true_eq] at z
              have : (10 : Int) ^ (18 : Int).toNat = 1000000000000000000 := by decide
              omega
            walk_at "go"
            refine ⟨⟨_, rfl⟩, fun b o e n => ?_, _, _, _, upd_same, ?_, ?_, q, hd⟩
            · rw [upd_ne n, upd_ne n]; exact e
            · rw [upd_ne nls, upd_ne nls]; exact hl
            · omega
          · walk_at "go"
            refine ⟨⟨_, rfl⟩, fun b o e n => ?_, _, _, _, upd_same, ?_, ?_, hc, Int.emod_nonneg _ (by decide)⟩
            · rw [upd_ne n, upd_ne n]; exact e
            · rw [upd_ne nls, upd_ne nls]; exact hl
            · omega
        · exact ⟨⟨_, rfl⟩, Keep.refl _, i, c, d, hs, hl, hi, hc, hd⟩
      · walk_at "go"
        refine ite2 (fun e2 => ?_) (fun e2 => ?_)
        · exact absurd e2 (by simp)
        · exact ⟨⟨_, rfl⟩, Keep.refl _, i, c, d, hs, hl, hi, hc, hd⟩
    · rintro σ' H' ⟨⟨v, rfl⟩, kp, i', c', d', hs', hl', hi', hc', hd'⟩
      walk_at "go"
      refine ite2 (fun e1 => ?_) (fun e1 => ?_)
      · have q : 0 < c' := by
          rw [decide_eq_true_eq] at e1
          exact e1
        walk_at "go"
        refine k _ _ (fun b o e n => ?_) ⟨ns, _, _, _, upd_same, ?_, hi', ?_, hd'⟩ (Int.emod_nonneg _ (by omega)) (Int.emod_lt_of_pos _ h0)
        · rw [upd_ne n]; exact kp b o e n
        · rw [upd_ne nls]; exact hl'
        · exact Int.fdiv_nonneg (by omega) (by omega)
      · walk_at "go"
        refine k _ _ (fun b o e n => ?_) ⟨ns, _, _, _, upd_same, ?_, hi', hc', ?_⟩ (Int.emod_nonneg _ (by omega)) (Int.emod_lt_of_pos _ h0)
        · rw [upd_ne n]; exact kp b o e n
        · rw [upd_ne nls]; exact hl'
        · exact Int.emod_nonneg _ (by decide)
end
end Mk09
namespace Mk09
open PySem PySem.Spec PyProof.Rows L2 My

open SX
section
variable {P : Program} {w : World} {K : PySem.W.Frag} {mg : Str → Option Value} {base : Heap}
/-! ### the program's two defs -/
def spStarts : Sp := fun vs H Q _ => ∃ l : List Nat, vs = [.str (S l)] ∧ l.length ≤ 1000000 ∧ ∀ (H' : Hp) (p : Addr), Same H H' → H p = none → H' p = some (.lst ((starts true 0 l).map fun n => V.int (n : Nat))) → Q (.ref p) H'
theorem starts_len : ∀ (l : List Nat) (b : Bool) (i : Nat), (starts b i l).length ≤ l.length
  | [], _, _ => Nat.le_refl _
  | c :: l, b, i => by
    have := starts_len l (decide (c = 10)) (i + 1)
    simp only [starts, List.length_append, List.length_cons]
    split <;> simp <;> omega
theorem blank_in {c : Nat} : (!inV (V.str ⟨#[c]⟩) [V.str " ", V.str "\n"]) = decide (c ≠ 32 ∧ c ≠ 10) := by
  have e1 : eqV (V.str " ") (V.str ⟨#[c]⟩) = decide (c = 32) := by
    show ((" " : Str) == (⟨#[c]⟩ : Str)) = _
    have : (" " : Str) = S [32] := by decide +kernel
    rw [this, show (⟨#[c]⟩ : Str) = S [c] from rfl, S_beq_eq]
    by_cases h : c = 32 <;> simp [h, eq_comm]
  have e2 : eqV (V.str "\n") (V.str ⟨#[c]⟩) = decide (c = 10) := by
    show (("\n" : Str) == (⟨#[c]⟩ : Str)) = _
    have : ("\n" : Str) = S [10] := by decide +kernel
    rw [this, show (⟨#[c]⟩ : Str) = S [c] from rfl, S_beq_eq]
    by_cases h : c = 10 <;> simp [h, eq_comm]
  unfold inV
  simp only [List.any_cons, List.any_nil, e1, e2, Bool.or_false]
  by_cases h1 : c = 32 <;> by_cases h2 : c = 10 <;> simp [h1, h2]
theorem k_line_starts (T : TopF K mg) (D : Defs K mg) : Kal P w K mg base CX0 1 "line_starts" ["text"] spStarts := by
  refine kal_mk D.d_line_starts sc_line_starts bi_line_starts (fun vs H Q E h => ?_) (fun f cdv A outer s H vs Q E hr h => ?_)
  · obtain ⟨_, rfl, _⟩ := h; rfl
  · obtain ⟨l, rfl, hl, k⟩ := h
    have nd := sc_line_starts.nd
    refine ⟨_, (pss_cons (ps_set (i := 1) nd rfl (by first | exact Or.inl rfl | exact Or.inr rfl) (pe_lst pa_nil))
 (pss_cons (ps_for PassesOwn.never rfl (pi_range1 (by rfl) T.range (pa_cons (pe_callB call_len_str (by rfl) T.len (by decide +kernel) (pa_cons (pv 0) pa_nil)) pa_nil)) (pg_name (i := 2) nd rfl (by first | exact Or.inl rfl | exact Or.inr rfl))
 (pss_one (ps_if (PW.pt (pw_and (pt_cmpR op_notIn_seq (pe_ix ix_str (pv 0) (pv 2) (fun _ _ => rfl)) (pe_tup (pa_cons pe_str (pa_cons pe_str pa_nil))) rfl) (pw_and1 (PW.pt (pw_or (pt_cmpR op_eq (pv 2) pe_int (nomark _)) (pw_or1 (pt_cmpR op_eq (pe_ix ix_str (pv 0) (pe_op op_sub (pv 2) pe_int) (fun _ _ => rfl)) pe_str (nomark _))))))))
 (pss_one (ps_expr (pe_bm PySem.F.plainAttrs_list PySem.F.slot_list_append PySem.F.type_list_append mt_append (pv 1) (pa_cons (pv 2) pa_nil)))) pss_nil)))
 (pss_one (ps_ret (pv 1))))), ?_⟩
    refine ⟨Nat.zero_le _, fun p hp => ?_⟩
    refine ⟨_, rfl, _, rfl, S_small (by omega), ?_⟩
    refine ⟨_, rfl, by rw [S_len]; omega, by rw [S_len]; omega, for_range0 (fun i σ H' => Hold (∃ v, σ = [some (.str (S l)), some (.ref p), v] ∧ Keep (· = p) H H' ∧ H' p = some (.lst ((starts true 0 (l.take i)).map fun n => V.int (n : Nat))))) ?_ ?_ ?_⟩
    · exact .mk ⟨none, rfl, Keep.new hp, upd_same⟩
    · intro i σ H' hi W
      obtain ⟨v, rfl, kp, hp'⟩ := W.out
      rw [S_len, Int.toNat_natCast] at hi
      obtain ⟨c, hc⟩ : ∃ c, l[i]? = some c := ⟨l[i], List.getElem?_eq_getElem hi⟩
      have hst := starts_step l i c hc
      have hlen := starts_len (l.take i) true 0
      rw [List.length_take] at hlen
      -- text[position] not in (' ', '\n')
      walk_at "go"
      refine ⟨by decide +kernel, fun t ht => ?_⟩
      have npt : p ≠ t := ne_of_none hp' ht
      refine ⟨_, _, rfl, Or.inr (Or.inl (.inl upd_same)), rfl, rfl, ?_⟩
      refine ⟨_, rfl, ?_⟩
      have hp2 : (upd H' t (.tup [.str " ", .str "\n"])) p = some (.lst ((starts true 0 (l.take i)).map fun n => V.int (n : Nat))) := by rw [upd_ne npt]; exact hp'
      have k2 : Keep (· = p) H (upd H' t (.tup [.str " ", .str "\n"])) := kp.trans (Keep.new ht)
      have none_ : ¬ ((i = 0 ∨ l[i - 1]? = some 10) ∧ c ≠ 32 ∧ c ≠ 10) → (upd H' t (.tup [.str " ", .str "\n"])) p = some (.lst ((starts true 0 (l.take (i + 1))).map fun n => V.int (n : Nat))) := fun z => by
        rw [hp2, hst, if_neg z, List.append_nil]
      have some_ : ((i = 0 ∨ l[i - 1]? = some 10) ∧ c ≠ 32 ∧ c ≠ 10) → HO.lst ((starts true 0 (l.take i)).map (fun n => V.int (n : Nat)) ++ [V.int (i : Nat)]) = HO.lst ((starts true 0 (l.take (i + 1))).map fun n => V.int (n : Nat)) := fun z => by
        rw [hst, if_pos z, List.map_append]; rfl
      have small : ((starts true 0 (l.take i)).map fun n => V.int (n : Nat)).length < sizeLine := by rw [List.length_map, line24]; omega
      refine ite2 (fun e1 => ?_) (fun e1 => ?_)
      · have c1 : c ≠ 32 ∧ c ≠ 10 := by
          have z : (!inV (V.str ⟨#[c]⟩) [V.str " ", V.str "\n"]) = true := e1
          rw [blank_in] at z
          exact of_decide_eq_true z
        walk_at "go"
        refine ite2 (fun e2 => ?_) (fun e2 => ?_)
        · have i0 : i = 0 := by have := vint e2; omega
          refine iteT ?_
          walk_at "go"
          exact .mk ⟨_, rfl, k2.trans (Keep.put rfl), by rw [upd_same, some_ ⟨.inl i0, c1⟩]⟩
        · have i0 : i ≠ 0 := fun z => vintF e2 (by rw [z]; rfl)
          obtain ⟨j, rfl⟩ : ∃ j, i = j + 1 := ⟨i - 1, by omega⟩
          obtain ⟨d, hd⟩ : ∃ d, l[j]? = some d := ⟨l[j], List.getElem?_eq_getElem (by omega)⟩
          have hd' : l[j + 1 - 1]? = some d := hd
          walk_at "go"
          refine ⟨_, _, _, rfl, rfl, S_small (by omega), S_get' (by omega) hd, ?_⟩
          have enl : ("\n" : Str) = S [10] := by decide +kernel
          walk_at "go"
          refine ite2 (fun e3 => ?_) (fun e3 => ?_)
          · have d0 : d = 10 := by
              have := e3
              rw [enl] at this
              simpa using vstr1 this
            walk_at "go"
            exact .mk ⟨_, rfl, k2.trans (Keep.put rfl), by rw [upd_same, some_ ⟨.inr (by rw [hd', d0]), c1⟩]⟩
          · have d0 : d ≠ 10 := fun z => by
              refine absurd e3 ?_
              rw [enl, z]; simp
            exact .mk ⟨_, rfl, k2, none_ fun z => z.1.elim (fun q => by omega) fun q => by rw [hd'] at q; exact d0 (Option.some.inj q)⟩
      · have c1 : ¬ (c ≠ 32 ∧ c ≠ 10) := fun z => by
          refine absurd ?_ e1
          show (!inV (V.str ⟨#[c]⟩) [V.str " ", V.str "\n"]) = true
          rw [blank_in]; exact decide_eq_true z
        refine ite2 (fun e2 => absurd e2 (by simp)) (fun e2 => ?_)
        exact .mk ⟨_, rfl, k2, none_ fun z => c1 z.2⟩
    · intro σ H' W
      obtain ⟨v, rfl, kp, hp'⟩ := W.out
      rw [S_len, Int.toNat_natCast, List.take_length] at hp'
      exact ⟨_, rfl, k H' p (fun b o e => kp b o e (ne_of_none e hp)) hp hp'⟩
end
end Mk09
namespace Mk09
open PySem PySem.Spec PyProof.Rows L2 My

open SX
/-- a list of pairs of a place and a text -/
def RowsAt (H : Hp) (p : Addr) (ds : List (Nat × List Nat)) : Prop := ∃ ts : List Addr, H p = some (.lst (ts.map V.ref)) ∧ ts.length = ds.length ∧ ∀ (i : Nat) (t : Addr) (d : Nat × List Nat), ts[i]? = some t → ds[i]? = some d → H t = some (.tup [.int (d.1 : Nat), .str (S d.2)])
theorem RowsAt.keep {H H' : Hp} {p : Addr} {ds : List (Nat × List Nat)} (h : RowsAt H p ds) (s : Same H H') : RowsAt H' p ds := by
  obtain ⟨ts, h1, h2, h3⟩ := h
  exact ⟨ts, s _ _ h1, h2, fun i t d a b => s _ _ (h3 i t d a b)⟩
theorem RowsAt.app {H H' : Hp} {p t : Addr} {ds : List (Nat × List Nat)} {d : Nat × List Nat} (ts : List Addr) (h1 : H p = some (.lst (ts.map V.ref))) (h2 : ts.length = ds.length)
    (h3 : ∀ (i : Nat) (t : Addr) (d : Nat × List Nat), ts[i]? = some t → ds[i]? = some d → H t = some (.tup [.int (d.1 : Nat), .str (S d.2)]))
    (k : Keep (· = p) H H') (ht : H' t = some (.tup [.int (d.1 : Nat), .str (S d.2)])) (hp : H' p = some (.lst (ts.map V.ref ++ [V.ref t]))) : RowsAt H' p (ds ++ [d]) := by
  refine ⟨ts ++ [t], by rw [hp]; simp, by simp [h2], fun i t' d' a b => ?_⟩
  by_cases hi : i < ts.length
  · rw [List.getElem?_append_left hi] at a
    rw [List.getElem?_append_left (by omega)] at b
    have e := h3 i t' d' a b
    exact k _ _ e (ne_of e h1 (by intro z; cases z))
  · have hi2 : i = ts.length := by
      have := (List.getElem?_eq_some_iff.mp a).1
      simp at this; omega
    subst hi2
    simp at a
    rw [h2] at b
    simp at b
    subst a b
    exact ht
section
variable {P : Program} {w : World} {K : PySem.W.Frag} {mg : Str → Option Value} {base : Heap}
def spChunks : Sp := fun vs H Q _ => ∃ l : List Nat, vs = [.str (S l)] ∧ l.length ≤ 1000000 ∧ ∀ (H' : Hp) (p : Addr), Same H H' → H p = none → RowsAt H' p (cut l (starts true 0 l)) → Q (.ref p) H'
theorem k_chunks (T : TopF K mg) (D : Defs K mg) (c_line_starts : Kal P w K mg base CX0 1 "line_starts" ["text"] spStarts) : Kal P w K mg base CX0 2 "chunks" ["text"] spChunks := by
  refine kal_mk D.d_chunks sc_chunks bi_chunks (fun vs H Q E h => ?_) (fun f cdv A outer s H vs Q E hr h => ?_)
  · obtain ⟨_, rfl, _⟩ := h; rfl
  · obtain ⟨l, rfl, hl, k⟩ := h
    have nd := sc_chunks.nd
    have hlen := starts_len l true 0
    generalize hst : starts true 0 l = sts at k hlen
    refine ⟨_, (pss_cons (ps_set (i := 1) nd rfl (by first | exact Or.inl rfl | exact Or.inr rfl) (pe_kal c_line_starts hr (by first | decide | exact Nat.le_refl _) (pa_cons (pv 0) pa_nil)))
 (pss_cons (ps_set (i := 2) nd rfl (by first | exact Or.inl rfl | exact Or.inr rfl) (pe_op op_cat (pe_slice sl_list (pv 1) (po_some pe_int) po_none) (pe_lst (pa_cons (pe_callB call_len_str (by rfl) T.len (by decide +kernel) (pa_cons (pv 0) pa_nil)) pa_nil))))
 (pss_one (ps_ret (pe_lc (g := gTup K 2 (gCons (gName 3) (gCons (gName 4) gNil))) (own := [("start", 3), ("end", 4)]) rfl nd (pi_zip (by rfl) T.zip (pa_cons (pv 1) (pa_cons (pv 2) pa_nil))) (blkOk_by (own := [("start", 3), ("end", 4)]) (N := ["text", "starts", "ends", "start", "end"]) (sc := defScope s_chunks) (by decide +kernel)) (fun _ _ _ _ _ => (pg_tup rfl (pgs_cons (pg_name (i := 3) nd rfl (by first | exact Or.inl rfl | exact Or.inr rfl)) (pgs_cons (pg_name (i := 4) nd rfl (by first | exact Or.inl rfl | exact Or.inr rfl)) pgs_nil)))) (fun _ _ _ _ _ => pts_nil) (fun _ _ _ _ _ => (pe_tup (pa_cons (pv 3) (pa_cons (pe_slice sl_str (pv 0) (po_some (pv 3)) (po_some (pv 4))) pa_nil))))))))), ?_⟩
    -- starts = line_starts(text)
    refine ⟨_, rfl, l, rfl, hl, fun H1 a s1 na ha => ?_⟩
    rw [hst] at ha
    -- ends = starts[1:] + [len(text)]
    refine ⟨_, rfl, _, rfl, _, _, rfl, SqL.of ha, fun b nb => ?_⟩
    generalize hb : upd _ b _ = H2
    have s2 := same_of hb nb
    have ab := upd_at hb
    refine ⟨_, rfl, _, rfl, S_small (by omega), by show 1 ≤ sizeLine; decide, fun c nc => ?_⟩
    generalize hc : upd _ c _ = H3
    have s3 := same_of hc nc
    have ac := upd_at hc
    have ee : (cutV (sts.map fun n => V.int (n : Nat)) (some 1) none) ++ [V.int ((S l).length : Nat)] = ((sts.drop 1 ++ [l.length]).map fun n => V.int (n : Nat)) := by
      rw [show (some (1 : Int)) = some ((1 : Nat) : Int) from rfl, cutV_from, S_len, List.map_append, List.map_drop]; rfl
    refine ⟨b, c, _, _, rfl, rfl, s3 _ _ ab, ac, ?_, fun e ne => ?_⟩
    · have := congrArg List.length ee
      rw [List.length_append] at this
      rw [this, line24]; simp; omega
    generalize he : upd _ e _ = H4
    have s4 := same_of he ne
    have ae := upd_at he
    have ae2 : H4 e = some (.lst ((sts.drop 1 ++ [l.length]).map fun n => V.int (n : Nat))) := by rw [ae]; exact congrArg (fun q => some (HO.lst q)) ee
    have s14 : Same H1 H4 := (s2.trans s3).trans s4
    have ha2 := s14 _ _ ha
    clear hb hc he ab ac ae
    -- the comprehension
    have hz : sts.length = (sts.zip (sts.drop 1 ++ [l.length])).length ∨ sts = [] := by
      cases sts with
      | nil => exact .inr rfl
      | cons x r => left; simp
    have ezip : (cut l sts).length = min (sts.map fun n => V.int (n : Nat)).length ((sts.drop 1 ++ [l.length]).map fun n => V.int (n : Nat)).length := by
      unfold cut; simp
    refine ⟨_, rfl, _, rfl, a, e, _, _, rfl, SqL.of ha2, SqL.of ae2, fun d nd2 => ?_⟩
    have na_d : a ≠ d := ne_of_none ha2 nd2
    have ne_d : e ≠ d := ne_of_none ae2 nd2
    refine lc_it (walk_zip (xs := sts.map fun n => V.int (n : Nat)) (ys := (sts.drop 1 ++ [l.length]).map fun n => V.int (n : Nat)) ezip) (fun i H' => Hold (Keep (· = d) H4 H' ∧ RowsAt H' d ((cut l sts).take i))) ?_ ?_ ?_ ?_
    · exact .mk ⟨Keep.new nd2, [], upd_same, by simp, fun i t d a b => by simp at a⟩
    · intro i H' hi W
      obtain ⟨kp, _⟩ := W.out
      exact ⟨kp.seq na_d (SqL.of ha2), kp.seq ne_d (SqL.of ae2)⟩
    · intro i x H' H'' hi W Y
      obtain ⟨kp, ts, h1, h2, h3⟩ := W.out
      obtain ⟨t, x1, x2, rfl, nt, rfl, e1, e2⟩ := Y
      have hi1 : i < sts.length := by rw [ezip] at hi; simp at hi; omega
      have hi2 : i < (sts.drop 1 ++ [l.length]).length := by rw [ezip] at hi; simp at hi ⊢; omega
      have hle : ∀ (m : List Nat) (bb : Bool) (j x : Nat), x ∈ starts bb j m → x < j + m.length := by
        intro m
        induction m with
        | nil => intro bb j x hx; simp [starts] at hx
        | cons c m ih =>
          intro bb j x hx
          simp only [starts, List.mem_append] at hx
          rcases hx with hx | hx
          · split at hx
            · simp at hx; simp; omega
            · simp at hx
          · have := ih _ _ _ hx
            simp; omega
      have hbd : ∀ x ∈ sts, x ≤ l.length := fun x hx => by
        have := hle l true 0 x (by rw [hst]; exact hx)
        omega
      obtain ⟨u, hu⟩ : ∃ u, sts[i]? = some u := ⟨_, List.getElem?_eq_getElem hi1⟩
      obtain ⟨v, hv⟩ : ∃ v, (sts.drop 1 ++ [l.length])[i]? = some v := ⟨_, List.getElem?_eq_getElem hi2⟩
      have hv2 : v ≤ l.length := by
        rcases List.mem_append.mp (List.mem_of_getElem? hv) with hx | hx
        · exact hbd v (List.mem_of_mem_drop hx)
        · simp at hx; omega
      have ex1 : x1 = .int (u : Nat) := by
        have e1 : (sts.map fun n => V.int (n : Nat))[i]? = some x1 := e1
        rw [List.getElem?_map, hu] at e1
        exact (Option.some.inj e1).symm
      have ex2 : x2 = .int (v : Nat) := by
        have e2 : ((sts.drop 1 ++ [l.length]).map fun n => V.int (n : Nat))[i]? = some x2 := e2
        rw [List.getElem?_map, hv] at e2
        exact (Option.some.inj e2).symm
      have hcut : (cut l sts)[i]? = some (u, (l.drop u).take (v - u)) := by
        unfold cut
        rw [List.getElem?_map, (List.getElem?_zip_eq_some (z := (u, v))).mpr ⟨hu, hv⟩]; rfl
      subst ex1 ex2
      generalize hq : upd _ t _ = H5
      have st := same_of hq nt
      have at_ := upd_at hq
      refine ⟨t, _, rfl, .inl (.inl at_), rfl, _, _, rfl, _, _, rfl, rfl, rfl, ?_⟩
      refine ⟨_, rfl, _, rfl, _, rfl, _, rfl, _, rfl, _, rfl, _, rfl, S_small (by omega), by show 2 ≤ sizeLine; decide, fun y ny => ?_⟩
      rw [cut_S l u v hv2]
      generalize hy : upd _ y _ = H6
      have sy := same_of hy ny
      have ay := upd_at hy
      have hd6 := sy _ _ (st _ _ h1)
      refine ⟨_, hd6, ?_, .mk ⟨?_, ?_⟩⟩
      · rw [List.length_map, h2, line24, List.length_take]
        have : (cut l sts).length ≤ sts.length := by rw [ezip]; simp; omega
        omega
      · exact (kp.trans (.of (st.trans sy))).trans (Keep.put rfl)
      · rw [List.take_add_one, hcut]
        refine RowsAt.app (H := H6) ts hd6 h2 (fun i t d a b => sy _ _ (st _ _ (h3 i t d a b))) (Keep.put rfl) ?_ upd_same
        rw [upd_ne (ne_of ay hd6 (by intro z; cases z))]
        exact ay
    · intro H' W
      obtain ⟨kp, R⟩ := W.out
      rw [List.take_length] at R
      refine k H' d (fun b o eb => kp b o (s14 _ _ (s1 _ _ eb)) (ne_of_none (s14 _ _ (s1 _ _ eb)) nd2)) ((s1.trans s14).free nd2) R
end
end Mk09
namespace Mk09
open PySem PySem.Spec PyProof.Rows L2 My

open SX
section
variable {P : Program} {w : World} {K : PySem.W.Frag} {mg : Str → Option Value} {base : Heap}
def chars : List Nat := [32, 39, 33, 34, 35, 36, 38, 40, 41, 42, 43, 44, 45, 46, 47, 48, 49, 50, 51, 52, 53, 54, 55, 56, 57, 58, 59, 60, 61, 62, 63, 64, 65, 66, 67, 68, 69, 70, 71, 72, 73, 74, 75, 76, 77, 78, 79, 80, 81, 82, 83, 84, 85, 86, 87, 88, 89, 90, 91, 92, 93, 94, 95, 96, 97, 98, 99, 100, 101, 102, 103, 104, 105, 106, 107, 108, 109, 110, 111, 112, 113, 114, 115, 116, 117, 118, 119, 120, 121, 122, 123, 124, 125, 126, 10]
theorem chars_ok : ∀ (j c : Nat), chars[j]? = some c → (j < 94 → c ≠ 10) ∧ (1 ≤ j → c ≠ 32) := by
  intro j c h
  have hj : j < 95 := (List.getElem?_eq_some_iff.mp h).1
  have all : ∀ j : Fin 95, (j.val < 94 → chars[j.val]? ≠ some 10) ∧ (1 ≤ j.val → chars[j.val]? ≠ some 32) := by decide +kernel
  exact ⟨fun a b => (all ⟨j, hj⟩).1 a (by rw [h, b]), fun a b => (all ⟨j, hj⟩).2 a (by rw [h, b])⟩
def spChar : Sp := fun vs H Q _ => ∃ j : Int, vs = [.int j] ∧ 0 ≤ j ∧ j < 94 ∧ ∀ c : Nat, c ≠ 10 → (1 ≤ j → c ≠ 32) → Q (.str (S [c])) H
theorem k__law_char (T : TopF K mg) (D : Defs K mg) : Kal P w K mg base CX0 1 "_law_char" ["index"] spChar := by
  refine kal_mk D.d__law_char sc__law_char bi__law_char (fun vs H Q E h => ?_) (fun f cdv A outer s H vs Q E hr h => ?_)
  · obtain ⟨_, rfl, _⟩ := h; rfl
  · obtain ⟨j, rfl, h0, h1, k⟩ := h
    have nd := sc__law_char.nd
    refine ⟨_, (pss_cons (ps_set (i := 1) nd rfl (by first | exact Or.inl rfl | exact Or.inr rfl) pe_str)
 (pss_cons (ps_set (i := 1) nd rfl (by first | exact Or.inl rfl | exact Or.inr rfl) (pe_op op_add_str (pv 1) pe_str))
 (pss_one (ps_ret (pe_ix ix_str (pv 1) (pe_op op_mod (pe_callTy call_int1 (by rfl) T.int_ (by decide +kernel) (pa_cons (pv 0) pa_nil)) pe_int) (fun _ _ => rfl)))))), ?_⟩
    refine ⟨_, rfl, _, _, rfl, rfl, by decide +kernel, ?_⟩
    obtain ⟨n, rfl⟩ : ∃ n : Nat, j = (n : Int) := ⟨j.toNat, by omega⟩
    have hn : n < 94 := by omega
    obtain ⟨c, hc⟩ : ∃ c, chars[n]? = some c := ⟨chars[n]'(by show n < 95; omega), List.getElem?_eq_getElem (by show n < 95; omega)⟩
    refine ⟨_, rfl, _, rfl, .inl ⟨_, rfl, ?_⟩⟩
    have em : (((n : Nat) : Int) % 95) = ((n : Nat) : Int) := Int.emod_eq_of_lt (by omega) (by omega)
    refine ⟨_, _, rfl, rfl, by show (0 : Int) < 95; decide, ?_⟩
    refine ⟨_, _, _, rfl, rfl, by decide +kernel, ?_, k c ((chars_ok n c hc).1 hn) fun z => (chars_ok n c hc).2 (by omega)⟩
    show atI chars (((n : Nat) : Int) % 95) = some c
    rw [em]
    exact atI_nat (xs := chars) hc
def spLine : Sp := fun vs H Q _ => ∃ s sl : Addr, vs = [.ref s] ∧ StAt H s sl ∧ ∀ (H' : Hp) (l : List Nat), Keep (· = s) H H' → StAt H' s sl → 10 ∉ l → l.length ≤ 90 → Q (.str (S l)) H'
theorem k__law_line (T : TopF K mg) (D : Defs K mg) (c__law_next : Kal P w K mg base CX0 1 "_law_next" ["state", "limit"] spNext) (c__law_char : Kal P w K mg base CX0 1 "_law_char" ["index"] spChar) :
    Kal P w K mg base CX0 2 "_law_line" ["state"] spLine := by
  refine kal_mk D.d__law_line sc__law_line bi__law_line (fun vs H Q E h => ?_) (fun f cdv A outer s H vs Q E hr h => ?_)
  · obtain ⟨_, _, rfl, _⟩ := h; rfl
  · obtain ⟨s, sl, rfl, h0, k⟩ := h
    have nd := sc__law_line.nd
    refine ⟨_, (pss_cons (ps_set (i := 1) nd rfl (by first | exact Or.inl rfl | exact Or.inr rfl) pe_str)
 (pss_cons (ps_for PassesOwn.never rfl (pi_range1 (by rfl) T.range (pa_cons (pe_kal c__law_next hr (by first | decide | exact Nat.le_refl _) (pa_cons (pv 0) (pa_cons (pe_ix ix_list (pe_lst (pa_cons pe_int (pa_cons pe_int (pa_cons pe_int (pa_cons pe_int pa_nil))))) (pe_kal c__law_next hr (by first | decide | exact Nat.le_refl _) (pa_cons (pv 0) (pa_cons pe_int pa_nil))) (fun _ _ => rfl)) pa_nil))) pa_nil)) (pg_name (i := 2) nd rfl (by first | exact Or.inl rfl | exact Or.inr rfl))
 (pss_one (ps_set (i := 1) nd rfl (by first | exact Or.inl rfl | exact Or.inr rfl) (pe_op op_add_str (pv 1) (pe_kal c__law_char hr (by first | decide | exact Nat.le_refl _) (pa_cons (pe_kal c__law_next hr (by first | decide | exact Nat.le_refl _) (pa_cons (pv 0) (pa_cons pe_int pa_nil))) pa_nil))))))
 (pss_one (ps_ret (pv 1))))), ?_⟩
    refine ⟨_, rfl, by show 4 ≤ sizeLine; decide, fun p np => ?_⟩
    generalize hp : upd _ p _ = H1
    have s1 := same_of hp np
    have ap := upd_at hp
    have nps : p ≠ s := fun z => by
      obtain ⟨_, _, _, _, z1, _⟩ := h0
      rw [← z, np] at z1; cases z1
    have h1 : StAt H1 s sl := by
      obtain ⟨ns, i, c, d, a, b, e⟩ := h0
      exact ⟨ns, i, c, d, s1 _ _ a, s1 _ _ b, e⟩
    refine ⟨_, rfl, s, _, 4, rfl, h1, by decide, by decide, fun H2 n k2 h2 n0 n1 => ?_⟩
    have ap2 := k2 _ _ ap nps
    obtain ⟨lim, hlim, hl0, hl1⟩ : ∃ lim : Nat, atI [V.int 9, V.int 9, V.int 9, V.int 90] n = some (.int (lim : Nat)) ∧ 0 < lim ∧ lim ≤ 90 := by
      have : n = 0 ∨ n = 1 ∨ n = 2 ∨ n = 3 := by omega
      rcases this with rfl | rfl | rfl | rfl
      · exact ⟨9, rfl, by decide, by decide⟩
      · exact ⟨9, rfl, by decide, by decide⟩
      · exact ⟨9, rfl, by decide, by decide⟩
      · exact ⟨90, rfl, by decide, by decide⟩
    refine ⟨_, _, _, _, rfl, rfl, SqL.of ap2, hlim, ?_⟩
    refine ⟨s, _, _, rfl, h2, by omega, by omega, fun H3 m k3 h3 m0 m1 => ?_⟩
    have kk : Keep (· = s) H H3 := (Keep.of s1).trans (k2.trans k3)
    refine ⟨_, rfl, by omega, by omega, for_range0 (fun i σ H' => Hold (∃ (v : Option V) (l : List Nat), σ = [some (.ref s), some (.str (S l)), v] ∧ Keep (· = s) H H' ∧ StAt H' s sl ∧ 10 ∉ l ∧ l.length = i)) ?_ ?_ ?_⟩
    · exact .mk ⟨none, [], rfl, kk, h3, by simp, rfl⟩
    · intro i σ H' hi W
      obtain ⟨v, l, rfl, kp, hs, hn, hl⟩ := W.out
      refine ⟨_, rfl, _, rfl, s, _, 94, rfl, hs, by decide, by decide, fun H4 j k4 h4 j0 j1 => ?_⟩
      refine ⟨j, rfl, j0, j1, fun c c1 _ => ?_⟩
      refine ⟨_, _, rfl, rfl, by rw [S_len, S_len, line24, hl]; simp; omega, ?_⟩
      rw [S_cat]
      exact .mk ⟨_, l ++ [c], rfl, kp.trans k4, h4, by simp [hn]; exact fun z => c1 z.symm, by simp [hl]⟩
    · intro σ H' W
      obtain ⟨v, l, rfl, kp, hs, hn, hl⟩ := W.out
      exact ⟨_, rfl, k H' l kp hs hn (by omega)⟩
def spLines : Sp := fun vs H Q _ => ∃ (s sl : Addr) (n : Nat), vs = [.ref s, .int (n : Nat)] ∧ StAt H s sl ∧ n ≤ 10 ∧ ∀ (H' : Hp) (l : List Nat), Keep (· = s) H H' → StAt H' s sl → Bl l → l.length ≤ 1000 → Q (.str (S l)) H'
theorem k__law_lines (T : TopF K mg) (D : Defs K mg) (c__law_next : Kal P w K mg base CX0 1 "_law_next" ["state", "limit"] spNext) (c__law_line : Kal P w K mg base CX0 2 "_law_line" ["state"] spLine) :
    Kal P w K mg base CX0 3 "_law_lines" ["state", "count"] spLines := by
  refine kal_mk D.d__law_lines sc__law_lines bi__law_lines (fun vs H Q E h => ?_) (fun f cdv A outer s H vs Q E hr h => ?_)
  · obtain ⟨_, _, _, rfl, _⟩ := h; rfl
  · obtain ⟨s, sl, n, rfl, h0, hn, k⟩ := h
    have nd := sc__law_lines.nd
    refine ⟨_, (pss_cons (ps_set (i := 2) nd rfl (by first | exact Or.inl rfl | exact Or.inr rfl) pe_str)
 (pss_cons (ps_for PassesOwn.never rfl (pi_range1 (by rfl) T.range (pa_cons (pv 1) pa_nil)) (pg_name (i := 3) nd rfl (by first | exact Or.inl rfl | exact Or.inr rfl))
 (pss_cons (ps_if (pt_cmpR op_gt (pe_kal c__law_next hr (by first | decide | exact Nat.le_refl _) (pa_cons (pv 0) (pa_cons pe_int pa_nil))) pe_int (nomark _))
 (pss_one (ps_set (i := 2) nd rfl (by first | exact Or.inl rfl | exact Or.inr rfl) (pe_op op_add_str (pe_op op_add_str (pv 2) pe_str) (pe_kal c__law_line hr (by first | decide | exact Nat.le_refl _) (pa_cons (pv 0) pa_nil))))) pss_nil)
 (pss_one (ps_set (i := 2) nd rfl (by first | exact Or.inl rfl | exact Or.inr rfl) (pe_op op_add_str (pv 2) pe_str)))))
 (pss_one (ps_ret (pv 2))))), ?_⟩
    refine ⟨_, rfl, _, rfl, by omega, by omega, for_range0 (fun i σ H' => Hold (∃ (v : Option V) (l : List Nat), σ = [some (.ref s), some (.int (n : Nat)), some (.str (S l)), v] ∧ Keep (· = s) H H' ∧ StAt H' s sl ∧ Bl l ∧ l.length ≤ 100 * i)) ?_ ?_ ?_⟩
    · exact .mk ⟨none, [], rfl, Keep.refl _, h0, Bl.nil, by simp⟩
    · intro i σ H' hi W
      obtain ⟨v, l, rfl, kp, hs, hb, hl⟩ := W.out
      have esp : (" " : Str) = S [32] := by decide +kernel
      have enl : ("\n" : Str) = S [10] := by decide +kernel
      refine ⟨_, rfl, s, _, 3, rfl, hs, by decide, by decide, fun H4 j k4 h4 j0 j1 => ?_⟩
      walk_at "go"
      have hi' : i < n := by simpa using hi
      refine ite2 (fun e1 => ?_) (fun e1 => ?_)
      · refine ⟨_, rfl, _, _, rfl, rfl, ?_, ?_⟩
        · rw [esp, S_len, S_len, line24]; simp; omega
        refine ⟨_, rfl, s, _, rfl, h4, fun H5 m k5 h5 m1 m2 => ?_⟩
        rw [esp, S_cat]
        refine ⟨_, _, rfl, rfl, ?_, ?_⟩
        · rw [S_len, S_len, line24]; simp; omega
        refine ⟨_, rfl, _, _, rfl, rfl, ?_, ?_⟩
        · rw [S_cat, enl, S_len, S_len, line24]; simp; omega
        rw [S_cat, enl, S_cat]
        refine .mk ⟨_, _, rfl, (kp.trans k4).trans k5, h5, hb.sp m1, ?_⟩
        simp; omega
      · refine ⟨_, rfl, _, _, rfl, rfl, ?_, ?_⟩
        · rw [enl, S_len, S_len, line24]; simp; omega
        rw [enl, S_cat]
        refine .mk ⟨_, _, rfl, kp.trans k4, h4, hb.nl, ?_⟩
        simp; omega
    · intro σ H' W
      obtain ⟨v, l, rfl, kp, hs, hb, hl⟩ := W.out
      exact ⟨_, rfl, k H' l kp hs hb (by simp at hl; omega)⟩
end
end Mk09
namespace Mk09
open PySem PySem.Spec PyProof.Rows L2 My

section
variable {P : Program} {w : World} {K : PySem.W.Frag} {mg : Str → Option Value} {base : Heap}
theorem same_step (T : TopF K mg) (D : Defs K mg) (k n : Nat) (spI : Sp) (c__law_same : Kal P w K mg base CX0 k "_law_same" ["actual", "expected"] spI) (hI : ∀ m, n = m + 1 → spI = spSame K m) : Kal P w K mg base CX0 (k + 1) "_law_same" ["actual", "expected"] (spSame K n) := by
  refine kal_mk D.d__law_same sc__law_same bi__law_same (fun vs H Q E h => ?_) (fun f cdv A outer s H vs Q E hr h => ?_)
  · obtain ⟨_, _, _, rfl, _⟩ := h; rfl
  · obtain ⟨x, y, d, rfl, hx, hy, hd, kk⟩ := h
    have nd := sc__law_same.nd
    refine ⟨_, (pss_cons (ps_if (pt_cmpR op_isN (pv 1) pe_non (nomark _))
 (pss_one (ps_ret (pe_cmpR op_isN (pv 0) pe_non (nomark _)))) pss_nil)
 (pss_cons (ps_if (pt_val (pe_callB call_isi (by rfl) T.isinstance (by decide +kernel) (pa_cons (pv 1) (pa_cons (pe_bltn (v := .ty "bool") (u := .type "bool") (by rfl) T.bool (by decide +kernel) rfl) pa_nil))))
 (pss_one (ps_ret (pe_and (pe_callB call_isi (by rfl) T.isinstance (by decide +kernel) (pa_cons (pv 0) (pa_cons (pe_bltn (v := .ty "bool") (u := .type "bool") (by rfl) T.bool (by decide +kernel) rfl) pa_nil))) (pe_one (pe_cmpR op_eq (pv 0) (pv 1) (nomark _)))))) pss_nil)
 (pss_cons (ps_if (pt_val (pe_callB call_isi (by rfl) T.isinstance (by decide +kernel) (pa_cons (pv 1) (pa_cons (pe_bltn (v := .ty "int") (u := .type "int") (by rfl) T.int_ (by decide +kernel) rfl) pa_nil))))
 (pss_one (ps_ret (pe_and (pe_callB call_isi (by rfl) T.isinstance (by decide +kernel) (pa_cons (pv 0) (pa_cons (pe_bltn (v := .ty "int") (u := .type "int") (by rfl) T.int_ (by decide +kernel) rfl) pa_nil))) (pe_and (pe_not (pe_callB call_isi (by rfl) T.isinstance (by decide +kernel) (pa_cons (pv 0) (pa_cons (pe_bltn (v := .ty "bool") (u := .type "bool") (by rfl) T.bool (by decide +kernel) rfl) pa_nil)))) (pe_one (pe_cmpR op_eq (pv 0) (pv 1) (nomark _))))))) pss_nil)
 (pss_cons (ps_if (pt_val (pe_callB call_isi (by rfl) T.isinstance (by decide +kernel) (pa_cons (pv 1) (pa_cons (pe_bltn (v := .ty "str") (u := .type "str") (by rfl) T.str (by decide +kernel) rfl) pa_nil))))
 (pss_one (ps_ret (pe_and (pe_callB call_isi (by rfl) T.isinstance (by decide +kernel) (pa_cons (pv 0) (pa_cons (pe_bltn (v := .ty "str") (u := .type "str") (by rfl) T.str (by decide +kernel) rfl) pa_nil))) (pe_one (pe_cmpR op_eq (pv 0) (pv 1) (nomark _)))))) pss_nil)
 (pss_cons (ps_if (PW.pt (pw_and (pt_val (pe_callB call_isi (by rfl) T.isinstance (by decide +kernel) (pa_cons (pv 1) (pa_cons (pe_bltn (v := .ty "tuple") (u := .type "tuple") (by rfl) T.tuple (by decide +kernel) rfl) pa_nil)))) (pw_and1 (pt_not (pt_val (pe_callB call_isi (by rfl) T.isinstance (by decide +kernel) (pa_cons (pv 0) (pa_cons (pe_bltn (v := .ty "tuple") (u := .type "tuple") (by rfl) T.tuple (by decide +kernel) rfl) pa_nil))))))))
 (pss_one (ps_ret pe_bl)) pss_nil)
 (pss_cons (ps_if (PW.pt (pw_and (pt_val (pe_callB call_isi (by rfl) T.isinstance (by decide +kernel) (pa_cons (pv 1) (pa_cons (pe_bltn (v := .ty "list") (u := .type "list") (by rfl) T.list (by decide +kernel) rfl) pa_nil)))) (pw_and1 (pt_not (pt_val (pe_callB call_isi (by rfl) T.isinstance (by decide +kernel) (pa_cons (pv 0) (pa_cons (pe_bltn (v := .ty "list") (u := .type "list") (by rfl) T.list (by decide +kernel) rfl) pa_nil))))))))
 (pss_one (ps_ret pe_bl)) pss_nil)
 (pss_cons (ps_if (pt_cmpR op_ne (pe_callB call_lenB (by rfl) T.len (by decide +kernel) (pa_cons (pv 0) pa_nil)) (pe_callB call_lenB (by rfl) T.len (by decide +kernel) (pa_cons (pv 1) pa_nil)) (nomark _))
 (pss_one (ps_ret pe_bl)) pss_nil)
 (pss_cons (ps_for PassesOwn.never rfl (pi_range1 (by rfl) T.range (pa_cons (pe_callB call_lenB (by rfl) T.len (by decide +kernel) (pa_cons (pv 1) pa_nil)) pa_nil)) (pg_name (i := 2) nd rfl (by first | exact Or.inl rfl | exact Or.inr rfl))
 (pss_one (ps_if (pt_not (pt_val (pe_kal c__law_same hr (by first | decide | exact Nat.le_refl _) (pa_cons (pe_ix ix_seq (pv 0) (pv 2) (fun _ _ => rfl)) (pa_cons (pe_ix ix_seq (pv 1) (pv 2) (fun _ _ => rfl)) pa_nil)))))
 (pss_one (ps_ret pe_bl)) pss_nil)))
 (pss_one (ps_ret pe_bl)))))))))), ?_⟩
    cases d with
    | none =>
      cases hx; cases hy
      walk_at "go"
      exact kk _ (Same.refl _)
    | bool b =>
      cases hx; cases hy
      walk_at "go"
      show Q (V.bl (decide (V.bl b = V.bl b))) H
      rw [decide_eq_true rfl]
      exact kk _ (Same.refl _)
    | int i =>
      cases hx; cases hy
      walk_at "go"
      show Q (V.bl (decide (V.int i = V.int i))) H
      rw [decide_eq_true rfl]
      exact kk _ (Same.refl _)
    | str x =>
      cases hx; cases hy
      walk_at "go"
      show Q (V.bl (decide (V.str x = V.str x))) H
      rw [decide_eq_true rfl]
      exact kk _ (Same.refl _)
    | list ds =>
      cases hx with
      | @lst a xs _ sx ax =>
      cases hy with
      | @lst b ys _ sy ay =>
      have lx := My.DpAll.len ax
      have ly := My.DpAll.len ay
      walk_at "go"
      refine ite2 (fun e => ?_) (fun _ => ?_)
      · rw [lx, ly] at e
        simp at e
      have hsz : ys.length ≤ sizeLine := by assumption
      walk_at "go"
      rw [line24] at hsz
      refine ⟨by omega, by omega, for_range0 (fun i σ H' => Hold (∃ v, σ = [some (.ref a), some (.ref b), v] ∧ Same H H')) ?_ ?_ ?_⟩
      · exact .mk ⟨none, rfl, Same.refl _⟩
      · intro i σ H' hi W
        obtain ⟨v, rfl, s1⟩ := W.out
        have hi2 : i < ds.length := by rw [← ly]; simpa using hi
        obtain ⟨d, hdi⟩ : ∃ d, ds[i]? = some d := ⟨_, List.getElem?_eq_getElem hi2⟩
        obtain ⟨x, hx, dx⟩ := My.DpAll.get ax hdi
        obtain ⟨y, hy, dy⟩ := My.DpAll.get ay hdi
        have hdd := deepAll_get hdi
        have hn : deepAll ds + 1 ≤ n := hd
        obtain ⟨m, rfl⟩ : ∃ m, n = m + 1 := ⟨n - 1, by omega⟩
        have e := hI m rfl
        subst e
        refine ⟨_, rfl, _, rfl, .inl ⟨_, _, _, _, rfl, rfl, s1.seq sx, atI_nat hx, ?_⟩⟩
        refine ⟨_, rfl, _, rfl, .inl ⟨_, _, _, _, rfl, rfl, s1.seq sy, atI_nat hy, ?_⟩⟩
        refine ⟨x, y, d, rfl, Dp.same s1 dx, Dp.same s1 dy, by omega, fun H2 s2 => ?_⟩
        exact ⟨_, rfl, .mk ⟨_, rfl, s1.trans s2⟩⟩
      · intro σ H' W
        obtain ⟨v, rfl, s1⟩ := W.out
        exact kk _ s1
    | tuple ds =>
      cases hx with
      | @tup a xs _ sx ax =>
      cases hy with
      | @tup b ys _ sy ay =>
      have lx := My.DpAll.len ax
      have ly := My.DpAll.len ay
      walk_at "go"
      refine ite2 (fun e => ?_) (fun _ => ?_)
      · rw [lx, ly] at e
        simp at e
      have hsz : ys.length ≤ sizeLine := by assumption
      walk_at "go"
      rw [line24] at hsz
      refine ⟨by omega, by omega, for_range0 (fun i σ H' => Hold (∃ v, σ = [some (.ref a), some (.ref b), v] ∧ Same H H')) ?_ ?_ ?_⟩
      · exact .mk ⟨none, rfl, Same.refl _⟩
      · intro i σ H' hi W
        obtain ⟨v, rfl, s1⟩ := W.out
        have hi2 : i < ds.length := by rw [← ly]; simpa using hi
        obtain ⟨d, hdi⟩ : ∃ d, ds[i]? = some d := ⟨_, List.getElem?_eq_getElem hi2⟩
        obtain ⟨x, hx, dx⟩ := My.DpAll.get ax hdi
        obtain ⟨y, hy, dy⟩ := My.DpAll.get ay hdi
        have hdd := deepAll_get hdi
        have hn : deepAll ds + 1 ≤ n := hd
        obtain ⟨m, rfl⟩ : ∃ m, n = m + 1 := ⟨n - 1, by omega⟩
        have e := hI m rfl
        subst e
        refine ⟨_, rfl, _, rfl, .inr <| .inl ⟨_, _, _, _, rfl, rfl, My.Same.seqT s1 sx, atI_nat hx, ?_⟩⟩
        refine ⟨_, rfl, _, rfl, .inr <| .inl ⟨_, _, _, _, rfl, rfl, My.Same.seqT s1 sy, atI_nat hy, ?_⟩⟩
        refine ⟨x, y, d, rfl, Dp.same s1 dx, Dp.same s1 dy, by omega, fun H2 s2 => ?_⟩
        exact ⟨_, rfl, .mk ⟨_, rfl, s1.trans s2⟩⟩
      · intro σ H' W
        obtain ⟨v, rfl, s1⟩ := W.out
        exact kk _ s1
    | dict _ => cases hx
/-- _law_same of data of any depth up to n -/
theorem k__law_same (T : TopF K mg) (D : Defs K mg) : ∀ n : Nat, Kal P w K mg base CX0 (n + 1) "_law_same" ["actual", "expected"] (spSame K n)
  | 0 => same_step T D 0 0 _ (kal_none D.d__law_same bi__law_same 0) (fun m h => by omega)
  | n + 1 => same_step T D (n + 1) (n + 1) _ (k__law_same T D n) (fun m h => by cases h; rfl)
end
end Mk09
namespace Mk09
open PySem PySem.Spec PyProof.Rows L2 My

open SX
section
variable {P : Program} {w : World} {K : PySem.W.Frag} {mg : Str → Option Value} {base : Heap}
def rowD (d : Nat × List Nat) : PyData := .tuple [.int (d.1 : Nat), .str (S d.2)]
theorem RowsAt.dp {H : Hp} {p : Addr} {ds : List (Nat × List Nat)} (h : RowsAt H p ds) : Dp K H (.ref p) (.list (ds.map rowD)) := by
  obtain ⟨ts, h1, h2, h3⟩ := h
  refine .lst (SqL.of h1) (My.DpAll.by (by simp [h2]) fun i v d a b => ?_)
  obtain ⟨t, ht, rfl⟩ := map_get a
  obtain ⟨e, he, rfl⟩ := map_get b
  exact .tup (.inl (.inl (h3 i t e ht he))) (.cons (.int _) (.cons (.str _) .nil))
theorem rowD_deep (ds : List (Nat × List Nat)) : deep (.list (ds.map rowD)) ≤ 2 := by
  have : ∀ ds : List (Nat × List Nat), deepAll (ds.map rowD) ≤ 1 := by
    intro ds
    induction ds with
    | nil => exact Nat.zero_le _
    | cons d ds ih =>
      show max (deep (rowD d)) (deepAll (ds.map rowD)) ≤ 1
      exact Nat.max_le.mpr ⟨Nat.le_refl _, ih⟩
  exact Nat.succ_le_succ (this ds)
theorem RowsAt.keepS {H H' : Hp} {p s sl : Addr} {ds : List (Nat × List Nat)} (h : RowsAt H p ds) (k : Keep (· = s) H H') (n : p ≠ s) (hs : StAt H s sl) : RowsAt H' p ds := by
  obtain ⟨ts, h1, h2, h3⟩ := h
  obtain ⟨ns, i, c, d, hs, _⟩ := hs
  exact ⟨ts, k _ _ h1 n, h2, fun i t d a b => k _ _ (h3 i t d a b) (ne_of (h3 i t d a b) hs (by intro z; cases z))⟩
theorem law_fn (T : TopF K mg) (D : Defs K mg) {fa : Addr} (hmg : mg "law" = some (.ref fa)) : ∃ fd : FuncData, (∀ (s : Shared) (v : Value), BindsTo s fd ⟨[v], []⟩ [("script", v)]) ∧ ∀ base : Heap, K.In base → base.Ns mainGlobals mg → FnOk P w K mg base CX0 4 fa fd ["script"] (spLaw K) := by
  refine law_of D hmg sc_law (fun vs H Q E h => ?_) (fun base f cdv A outer s₀ H vs Q E hr h => ?_)
  · obtain ⟨_, _, rfl, _⟩ := h; rfl
  · obtain ⟨a, ns, rfl, hS, hlen, kk⟩ := h
    have nd := sc_law.nd
    have c__law_next := k__law_next (P := P) (w := w) (base := base) T D
    have c__law_char := k__law_char (P := P) (w := w) (base := base) T D
    have c__law_line := k__law_line T D c__law_next c__law_char
    have c__law_lines := k__law_lines T D c__law_next c__law_line
    have c_chunks := k_chunks T D (k_line_starts (P := P) (w := w) (base := base) T D)
    have c__law_same := k__law_same (P := P) (w := w) (base := base) T D 2
    refine ⟨_, (pss_cons (ps_set (i := 1) nd rfl (by first | exact Or.inl rfl | exact Or.inr rfl) (pe_lst (pa_cons (pe_callTy call_list_of (by rfl) T.list (by decide +kernel) (pa_cons (pv 0) pa_nil)) (pa_cons pe_int (pa_cons pe_int (pa_cons pe_int pa_nil))))))
 (pss_cons (ps_set (i := 2) nd rfl (by first | exact Or.inl rfl | exact Or.inr rfl) (pe_kal c__law_lines hr (by first | decide | exact Nat.le_refl _) (pa_cons (pv 1) (pa_cons (pe_kal c__law_next hr (by first | decide | exact Nat.le_refl _) (pa_cons (pv 1) (pa_cons pe_int pa_nil))) pa_nil))))
 (pss_cons (ps_set (i := 3) nd rfl (by first | exact Or.inl rfl | exact Or.inr rfl) (pe_lst pa_nil))
 (pss_cons (ps_set (i := 4) nd rfl (by first | exact Or.inl rfl | exact Or.inr rfl) (pv 2))
 (pss_cons (ps_set (i := 5) nd rfl (by first | exact Or.inl rfl | exact Or.inr rfl) (pe_kal c__law_next hr (by first | decide | exact Nat.le_refl _) (pa_cons (pv 1) (pa_cons pe_int pa_nil))))
 (C8.pss_cut (ps_if (pt_cmpR op_eq (pe_kal c__law_next hr (by first | decide | exact Nat.le_refl _) (pa_cons (pv 1) (pa_cons pe_int pa_nil))) pe_int (nomark _))
 (pss_one (ps_set (i := 5) nd rfl (by first | exact Or.inl rfl | exact Or.inr rfl) (pe_op op_add pe_int (pe_kal c__law_next hr (by first | decide | exact Nat.le_refl _) (pa_cons (pv 1) (pa_cons pe_int pa_nil)))))) pss_nil)
 (pss_cons (ps_for PassesOwn.never rfl (pi_range1 (by rfl) T.range (pa_cons (pv 5) pa_nil)) (pg_name (i := 6) nd rfl (by first | exact Or.inl rfl | exact Or.inr rfl))
 (pss_cons (ps_set (i := 7) nd rfl (by first | exact Or.inl rfl | exact Or.inr rfl) (pe_op op_add_str (pe_op op_add_str (pe_op op_add_str (pe_kal c__law_char hr (by first | decide | exact Nat.le_refl _) (pa_cons (pe_op op_add pe_int (pe_kal c__law_next hr (by first | decide | exact Nat.le_refl _) (pa_cons (pv 1) (pa_cons pe_int pa_nil)))) pa_nil)) (pe_kal c__law_line hr (by first | decide | exact Nat.le_refl _) (pa_cons (pv 1) pa_nil))) pe_str) (pe_kal c__law_lines hr (by first | decide | exact Nat.le_refl _) (pa_cons (pv 1) (pa_cons (pe_kal c__law_next hr (by first | decide | exact Nat.le_refl _) (pa_cons (pv 1) (pa_cons (pe_ix ix_list (pe_lst (pa_cons pe_int (pa_cons pe_int pa_nil))) (pe_kal c__law_next hr (by first | decide | exact Nat.le_refl _) (pa_cons (pv 1) (pa_cons pe_int pa_nil))) (fun _ _ => rfl)) pa_nil))) pa_nil)))))
 (C8.pss_cut (ps_if (PW.pt (pw_and (pt_cmpR op_eq (pv 6) (pe_op op_sub (pv 5) pe_int) (nomark _)) (pw_and1 (pt_cmpR op_eq (pe_kal c__law_next hr (by first | decide | exact Nat.le_refl _) (pa_cons (pv 1) (pa_cons pe_int pa_nil))) pe_int (nomark _)))))
 (pss_one (ps_set (i := 7) nd rfl (by first | exact Or.inl rfl | exact Or.inr rfl) (pe_slice sl_str (pv 7) po_none (po_some (pe_op op_sub (pe_callB call_len_str (by rfl) T.len (by decide +kernel) (pa_cons (pv 7) pa_nil)) pe_int))))) pss_nil)
 (pss_cons (ps_expr (pe_bm PySem.F.plainAttrs_list PySem.F.slot_list_append PySem.F.type_list_append mt_append (pv 3) (pa_cons (pe_tup (pa_cons (pe_callB call_len_str (by rfl) T.len (by decide +kernel) (pa_cons (pv 2) pa_nil)) (pa_cons (pv 7) pa_nil))) pa_nil)))
 (pss_one (ps_set (i := 2) nd rfl (by first | exact Or.inl rfl | exact Or.inr rfl) (pe_op op_add_str (pv 2) (pv 7))))))))
 (pss_cons (ps_set (i := 8) nd rfl (by first | exact Or.inl rfl | exact Or.inr rfl) (pe_kal c_chunks hr (by first | decide | exact Nat.le_refl _) (pa_cons (pv 2) pa_nil)))
 (pss_cons (ps_if (pt_not (pt_val (pe_kal c__law_same hr (by first | decide | exact Nat.le_refl _) (pa_cons (pv 8) (pa_cons (pv 3) pa_nil)))))
 (pss_one (ps_ret pe_bl)) pss_nil)
 (pss_one (ps_ret (pe_cmpR op_eq (pe_op op_add_str (pv 4) (pe_join pe_str (pe_lc (g := gTup K 2 (gCons (gName 9) (gCons (gName 7) gNil))) (own := [("position", 9), ("chunk", 7)]) rfl nd (pi_list (pv 8)) (blkOk_by (own := [("position", 9), ("chunk", 7)]) (N := ["script", "state", "text", "expected", "before", "count", "k", "chunk", "actual", "position"]) (sc := defScope s_law) (by decide +kernel)) (fun _ _ _ _ _ => (pg_tup rfl (pgs_cons (pg_name (i := 9) nd rfl (by first | exact Or.inl rfl | exact Or.inr rfl)) (pgs_cons (pg_name (i := 7) nd rfl (by first | exact Or.inl rfl | exact Or.inr rfl)) pgs_nil)))) (fun _ _ _ _ _ => pts_nil) (fun _ _ _ _ _ => (pv 7))))) (pv 2) (nomark _))))))))))))), ?_⟩
    -- state
    refine ⟨_, rfl, _, _, rfl, .inl hS, fun l nl => ?_⟩
    generalize hl : upd _ l _ = H1
    have al := upd_at hl
    refine ⟨by show 4 ≤ sizeLine; decide, fun s nS => ?_⟩
    generalize hs : upd _ s _ = H2
    have st2 : StAt H2 s l := ⟨ns, 0, 0, 1, upd_at hs, same_of hs nS _ _ al, by decide, by decide, by decide⟩
    -- text = _law_lines(state, _law_next(state, 4))
    refine ⟨_, rfl, _, rfl, s, _, 4, rfl, st2, by decide, by decide, fun H3 n k3 st3 n0 n1 => ?_⟩
    obtain ⟨n, rfl⟩ : ∃ m : Nat, n = (m : Int) := ⟨n.toNat, by omega⟩
    refine ⟨s, _, n, rfl, st3, by omega, fun H4 bf k4 st4 hbf lbf => ?_⟩
    -- expected = []
    refine ⟨Nat.zero_le _, fun p np => ?_⟩
    generalize hp : upd _ p _ = H5
    have nps : p ≠ s := fun z => by
      obtain ⟨_, _, _, _, z1, _⟩ := st4
      rw [← z, np] at z1; cases z1
    have npl : p ≠ l := fun z => by
      obtain ⟨_, _, _, _, _, z1, _⟩ := st4
      rw [← z, np] at z1; cases z1
    have s5 := same_of hp np
    have st5 : StAt H5 s l := by
      obtain ⟨ns, i, c, d, a, b, e⟩ := st4
      exact ⟨ns, i, c, d, s5 _ _ a, s5 _ _ b, e⟩
    have ra5 : RowsAt H5 p [] := ⟨[], upd_at hp, rfl, fun i t d a b => by simp at a⟩
    -- before, count
    refine ⟨_, rfl, _, rfl, s, _, 13, rfl, st5, by decide, by decide, fun H6 m k6 st6 m0 m1 => ?_⟩
    have ra6 := ra5.keepS k6 nps st5
    refine ⟨fun σ H' => Hold (∃ m : Nat, σ = [some (.ref a), some (.ref s), some (.str (S bf)), some (.ref p), some (.str (S bf)), some (.int (m : Nat)), none, none, none, none] ∧ m ≤ 149 ∧ StAt H' s l ∧ RowsAt H' p []), ?_, ?_⟩
    · refine ⟨_, rfl, s, _, 6, rfl, st6, by decide, by decide, fun H7 j k7 st7 j0 j1 => ?_⟩
      have ra7 := ra6.keepS k7 nps st6
      walk_at "go"
      refine ite2 (fun e => ?_) (fun e => ?_)
      · refine ⟨_, rfl, s, _, 90, rfl, st7, by decide, by decide, fun H8 x k8 st8 x0 x1 => ?_⟩
        walk_at "go"
        obtain ⟨x, rfl⟩ : ∃ m : Nat, x = (m : Int) := ⟨x.toNat, by omega⟩
        exact .mk ⟨60 + x, rfl, by omega, st8, ra7.keepS k8 nps st7⟩
      · obtain ⟨m, rfl⟩ : ∃ z : Nat, m = (z : Int) := ⟨m.toNat, by omega⟩
        exact .mk ⟨m, rfl, by omega, st7, ra7⟩
    intro σ H' W
    obtain ⟨m, rfl, hm, st7, ra7⟩ := W.out
    clear W
    -- the loop
    refine ⟨_, rfl, _, rfl, by omega, by omega, for_range0 (fun i σ H' => Hold (∃ (v1 v2 : Option V) (cs : List (List Nat)), σ = [some (.ref a), some (.ref s), some (.str (S (bf ++ cs.flatten))), some (.ref p), some (.str (S bf)), some (.int (m : Nat)), v1, v2, none, none] ∧ StAt H' s l ∧ RowsAt H' p (place bf.length cs) ∧ Good cs ∧ (i < m → ∀ d ∈ cs, Ch d ∧ fin true d = true) ∧ cs.length = i ∧ cs.flatten.length ≤ 2000 * i)) ?_ ?_ ?_⟩
    · exact .mk ⟨none, none, [], by simp, st7, ra7, trivial, fun _ d hd => by simp at hd, rfl, by simp⟩
    · intro i σ H' hi W
      obtain ⟨v1, v2, cs, rfl, st, ra, hg, hfin, hcl, hfl⟩ := W.out
      have him : i < m := by simpa using hi
      clear W
      have enl : ("\n" : Str) = S [10] := by decide +kernel
      -- chunk = ..
      refine ⟨_, rfl, s, _, 93, rfl, st, by decide, by decide, fun H1 c0 k1 st1 c00 c01 => ?_⟩
      refine ⟨_, _, rfl, rfl, _, rfl, by omega, by omega, fun c c1 c2 => ?_⟩
      refine ⟨_, rfl, s, _, rfl, st1, fun H2 ln k2 st2 hln lln => ?_⟩
      refine ⟨_, _, rfl, rfl, ?_, ?_⟩
      · rw [S_len, S_len, line24]; simp; omega
      rw [S_cat]
      refine ⟨_, _, rfl, rfl, ?_, ?_⟩
      · rw [enl, S_len, S_len, line24]; simp; omega
      rw [enl, S_cat]
      refine ⟨_, rfl, _, rfl, by show 2 ≤ sizeLine; decide, fun q nq => ?_⟩
      generalize hq : upd _ q _ = H3
      have s3 := same_of hq nq
      have aq := upd_at hq
      have st3 : StAt H3 s l := by
        obtain ⟨ns, i, c, d, a, b, e⟩ := st2
        exact ⟨ns, i, c, d, s3 _ _ a, s3 _ _ b, e⟩
      have nqs : q ≠ s := fun z => by
        obtain ⟨_, _, _, _, z1, _⟩ := st2
        rw [← z, nq] at z1; cases z1
      have ra3 : RowsAt H3 p (place bf.length cs) := ((ra.keepS k1 nps st).keepS k2 nps st1).keep s3
      refine ⟨_, rfl, s, _, 2, rfl, st3, by decide, by decide, fun H4 j k4 st4 j0 j1 => ?_⟩
      have aq4 := k4 _ _ aq nqs
      have ra4 := ra3.keepS k4 nps st3
      obtain ⟨lim, hlim, hl0, hl1⟩ : ∃ lim : Nat, atI [V.int 4, V.int 9] j = some (.int (lim : Nat)) ∧ 0 < lim ∧ lim ≤ 9 := by
        have : j = 0 ∨ j = 1 := by omega
        rcases this with rfl | rfl
        · exact ⟨4, rfl, by decide, by decide⟩
        · exact ⟨9, rfl, by decide, by decide⟩
      refine ⟨_, _, _, _, rfl, rfl, SqL.of aq4, hlim, ?_⟩
      refine ⟨s, _, _, rfl, st4, by omega, by omega, fun H5 x k5 st5 x0 x1 => ?_⟩
      have ra5 := ra4.keepS k5 nps st4
      obtain ⟨x, rfl⟩ : ∃ m : Nat, x = (m : Int) := ⟨x.toNat, by omega⟩
      refine ⟨s, _, x, rfl, st5, by omega, fun H6 bl k6 st6 hbl lbl => ?_⟩
      have ra6 := ra5.keepS k6 nps st5
      refine ⟨_, _, rfl, rfl, ?_, ?_⟩
      · rw [S_len, S_len, line24]; simp; omega
      rw [S_cat]
      have hc2 : c ≠ 32 := c2 (by omega)
      obtain ⟨ch1, ch2⟩ := ch_full (c := c) (m := ln) (b := bl) ⟨hc2, c1⟩ hln hbl
      generalize hch : [c] ++ ln ++ [10] ++ bl = ch at ch1 ch2
      have lch : 2 ≤ ch.length ∧ ch.length ≤ 1100 := by
        rw [← hch]; simp; omega
      clear hq
      -- if k == count - 1 and ..: chunk = chunk[:len(chunk) - 1]
      refine ⟨fun σ H' => Hold (∃ ch : List Nat, σ = [some (.ref a), some (.ref s), some (.str (S (bf ++ cs.flatten))), some (.ref p), some (.str (S bf)), some (.int (m : Nat)), some (.int (i : Nat)), some (.str (S ch)), none, none] ∧ StAt H' s l ∧ RowsAt H' p (place bf.length cs) ∧ Ch ch ∧ (i + 1 < m → fin true ch = true) ∧ ch.length ≤ 1100), ?_, ?_⟩
      · walk_at "go"
        refine ite2 (fun e1 => ?_) (fun e1 => ?_)
        · refine ⟨_, rfl, s, _, 2, rfl, st6, by decide, by decide, fun H7 y k7 st7 y0 y1 => ?_⟩
          have ra7 := ra6.keepS k7 nps st6
          walk_at "go"
          refine ite2 (fun e2 => ?_) (fun e2 => ?_)
          · have ei : i + 1 = m := by have := vint e1; omega
            refine ⟨_, rfl, _, rfl, _, rfl, S_small (by omega), _, _, rfl, rfl, _, rfl, _, rfl, S_small (by omega), ?_⟩
            have ec : cutS (S ch) none (some (((S ch).length : Nat) - 1 : Int)) = S (ch.take (ch.length - 1)) := by
              rw [S_len, show (((ch.length : Nat) : Int) - 1) = ((ch.length - 1 : Nat) : Int) by omega]
              exact cutS_to ch _ (by omega)
            rw [ec]
            exact .mk ⟨_, rfl, st7, ra7, ch_cut ch1 lch.1, fun z => by omega, by rw [List.length_take]; omega⟩
          · exact .mk ⟨ch, rfl, st7, ra7, ch1, fun _ => ch2, lch.2⟩
        · refine ite2 (fun e2 => absurd e2 (by simp)) (fun e2 => ?_)
          exact .mk ⟨ch, rfl, st6, ra6, ch1, fun _ => ch2, lch.2⟩
      clear ch1 ch2 hch lch
      intro σ H' W
      obtain ⟨ch, rfl, st7, ra7, ch1, ch2, lch⟩ := W.out
      clear W
      -- expected.append((len(text), chunk)); text = text + chunk
      have ltx : (bf ++ cs.flatten).length ≤ 500000 := by rw [List.length_append]; omega
      obtain ⟨ts, t1, t2, t3⟩ := id ra7
      refine ⟨_, rfl, .inl ⟨rfl, _, SqL.of t1⟩, _, rfl, _, rfl, S_small (by omega), _, rfl, by show 2 ≤ sizeLine; decide, fun t nt => ?_⟩
      generalize ht : upd _ t _ = H8
      have s8 := same_of ht nt
      have at8 := upd_at ht
      refine ⟨p, _, _, rfl, rfl, s8 _ _ t1, ?_, ?_⟩
      · rw [List.length_map, t2, place_len, hcl, line24]; omega
      have ept : p ≠ t := ne_of_none t1 nt
      have ra8 : RowsAt (upd H8 p (.lst (ts.map V.ref ++ [V.ref t]))) p (place bf.length (cs ++ [ch])) := by
        rw [place_app]
        refine RowsAt.app (H := H8) ts (s8 _ _ t1) t2 (fun i t d a b => s8 _ _ (t3 i t d a b)) (Keep.put rfl) ?_ upd_same
        rw [upd_ne ept.symm, at8, S_len]; simp
      have st8 : StAt (upd H8 p (.lst (ts.map V.ref ++ [V.ref t]))) s l := by
        obtain ⟨ns, i, c, d, a, b, e⟩ := st7
        refine ⟨ns, i, c, d, ?_, ?_, e⟩
        · rw [upd_ne nps.symm]; exact s8 _ _ a
        · rw [upd_ne npl.symm]
          exact s8 _ _ b
      refine ⟨_, rfl, _, rfl, _, _, rfl, rfl, ?_, ?_⟩
      · rw [S_len, S_len, line24]; omega
      rw [S_cat]
      refine .mk ⟨some (.int (i : Nat)), some (.str (S ch)), cs ++ [ch], ?_, st8, ra8, ?_, ?_, by simp [hcl], ?_⟩
      · show [some (V.ref a), some (V.ref s), some (V.str (S (bf ++ cs.flatten ++ ch))), some (V.ref p), some (V.str (S bf)), some (V.int (m : Nat)), some (V.int (i : Nat)), some (V.str (S ch)), none, none] = _
        rw [show bf ++ cs.flatten ++ ch = bf ++ (cs ++ [ch]).flatten by simp]
      · exact good_app cs ch (hfin him) ch1
      · intro h d hd
        rcases List.mem_append.mp hd with hd | hd
        · exact hfin him d hd
        · simp at hd; subst hd
          exact ⟨ch1, ch2 h⟩
      · rw [List.flatten_append, List.length_append]
        have : ([ch].flatten).length = ch.length := by rw [List.flatten_cons, List.flatten_nil, List.append_nil]
        omega
    · intro σ H' W
      obtain ⟨v1, v2, cs, rfl, st, ra, hg, hfin, hcl, hfl⟩ := W.out
      have hcl : cs.length = m := by simpa using hcl
      have hfl : cs.flatten.length ≤ 2000 * m := by simpa using hfl
      have ltx : (bf ++ cs.flatten).length ≤ 500000 := by rw [List.length_append]; omega
      -- actual = chunks(text)
      refine ⟨_, rfl, _, rfl, by omega, fun H1 q s1 nq rq => ?_⟩
      rw [chunks_law hbf hg] at rq
      have ra1 := ra.keep s1
      refine ⟨_, rfl, _, rfl, _, _, _, rfl, rq.dp, ra1.dp, rowD_deep _, fun H2 s2 => ?_⟩
      refine ⟨_, rfl, ?_⟩
      have rq2 := rq.keep s2
      obtain ⟨ts, t1, t2, t3⟩ := id rq2
      refine ⟨_, rfl, ⟨_, rfl⟩, _, rfl, q, rfl, ⟨_, SqL.of t1⟩, fun d ndd => ?_⟩
      refine lc_list (K := K) (a := q) (xs := ts.map V.ref) (fun i H' => Hold (Keep (· = d) H2 H' ∧ H' d = some (.lst ((cs.take i).map fun c => V.str (S c))))) ?_ ?_ ?_ ?_
      · exact .mk ⟨Keep.new ndd, upd_same⟩
      · intro i H' hi W
        exact W.out.1.seq (ne_of_none t1 ndd) (SqL.of t1)
      · intro i x H' hx W
        obtain ⟨kp, hd⟩ := W.out
        obtain ⟨t, ht, rfl⟩ := map_get hx
        obtain ⟨e, he⟩ : ∃ e, (place bf.length cs)[i]? = some e := ⟨_, List.getElem?_eq_getElem (by rw [← t2]; exact (List.getElem?_eq_some_iff.mp ht).1)⟩
        have h3 := t3 i t e ht he
        have h3' := kp _ _ h3 (ne_of_none h3 ndd)
        have hci : cs[i]? = some e.2 := by
          have := congrArg (fun l => l[i]?) (place_snd cs bf.length)
          simp only [List.getElem?_map, he] at this
          exact this.symm
        refine ⟨t, _, rfl, .inl (.inl h3'), rfl, _, _, rfl, _, _, rfl, rfl, rfl, ?_⟩
        refine ⟨_, rfl, _, hd, ?_, .mk ⟨kp.trans (Keep.put rfl), ?_⟩⟩
        · rw [List.length_map, List.length_take, line24]; omega
        · rw [upd_same, List.take_add_one, hci]; simp
      · intro H' W
        obtain ⟨kp, hd⟩ := W.out
        rw [List.length_map, t2, place_len, List.take_length] at hd
        refine ⟨_, _, cs.map S, rfl, rfl, .inl (SqL.of (by rw [List.map_map]; exact hd)), ?_, ?_⟩
        · have e0 : ("" : Str) = S [] := by decide +kernel
          rw [lens, e0, S_len, ← List.length_flatten, List.length_append] at *
          rw [List.length_nil, Nat.mul_zero]; omega
        have ej : Txt.join ("" : Str) (cs.map S) = S cs.flatten := by
          have e0 : ("" : Str) = S [] := by decide +kernel
          rw [e0, join_S]
          congr 1
          have : ∀ cs : List (List Nat), TL.joinL [] cs = cs.flatten := by
            intro cs
            induction cs with
            | nil => rfl
            | cons c cs ih =>
              cases cs with
              | nil => simp [TL.joinL]
              | cons d r =>
                show c ++ ([] ++ TL.joinL [] (d :: r)) = _
                rw [ih]; simp
          exact this cs
        rw [ej]
        refine ⟨_, _, rfl, rfl, ?_, ?_⟩
        · rw [S_len, S_len, line24]; rw [List.length_append] at ltx; omega
        rw [S_cat]
        walk_at "go"
        show Q (V.bl (decide (V.str (S (bf ++ cs.flatten)) = V.str (S (bf ++ cs.flatten))))) _
        rw [decide_eq_true rfl]
        exact kk _
end
end Mk09
namespace Mk09
open PySem PySem.Spec PyProof.Rows L2 My
def dd_line_starts : He.DefD := ⟨("line_starts", none), "line_starts", "line_starts", defArgs s_line_starts, defBody s_line_starts, defScope s_line_starts, [], []⟩
def dd_chunks : He.DefD := ⟨("chunks", none), "chunks", "chunks", defArgs s_chunks, defBody s_chunks, defScope s_chunks, [], []⟩
def dd__law_next : He.DefD := ⟨("_law_next", none), "_law_next", "_law_next", defArgs s__law_next, defBody s__law_next, defScope s__law_next, [], []⟩
def dd__law_same : He.DefD := ⟨("_law_same", none), "_law_same", "_law_same", defArgs s__law_same, defBody s__law_same, defScope s__law_same, [], []⟩
def dd__law_char : He.DefD := ⟨("_law_char", none), "_law_char", "_law_char", defArgs s__law_char, defBody s__law_char, defScope s__law_char, [], []⟩
def dd__law_line : He.DefD := ⟨("_law_line", none), "_law_line", "_law_line", defArgs s__law_line, defBody s__law_line, defScope s__law_line, [], []⟩
def dd__law_lines : He.DefD := ⟨("_law_lines", none), "_law_lines", "_law_lines", defArgs s__law_lines, defBody s__law_lines, defScope s__law_lines, [], []⟩
def dd_law : He.DefD := ⟨("law", none), "law", "law", defArgs s_law, defBody s_law, defScope s_law, [], []⟩
def fn : List He.DefD := ([dd_line_starts, dd_chunks, dd__law_next, dd__law_same, dd__law_char, dd__law_line, dd__law_lines, dd_law] : List He.DefD)
def fa : List He.Fa := ([.glo "line_starts", .glo "chunks", .glo "_law_next", .glo "_law_same", .glo "_law_char", .glo "_law_line", .glo "_law_lines", .glo "law", .free "bool", .free "int", .free "isinstance", .free "len", .free "list", .free "range", .free "str", .free "tuple", .free "zip"] : List He.Fa)
theorem tops {K : PySem.W.Frag} {h : Heap} {mg : Str → Option Value} (X : K.In h) (G : h.Ns mainGlobals mg) (c : He.SaysD fa fn K) : TopF K mg where
  bool := He.free_ok X G (c.fact 8 (f := .free "bool") rfl)
  int_ := He.free_ok X G (c.fact 9 (f := .free "int") rfl)
  isinstance := He.free_ok X G (c.fact 10 (f := .free "isinstance") rfl)
  len := He.free_ok X G (c.fact 11 (f := .free "len") rfl)
  list := He.free_ok X G (c.fact 12 (f := .free "list") rfl)
  range := He.free_ok X G (c.fact 13 (f := .free "range") rfl)
  str := He.free_ok X G (c.fact 14 (f := .free "str") rfl)
  tuple := He.free_ok X G (c.fact 15 (f := .free "tuple") rfl)
  zip := He.free_ok X G (c.fact 16 (f := .free "zip") rfl)
theorem defs {K : PySem.W.Frag} {h : Heap} {mg : Str → Option Value} (X : K.In h) (G : h.Ns mainGlobals mg) (c : He.SaysD fa fn K) : Defs K mg where
  d_line_starts := let ⟨fd, F⟩ := c.def_ 0 (d := dd_line_starts) rfl; ⟨⟨_, fd, F, He.glo_ok X G (c.fact 0 (f := .glo "line_starts") rfl)⟩⟩
  d_chunks := let ⟨fd, F⟩ := c.def_ 1 (d := dd_chunks) rfl; ⟨⟨_, fd, F, He.glo_ok X G (c.fact 1 (f := .glo "chunks") rfl)⟩⟩
  d__law_next := let ⟨fd, F⟩ := c.def_ 2 (d := dd__law_next) rfl; ⟨⟨_, fd, F, He.glo_ok X G (c.fact 2 (f := .glo "_law_next") rfl)⟩⟩
  d__law_same := let ⟨fd, F⟩ := c.def_ 3 (d := dd__law_same) rfl; ⟨⟨_, fd, F, He.glo_ok X G (c.fact 3 (f := .glo "_law_same") rfl)⟩⟩
  d__law_char := let ⟨fd, F⟩ := c.def_ 4 (d := dd__law_char) rfl; ⟨⟨_, fd, F, He.glo_ok X G (c.fact 4 (f := .glo "_law_char") rfl)⟩⟩
  d__law_line := let ⟨fd, F⟩ := c.def_ 5 (d := dd__law_line) rfl; ⟨⟨_, fd, F, He.glo_ok X G (c.fact 5 (f := .glo "_law_line") rfl)⟩⟩
  d__law_lines := let ⟨fd, F⟩ := c.def_ 6 (d := dd__law_lines) rfl; ⟨⟨_, fd, F, He.glo_ok X G (c.fact 6 (f := .glo "_law_lines") rfl)⟩⟩
  d_law := let ⟨fd, F⟩ := c.def_ 7 (d := dd_law) rfl; ⟨⟨_, fd, F, He.glo_ok X G (c.fact 7 (f := .glo "law") rfl)⟩⟩
def loose : List PySem.Str := (["line_starts", "chunks", "_law_next", "_law_same", "_law_char", "_law_line", "_law_lines"] : List PySem.Str)
abbrev R : PySem.W.OpenRow := PySem.W.OpenLaw.row PySem.Challenge.rw_signalwhole_k09_chunks_of_a_text
abbrev hk : PySem.W.Hook := He.hookD 4 fa fn
def ob (s : PySem.W.SharedT) : He.AlD := He.obsDG 4 fa fn (HandSHeadRun.getT s)
theorem ob_eq (s : PySem.W.SharedT) : ob s = hk.obs s.abs := He.obsDG_eq (HandSHeadRun.getT_eq s)
set_option maxHeartbeats 0 in
theorem run (w : World) : HandSHeadRun.RunEq R (PySem.W.view R.prog [9]) hk ob 4000 loose w := by
  intro os
  kernel_rfl
end Mk09
open PySem PySem.W PySem.Calls PyProof.Rows
set_option maxRecDepth 100000 in
set_option maxHeartbeats 0 in
theorem PySem.Challenge.cw_signalwhole_k09_chunks_of_a_text_holds : PySem.Challenge.rw_signalwhole_k09_chunks_of_a_text.Holds := by
  w_on; o_law
  refine HandSHeadRun.head_any (r := OpenLaw.row PySem.Challenge.rw_signalwhole_k09_chunks_of_a_text) (q := view (OpenLaw.row PySem.Challenge.rw_signalwhole_k09_chunks_of_a_text).prog [9]) (H := Mk09.hk) (ob := Mk09.ob) (M := 4000) (loose := Mk09.loose) (d := HandSHeadRun.topDef (OpenLaw.row PySem.Challenge.rw_signalwhole_k09_chunks_of_a_text).prog 9) (kwd := []) Mk09.ob_eq
    (by kernel_rfl) (fun s => by kernel_rfl) Mk09.run (by kernel_rfl) (by kernel_rfl) (by kernel_rfl) (by rfl) (by first | assumption | decide +kernel) (by decide +kernel) ⟨rfl, rfl, rfl, rfl, rfl, by decide +kernel⟩ ?hw ?hc
  case hw => w_witness2
  case hc =>
    refine L2.walk_ofE (l := PySem.Challenge.rw_signalwhole_k09_chunks_of_a_text) (n := 63) (k := 4) (x := "script") (CX := L2.CX0) rfl (by decide) (by kernel_rfl) ⟨rfl, by decide, by decide⟩ ?F (fun _ _ _ _ z => z)
    intro w mg fa h Y G hmg0
    obtain ⟨K, KX, c⟩ := Y
    have hmg : mg ("law" : PySem.Str) = some (.ref fa) := by
      have e : (HandSHeadRun.topDef (OpenLaw.row PySem.Challenge.rw_signalwhole_k09_chunks_of_a_text).prog 9).name = ("law" : PySem.Str) := by kernel_rfl
      rw [← e]
      exact hmg0
    have T := Mk09.tops KX G c
    have D := Mk09.defs KX G c
    obtain ⟨fd, hb, hF⟩ := Mk09.law_fn (P := (PySem.Challenge.rw_signalwhole_k09_chunks_of_a_text).prog) (w := w) T D hmg
    exact ⟨K, fd, Mk09.spLaw K, KX, hb, fun H a ns hl _ hS => ⟨a, ns, rfl, hS, hl, fun _ => rfl⟩, hF⟩
