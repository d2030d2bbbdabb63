import PyProof.Rows.All
import Wide.All
import OpenK.AllK
import Wide.FinOn
import KE.KStateDown
import HandS.ForMost
import HandS.Exc
import HandS.TryOnly
import HandS.ExcOwn
import HandS.WordsExc
import HandS.Defaults
import HandS.IsInst
import HandS.Flow
import HandS.Style
import HandS.TupAny
import HandS.Walk
import HandS.Codes
import HandS.Head0
import HandS.Head1
import HandS.Head2
import HandS.HeadEnd
import HandS.HeadHook1
import HandS.HeadHook2
import HandS.More
import PySem.Challenge.RW_signalwhole_k11_records
set_option Elab.async false
set_option linter.all false
set_option maxRecDepth 100000
set_option maxHeartbeats 4000000

/-! ### my own words over the hand layer -/
namespace My
open PySem PySem.Spec PyProof.Rows L2

/-- a def of the top, by its name -/
structure DefAt (K : PySem.W.Frag) (mg : Str → Option Value) (x : Str) (st : Stmt) : Prop where
  ex : ∃ (f : Addr) (fd : FuncData), FunD K x x (defArgs st) (defBody st) (defScope st) [] [] f fd ∧ mg x = some (.ref f)
/-- a method of a class, by its name -/
structure MetAt (K : PySem.W.Frag) (C : Addr) (m q : Str) (st : Stmt) : Prop where
  cl : Cls K C
  ex : ∃ (f : Addr) (fd : FuncData), FunD K m q (defArgs st) (defBody st) (defScope st) [] [] f fd ∧ Meth K C m f
/-- the maker of a class -/
structure MkAt (K : PySem.W.Frag) (mg : Str → Option Value) (C : Addr) (x q : Str) (st : Stmt) : Prop where
  ex : ∃ (f : Addr) (fd : FuncData), FunD K "__init__" q (defArgs st) (defBody st) (defScope st) [] [] f fd ∧ Mk K C f ∧ mg x = some (.ref C)

/-- what a def promises, by its name -/
structure Kal (P : Program) (w : World) (K : PySem.W.Frag) (mg : Str → Option Value) (base : Heap) (CX : CXT) (k : Nat) (x : Str) (ps : List Str) (sp : Sp) : Prop where
  ex : ∃ (f : Addr) (fd : FuncData), FnOk P w K mg base CX k f fd ps sp ∧ mg x = some (.ref f) ∧ PySem.W.keepIn K (.ref f) = true ∧ Binds K fd ps []
structure KMet (P : Program) (w : World) (K : PySem.W.Frag) (mg : Str → Option Value) (base : Heap) (CX : CXT) (k : Nat) (C : Addr) (m : Str) (ps : List Str) (sp : Sp) : Prop where
  ex : ∃ (f : Addr) (fd : FuncData), FnOk P w K mg base CX k f fd ps sp ∧ Cls K C ∧ Meth K C m f ∧ Binds K fd ps []
structure KMak (P : Program) (w : World) (K : PySem.W.Frag) (mg : Str → Option Value) (base : Heap) (CX : CXT) (k : Nat) (x : Str) (C : Addr) (ps : List Str) (sp : Sp) : Prop where
  ex : ∃ (f : Addr) (fd : FuncData), FnOk P w K mg base CX k f fd ps sp ∧ mg x = some (.ref C) ∧ Mk K C f ∧ Binds K fd ps []

section
variable {X : Cx} {CX : CXT} {k j : Nat} {x m : Str} {p pos apos : Pos} {e o : Expr} {es : List Expr} {t : TA} {ta : TE} {ps : List Str} {sp : Sp} {C : Addr} {W : WX}
theorem pe_kal (c : Kal X.prog X.w X.K X.mg X.base CX0 k x ps sp) (hr : Room j X.A) (hk : k ≤ j) (ha : PA X (e :: es) t) (hg : Gl X x := by rfl) (hdb : (x == ("__debug__" : Str)) = false := by decide)
    (he : starEach (e :: es) X.env = (false, eval e X.env) :: starEach es X.env := by rfl) (hpl : (backTo pos (starEach es X.env)).any (·.1) = false := by rfl) : PE X (.Call (.Name x p) (e :: es) [] pos) (tCall sp [] E0 t) := by
  obtain ⟨f, fd, F, hm, kp, hb⟩ := c.ex
  exact pe_call F (hr.mono hk) hg hm kp hb .nil pass0 ha hdb he hpl
theorem pe_kal0 (c : Kal X.prog X.w X.K X.mg X.base CX0 k x ps sp) (hr : Room j X.A) (hk : k ≤ j) (hg : Gl X x := by rfl) (hdb : (x == ("__debug__" : Str)) = false := by decide) : PE X (.Call (.Name x p) [] [] pos) (tCall sp [] E0 tNil) := by
  obtain ⟨f, fd, F, hm, kp, hb⟩ := c.ex
  exact pe_call0 F (hr.mono hk) hg hm kp hb .nil pass0 hdb
/-- a def that may raise, called where the raised is wished for by W -/
theorem pe_kalX (c : Kal X.prog X.w X.K X.mg X.base (L2.CX X.prog X.w) k x ps sp) (hr : Room j X.A) (hk : k ≤ j) (tk : Takes X W) (ha : PA X (e :: es) t) (hg : Gl X x := by rfl) (hdb : (x == ("__debug__" : Str)) = false := by decide)
    (he : starEach (e :: es) X.env = (false, eval e X.env) :: starEach es X.env := by rfl) (hpl : (backTo pos (starEach es X.env)).any (·.1) = false := by rfl) : PE X (.Call (.Name x p) (e :: es) [] pos) (tCallS sp (WE W) t) := by
  obtain ⟨f, fd, F, hm, kp, hb⟩ := c.ex
  exact pe_callS F (hr.mono hk) hg hm kp hb (fun σ => passAt tk σ) ha hdb he hpl
theorem pe_kmet {pl : Sem Bool} (c : KMet X.prog X.w X.K X.mg X.base CX0 k C m ps sp) (hr : Room j X.A) (hk : k ≤ j) (ho : PE X o ta) (ha : PA X (e :: es) t)
    (hst : starEach (e :: es) X.env = (false, eval e X.env) :: starEach es X.env := by rfl) (hpl : (backTo pos (starEach es X.env)).any (·.1) = false := by rfl)
    (ht : eval (.Call (.Attribute o m apos) (e :: es) [] pos) X.env = (do
      let ov ← eval o X.env
      standAt apos.atName
      let (f, first) ← holding [ov] (getMethod ov m pl)
      callWith pos f first (backTo pos (starEach (e :: es) X.env)) (backToKw pos (keywordEach [] X.env))) := by rfl) :
    PE X (.Call (.Attribute o m apos) (e :: es) [] pos) (tMeth C m sp [] E0 ta t) := by
  obtain ⟨f, fd, F, c, hm, hb⟩ := c.ex
  exact pe_meth ho c hm F (hr.mono hk) hb .nil pass0 ha hst hpl ht
theorem pe_kmet0 {pl : Sem Bool} (c : KMet X.prog X.w X.K X.mg X.base CX0 k C m ps sp) (hr : Room j X.A) (hk : k ≤ j) (ho : PE X o ta)
    (ht : eval (.Call (.Attribute o m apos) [] [] pos) X.env = (do
      let ov ← eval o X.env
      standAt apos.atName
      let (f, first) ← holding [ov] (getMethod ov m pl)
      callWith pos f first (backTo pos (starEach [] X.env)) (backToKw pos (keywordEach [] X.env))) := by rfl) :
    PE X (.Call (.Attribute o m apos) [] [] pos) (tMeth C m sp [] E0 ta tNil) := by
  obtain ⟨f, fd, F, c, hm, hb⟩ := c.ex
  exact pe_meth0 ho c hm F (hr.mono hk) hb .nil pass0 ht
/-- o.m(e, ..) of a method that may raise -/
def tMethX (C : Addr) (m : Str) (sp : Sp) (E : L2.St → XK) (ta : TE) (t : TA) : TE := fun σ H Q => ta σ H fun x H1 => ∃ a dx fs, x = .ref a ∧ H1 a = some (.ins C dx fs) ∧ fs.lookup m = none ∧ t σ H1 fun vs H2 => sp (x :: vs) H2 Q (E σ)
theorem pe_kmetX {pl : Sem Bool} (c : KMet X.prog X.w X.K X.mg X.base (L2.CX X.prog X.w) k C m ps sp) (hr : Room j X.A) (hk : k ≤ j) (tk : Takes X W) (ho : PE X o ta) (ha : PA X (e :: es) t)
    (hst : starEach (e :: es) X.env = (false, eval e X.env) :: starEach es X.env := by rfl) (hpl : (backTo pos (starEach es X.env)).any (·.1) = false := by rfl)
    (ht : eval (.Call (.Attribute o m apos) (e :: es) [] pos) X.env = (do
      let ov ← eval o X.env
      standAt apos.atName
      let (f, first) ← holding [ov] (getMethod ov m pl)
      callWith pos f first (backTo pos (starEach (e :: es) X.env)) (backToKw pos (keywordEach [] X.env))) := by rfl) :
    PE X (.Call (.Attribute o m apos) (e :: es) [] pos) (tMethX C m sp (WE W) ta t) := by
  obtain ⟨f, fd, F, c, hm, hb⟩ := c.ex
  refine ⟨fun pins s σ H Q I h => ?_⟩
  refine PySem.W.methodCall_KW (pl := pl) (thn (ho.run pins s σ H _ I h) fun u s1 ⟨x, H1, I1, rx, a, dx, fs, ex, ea, l, q⟩ => ?_) ht
  subst ex
  obtain rfl : u = Value.ref a := rx
  refine getmeth_ok I1 ea c hm l ?_
  refine PySem.W.callWith_K (first := [.ref a]) (h₀ := X.base) I.ok.mod.kin hm.kp (thn (ha.run pos pins s1 σ H1 _ I1 q) fun us s2 ⟨vs, H2, I2, r, q2⟩ => ⟨I2.kIn, ?_⟩) hst hpl
  exact run_fnS (us := .ref a :: us) (vs := .ref a :: vs) F (hr.mono hk) hb (passAt tk σ) I2 (.cons rfl r) q2
theorem pe_kmetX0 {pl : Sem Bool} (c : KMet X.prog X.w X.K X.mg X.base (L2.CX X.prog X.w) k C m ps sp) (hr : Room j X.A) (hk : k ≤ j) (tk : Takes X W) (ho : PE X o ta)
    (ht : eval (.Call (.Attribute o m apos) [] [] pos) X.env = (do
      let ov ← eval o X.env
      standAt apos.atName
      let (f, first) ← holding [ov] (getMethod ov m pl)
      callWith pos f first (backTo pos (starEach [] X.env)) (backToKw pos (keywordEach [] X.env))) := by rfl) :
    PE X (.Call (.Attribute o m apos) [] [] pos) (tMethX C m sp (WE W) ta tNil) := by
  obtain ⟨f, fd, F, c, hm, hb⟩ := c.ex
  refine ⟨fun pins s σ H Q I h => ?_⟩
  refine PySem.W.methodCall_KW (pl := pl) (thn (ho.run pins s σ H _ I h) fun u s1 ⟨x, H1, I1, rx, a, dx, fs, ex, ea, l, q⟩ => ?_) ht
  subst ex
  obtain rfl : u = Value.ref a := rx
  refine getmeth_ok I1 ea c hm l ?_
  refine PySem.W.callWith_K0 (first := [.ref a]) I1.kIn hm.kp ?_
  exact run_fnS (us := [.ref a]) (vs := [.ref a]) F (hr.mono hk) hb (passAt tk σ) I1 (.cons rfl .nil) q
theorem pe_kmk (c : KMak X.prog X.w X.K X.mg X.base CX0 k x C ps sp) (hr : Room j X.A) (hk : k + 1 ≤ j) (ha : PA X (e :: es) t) (hg : Gl X x := by rfl) (hdb : (x == ("__debug__" : Str)) = false := by decide)
    (he : starEach (e :: es) X.env = (false, eval e X.env) :: starEach es X.env := by rfl) (hpl : (backTo pos (starEach es X.env)).any (·.1) = false := by rfl) : PE X (.Call (.Name x p) (e :: es) [] pos) (tMake C sp [] E0 t) := by
  obtain ⟨f, fd, F, hm, M, hb⟩ := c.ex
  exact pe_make M F (hr.mono hk) hg hm hb .nil pass0 ha hdb he hpl
theorem pe_kmk0 (c : KMak X.prog X.w X.K X.mg X.base CX0 k x C ps sp) (hr : Room j X.A) (hk : k + 1 ≤ j) (hg : Gl X x := by rfl) (hdb : (x == ("__debug__" : Str)) = false := by decide) : PE X (.Call (.Name x p) [] [] pos) (tMake C sp [] E0 tNil) := by
  obtain ⟨f, fd, F, hm, M, hb⟩ := c.ex
  exact pe_make0 M F (hr.mono hk) hg hm hb .nil pass0 hdb
/-- o[i] of a list, for o[i] op= e: the place is told from the front or from the back -/
theorem get_list : PGet X (rIxL X.K) := by
  rintro pins s σ H _ _ ov iv Q I ro ri ⟨p, xs, i, z, rfl, rfl, sq, hat, q⟩
  cases ro
  obtain ⟨t, rfl⟩ := ri
  obtain ⟨us, rel, plain, _⟩ := I.list sq
  obtain ⟨j, seq, get, lt, low, high⟩ := atI_get hat
  obtain ⟨u, hu, ru⟩ := rel.get get
  have same_len := rel.length
  have big := line63
  have done : EP X pins σ Q u s := ⟨z, H, I, ru, q⟩
  rcases Int.lt_or_le i 0 with neg | pos
  · rw [seqIndex_neg neg low] at seq
    have at_ : (i + (us.toArray.size : Int)).toNat = j := by
      rw [List.size_toArray, ← same_len]; exact Option.some.inj seq
    exact wpAny_getItem_list_neg plain.isList neg (by simp only [List.size_toArray]; omega) (by omega) (by rw [at_]; simpa using hu) done
  · rw [seqIndex_of pos high] at seq
    have at_ : i.toNat = j := Option.some.inj seq
    exact wpAny_getItem_list plain.isList pos (by omega) (by rw [at_]; simpa using hu) done
end

/-! ### a def's promise by its body -/
section
variable {P : Program} {w : World} {K : PySem.W.Frag} {mg : Str → Option Value} {base : Heap} {k : Nat} {x m q : Str} {st : Stmt} {N ps : List Str} {sp : Sp} {C : Addr}
/-- how the arguments bind -/
abbrev BindsBy (x q : Str) (st : Stmt) (ps : List Str) : Prop := ∀ (kV doc pm : Value) (an : Option Addr) (cdv ct : Value) (us : List Value), us.length = ps.length → bindArgs (PySem.W.fnOf x q (defArgs st) (defBody st) (defScope st) .none kV doc pm an cdv ct) ⟨us, []⟩ = pure (ps.zip us)
/-- the body keeps the promise; nothing is raised -/
abbrev Body0 (P : Program) (w : World) (K : PySem.W.Frag) (mg : Str → Option Value) (base : Heap) (k : Nat) (q : Str) (st : Stmt) (N : List Str) (sp : Sp) : Prop :=
  ∀ (f : Addr) (cdv : Value) (A : Around) (outer : List Env) (s : Shared) (H : Hp) (vs : List V) (Q : VK) (E : XK), Room k (A.deeper (envOfC q (defScope st) s.heap.objs.size f cdv)) → sp vs H Q E →
      ∃ t, PSs (cxOf CX0 P w K mg base N q (defScope st) f cdv A outer s H E).nox (defBody st) t ∧ t { nx := fun _ H' => Q .non H', rt := Q } (start N vs) H
/-- .. what is raised is wished for -/
abbrev BodyX (P : Program) (w : World) (K : PySem.W.Frag) (mg : Str → Option Value) (base : Heap) (k : Nat) (q : Str) (st : Stmt) (N : List Str) (sp : Sp) : Prop :=
  ∀ (f : Addr) (cdv : Value) (A : Around) (outer : List Env) (s : Shared) (H : Hp) (vs : List V) (Q : VK) (E : XK), Room k (A.deeper (envOfC q (defScope st) s.heap.objs.size f cdv)) → sp vs H Q E →
      ∃ t, PSs (cxOf (L2.CX P w) P w K mg base N q (defScope st) f cdv A outer s H E) (defBody st) t ∧ t { nx := fun _ H' => Q .non H', rt := Q } (start N vs) H
theorem kal_mk (D : DefAt K mg x st) (S : FnScope N ps (defScope st)) (hb : BindsBy x x st ps) (len : ∀ vs H Q E, sp vs H Q E → vs.length = ps.length) (body : Body0 P w K mg base k x st N sp) : Kal P w K mg base CX0 (k + 1) x ps sp := by
  obtain ⟨f, fd, F, hm⟩ := D.ex
  exact ⟨f, fd, F.ok S len fun cdv A outer s H vs Q E hr h => let ⟨t, h1, h2⟩ := body f cdv A outer s H vs Q E hr h; ⟨t, h1.nox, h2⟩, hm, F.kp, F.bindsN hb⟩
theorem kal_mkX (D : DefAt K mg x st) (S : FnScope N ps (defScope st)) (hb : BindsBy x x st ps) (len : ∀ vs H Q E, sp vs H Q E → vs.length = ps.length) (body : BodyX P w K mg base k x st N sp) : Kal P w K mg base (L2.CX P w) (k + 1) x ps sp := by
  obtain ⟨f, fd, F, hm⟩ := D.ex
  exact ⟨f, fd, F.ok S len fun cdv A outer s H vs Q E hr h => body f cdv A outer s H vs Q E hr h, hm, F.kp, F.bindsN hb⟩
theorem kmet_mk (D : MetAt K C m q st) (S : FnScope N ps (defScope st)) (hb : BindsBy m q st ps) (len : ∀ vs H Q E, sp vs H Q E → vs.length = ps.length) (body : Body0 P w K mg base k q st N sp) : KMet P w K mg base CX0 (k + 1) C m ps sp := by
  obtain ⟨f, fd, F, hm⟩ := D.ex
  exact ⟨f, fd, F.ok S len fun cdv A outer s H vs Q E hr h => let ⟨t, h1, h2⟩ := body f cdv A outer s H vs Q E hr h; ⟨t, h1.nox, h2⟩, D.cl, hm, F.bindsN hb⟩
theorem kmet_mkX (D : MetAt K C m q st) (S : FnScope N ps (defScope st)) (hb : BindsBy m q st ps) (len : ∀ vs H Q E, sp vs H Q E → vs.length = ps.length) (body : BodyX P w K mg base k q st N sp) : KMet P w K mg base (L2.CX P w) (k + 1) C m ps sp := by
  obtain ⟨f, fd, F, hm⟩ := D.ex
  exact ⟨f, fd, F.ok S len fun cdv A outer s H vs Q E hr h => body f cdv A outer s H vs Q E hr h, D.cl, hm, F.bindsN hb⟩
theorem kmak_mk (D : MkAt K mg C x q st) (S : FnScope N ps (defScope st)) (hb : BindsBy "__init__" q st ps) (len : ∀ vs H Q E, sp vs H Q E → vs.length = ps.length) (body : Body0 P w K mg base k q st N sp) : KMak P w K mg base CX0 (k + 1) x C ps sp := by
  obtain ⟨f, fd, F, M, hm⟩ := D.ex
  exact ⟨f, fd, F.ok S len fun cdv A outer s H vs Q E hr h => let ⟨t, h1, h2⟩ := body f cdv A outer s H vs Q E hr h; ⟨t, h1.nox, h2⟩, hm, M, F.bindsN hb⟩
end

/-- a module's int -/
theorem pe_gint {X : Cx} {x : Str} {pos : Pos} {i : Int} (hg : Gl X x) (hm : ∃ t, X.mg x = some (.int i t)) (hd : (x == ("__debug__" : Str)) = false := by decide) : PE X (.Name x pos) (tC (.int i)) := by
  obtain ⟨t, e⟩ := hm
  exact pe_glob hg e ⟨t, rfl⟩ hd

/-! ### heaps -/
/-- all that was tracked but what P names is as it was -/
def Keep (P : Addr → Prop) (H H' : Hp) : Prop := ∀ b o, H b = some o → ¬ P b → H' b = some o
theorem Keep.refl {P : Addr → Prop} (H : Hp) : Keep P H H := fun _ _ h _ => h
theorem Keep.trans {P : Addr → Prop} {H H1 H2 : Hp} (a : Keep P H H1) (b : Keep P H1 H2) : Keep P H H2 := fun c o h n => b c o (a c o h n) n
theorem Keep.mono {P P' : Addr → Prop} {H H' : Hp} (a : Keep P H H') (h : ∀ b, P b → P' b ∨ H b = none) : Keep P' H H' := fun b o e n => a b o e fun p => (h b p).elim n fun z => by rw [z] at e; cases e
theorem Keep.of {P : Addr → Prop} {H H' : Hp} (a : Same H H') : Keep P H H' := fun b o e _ => a b o e
theorem Keep.new {P : Addr → Prop} {H : Hp} {p : Addr} {o : HO} (h : H p = none) : Keep P H (upd H p o) := fun b u e _ => by rw [upd_ne (ne_of_none e h)]; exact e
theorem Keep.put {P : Addr → Prop} {H : Hp} {p : Addr} {o : HO} (h : P p) : Keep P H (upd H p o) := fun b u e n => by
  rw [upd_ne fun z => n (by rw [z]; exact h)]
  exact e
theorem same_new {H : Hp} {p : Addr} {o : HO} (h : H p = none) : Same H (upd H p o) := fun b u e => by rw [upd_ne (ne_of_none e h)]; exact e
theorem same_of {H H' : Hp} {p : Addr} {o : HO} (e : upd H p o = H') (h : H p = none) : Same H H' := by rw [← e]; exact same_new h
theorem upd_at {H H' : Hp} {p : Addr} {o : HO} (e : upd H p o = H') : H' p = some o := by rw [← e]; exact upd_same
theorem keep_of {P : Addr → Prop} {H H' : Hp} {p : Addr} {o : HO} (e : upd H p o = H') (h : P p) : Keep P H H' := by rw [← e]; exact Keep.put h
theorem Keep.seq {K : PySem.W.Frag} {P : Addr → Prop} {H H' : Hp} {a : Addr} {xs : List V} (e : Keep P H H') (n : ¬ P a) (h : SqL K H a xs) : SqL K H' a xs := by
  rcases h with (h | ⟨o, h⟩) | h
  · exact .inl (.inl (e _ _ h n))
  · exact .inl (.inr ⟨o, e _ _ h n⟩)
  · exact .inr h
theorem Keep.seqT {K : PySem.W.Frag} {P : Addr → Prop} {H H' : Hp} {a : Addr} {xs : List V} (e : Keep P H H') (n : ¬ P a) (h : SqT K H a xs) : SqT K H' a xs := by
  rcases h with (h | ⟨o, h⟩) | h
  · exact .inl (.inl (e _ _ h n))
  · exact .inl (.inr ⟨o, e _ _ h n⟩)
  · exact .inr h
theorem Same.seqT {K : PySem.W.Frag} {H H' : Hp} {a : Addr} {xs : List V} (e : Same H H') (h : SqT K H a xs) : SqT K H' a xs := by
  rcases h with (h | ⟨o, h⟩) | h
  · exact .inl (.inl (e _ _ h))
  · exact .inl (.inr ⟨o, e _ _ h⟩)
  · exact .inr h
mutual
theorem Dp.same {K : PySem.W.Frag} {H H' : Hp} (e : Same H H') : ∀ {d : PyData} {v : V}, Dp K H v d → Dp K H' v d
  | _, _, .non => .non
  | _, _, .bl b => .bl b
  | _, _, .int i => .int i
  | _, _, .str x => .str x
  | _, _, .lst s a => .lst (e.seq s) (DpAll.same e a)
  | _, _, .tup s a => .tup (Same.seqT e s) (DpAll.same e a)
theorem DpAll.same {K : PySem.W.Frag} {H H' : Hp} (e : Same H H') : ∀ {ds : List PyData} {vs : List V}, DpAll K H vs ds → DpAll K H' vs ds
  | _, _, .nil => .nil
  | _, _, .cons a b => .cons (Dp.same e a) (DpAll.same e b)
end
theorem ty_list {K : PySem.W.Frag} {H : Hp} {a : Addr} {xs : List V} (h : SqL K H a xs) : TyX K H (.ref a) (.type "list") := by
  rcases h with (h | ⟨o, h⟩) | ⟨o, its, n, h, c, _⟩
  · exact .base (.lst h)
  · exact .base (.frz h)
  · exact .kList h c
theorem ty_tup {K : PySem.W.Frag} {H : Hp} {a : Addr} {xs : List V} (h : SqT K H a xs) : TyX K H (.ref a) (.type "tuple") := by
  rcases h with (h | ⟨o, h⟩) | ⟨o, its, n, h, c, _⟩
  · exact .base (.tup h)
  · exact .fTuple h
  · exact .kTuple h c
/-! ### texts by their signs -/
open SX in
theorem S_get {l : List Nat} {j c : Nat} (h : l[j]? = some c) : atI (S l).cps.toList ((j : Nat) : Int) = some c := atI_nat (by simpa [S] using h)
open SX in
theorem S_get' {l : List Nat} {j c : Nat} {z : Int} (e : z = (j : Nat)) (h : l[j]? = some c) : atI (S l).cps.toList z = some c := by
  rw [e]; exact S_get h
theorem line24 : sizeLine = 16777216 := by decide
theorem S_small {l : List Nat} (h : l.length ≤ 16777216) : (SX.S l).length ≤ sizeLine := by rw [SX.S_len, line24]; exact h
theorem cut_S (l : List Nat) (a b : Nat) (hb : b ≤ l.length) : cutS (SX.S l) (some (a : Int)) (some (b : Int)) = SX.S ((l.drop a).take (b - a)) := by
  unfold cutS
  rw [HT.sIx_nat, HT.sIx_nat, SX.S_len, Nat.min_eq_left hb]
  by_cases h : a ≤ l.length
  · rw [Nat.min_eq_left h]
  · rw [Nat.min_eq_right (by omega), List.drop_eq_nil_of_le (show l.length ≤ a by omega), List.drop_eq_nil_of_le (show l.length ≤ l.length by omega)]
    simp
theorem cutS_to (l : List Nat) (b : Nat) (hb : b ≤ l.length) : cutS (SX.S l) none (some (b : Int)) = SX.S (l.take b) := by
  unfold cutS
  rw [HT.sIx_nat, HT.sIx_none, SX.S_len, Nat.min_eq_left hb]
  simp
theorem cutV_from (xs : List V) (a : Nat) : cutV xs (some (a : Int)) none = xs.drop a := by
  unfold cutV
  rw [HT.sIx_nat, HT.sIx_none]
  by_cases h : a ≤ xs.length
  · rw [Nat.min_eq_left h, List.take_of_length_le (by rw [List.length_drop] <;> omega)]
  · rw [Nat.min_eq_right (by omega), List.drop_eq_nil_of_le (show xs.length ≤ xs.length by omega), List.drop_eq_nil_of_le (show xs.length ≤ a by omega)]
    simp
theorem cutV_to (xs : List V) (b : Nat) : cutV xs none (some (b : Int)) = xs.take b := by
  unfold cutV
  rw [HT.sIx_nat, HT.sIx_none]
  by_cases h : b ≤ xs.length
  · rw [Nat.min_eq_left h]; simp
  · rw [Nat.min_eq_right (by omega), List.take_of_length_le (show xs.length ≤ b by omega)]; simp
theorem cutV_mid (xs : List V) (a b : Nat) : cutV xs (some (a : Int)) (some (b : Int)) = (xs.drop a).take (b - a) := by
  unfold cutV
  rw [HT.sIx_nat, HT.sIx_nat]
  by_cases h : a ≤ xs.length
  · by_cases hb : b ≤ xs.length
    · rw [Nat.min_eq_left h, Nat.min_eq_left hb]
    · rw [Nat.min_eq_left h, Nat.min_eq_right (by omega), List.take_of_length_le (by rw [List.length_drop] <;> omega), List.take_of_length_le (by rw [List.length_drop] <;> omega)]
  · rw [Nat.min_eq_right (show xs.length ≤ a by omega), List.drop_eq_nil_of_le (show xs.length ≤ xs.length by omega), List.drop_eq_nil_of_le (show xs.length ≤ a by omega)]
    simp
theorem dec_t {p : Prop} [Decidable p] (h : decide p = true) : p := of_decide_eq_true h
theorem dec_f {p : Prop} [Decidable p] (h : ¬ decide p = true) : ¬ p := fun z => h (decide_eq_true z)
theorem vint {a b : Int} (h : decide (V.int a = V.int b) = true) : a = b := V.int.inj (of_decide_eq_true h)
theorem vintF {a b : Int} (h : ¬ decide (V.int a = V.int b) = true) : a ≠ b := fun z => h (decide_eq_true (by rw [z]))
theorem vstr1 {a : Nat} {l : List Nat} (h : decide (V.str ⟨#[a]⟩ = V.str (SX.S l)) = true) : [a] = l := SX.S_inj (V.str.inj (of_decide_eq_true h) : SX.S [a] = SX.S l)
theorem vstr1F {a : Nat} {l : List Nat} (h : ¬ decide (V.str ⟨#[a]⟩ = V.str (SX.S l)) = true) : [a] ≠ l := fun z => h (decide_eq_true (by rw [← z]))
theorem map_get {α β : Type} {xs : List α} {f : α → β} {i : Nat} {y : β} (h : (xs.map f)[i]? = some y) : ∃ z, xs[i]? = some z ∧ y = f z := by
  rw [List.getElem?_map] at h
  cases e : xs[i]? with
  | none => rw [e] at h; cases h
  | some z => rw [e] at h; exact ⟨z, rfl, (Option.some.inj h).symm⟩
theorem map_put {α β : Type} {xs : List α} {f : α → β} {i : Nat} {z : α} (h : xs[i]? = some z) : (xs.map f)[i]? = some (f z) := by rw [List.getElem?_map, h]; rfl
/-- what holds between two turns, shut for ⟨..⟩ -/
inductive Hold (p : Prop) : Prop where
  | mk (h : p)
  | no (h : False)
theorem Hold.out {p : Prop} : Hold p → p
  | .mk h => h
  | .no h => h.elim
/-! ### walks from 0 on -/
theorem for_range0 {n : Nat} {g : TG} {tb : TS} {D : Ends} {σ : L2.St} {H : Hp} (Pv : Nat → L2.St → Hp → Prop) (h0 : Pv 0 σ H)
    (hs : ∀ (i : Nat) σ H, i < n → Pv i σ H → g (.int (i : Nat)) σ H fun σ2 H2 => tb { D with nx := Pv (i + 1), ct := Pv (i + 1), bk := D.nx } σ2 H2) (hd : ∀ σ H, Pv n σ H → D.nx σ H) :
    ∃ W : Nat → Nat → L2.St → Hp → Prop, (∃ m, W 0 m σ H) ∧ ∀ i m σ H, W i m σ H →
      ((Itr 0 n).stop i H ∧ D.nx σ H) ∨ ((Itr 0 n).go i H ∧ ∃ N : L2.St → Hp → Prop, (∀ σ' H', N σ' H' → ∃ m', m' < m ∧ W (i + 1) m' σ' H') ∧ ∀ x H', (Itr 0 n).yld i H x H' → g x σ H' fun σ2 H2 => tb { D with nx := N, ct := N, bk := D.nx } σ2 H2) :=
  for_range (lo := 0) Pv h0 (fun i σ H hi p => by rw [Int.zero_add]; exact hs i σ H hi p) hd
theorem lc_range0 {n : Nat} {g : TG} {tt : TT} {te : TE} {vs : List Nat} {σ : L2.St} {H1 : Hp} {D : Addr} {Qd : Hp → Prop} (Pv : Nat → Hp → Prop) (h0 : Pv 0 (upd H1 D (.lst [])))
    (hs : ∀ (i : Nat) H, i < n → Pv i H → g (.int (i : Nat)) (wipe σ vs) H fun σ2 H2 => wipe σ2 vs = wipe σ vs ∧ tt σ2 H2 fun b H3 =>
      if b = true then te σ2 H3 fun y H4 => ∃ acc, H4 D = some (.lst acc) ∧ acc.length < sizeLine ∧ Pv (i + 1) (upd H4 D (.lst (acc ++ [y]))) else Pv (i + 1) H3) (hd : ∀ H, Pv n H → Qd H) :
    ∃ W : Nat → Nat → Hp → Prop, (∃ m, W 0 m (upd H1 D (.lst []))) ∧ ∀ i m H, W i m H →
      ((Itr 0 n).stop i H ∧ Qd H) ∨ ((Itr 0 n).go i H ∧ ∃ Nx : Hp → Prop, (∀ H', Nx H' → ∃ m', m' < m ∧ W (i + 1) m' H') ∧ ∀ x H', (Itr 0 n).yld i H x H' → g x (wipe σ vs) H' fun σ2 H2 => wipe σ2 vs = wipe σ vs ∧ tt σ2 H2 fun b H3 =>
        if b = true then te σ2 H3 fun y H4 => ∃ acc, H4 D = some (.lst acc) ∧ acc.length < sizeLine ∧ Nx (upd H4 D (.lst (acc ++ [y]))) else Nx H3) :=
  lc_range (lo := 0) Pv h0 (fun i H hi p => by rw [Int.zero_add]; exact hs i H hi p) hd
/-- len of a text, a list, a tuple; its size is bounded -/
theorem call_lenB {X : Cx} : CallR X (.builtin "len") (fun xs H Q => ∃ x n, xs = [x] ∧ LenV X.K x H n ∧ (n ≤ sizeLine → Q (.int n) H)) := by
  intro pins s σ H xs us Q I r h
  obtain ⟨x, n, rfl, e, q⟩ := h
  have hz : n ≤ sizeLine := by
    cases x with
    | str y => obtain ⟨h1, rfl⟩ := (show y.length ≤ sizeLine ∧ n = y.length from e); exact h1
    | byt y => obtain ⟨h1, rfl⟩ := (show y.size ≤ sizeLine ∧ n = y.size from e); exact h1
    | ref p =>
      rcases (show (∃ xs, SqL X.K H p xs ∧ n = xs.length) ∨ ∃ xs, SqT X.K H p xs ∧ n = xs.length from e) with ⟨xs, h1, rfl⟩ | ⟨xs, h1, rfl⟩
      · obtain ⟨_, _, _, h2⟩ := I.list h1; exact h2
      · obtain ⟨_, _, _, h2⟩ := I.tuple h1; exact h2
    | _ => exact False.elim e
  exact call_len pins s σ H _ us Q I r ⟨x, n, rfl, e, q hz⟩
/-! ### isinstance of data -/
theorem kb_NoneType_bool : kitB "NoneType" "bool" = some false := by decide +kernel
theorem kb_NoneType_int : kitB "NoneType" "int" = some false := by decide +kernel
theorem kb_NoneType_str : kitB "NoneType" "str" = some false := by decide +kernel
theorem kb_NoneType_tuple : kitB "NoneType" "tuple" = some false := by decide +kernel
theorem kb_NoneType_list : kitB "NoneType" "list" = some false := by decide +kernel
theorem kb_bool_bool : kitB "bool" "bool" = some true := by decide +kernel
theorem kb_bool_int : kitB "bool" "int" = some true := by decide +kernel
theorem kb_bool_str : kitB "bool" "str" = some false := by decide +kernel
theorem kb_bool_tuple : kitB "bool" "tuple" = some false := by decide +kernel
theorem kb_bool_list : kitB "bool" "list" = some false := by decide +kernel
theorem kb_int_bool : kitB "int" "bool" = some false := by decide +kernel
theorem kb_int_int : kitB "int" "int" = some true := by decide +kernel
theorem kb_int_str : kitB "int" "str" = some false := by decide +kernel
theorem kb_int_tuple : kitB "int" "tuple" = some false := by decide +kernel
theorem kb_int_list : kitB "int" "list" = some false := by decide +kernel
theorem kb_str_bool : kitB "str" "bool" = some false := by decide +kernel
theorem kb_str_int : kitB "str" "int" = some false := by decide +kernel
theorem kb_str_str : kitB "str" "str" = some true := by decide +kernel
theorem kb_str_tuple : kitB "str" "tuple" = some false := by decide +kernel
theorem kb_str_list : kitB "str" "list" = some false := by decide +kernel
theorem kb_list_bool : kitB "list" "bool" = some false := by decide +kernel
theorem kb_list_int : kitB "list" "int" = some false := by decide +kernel
theorem kb_list_str : kitB "list" "str" = some false := by decide +kernel
theorem kb_list_tuple : kitB "list" "tuple" = some false := by decide +kernel
theorem kb_list_list : kitB "list" "list" = some true := by decide +kernel
theorem kb_tuple_bool : kitB "tuple" "bool" = some false := by decide +kernel
theorem kb_tuple_int : kitB "tuple" "int" = some false := by decide +kernel
theorem kb_tuple_str : kitB "tuple" "str" = some false := by decide +kernel
theorem kb_tuple_tuple : kitB "tuple" "tuple" = some true := by decide +kernel
theorem kb_tuple_list : kitB "tuple" "list" = some false := by decide +kernel
theorem kitLT {K : PySem.W.Frag} {a : String} {r1 r2 : Bool} (h1 : kitB a "list" = some r1) (h2 : kitB a "tuple" = some r2) : PySem.W.kitAny K (.type a) [.type "list", .type "tuple"] = some (r1 || r2) := by
  refine kitAny_cons (kit_ty h1) (fun z => ?_) (fun z => by rw [z]; rfl)
  refine kitAny_cons (kit_ty h2) (fun z2 => ?_) (fun z2 => by rw [z2, Bool.or_true])
  rw [z, z2]; exact kitAny_nil
/-! ### data: how deep; both of the same -/
mutual
def deep : PyData → Nat
  | .list ds => deepAll ds + 1
  | .tuple ds => deepAll ds + 1
  | _ => 0
def deepAll : List PyData → Nat
  | [] => 0
  | d :: ds => max (deep d) (deepAll ds)
end
theorem deepAll_get : ∀ {ds : List PyData} {i : Nat} {d : PyData}, ds[i]? = some d → deep d ≤ deepAll ds
  | [], _, _, h => by simp at h
  | e :: ds, 0, d, h => by
    simp at h; subst h
    unfold deepAll; exact Nat.le_max_left _ _
  | e :: ds, i + 1, d, h => by
    have := deepAll_get (ds := ds) (i := i) (d := d) (by simpa using h)
    unfold deepAll; exact Nat.le_trans this (Nat.le_max_right _ _)
theorem DpAll.get {K : PySem.W.Frag} {H : Hp} : ∀ {vs : List V} {ds : List PyData} {i : Nat} {d : PyData}, DpAll K H vs ds → ds[i]? = some d → ∃ v, vs[i]? = some v ∧ Dp K H v d
  | _, _, _, _, .nil, h => by simp at h
  | _, _, 0, d, .cons a _, h => by simp at h; subst h; exact ⟨_, rfl, a⟩
  | _, _, i + 1, d, .cons _ t, h => by
    obtain ⟨v, h1, h2⟩ := DpAll.get t (i := i) (d := d) (by simpa using h)
    exact ⟨v, by simpa using h1, h2⟩
theorem DpAll.len {K : PySem.W.Frag} {H : Hp} : ∀ {vs : List V} {ds : List PyData}, DpAll K H vs ds → vs.length = ds.length
  | _, _, .nil => rfl
  | _, _, .cons _ t => by simp [DpAll.len t]
theorem DpAll.by {K : PySem.W.Frag} {H : Hp} : ∀ {vs : List V} {ds : List PyData}, vs.length = ds.length → (∀ (i : Nat) (v : V) (d : PyData), vs[i]? = some v → ds[i]? = some d → Dp K H v d) → DpAll K H vs ds
  | [], [], _, _ => .nil
  | [], _ :: _, h, _ => by simp at h
  | _ :: _, [], h, _ => by simp at h
  | v :: vs, d :: ds, h, f => .cons (f 0 v d rfl rfl) (DpAll.by (by simpa using h) fun i v d a b => f (i + 1) v d (by simpa using a) (by simpa using b))
/-- a promise that is never asked -/
theorem kal_none {P : Program} {w : World} {K : PySem.W.Frag} {mg : Str → Option Value} {base : Heap} {x : Str} {st : Stmt} {ps : List Str} (D : DefAt K mg x st) (hb : BindsBy x x st ps) (k : Nat) : Kal P w K mg base CX0 k x ps (fun _ _ _ _ => False) := by
  obtain ⟨f, fd, F, hm⟩ := D.ex
  exact ⟨f, fd, ⟨fun _ _ _ _ h => h.elim, fun _ _ _ _ _ _ _ _ _ _ _ _ _ h => h.elim⟩, hm, F.kp, F.bindsN hb⟩
/-- two values of the same data -/
def spSame (K : PySem.W.Frag) (n : Nat) : Sp := fun vs H Q _ => ∃ (x y : V) (d : PyData), vs = [x, y] ∧ Dp K H x d ∧ Dp K H y d ∧ deep d ≤ n ∧ ∀ H', Same H H' → Q (.bl true) H'
end My
local macro_rules | `(tactic| walk_at "cond") => `(tactic| first
  | omega
  | decide
  | (dsimp only; omega)
  | (refine ⟨?_, ?_⟩ <;> first | omega | decide | (dsimp only; omega))
  | (refine ⟨?_, ?_, ?_⟩ <;> first | omega | decide | (dsimp only; omega))
  | (refine Or.inl ⟨?_, ?_⟩ <;> first | omega | decide | (dsimp only; omega))
  | (refine Or.inr ⟨?_, ?_⟩ <;> first | omega | decide | (dsimp only; omega)))
-- a list's item, the list told by a fact H p = some (.lst ..)
local macro_rules | `(tactic| walk_at "ixl") => `(tactic| ((first
  | refine' ⟨_, _, _, _, rfl, rfl, L2.SqL.of L2.upd_same, ?ati, ?rest⟩
  | refine' ⟨_, _, _, _, rfl, rfl, L2.SqL.of (by assumption), ?ati, ?rest⟩
  | refine' ⟨_, _, _, _, rfl, rfl, (by assumption), ?ati, ?rest⟩); (case ati => first | rfl | assumption | exact L2.atI_nat (by assumption))))
local macro_rules | `(tactic| walk_at "len") => `(tactic| first
  | refine ⟨_, _, rfl, Or.inl (L2.SqL.of L2.upd_same), ?_⟩
  | refine ⟨_, _, rfl, Or.inl (L2.SqL.of (by assumption)), ?_⟩
  | refine ⟨_, _, rfl, Or.inl (by assumption), ?_⟩)
-- a list's item stored
local macro_rules | `(tactic| walk_at "setl") => `(tactic| ((first
  | refine' ⟨_, _, _, _, rfl, rfl, L2.upd_same, ?ix, ?rest⟩
  | refine' ⟨_, _, _, _, rfl, rfl, (by assumption), ?ix, ?rest⟩); (case ix => first | rfl | assumption)))
local macro_rules | `(tactic| walk_at "op") => `(tactic| (refine' ⟨_, _, rfl, rfl, ?c, ?rest⟩; (case c => (show (_ : Prop); walk_at "cond"))))
-- a sign of a text
local macro_rules | `(tactic| walk_at "ixs") => `(tactic| (refine' ⟨_, _, _, rfl, rfl, ?sz, ?ati, ?rest⟩; (case sz => first | assumption | exact My.S_small (by omega)); (case ati => first | assumption | exact My.S_get (by assumption))))
local macro_rules | `(tactic| walk_at "go") => `(tactic| repeat first
  | refine ⟨_, rfl, ?_⟩
  | walk_at "ixl"
  | walk_at "ixs"
  | walk_at "setl"
  | walk_at "len"
  | refine ⟨_, _, rfl, Or.inl ⟨_, (by assumption), rfl⟩, fun _ => ?_⟩
  | refine ⟨_, _, rfl, Or.inr ⟨_, (by assumption), rfl⟩, fun _ => ?_⟩
  | walk_at "isi"
  | walk_at "op"
  | refine ⟨_, _, rfl, rfl, ?_⟩
  | refine ⟨Or.inl ⟨rfl, _, L2.SqL.of L2.upd_same⟩, ?_⟩
  | refine ⟨Or.inl ⟨rfl, _, L2.SqL.of (by assumption)⟩, ?_⟩
  | refine Or.inl ⟨_, rfl, ?_⟩
  | refine ⟨rfl, ?_⟩)
-- xs.append(e), behind its argument
local macro_rules | `(tactic| walk_at "app") => `(tactic| first
  | refine ⟨_, _, _, rfl, rfl, L2.upd_same, ?_, ?_⟩
  | refine ⟨_, _, _, rfl, rfl, (by assumption), ?_, ?_⟩)
-- isinstance(x, T)
local macro_rules | `(tactic| walk_at "kb") => `(tactic| first | exact My.kb_NoneType_bool | exact My.kb_NoneType_int | exact My.kb_NoneType_str | exact My.kb_NoneType_tuple | exact My.kb_NoneType_list | exact My.kb_bool_bool | exact My.kb_bool_int | exact My.kb_bool_str | exact My.kb_bool_tuple | exact My.kb_bool_list | exact My.kb_int_bool | exact My.kb_int_int | exact My.kb_int_str | exact My.kb_int_tuple | exact My.kb_int_list | exact My.kb_str_bool | exact My.kb_str_int | exact My.kb_str_str | exact My.kb_str_tuple | exact My.kb_str_list | exact My.kb_list_bool | exact My.kb_list_int | exact My.kb_list_str | exact My.kb_list_tuple | exact My.kb_list_list | exact My.kb_tuple_bool | exact My.kb_tuple_int | exact My.kb_tuple_str | exact My.kb_tuple_tuple | exact My.kb_tuple_list)
local macro_rules | `(tactic| walk_at "isi") => `(tactic| first
  | refine ⟨_, _, _, _, _, rfl, L2.ClsV.ty _, L2.TyX.base L2.TyOf.non, L2.kit_ty (by walk_at "kb"), ?_⟩
  | refine ⟨_, _, _, _, _, rfl, L2.ClsV.ty _, L2.TyX.base (L2.TyOf.bl _), L2.kit_ty (by walk_at "kb"), ?_⟩
  | refine ⟨_, _, _, _, _, rfl, L2.ClsV.ty _, L2.TyX.base (L2.TyOf.int _), L2.kit_ty (by walk_at "kb"), ?_⟩
  | refine ⟨_, _, _, _, _, rfl, L2.ClsV.ty _, L2.TyX.base (L2.TyOf.str _), L2.kit_ty (by walk_at "kb"), ?_⟩
  | refine ⟨_, _, _, _, _, rfl, L2.ClsV.ty _, My.ty_list (by assumption), L2.kit_ty (by walk_at "kb"), ?_⟩
  | refine ⟨_, _, _, _, _, rfl, L2.ClsV.ty _, My.ty_tup (by assumption), L2.kit_ty (by walk_at "kb"), ?_⟩)

namespace Mk11
/-- a number's bytes -/
def num (n : Nat) : List Nat := if h : n < 128 then [n] else (n % 128 + 128) :: num (n / 128)
decreasing_by omega
theorem num_lo {n : Nat} (h : n < 128) : num n = [n] := by rw [num, dif_pos h]
theorem num_hi {n : Nat} (h : ¬ n < 128) : num n = (n % 128 + 128) :: num (n / 128) := by rw [num, dif_neg h]
theorem num_shape (n : Nat) : ∃ cs d, num n = cs ++ [d] ∧ (∀ c ∈ cs, 128 ≤ c) ∧ d < 128 := by
  induction n using Nat.strongRecOn with
  | _ n ih =>
    by_cases h : n < 128
    · exact ⟨[], n, num_lo h, by simp, h⟩
    · obtain ⟨cs, d, e, h1, h2⟩ := ih (n / 128) (by omega)
      refine ⟨(n % 128 + 128) :: cs, d, by rw [num_hi h, e]; rfl, fun c m => ?_, h2⟩
      rcases List.mem_cons.mp m with rfl | m
      · omega
      · exact h1 c m
theorem num_len {n : Nat} (h : n < 2097152) : (num n).length ≤ 3 := by
  by_cases h1 : n < 128
  · rw [num_lo h1]; simp
  · rw [num_hi h1]
    by_cases h2 : n / 128 < 128
    · rw [num_lo h2]; simp
    · rw [num_hi h2, num_lo (by omega)]; simp
theorem num_pos (n : Nat) : 0 < (num n).length := by
  obtain ⟨cs, d, e, _⟩ := num_shape n
  rw [e]; simp
theorem num_byte (n : Nat) : ∀ c ∈ num n, c < 256 := by
  induction n using Nat.strongRecOn with
  | _ n ih =>
    by_cases h : n < 128
    · rw [num_lo h]; intro c m; simp at m; omega
    · rw [num_hi h]
      intro c m
      rcases List.mem_cons.mp m with rfl | m
      · omega
      · exact ih (n / 128) (by omega) c m
/-- what is read: the number, how many bytes; i bytes before -/
def pnum : Nat → List Nat → Option (Nat × Nat)
  | _, [] => none
  | i, b :: t => if b < 128 then (if b = 0 ∧ 0 < i then none else some (b, 1)) else (pnum (i + 1) t).map fun q => (b % 128 + 128 * q.1, q.2 + 1)
theorem pnum_num : ∀ (n i : Nat) (rest : List Nat), (i = 0 ∨ 0 < n) → pnum i (num n ++ rest) = some (n, (num n).length) := by
  intro n
  induction n using Nat.strongRecOn with
  | _ n ih =>
    intro i rest hi
    by_cases h : n < 128
    · rw [num_lo h]
      show (if n < 128 then (if n = 0 ∧ 0 < i then none else some (n, 1)) else _) = _
      rw [if_pos h, if_neg (by omega)]; rfl
    · rw [num_hi h]
      show (if n % 128 + 128 < 128 then _ else (pnum (i + 1) (num (n / 128) ++ rest)).map _) = _
      rw [if_neg (by omega), ih (n / 128) (by omega) (i + 1) rest (.inr (by omega))]
      simp only [Option.map_some, List.length_cons]
      congr 2
      omega
theorem pnum_open : ∀ (cs : List Nat) (i : Nat), (∀ c ∈ cs, 128 ≤ c) → pnum i cs = none
  | [], _, _ => rfl
  | c :: cs, i, h => by
    have := h c (by simp)
    show (if c < 128 then _ else (pnum (i + 1) cs).map _) = _
    rw [if_neg (by omega), pnum_open cs (i + 1) fun d m => h d (by simp [m])]; rfl
theorem pnum_needless : ∀ (cs : List Nat) (i : Nat) (rest : List Nat), (∀ c ∈ cs, 128 ≤ c) → 0 < i + cs.length → pnum i (cs ++ 0 :: rest) = none
  | [], i, rest, _, p => by
    show (if 0 < 128 then (if 0 = 0 ∧ 0 < i then none else _) else _) = _
    rw [if_pos (by decide), if_pos ⟨rfl, by simpa using p⟩]
  | c :: cs, i, rest, h, p => by
    have := h c (by simp)
    show (if c < 128 then _ else (pnum (i + 1) (cs ++ 0 :: rest)).map _) = _
    rw [if_neg (by omega), pnum_needless cs (i + 1) rest (fun d m => h d (by simp [m])) (by omega)]; rfl
theorem pnum_le : ∀ (l : List Nat) (i v k : Nat), pnum i l = some (v, k) → 0 < k ∧ k ≤ l.length
  | [], _, _, _, h => by cases h
  | b :: t, i, v, k, h => by
    unfold pnum at h
    split at h
    · split at h
      · cases h
      · cases h; simp
    · cases e : pnum (i + 1) t with
      | none => rw [e] at h; cases h
      | some q =>
        obtain ⟨v', k'⟩ := q
        rw [e] at h
        cases h
        have := pnum_le t (i + 1) v' k' e
        simp; omega
/-- the checksum -/
def ck1 (t b : Nat) : Nat := (31 * t + b + 1) % 4294967296
def cks (l : List Nat) : Nat := l.foldl ck1 7
theorem ck_lt : ∀ (l : List Nat) (t : Nat), t < 4294967296 → l.foldl ck1 t < 4294967296
  | [], _, h => h
  | b :: l, t, _ => ck_lt l (ck1 t b) (Nat.mod_lt _ (by decide))
theorem cks_lt (l : List Nat) : cks l < 4294967296 := ck_lt l 7 (by decide)
theorem ck_inj {t u b : Nat} (h1 : t < 4294967296) (h2 : u < 4294967296) (e : ck1 t b = ck1 u b) : t = u := by
  unfold ck1 at e; omega
theorem ck_ne : ∀ (l : List Nat) (t u : Nat), t < 4294967296 → u < 4294967296 → t ≠ u → l.foldl ck1 t ≠ l.foldl ck1 u
  | [], _, _, _, _, h => h
  | b :: l, t, u, h1, h2, h => ck_ne l (ck1 t b) (ck1 u b) (Nat.mod_lt _ (by decide)) (Nat.mod_lt _ (by decide)) fun e => h (ck_inj h1 h2 e)
theorem cks_changed (a c : List Nat) {x y : Nat} (hx : x < 256) (hy : y < 256) (h : x ≠ y) : cks (a ++ x :: c) ≠ cks (a ++ y :: c) := by
  unfold cks
  rw [List.foldl_append, List.foldl_append]
  have ht := ck_lt a 7 (by decide)
  generalize a.foldl ck1 7 = t at ht
  exact ck_ne c (ck1 t x) (ck1 t y) (Nat.mod_lt _ (by decide)) (Nat.mod_lt _ (by decide)) (by unfold ck1; omega)
def tail4 (t : Nat) : List Nat := [t / 16777216, t / 65536 % 256, t / 256 % 256, t % 256]
theorem tail4_inj {t u : Nat} (e : tail4 t = tail4 u) : t = u := by
  simp only [tail4, List.cons.injEq, and_true] at e
  omega
theorem tail4_byte {t : Nat} (h : t < 4294967296) : ∀ c ∈ tail4 t, c < 256 := by
  intro c m
  simp only [tail4, List.mem_cons, List.not_mem_nil, or_false] at m
  omega
theorem tail4_len (t : Nat) : (tail4 t).length = 4 := rfl
def rec (d : List Nat) : List Nat := num d.length ++ d ++ tail4 (cks d)
theorem rec_len (d : List Nat) : (rec d).length = (num d.length).length + d.length + 4 := by
  unfold rec; rw [List.length_append, List.length_append, tail4_len]
/-- what stands at the front: nothing good, or a record and its size -/
def step (l : List Nat) : Option (List Nat × Nat) :=
  match pnum 0 (l.take 60) with
  | none => none
  | some (v, k) => if l.length < k + v + 4 then none else if tail4 (cks ((l.drop k).take v)) = (l.drop (k + v)).take 4 then some ((l.drop k).take v, k + v + 4) else none
theorem take60 {n : Nat} (h : n < 2097152) (rest : List Nat) : pnum 0 ((num n ++ rest).take 60) = some (n, (num n).length) := by
  have := num_len h
  rw [List.take_append, List.take_of_length_le (by omega)]
  exact pnum_num n 0 _ (.inl rfl)
theorem rec_split (d rest : List Nat) : rec d ++ rest = num d.length ++ (d ++ (tail4 (cks d) ++ rest)) := by simp [rec]
theorem step_nil : step [] = none := rfl
/-- the front of the numbers -/
theorem step_num {n : Nat} (h : n < 2097152) (rest : List Nat) : step (num n ++ rest) = if rest.length < n + 4 then none else if tail4 (cks (rest.take n)) = (rest.drop n).take 4 then some (rest.take n, (num n).length + n + 4) else none := by
  unfold step
  rw [take60 h]
  simp only
  rw [List.drop_left' rfl, ← List.drop_drop, List.drop_left' rfl, List.length_append]
  by_cases z : rest.length < n + 4
  · rw [if_pos z, if_pos (by omega)]
  · rw [if_neg z, if_neg (by omega)]
theorem step_rec {d : List Nat} (h : d.length < 2097152) (rest : List Nat) : step (rec d ++ rest) = some (d, (rec d).length) := by
  rw [rec_split, step_num h, if_neg (by simp [tail4_len]), List.take_left' rfl, List.drop_left' rfl, List.take_left' (tail4_len _), if_pos rfl, rec_len]
theorem step_short {d : List Nat} (h : d.length < 2097152) {j : Nat} (hj : j < (rec d).length) : step ((rec d).take j) = none := by
  rw [rec_len] at hj
  unfold rec
  by_cases z : j < (num d.length).length
  · rw [List.append_assoc, List.take_append_of_le_length (by omega)]
    obtain ⟨cs, e, h1, h2, h3⟩ := num_shape d.length
    have hz : j ≤ cs.length := by rw [h1] at z; simp at z; omega
    unfold step
    rw [h1, List.take_append_of_le_length hz, pnum_open _ 0 fun c m => h2 c (List.mem_of_mem_take (List.mem_of_mem_take m))]
  · rw [List.append_assoc, List.take_append, List.take_of_length_le (by omega), step_num h, if_pos]
    rw [List.length_take, List.length_append, tail4_len]; omega
theorem step_tail {d t : List Nat} (h : d.length < 2097152) (ht : t.length = 4) (ne : t ≠ tail4 (cks d)) (rest : List Nat) : step (num d.length ++ d ++ t ++ rest) = none := by
  have e : num d.length ++ d ++ t ++ rest = num d.length ++ (d ++ (t ++ rest)) := by simp
  rw [e, step_num h, if_neg (by simp; omega), List.take_left' rfl, List.drop_left' rfl, List.take_left' ht, if_neg fun z => ne z.symm]
theorem step_data {d d' : List Nat} (h : d.length < 2097152) (hl : d'.length = d.length) (ne : cks d' ≠ cks d) (rest : List Nat) : step (num d.length ++ d' ++ tail4 (cks d) ++ rest) = none := by
  rw [← hl]
  exact step_tail (by omega) (tail4_len _) (fun z => ne (tail4_inj z).symm) rest
theorem step_needless {n r : Nat} (h : n < 2097152) (hr : r ≤ 40) (rest : List Nat) : ∀ {cs : List Nat} {e : Nat}, num n = cs ++ [e] → step (cs ++ ([e + 128] ++ List.replicate r 128 ++ [0]) ++ rest) = none := by
  intro cs e he
  obtain ⟨cs', e', h1, h2, h3⟩ := num_shape n
  have hl := num_len h
  have hcs : cs = cs' := by
    have := List.append_inj' (he.symm.trans h1) rfl
    exact this.1
  subst hcs
  have hl2 : cs.length ≤ 2 := by rw [he] at hl; simp at hl; omega
  have e2 : cs ++ ([e + 128] ++ List.replicate r 128 ++ [0]) ++ rest = (cs ++ (e + 128) :: List.replicate r 128) ++ 0 :: rest := by simp
  unfold step
  rw [e2, List.take_append, List.take_of_length_le (by simp; omega)]
  have h3 : 0 < 60 - (cs ++ (e + 128) :: List.replicate r 128).length := by simp; omega
  obtain ⟨m, hm⟩ : ∃ m, 60 - (cs ++ (e + 128) :: List.replicate r 128).length = m + 1 := ⟨_, (Nat.succ_pred_eq_of_pos h3).symm⟩
  rw [hm, List.take_succ_cons, pnum_needless _ 0 _ (fun c m => ?_) (by simp; omega)]
  rcases List.mem_append.mp m with m | m
  · exact h2 c m
  · rcases List.mem_cons.mp m with rfl | m
    · omega
    · rw [List.eq_of_mem_replicate m]; exact Nat.le_refl _
theorem rec_byte {d : List Nat} (hd : ∀ c ∈ d, c < 256) : ∀ c ∈ rec d, c < 256 := by
  intro c m
  unfold rec at m
  rcases List.mem_append.mp m with m | m
  · rcases List.mem_append.mp m with m | m
    · exact num_byte _ c m
    · exact hd c m
  · exact tail4_byte (cks_lt d) c m
theorem put_mid (A B : List Nat) (j x : Nat) : (A ++ B).take (A.length + j) ++ [x] ++ (A ++ B).drop (A.length + j + 1) = A ++ (B.take j ++ [x] ++ B.drop (j + 1)) := by
  rw [List.take_length_add_append, Nat.add_assoc, List.drop_length_add_append]; simp
/-- a byte behind the number is another one -/
theorem step_chg {d : List Nat} (h : d.length < 2097152) {i x y : Nat} (hi : (rec d)[i]? = some y) (ge : (num d.length).length ≤ i) (hd : ∀ c ∈ d, c < 256) (hx : x < 256) (ne : x ≠ y) (fu : List Nat) : step ((rec d).take i ++ [x] ++ (rec d).drop (i + 1) ++ fu) = none := by
  have hy := rec_byte hd y (List.mem_of_getElem? hi)
  have hlt := (List.getElem?_eq_some_iff.mp hi).1
  rw [rec_len] at hlt
  obtain ⟨j, rfl⟩ : ∃ j, i = (num d.length).length + j := ⟨i - (num d.length).length, by omega⟩
  by_cases z : j < d.length
  · have e : rec d = num d.length ++ (d ++ tail4 (cks d)) := by simp [rec]
    rw [e, List.getElem?_append_right (by omega), Nat.add_sub_cancel_left, List.getElem?_append_left z] at hi
    rw [e, put_mid, List.take_append_of_le_length (by omega), List.drop_append_of_le_length (by omega)]
    have e2 : d = d.take j ++ y :: d.drop (j + 1) := by
      have := (List.getElem?_eq_some_iff.mp hi).2
      rw [← this, ← List.drop_eq_getElem_cons z, List.take_append_drop]
    have := step_data (d := d) (d' := d.take j ++ x :: d.drop (j + 1)) h (by simp; omega) (by
      conv => rhs; rw [e2]
      exact cks_changed _ _ hx hy ne) fu
    rw [← this]; simp
  · obtain ⟨q, rfl⟩ : ∃ q, j = d.length + q := ⟨j - d.length, by omega⟩
    have hq : q < 4 := by omega
    have e : rec d = (num d.length ++ d) ++ tail4 (cks d) := rfl
    have e3 : (num d.length).length + (d.length + q) = (num d.length ++ d).length + q := by simp [Nat.add_assoc]
    rw [e, e3, List.getElem?_append_right (by omega), Nat.add_sub_cancel_left] at hi
    rw [e3, e, put_mid]
    have := step_tail (d := d) (t := (tail4 (cks d)).take q ++ [x] ++ (tail4 (cks d)).drop (q + 1)) h (by simp [tail4_len]; omega) (fun z => by
      have e5 : ((tail4 (cks d)).take q ++ [x] ++ (tail4 (cks d)).drop (q + 1))[q]? = some x := by
        rw [List.append_assoc, List.getElem?_append_right (by simp; omega)]
        simp [tail4_len, Nat.min_eq_left (Nat.le_of_lt hq)]
      rw [z, hi] at e5
      cases e5; exact ne rfl) fu
    rw [← this]
/-- all records -/
def flat (R : List (List Nat)) : List Nat := (R.map rec).flatten
theorem flat_cons (d : List Nat) (R : List (List Nat)) : flat (d :: R) = rec d ++ flat R := rfl
theorem flat_app (R S : List (List Nat)) : flat (R ++ S) = flat R ++ flat S := by simp [flat]
theorem flat_drop {R : List (List Nat)} {i : Nat} {d : List Nat} (h : R[i]? = some d) (tl : List Nat) : (flat R ++ tl).drop (flat (R.take i)).length = rec d ++ (flat (R.drop (i + 1)) ++ tl) := by
  have e : R = R.take i ++ (d :: R.drop (i + 1)) := by
    have hl := (List.getElem?_eq_some_iff.mp h).1
    have := (List.getElem?_eq_some_iff.mp h).2
    rw [← this, ← List.drop_eq_getElem_cons hl, List.take_append_drop]
  have e2 : flat R = flat (R.take i) ++ (rec d ++ flat (R.drop (i + 1))) := by
    conv => lhs; rw [e]
    rw [flat_app, flat_cons]
  rw [e2, List.append_assoc, List.drop_left' rfl, List.append_assoc]
theorem flat_drop_end (R : List (List Nat)) (tl : List Nat) : (flat R ++ tl).drop (flat (R.take R.length)).length = tl := by
  rw [List.take_length, List.drop_left' rfl]
theorem flat_take_succ {R : List (List Nat)} {i : Nat} {d : List Nat} (h : R[i]? = some d) : flat (R.take (i + 1)) = flat (R.take i) ++ rec d := by
  rw [List.take_add_one, h, flat_app]; simp [flat]
/-- where the records end -/
def ends : Nat → List (List Nat) → List Nat
  | s, [] => [s]
  | s, d :: R => s :: ends (s + (rec d).length) R
theorem ends_ge : ∀ (R : List (List Nat)) (s : Nat), ∀ x ∈ ends s R, s ≤ x
  | [], s, x, m => by simp [ends] at m; omega
  | d :: R, s, x, m => by
    simp only [ends, List.mem_cons] at m
    rcases m with rfl | m
    · exact Nat.le_refl _
    · have := ends_ge R _ x m; omega
theorem ends_snoc : ∀ (R : List (List Nat)) (s : Nat) (d : List Nat), ends s (R ++ [d]) = ends s R ++ [s + (flat (R ++ [d])).length]
  | [], s, d => by simp [ends, flat]
  | c :: R, s, d => by
    show s :: ends _ (R ++ [d]) = s :: ends _ R ++ _
    rw [ends_snoc R _ d, List.cons_append, List.cons_append, flat_cons]
    simp [Nat.add_assoc]
theorem ends_get : ∀ (R : List (List Nat)) (s c : Nat), c ≤ R.length → (ends s R)[c]? = some (s + (flat (R.take c)).length)
  | [], s, c, h => by
    have : c = 0 := by simpa using h
    subst this; simp [ends, flat]
  | d :: R, s, 0, h => by simp [ends, flat]
  | d :: R, s, c + 1, h => by
    show (ends _ R)[c]? = _
    rw [ends_get R _ c (by simpa using h), List.take_succ_cons, flat_cons, List.length_append, Nat.add_assoc]
theorem cut_at : ∀ (R : List (List Nat)) (s e : Nat), e ≤ (flat R).length → (∀ d ∈ R, d.length < 2097152) →
    ∃ c tl, c ≤ R.length ∧ ((ends s R).filter fun x => decide (x ≤ s + e)).length = c + 1 ∧ (flat R).take e = flat (R.take c) ++ tl ∧ step tl = none
  | [], s, e, h, _ => by
    have : e = 0 := by simpa [flat] using h
    subst this
    exact ⟨0, [], Nat.le_refl _, by simp [ends], by simp [flat], rfl⟩
  | d :: R, s, e, h, hR => by
    rw [flat_cons, List.length_append] at h
    by_cases z : e < (rec d).length
    · refine ⟨0, (rec d).take e, Nat.zero_le _, ?_, ?_, step_short (hR d (by simp)) z⟩
      · show ((s :: ends _ R).filter _).length = _
        rw [List.filter_cons, if_pos (by simp), List.filter_eq_nil_iff.mpr]
        · rfl
        · intro x m
          have := ends_ge R _ x m
          simp; omega
      · rw [flat_cons, List.take_append_of_le_length (by omega)]; simp [flat]
    · obtain ⟨c, tl, h1, h2, h3, h4⟩ := cut_at R (s + (rec d).length) (e - (rec d).length) (by omega) fun d m => hR d (by simp [m])
      refine ⟨c + 1, tl, by simpa using h1, ?_, ?_, h4⟩
      · show ((s :: ends _ R).filter _).length = _
        rw [List.filter_cons, if_pos (by simp), List.length_cons]
        rw [show s + (rec d).length + (e - (rec d).length) = s + e by omega] at h2
        rw [h2]
      · rw [flat_cons, List.take_append, List.take_of_length_le (by omega), h3, List.take_succ_cons, flat_cons, List.append_assoc]
end Mk11
namespace Mk11
open PySem PySem.Spec PyProof.Rows L2 My
/-! ### the text by places -/
def top (i : Nat) : Stmt := PySem.Challenge.pw_signalwhole_k11_records.main.body.getD i (.Pass ⟨0, 0, 0, 0⟩)
abbrev s_Reader___init__ : Stmt := inClass (top 6) 0
abbrev s_Reader_read_byte : Stmt := inClass (top 6) 1
abbrev s_Reader_read_number : Stmt := inClass (top 6) 4
abbrev s_write_number : Stmt := top 8
abbrev s_checksum : Stmt := top 11
abbrev s_write_record : Stmt := top 12
abbrev s__read_size : Stmt := top 13
abbrev s_read_records : Stmt := top 14
abbrev s__law_mix : Stmt := top 16
abbrev s__law_draws : Stmt := top 17
abbrev s__law_at : Stmt := top 18
abbrev s__law_is_integer : Stmt := top 19
abbrev s__law_same : Stmt := top 20
abbrev s__law_next : Stmt := top 21
abbrev s__law_number : Stmt := top 22
abbrev s__law_checksum : Stmt := top 23
abbrev s__law_record : Stmt := top 24
abbrev s__law_bytes : Stmt := top 25
abbrev s__law_behind : Stmt := top 26
abbrev s_law : Stmt := top 27
theorem sc_Reader___init__ : FnScope ["self", "data"] ["self", "data"] (defScope s_Reader___init__) := ⟨rfl, rfl, rfl, by decide +kernel, rfl, by decide +kernel, by decide +kernel⟩
theorem bi_Reader___init__ : BindsBy "__init__" "Reader.__init__" s_Reader___init__ ["self", "data"] := fun _ _ _ _ _ _ us hl => match us, hl with | [_, _], _ => rfl
theorem sc_Reader_read_byte : FnScope ["self"] ["self"] (defScope s_Reader_read_byte) := ⟨rfl, rfl, rfl, by decide +kernel, rfl, by decide +kernel, by decide +kernel⟩
theorem bi_Reader_read_byte : BindsBy "read_byte" "Reader.read_byte" s_Reader_read_byte ["self"] := fun _ _ _ _ _ _ us hl => match us, hl with | [_], _ => rfl
theorem sc_Reader_read_number : FnScope ["self", "total", "factor", "index", "byte"] ["self"] (defScope s_Reader_read_number) := ⟨rfl, rfl, rfl, by decide +kernel, rfl, by decide +kernel, by decide +kernel⟩
theorem bi_Reader_read_number : BindsBy "read_number" "Reader.read_number" s_Reader_read_number ["self"] := fun _ _ _ _ _ _ us hl => match us, hl with | [_], _ => rfl
theorem sc_write_number : FnScope ["number", "data"] ["number"] (defScope s_write_number) := ⟨rfl, rfl, rfl, by decide +kernel, rfl, by decide +kernel, by decide +kernel⟩
theorem bi_write_number : BindsBy "write_number" "write_number" s_write_number ["number"] := fun _ _ _ _ _ _ us hl => match us, hl with | [_], _ => rfl
theorem sc_checksum : FnScope ["data", "total", "byte"] ["data"] (defScope s_checksum) := ⟨rfl, rfl, rfl, by decide +kernel, rfl, by decide +kernel, by decide +kernel⟩
theorem bi_checksum : BindsBy "checksum" "checksum" s_checksum ["data"] := fun _ _ _ _ _ _ us hl => match us, hl with | [_], _ => rfl
theorem sc_write_record : FnScope ["data", "total", "tail"] ["data"] (defScope s_write_record) := ⟨rfl, rfl, rfl, by decide +kernel, rfl, by decide +kernel, by decide +kernel⟩
theorem bi_write_record : BindsBy "write_record" "write_record" s_write_record ["data"] := fun _ _ _ _ _ _ us hl => match us, hl with | [_], _ => rfl
theorem sc__read_size : FnScope ["data", "start", "reader", "size"] ["data", "start"] (defScope s__read_size) := ⟨rfl, rfl, rfl, by decide +kernel, rfl, by decide +kernel, by decide +kernel⟩
theorem bi__read_size : BindsBy "_read_size" "_read_size" s__read_size ["data", "start"] := fun _ _ _ _ _ _ us hl => match us, hl with | [_, _], _ => rfl
theorem sc_read_records : FnScope ["data", "records", "start", "found", "begin", "size", "record", "end"] ["data"] (defScope s_read_records) := ⟨rfl, rfl, rfl, by decide +kernel, rfl, by decide +kernel, by decide +kernel⟩
theorem bi_read_records : BindsBy "read_records" "read_records" s_read_records ["data"] := fun _ _ _ _ _ _ us hl => match us, hl with | [_], _ => rfl
theorem sc__law_mix : FnScope ["cell", "k", "value"] ["cell", "k"] (defScope s__law_mix) := ⟨rfl, rfl, rfl, by decide +kernel, rfl, by decide +kernel, by decide +kernel⟩
theorem bi__law_mix : BindsBy "_law_mix" "_law_mix" s__law_mix ["cell", "k"] := fun _ _ _ _ _ _ us hl => match us, hl with | [_, _], _ => rfl
theorem sc__law_draws : FnScope ["script", "draws", "k", "cell", "place"] ["script"] (defScope s__law_draws) := ⟨rfl, rfl, rfl, by decide +kernel, rfl, by decide +kernel, by decide +kernel⟩
theorem bi__law_draws : BindsBy "_law_draws" "_law_draws" s__law_draws ["script"] := fun _ _ _ _ _ _ us hl => match us, hl with | [_], _ => rfl
theorem sc__law_at : FnScope ["draws", "index"] ["draws", "index"] (defScope s__law_at) := ⟨rfl, rfl, rfl, by decide +kernel, rfl, by decide +kernel, by decide +kernel⟩
theorem bi__law_at : BindsBy "_law_at" "_law_at" s__law_at ["draws", "index"] := fun _ _ _ _ _ _ us hl => match us, hl with | [_, _], _ => rfl
theorem sc__law_is_integer : FnScope ["actual"] ["actual"] (defScope s__law_is_integer) := ⟨rfl, rfl, rfl, by decide +kernel, rfl, by decide +kernel, by decide +kernel⟩
theorem bi__law_is_integer : BindsBy "_law_is_integer" "_law_is_integer" s__law_is_integer ["actual"] := fun _ _ _ _ _ _ us hl => match us, hl with | [_], _ => rfl
theorem sc__law_same : FnScope ["actual", "expected", "k"] ["actual", "expected"] (defScope s__law_same) := ⟨rfl, rfl, rfl, by decide +kernel, rfl, by decide +kernel, by decide +kernel⟩
theorem bi__law_same : BindsBy "_law_same" "_law_same" s__law_same ["actual", "expected"] := fun _ _ _ _ _ _ us hl => match us, hl with | [_, _], _ => rfl
theorem sc__law_next : FnScope ["state", "limit"] ["state", "limit"] (defScope s__law_next) := ⟨rfl, rfl, rfl, by decide +kernel, rfl, by decide +kernel, by decide +kernel⟩
theorem bi__law_next : BindsBy "_law_next" "_law_next" s__law_next ["state", "limit"] := fun _ _ _ _ _ _ us hl => match us, hl with | [_, _], _ => rfl
theorem sc__law_number : FnScope ["number", "data"] ["number"] (defScope s__law_number) := ⟨rfl, rfl, rfl, by decide +kernel, rfl, by decide +kernel, by decide +kernel⟩
theorem bi__law_number : BindsBy "_law_number" "_law_number" s__law_number ["number"] := fun _ _ _ _ _ _ us hl => match us, hl with | [_], _ => rfl
theorem sc__law_checksum : FnScope ["data", "total", "byte"] ["data"] (defScope s__law_checksum) := ⟨rfl, rfl, rfl, by decide +kernel, rfl, by decide +kernel, by decide +kernel⟩
theorem bi__law_checksum : BindsBy "_law_checksum" "_law_checksum" s__law_checksum ["data"] := fun _ _ _ _ _ _ us hl => match us, hl with | [_], _ => rfl
theorem sc__law_record : FnScope ["data", "total"] ["data"] (defScope s__law_record) := ⟨rfl, rfl, rfl, by decide +kernel, rfl, by decide +kernel, by decide +kernel⟩
theorem bi__law_record : BindsBy "_law_record" "_law_record" s__law_record ["data"] := fun _ _ _ _ _ _ us hl => match us, hl with | [_], _ => rfl
theorem sc__law_bytes : FnScope ["state", "count", "pick", "start", "k"] ["state"] (defScope s__law_bytes) := ⟨rfl, rfl, rfl, by decide +kernel, rfl, by decide +kernel, by decide +kernel⟩
theorem bi__law_bytes : BindsBy "_law_bytes" "_law_bytes" s__law_bytes ["state"] := fun _ _ _ _ _ _ us hl => match us, hl with | [_], _ => rfl
theorem sc__law_behind : FnScope ["state", "data", "record", "further", "pick", "at", "size", "needless"] ["state"] (defScope s__law_behind) := ⟨rfl, rfl, rfl, by decide +kernel, rfl, by decide +kernel, by decide +kernel⟩
theorem bi__law_behind : BindsBy "_law_behind" "_law_behind" s__law_behind ["state"] := fun _ _ _ _ _ _ us hl => match us, hl with | [_], _ => rfl
theorem sc_law : FnScope ["script", "state", "records", "data", "sizes", "record", "passed", "whole", "k", "end", "count", "size"] ["script"] (defScope s_law) := ⟨rfl, rfl, rfl, by decide +kernel, rfl, by decide +kernel, by decide +kernel⟩
theorem bi_law : BindsBy "law" "law" s_law ["script"] := fun _ _ _ _ _ _ us hl => match us, hl with | [_], _ => rfl
/-- what the top leaves of the names that the text uses -/
structure TopF (K : PySem.W.Frag) (mg : Str → Option Value) : Prop where
  bool : mg "bool" = none
  int_ : mg "int" = none
  isinstance : mg "isinstance" = none
  len : mg "len" = none
  list : mg "list" = none
  min : mg "min" = none
  range : mg "range" = none
  str : mg "str" = none
  tuple : mg "tuple" = none
  c_NUMBER_BYTES : ∃ t, mg "NUMBER_BYTES" = some (.int 60 t)
  c_CHECKSUM_LIMIT : ∃ t, mg "CHECKSUM_LIMIT" = some (.int 4294967296 t)
  x_SignalwholeError : He.Fa.ok K (.exc "SignalwholeError") = true
  g_SignalwholeError : mg "SignalwholeError" = some (.ref (He.ga K "SignalwholeError"))
  m_SignalwholeError : He.Fa.ok K (.exm "SignalwholeError" "SignalwholeError" true) = true
  x_DamagedPacket : He.Fa.ok K (.exc "DamagedPacket") = true
  g_DamagedPacket : mg "DamagedPacket" = some (.ref (He.ga K "DamagedPacket"))
  m_DamagedPacket : He.Fa.ok K (.exm "DamagedPacket" "DamagedPacket" true) = true
  n_Reader_data : NoAttr K (He.ga K "Reader") "data"
  n_Reader_at : NoAttr K (He.ga K "Reader") "at"
structure Defs (K : PySem.W.Frag) (mg : Str → Option Value) : Prop where
  d_Reader___init__ : MkAt K mg (He.ga K "Reader") "Reader" "Reader.__init__" s_Reader___init__
  d_Reader_read_byte : MetAt K (He.ga K "Reader") "read_byte" "Reader.read_byte" s_Reader_read_byte
  d_Reader_read_number : MetAt K (He.ga K "Reader") "read_number" "Reader.read_number" s_Reader_read_number
  d_write_number : DefAt K mg "write_number" s_write_number
  d_checksum : DefAt K mg "checksum" s_checksum
  d_write_record : DefAt K mg "write_record" s_write_record
  d__read_size : DefAt K mg "_read_size" s__read_size
  d_read_records : DefAt K mg "read_records" s_read_records
  d__law_mix : DefAt K mg "_law_mix" s__law_mix
  d__law_draws : DefAt K mg "_law_draws" s__law_draws
  d__law_at : DefAt K mg "_law_at" s__law_at
  d__law_is_integer : DefAt K mg "_law_is_integer" s__law_is_integer
  d__law_same : DefAt K mg "_law_same" s__law_same
  d__law_next : DefAt K mg "_law_next" s__law_next
  d__law_number : DefAt K mg "_law_number" s__law_number
  d__law_checksum : DefAt K mg "_law_checksum" s__law_checksum
  d__law_record : DefAt K mg "_law_record" s__law_record
  d__law_bytes : DefAt K mg "_law_bytes" s__law_bytes
  d__law_behind : DefAt K mg "_law_behind" s__law_behind
  d_law : DefAt K mg "law" s_law
/-- the law's own def, for the end -/
def spLaw (K : PySem.W.Frag) : Sp := fun vs H Q _ => ∃ (a : Addr) (ns : List Int), vs = [.ref a] ∧ SqL K H a (ns.map V.int) ∧ ns.length ≤ 63 ∧ ∀ H', Q (.bl true) H'
theorem law_of {P : Program} {w : World} {K : PySem.W.Frag} {mg : Str → Option Value} {fa : Addr} {k : Nat} {sp : Sp} (D : Defs K mg) (hmg : mg "law" = some (.ref fa)) (S : FnScope ["script", "state", "records", "data", "sizes", "record", "passed", "whole", "k", "end", "count", "size"] ["script"] (defScope s_law)) (len : ∀ vs H Q E, sp vs H Q E → vs.length = 1)
    (body : ∀ base : Heap, Body0 P w K mg base k "law" s_law ["script", "state", "records", "data", "sizes", "record", "passed", "whole", "k", "end", "count", "size"] sp) :
    ∃ fd : FuncData, (∀ (s : Shared) (v : Value), BindsTo s fd ⟨[v], []⟩ [("script", v)]) ∧ ∀ base : Heap, K.In base → base.Ns mainGlobals mg → FnOk P w K mg base CX0 (k + 1) fa fd ["script"] sp := by
  obtain ⟨f, fd, F, hm⟩ := D.d_law.ex
  have e := hmg.symm.trans hm
  cases e
  have b := FunD.bindsA (ps := ["script"]) F bi_law
  exact ⟨fd, fun s v => b s [v] rfl, fun base _ _ => F.ok S len fun cdv A outer s H vs Q E hr h => let ⟨t, h1, h2⟩ := body base _ cdv A outer s H vs Q E hr h; ⟨t, h1.nox, h2⟩⟩
end Mk11
namespace Mk11
open PySem PySem.Spec PyProof.Rows L2 My

section
variable {P : Program} {w : World} {K : PySem.W.Frag} {mg : Str → Option Value} {base : Heap}
def spMix : Sp := fun vs H Q _ => ∃ c k : Int, vs = [.int c, .int k] ∧ ∀ r : Int, 0 ≤ r → r < 9973 → Q (.int r) H
theorem k__law_mix (T : TopF K mg) (D : Defs K mg) : Kal P w K mg base CX0 1 "_law_mix" ["cell", "k"] spMix := by
  refine kal_mk D.d__law_mix sc__law_mix bi__law_mix (fun vs H Q E h => ?_) (fun f cdv A outer s H vs Q E hr h => ?_)
  · obtain ⟨_, _, rfl, _⟩ := h; rfl
  · obtain ⟨c, k, rfl, kk⟩ := h
    have nd := sc__law_mix.nd
    refine ⟨_, (pss_cons (ps_set (i := 2) nd rfl (by first | exact Or.inl rfl | exact Or.inr rfl) (pe_op op_mod (pe_callTy call_int1 (by rfl) T.int_ (by decide +kernel) (pa_cons (pe_op op_add (pe_op op_add (pe_op op_mul (pe_callTy call_int1 (by rfl) T.int_ (by decide +kernel) (pa_cons (pv 0) pa_nil)) pe_int) (pe_op op_mul (pv 1) pe_int)) pe_int) pa_nil)) pe_int))
 (pss_cons (ps_set (i := 2) nd rfl (by first | exact Or.inl rfl | exact Or.inr rfl) (pe_op op_mod (pe_callTy call_int1 (by rfl) T.int_ (by decide +kernel) (pa_cons (pe_op op_add (pe_op op_add (pe_op op_mul (pv 2) (pv 2)) (pe_op op_mul (pv 1) pe_int)) pe_int) pa_nil)) pe_int))
 (pss_one (ps_ret (pe_op op_mod (pe_op op_fdiv (pv 2) pe_int) pe_int))))), ?_⟩
    walk_at "go"
    exact kk _ (Int.emod_nonneg _ (by decide)) (Int.emod_lt_of_pos _ (by decide))
/-- a list of draws -/
def DrawsAt (K : PySem.W.Frag) (H : Hp) (p : Addr) (ds : List Int) : Prop := H p = some (.lst (ds.map V.int)) ∧ ∀ d ∈ ds, 0 ≤ d ∧ d < 9973
def spDraws (K : PySem.W.Frag) : Sp := fun vs H Q _ => ∃ (a : Addr) (ns : List Int), vs = [.ref a] ∧ SqL K H a (ns.map V.int) ∧ ∀ (H' : Hp) (p : Addr) (ds : List Int), Same H H' → H p = none → DrawsAt K H' p ds → Q (.ref p) H'
theorem k__law_draws (T : TopF K mg) (D : Defs K mg) (c__law_mix : Kal P w K mg base CX0 1 "_law_mix" ["cell", "k"] spMix) : Kal P w K mg base CX0 2 "_law_draws" ["script"] (spDraws K) := by
  refine kal_mk D.d__law_draws sc__law_draws bi__law_draws (fun vs H Q E h => ?_) (fun f cdv A outer s H vs Q E hr h => ?_)
  · obtain ⟨_, _, rfl, _⟩ := h; rfl
  · obtain ⟨a, ns, rfl, hS, kk⟩ := h
    have nd := sc__law_draws.nd
    refine ⟨_, (pss_cons (ps_set (i := 1) nd rfl (by first | exact Or.inl rfl | exact Or.inr rfl) (pe_lst pa_nil))
 (pss_cons (ps_for PassesOwn.never rfl (pi_range1 (by rfl) T.range (pa_cons (pe_callB (call_min2 rfl) (by rfl) T.min (by decide +kernel) (pa_cons pe_int (pa_cons (pe_callB call_len_seq (by rfl) T.len (by decide +kernel) (pa_cons (pv 0) pa_nil)) pa_nil))) pa_nil)) (pg_name (i := 2) nd rfl (by first | exact Or.inl rfl | exact Or.inr rfl))
 (pss_cons (ps_set (i := 3) nd rfl (by first | exact Or.inl rfl | exact Or.inr rfl) (pe_callTy call_int1 (by rfl) T.int_ (by decide +kernel) (pa_cons (pe_ix ix_list (pv 0) (pv 2) (fun _ _ => rfl)) pa_nil)))
 (pss_one (ps_if (pt_cmpR op_lt (pv 3) (pe_op op_pow pe_int pe_int) (nomark _))
 (pss_one (ps_expr (pe_bm PySem.F.plainAttrs_list PySem.F.slot_list_append PySem.F.type_list_append mt_append (pv 1) (pa_cons (pe_kal c__law_mix hr (by first | decide | exact Nat.le_refl _ | omega) (pa_cons (pv 3) (pa_cons (pv 2) pa_nil))) pa_nil)))) (pss_one (ps_for PassesOwn.never rfl (pi_range1 (by rfl) T.range (pa_cons pe_int pa_nil)) (pg_name (i := 4) nd rfl (by first | exact Or.inl rfl | exact Or.inr rfl))
 (pss_one (ps_if (pt_cmpR op_gt (pv 3) pe_int (nomark _))
 (pss_cons (ps_expr (pe_bm PySem.F.plainAttrs_list PySem.F.slot_list_append PySem.F.type_list_append mt_append (pv 1) (pa_cons (pe_op op_mod (pe_callTy call_int1 (by rfl) T.int_ (by decide +kernel) (pa_cons (pv 3) pa_nil)) pe_int) pa_nil)))
 (pss_one (ps_set (i := 3) nd rfl (by first | exact Or.inl rfl | exact Or.inr rfl) (pe_op op_fdiv (pv 3) pe_int)))) pss_nil))))))))
 (pss_one (ps_ret (pv 1))))), ?_⟩
    refine ⟨Nat.zero_le _, fun p np => ?_⟩
    generalize hp : upd _ p _ = H1
    have s1 := same_of hp np
    have ap := upd_at hp
    have hS1 := s1.seq hS
    refine ⟨_, rfl, _, _, rfl, .inl hS1, _, _, rfl, ?_⟩
    rw [List.length_map]
    refine ⟨_, rfl, by split <;> omega, by split <;> omega, for_range0 (fun i σ H' => Hold (∃ (v1 v2 v3 : Option V) (ds : List Int), σ = [some (.ref a), some (.ref p), v1, v2, v3] ∧ Keep (· = p) H1 H' ∧ DrawsAt K H' p ds ∧ ds.length ≤ 60 * i)) ?_ ?_ ?_⟩
    · exact .mk ⟨none, none, none, [], rfl, Keep.refl _, ⟨ap, by simp⟩, by simp⟩
    · intro i σ H' hi W
      obtain ⟨v1, v2, v3, ds, rfl, kp, ⟨hd, hb⟩, hl⟩ := W.out
      have hi2 : i < ns.length ∧ i < 63 := by split at hi <;> omega
      obtain ⟨z, hz⟩ : ∃ z, ns[i]? = some z := ⟨_, List.getElem?_eq_getElem hi2.1⟩
      have na_p : a ≠ p ∨ True := .inr trivial
      have hSK : SqL K H' a (ns.map V.int) := by
        rcases hS with (h | ⟨o, h⟩) | h
        · exact .inl (.inl (kp _ _ (s1 _ _ h) (ne_of_none h np)))
        · exact .inl (.inr ⟨o, kp _ _ (s1 _ _ h) (ne_of_none h np)⟩)
        · exact .inr h
      refine ⟨_, rfl, _, rfl, _, _, _, _, rfl, rfl, hSK, atI_nat (map_put hz), .inl ⟨_, rfl, ?_⟩⟩
      walk_at "go"
      refine ite2 (fun e => ?_) (fun e => ?_)
      · -- draws.append(_law_mix(cell, k))
        refine ⟨_, rfl, .inl ⟨rfl, _, SqL.of hd⟩, _, rfl, _, rfl, z, i, rfl, fun r r0 r1 => ?_⟩
        refine ⟨p, _, _, rfl, rfl, hd, by rw [List.length_map, line24]; omega, ?_⟩
        refine .mk ⟨_, _, _, ds ++ [r], rfl, kp.trans (Keep.put rfl), ⟨by rw [upd_same]; simp, ?_⟩, by simp; omega⟩
        intro d hd
        rcases List.mem_append.mp hd with hd | hd
        · exact hb d hd
        · simp at hd; omega
      · -- for place in range(60)
        refine ⟨_, rfl, by decide, by decide, for_range0 (fun j σ H' => Hold (∃ (v3 : Option V) (c : Int) (ds : List Int), σ = [some (.ref a), some (.ref p), some (.int (i : Nat)), some (.int c), v3] ∧ Keep (· = p) H1 H' ∧ DrawsAt K H' p ds ∧ ds.length ≤ 60 * i + j)) ?_ ?_ ?_⟩
        · exact .mk ⟨_, _, ds, rfl, kp, ⟨hd, hb⟩, by omega⟩
        · intro j σ H' hj W
          obtain ⟨v3, c, ds, rfl, kp, ⟨hd, hb⟩, hl⟩ := W.out
          have hj : j < 60 := hj
          walk_at "go"
          refine ite2 (fun e => ?_) (fun e => ?_)
          · refine ⟨_, rfl, .inl ⟨rfl, _, SqL.of hd⟩, _, rfl, .inl ⟨_, rfl, ?_⟩⟩
            refine ⟨_, _, rfl, rfl, by show (0 : Int) < 9973; decide, ?_⟩
            refine ⟨p, _, _, rfl, rfl, hd, by rw [List.length_map, line24]; omega, ?_⟩
            refine ⟨_, rfl, _, _, rfl, rfl, ⟨by decide, by decide⟩, ?_⟩
            refine .mk ⟨_, _, ds ++ [c % 9973], rfl, kp.trans (Keep.put rfl), ⟨by rw [upd_same]; simp, ?_⟩, by simp; omega⟩
            intro d hd
            rcases List.mem_append.mp hd with hd | hd
            · exact hb d hd
            · simp at hd
              have h1 := Int.emod_nonneg c (show (9973 : Int) ≠ 0 by decide)
              have h2 := Int.emod_lt_of_pos c (show (0 : Int) < 9973 by decide)
              omega
          · exact .mk ⟨_, _, ds, rfl, kp, ⟨hd, hb⟩, by omega⟩
        · intro σ H' W
          obtain ⟨v3, c, ds, rfl, kp, hd, hl⟩ := W.out
          exact .mk ⟨_, _, _, ds, rfl, kp, hd, by simp at hl; omega⟩
    · intro σ H' W
      obtain ⟨v1, v2, v3, ds, rfl, kp, hd, hl⟩ := W.out
      exact ⟨_, rfl, kk H' p ds (fun b o e => kp b o (s1 b o e) (ne_of_none e np)) np hd⟩
/-- one draw -/
def spAt (K : PySem.W.Frag) : Sp := fun vs H Q _ => ∃ (p : Addr) (ds : List Int) (i : Int), vs = [.ref p, .int i] ∧ DrawsAt K H p ds ∧ 0 ≤ i ∧ ∀ r : Int, 0 ≤ r → r < 9973 → Q (.int r) H
theorem k__law_at (T : TopF K mg) (D : Defs K mg) (c__law_mix : Kal P w K mg base CX0 1 "_law_mix" ["cell", "k"] spMix) : Kal P w K mg base CX0 2 "_law_at" ["draws", "index"] (spAt K) := by
  refine kal_mk D.d__law_at sc__law_at bi__law_at (fun vs H Q E h => ?_) (fun f cdv A outer s H vs Q E hr h => ?_)
  · obtain ⟨_, _, _, rfl, _⟩ := h; rfl
  · obtain ⟨p, ds, i, rfl, ⟨hd, hb⟩, hi, kk⟩ := h
    have nd := sc__law_at.nd
    refine ⟨_, (pss_cons (ps_if (pt_cmpR op_lt (pv 1) (pe_callB call_len_seq (by rfl) T.len (by decide +kernel) (pa_cons (pv 0) pa_nil)) (nomark _))
 (pss_one (ps_ret (pe_ix ix_list (pv 0) (pv 1) (fun _ _ => rfl)))) pss_nil)
 (pss_cons (ps_if (pt_cmpR op_eq (pe_callB call_len_seq (by rfl) T.len (by decide +kernel) (pa_cons (pv 0) pa_nil)) pe_int (nomark _))
 (pss_one (ps_ret (pe_kal c__law_mix hr (by first | decide | exact Nat.le_refl _ | omega) (pa_cons (pv 1) (pa_cons pe_int pa_nil))))) pss_nil)
 (pss_one (ps_ret (pe_kal c__law_mix hr (by first | decide | exact Nat.le_refl _ | omega) (pa_cons (pe_op op_add (pe_ix ix_list (pv 0) (pe_op op_mod (pe_callTy call_int1 (by rfl) T.int_ (by decide +kernel) (pa_cons (pv 1) pa_nil)) (pe_callB call_len_seq (by rfl) T.len (by decide +kernel) (pa_cons (pv 0) pa_nil))) (fun _ _ => rfl)) (pe_op op_mul (pv 1) pe_int)) (pa_cons (pv 1) pa_nil))))))), ?_⟩
    walk_at "go"
    refine ite2 (fun e => ?_) (fun e => ?_)
    · rw [decide_eq_true_eq, List.length_map] at e
      obtain ⟨j, rfl⟩ : ∃ j : Nat, i = (j : Int) := ⟨i.toNat, by omega⟩
      obtain ⟨z, hz⟩ : ∃ z, ds[j]? = some z := ⟨_, List.getElem?_eq_getElem (by omega)⟩
      have hm := hb z (List.mem_of_getElem? hz)
      exact ⟨_, rfl, _, rfl, _, _, _, _, rfl, rfl, SqL.of hd, atI_nat (map_put hz), kk z hm.1 hm.2⟩
    · walk_at "go"
      refine ite2 (fun e2 => ?_) (fun e2 => ?_)
      · exact ⟨_, rfl, i, 77, rfl, fun r r0 r1 => kk r r0 r1⟩
      · have hl : 0 < ds.length := by
          have := vintF e2
          rw [List.length_map] at this
          omega
        refine ⟨_, rfl, _, rfl, .inl ⟨_, rfl, ?_⟩⟩
        refine ⟨_, rfl, _, _, rfl, .inl (SqL.of hd), ?_⟩
        refine ⟨_, _, rfl, rfl, by rw [List.length_map]; show (0 : Int) < _; omega, ?_⟩
        obtain ⟨j, hj, hj2⟩ : ∃ j : Nat, i % (((ds.map V.int).length : Nat) : Int) = (j : Int) ∧ j < ds.length := by
          rw [List.length_map]
          have h1 := Int.emod_nonneg i (b := (ds.length : Int)) (by omega)
          have h2 := Int.emod_lt_of_pos i (b := (ds.length : Int)) (by omega)
          exact ⟨(i % (ds.length : Int)).toNat, by omega, by omega⟩
        obtain ⟨z, hz⟩ : ∃ z, ds[j]? = some z := ⟨_, List.getElem?_eq_getElem hj2⟩
        refine ⟨_, _, _, _, rfl, rfl, SqL.of hd, by rw [hj]; exact atI_nat (map_put hz), ?_⟩
        refine ⟨_, rfl, _, _, rfl, rfl, .inr ⟨by decide, by decide⟩, ?_⟩
        refine ⟨_, _, rfl, rfl, _, rfl, _, _, rfl, fun r r0 r1 => kk r r0 r1⟩
end
end Mk11
namespace Mk11
open PySem PySem.Spec PyProof.Rows L2 My

section
variable {P : Program} {w : World} {K : PySem.W.Frag} {mg : Str → Option Value} {base : Heap}
def spIsInt : Sp := fun vs H Q _ => ∃ i : Int, vs = [.int i] ∧ Q (.bl true) H
theorem k__law_is_integer (T : TopF K mg) (D : Defs K mg) : Kal P w K mg base CX0 1 "_law_is_integer" ["actual"] spIsInt := by
  refine kal_mk D.d__law_is_integer sc__law_is_integer bi__law_is_integer (fun vs H Q E h => ?_) (fun f cdv A outer s H vs Q E hr h => ?_)
  · obtain ⟨_, rfl, _⟩ := h; rfl
  · obtain ⟨i, rfl, kk⟩ := h
    have nd := sc__law_is_integer.nd
    refine ⟨_, (pss_one (ps_ret (pe_and (pe_callB call_isi (by rfl) T.isinstance (by decide +kernel) (pa_cons (pv 0) (pa_cons (pe_bltn (v := .ty "int") (u := .type "int") (by rfl) T.int_ (by decide +kernel) rfl) pa_nil))) (pe_one (pe_not (pe_callB call_isi (by rfl) T.isinstance (by decide +kernel) (pa_cons (pv 0) (pa_cons (pe_bltn (v := .ty "bool") (u := .type "bool") (by rfl) T.bool (by decide +kernel) rfl) pa_nil)))))))), ?_⟩
    walk_at "go"
    exact kk
theorem same_step (T : TopF K mg) (D : Defs K mg) (k n : Nat) (spI : Sp) (c__law_is_integer : Kal P w K mg base CX0 1 "_law_is_integer" ["actual"] spIsInt) (c__law_same : Kal P w K mg base CX0 (k + 1) "_law_same" ["actual", "expected"] spI) (hI : ∀ m, n = m + 1 → spI = spSame K m) : Kal P w K mg base CX0 (k + 2) "_law_same" ["actual", "expected"] (spSame K n) := by
  refine kal_mk D.d__law_same sc__law_same bi__law_same (fun vs H Q E h => ?_) (fun f cdv A outer s H vs Q E hr h => ?_)
  · obtain ⟨_, _, _, rfl, _⟩ := h; rfl
  · obtain ⟨x, y, d, rfl, hx, hy, hd, kk⟩ := h
    have nd := sc__law_same.nd
    refine ⟨_, (pss_cons (ps_if (pt_val (pe_callB call_isiT (by rfl) T.isinstance (by decide +kernel) (pa_cons (pv 1) (pa_cons (pe_tup (pa_cons (pe_bltn (v := .ty "list") (u := .type "list") (by rfl) T.list (by decide +kernel) rfl) (pa_cons (pe_bltn (v := .ty "tuple") (u := .type "tuple") (by rfl) T.tuple (by decide +kernel) rfl) pa_nil))) pa_nil))))
 (pss_cons (ps_if (PW.pt (pw_or (pt_cmpR op_ne (pe_callB call_isi (by rfl) T.isinstance (by decide +kernel) (pa_cons (pv 1) (pa_cons (pe_bltn (v := .ty "list") (u := .type "list") (by rfl) T.list (by decide +kernel) rfl) pa_nil))) (pe_callB call_isi (by rfl) T.isinstance (by decide +kernel) (pa_cons (pv 0) (pa_cons (pe_bltn (v := .ty "list") (u := .type "list") (by rfl) T.list (by decide +kernel) rfl) pa_nil))) (nomark _)) (pw_or1 (pt_cmpR op_ne (pe_callB call_isi (by rfl) T.isinstance (by decide +kernel) (pa_cons (pv 1) (pa_cons (pe_bltn (v := .ty "tuple") (u := .type "tuple") (by rfl) T.tuple (by decide +kernel) rfl) pa_nil))) (pe_callB call_isi (by rfl) T.isinstance (by decide +kernel) (pa_cons (pv 0) (pa_cons (pe_bltn (v := .ty "tuple") (u := .type "tuple") (by rfl) T.tuple (by decide +kernel) rfl) pa_nil))) (nomark _)))))
 (pss_one (ps_ret pe_bl)) pss_nil)
 (pss_cons (ps_if (pt_cmpR op_ne (pe_callB call_lenB (by rfl) T.len (by decide +kernel) (pa_cons (pv 0) pa_nil)) (pe_callB call_lenB (by rfl) T.len (by decide +kernel) (pa_cons (pv 1) pa_nil)) (nomark _))
 (pss_one (ps_ret pe_bl)) pss_nil)
 (pss_cons (ps_for PassesOwn.never rfl (pi_range1 (by rfl) T.range (pa_cons (pe_callB call_lenB (by rfl) T.len (by decide +kernel) (pa_cons (pv 1) pa_nil)) pa_nil)) (pg_name (i := 2) nd rfl (by first | exact Or.inl rfl | exact Or.inr rfl))
 (pss_one (ps_if (pt_not (pt_val (pe_kal c__law_same hr (by first | decide | exact Nat.le_refl _ | omega) (pa_cons (pe_ix ix_seq (pv 0) (pv 2) (fun _ _ => rfl)) (pa_cons (pe_ix ix_seq (pv 1) (pv 2) (fun _ _ => rfl)) pa_nil)))))
 (pss_one (ps_ret pe_bl)) pss_nil)))
 (pss_one (ps_ret pe_bl))))) pss_nil)
 (pss_cons (ps_if (pt_cmpR op_isN (pv 1) pe_non (nomark _))
 (pss_one (ps_ret (pe_cmpR op_isN (pv 0) pe_non (nomark _)))) pss_nil)
 (pss_cons (ps_if (pt_val (pe_callB call_isi (by rfl) T.isinstance (by decide +kernel) (pa_cons (pv 1) (pa_cons (pe_bltn (v := .ty "bool") (u := .type "bool") (by rfl) T.bool (by decide +kernel) rfl) pa_nil))))
 (pss_one (ps_ret (pe_and (pe_callB call_isi (by rfl) T.isinstance (by decide +kernel) (pa_cons (pv 0) (pa_cons (pe_bltn (v := .ty "bool") (u := .type "bool") (by rfl) T.bool (by decide +kernel) rfl) pa_nil))) (pe_one (pe_cmpR op_eq (pv 0) (pv 1) (nomark _)))))) pss_nil)
 (pss_cons (ps_if (pt_val (pe_callB call_isi (by rfl) T.isinstance (by decide +kernel) (pa_cons (pv 1) (pa_cons (pe_bltn (v := .ty "int") (u := .type "int") (by rfl) T.int_ (by decide +kernel) rfl) pa_nil))))
 (pss_one (ps_ret (pe_and (pe_kal c__law_is_integer hr (by first | decide | exact Nat.le_refl _ | omega) (pa_cons (pv 0) pa_nil)) (pe_one (pe_cmpR op_eq (pv 0) (pv 1) (nomark _)))))) pss_nil)
 (pss_one (ps_ret (pe_and (pe_callB call_isi (by rfl) T.isinstance (by decide +kernel) (pa_cons (pv 0) (pa_cons (pe_bltn (v := .ty "str") (u := .type "str") (by rfl) T.str (by decide +kernel) rfl) pa_nil))) (pe_one (pe_cmpR op_eq (pv 0) (pv 1) (nomark _)))))))))), ?_⟩
    refine ⟨_, rfl, by show 2 ≤ sizeLine; decide, fun p np => ?_⟩
    generalize hp : upd _ p _ = H1
    have s1 := same_of hp np
    have ap := upd_at hp
    replace hx := Dp.same s1 hx
    replace hy := Dp.same s1 hy
    clear hp
    cases d with
    | none =>
      cases hx; cases hy
      refine ⟨_, _, _, _, _, _, rfl, ap, .cons (.ty _) (.cons (.ty _) .nil), L2.TyX.base L2.TyOf.non, kitLT kb_NoneType_list kb_NoneType_tuple, ?_⟩
      walk_at "go"
      exact kk _ s1
    | bool b =>
      cases hx; cases hy
      refine ⟨_, _, _, _, _, _, rfl, ap, .cons (.ty _) (.cons (.ty _) .nil), L2.TyX.base (L2.TyOf.bl _), kitLT kb_bool_list kb_bool_tuple, ?_⟩
      walk_at "go"
      show Q (V.bl (decide (V.bl b = V.bl b))) H1
      rw [decide_eq_true rfl]
      exact kk _ s1
    | int i =>
      cases hx; cases hy
      refine ⟨_, _, _, _, _, _, rfl, ap, .cons (.ty _) (.cons (.ty _) .nil), L2.TyX.base (L2.TyOf.int _), kitLT kb_int_list kb_int_tuple, ?_⟩
      walk_at "go"
      show Q (V.bl (decide (V.int i = V.int i))) H1
      rw [decide_eq_true rfl]
      exact kk _ s1
    | str x =>
      cases hx; cases hy
      refine ⟨_, _, _, _, _, _, rfl, ap, .cons (.ty _) (.cons (.ty _) .nil), L2.TyX.base (L2.TyOf.str _), kitLT kb_str_list kb_str_tuple, ?_⟩
      walk_at "go"
      show Q (V.bl (decide (V.str x = V.str x))) H1
      rw [decide_eq_true rfl]
      exact kk _ s1
    | list ds =>
      cases hx with
      | @lst a xs _ sx ax =>
      cases hy with
      | @lst b ys _ sy ay =>
      have lx := My.DpAll.len ax
      have ly := My.DpAll.len ay
      refine ⟨_, _, _, _, _, _, rfl, ap, .cons (.ty _) (.cons (.ty _) .nil), ty_list sy, kitLT kb_list_list kb_list_tuple, ?_⟩
      walk_at "go"
      refine ite2 (fun e => ?_) (fun _ => ?_)
      · rw [lx, ly] at e
        simp at e
      have hsz : ys.length ≤ sizeLine := by assumption
      walk_at "go"
      rw [line24] at hsz
      refine ⟨by omega, by omega, for_range0 (fun i σ H' => Hold (∃ v, σ = [some (.ref a), some (.ref b), v] ∧ Same H1 H')) ?_ ?_ ?_⟩
      · exact .mk ⟨none, rfl, Same.refl _⟩
      · intro i σ H' hi W
        obtain ⟨v, rfl, s2⟩ := W.out
        have hi2 : i < ds.length := by rw [← ly]; simpa using hi
        obtain ⟨d, hdi⟩ : ∃ d, ds[i]? = some d := ⟨_, List.getElem?_eq_getElem hi2⟩
        obtain ⟨x, hx, dx⟩ := My.DpAll.get ax hdi
        obtain ⟨y, hy, dy⟩ := My.DpAll.get ay hdi
        have hdd := deepAll_get hdi
        have hn : deepAll ds + 1 ≤ n := hd
        obtain ⟨m, rfl⟩ : ∃ m, n = m + 1 := ⟨n - 1, by omega⟩
        have e := hI m rfl
        subst e
        refine ⟨_, rfl, _, rfl, .inl ⟨_, _, _, _, rfl, rfl, s2.seq sx, atI_nat hx, ?_⟩⟩
        refine ⟨_, rfl, _, rfl, .inl ⟨_, _, _, _, rfl, rfl, s2.seq sy, atI_nat hy, ?_⟩⟩
        refine ⟨x, y, d, rfl, Dp.same s2 dx, Dp.same s2 dy, by omega, fun H2 s3 => ?_⟩
        exact ⟨_, rfl, .mk ⟨_, rfl, s2.trans s3⟩⟩
      · intro σ H' W
        obtain ⟨v, rfl, s2⟩ := W.out
        exact kk _ (s1.trans s2)
    | tuple ds =>
      cases hx with
      | @tup a xs _ sx ax =>
      cases hy with
      | @tup b ys _ sy ay =>
      have lx := My.DpAll.len ax
      have ly := My.DpAll.len ay
      refine ⟨_, _, _, _, _, _, rfl, ap, .cons (.ty _) (.cons (.ty _) .nil), ty_tup sy, kitLT kb_tuple_list kb_tuple_tuple, ?_⟩
      walk_at "go"
      refine ite2 (fun e => ?_) (fun _ => ?_)
      · rw [lx, ly] at e
        simp at e
      have hsz : ys.length ≤ sizeLine := by assumption
      walk_at "go"
      rw [line24] at hsz
      refine ⟨by omega, by omega, for_range0 (fun i σ H' => Hold (∃ v, σ = [some (.ref a), some (.ref b), v] ∧ Same H1 H')) ?_ ?_ ?_⟩
      · exact .mk ⟨none, rfl, Same.refl _⟩
      · intro i σ H' hi W
        obtain ⟨v, rfl, s2⟩ := W.out
        have hi2 : i < ds.length := by rw [← ly]; simpa using hi
        obtain ⟨d, hdi⟩ : ∃ d, ds[i]? = some d := ⟨_, List.getElem?_eq_getElem hi2⟩
        obtain ⟨x, hx, dx⟩ := My.DpAll.get ax hdi
        obtain ⟨y, hy, dy⟩ := My.DpAll.get ay hdi
        have hdd := deepAll_get hdi
        have hn : deepAll ds + 1 ≤ n := hd
        obtain ⟨m, rfl⟩ : ∃ m, n = m + 1 := ⟨n - 1, by omega⟩
        have e := hI m rfl
        subst e
        refine ⟨_, rfl, _, rfl, .inr <| .inl ⟨_, _, _, _, rfl, rfl, My.Same.seqT s2 sx, atI_nat hx, ?_⟩⟩
        refine ⟨_, rfl, _, rfl, .inr <| .inl ⟨_, _, _, _, rfl, rfl, My.Same.seqT s2 sy, atI_nat hy, ?_⟩⟩
        refine ⟨x, y, d, rfl, Dp.same s2 dx, Dp.same s2 dy, by omega, fun H2 s3 => ?_⟩
        exact ⟨_, rfl, .mk ⟨_, rfl, s2.trans s3⟩⟩
      · intro σ H' W
        obtain ⟨v, rfl, s2⟩ := W.out
        exact kk _ (s1.trans s2)
    | dict _ => cases hx
/-- _law_same of data of any depth up to n -/
theorem k__law_same (T : TopF K mg) (D : Defs K mg) (c : Kal P w K mg base CX0 1 "_law_is_integer" ["actual"] spIsInt) : ∀ n : Nat, Kal P w K mg base CX0 (n + 2) "_law_same" ["actual", "expected"] (spSame K n)
  | 0 => same_step T D 0 0 _ c (kal_none D.d__law_same bi__law_same 1) (fun m h => by omega)
  | n + 1 => same_step T D (n + 1) (n + 1) _ c (k__law_same T D c n) (fun m h => by cases h; rfl)
end
end Mk11
namespace Mk11
open PySem PySem.Spec PyProof.Rows L2 My

/-- the law's state: the draws' list, how far -/
def StAt (K : PySem.W.Frag) (H : Hp) (s p : Addr) : Prop := ∃ (ds : List Int) (i : Int), H s = some (.lst [.ref p, .int i]) ∧ DrawsAt K H p ds ∧ 0 ≤ i
def spNext (K : PySem.W.Frag) : Sp := fun vs H Q _ => ∃ (s p : Addr) (lim : Int), vs = [.ref s, .int lim] ∧ StAt K H s p ∧ 0 < lim ∧ ∀ (H' : Hp) (n : Int), Keep (· = s) H H' → StAt K H' s p → 0 ≤ n → n < lim → n < 9973 → Q (.int n) H'
section
variable {P : Program} {w : World} {K : PySem.W.Frag} {mg : Str → Option Value} {base : Heap}
theorem k__law_next (T : TopF K mg) (D : Defs K mg) (c__law_at : Kal P w K mg base CX0 2 "_law_at" ["draws", "index"] (spAt K)) : Kal P w K mg base CX0 3 "_law_next" ["state", "limit"] (spNext K) := by
  refine kal_mk D.d__law_next sc__law_next bi__law_next (fun vs H Q E h => ?_) (fun f cdv A outer s H vs Q E hr h => ?_)
  · obtain ⟨_, _, _, rfl, _⟩ := h; rfl
  · obtain ⟨s, p, lim, rfl, ⟨ds, i, hs, ⟨hd, hb⟩, hi⟩, h0, k⟩ := h
    have nd := sc__law_next.nd
    have nps : p ≠ s := fun e => by
      subst e; rw [hd] at hs
      cases ds with
      | nil => simp at hs
      | cons x r => simp at hs
    refine ⟨_, (pss_cons (ps_augS (pv 0) pe_int get_list pe_int ip_add set_list)
 (pss_one (ps_ret (pe_op op_mod (pe_kal c__law_at hr (by first | decide | exact Nat.le_refl _ | omega) (pa_cons (pe_ix ix_list (pv 0) pe_int (fun _ _ => rfl)) (pa_cons (pe_ix ix_list (pv 0) pe_int (fun _ _ => rfl)) pa_nil))) (pv 1))))), ?_⟩
    refine ⟨_, rfl, _, _, _, _, rfl, rfl, SqL.of hs, rfl, _, _, rfl, rfl, _, _, _, _, rfl, rfl, hs, rfl, ?_⟩
    generalize hH : upd _ s _ = H1
    have k1 : Keep (· = s) H H1 := keep_of hH rfl
    have as := upd_at hH
    have ad := k1 _ _ hd nps
    refine ⟨_, rfl, _, _, _, _, rfl, rfl, SqL.of as, rfl, _, rfl, _, _, _, _, rfl, rfl, SqL.of as, rfl, ?_⟩
    refine ⟨p, ds, _, rfl, ⟨ad, hb⟩, by show (0 : Int) ≤ i + 1; omega, fun r r0 r1 => ?_⟩
    refine ⟨_, rfl, _, _, rfl, rfl, h0, ?_⟩
    exact k H1 _ k1 ⟨ds, i + 1, as, ⟨ad, hb⟩, by omega⟩ (Int.emod_nonneg _ (by omega)) (Int.emod_lt_of_pos _ h0) (by
      have z := Int.emod_lt_of_pos r h0
      by_cases c : r < lim
      · rw [Int.emod_eq_of_lt r0 c]; exact r1
      · omega)
end
end Mk11
namespace Mk11
open PySem PySem.Spec PyProof.Rows L2 My

/-! ### lists of ints as data -/
abbrev intsP (l : List Int) : List PyData := l.map PyData.int
theorem ints_dp {K : PySem.W.Frag} {H : Hp} : ∀ l : List Int, DpAll K H (l.map V.int) (intsP l)
  | [] => .nil
  | i :: l => .cons (.int i) (ints_dp l)
theorem ints_deep : ∀ l : List Int, deepAll (intsP l) = 0
  | [] => rfl
  | i :: l => by
    show max (deep (.int i)) (deepAll (intsP l)) = 0
    rw [ints_deep l]; rfl
theorem ints_lay : ∀ l : List Int, PyData.canLayAll0 (intsP l) = true
  | [] => rfl
  | i :: l => by
    show (PyData.canLay0 (.int i) && PyData.canLayAll0 (intsP l)) = true
    rw [ints_lay l]; rfl
theorem ints_depth : ∀ l : List Int, PyData.depthAll (intsP l) ≤ 1
  | [] => by decide
  | i :: l => by
    show max (PyData.depth (.int i)) (PyData.depthAll (intsP l)) ≤ 1
    have := ints_depth l
    have e : PyData.depth (.int i) ≤ 1 := by simp [PyData.depth]
    omega
theorem ints_shaped (l : List Int) : SeqAt.shaped (.list (intsP l)) = true := by
  have h := ints_depth l
  have e : PyData.depth (.list (intsP l)) ≤ 64 := by
    show PyData.depthAll (intsP l) + 1 ≤ 64
    omega
  show (PyData.canLay0 (.list (intsP l)) && decide (PyData.depth (.list (intsP l)) ≤ 64)) = true
  rw [decide_eq_true e, Bool.and_true]
  exact ints_lay l
theorem ints_eqv (l : List Int) : PyData.eqv (.list (intsP l)) (.list (intsP l)) = true := SeqAt.eqv_refl _ (ints_lay l)
end Mk11
namespace Mk11
open PySem PySem.Spec PyProof.Rows L2 My

abbrev nums (l : List Nat) : List V := l.map fun n => V.int (n : Nat)
theorem nums_eq (l : List Nat) : nums l = (l.map fun n : Nat => (n : Int)).map V.int := by rw [List.map_map]; rfl
abbrev nD (l : List Nat) : PyData := .list (intsP (l.map fun n : Nat => (n : Int)))
theorem nums_dp {K : PySem.W.Frag} {H : Hp} {a : Addr} {l : List Nat} (h : H a = some (.lst (nums l))) : Dp K H (.ref a) (nD l) := .lst (SqL.of h) (by rw [nums_eq]; exact ints_dp _)
theorem nums_deep (l : List Nat) : deep (nD l) ≤ 1 := by
  show deepAll _ + 1 ≤ 1
  rw [ints_deep]; decide
theorem nums_eqv {l m : List Nat} : PyData.eqv (nD l) (nD m) = decide (l = m) := by
  show PyData.eqvAll _ _ = _
  induction l generalizing m with
  | nil => cases m <;> rfl
  | cons x l ih =>
    cases m with
    | nil => rfl
    | cons y m =>
      show ((PyData.eqv (.int (x : Nat)) (.int (y : Nat))) && PyData.eqvAll _ _) = _
      rw [ih, PyData.eqv, Bool.eq_iff_iff]
      simp [Int.ofNat_inj]
section
variable {P : Program} {w : World} {K : PySem.W.Frag} {mg : Str → Option Value} {base : Heap}
def spNum : Sp := fun vs H Q _ => ∃ n : Nat, vs = [.int (n : Nat)] ∧ n < 2097152 ∧ ∀ (H' : Hp) (p : Addr), Same H H' → H p = none → H' p = some (.lst (nums (num n))) → Q (.ref p) H'
def spCks : Sp := fun vs H Q _ => ∃ (a : Addr) (l : List Nat), vs = [.ref a] ∧ H a = some (.lst (nums l)) ∧ Q (.int (cks l : Nat)) H
def spRec : Sp := fun vs H Q _ => ∃ (a : Addr) (d : List Nat), vs = [.ref a] ∧ H a = some (.lst (nums d)) ∧ d.length < 2097152 ∧ ∀ (H' : Hp) (p : Addr), Same H H' → H p = none → H' p = some (.lst (nums (rec d))) → Q (.ref p) H'
theorem k_write_number (T : TopF K mg) (D : Defs K mg) : Kal P w K mg base CX0 1 "write_number" ["number"] spNum := by
  refine kal_mk D.d_write_number sc_write_number bi_write_number (fun vs H Q E h => ?_) (fun f cdv A outer s H vs Q E hr h => ?_)
  · obtain ⟨_, rfl, _⟩ := h; rfl
  · obtain ⟨n, rfl, hn, kk⟩ := h
    have nd := sc_write_number.nd
    refine ⟨_, (pss_cons (ps_set (i := 1) nd rfl (by first | exact Or.inl rfl | exact Or.inr rfl) (pe_lst pa_nil))
 (pss_cons (ps_while PassesOwn.never (pt_cmpR op_ge (pv 0) pe_int (nomark _))
 (pss_cons (ps_expr (pe_bm PySem.F.plainAttrs_list PySem.F.slot_list_append PySem.F.type_list_append mt_append (pv 1) (pa_cons (pe_op op_add (pe_op op_mod (pv 0) pe_int) pe_int) pa_nil)))
 (pss_one (ps_set (i := 0) nd rfl (by first | exact Or.inl rfl | exact Or.inr rfl) (pe_op op_fdiv (pv 0) pe_int)))))
 (pss_one (ps_ret (pe_op op_cat (pv 1) (pe_lst (pa_cons (pv 0) pa_nil))))))), ?_⟩
    refine ⟨Nat.zero_le _, fun p np => ?_⟩
    generalize hp : upd _ p _ = H1
    have s1 := same_of hp np
    have ap := upd_at hp
    refine ⟨fun m σ H' => Hold (∃ cs : List Nat, σ = [some (.int (m : Nat)), some (.ref p)] ∧ Same H H' ∧ H' p = some (.lst (nums cs)) ∧ num n = cs ++ num m), ⟨n, .mk ⟨[], rfl, s1, ap, rfl⟩⟩, ?_⟩
    rintro m σ H2 V
    obtain ⟨cs, rfl, s2, a2, hc⟩ := V.out
    have hl := num_len hn
    have hm := num_pos m
    rw [hc, List.length_append] at hl
    refine ⟨_, rfl, _, _, rfl, rfl, _, rfl, ?_⟩
    refine ite2 (fun e => ?_) (fun e => ?_)
    · have hm : ¬ m < 128 := by have := of_decide_eq_true e; omega
      refine ⟨_, fun _ _ h => h, ?_⟩
      rw [num_hi hm] at hc
      refine ⟨_, rfl, .inl ⟨rfl, _, SqL.of a2⟩, ?_⟩
      refine ⟨_, rfl, _, _, rfl, rfl, show (0 : Int) < 128 by decide, _, _, rfl, rfl, ?_⟩
      refine ⟨p, _, _, rfl, rfl, a2, by rw [List.length_map, line24]; omega, ?_⟩
      generalize h3 : upd _ p _ = H3
      have k3 : Keep (· = p) H2 H3 := keep_of h3 rfl
      have a3 := upd_at h3
      refine ⟨_, rfl, _, _, rfl, rfl, show (0 : Int) < 128 ∧ (128 : Int) < 1073741824 by decide, ?_⟩
      refine ⟨m / 128, by omega, .mk ⟨cs ++ [m % 128 + 128], rfl, fun b o e => k3 _ _ (s2 _ _ e) (ne_of_none e np), by rw [a3]; simp, by rw [hc]; simp⟩⟩
    · have hm : m < 128 := by
        have : ¬ ((m : Int) ≥ 128) := fun z => e (decide_eq_true z)
        omega
      rw [num_lo hm] at hc
      refine ⟨_, rfl, _, rfl, by show 1 ≤ sizeLine; decide, fun q nq => ?_⟩
      generalize h3 : upd _ q _ = H3
      have s3 := same_of h3 nq
      have a3 := upd_at h3
      refine ⟨p, q, _, _, rfl, rfl, s3 _ _ a2, a3, by rw [List.length_map, line24]; simp; omega, fun r nr => ?_⟩
      generalize h4 : upd _ r _ = H4
      have s4 := same_of h4 nr
      have a4 := upd_at h4
      have sA := s2.trans s3
      refine kk H4 r (sA.trans s4) (sA.free nr) ?_
      rw [a4, hc]; simp
theorem k_checksum (T : TopF K mg) (D : Defs K mg) : Kal P w K mg base CX0 1 "checksum" ["data"] spCks := by
  refine kal_mk D.d_checksum sc_checksum bi_checksum (fun vs H Q E h => ?_) (fun f cdv A outer s H vs Q E hr h => ?_)
  · obtain ⟨_, _, rfl, _⟩ := h; rfl
  · obtain ⟨a, l, rfl, ha, kk⟩ := h
    have nd := sc_checksum.nd
    refine ⟨_, (pss_cons (ps_set (i := 1) nd rfl (by first | exact Or.inl rfl | exact Or.inr rfl) pe_int)
 (pss_cons (ps_for PassesOwn.never rfl (pi_list (pv 0)) (pg_name (i := 2) nd rfl (by first | exact Or.inl rfl | exact Or.inr rfl))
 (pss_one (ps_set (i := 1) nd rfl (by first | exact Or.inl rfl | exact Or.inr rfl) (pe_op op_mod (pe_op op_add (pe_op op_add (pe_op op_mul pe_int (pv 1)) (pv 2)) pe_int) (pe_gint (by rfl) T.c_CHECKSUM_LIMIT)))))
 (pss_one (ps_ret (pv 1))))), ?_⟩
    refine ⟨_, rfl, a, rfl, ⟨_, SqL.of ha⟩, for_list (K := K) (a := a) (xs := nums l) (fun i σ H' => Hold (∃ v2 : Option V, σ = [some (.ref a), some (.int ((l.take i).foldl ck1 7 : Nat)), v2] ∧ H' = H)) ?_ ?_ ?_ ?_⟩
    · exact .mk ⟨none, rfl, rfl⟩
    · intro i σ H' _ V
      obtain ⟨_, rfl, rfl⟩ := V.out
      exact SqL.of ha
    · intro i x σ H' hx V
      obtain ⟨v2, rfl, rfl⟩ := V.out
      obtain ⟨b, hb, rfl⟩ := map_get hx
      walk_at "go"
      have e : (31 * (((l.take i).foldl ck1 7 : Nat) : Int) + (b : Nat) + 1) % 4294967296 = (((l.take (i + 1)).foldl ck1 7 : Nat) : Int) := by
        rw [List.take_add_one, hb, List.foldl_append]
        simp only [Option.toList_some, List.foldl_cons, List.foldl_nil]
        unfold ck1; omega
      refine .mk ⟨some (.int (b : Nat)), ?_, rfl⟩
      rw [← e]; rfl
    · intro σ H' V
      obtain ⟨v2, rfl, rfl⟩ := V.out
      rw [List.length_map, List.take_length]
      exact ⟨_, rfl, kk⟩
theorem k__law_checksum (T : TopF K mg) (D : Defs K mg) : Kal P w K mg base CX0 1 "_law_checksum" ["data"] spCks := by
  refine kal_mk D.d__law_checksum sc__law_checksum bi__law_checksum (fun vs H Q E h => ?_) (fun f cdv A outer s H vs Q E hr h => ?_)
  · obtain ⟨_, _, rfl, _⟩ := h; rfl
  · obtain ⟨a, l, rfl, ha, kk⟩ := h
    have nd := sc__law_checksum.nd
    refine ⟨_, (pss_cons (ps_set (i := 1) nd rfl (by first | exact Or.inl rfl | exact Or.inr rfl) pe_int)
 (pss_cons (ps_for PassesOwn.never rfl (pi_list (pv 0)) (pg_name (i := 2) nd rfl (by first | exact Or.inl rfl | exact Or.inr rfl))
 (pss_one (ps_set (i := 1) nd rfl (by first | exact Or.inl rfl | exact Or.inr rfl) (pe_op op_mod (pe_op op_add (pe_op op_add (pe_op op_mul pe_int (pv 1)) (pv 2)) pe_int) pe_int))))
 (pss_one (ps_ret (pv 1))))), ?_⟩
    refine ⟨_, rfl, a, rfl, ⟨_, SqL.of ha⟩, for_list (K := K) (a := a) (xs := nums l) (fun i σ H' => Hold (∃ v2 : Option V, σ = [some (.ref a), some (.int ((l.take i).foldl ck1 7 : Nat)), v2] ∧ H' = H)) ?_ ?_ ?_ ?_⟩
    · exact .mk ⟨none, rfl, rfl⟩
    · intro i σ H' _ V
      obtain ⟨_, rfl, rfl⟩ := V.out
      exact SqL.of ha
    · intro i x σ H' hx V
      obtain ⟨v2, rfl, rfl⟩ := V.out
      obtain ⟨b, hb, rfl⟩ := map_get hx
      walk_at "go"
      have e : (31 * (((l.take i).foldl ck1 7 : Nat) : Int) + (b : Nat) + 1) % 4294967296 = (((l.take (i + 1)).foldl ck1 7 : Nat) : Int) := by
        rw [List.take_add_one, hb, List.foldl_append]
        simp only [Option.toList_some, List.foldl_cons, List.foldl_nil]
        unfold ck1; omega
      refine .mk ⟨some (.int (b : Nat)), ?_, rfl⟩
      rw [← e]; rfl
    · intro σ H' V
      obtain ⟨v2, rfl, rfl⟩ := V.out
      rw [List.length_map, List.take_length]
      exact ⟨_, rfl, kk⟩
theorem k__law_number (T : TopF K mg) (D : Defs K mg) : Kal P w K mg base CX0 1 "_law_number" ["number"] spNum := by
  refine kal_mk D.d__law_number sc__law_number bi__law_number (fun vs H Q E h => ?_) (fun f cdv A outer s H vs Q E hr h => ?_)
  · obtain ⟨_, rfl, _⟩ := h; rfl
  · obtain ⟨n, rfl, hn, kk⟩ := h
    have nd := sc__law_number.nd
    refine ⟨_, (pss_cons (ps_set (i := 1) nd rfl (by first | exact Or.inl rfl | exact Or.inr rfl) (pe_lst pa_nil))
 (pss_cons (ps_while PassesOwn.never (pt_cmpR op_gt (pv 0) pe_int (nomark _))
 (pss_cons (ps_expr (pe_bm PySem.F.plainAttrs_list PySem.F.slot_list_append PySem.F.type_list_append mt_append (pv 1) (pa_cons (pe_op op_add pe_int (pe_op op_mod (pv 0) pe_int)) pa_nil)))
 (pss_one (ps_set (i := 0) nd rfl (by first | exact Or.inl rfl | exact Or.inr rfl) (pe_op op_fdiv (pv 0) pe_int)))))
 (pss_one (ps_ret (pe_op op_cat (pv 1) (pe_lst (pa_cons (pv 0) pa_nil))))))), ?_⟩
    refine ⟨Nat.zero_le _, fun p np => ?_⟩
    generalize hp : upd _ p _ = H1
    have s1 := same_of hp np
    have ap := upd_at hp
    refine ⟨fun m σ H' => Hold (∃ cs : List Nat, σ = [some (.int (m : Nat)), some (.ref p)] ∧ Same H H' ∧ H' p = some (.lst (nums cs)) ∧ num n = cs ++ num m), ⟨n, .mk ⟨[], rfl, s1, ap, rfl⟩⟩, ?_⟩
    rintro m σ H2 V
    obtain ⟨cs, rfl, s2, a2, hc⟩ := V.out
    have hl := num_len hn
    have hm := num_pos m
    rw [hc, List.length_append] at hl
    refine ⟨_, rfl, _, _, rfl, rfl, _, rfl, ?_⟩
    refine ite2 (fun e => ?_) (fun e => ?_)
    · have hm : ¬ m < 128 := by have := of_decide_eq_true e; omega
      refine ⟨_, fun _ _ h => h, ?_⟩
      rw [num_hi hm] at hc
      refine ⟨_, rfl, .inl ⟨rfl, _, SqL.of a2⟩, ?_⟩
      refine ⟨_, rfl, _, _, rfl, rfl, show (0 : Int) < 128 by decide, _, _, rfl, rfl, ?_⟩
      refine ⟨p, _, _, rfl, rfl, a2, by rw [List.length_map, line24]; omega, ?_⟩
      generalize h3 : upd _ p _ = H3
      have k3 : Keep (· = p) H2 H3 := keep_of h3 rfl
      have a3 := upd_at h3
      refine ⟨_, rfl, _, _, rfl, rfl, show (0 : Int) < 128 ∧ (128 : Int) < 1073741824 by decide, ?_⟩
      refine ⟨m / 128, by omega, .mk ⟨cs ++ [m % 128 + 128], rfl, fun b o e => k3 _ _ (s2 _ _ e) (ne_of_none e np), by rw [a3]; simp [Int.add_comm], by rw [hc]; simp⟩⟩
    · have hm : m < 128 := by
        have : ¬ ((m : Int) > 127) := fun z => e (decide_eq_true z)
        omega
      rw [num_lo hm] at hc
      refine ⟨_, rfl, _, rfl, by show 1 ≤ sizeLine; decide, fun q nq => ?_⟩
      generalize h3 : upd _ q _ = H3
      have s3 := same_of h3 nq
      have a3 := upd_at h3
      refine ⟨p, q, _, _, rfl, rfl, s3 _ _ a2, a3, by rw [List.length_map, line24]; simp; omega, fun r nr => ?_⟩
      generalize h4 : upd _ r _ = H4
      have s4 := same_of h4 nr
      have a4 := upd_at h4
      have sA := s2.trans s3
      refine kk H4 r (sA.trans s4) (sA.free nr) ?_
      rw [a4, hc]; simp
theorem k_write_record (T : TopF K mg) (D : Defs K mg) (c_checksum : Kal P w K mg base CX0 1 "checksum" ["data"] spCks) (c_write_number : Kal P w K mg base CX0 1 "write_number" ["number"] spNum) : Kal P w K mg base CX0 2 "write_record" ["data"] spRec := by
  refine kal_mk D.d_write_record sc_write_record bi_write_record (fun vs H Q E h => ?_) (fun f cdv A outer s H vs Q E hr h => ?_)
  · obtain ⟨_, _, rfl, _⟩ := h; rfl
  · obtain ⟨a, d, rfl, ha, hd, kk⟩ := h
    have nd := sc_write_record.nd
    refine ⟨_, (pss_cons (ps_set (i := 1) nd rfl (by first | exact Or.inl rfl | exact Or.inr rfl) (pe_kal c_checksum hr (by first | decide | exact Nat.le_refl _ | omega) (pa_cons (pv 0) pa_nil)))
 (pss_cons (ps_set (i := 2) nd rfl (by first | exact Or.inl rfl | exact Or.inr rfl) (pe_lst (pa_cons (pe_op op_fdiv (pv 1) pe_int) (pa_cons (pe_op op_mod (pe_op op_fdiv (pv 1) pe_int) pe_int) (pa_cons (pe_op op_mod (pe_op op_fdiv (pv 1) pe_int) pe_int) (pa_cons (pe_op op_mod (pv 1) pe_int) pa_nil))))))
 (pss_one (ps_ret (pe_op op_cat (pe_op op_cat (pe_kal c_write_number hr (by first | decide | exact Nat.le_refl _ | omega) (pa_cons (pe_callB call_len_seq (by rfl) T.len (by decide +kernel) (pa_cons (pv 0) pa_nil)) pa_nil)) (pe_callTy call_list_of (by rfl) T.list (by decide +kernel) (pa_cons (pv 0) pa_nil))) (pv 2)))))), ?_⟩
    refine ⟨_, rfl, a, d, rfl, ha, ?_⟩
    have ht := cks_lt d
    generalize hct : cks d = t at ht
    walk_at "go"
    refine ⟨by show 4 ≤ sizeLine; decide, fun q nq => ?_⟩
    generalize hq : upd _ q _ = H1
    have s1 := same_of hq nq
    have aq := upd_at hq
    have aq' : H1 q = some (.lst (nums (tail4 t))) := by rw [aq]; rfl
    refine ⟨_, rfl, _, _, rfl, .inl (SqL.of (s1 _ _ ha)), ?_⟩
    rw [List.length_map]
    refine ⟨d.length, rfl, hd, fun H2 p s2 np ap => ?_⟩
    have s12 := s1.trans s2
    refine ⟨_, rfl, _, _, rfl, .inl (SqL.of (s12 _ _ ha)), fun e ne => ?_⟩
    generalize he : upd _ e _ = H3
    have s3 := same_of he ne
    have ae := upd_at he
    have hl := num_len hd
    refine ⟨p, e, _, _, rfl, rfl, s3 _ _ ap, ae, by rw [List.length_map, List.length_map, line24]; omega, fun r nr => ?_⟩
    generalize hr1 : upd _ r _ = H4
    have s4 := same_of hr1 nr
    have ar := upd_at hr1
    refine ⟨_, rfl, r, q, _, _, rfl, rfl, ar, s4 _ _ (s3 _ _ (s2 _ _ aq')), by rw [List.length_append, List.length_map, List.length_map, List.length_map, tail4_len, line24]; omega, fun r2 nr2 => ?_⟩
    generalize hr2 : upd _ r2 _ = H5
    have s5 := same_of hr2 nr2
    have ar2 := upd_at hr2
    have sA := s12.trans (s3.trans s4)
    refine kk H5 r2 (sA.trans s5) (sA.free nr2) ?_
    rw [ar2, rec, hct]; simp [nums]
theorem k__law_record (T : TopF K mg) (D : Defs K mg) (c__law_checksum : Kal P w K mg base CX0 1 "_law_checksum" ["data"] spCks) (c__law_number : Kal P w K mg base CX0 1 "_law_number" ["number"] spNum) : Kal P w K mg base CX0 2 "_law_record" ["data"] spRec := by
  refine kal_mk D.d__law_record sc__law_record bi__law_record (fun vs H Q E h => ?_) (fun f cdv A outer s H vs Q E hr h => ?_)
  · obtain ⟨_, _, rfl, _⟩ := h; rfl
  · obtain ⟨a, d, rfl, ha, hd, kk⟩ := h
    have nd := sc__law_record.nd
    refine ⟨_, (pss_cons (ps_set (i := 1) nd rfl (by first | exact Or.inl rfl | exact Or.inr rfl) (pe_kal c__law_checksum hr (by first | decide | exact Nat.le_refl _ | omega) (pa_cons (pv 0) pa_nil)))
 (pss_one (ps_ret (pe_op op_cat (pe_op op_cat (pe_kal c__law_number hr (by first | decide | exact Nat.le_refl _ | omega) (pa_cons (pe_callB call_len_seq (by rfl) T.len (by decide +kernel) (pa_cons (pv 0) pa_nil)) pa_nil)) (pv 0)) (pe_lst (pa_cons (pe_op op_fdiv (pv 1) pe_int) (pa_cons (pe_op op_mod (pe_op op_fdiv (pv 1) pe_int) pe_int) (pa_cons (pe_op op_mod (pe_op op_fdiv (pv 1) pe_int) pe_int) (pa_cons (pe_op op_mod (pv 1) pe_int) pa_nil))))))))), ?_⟩
    refine ⟨_, rfl, a, d, rfl, ha, ?_⟩
    have ht := cks_lt d
    generalize hct : cks d = t at ht
    refine ⟨_, rfl, _, _, rfl, .inl (SqL.of ha), ?_⟩
    rw [List.length_map]
    refine ⟨d.length, rfl, hd, fun H2 p s2 np ap => ?_⟩
    have hl := num_len hd
    refine ⟨_, rfl, p, a, _, _, rfl, rfl, ap, s2 _ _ ha, by rw [List.length_map, List.length_map, line24]; omega, fun r nr => ?_⟩
    generalize hr1 : upd _ r _ = H4
    have s4 := same_of hr1 nr
    have ar := upd_at hr1
    walk_at "go"
    refine ⟨by show 4 ≤ sizeLine; decide, fun q nq => ?_⟩
    generalize hq : upd _ q _ = H1
    have s1 := same_of hq nq
    have aq := upd_at hq
    have aq' : H1 q = some (.lst (nums (tail4 t))) := by rw [aq]; rfl
    refine ⟨r, q, _, _, rfl, rfl, s1 _ _ ar, aq', by rw [List.length_append, List.length_map, List.length_map, List.length_map, tail4_len, line24]; omega, fun r2 nr2 => ?_⟩
    generalize hr2 : upd _ r2 _ = H5
    have s5 := same_of hr2 nr2
    have ar2 := upd_at hr2
    have sA := s2.trans (s4.trans s1)
    refine kk H5 r2 (sA.trans s5) (sA.free nr2) ?_
    rw [ar2, rec, hct]; simp [nums]
end
end Mk11
namespace Mk11
open PySem PySem.Spec PyProof.Rows L2 My

theorem da_ : ¬ (("data" : Str) = "at") := by decide +kernel
def rf (q : Addr) (i : Nat) : List (Str × V) := [("data", .ref q), ("at", .int (i : Nat))]
theorem rf_d (q : Addr) (i : Nat) : (rf q i).lookup ("data" : Str) = some (.ref q) := by
  show List.lookup ("data" : Str) (("data", V.ref q) :: _) = _
  rw [List.lookup_cons_self]
theorem rf_a (q : Addr) (i : Nat) : (rf q i).lookup ("at" : Str) = some (.int (i : Nat)) := by
  have : (("at" : Str) == ("data" : Str)) = false := by decide +kernel
  show List.lookup ("at" : Str) (("data", V.ref q) :: ("at", V.int (i : Nat)) :: []) = _
  rw [List.lookup_cons, this, List.lookup_cons_self]
theorem rf_no {m : Str} (q : Addr) (i : Nat) (h1 : (m == ("data" : Str)) = false) (h2 : (m == ("at" : Str)) = false) : (rf q i).lookup m = none := by
  show List.lookup m (("data", V.ref q) :: ("at", V.int (i : Nat)) :: []) = _
  rw [List.lookup_cons, h1, List.lookup_cons, h2]; rfl
theorem rf_put (q : Addr) (i j : Nat) : putF "at" (.int (j : Nat)) (rf q i) = rf q j := by
  show (if ("data" : Str) = "at" then _ else (("data" : Str), V.ref q) :: (if ("at" : Str) = "at" then _ else _)) = _
  rw [if_neg da_, if_pos rfl]; rfl
/-- a Reader stands at r, over a list of its own, at place i -/
def RdAt (C : Addr) (H : Hp) (r q : Addr) (l : List Nat) (i : Nat) : Prop := H q = some (.lst (nums l)) ∧ ∃ dx : Addr, H r = some (.ins C dx (rf q i))
def spRInit (C : Addr) : Sp := fun vs H Q _ => ∃ (r a dx : Addr) (l : List Nat), vs = [.ref r, .ref a] ∧ H r = some (.ins C dx []) ∧ H a = some (.lst (nums l)) ∧ ∀ (H' : Hp) (q : Addr), Keep (· = r) H H' → RdAt C H' r q l 0 → Q .non H'
def spByte (C CE : Addr) : Sp := fun vs H Q E => ∃ (r q : Addr) (l : List Nat) (i : Nat), vs = [.ref r] ∧ RdAt C H r q l i ∧
  (∀ b : Nat, l[i]? = some b → ∀ H' : Hp, Keep (· = r) H H' → RdAt C H' r q l (i + 1) → Q (.int (b : Nat)) H') ∧ (l[i]? = none → E (.ref CE) none H)
def spNumR (C CE : Addr) : Sp := fun vs H Q E => ∃ (r q : Addr) (l : List Nat), vs = [.ref r] ∧ RdAt C H r q l 0 ∧ l.length ≤ 60 ∧
  (∀ v k : Nat, pnum 0 l = some (v, k) → ∀ H' : Hp, Keep (· = r) H H' → RdAt C H' r q l k → Q (.int (v : Nat)) H') ∧ (pnum 0 l = none → ∀ H' : Hp, Keep (· = r) H H' → E (.ref CE) none H')
section
variable {P : Program} {w : World} {K : PySem.W.Frag} {mg : Str → Option Value} {base : Heap}
theorem k_rinit (T : TopF K mg) (D : Defs K mg) : KMak P w K mg base CX0 1 "Reader" (He.ga K "Reader") ["self", "data"] (spRInit (He.ga K "Reader")) := by
  refine kmak_mk D.d_Reader___init__ sc_Reader___init__ bi_Reader___init__ (fun vs H Q E h => ?_) (fun f cdv A outer s H vs Q E hr h => ?_)
  · obtain ⟨_, _, _, _, rfl, _⟩ := h; rfl
  · obtain ⟨r, a, dx, l, rfl, hr1, ha, kk⟩ := h
    have nd := sc_Reader___init__.nd
    have cl := D.d_Reader_read_byte.cl
    refine ⟨_, (pss_cons (ps_fld (pv 0) (pe_callTy call_list_of (by rfl) T.list (by decide +kernel) (pa_cons (pv 1) pa_nil)) rfl)
 (pss_one (ps_fld (pv 0) pe_int rfl))), ?_⟩
    refine ⟨_, rfl, _, _, rfl, .inl (SqL.of ha), fun q nq => ?_⟩
    generalize h1 : upd _ q _ = H1
    have s1 := same_of h1 nq
    have a1 := upd_at h1
    have nqr : q ≠ r := fun z => by rw [z, hr1] at nq; cases nq
    refine ⟨_, rfl, r, _, dx, [], rfl, s1 _ _ hr1, cl, T.n_Reader_data, by show 0 < 1000; decide, ?_⟩
    generalize h2 : upd _ r _ = H2
    have k2 : Keep (· = r) H1 H2 := keep_of h2 rfl
    have a2 := upd_at h2
    refine ⟨_, rfl, r, _, dx, _, rfl, a2, cl, T.n_Reader_at, by show 1 < 1000; decide, ?_⟩
    generalize h3 : upd _ r _ = H3
    have k3 : Keep (· = r) H2 H3 := keep_of h3 rfl
    have a3 := upd_at h3
    have e : putF "at" (V.int 0) (putF "data" (V.ref q) []) = rf q 0 := by
      show (if ("data" : Str) = "at" then _ else (("data" : Str), V.ref q) :: putF "at" (V.int 0) []) = _
      rw [if_neg da_]; rfl
    rw [e] at a3
    exact kk H3 q ((Keep.of s1).trans (k2.trans k3)) ⟨k3 _ _ (k2 _ _ a1 nqr) nqr, dx, a3⟩
theorem k_read_byte (T : TopF K mg) (D : Defs K mg) : KMet P w K mg base (L2.CX P w) 1 (He.ga K "Reader") "read_byte" ["self"] (spByte (He.ga K "Reader") (He.ga K "DamagedPacket")) := by
  refine kmet_mkX D.d_Reader_read_byte sc_Reader_read_byte bi_Reader_read_byte (fun vs H Q E h => ?_) (fun f cdv A outer s H vs Q E hr h => ?_)
  · obtain ⟨_, _, _, _, rfl, _⟩ := h; rfl
  · obtain ⟨r, q, l, i, rfl, ⟨hq, dx, hr1⟩, k1, k0⟩ := h
    have nd := sc_Reader_read_byte.nd
    have cl := D.d_Reader_read_byte.cl
    refine ⟨_, (pss_cons (ps_if (pt_cmpR op_ge (pe_fld (pv 0) rfl) (pe_callB call_len_seq (by rfl) T.len (by decide +kernel) (pa_cons (pe_fld (pv 0) rfl) pa_nil)) (nomark _))
 (pss_one (ps_raise rfl (takes_of rfl rfl rfl rfl) (pmk_own PySem.F.excBase_ValueError (He.exc_ok T.x_DamagedPacket).1 T.g_DamagedPacket (He.exc_ok T.x_DamagedPacket).2.1 (raises_own (He.exc_ok T.x_DamagedPacket).2.2.1 (He.exc_ok T.x_DamagedPacket).2.2.2) rfl))) pss_nil)
 (pss_cons (ps_fldaug (pv 0) pe_int in_add)
 (pss_one (ps_ret (pe_ix ix_list (pe_fld (pv 0) rfl) (pe_op op_sub (pe_fld (pv 0) rfl) pe_int) (fun _ _ => rfl)))))), ?_⟩
    refine ⟨_, rfl, r, _, dx, _, _, rfl, hr1, cl, T.n_Reader_at, rf_a _ _, ?_⟩
    refine ⟨_, rfl, r, _, dx, _, _, rfl, hr1, cl, T.n_Reader_data, rf_d _ _, _, _, rfl, .inl (SqL.of hq), ?_⟩
    rw [List.length_map]
    refine ⟨_, _, rfl, rfl, _, rfl, ?_⟩
    refine ite2 (fun e => ?_) (fun e => ?_)
    · refine k0 (List.getElem?_eq_none ?_)
      have := of_decide_eq_true e; omega
    · have lt : i < l.length := by
        have : ¬ ((l.length : Nat) : Int) ≤ (i : Nat) := fun z => e (decide_eq_true z)
        omega
      have hb := List.getElem?_eq_getElem lt
      generalize l[i] = b at hb
      refine ⟨_, rfl, r, _, dx, _, _, rfl, hr1, cl, T.n_Reader_at, rf_a _ _, _, _, rfl, rfl, dx, _, hr1, by show 2 < 1000; decide, ?_⟩
      have e2 : putF "at" (V.int (((i : Nat) : Int) + 1)) (rf q i) = rf q (i + 1) := rf_put q i (i + 1)
      rw [e2]
      generalize h3 : upd _ r _ = H3
      have k3 : Keep (· = r) H H3 := keep_of h3 rfl
      have a3 := upd_at h3
      have nqr : q ≠ r := ne_of hq hr1 (by intro z; cases z)
      have hq3 := k3 _ _ hq nqr
      refine ⟨_, rfl, r, _, dx, _, _, rfl, a3, cl, T.n_Reader_data, rf_d _ _, ?_⟩
      refine ⟨_, rfl, r, _, dx, _, _, rfl, a3, cl, T.n_Reader_at, rf_a _ _, ?_⟩
      refine ⟨_, _, rfl, rfl, ?_⟩
      refine ⟨_, _, _, _, rfl, rfl, SqL.of hq3, ?_, k1 b hb H3 k3 ⟨hq3, dx, a3⟩⟩
      rw [show (((i + 1 : Nat) : Int) - 1) = ((i : Nat) : Int) by omega]
      exact atI_nat (map_put hb)
theorem k_read_number (T : TopF K mg) (D : Defs K mg) (c_Reader_read_byte : KMet P w K mg base (L2.CX P w) 1 (He.ga K "Reader") "read_byte" ["self"] (spByte (He.ga K "Reader") (He.ga K "DamagedPacket"))) : KMet P w K mg base (L2.CX P w) 2 (He.ga K "Reader") "read_number" ["self"] (spNumR (He.ga K "Reader") (He.ga K "DamagedPacket")) := by
  refine kmet_mkX D.d_Reader_read_number sc_Reader_read_number bi_Reader_read_number (fun vs H Q E h => ?_) (fun f cdv A outer s H vs Q E hr h => ?_)
  · obtain ⟨_, _, _, rfl, _⟩ := h; rfl
  · obtain ⟨r, q, l, rfl, R0, hl, k1, k0⟩ := h
    have nd := sc_Reader_read_number.nd
    refine ⟨_, (pss_cons (ps_set (i := 1) nd rfl (by first | exact Or.inl rfl | exact Or.inr rfl) pe_int)
 (pss_cons (ps_set (i := 2) nd rfl (by first | exact Or.inl rfl | exact Or.inr rfl) pe_int)
 (pss_cons (ps_for (passes_of rfl) rfl (pi_range1 (by rfl) T.range (pa_cons (pe_gint (by rfl) T.c_NUMBER_BYTES) pa_nil)) (pg_name (i := 3) nd rfl (by first | exact Or.inl rfl | exact Or.inr rfl))
 (pss_cons (ps_set (i := 4) nd rfl (by first | exact Or.inl rfl | exact Or.inr rfl) (pe_kmetX0 c_Reader_read_byte hr (by first | decide | exact Nat.le_refl _ | omega) (takes_of rfl rfl rfl rfl) (pv 0)))
 (pss_cons (ps_aug (i := 1) nd rfl (by first | exact Or.inl rfl | exact Or.inr rfl) (pe_op op_mul (pe_op op_mod (pv 4) pe_int) (pv 2)) ip_add)
 (pss_cons (ps_if (pt_cmpR op_lt (pv 4) pe_int (nomark _))
 (pss_cons (ps_if (PW.pt (pw_and (pt_cmpR op_eq (pv 4) pe_int (nomark _)) (pw_and1 (pt_cmpR op_gt (pv 3) pe_int (nomark _)))))
 (pss_one (ps_raise rfl (takes_of rfl rfl rfl rfl) (pmk_own PySem.F.excBase_ValueError (He.exc_ok T.x_DamagedPacket).1 T.g_DamagedPacket (He.exc_ok T.x_DamagedPacket).2.1 (raises_own (He.exc_ok T.x_DamagedPacket).2.2.1 (He.exc_ok T.x_DamagedPacket).2.2.2) rfl))) pss_nil)
 (pss_one (ps_ret (pv 1)))) pss_nil)
 (pss_one (ps_set (i := 2) nd rfl (by first | exact Or.inl rfl | exact Or.inr rfl) (pe_op op_mul (pv 2) pe_int)))))))
 (pss_one (ps_raise rfl (takes_of rfl rfl rfl rfl) (pmk_own PySem.F.excBase_ValueError (He.exc_ok T.x_DamagedPacket).1 T.g_DamagedPacket (He.exc_ok T.x_DamagedPacket).2.1 (raises_own (He.exc_ok T.x_DamagedPacket).2.2.1 (He.exc_ok T.x_DamagedPacket).2.2.2) rfl)))))), ?_⟩
    refine ⟨60, rfl, by decide, by decide, for_range0 (n := 60) (fun i σ H' => Hold (∃ (tot fac : Nat) (v3 v4 : Option V), σ = [some (.ref r), some (.int (tot : Nat)), some (.int (fac : Nat)), v3, v4] ∧ Keep (· = r) H H' ∧ RdAt (He.ga K "Reader") H' r q l i ∧ pnum 0 l = (pnum i (l.drop i)).map fun z => (tot + fac * z.1, i + z.2))) ?_ ?_ ?_⟩
    · refine .mk ⟨0, 1, none, none, rfl, Keep.refl _, R0, ?_⟩
      rw [List.drop_zero]
      cases pnum 0 l with
      | none => rfl
      | some z => simp
    · intro i σ H1 hi V
      obtain ⟨tot, fac, v3, v4, rfl, kp, R, hp⟩ := V.out
      have R' := R
      obtain ⟨hq, dx, hr1⟩ := R'
      refine ⟨_, rfl, r, dx, _, rfl, hr1, rf_no _ _ (by decide +kernel) (by decide +kernel), ?_⟩
      refine ⟨r, q, l, i, rfl, R, fun b hb H2 k2 R2 => ?_, fun hb => ?_⟩
      · have hd : l.drop i = b :: l.drop (i + 1) := by
          obtain ⟨lt, e⟩ := List.getElem?_eq_some_iff.mp hb
          rw [← e]; exact List.drop_eq_getElem_cons lt
        rw [hd] at hp
        have kp2 := kp.trans k2
        refine ⟨_, rfl, _, rfl, _, _, rfl, rfl, show (0 : Int) < 128 by decide, ?_⟩
        refine ⟨_, rfl, _, _, rfl, rfl, .inl ⟨by omega, by omega⟩, ?_⟩
        refine ⟨_, _, rfl, rfl, ?_⟩
        refine ⟨_, rfl, _, _, rfl, rfl, _, rfl, ?_⟩
        refine ite2 (fun e => ?_) (fun e => ?_)
        · have hb128 : b < 128 := by have := of_decide_eq_true e; omega
          have ep : pnum i (b :: l.drop (i + 1)) = if b = 0 ∧ 0 < i then none else some (b, 1) := by
            show (if b < 128 then _ else _) = _
            rw [if_pos hb128]
          rw [ep] at hp
          have ev : ((tot : Nat) : Int) + ((b : Nat) : Int) % 128 * ((fac : Nat) : Int) = ((tot + fac * b : Nat) : Int) := by
            rw [show ((b : Nat) : Int) % 128 = (b : Nat) by omega, Int.natCast_add, Int.natCast_mul, Int.mul_comm]
          have fin : ¬ (b = 0 ∧ 0 < i) → Q (.int (((tot : Nat) : Int) + ((b : Nat) : Int) % 128 * ((fac : Nat) : Int))) H2 := fun z => by
            rw [if_neg z] at hp
            rw [ev]
            exact k1 _ _ hp H2 kp2 R2
          refine ⟨_, rfl, rfl, _, rfl, ?_⟩
          refine ite2 (fun e1 => ?_) (fun e1 => ?_)
          · have b0 : b = 0 := by have := vint e1; omega
            refine ⟨_, rfl, _, _, rfl, rfl, _, rfl, ?_⟩
            refine ite2 (fun e2 => ?_) (fun e2 => ?_)
            · have := of_decide_eq_true e2
              refine k0 ?_ H2 kp2
              rw [hp, if_pos ⟨b0, by omega⟩]; rfl
            · refine ⟨_, rfl, fin fun z => e2 (decide_eq_true (by omega))⟩
          · refine ite2 (fun z => absurd z (by simp)) (fun _ => ?_)
            refine ⟨_, rfl, fin fun z => vintF e1 (by rw [z.1]; rfl)⟩
        · have hb128 : ¬ b < 128 := fun z => e (decide_eq_true (by omega))
          have ep : pnum i (b :: l.drop (i + 1)) = (pnum (i + 1) (l.drop (i + 1))).map fun q => (b % 128 + 128 * q.1, q.2 + 1) := by
            show (if b < 128 then _ else _) = _
            rw [if_neg hb128]
          rw [ep] at hp
          have ev : ((tot : Nat) : Int) + ((b : Nat) : Int) % 128 * ((fac : Nat) : Int) = ((tot + fac * (b % 128) : Nat) : Int) := by
            rw [show ((b : Nat) : Int) % 128 = ((b % 128 : Nat) : Int) by omega, Int.natCast_add, Int.natCast_mul, Int.mul_comm]
          refine ⟨_, rfl, _, _, rfl, rfl, .inr ⟨by decide, by decide⟩, ?_⟩
          refine .mk ⟨tot + fac * (b % 128), fac * 128, some (.int (i : Nat)), some (.int (b : Nat)), by rw [← ev]; rfl, kp2, R2, ?_⟩
          rw [hp]
          cases pnum (i + 1) (l.drop (i + 1)) with
          | none => rfl
          | some z =>
            simp only [Option.map_some]
            congr 2
            · rw [Nat.mul_add, ← Nat.mul_assoc, Nat.add_assoc]
            · omega
      · refine k0 ?_ H1 kp
        rw [hp, List.drop_eq_nil_iff.mpr (by simpa using hb)]; rfl
    · intro σ H1 V
      obtain ⟨tot, fac, v3, v4, rfl, kp, R, hp⟩ := V.out
      refine k0 ?_ H1 kp
      rw [hp, List.drop_eq_nil_iff.mpr hl]; rfl
end
end Mk11
namespace Mk11
open PySem PySem.Spec PyProof.Rows L2 My

def FAt (H : Hp) (x : V) (st : Nat) : Option (Nat × Nat) → Prop
  | none => x = .non
  | some (v, k) => ∃ t : Addr, x = .ref t ∧ H t = some (.tup [.int ((st + k : Nat)), .int (v : Nat)])
theorem FAt.same {H H' : Hp} {x : V} {st : Nat} : ∀ {o : Option (Nat × Nat)}, FAt H x st o → Same H H' → FAt H' x st o
  | none, h, _ => h
  | some (v, k), ⟨t, e, h⟩, s => ⟨t, e, s _ _ h⟩
def spSize : Sp := fun vs H Q _ => ∃ (a : Addr) (l : List Nat) (st : Nat), vs = [.ref a, .int (st : Nat)] ∧ H a = some (.lst (nums l)) ∧ ∀ x H', Same H H' → FAt H' x st (pnum 0 ((l.drop st).take 60)) → Q x H'
section
variable {P : Program} {w : World} {K : PySem.W.Frag} {mg : Str → Option Value} {base : Heap}
theorem k__read_size (T : TopF K mg) (D : Defs K mg) (c_Reader : KMak P w K mg base CX0 1 "Reader" (He.ga K "Reader") ["self", "data"] (spRInit (He.ga K "Reader"))) (c_Reader_read_number : KMet P w K mg base (L2.CX P w) 2 (He.ga K "Reader") "read_number" ["self"] (spNumR (He.ga K "Reader") (He.ga K "DamagedPacket"))) : Kal P w K mg base CX0 3 "_read_size" ["data", "start"] spSize := by
  refine kal_mk D.d__read_size sc__read_size bi__read_size (fun vs H Q E h => ?_) (fun f cdv A outer s H vs Q E hr h => ?_)
  · obtain ⟨_, _, _, rfl, _⟩ := h; rfl
  · obtain ⟨a, l, st, rfl, ha, kk⟩ := h
    have k0 : pnum 0 ((l.drop st).take 60) = none → ∀ H', Same H H' → Q .non H' := fun e H' s => kk _ H' s (by rw [e]; exact rfl)
    have k1 : ∀ v k : Nat, pnum 0 ((l.drop st).take 60) = some (v, k) → ∀ (H' : Hp) (t : Addr), Same H H' → H' t = some (.tup [.int ((st + k : Nat)), .int (v : Nat)]) → Q (.ref t) H' := fun v k e H' t s ht => kk _ H' s (by rw [e]; exact ⟨t, rfl, ht⟩)
    have nd := sc__read_size.nd
    have cl := D.d_Reader_read_byte.cl
    refine ⟨_, (pss_cons (ps_set (i := 2) nd rfl (by first | exact Or.inl rfl | exact Or.inr rfl) (pe_kmk c_Reader hr (by first | decide | exact Nat.le_refl _ | omega) (pa_cons (pe_slice sl_list (pv 0) (po_some (pv 1)) (po_some (pe_op op_add (pv 1) pe_int))) pa_nil)))
 (pss_cons (ps_try_only rfl rfl ⟨rfl, by decide, .inl T.g_DamagedPacket⟩ takes0 (fun W pn xe tk pw => (pss_one (ps_set (i := 3) nd rfl (by first | exact Or.inl rfl | exact Or.inr rfl) (pe_kmetX0 c_Reader_read_number hr (by first | decide | exact Nat.le_refl _ | omega) tk (pv 2)))))
 (fun a_ oe_ cls_ d_ pn_ _ _ => (pss_one (ps_ret pe_non))))
 (pss_one (ps_ret (pe_tup (pa_cons (pe_op op_add (pv 1) (pe_fld (pv 2) rfl)) (pa_cons (pv 3) pa_nil))))))), ?_⟩
    refine ⟨_, rfl, _, rfl, _, rfl, _, rfl, _, _, rfl, rfl, _, rfl, _, _, rfl, SqL.of ha, fun c nc => ?_⟩
    generalize hc : upd _ c _ = H1
    have s1 := same_of hc nc
    have ac := upd_at hc
    have ac' : H1 c = some (.lst (nums ((l.drop st).take 60))) := by
      rw [ac, show ((st : Nat) : Int) + 60 = ((st + 60 : Nat) : Int) from rfl, cutV_mid, Nat.add_sub_cancel_left]
      simp [nums, List.map_take, List.map_drop]
    refine fun r dx nr ndx ne => ⟨r, c, dx, (l.drop st).take 60, rfl, upd_same, ?_, fun H2 q k2 R => ⟨rfl, ?_⟩⟩
    · rw [upd_ne (ne_of_none ac' nr), upd_ne (ne_of_none ac' ndx)]; exact ac'
    have s2 : Same H H2 := fun b o e => by
      have e1 := s1 _ _ e
      refine k2 _ _ ?_ (ne_of_none e1 nr)
      rw [upd_ne (ne_of_none e1 nr), upd_ne (ne_of_none e1 ndx)]; exact e1
    have R' := R
    obtain ⟨hq, dx2, hr1⟩ := R'
    have nrH : H r = none := s1.free nr
    refine ⟨_, rfl, r, dx2, _, rfl, hr1, rf_no _ _ (by decide +kernel) (by decide +kernel), ?_⟩
    refine ⟨r, q, _, rfl, R, by rw [List.length_take]; omega, fun v k e H3 k3 R3 => ?_, fun e H3 k3 => ⟨true, He.exm_ok T.m_DamagedPacket, fun _ a ha => ?_, fun z => nomatch z⟩⟩
    · have s3 : Same H H3 := fun b o e => k3 _ _ (s2 _ _ e) (ne_of_none e nrH)
      obtain ⟨hq3, dx3, hr3⟩ := R3
      refine ⟨_, rfl, _, rfl, r, _, dx3, _, _, rfl, hr3, cl, T.n_Reader_at, rf_a _ _, ?_⟩
      refine ⟨_, _, rfl, rfl, ?_⟩
      refine ⟨_, rfl, by show 2 ≤ sizeLine; decide, fun t nt => ?_⟩
      generalize h4 : upd _ t _ = H4
      exact k1 v k e H4 t (s3.trans (same_of h4 nt)) (upd_at h4)
    · have s3 : Same H H3 := fun b o e => k3 _ _ (s2 _ _ e) (ne_of_none e nrH)
      exact k0 e H3 s3
end
end Mk11
namespace Mk11
open PySem PySem.Spec PyProof.Rows L2 My

/-- a list of lists of numbers -/
def ListsAt (H : Hp) (p : Addr) (R : List (List Nat)) : Prop := ∃ us : List Addr, H p = some (.lst (us.map V.ref)) ∧ us.length = R.length ∧ ∀ (j : Nat) (u : Addr) (d : List Nat), us[j]? = some u → R[j]? = some d → H u = some (.lst (nums d))
theorem ListsAt.same {H H' : Hp} {p : Addr} {R : List (List Nat)} (h : ListsAt H p R) (s : Same H H') : ListsAt H' p R := by
  obtain ⟨us, h1, h2, h3⟩ := h
  exact ⟨us, s _ _ h1, h2, fun j u d a b => s _ _ (h3 j u d a b)⟩
theorem cutV_last (xs : List V) (h : 4 ≤ xs.length) : cutV xs (some (-4)) none = xs.drop (xs.length - 4) := by
  have e : HT.sIx xs.length 0 (some (-4)) = xs.length - 4 := by
    show (if (-4 : Int) < 0 then ((-4 : Int) + (xs.length : Int)).toNat else min (-4 : Int).toNat xs.length) = _
    rw [if_pos (by decide)]; omega
  unfold cutV
  rw [e, HT.sIx_none, List.take_of_length_le (by rw [List.length_drop]; omega)]
def spRead : Sp := fun vs H Q _ => ∃ (a : Addr) (l tl : List Nat) (R : List (List Nat)), vs = [.ref a] ∧ H a = some (.lst (nums l)) ∧ l = flat R ++ tl ∧ (∀ d ∈ R, d.length < 2097152) ∧ step tl = none ∧ l.length < 2097152 ∧ R.length ≤ 1000 ∧
  ∀ (H' : Hp) (t p : Addr), Same H H' → H' t = some (.tup [.ref p, .int ((flat R).length : Nat)]) → ListsAt H' p R → Q (.ref t) H'
section
variable {P : Program} {w : World} {K : PySem.W.Frag} {mg : Str → Option Value} {base : Heap}
theorem k_read_records (T : TopF K mg) (D : Defs K mg) (c__read_size : Kal P w K mg base CX0 3 "_read_size" ["data", "start"] spSize) (c_write_record : Kal P w K mg base CX0 2 "write_record" ["data"] spRec) : Kal P w K mg base CX0 4 "read_records" ["data"] spRead := by
  refine kal_mk D.d_read_records sc_read_records bi_read_records (fun vs H Q E h => ?_) (fun f cdv A outer s H vs Q E hr h => ?_)
  · obtain ⟨_, _, _, _, rfl, _⟩ := h; rfl
  · obtain ⟨a, l, tl, R, rfl, ha, hl, hR, htl, hlen, hRl, kk⟩ := h
    have nd := sc_read_records.nd
    refine ⟨_, (pss_cons (ps_set (i := 1) nd rfl (by first | exact Or.inl rfl | exact Or.inr rfl) (pe_lst pa_nil))
 (pss_cons (ps_set (i := 2) nd rfl (by first | exact Or.inl rfl | exact Or.inr rfl) pe_int)
 (pss_cons (ps_set (i := 3) nd rfl (by first | exact Or.inl rfl | exact Or.inr rfl) (pe_kal c__read_size hr (by first | decide | exact Nat.le_refl _ | omega) (pa_cons (pv 0) (pa_cons (pv 2) pa_nil))))
 (pss_cons (ps_while PassesOwn.never (pt_cmpR op_notN (pv 3) pe_non (nomark _))
 (pss_cons (ps_asg (pv 3) (pg_tup rfl (pgs_cons (pg_name (i := 4) nd rfl (by first | exact Or.inl rfl | exact Or.inr rfl)) (pgs_cons (pg_name (i := 5) nd rfl (by first | exact Or.inl rfl | exact Or.inr rfl)) pgs_nil))))
 (pss_cons (ps_set (i := 6) nd rfl (by first | exact Or.inl rfl | exact Or.inr rfl) (pe_slice sl_list (pv 0) (po_some (pv 4)) (po_some (pe_op op_add (pv 4) (pv 5)))))
 (pss_cons (ps_set (i := 7) nd rfl (by first | exact Or.inl rfl | exact Or.inr rfl) (pe_op op_add (pe_op op_add (pv 4) (pv 5)) pe_int))
 (pss_cons (ps_if (PW.pt (pw_or (pt_cmpR op_gt (pv 7) (pe_callB call_len_seq (by rfl) T.len (by decide +kernel) (pa_cons (pv 0) pa_nil)) (nomark _)) (pw_or1 (pt_cmpR (op_neD hr.units) (pe_slice sl_list (pe_kal c_write_record hr (by first | decide | exact Nat.le_refl _ | omega) (pa_cons (pv 6) pa_nil)) (po_some (pe_un un_neg pe_int)) po_none) (pe_slice sl_list (pv 0) (po_some (pe_op op_sub (pv 7) pe_int)) (po_some (pv 7))) (nomark _)))))
 (pss_one ps_break) pss_nil)
 (pss_cons (ps_expr (pe_bm PySem.F.plainAttrs_list PySem.F.slot_list_append PySem.F.type_list_append mt_append (pv 1) (pa_cons (pv 6) pa_nil)))
 (pss_cons (ps_set (i := 2) nd rfl (by first | exact Or.inl rfl | exact Or.inr rfl) (pv 7))
 (pss_one (ps_set (i := 3) nd rfl (by first | exact Or.inl rfl | exact Or.inr rfl) (pe_kal c__read_size hr (by first | decide | exact Nat.le_refl _ | omega) (pa_cons (pv 0) (pa_cons (pv 2) pa_nil))))))))))))
 (pss_one (ps_ret (pe_tup (pa_cons (pv 1) (pa_cons (pv 2) pa_nil))))))))), ?_⟩
    refine ⟨Nat.zero_le _, fun p np => ?_⟩
    generalize hp : upd _ p _ = H1
    have s1 := same_of hp np
    have ap := upd_at hp
    have stepI : ∀ i d, R[i]? = some d → step (l.drop (flat (R.take i)).length) = some (d, (rec d).length) := fun i d h => by
      rw [hl, flat_drop h]
      exact step_rec (hR d (List.mem_of_getElem? h)) _
    have stepN : step (l.drop (flat (R.take R.length)).length) = none := by rw [hl, flat_drop_end]; exact htl
    refine ⟨_, rfl, _, rfl, a, l, 0, rfl, s1 _ _ ha, fun x H2 s2 F => ?_⟩
    refine ⟨fun m σ H' => Hold (∃ (i : Nat) (x : V) (v4 v5 v6 v7 : Option V), σ = [some (.ref a), some (.ref p), some (.int ((flat (R.take i)).length : Nat)), some x, v4, v5, v6, v7] ∧ i ≤ R.length ∧ m = R.length - i ∧ Same H H' ∧ ListsAt H' p (R.take i) ∧ FAt H' x (flat (R.take i)).length (pnum 0 ((l.drop (flat (R.take i)).length).take 60))), ⟨R.length, .mk ⟨0, x, none, none, none, none, rfl, Nat.zero_le _, rfl, s1.trans s2, ⟨[], s2 _ _ ap, rfl, fun j u d a _ => by simp at a⟩, F⟩⟩, ?_⟩
    clear F s2
    rintro m σ H2 V
    obtain ⟨i, x, v4, v5, v6, v7, rfl, hi, hm, s2, L2, F⟩ := V.out
    generalize hst : (flat (R.take i)).length = st at F
    have hS : step (l.drop st) = none → i = R.length := fun e => by
      rcases Nat.lt_or_eq_of_le hi with lt | e2
      · have := stepI i _ (List.getElem?_eq_getElem lt)
        rw [hst, e] at this; cases this
      · exact e2
    have hS2 : ∀ d z, step (l.drop st) = some (d, z) → i < R.length ∧ R[i]? = some d ∧ z = (rec d).length := fun d z e => by
      rcases Nat.lt_or_eq_of_le hi with lt | e2
      · have e3 := List.getElem?_eq_getElem lt
        have := stepI i _ e3
        rw [hst, e] at this; cases this
        exact ⟨lt, e3, rfl⟩
      · rw [e2] at hst
        rw [hst, e] at stepN; cases stepN
    unfold step at hS hS2
    cases ho : pnum 0 ((l.drop st).take 60) with
    | none =>
      rw [ho] at F hS
      obtain rfl : x = .non := F
      refine ⟨_, rfl, rfl, _, rfl, ?_⟩
      refine ite2 (fun e => by simp at e) (fun _ => ?_)
      have ei := hS rfl
      subst ei
      rw [List.take_length] at hst L2
      refine ⟨_, rfl, _, rfl, by show 2 ≤ sizeLine; decide, fun t nt => ?_⟩
      generalize h3 : upd _ t _ = H3
      have s3 := same_of h3 nt
      exact kk H3 t p (s2.trans s3) (by rw [hst]; exact upd_at h3) (L2.same s3)
    | some vk =>
      obtain ⟨v, k⟩ := vk
      rw [ho] at F hS hS2
      obtain ⟨t, rfl, ht⟩ := F
      have hk := pnum_le _ _ _ _ ho
      refine ⟨_, rfl, rfl, _, rfl, ?_⟩
      refine ite2 (fun _ => ?_) (fun e => by simp at e)
      refine ⟨_, fun _ _ h => h, ?_⟩
      refine ⟨_, rfl, t, _, rfl, .inl (.inl ht), rfl, _, _, rfl, _, _, rfl, rfl, ?_⟩
      -- record = data[begin:begin + size]
      refine ⟨_, rfl, _, rfl, _, rfl, _, rfl, _, rfl, _, _, rfl, rfl, _, rfl, _, _, rfl, SqL.of (s2 _ _ ha), fun c nc => ?_⟩
      generalize hc : upd _ c _ = H3
      have s3 := same_of hc nc
      have ac := upd_at hc
      have ac' : H3 c = some (.lst (nums ((l.drop (st + k)).take v))) := by
        rw [ac, show ((st + k : Nat) : Int) + (v : Nat) = ((st + k + v : Nat) : Int) from rfl, cutV_mid, Nat.add_sub_cancel_left]
        simp [nums, List.map_take, List.map_drop]
      have s23 := s2.trans s3
      -- end = begin + size + 4
      refine ⟨_, rfl, _, rfl, _, _, rfl, rfl, _, _, rfl, rfl, ?_⟩
      refine ⟨_, rfl, _, rfl, _, _, rfl, .inl (SqL.of (s23 _ _ ha)), ?_⟩
      rw [List.length_map]
      refine ⟨_, _, rfl, rfl, _, rfl, ?_⟩
      have hln : (l.drop st).length = l.length - st := List.length_drop
      rw [List.length_take] at hk
      refine ite2 (fun e1 => ?_) (fun e1 => ?_)
      · refine ite2 (fun _ => ?_) (fun z => absurd rfl z)
        have h1 := of_decide_eq_true e1
        have ei := hS (if_pos (by omega))
        subst ei
        rw [List.take_length] at hst L2
        refine ⟨_, rfl, _, rfl, by show 2 ≤ sizeLine; decide, fun t nt => ?_⟩
        generalize h4 : upd _ t _ = H4
        have s4 := same_of h4 nt
        exact kk H4 t p (s23.trans s4) (by rw [hst]; exact upd_at h4) (L2.same (s3.trans s4))
      have h1 : ¬ (l.drop st).length < k + v + 4 := fun z => e1 (decide_eq_true (by omega))
      simp only at hS hS2
      rw [if_neg h1] at hS hS2
      rw [List.drop_drop, List.drop_drop] at hS hS2
      generalize hd : (l.drop (st + k)).take v = d at ac' hS hS2
      have hdl : d.length < 2097152 := by
        rw [← hd, List.length_take, List.length_drop]; omega
      refine ⟨_, rfl, c, d, rfl, ac', hdl, fun H4 q s4 nq hq => ?_⟩
      refine ⟨_, rfl, _, rfl, _, _, rfl, SqL.of hq, fun c2 nc2 => ?_⟩
      generalize h5 : upd _ c2 _ = H5
      have s5 := same_of h5 nc2
      have a5 := upd_at h5
      have a5' : H5 c2 = some (.lst (nums (tail4 (cks d)))) := by
        rw [a5, cutV_last _ (by rw [List.length_map, rec_len]; omega), List.length_map, rec_len, Nat.add_sub_cancel, ← List.map_drop]
        unfold rec
        rw [← List.length_append, List.drop_left' rfl]
      refine ⟨_, rfl, _, rfl, _, _, rfl, rfl, _, rfl, _, rfl, _, rfl, _, _, rfl, SqL.of (s5 _ _ (s4 _ _ (s23 _ _ ha))), fun c3 nc3 => ?_⟩
      generalize h6 : upd _ c3 _ = H6
      have s6 := same_of h6 nc3
      have a6 := upd_at h6
      have a6' : H6 c3 = some (.lst (nums ((l.drop (st + (k + v))).take 4))) := by
        rw [a6, show ((st + k : Nat) : Int) + (v : Nat) + 4 - 4 = ((st + (k + v) : Nat) : Int) by omega, show ((st + k : Nat) : Int) + (v : Nat) + 4 = ((st + (k + v) + 4 : Nat) : Int) by omega, cutV_mid, Nat.add_sub_cancel_left]
        simp [nums, List.map_take, List.map_drop]
      refine ⟨_, _, nums_dp (s6 _ _ a5'), nums_dp a6', ints_shaped _, ints_shaped _, _, rfl, ?_⟩
      rw [nums_eqv]
      have s26 := s3.trans (s4.trans (s5.trans s6))
      refine ite2 (fun e2 => ?_) (fun e2 => ?_)
      · have h2 : ¬ tail4 (cks d) = (l.drop (st + (k + v))).take 4 := by simpa using e2
        have ei := hS (if_neg h2)
        subst ei
        rw [List.take_length] at hst L2
        refine ⟨_, rfl, _, rfl, by show 2 ≤ sizeLine; decide, fun t nt => ?_⟩
        generalize h7 : upd _ t _ = H7
        have s7 := same_of h7 nt
        exact kk H7 t p (s2.trans (s26.trans s7)) (by rw [hst]; exact upd_at h7) (L2.same (s26.trans s7))
      have h2 : tail4 (cks d) = (l.drop (st + (k + v))).take 4 := by simpa using e2
      obtain ⟨lt, hd0, hz⟩ := hS2 _ _ (if_pos h2)
      have L6 := L2.same s26
      obtain ⟨us, u1, u2, u3⟩ := L6
      -- records.append(record); start = end; found = _read_size(data, start)
      refine ⟨_, rfl, .inl ⟨rfl, _, SqL.of u1⟩, ?_⟩
      refine ⟨_, rfl, p, _, _, rfl, rfl, u1, by rw [List.length_map, u2, List.length_take, line24]; omega, ?_⟩
      generalize h7 : upd _ p _ = H7
      have k7 : Keep (· = p) H6 H7 := keep_of h7 rfl
      have a7 := upd_at h7
      have s7 : Same H H7 := fun b o e => k7 _ _ (s26 _ _ (s2 _ _ e)) (ne_of_none e np)
      have est : (flat (R.take (i + 1))).length = st + k + v + 4 := by
        rw [flat_take_succ hd0, List.length_append, hst, ← hz]; omega
      refine ⟨_, rfl, _, rfl, _, rfl, a, l, st + k + v + 4, rfl, s7 _ _ ha, fun x H8 s8 F8 => ?_⟩
      have ncp : c ≠ p := fun z => by
        obtain ⟨_, e1, _⟩ := L2
        rw [z, e1] at nc; cases nc
      refine ⟨R.length - (i + 1), by omega, .mk ⟨i + 1, x, _, _, _, _, by rw [est]; rfl, lt, rfl, s7.trans s8, ⟨us ++ [c], by rw [s8 _ _ a7]; simp, by simp [u2]; omega, fun j u d' h1 h2 => ?_⟩, by rw [est]; exact F8⟩⟩
      refine s8 _ _ ?_
      by_cases hj : j < us.length
      · rw [List.getElem?_append_left hj] at h1
        have hj2 : j < i := by rw [u2, List.length_take] at hj; omega
        have h3 : (R.take i)[j]? = some d' := by
          rw [List.getElem?_take, if_pos hj2]
          rw [List.getElem?_take, if_pos (by omega)] at h2
          exact h2
        have := u3 j u d' h1 h3
        refine k7 _ _ this fun z => ?_
        rw [z, u1] at this
        cases us with
        | nil => simp at hj
        | cons u0 us =>
          cases d' with
          | nil => simp at this
          | cons b d' => simp at this
      · have hj2 : j = us.length := by
          have := (List.getElem?_eq_some_iff.mp h1).1
          simp at this; omega
        have hj3 : j = i := by rw [hj2, u2, List.length_take]; omega
        subst hj3
        rw [hj2] at h1
        simp at h1
        rw [List.getElem?_take, if_pos (by omega), hd0] at h2
        cases h2
        subst h1
        exact k7 _ _ ((s4.trans (s5.trans s6)) _ _ ac') ncp
end
end Mk11
namespace Mk11
open PySem PySem.Spec PyProof.Rows L2 My

theorem StAt.keep {K : PySem.W.Frag} {N : Addr → Prop} {H H' : Hp} {s p : Addr} (h : StAt K H s p) (k : Keep N H H') (ns : ¬ N s) (np : ¬ N p) : StAt K H' s p := by
  obtain ⟨ds, i, h1, ⟨h2, h3⟩, h4⟩ := h
  exact ⟨ds, i, k _ _ h1 ns, ⟨k _ _ h2 np, h3⟩, h4⟩
theorem StAt.same {K : PySem.W.Frag} {H H' : Hp} {s p : Addr} (h : StAt K H s p) (k : Same H H') : StAt K H' s p := h.keep (N := fun _ => False) (Keep.of k) (fun z => z) (fun z => z)
theorem StAt.lst {K : PySem.W.Frag} {H : Hp} {s p : Addr} (h : StAt K H s p) : ∃ xs, H s = some (.lst xs) := by
  obtain ⟨_, _, h2, _⟩ := h; exact ⟨_, h2⟩
theorem StAt.plst {K : PySem.W.Frag} {H : Hp} {s p : Addr} (h : StAt K H s p) : ∃ xs, H p = some (.lst xs) := by
  obtain ⟨_, _, _, h2, _⟩ := h; exact ⟨_, h2.1⟩
theorem StAt.keepT {K : PySem.W.Frag} {H H' : Hp} {s p v : Addr} (h : StAt K H s p) (k : Keep (· = v) H H') (nv : H v = none) : StAt K H' s p := by
  obtain ⟨_, h1⟩ := h.lst
  obtain ⟨_, h2⟩ := h.plst
  exact h.keep k (ne_of_none h1 nv) (ne_of_none h2 nv)
theorem StAt.new {K : PySem.W.Frag} {H : Hp} {s p v : Addr} (h : StAt K H s p) (nv : H v = none) : v ≠ s ∧ v ≠ p := by
  obtain ⟨_, h1⟩ := h.lst
  obtain ⟨_, h2⟩ := h.plst
  exact ⟨fun z => ne_of_none h1 nv z.symm, fun z => ne_of_none h2 nv z.symm⟩
theorem Keep.free' {N : Addr → Prop} {H H' : Hp} {b : Addr} (k : Keep N H H') (q : H' b = none) (n : ¬ N b) : H b = none := by
  cases z : H b with
  | none => rfl
  | some o =>
    have := k _ _ z n
    rw [q] at this; cases this
def spBytes (K : PySem.W.Frag) : Sp := fun vs H Q _ => ∃ (s p : Addr), vs = [.ref s] ∧ StAt K H s p ∧ ∀ (H' : Hp) (q : Addr) (d : List Nat), Keep (· = s) H H' → StAt K H' s p → H q = none → H' q = some (.lst (nums d)) → d.length ≤ 2000 → (∀ c ∈ d, c < 256) → Q (.ref q) H'
def spBehind (K : PySem.W.Frag) : Sp := fun vs H Q _ => ∃ (s p : Addr), vs = [.ref s] ∧ StAt K H s p ∧ ∀ (H' : Hp) (q : Addr) (tl : List Nat), Keep (· = s) H H' → StAt K H' s p → H q = none → H' q = some (.lst (nums tl)) → tl.length ≤ 5000 → step tl = none → Q (.ref q) H'
section
variable {P : Program} {w : World} {K : PySem.W.Frag} {mg : Str → Option Value} {base : Heap}
theorem k__law_bytes (T : TopF K mg) (D : Defs K mg) (c__law_next : Kal P w K mg base CX0 3 "_law_next" ["state", "limit"] (spNext K)) : Kal P w K mg base CX0 4 "_law_bytes" ["state"] (spBytes K) := by
  refine kal_mk D.d__law_bytes sc__law_bytes bi__law_bytes (fun vs H Q E h => ?_) (fun f cdv A outer s0 H vs Q E hr h => ?_)
  · obtain ⟨_, _, rfl, _⟩ := h; rfl
  · obtain ⟨s, p, rfl, sa, kk⟩ := h
    have nd := sc__law_bytes.nd
    refine ⟨_, (pss_cons (ps_set (i := 1) nd rfl (by first | exact Or.inl rfl | exact Or.inr rfl) (pe_kal c__law_next hr (by first | decide | exact Nat.le_refl _ | omega) (pa_cons (pv 0) (pa_cons pe_int pa_nil))))
 (pss_cons (ps_set (i := 2) nd rfl (by first | exact Or.inl rfl | exact Or.inr rfl) (pe_kal c__law_next hr (by first | decide | exact Nat.le_refl _ | omega) (pa_cons (pv 0) (pa_cons pe_int pa_nil))))
 (C8.pss_cut (ps_if (pt_cmpR op_lt (pv 2) pe_int (nomark _))
 (pss_one (ps_set (i := 1) nd rfl (by first | exact Or.inl rfl | exact Or.inr rfl) (pe_op op_add pe_int (pe_kal c__law_next hr (by first | decide | exact Nat.le_refl _ | omega) (pa_cons (pv 0) (pa_cons pe_int pa_nil)))))) (pss_one (ps_if (pt_cmpR op_lt (pv 2) pe_int (nomark _))
 (pss_one (ps_set (i := 1) nd rfl (by first | exact Or.inl rfl | exact Or.inr rfl) (pe_op op_add pe_int (pe_kal c__law_next hr (by first | decide | exact Nat.le_refl _ | omega) (pa_cons (pv 0) (pa_cons pe_int pa_nil)))))) (pss_one (ps_if (pt_cmpR op_eq (pv 2) pe_int (nomark _))
 (pss_one (ps_set (i := 1) nd rfl (by first | exact Or.inl rfl | exact Or.inr rfl) (pe_op op_add pe_int (pe_kal c__law_next hr (by first | decide | exact Nat.le_refl _ | omega) (pa_cons (pv 0) (pa_cons pe_int pa_nil)))))) pss_nil)))))
 (pss_cons (ps_set (i := 3) nd rfl (by first | exact Or.inl rfl | exact Or.inr rfl) (pe_kal c__law_next hr (by first | decide | exact Nat.le_refl _ | omega) (pa_cons (pv 0) (pa_cons pe_int pa_nil))))
 (pss_one (ps_ret (pe_lc (g := gName 4) (own := [("k", 4)]) rfl nd (pi_range1 (by rfl) T.range (pa_cons (pv 1) pa_nil)) (blkOk_by (own := [("k", 4)]) (N := ["state", "count", "pick", "start", "k"]) (sc := defScope s__law_bytes) (by decide +kernel)) (fun _ _ _ _ _ => (pg_name (i := 4) nd rfl (by first | exact Or.inl rfl | exact Or.inr rfl))) (fun _ _ _ _ _ => pts_nil) (fun _ _ _ _ _ => (pe_op op_mod (pe_op op_add (pv 3) (pe_op op_mul (pe_op op_mul pe_int (pv 4)) (pv 4))) pe_int))))))))), ?_⟩
    refine ⟨_, rfl, s, p, 6, rfl, sa, by decide, fun H1 c k1 sa1 c0 c1 _ => ?_⟩
    refine ⟨_, rfl, s, p, 24, rfl, sa1, by decide, fun H2 pick k2 sa2 p0 p1 _ => ?_⟩
    refine ⟨fun σ H' => Hold (∃ c : Nat, σ = [some (.ref s), some (.int (c : Nat)), some (.int pick), none, none] ∧ c ≤ 2000 ∧ Keep (· = s) H H' ∧ StAt K H' s p), ?_, ?_⟩
    · refine ⟨_, rfl, _, _, rfl, rfl, _, rfl, ?_⟩
      refine ite2 (fun _ => ?_) (fun _ => ?_)
      · refine ⟨_, rfl, s, p, 181, rfl, sa2, by decide, fun H3 x k3 sa3 x0 x1 _ => ?_⟩
        refine ⟨_, _, rfl, rfl, ?_⟩
        obtain ⟨x, rfl⟩ : ∃ m : Nat, x = (m : Int) := ⟨x.toNat, by omega⟩
        exact .mk ⟨120 + x, rfl, by omega, k1.trans (k2.trans k3), sa3⟩
      refine ⟨_, rfl, _, _, rfl, rfl, _, rfl, ?_⟩
      refine ite2 (fun _ => ?_) (fun _ => ?_)
      · refine ⟨_, rfl, s, p, 114, rfl, sa2, by decide, fun H3 x k3 sa3 x0 x1 _ => ?_⟩
        refine ⟨_, _, rfl, rfl, ?_⟩
        obtain ⟨x, rfl⟩ : ∃ m : Nat, x = (m : Int) := ⟨x.toNat, by omega⟩
        exact .mk ⟨6 + x, rfl, by omega, k1.trans (k2.trans k3), sa3⟩
      refine ⟨_, rfl, rfl, _, rfl, ?_⟩
      refine ite2 (fun _ => ?_) (fun _ => ?_)
      · refine ⟨_, rfl, s, p, 1700, rfl, sa2, by decide, fun H3 x k3 sa3 x0 x1 _ => ?_⟩
        refine ⟨_, _, rfl, rfl, ?_⟩
        obtain ⟨x, rfl⟩ : ∃ m : Nat, x = (m : Int) := ⟨x.toNat, by omega⟩
        exact .mk ⟨301 + x, rfl, by omega, k1.trans (k2.trans k3), sa3⟩
      obtain ⟨c, rfl⟩ : ∃ m : Nat, c = (m : Int) := ⟨c.toNat, by omega⟩
      exact .mk ⟨c, rfl, by omega, k1.trans k2, sa2⟩
    intro σ H3 V
    obtain ⟨c, rfl, hc, k3, sa3⟩ := V.out
    clear V
    refine ⟨_, rfl, s, p, 256, rfl, sa3, by decide, fun H4 z k4 sa4 z0 z1 _ => ?_⟩
    obtain ⟨z, rfl⟩ : ∃ m : Nat, z = (m : Int) := ⟨z.toNat, by omega⟩
    refine ⟨_, rfl, _, rfl, by omega, by omega, fun q nq => ?_⟩
    refine lc_range0 (n := c) (fun i H' => Hold (Keep (· = q) H4 H' ∧ H' q = some (.lst (nums ((List.range i).map fun k => (z + 41 * k * k) % 256))))) ?_ ?_ ?_
    · exact .mk ⟨Keep.new nq, upd_same⟩
    · intro i H' hi V
      obtain ⟨kq, hq⟩ := V.out
      refine ⟨rfl, ?_⟩
      refine ⟨_, rfl, _, rfl, _, _, rfl, rfl, .inl ⟨by decide, by decide⟩, _, rfl, _, _, rfl, rfl, .inr ⟨by omega, by omega⟩, _, _, rfl, rfl, _, _, rfl, rfl, show (0 : Int) < 256 by decide, ?_⟩
      refine ⟨_, hq, by simp [line24]; omega, .mk ⟨kq.trans (Keep.put rfl), ?_⟩⟩
      have e : ((z : Nat) : Int) + 41 * ((i : Nat) : Int) * ((i : Nat) : Int) = ((z + 41 * i * i : Nat) : Int) := by
        rw [Int.natCast_add, Int.natCast_mul, Int.natCast_mul]; rfl
      rw [upd_same, List.range_succ, List.map_append, e]; simp
    intro H5 V
    obtain ⟨kq, hq⟩ := V.out
    clear V
    have kp : Keep (· = s) H H5 := (k3.trans k4).trans (kq.mono fun b z => .inr (by rw [z]; exact nq))
    refine kk H5 q _ kp (sa4.keepT kq nq) (Keep.free' (k3.trans k4) nq (sa4.new nq).1) hq (by simpa using hc) fun c m => ?_
    obtain ⟨k, _, rfl⟩ := List.mem_map.mp m
    omega
theorem k__law_behind (T : TopF K mg) (D : Defs K mg) (c__law_next : Kal P w K mg base CX0 3 "_law_next" ["state", "limit"] (spNext K)) (c__law_bytes : Kal P w K mg base CX0 4 "_law_bytes" ["state"] (spBytes K)) (c__law_record : Kal P w K mg base CX0 2 "_law_record" ["data"] spRec) (c__law_number : Kal P w K mg base CX0 1 "_law_number" ["number"] spNum) : Kal P w K mg base CX0 5 "_law_behind" ["state"] (spBehind K) := by
  refine kal_mk D.d__law_behind sc__law_behind bi__law_behind (fun vs H Q E h => ?_) (fun f cdv A outer s0 H vs Q E hr h => ?_)
  · obtain ⟨_, _, rfl, _⟩ := h; rfl
  · obtain ⟨s, p, rfl, sa, kk⟩ := h
    have nd := sc__law_behind.nd
    refine ⟨_, (pss_cons (ps_set (i := 1) nd rfl (by first | exact Or.inl rfl | exact Or.inr rfl) (pe_kal c__law_bytes hr (by first | decide | exact Nat.le_refl _ | omega) (pa_cons (pv 0) pa_nil)))
 (pss_cons (ps_set (i := 2) nd rfl (by first | exact Or.inl rfl | exact Or.inr rfl) (pe_kal c__law_record hr (by first | decide | exact Nat.le_refl _ | omega) (pa_cons (pv 1) pa_nil)))
 (pss_cons (ps_set (i := 3) nd rfl (by first | exact Or.inl rfl | exact Or.inr rfl) (pe_ix ix_list (pe_lst (pa_cons (pe_lst pa_nil) (pa_cons (pe_op op_cat (pe_kal c__law_record hr (by first | decide | exact Nat.le_refl _ | omega) (pa_cons (pe_lst (pa_cons pe_int (pa_cons pe_int (pa_cons pe_int pa_nil)))) pa_nil)) (pe_kal c__law_record hr (by first | decide | exact Nat.le_refl _ | omega) (pa_cons (pe_lst pa_nil) pa_nil))) pa_nil))) (pe_kal c__law_next hr (by first | decide | exact Nat.le_refl _ | omega) (pa_cons (pv 0) (pa_cons pe_int pa_nil))) (fun _ _ => rfl)))
 (pss_cons (ps_set (i := 4) nd rfl (by first | exact Or.inl rfl | exact Or.inr rfl) (pe_kal c__law_next hr (by first | decide | exact Nat.le_refl _ | omega) (pa_cons (pv 0) (pa_cons pe_int pa_nil))))
 (pss_cons (ps_if (pt_cmpR op_eq (pv 4) pe_int (nomark _))
 (pss_one (ps_ret (pe_lst pa_nil))) pss_nil)
 (pss_cons (ps_if (pt_cmpR op_eq (pv 4) pe_int (nomark _))
 (pss_one (ps_ret (pe_slice sl_list (pv 2) po_none (po_some (pe_kal c__law_next hr (by first | decide | exact Nat.le_refl _ | omega) (pa_cons (pv 0) (pa_cons (pe_callB call_len_seq (by rfl) T.len (by decide +kernel) (pa_cons (pv 2) pa_nil)) pa_nil))))))) pss_nil)
 (pss_cons (ps_if (pt_cmpR op_eq (pv 4) pe_int (nomark _))
 (pss_cons (ps_set (i := 5) nd rfl (by first | exact Or.inl rfl | exact Or.inr rfl) (pe_op op_sub (pe_op op_sub (pe_callB call_len_seq (by rfl) T.len (by decide +kernel) (pa_cons (pv 2) pa_nil)) pe_int) (pe_kal c__law_next hr (by first | decide | exact Nat.le_refl _ | omega) (pa_cons (pv 0) (pa_cons pe_int pa_nil)))))
 (pss_one (ps_ret (pe_op op_cat (pe_op op_cat (pe_op op_cat (pe_slice sl_list (pv 2) po_none (po_some (pv 5))) (pe_lst (pa_cons (pe_op op_mod (pe_op op_add (pe_op op_add (pe_ix ix_list (pv 2) (pv 5) (fun _ _ => rfl)) pe_int) (pe_kal c__law_next hr (by first | decide | exact Nat.le_refl _ | omega) (pa_cons (pv 0) (pa_cons pe_int pa_nil)))) pe_int) pa_nil))) (pe_slice sl_list (pv 2) (po_some (pe_op op_add (pv 5) pe_int)) po_none)) (pv 3))))) pss_nil)
 (pss_cons (ps_if (PW.pt (pw_and (pt_cmpR op_eq (pv 4) pe_int (nomark _)) (pw_and1 (pt_cmpR op_gt (pe_callB call_len_seq (by rfl) T.len (by decide +kernel) (pa_cons (pv 1) pa_nil)) pe_int (nomark _)))))
 (pss_cons (ps_set (i := 5) nd rfl (by first | exact Or.inl rfl | exact Or.inr rfl) (pe_op op_sub (pe_op op_sub (pe_callB call_len_seq (by rfl) T.len (by decide +kernel) (pa_cons (pv 2) pa_nil)) pe_int) (pe_kal c__law_next hr (by first | decide | exact Nat.le_refl _ | omega) (pa_cons (pv 0) (pa_cons (pe_callB call_len_seq (by rfl) T.len (by decide +kernel) (pa_cons (pv 1) pa_nil)) pa_nil)))))
 (pss_one (ps_ret (pe_op op_cat (pe_op op_cat (pe_op op_cat (pe_slice sl_list (pv 2) po_none (po_some (pv 5))) (pe_lst (pa_cons (pe_op op_mod (pe_op op_add (pe_op op_add (pe_ix ix_list (pv 2) (pv 5) (fun _ _ => rfl)) pe_int) (pe_kal c__law_next hr (by first | decide | exact Nat.le_refl _ | omega) (pa_cons (pv 0) (pa_cons pe_int pa_nil)))) pe_int) pa_nil))) (pe_slice sl_list (pv 2) (po_some (pe_op op_add (pv 5) pe_int)) po_none)) (pv 3))))) pss_nil)
 (pss_cons (ps_set (i := 6) nd rfl (by first | exact Or.inl rfl | exact Or.inr rfl) (pe_kal c__law_number hr (by first | decide | exact Nat.le_refl _ | omega) (pa_cons (pe_callB call_len_seq (by rfl) T.len (by decide +kernel) (pa_cons (pv 1) pa_nil)) pa_nil)))
 (pss_cons (ps_set (i := 7) nd rfl (by first | exact Or.inl rfl | exact Or.inr rfl) (pe_op op_cat (pe_op op_cat (pe_lst (pa_cons (pe_op op_add (pe_ix ix_list (pv 6) (pe_op op_sub (pe_callB call_len_seq (by rfl) T.len (by decide +kernel) (pa_cons (pv 6) pa_nil)) pe_int) (fun _ _ => rfl)) pe_int) pa_nil)) (pe_op op_rep (pe_lst (pa_cons pe_int pa_nil)) (pe_kal c__law_next hr (by first | decide | exact Nat.le_refl _ | omega) (pa_cons (pv 0) (pa_cons pe_int pa_nil))))) (pe_lst (pa_cons pe_int pa_nil))))
 (pss_one (ps_ret (pe_op op_cat (pe_op op_cat (pe_op op_cat (pe_slice sl_list (pv 6) po_none (po_some (pe_op op_sub (pe_callB call_len_seq (by rfl) T.len (by decide +kernel) (pa_cons (pv 6) pa_nil)) pe_int))) (pv 7)) (pe_slice sl_list (pv 2) (po_some (pe_callB call_len_seq (by rfl) T.len (by decide +kernel) (pa_cons (pv 6) pa_nil))) po_none)) (pv 3)))))))))))))), ?_⟩
    -- data, record
    refine ⟨_, rfl, s, p, rfl, sa, fun H1 a d k1 sa1 n1 a1 dl db => ?_⟩
    refine ⟨_, rfl, a, d, rfl, a1, by omega, fun H2 b s2 n2 b2 => ?_⟩
    have k2 : Keep (· = s) H H2 := k1.trans (Keep.of s2)
    have sa2 := sa1.same s2
    have nas : a ≠ s := (sa.new n1).1
    have nbs : b ≠ s := (sa1.new n2).1
    have a2 := s2 _ _ a1
    have hl := num_len (show d.length < 2097152 by omega)
    -- further
    refine ⟨Nat.zero_le _, fun e3 n3 => ?_⟩
    generalize h3 : upd _ e3 _ = H3
    have s3 := same_of h3 n3
    have a3 := upd_at h3
    refine ⟨by show 3 ≤ sizeLine; decide, fun e4 n4 => ?_⟩
    generalize h4 : upd _ e4 _ = H4
    have s4 := same_of h4 n4
    have a4 := upd_at h4
    refine ⟨e4, [1, 2, 3], rfl, a4, by decide, fun H5 e5 s5 n5 a5 => ?_⟩
    refine ⟨Nat.zero_le _, fun e6 n6 => ?_⟩
    generalize h6 : upd _ e6 _ = H6
    have s6 := same_of h6 n6
    have a6 := upd_at h6
    refine ⟨e6, [], rfl, a6, by decide, fun H7 e7 s7 n7 a7 => ?_⟩
    refine ⟨e5, e7, _, _, rfl, rfl, s7 _ _ (s6 _ _ a5), a7, by rw [List.length_map, List.length_map, rec_len, rec_len, num_lo (by decide), num_lo (by decide)]; decide, fun e8 n8 => ?_⟩
    generalize h8 : upd _ e8 _ = H8
    have s8 := same_of h8 n8
    have a8 := upd_at h8
    refine ⟨by show 2 ≤ sizeLine; decide, fun e9 n9 => ?_⟩
    generalize h9 : upd _ e9 _ = H9
    have s9 := same_of h9 n9
    have a9 := upd_at h9
    have s29 := s3.trans (s4.trans (s5.trans (s6.trans (s7.trans (s8.trans s9)))))
    have sa9 := sa2.same s29
    have k9 : Keep (· = s) H H9 := k2.trans (Keep.of s29)
    refine ⟨_, rfl, s, p, 2, rfl, sa9, by decide, fun H10 c k10 sa10 c0 c1 _ => ?_⟩
    have ne3s : e3 ≠ s := (sa2.new n3).1
    have sa8 := sa2.same (s3.trans (s4.trans (s5.trans (s6.trans (s7.trans s8)))))
    have ne9s : e9 ≠ s := (sa8.new n9).1
    have ne8s : e8 ≠ s := ((sa2.same (s3.trans (s4.trans (s5.trans (s6.trans s7))))).new n8).1
    have a9' := k10 _ _ a9 ne9s
    obtain ⟨g, fu, hg0, hg, hfu⟩ : ∃ (g : Addr) (fu : List Nat), atI [V.ref e3, V.ref e8] c = some (.ref g) ∧ H10 g = some (.lst (nums fu)) ∧ fu.length ≤ 100 := by
      have hc : c = 0 ∨ c = 1 := by omega
      rcases hc with rfl | rfl
      · exact ⟨e3, [], rfl, k10 _ _ ((s4.trans (s5.trans (s6.trans (s7.trans (s8.trans s9))))) _ _ a3) ne3s, by decide⟩
      · refine ⟨e8, rec [1, 2, 3] ++ rec [], rfl, k10 _ _ (s9 _ _ ?_) ne8s, ?_⟩
        · rw [a8]; simp [nums]
        · rw [List.length_append, rec_len, rec_len, num_lo (by decide), num_lo (by decide)]; decide
    refine ⟨_, _, _, _, rfl, rfl, SqL.of a9', hg0, ?_⟩
    have k10' : Keep (· = s) H H10 := k9.trans k10
    have ngs : g ≠ s := by
      obtain ⟨_, hs⟩ := sa10
      obtain ⟨i, hs, _⟩ := hs
      intro z
      rw [z, hs] at hg
      cases fu with
      | nil => simp at hg
      | cons y fu => simp at hg
    have a10 := k10 _ _ (s29 _ _ a2) nas
    have b10 := k10 _ _ (s29 _ _ b2) nbs
    -- pick
    refine ⟨_, rfl, s, p, 5, rfl, sa10, by decide, fun H11 pick k11 sa11 p0 p1 _ => ?_⟩
    have K11 : Keep (· = s) H H11 := k10'.trans k11
    have a11 := k11 _ _ a10 nas
    have b11 := k11 _ _ b10 nbs
    have g11 := k11 _ _ hg ngs
    clear a10 b10 hg k11 k10' sa10 hg0 a9' k10 sa9 k9
    refine ⟨_, rfl, rfl, _, rfl, ?_⟩
    refine ite2 (fun _ => ?_) (fun _ => ?_)
    · refine ⟨Nat.zero_le _, fun q nq => ?_⟩
      generalize hq : upd _ q _ = H12
      have s12 := same_of hq nq
      refine kk H12 q [] (K11.trans (Keep.of s12)) (sa11.same s12) (Keep.free' K11 nq (sa11.new nq).1) (upd_at hq) (by decide) rfl
    refine ⟨_, rfl, rfl, _, rfl, ?_⟩
    have rl := rec_len d
    refine ite2 (fun _ => ?_) (fun _ => ?_)
    · refine ⟨_, rfl, _, rfl, _, rfl, _, _, rfl, .inl (SqL.of b11), ?_⟩
      rw [List.length_map]
      refine ⟨s, p, _, rfl, sa11, by omega, fun H12 z k12 sa12 z0 z1 _ => ?_⟩
      obtain ⟨z, rfl⟩ : ∃ m : Nat, z = (m : Int) := ⟨z.toNat, by omega⟩
      refine ⟨_, rfl, _, _, rfl, SqL.of (k12 _ _ b11 nbs), fun q nq => ?_⟩
      generalize hq : upd _ q _ = H13
      have s13 := same_of hq nq
      have aq := upd_at hq
      rw [cutV_to] at aq
      have K12 := K11.trans k12
      refine kk H13 q ((rec d).take z) (K12.trans (Keep.of s13)) (sa12.same s13) (Keep.free' K12 nq (sa12.new nq).1) (by rw [aq]; simp [nums, List.map_take]) (by rw [List.length_take]; omega) (step_short (by omega) (by omega))
    refine ⟨_, rfl, rfl, _, rfl, ?_⟩
    refine ite2 (fun _ => ?_) (fun _ => ?_)
    · refine ⟨_, rfl, _, _, rfl, .inl (SqL.of b11), ?_⟩
      rw [List.length_map]
      refine ⟨_, _, rfl, rfl, ?_⟩
      refine ⟨_, rfl, s, p, 4, rfl, sa11, by decide, fun H12 z k12 sa12 z0 z1 _ => ?_⟩
      obtain ⟨z, rfl⟩ : ∃ m : Nat, z = (m : Int) := ⟨z.toNat, by omega⟩
      refine ⟨_, _, rfl, rfl, ?_⟩
      obtain ⟨i, hi⟩ : ∃ i : Nat, (((rec d).length : Nat) : Int) - 1 - (z : Nat) = (i : Nat) := ⟨(rec d).length - 1 - z, by omega⟩
      have hil : i < (rec d).length := by omega
      have hge : (num d.length).length ≤ i := by omega
      have hy := List.getElem?_eq_getElem hil
      generalize (rec d)[i] = y at hy
      have K12 := K11.trans k12
      have b12 := k12 _ _ b11 nbs
      have g12 := k12 _ _ g11 ngs
      refine ⟨_, rfl, _, rfl, _, rfl, _, _, rfl, SqL.of b12, fun q1 nq1 => ?_⟩
      generalize hq1 : upd _ q1 _ = H13
      have s13 := same_of hq1 nq1
      have aq1 := upd_at hq1
      rw [hi, cutV_to] at aq1
      have sa13 := sa12.same s13
      have nq1s := (sa12.new nq1).1
      refine ⟨_, rfl, _, rfl, _, _, _, _, rfl, rfl, SqL.of (s13 _ _ b12), (by rw [hi]; exact atI_nat (map_put hy)), _, _, rfl, rfl, ?_⟩
      refine ⟨_, rfl, s, p, 255, rfl, sa13, by decide, fun H14 x k14 sa14 x0 x1 _ => ?_⟩
      obtain ⟨x, rfl⟩ : ∃ m : Nat, x = (m : Int) := ⟨x.toNat, by omega⟩
      refine ⟨_, _, rfl, rfl, _, _, rfl, rfl, show (0 : Int) < 256 by decide, by show 1 ≤ sizeLine; decide, fun q2 nq2 => ?_⟩
      generalize hq2 : upd _ q2 _ = H15
      have s15 := same_of hq2 nq2
      have aq2 := upd_at hq2
      have aq2' : H15 q2 = some (.lst (nums [(y + 1 + x) % 256])) := by
        rw [aq2]; rfl
      have K14 := (K12.trans (Keep.of s13)).trans k14
      refine ⟨q1, q2, _, _, rfl, rfl, s15 _ _ (k14 _ _ aq1 nq1s), aq2', by rw [List.length_take, List.length_map]; simp [line24]; omega, fun q3 nq3 => ?_⟩
      generalize hq3 : upd _ q3 _ = H16
      have s16 := same_of hq3 nq3
      have aq3 := upd_at hq3
      have b16 := s16 _ _ (s15 _ _ (k14 _ _ (s13 _ _ b12) nbs))
      refine ⟨_, rfl, _, rfl, _, _, rfl, rfl, _, rfl, _, _, rfl, SqL.of b16, fun q4 nq4 => ?_⟩
      generalize hq4 : upd _ q4 _ = H17
      have s17 := same_of hq4 nq4
      have aq4 := upd_at hq4
      rw [hi, show ((i : Nat) : Int) + 1 = ((i + 1 : Nat) : Int) from rfl, cutV_from] at aq4
      refine ⟨q3, q4, _, _, rfl, rfl, s17 _ _ aq3, aq4, by simp [line24]; omega, fun q5 nq5 => ?_⟩
      generalize hq5 : upd _ q5 _ = H18
      have s18 := same_of hq5 nq5
      have aq5 := upd_at hq5
      have g18 := s18 _ _ (s17 _ _ (s16 _ _ (s15 _ _ (k14 _ _ (s13 _ _ g12) ngs))))
      refine ⟨_, rfl, q5, g, _, _, rfl, rfl, aq5, g18, by simp [line24]; omega, fun q6 nq6 => ?_⟩
      generalize hq6 : upd _ q6 _ = H19
      have s19 := same_of hq6 nq6
      have aq6 := upd_at hq6
      have s58 := s15.trans (s16.trans (s17.trans s18))
      have K18 := K14.trans (Keep.of s58)
      have sa18 := sa14.same s58
      refine kk H19 q6 ((rec d).take i ++ [(y + 1 + x) % 256] ++ (rec d).drop (i + 1) ++ fu) (K18.trans (Keep.of s19)) (sa18.same s19) (Keep.free' K18 nq6 (sa18.new nq6).1) (by rw [aq6]; simp [nums, List.map_take, List.map_drop]) (by simp; omega) (step_chg (by omega) hy hge db (Nat.mod_lt _ (by decide)) ?_ fu)
      have := rec_byte db y (List.mem_of_getElem? hy)
      omega
    refine ⟨_, rfl, rfl, _, rfl, ?_⟩
    refine ite2 (fun _ => ?_) (fun _ => ?_)
    · refine ⟨_, rfl, _, _, rfl, .inl (SqL.of a11), ?_⟩
      rw [List.length_map]
      refine ⟨_, _, rfl, rfl, _, rfl, ?_⟩
      refine ite2 (fun e0 => ?_) (fun _ => ?_)
      · have d0 : 0 < d.length := by have := of_decide_eq_true e0; omega
        refine ⟨_, rfl, _, _, rfl, .inl (SqL.of b11), ?_⟩
        rw [List.length_map]
        refine ⟨_, _, rfl, rfl, ?_⟩
        refine ⟨_, rfl, _, rfl, _, _, rfl, .inl (SqL.of a11), ?_⟩
        rw [List.length_map]
        refine ⟨s, p, _, rfl, sa11, by omega, fun H12 z k12 sa12 z0 z1 _ => ?_⟩
        obtain ⟨z, rfl⟩ : ∃ m : Nat, z = (m : Int) := ⟨z.toNat, by omega⟩
        refine ⟨_, _, rfl, rfl, ?_⟩
        obtain ⟨i, hi⟩ : ∃ i : Nat, (((rec d).length : Nat) : Int) - 5 - (z : Nat) = (i : Nat) := ⟨(rec d).length - 5 - z, by omega⟩
        have hil : i < (rec d).length := by omega
        have hge : (num d.length).length ≤ i := by omega
        have hy := List.getElem?_eq_getElem hil
        generalize (rec d)[i] = y at hy
        have K12 := K11.trans k12
        have b12 := k12 _ _ b11 nbs
        have g12 := k12 _ _ g11 ngs
        refine ⟨_, rfl, _, rfl, _, rfl, _, _, rfl, SqL.of b12, fun q1 nq1 => ?_⟩
        generalize hq1 : upd _ q1 _ = H13
        have s13 := same_of hq1 nq1
        have aq1 := upd_at hq1
        rw [hi, cutV_to] at aq1
        have sa13 := sa12.same s13
        have nq1s := (sa12.new nq1).1
        refine ⟨_, rfl, _, rfl, _, _, _, _, rfl, rfl, SqL.of (s13 _ _ b12), (by rw [hi]; exact atI_nat (map_put hy)), _, _, rfl, rfl, ?_⟩
        refine ⟨_, rfl, s, p, 255, rfl, sa13, by decide, fun H14 x k14 sa14 x0 x1 _ => ?_⟩
        obtain ⟨x, rfl⟩ : ∃ m : Nat, x = (m : Int) := ⟨x.toNat, by omega⟩
        refine ⟨_, _, rfl, rfl, _, _, rfl, rfl, show (0 : Int) < 256 by decide, by show 1 ≤ sizeLine; decide, fun q2 nq2 => ?_⟩
        generalize hq2 : upd _ q2 _ = H15
        have s15 := same_of hq2 nq2
        have aq2 := upd_at hq2
        have aq2' : H15 q2 = some (.lst (nums [(y + 1 + x) % 256])) := by
          rw [aq2]; rfl
        have K14 := (K12.trans (Keep.of s13)).trans k14
        refine ⟨q1, q2, _, _, rfl, rfl, s15 _ _ (k14 _ _ aq1 nq1s), aq2', by rw [List.length_take, List.length_map]; simp [line24]; omega, fun q3 nq3 => ?_⟩
        generalize hq3 : upd _ q3 _ = H16
        have s16 := same_of hq3 nq3
        have aq3 := upd_at hq3
        have b16 := s16 _ _ (s15 _ _ (k14 _ _ (s13 _ _ b12) nbs))
        refine ⟨_, rfl, _, rfl, _, _, rfl, rfl, _, rfl, _, _, rfl, SqL.of b16, fun q4 nq4 => ?_⟩
        generalize hq4 : upd _ q4 _ = H17
        have s17 := same_of hq4 nq4
        have aq4 := upd_at hq4
        rw [hi, show ((i : Nat) : Int) + 1 = ((i + 1 : Nat) : Int) from rfl, cutV_from] at aq4
        refine ⟨q3, q4, _, _, rfl, rfl, s17 _ _ aq3, aq4, by simp [line24]; omega, fun q5 nq5 => ?_⟩
        generalize hq5 : upd _ q5 _ = H18
        have s18 := same_of hq5 nq5
        have aq5 := upd_at hq5
        have g18 := s18 _ _ (s17 _ _ (s16 _ _ (s15 _ _ (k14 _ _ (s13 _ _ g12) ngs))))
        refine ⟨_, rfl, q5, g, _, _, rfl, rfl, aq5, g18, by simp [line24]; omega, fun q6 nq6 => ?_⟩
        generalize hq6 : upd _ q6 _ = H19
        have s19 := same_of hq6 nq6
        have aq6 := upd_at hq6
        have s58 := s15.trans (s16.trans (s17.trans s18))
        have K18 := K14.trans (Keep.of s58)
        have sa18 := sa14.same s58
        refine kk H19 q6 ((rec d).take i ++ [(y + 1 + x) % 256] ++ (rec d).drop (i + 1) ++ fu) (K18.trans (Keep.of s19)) (sa18.same s19) (Keep.free' K18 nq6 (sa18.new nq6).1) (by rw [aq6]; simp [nums, List.map_take, List.map_drop]) (by simp; omega) (step_chg (by omega) hy hge db (Nat.mod_lt _ (by decide)) ?_ fu)
        have := rec_byte db y (List.mem_of_getElem? hy)
        omega
      · refine ⟨_, rfl, _, _, rfl, .inl (SqL.of a11), ?_⟩
        rw [List.length_map]
        refine ⟨d.length, rfl, by omega, fun H12 u s12 nu au => ?_⟩
        have sa12 := sa11.same s12
        have nus := (sa11.new nu).1
        obtain ⟨cs, e, hnum, hcs, he⟩ := num_shape d.length
        rw [hnum] at au
        have hcl : cs.length ≤ 2 := by rw [hnum] at hl; simp at hl; omega
        have lu : (nums (cs ++ [e])).length = cs.length + 1 := by simp
        have hiu : (((nums (cs ++ [e])).length : Nat) : Int) - 1 = ((cs.length : Nat) : Int) := by rw [lu]; omega
        have gu : (nums (cs ++ [e]))[cs.length]? = some (V.int (e : Nat)) := by simp
        refine ⟨_, rfl, _, rfl, _, _, rfl, .inl (SqL.of au), _, _, rfl, rfl, ?_⟩
        refine ⟨_, _, _, _, rfl, rfl, SqL.of au, (by rw [hiu]; exact atI_nat gu), _, _, rfl, rfl, ?_⟩
        refine ⟨by show 1 ≤ sizeLine; decide, fun v1 nv1 => ?_⟩
        generalize h13 : upd _ v1 _ = H13
        have s13 := same_of h13 nv1
        have av1 := upd_at h13
        have av1' : H13 v1 = some (.lst (nums [e + 128])) := by rw [av1]; rfl
        refine ⟨by show 1 ≤ sizeLine; decide, fun v2 nv2 => ?_⟩
        generalize h14 : upd _ v2 _ = H14
        have s14 := same_of h14 nv2
        have av2 := upd_at h14
        have sa14 := sa12.same (s13.trans s14)
        have nv1s := (sa12.new nv1).1
        have nv2s := ((sa12.same s13).new nv2).1
        refine ⟨_, rfl, s, p, 3, rfl, sa14, by decide, fun H15 x k15 sa15 x0 x1 _ => ?_⟩
        obtain ⟨x, rfl⟩ : ∃ m : Nat, x = (m : Int) := ⟨x.toNat, by omega⟩
        refine ⟨v2, _, _, rfl, rfl, k15 _ _ av2 nv2s, by omega, by omega, by simp [line24]; omega, fun v3 nv3 => ?_⟩
        generalize h16 : upd _ v3 _ = H16
        have s16 := same_of h16 nv3
        have av3 := upd_at h16
        have av3' : H16 v3 = some (.lst (nums (List.replicate x 128))) := by
          rw [av3, Int.toNat_natCast]
          have : ∀ x : Nat, (List.replicate x [V.int 128]).flatten = nums (List.replicate x 128) := by
            intro x
            induction x with
            | zero => rfl
            | succ x ih => rw [List.replicate_succ, List.flatten_cons, ih]; rfl
          rw [this]
        refine ⟨v1, v3, _, _, rfl, rfl, s16 _ _ (k15 _ _ (s14 _ _ av1') nv1s), av3', by simp [line24]; omega, fun v4 nv4 => ?_⟩
        generalize h17 : upd _ v4 _ = H17
        have s17 := same_of h17 nv4
        have av4 := upd_at h17
        refine ⟨by show 1 ≤ sizeLine; decide, fun v5 nv5 => ?_⟩
        generalize h18 : upd _ v5 _ = H18
        have s18 := same_of h18 nv5
        have av5 := upd_at h18
        have av5' : H18 v5 = some (.lst (nums [0])) := by rw [av5]; rfl
        refine ⟨v4, v5, _, _, rfl, rfl, s18 _ _ av4, av5', by simp [line24]; omega, fun v6 nv6 => ?_⟩
        generalize h19 : upd _ v6 _ = H19
        have s19 := same_of h19 nv6
        have av6 := upd_at h19
        have s69 := s16.trans (s17.trans (s18.trans s19))
        have au19 := s69 _ _ (k15 _ _ (s14 _ _ (s13 _ _ au)) nus)
        have K19 := (K11.trans (Keep.of (s12.trans (s13.trans s14)))).trans (k15.trans (Keep.of s69))
        have sa19 := sa15.same s69
        have nbu : ∀ {c : Addr} {o}, H11 c = some o → c ≠ s → H19 c = some o := fun h n => s69 _ _ (k15 _ _ (s14 _ _ (s13 _ _ (s12 _ _ h))) n)
        refine ⟨_, rfl, _, rfl, _, _, rfl, .inl (SqL.of au19), _, _, rfl, rfl, _, rfl, _, _, rfl, SqL.of au19, fun w1 nw1 => ?_⟩
        generalize h20 : upd _ w1 _ = H20
        have s20 := same_of h20 nw1
        have aw1 := upd_at h20
        rw [hiu, cutV_to] at aw1
        have aw1' : H20 w1 = some (.lst (nums cs)) := by rw [aw1]; simp
        refine ⟨_, rfl, w1, v6, _, _, rfl, rfl, aw1', s20 _ _ av6, by simp [line24]; omega, fun w2 nw2 => ?_⟩
        generalize h21 : upd _ w2 _ = H21
        have s21 := same_of h21 nw2
        have aw2 := upd_at h21
        have s2021 := s20.trans s21
        refine ⟨_, rfl, _, rfl, _, _, rfl, .inl (SqL.of (s2021 _ _ au19)), _, rfl, _, _, rfl, SqL.of (s2021 _ _ (nbu b11 nbs)), fun w3 nw3 => ?_⟩
        generalize h22 : upd _ w3 _ = H22
        have s22 := same_of h22 nw3
        have aw3 := upd_at h22
        rw [cutV_from] at aw3
        refine ⟨w2, w3, _, _, rfl, rfl, s22 _ _ aw2, aw3, by simp [line24]; omega, fun w4 nw4 => ?_⟩
        generalize h23 : upd _ w4 _ = H23
        have s23 := same_of h23 nw4
        have aw4 := upd_at h23
        have s2023 := s2021.trans (s22.trans s23)
        refine ⟨_, rfl, w4, g, _, _, rfl, rfl, aw4, s2023 _ _ (nbu g11 ngs), by simp [line24]; omega, fun w5 nw5 => ?_⟩
        generalize h24 : upd _ w5 _ = H24
        have s24 := same_of h24 nw5
        have aw5 := upd_at h24
        have K23 := K19.trans (Keep.of s2023)
        have sa23 := sa19.same s2023
        refine kk H24 w5 (cs ++ ([e + 128] ++ List.replicate x 128 ++ [0]) ++ ((rec d).drop (cs.length + 1) ++ fu)) (K23.trans (Keep.of s24)) (sa23.same s24) (Keep.free' K23 nw5 (sa23.new nw5).1) (by rw [aw5]; simp [nums, List.map_drop]) (by simp; omega) (step_needless (n := d.length) (by omega) (by omega) _ hnum)
    · refine ite2 (fun z => by cases z) (fun _ => ?_)
      refine ⟨_, rfl, _, _, rfl, .inl (SqL.of a11), ?_⟩
      rw [List.length_map]
      refine ⟨d.length, rfl, by omega, fun H12 u s12 nu au => ?_⟩
      have sa12 := sa11.same s12
      have nus := (sa11.new nu).1
      obtain ⟨cs, e, hnum, hcs, he⟩ := num_shape d.length
      rw [hnum] at au
      have hcl : cs.length ≤ 2 := by rw [hnum] at hl; simp at hl; omega
      have lu : (nums (cs ++ [e])).length = cs.length + 1 := by simp
      have hiu : (((nums (cs ++ [e])).length : Nat) : Int) - 1 = ((cs.length : Nat) : Int) := by rw [lu]; omega
      have gu : (nums (cs ++ [e]))[cs.length]? = some (V.int (e : Nat)) := by simp
      refine ⟨_, rfl, _, rfl, _, _, rfl, .inl (SqL.of au), _, _, rfl, rfl, ?_⟩
      refine ⟨_, _, _, _, rfl, rfl, SqL.of au, (by rw [hiu]; exact atI_nat gu), _, _, rfl, rfl, ?_⟩
      refine ⟨by show 1 ≤ sizeLine; decide, fun v1 nv1 => ?_⟩
      generalize h13 : upd _ v1 _ = H13
      have s13 := same_of h13 nv1
      have av1 := upd_at h13
      have av1' : H13 v1 = some (.lst (nums [e + 128])) := by rw [av1]; rfl
      refine ⟨by show 1 ≤ sizeLine; decide, fun v2 nv2 => ?_⟩
      generalize h14 : upd _ v2 _ = H14
      have s14 := same_of h14 nv2
      have av2 := upd_at h14
      have sa14 := sa12.same (s13.trans s14)
      have nv1s := (sa12.new nv1).1
      have nv2s := ((sa12.same s13).new nv2).1
      refine ⟨_, rfl, s, p, 3, rfl, sa14, by decide, fun H15 x k15 sa15 x0 x1 _ => ?_⟩
      obtain ⟨x, rfl⟩ : ∃ m : Nat, x = (m : Int) := ⟨x.toNat, by omega⟩
      refine ⟨v2, _, _, rfl, rfl, k15 _ _ av2 nv2s, by omega, by omega, by simp [line24]; omega, fun v3 nv3 => ?_⟩
      generalize h16 : upd _ v3 _ = H16
      have s16 := same_of h16 nv3
      have av3 := upd_at h16
      have av3' : H16 v3 = some (.lst (nums (List.replicate x 128))) := by
        rw [av3, Int.toNat_natCast]
        have : ∀ x : Nat, (List.replicate x [V.int 128]).flatten = nums (List.replicate x 128) := by
          intro x
          induction x with
          | zero => rfl
          | succ x ih => rw [List.replicate_succ, List.flatten_cons, ih]; rfl
        rw [this]
      refine ⟨v1, v3, _, _, rfl, rfl, s16 _ _ (k15 _ _ (s14 _ _ av1') nv1s), av3', by simp [line24]; omega, fun v4 nv4 => ?_⟩
      generalize h17 : upd _ v4 _ = H17
      have s17 := same_of h17 nv4
      have av4 := upd_at h17
      refine ⟨by show 1 ≤ sizeLine; decide, fun v5 nv5 => ?_⟩
      generalize h18 : upd _ v5 _ = H18
      have s18 := same_of h18 nv5
      have av5 := upd_at h18
      have av5' : H18 v5 = some (.lst (nums [0])) := by rw [av5]; rfl
      refine ⟨v4, v5, _, _, rfl, rfl, s18 _ _ av4, av5', by simp [line24]; omega, fun v6 nv6 => ?_⟩
      generalize h19 : upd _ v6 _ = H19
      have s19 := same_of h19 nv6
      have av6 := upd_at h19
      have s69 := s16.trans (s17.trans (s18.trans s19))
      have au19 := s69 _ _ (k15 _ _ (s14 _ _ (s13 _ _ au)) nus)
      have K19 := (K11.trans (Keep.of (s12.trans (s13.trans s14)))).trans (k15.trans (Keep.of s69))
      have sa19 := sa15.same s69
      have nbu : ∀ {c : Addr} {o}, H11 c = some o → c ≠ s → H19 c = some o := fun h n => s69 _ _ (k15 _ _ (s14 _ _ (s13 _ _ (s12 _ _ h))) n)
      refine ⟨_, rfl, _, rfl, _, _, rfl, .inl (SqL.of au19), _, _, rfl, rfl, _, rfl, _, _, rfl, SqL.of au19, fun w1 nw1 => ?_⟩
      generalize h20 : upd _ w1 _ = H20
      have s20 := same_of h20 nw1
      have aw1 := upd_at h20
      rw [hiu, cutV_to] at aw1
      have aw1' : H20 w1 = some (.lst (nums cs)) := by rw [aw1]; simp
      refine ⟨_, rfl, w1, v6, _, _, rfl, rfl, aw1', s20 _ _ av6, by simp [line24]; omega, fun w2 nw2 => ?_⟩
      generalize h21 : upd _ w2 _ = H21
      have s21 := same_of h21 nw2
      have aw2 := upd_at h21
      have s2021 := s20.trans s21
      refine ⟨_, rfl, _, rfl, _, _, rfl, .inl (SqL.of (s2021 _ _ au19)), _, rfl, _, _, rfl, SqL.of (s2021 _ _ (nbu b11 nbs)), fun w3 nw3 => ?_⟩
      generalize h22 : upd _ w3 _ = H22
      have s22 := same_of h22 nw3
      have aw3 := upd_at h22
      rw [cutV_from] at aw3
      refine ⟨w2, w3, _, _, rfl, rfl, s22 _ _ aw2, aw3, by simp [line24]; omega, fun w4 nw4 => ?_⟩
      generalize h23 : upd _ w4 _ = H23
      have s23 := same_of h23 nw4
      have aw4 := upd_at h23
      have s2023 := s2021.trans (s22.trans s23)
      refine ⟨_, rfl, w4, g, _, _, rfl, rfl, aw4, s2023 _ _ (nbu g11 ngs), by simp [line24]; omega, fun w5 nw5 => ?_⟩
      generalize h24 : upd _ w5 _ = H24
      have s24 := same_of h24 nw5
      have aw5 := upd_at h24
      have K23 := K19.trans (Keep.of s2023)
      have sa23 := sa19.same s2023
      refine kk H24 w5 (cs ++ ([e + 128] ++ List.replicate x 128 ++ [0]) ++ ((rec d).drop (cs.length + 1) ++ fu)) (K23.trans (Keep.of s24)) (sa23.same s24) (Keep.free' K23 nw5 (sa23.new nw5).1) (by rw [aw5]; simp [nums, List.map_drop]) (by simp; omega) (step_needless (n := d.length) (by omega) (by omega) _ hnum)
end
end Mk11
namespace Mk11
open PySem PySem.Spec PyProof.Rows L2 My

section
variable {P : Program} {w : World} {K : PySem.W.Frag} {mg : Str → Option Value}
theorem ListsAt.dp {H : Hp} {p : Addr} {R : List (List Nat)} (h : ListsAt H p R) : Dp K H (.ref p) (.list (R.map nD)) := by
  obtain ⟨us, h1, h2, h3⟩ := h
  refine .lst (SqL.of h1) (My.DpAll.by (by simp [h2]) fun i v d a b => ?_)
  obtain ⟨u, hu, rfl⟩ := map_get a
  obtain ⟨e, he, rfl⟩ := map_get b
  exact nums_dp (h3 i u e hu he)
theorem rows_deep (R : List (List Nat)) : deepAll (R.map nD) ≤ 1 := by
  induction R with
  | nil => exact Nat.zero_le _
  | cons d R ih =>
    show max (deep (nD d)) (deepAll (R.map nD)) ≤ 1
    exact Nat.max_le.mpr ⟨nums_deep d, ih⟩
abbrev resD (R : List (List Nat)) (n : Nat) : PyData := .tuple [.list (R.map nD), .int (n : Nat)]
theorem res_deep (R : List (List Nat)) (n : Nat) : deep (resD R n) ≤ 3 := by
  have := rows_deep R
  show max (deepAll (R.map nD) + 1) (max (deep (.int (n : Nat))) 0) + 1 ≤ 3
  have e : deep (.int (n : Nat)) = 0 := rfl
  rw [e]; omega
theorem res_dp {H : Hp} {t p : Addr} {R : List (List Nat)} {n : Nat} (ht : H t = some (.tup [.ref p, .int (n : Nat)])) (h : ListsAt H p R) : Dp K H (.ref t) (resD R n) := .tup (.inl (.inl ht)) (.cons h.dp (.cons (.int _) .nil))
theorem nums_ns {H : Hp} {s p a : Addr} {l : List Nat} (h : H a = some (.lst (nums l))) (sa : StAt K H s p) : a ≠ s := by
  obtain ⟨_, _, hs, _⟩ := sa
  intro z
  rw [z, hs] at h
  cases l with
  | nil => simp at h
  | cons y l => simp at h
theorem ListsAt.keepS {H H' : Hp} {s p q : Addr} {R : List (List Nat)} (h : ListsAt H q R) (sa : StAt K H s p) (k : Keep (· = s) H H') : ListsAt H' q R := by
  obtain ⟨us, h1, h2, h3⟩ := h
  refine ⟨us, k _ _ h1 fun z => ?_, h2, fun j u d a b => k _ _ (h3 j u d a b) (nums_ns (h3 j u d a b) sa)⟩
  obtain ⟨_, _, hs, _⟩ := sa
  rw [z, hs] at h1
  rcases us with _ | ⟨u, _ | ⟨v, us⟩⟩ <;> simp at h1
theorem ListsAt.push {H : Hp} {p q : Addr} {R : List (List Nat)} {d : List Nat} (h : ListsAt H p R) (hq : H q = some (.lst (nums d))) (n : q ≠ p) : ∃ acc, H p = some (.lst acc) ∧ acc.length = R.length ∧ ListsAt (upd H p (.lst (acc ++ [.ref q]))) p (R ++ [d]) := by
  obtain ⟨us, h1, h2, h3⟩ := h
  refine ⟨_, h1, by rw [List.length_map, h2], us ++ [q], by rw [upd_same]; simp, by simp [h2], fun j u d' a b => ?_⟩
  by_cases hj : j < us.length
  · rw [List.getElem?_append_left hj] at a
    rw [List.getElem?_append_left (by omega)] at b
    have := h3 j u d' a b
    rw [upd_ne fun z => ?_]
    · exact this
    · rw [z, h1] at this
      rcases us with _ | ⟨u, us⟩
      · simp at hj
      · cases d' <;> simp at this
  · have e : j = us.length := by
      have := (List.getElem?_eq_some_iff.mp a).1
      simp at this; omega
    subst e
    simp at a
    rw [h2] at b
    simp at b
    subst a b
    rw [upd_ne n]; exact hq
theorem ListsAt.cut {H H' : Hp} {p q : Addr} {R : List (List Nat)} (c : Nat) (h : ListsAt H p R) : ∃ xs, H p = some (.lst xs) ∧ (Same H H' → H' q = some (.lst (xs.take c)) → ListsAt H' q (R.take c)) := by
  obtain ⟨us, h1, h2, h3⟩ := h
  refine ⟨_, h1, fun s e => ⟨us.take c, by rw [e, List.map_take], by rw [List.length_take, List.length_take, h2], fun j u d a b => ?_⟩⟩
  rw [List.getElem?_take] at a b
  split at a
  · rename_i lt
    rw [if_pos lt] at b
    exact s _ _ (h3 j u d a b)
  · cases a
theorem law_fn (T : TopF K mg) (D : Defs K mg) {fa : Addr} (hmg : mg "law" = some (.ref fa)) : ∃ fd : FuncData, (∀ (s : Shared) (v : Value), BindsTo s fd ⟨[v], []⟩ [("script", v)]) ∧ ∀ base : Heap, K.In base → base.Ns mainGlobals mg → FnOk P w K mg base CX0 8 fa fd ["script"] (spLaw K) := by
  refine law_of D hmg sc_law (fun vs H Q E h => ?_) (fun base f cdv A outer s₀ H vs Q E hr h => ?_)
  · obtain ⟨_, _, rfl, _⟩ := h; rfl
  · obtain ⟨a, ns, rfl, hS, hlen, kk⟩ := h
    have nd := sc_law.nd
    have c__law_mix := k__law_mix (P := P) (w := w) (base := base) T D
    have c__law_draws := k__law_draws T D c__law_mix
    have c__law_next := k__law_next T D (k__law_at T D c__law_mix)
    have c__law_same := k__law_same T D (k__law_is_integer (P := P) (w := w) (base := base) T D) 3
    have c_checksum := k_checksum (P := P) (w := w) (base := base) T D
    have c__law_checksum := k__law_checksum (P := P) (w := w) (base := base) T D
    have c_write_number := k_write_number (P := P) (w := w) (base := base) T D
    have c__law_number := k__law_number (P := P) (w := w) (base := base) T D
    have c_write_record := k_write_record T D c_checksum c_write_number
    have c__law_record := k__law_record T D c__law_checksum c__law_number
    have c__read_size := k__read_size T D (k_rinit (P := P) (w := w) (base := base) T D) (k_read_number T D (k_read_byte (P := P) (w := w) (base := base) T D))
    have c_read_records := k_read_records T D c__read_size c_write_record
    have c__law_bytes := k__law_bytes T D c__law_next
    have c__law_behind := k__law_behind T D c__law_next c__law_bytes c__law_record c__law_number
    refine ⟨_, (pss_cons (ps_set (i := 1) nd rfl (by first | exact Or.inl rfl | exact Or.inr rfl) (pe_lst (pa_cons (pe_kal c__law_draws hr (by first | decide | exact Nat.le_refl _ | omega) (pa_cons (pv 0) pa_nil)) (pa_cons pe_int pa_nil))))
 (pss_cons (ps_setLc (g := gName 8) (i := 2) (own := [("k", 8)]) rfl nd rfl rfl (sw_true rfl rfl rfl (by decide +kernel)) (pi_range1 (by rfl) T.range (pa_cons (pe_kal c__law_next hr (by first | decide | exact Nat.le_refl _ | omega) (pa_cons (pv 1) (pa_cons pe_int pa_nil))) pa_nil)) (blkOk_by (own := [("k", 8)]) (N := ["script", "state", "records", "data", "sizes", "record", "passed", "whole", "k", "end", "count", "size"]) (sc := defScope s_law) (by decide +kernel)) (fun _ _ _ _ _ => (pg_name (i := 8) nd rfl (by first | exact Or.inl rfl | exact Or.inr rfl))) (fun _ _ _ _ _ => pts_nil) (fun _ _ _ _ _ => (pe_kal c__law_bytes hr (by first | decide | exact Nat.le_refl _ | omega) (pa_cons (pv 1) pa_nil))))
 (pss_cons (ps_set (i := 3) nd rfl (by first | exact Or.inl rfl | exact Or.inr rfl) (pe_lst pa_nil))
 (pss_cons (ps_set (i := 4) nd rfl (by first | exact Or.inl rfl | exact Or.inr rfl) (pe_lst (pa_cons pe_int pa_nil)))
 (pss_cons (ps_for PassesOwn.never rfl (pi_list (pv 2)) (pg_name (i := 5) nd rfl (by first | exact Or.inl rfl | exact Or.inr rfl))
 (pss_cons (ps_set (i := 6) nd rfl (by first | exact Or.inl rfl | exact Or.inr rfl) (pe_callTy call_list_of (by rfl) T.list (by decide +kernel) (pa_cons (pv 5) pa_nil)))
 (pss_cons (ps_if (PW.pt (pw_or (pt_not (pt_val (pe_kal c__law_same hr (by first | decide | exact Nat.le_refl _ | omega) (pa_cons (pe_kal c_checksum hr (by first | decide | exact Nat.le_refl _ | omega) (pa_cons (pv 6) pa_nil)) (pa_cons (pe_kal c__law_checksum hr (by first | decide | exact Nat.le_refl _ | omega) (pa_cons (pv 5) pa_nil)) pa_nil))))) (pw_or1 (pt_not (pt_val (pe_kal c__law_same hr (by first | decide | exact Nat.le_refl _ | omega) (pa_cons (pe_kal c_write_record hr (by first | decide | exact Nat.le_refl _ | omega) (pa_cons (pv 6) pa_nil)) (pa_cons (pe_kal c__law_record hr (by first | decide | exact Nat.le_refl _ | omega) (pa_cons (pv 5) pa_nil)) pa_nil))))))))
 (pss_one (ps_ret pe_bl)) pss_nil)
 (pss_cons (ps_if (pt_cmpR (op_neD hr.units) (pv 6) (pv 5) (nomark _))
 (pss_one (ps_ret pe_bl)) pss_nil)
 (pss_cons (ps_set (i := 3) nd rfl (by first | exact Or.inl rfl | exact Or.inr rfl) (pe_op op_cat (pv 3) (pe_kal c__law_record hr (by first | decide | exact Nat.le_refl _ | omega) (pa_cons (pv 5) pa_nil))))
 (pss_one (ps_expr (pe_bm PySem.F.plainAttrs_list PySem.F.slot_list_append PySem.F.type_list_append mt_append (pv 4) (pa_cons (pe_callB call_len_seq (by rfl) T.len (by decide +kernel) (pa_cons (pv 3) pa_nil)) pa_nil)))))))))
 (pss_cons (ps_set (i := 7) nd rfl (by first | exact Or.inl rfl | exact Or.inr rfl) (pe_op op_cat (pv 3) (pe_kal c__law_behind hr (by first | decide | exact Nat.le_refl _ | omega) (pa_cons (pv 1) pa_nil))))
 (pss_cons (ps_set (i := 6) nd rfl (by first | exact Or.inl rfl | exact Or.inr rfl) (pe_callTy call_list_of (by rfl) T.list (by decide +kernel) (pa_cons (pv 7) pa_nil)))
 (pss_cons (ps_if (PW.pt (pw_or (pt_not (pt_val (pe_kal c__law_same hr (by first | decide | exact Nat.le_refl _ | omega) (pa_cons (pe_kal c_read_records hr (by first | decide | exact Nat.le_refl _ | omega) (pa_cons (pv 6) pa_nil)) (pa_cons (pe_tup (pa_cons (pv 2) (pa_cons (pe_callB call_len_seq (by rfl) T.len (by decide +kernel) (pa_cons (pv 3) pa_nil)) pa_nil))) pa_nil))))) (pw_or1 (pt_cmpR (op_neD hr.units) (pv 6) (pv 7) (nomark _)))))
 (pss_one (ps_ret pe_bl)) pss_nil)
 (pss_cons (ps_for PassesOwn.never rfl (pi_range1 (by rfl) T.range (pa_cons pe_int pa_nil)) (pg_name (i := 8) nd rfl (by first | exact Or.inl rfl | exact Or.inr rfl))
 (pss_cons (ps_set (i := 9) nd rfl (by first | exact Or.inl rfl | exact Or.inr rfl) (pe_kal c__law_next hr (by first | decide | exact Nat.le_refl _ | omega) (pa_cons (pv 1) (pa_cons (pe_op op_add (pe_callB call_len_seq (by rfl) T.len (by decide +kernel) (pa_cons (pv 3) pa_nil)) pe_int) pa_nil))))
 (pss_cons (ps_set (i := 10) nd rfl (by first | exact Or.inl rfl | exact Or.inr rfl) (pe_op op_sub (pe_callB call_len_seq (by rfl) T.len (by decide +kernel) (pa_cons (pe_lc (g := gName 11) (own := [("size", 11)]) rfl nd (pi_list (pv 4)) (blkOk_by (own := [("size", 11)]) (N := ["script", "state", "records", "data", "sizes", "record", "passed", "whole", "k", "end", "count", "size"]) (sc := defScope s_law) (by decide +kernel)) (fun _ _ _ _ _ => (pg_name (i := 11) nd rfl (by first | exact Or.inl rfl | exact Or.inr rfl))) (fun _ _ _ _ _ => (pts_one (pt_cmpR op_le (pv 11) (pv 9) (nomark _)))) (fun _ _ _ _ _ => (pv 11))) pa_nil)) pe_int))
 (pss_cons (ps_set (i := 6) nd rfl (by first | exact Or.inl rfl | exact Or.inr rfl) (pe_slice sl_list (pv 3) po_none (po_some (pv 9))))
 (pss_one (ps_if (PW.pt (pw_or (pt_not (pt_val (pe_kal c__law_same hr (by first | decide | exact Nat.le_refl _ | omega) (pa_cons (pe_kal c_read_records hr (by first | decide | exact Nat.le_refl _ | omega) (pa_cons (pv 6) pa_nil)) (pa_cons (pe_tup (pa_cons (pe_slice sl_list (pv 2) po_none (po_some (pv 10))) (pa_cons (pe_ix ix_list (pv 4) (pv 10) (fun _ _ => rfl)) pa_nil))) pa_nil))))) (pw_or1 (pt_cmpR (op_neD hr.units) (pv 6) (pe_slice sl_list (pv 3) po_none (po_some (pv 9))) (nomark _)))))
 (pss_one (ps_ret pe_bl)) pss_nil))))))
 (pss_one (ps_ret (pe_and (pe_kal c__law_same hr (by first | decide | exact Nat.le_refl _ | omega) (pa_cons (pe_kal c_read_records hr (by first | decide | exact Nat.le_refl _ | omega) (pa_cons (pe_lst pa_nil) pa_nil)) (pa_cons (pe_tup (pa_cons (pe_lst pa_nil) (pa_cons pe_int pa_nil))) pa_nil))) (pe_one (pe_kal c__law_same hr (by first | decide | exact Nat.le_refl _ | omega) (pa_cons (pe_kal c_write_record hr (by first | decide | exact Nat.le_refl _ | omega) (pa_cons (pe_lst pa_nil) pa_nil)) (pa_cons (pe_lst (pa_cons pe_int (pa_cons pe_int (pa_cons pe_int (pa_cons pe_int (pa_cons pe_int pa_nil)))))) pa_nil)))))))))))))))), ?_⟩
    -- state
    refine ⟨_, rfl, a, ns, rfl, hS, fun H1 p ds s1 n1 hp => ?_⟩
    refine ⟨by show 2 ≤ sizeLine; decide, fun s nS => ?_⟩
    generalize hs : upd _ s _ = H2
    have s2 := same_of hs nS
    have as := upd_at hs
    have sa2 : StAt K H2 s p := ⟨ds, 20, as, ⟨s2 _ _ hp.1, hp.2⟩, by decide⟩
    -- records
    refine ⟨_, rfl, s, p, 11, rfl, sa2, by decide, fun H3 n k3 sa3 n0 n11 _ => ?_⟩
    obtain ⟨n, rfl⟩ : ∃ m : Nat, n = (m : Int) := ⟨n.toNat, by omega⟩
    refine ⟨_, rfl, by omega, by omega, fun rc nrc => ?_⟩
    have nrcs := (sa3.new nrc).1
    refine lc_range0 (n := n) (fun i H' => Hold (StAt K H' s p ∧ ∃ R : List (List Nat), R.length = i ∧ ListsAt H' rc R ∧ ∀ d ∈ R, d.length ≤ 2000)) ?_ ?_ ?_
    · exact .mk ⟨sa3.same (same_new nrc), [], rfl, ⟨[], upd_same, rfl, fun j u d a _ => by simp at a⟩, fun d m => by simp at m⟩
    · intro i H' hi V
      obtain ⟨sa, R, hRl, hR, hb⟩ := V.out
      refine ⟨rfl, ?_⟩
      refine ⟨_, rfl, s, p, rfl, sa, fun H4 q d k4 sa4 nq hq dl _ => ?_⟩
      have hR4 := hR.keepS sa k4
      have nqr : q ≠ rc := fun z => by
        obtain ⟨_, e, _⟩ := hR
        rw [← z, nq] at e; cases e
      obtain ⟨acc, e1, e2, e3⟩ := hR4.push hq nqr
      refine ⟨acc, e1, by rw [e2, line24]; omega, .mk ⟨sa4.keep (N := fun b => b = rc) (Keep.put rfl) (fun z => ?_) (fun z => ?_), R ++ [d], by simp [hRl], e3, fun d' m => ?_⟩⟩
      · exact nrcs z.symm
      · exact (sa3.new nrc).2 z.symm
      · rcases List.mem_append.mp m with m | m
        · exact hb d' m
        · simp at m; rw [m]; exact dl
    intro H4 V
    obtain ⟨sa4, R, hRl, hR4, hb⟩ := V.out
    clear V
    have fl : ∀ R : List (List Nat), (∀ d ∈ R, d.length ≤ 2000) → (flat R).length ≤ 2010 * R.length := by
      intro R
      induction R with
      | nil => intro _; simp [flat]
      | cons d R ih =>
        intro hb
        have h1 := ih fun d m => hb d (by simp [m])
        have h2 := hb d (by simp)
        have h3 := num_len (show d.length < 2097152 by omega)
        rw [flat_cons, List.length_append, rec_len, List.length_cons]; omega
    have hbt : ∀ i, (flat (R.take i)).length ≤ 25000 := fun i => by
      have := fl (R.take i) fun d m => hb d (List.mem_of_mem_take m)
      have h2 : (R.take i).length ≤ R.length := by rw [List.length_take]; omega
      omega
    have hbR : (flat R).length ≤ 25000 := by have := hbt R.length; rwa [List.take_length] at this
    -- data = [], sizes = [0]
    refine ⟨Nat.zero_le _, fun d0 nd0 => ?_⟩
    generalize h5 : upd _ d0 _ = H5
    have s5 := same_of h5 nd0
    have a5 := upd_at h5
    refine ⟨by show 1 ≤ sizeLine; decide, fun z nz => ?_⟩
    generalize h6 : upd _ z _ = H6
    have s6 := same_of h6 nz
    have a6 := upd_at h6
    have nzs := ((sa4.same s5).new nz)
    obtain ⟨us, u1, u2, u3⟩ := id (hR4.same s5)
    refine ⟨_, rfl, rc, rfl, ⟨_, SqL.of (s6 _ _ u1)⟩, for_list (K := K) (a := rc) (xs := us.map V.ref) (fun i σ H' => Hold (∃ (dt : Addr) (v5 v6 : Option V), σ = [some (.ref a), some (.ref s), some (.ref rc), some (.ref dt), some (.ref z), v5, v6, none, none, none, none, none] ∧ Same H5 H' ∧ H' dt = some (.lst (nums (flat (R.take i)))) ∧ dt ≠ z ∧ H' z = some (.lst (nums (ends 0 (R.take i)))))) ?_ ?_ ?_ ?_⟩
    · exact .mk ⟨d0, none, none, rfl, s6, s6 _ _ a5, ne_of_none a5 nz, a6⟩
    · intro i σ H' _ V
      obtain ⟨dt, v5, v6, rfl, s7, _⟩ := V.out
      exact SqL.of (s7 _ _ u1)
    · intro i x σ H7 hx V
      obtain ⟨dt, v5, v6, rfl, s7, hdt, ndz, hz⟩ := V.out
      obtain ⟨u, hu, rfl⟩ := map_get hx
      have hil : i < us.length := (List.getElem?_eq_some_iff.mp hu).1
      obtain ⟨d, hd⟩ : ∃ d, R[i]? = some d := ⟨_, List.getElem?_eq_getElem (by omega)⟩
      have hdl := hb d (List.mem_of_getElem? hd)
      have hu7 := s7 _ _ (u3 i u d hu hd)
      have sa7 := (sa4.same s5).same s7
      -- passed = list(record)
      refine ⟨_, rfl, _, _, rfl, .inl (SqL.of hu7), fun q nq => ?_⟩
      generalize h8 : upd _ q _ = H8
      have s8 := same_of h8 nq
      have a8 := upd_at h8
      have hu8 := s8 _ _ hu7
      refine ⟨_, rfl, q, d, rfl, a8, ?_⟩
      refine ⟨_, rfl, u, d, rfl, hu8, ?_⟩
      refine ⟨_, _, _, rfl, .int _, .int _, Nat.zero_le _, fun H9 s9 => ?_⟩
      refine ⟨_, rfl, ?_⟩
      refine ite2 (fun z => by simp at z) (fun _ => ?_)
      refine ⟨_, rfl, q, d, rfl, s9 _ _ a8, by omega, fun H10 r1 s10 n10 a10 => ?_⟩
      refine ⟨_, rfl, u, d, rfl, s10 _ _ (s9 _ _ hu8), by omega, fun H11 r2 s11 n11 a11 => ?_⟩
      refine ⟨_, _, nD (rec d), rfl, nums_dp (s11 _ _ a10), nums_dp a11, Nat.le_trans (nums_deep _) (by decide), fun H12 s12 => ?_⟩
      refine ⟨_, rfl, ?_⟩
      refine ite2 (fun z => by simp at z) (fun _ => ?_)
      have s9c := s9.trans (s10.trans (s11.trans s12))
      have hu12 := s9c _ _ hu8
      refine ⟨_, rfl, _, rfl, nD d, nD d, nums_dp (s9c _ _ a8), nums_dp hu12, ints_shaped _, ints_shaped _, _, rfl, ?_⟩
      rw [ints_eqv]
      refine ite2 (fun z => by simp at z) (fun _ => ?_)
      -- data = data + _law_record(record)
      have s8c := s8.trans s9c
      refine ⟨_, rfl, _, rfl, u, d, rfl, hu12, by omega, fun H13 r3 s13 n13 a13 => ?_⟩
      have hbi := hbt i
      have hrl := rec_len d
      have hnl := num_len (show d.length < 2097152 by omega)
      refine ⟨dt, r3, _, _, rfl, rfl, s13 _ _ (s8c _ _ hdt), a13, by rw [List.length_map, List.length_map, line24]; omega, fun d2 nd2 => ?_⟩
      generalize h14 : upd _ d2 _ = H14
      have s14 := same_of h14 nd2
      have a14 := upd_at h14
      have s8d := s8c.trans (s13.trans s14)
      have hz14 := s8d _ _ hz
      have e14 : H14 d2 = some (.lst (nums (flat (R.take (i + 1))))) := by rw [a14, flat_take_succ hd]; simp [nums]
      have n2z : d2 ≠ z := fun y => by rw [y, (s8c.trans s13) _ _ hz] at nd2; cases nd2
      -- sizes.append(len(data))
      refine ⟨_, rfl, .inl ⟨rfl, _, SqL.of hz14⟩, ?_⟩
      refine ⟨_, rfl, _, _, rfl, .inl (SqL.of e14), ?_⟩
      rw [List.length_map]
      have hel : (ends 0 (R.take i)).length ≤ 3000000 := by
        have : ∀ (R : List (List Nat)) (s : Nat), (ends s R).length = R.length + 1 := by
          intro R
          induction R with
          | nil => intro s; rfl
          | cons d R ih => intro s; show (ends _ R).length + 1 = _; rw [ih]; rfl
        rw [this, List.length_take]; omega
      refine ⟨z, _, _, rfl, rfl, hz14, by rw [List.length_map, line24]; omega, ?_⟩
      generalize h15 : upd _ z _ = H15
      have k15 : Keep (· = z) H14 H15 := keep_of h15 rfl
      have a15 := upd_at h15
      refine .mk ⟨d2, _, _, rfl, fun b o e => k15 _ _ (s8d _ _ (s7 _ _ e)) (ne_of_none e nz), k15 _ _ e14 n2z, n2z, ?_⟩
      have et : R.take (i + 1) = R.take i ++ [d] := by rw [List.take_add_one, hd]; rfl
      rw [a15, et, ends_snoc, ← et]; simp [nums]
    intro σ H7 V
    obtain ⟨dt, v5, v6, rfl, s7, hdt, ndz, hz⟩ := V.out
    clear V
    rw [List.length_map, u2, List.take_length] at hdt hz
    have sa7 := (sa4.same s5).same s7
    have hR7 := (hR4.same s5).same s7
    -- whole = data + _law_behind(state)
    refine ⟨_, rfl, _, rfl, s, p, rfl, sa7, fun H8 q8 tl k8 sa8 n8 a8 tll htl => ?_⟩
    have hR8 := hR7.keepS sa7 k8
    have hdt8 := k8 _ _ hdt (nums_ns hdt sa7)
    have hz8 := k8 _ _ hz (nums_ns hz sa7)
    refine ⟨dt, q8, _, _, rfl, rfl, hdt8, a8, by rw [List.length_map, List.length_map, line24]; omega, fun wh nwh => ?_⟩
    generalize h9 : upd _ wh _ = H9
    have s9 := same_of h9 nwh
    have a9 := upd_at h9
    have a9' : H9 wh = some (.lst (nums (flat R ++ tl))) := by rw [a9]; simp [nums]
    -- passed = list(whole)
    refine ⟨_, rfl, _, _, rfl, .inl (SqL.of a9'), fun q nq => ?_⟩
    generalize h10 : upd _ q _ = H10
    have s10 := same_of h10 nq
    have a10 := upd_at h10
    have s910 := s9.trans s10
    refine ⟨_, rfl, q, _, tl, R, rfl, a10, rfl, fun d m => by have := hb d m; omega, htl, by rw [List.length_append]; omega, by omega, fun H11 t11 p11 s11 ht11 hp11 => ?_⟩
    have s911 := s910.trans s11
    refine ⟨_, rfl, _, rfl, _, _, rfl, .inl (SqL.of (s911 _ _ hdt8)), ?_⟩
    rw [List.length_map]
    refine ⟨by show 2 ≤ sizeLine; decide, fun t12 n12 => ?_⟩
    generalize h12 : upd _ t12 _ = H12
    have s12 := same_of h12 n12
    have a12 := upd_at h12
    have s912 := s911.trans s12
    refine ⟨_, _, resD R (flat R).length, rfl, res_dp (s12 _ _ ht11) (hp11.same s12), res_dp a12 (hR8.same s912), res_deep _ _, fun H13 s13 => ?_⟩
    refine ⟨_, rfl, ?_⟩
    refine ite2 (fun z => by simp at z) (fun _ => ?_)
    have s1013 := s11.trans (s12.trans s13)
    refine ⟨_, rfl, _, rfl, nD (flat R ++ tl), nD (flat R ++ tl), nums_dp (s1013 _ _ a10), nums_dp (s1013 _ _ (s10 _ _ a9')), ints_shaped _, ints_shaped _, _, rfl, ?_⟩
    rw [ints_eqv]
    refine ite2 (fun z => by simp at z) (fun _ => ?_)
    have s813 := s912.trans s13
    have sa13 := sa8.same s813
    have hR13 := hR8.same s813
    have hdt13 := s813 _ _ hdt8
    have hz13 := s813 _ _ hz8
    -- the four cuts
    refine ⟨4, rfl, by decide, by decide, for_range0 (n := 4) (fun i σ H' => Hold (∃ (v5 v6 v7 v8 v9 v10 : Option V), σ = [some (.ref a), some (.ref s), some (.ref rc), some (.ref dt), some (.ref z), v5, v6, v7, v8, v9, v10, none] ∧ StAt K H' s p ∧ ListsAt H' rc R ∧ H' dt = some (.lst (nums (flat R))) ∧ H' z = some (.lst (nums (ends 0 R))))) ?_ ?_ ?_⟩
    · exact .mk ⟨_, _, _, _, _, _, rfl, sa13, hR13, hdt13, hz13⟩
    · intro i σ H14 hi V
      obtain ⟨v5, v6, v7, v8, v9, v10, rfl, sa14, hR14, hdt14, hz14⟩ := V.out
      clear V
      refine ⟨_, rfl, _, rfl, _, _, rfl, .inl (SqL.of hdt14), ?_⟩
      rw [List.length_map]
      refine ⟨_, _, rfl, rfl, ?_⟩
      refine ⟨s, p, _, rfl, sa14, by omega, fun H15 e k15 sa15 e0 e1 _ => ?_⟩
      obtain ⟨e, rfl⟩ : ∃ m : Nat, e = (m : Int) := ⟨e.toNat, by omega⟩
      have hR15 := hR14.keepS sa14 k15
      have hdt15 := k15 _ _ hdt14 (nums_ns hdt14 sa14)
      have hz15 := k15 _ _ hz14 (nums_ns hz14 sa14)
      obtain ⟨cc, tc, hc1, hc2, hc3, hc4⟩ := cut_at R 0 e (by omega) fun d m => by have := hb d m; omega
      -- count
      refine ⟨_, rfl, z, rfl, ⟨_, SqL.of hz15⟩, fun c nc => ?_⟩
      refine lc_list (K := K) (a := z) (xs := nums (ends 0 R)) (fun i H' => Hold (Keep (· = c) H15 H' ∧ H' c = some (.lst (nums (((ends 0 R).take i).filter fun x => decide (x ≤ 0 + e)))))) ?_ ?_ ?_ ?_
      · exact .mk ⟨Keep.new nc, upd_same⟩
      · intro i H' _ V
        exact V.out.1.seq (ne_of_none hz15 nc) (SqL.of hz15)
      · intro i y H' hy V
        obtain ⟨kc, hc⟩ := V.out
        obtain ⟨b, hb1, rfl⟩ := map_get hy
        have hil : i < (ends 0 R).length := (List.getElem?_eq_some_iff.mp hb1).1
        have hfl : (((ends 0 R).take i).filter fun x => decide (x ≤ 0 + e)).length ≤ i := Nat.le_trans (List.length_filter_le _ _) (by rw [List.length_take]; omega)
        have hel : (ends 0 R).length ≤ 3000 := by
          have : ∀ (R : List (List Nat)) (s : Nat), (ends s R).length = R.length + 1 := by
            intro R
            induction R with
            | nil => intro s; rfl
            | cons d R ih => intro s; show (ends _ R).length + 1 = _; rw [ih]; rfl
          rw [this]; omega
        refine ⟨rfl, ?_⟩
        refine ⟨_, rfl, _, rfl, _, _, rfl, rfl, _, rfl, ?_⟩
        refine ite2 (fun h => ?_) (fun h => ?_)
        · have hle : b ≤ 0 + e := by have := of_decide_eq_true h; omega
          refine ⟨_, rfl, _, hc, by rw [List.length_map, line24]; omega, .mk ⟨kc.trans (Keep.put rfl), ?_⟩⟩
          have ef : List.filter (fun x => decide (x ≤ 0 + e)) (some b).toList = [b] := by
            show List.filter _ [b] = [b]
            rw [List.filter_cons, if_pos (decide_eq_true hle)]; rfl
          rw [upd_same, List.take_add_one, hb1, List.filter_append, ef]
          simp [nums]
        · have hle : ¬ b ≤ 0 + e := fun y => h (decide_eq_true (by omega))
          refine .mk ⟨kc, ?_⟩
          have ef : List.filter (fun x => decide (x ≤ 0 + e)) (some b).toList = [] := by
            show List.filter _ [b] = []
            rw [List.filter_cons, if_neg fun y => hle (of_decide_eq_true y)]; rfl
          rw [hc, List.take_add_one, hb1, List.filter_append, ef, List.append_nil]
      intro H16 V
      obtain ⟨kc, hc⟩ := V.out
      clear V
      rw [List.length_map, List.take_length] at hc
      have s16 : Same H15 H16 := fun b o h => kc _ _ h (ne_of_none h nc)
      refine ⟨_, _, rfl, .inl (SqL.of hc), ?_⟩
      rw [List.length_map, hc2]
      have hcnt : (((cc + 1 : Nat)) : Int) - 1 = ((cc : Nat) : Int) := by omega
      refine ⟨_, _, rfl, rfl, ?_⟩
      -- passed = data[:end]
      refine ⟨_, rfl, _, rfl, _, rfl, _, _, rfl, SqL.of (s16 _ _ hdt15), fun q nq => ?_⟩
      generalize h17 : upd _ q _ = H17
      have s17 := same_of h17 nq
      have a17 := upd_at h17
      have a17' : H17 q = some (.lst (nums (flat (R.take cc) ++ tc))) := by
        rw [a17, cutV_to, ← hc3]; simp [nums, List.map_take]
      have hlt : (flat (R.take cc) ++ tc).length ≤ 25000 := by rw [← hc3, List.length_take]; omega
      have htl : (R.take cc).length ≤ 1000 := by rw [List.length_take]; omega
      refine ⟨_, rfl, q, _, tc, R.take cc, rfl, a17', rfl, fun d m => by have := hb d (List.mem_of_mem_take m); omega, hc4, by omega, htl, fun H18 t18 p18 s18 ht18 hp18 => ?_⟩
      have s1618 := s16.trans (s17.trans s18)
      -- (records[:count], sizes[count])
      obtain ⟨xs, hx1, hx2⟩ := (hR15.same s1618).cut (H' := H18) (q := rc) cc
      refine ⟨_, rfl, _, rfl, _, rfl, _, _, rfl, SqL.of hx1, fun c2 nc2 => ?_⟩
      generalize h19 : upd _ c2 _ = H19
      have s19 := same_of h19 nc2
      have a19 := upd_at h19
      rw [hcnt, cutV_to] at a19
      obtain ⟨xs', hx1', hx2'⟩ := (hR15.same s1618).cut (H' := H19) (q := c2) cc
      have exs : xs' = xs := by
        have := hx1'.symm.trans hx1
        cases this; rfl
      have l19 : ListsAt H19 c2 (R.take cc) := hx2' s19 (by rw [exs]; exact a19)
      have hz19 := s19 _ _ (s1618 _ _ hz15)
      have hat : (nums (ends 0 R))[cc]? = some (V.int ((flat (R.take cc)).length : Nat)) := by
        rw [List.getElem?_map, ends_get R 0 cc hc1]; simp
      refine ⟨_, rfl, _, rfl, _, _, _, _, rfl, rfl, SqL.of hz19, (by rw [hcnt]; exact atI_nat hat), ?_⟩
      refine ⟨by show 2 ≤ sizeLine; decide, fun t20 n20 => ?_⟩
      generalize h20 : upd _ t20 _ = H20
      have s20 := same_of h20 n20
      have a20 := upd_at h20
      refine ⟨_, _, resD (R.take cc) (flat (R.take cc)).length, rfl, res_dp (s20 _ _ (s19 _ _ ht18)) ((hp18.same s19).same s20), res_dp a20 (l19.same s20), res_deep _ _, fun H21 s21 => ?_⟩
      refine ⟨_, rfl, ?_⟩
      refine ite2 (fun z => by simp at z) (fun _ => ?_)
      have s1821 := s18.trans (s19.trans (s20.trans s21))
      have s1621 := s16.trans (s17.trans s1821)
      refine ⟨_, rfl, _, rfl, _, rfl, _, rfl, _, _, rfl, SqL.of (s1621 _ _ hdt15), fun c3 nc3 => ?_⟩
      generalize h22 : upd _ c3 _ = H22
      have s22 := same_of h22 nc3
      have a22 := upd_at h22
      have a22' : H22 c3 = some (.lst (nums (flat (R.take cc) ++ tc))) := by
        rw [a22, cutV_to, ← hc3]; simp [nums, List.map_take]
      refine ⟨_, _, nums_dp (s22 _ _ (s1821 _ _ a17')), nums_dp a22', ints_shaped _, ints_shaped _, _, rfl, ?_⟩
      rw [ints_eqv]
      refine ite2 (fun z => by simp at z) (fun _ => ?_)
      have sF := s1621.trans s22
      exact .mk ⟨_, _, _, _, _, _, rfl, sa15.same sF, hR15.same sF, sF _ _ hdt15, sF _ _ hz15⟩
    intro σ H14 V
    obtain ⟨v5, v6, v7, v8, v9, v10, rfl, sa14, hR14, hdt14, hz14⟩ := V.out
    clear V
    refine ⟨Nat.zero_le _, fun e1 n1 => ?_⟩
    generalize h15 : upd _ e1 _ = H15
    have s15 := same_of h15 n1
    have a15 := upd_at h15
    refine ⟨e1, [], [], [], rfl, a15, rfl, fun d m => by simp at m, rfl, by decide, by decide, fun H16 t16 p16 s16 ht16 hp16 => ?_⟩
    refine ⟨Nat.zero_le _, fun e2 n2 => ?_⟩
    generalize h17 : upd _ e2 _ = H17
    have s17 := same_of h17 n2
    have a17 := upd_at h17
    refine ⟨by show 2 ≤ sizeLine; decide, fun t18 n18 => ?_⟩
    generalize h18 : upd _ t18 _ = H18
    have s18 := same_of h18 n18
    have a18 := upd_at h18
    refine ⟨_, _, resD [] 0, rfl, res_dp (s18 _ _ (s17 _ _ ht16)) ((hp16.same s17).same s18), res_dp a18 ⟨[], s18 _ _ a17, rfl, fun j u d a _ => by simp at a⟩, res_deep _ _, fun H19 s19 => ?_⟩
    refine ⟨_, rfl, ?_⟩
    refine ite2 (fun _ => ?_) (fun z => absurd rfl z)
    refine ⟨Nat.zero_le _, fun e3 n3 => ?_⟩
    generalize h20 : upd _ e3 _ = H20
    have a20 := upd_at h20
    refine ⟨e3, [], rfl, a20, by decide, fun H21 r s21 nr ar => ?_⟩
    refine ⟨by show 5 ≤ sizeLine; decide, fun e4 n4 => ?_⟩
    generalize h22 : upd _ e4 _ = H22
    have s22 := same_of h22 n4
    have a22 := upd_at h22
    have er : rec [] = [0, 0, 0, 0, 7] := by
      unfold rec
      rw [show ([] : List Nat).length = 0 from rfl, num_lo (by decide)]; decide
    rw [er] at ar
    exact ⟨_, _, nD [0, 0, 0, 0, 7], rfl, nums_dp (l := [0, 0, 0, 0, 7]) (s22 _ _ ar), nums_dp (l := [0, 0, 0, 0, 7]) a22, Nat.le_trans (nums_deep _) (by decide), fun H23 s23 => kk _⟩
end
end Mk11
namespace Mk11
open PySem PySem.Spec PyProof.Rows L2 My
def dd_Reader___init__ : He.DefD := ⟨("Reader", some "__init__"), "__init__", "Reader.__init__", defArgs s_Reader___init__, defBody s_Reader___init__, defScope s_Reader___init__, [], []⟩
def dd_Reader_read_byte : He.DefD := ⟨("Reader", some "read_byte"), "read_byte", "Reader.read_byte", defArgs s_Reader_read_byte, defBody s_Reader_read_byte, defScope s_Reader_read_byte, [], []⟩
def dd_Reader_read_number : He.DefD := ⟨("Reader", some "read_number"), "read_number", "Reader.read_number", defArgs s_Reader_read_number, defBody s_Reader_read_number, defScope s_Reader_read_number, [], []⟩
def dd_write_number : He.DefD := ⟨("write_number", none), "write_number", "write_number", defArgs s_write_number, defBody s_write_number, defScope s_write_number, [], []⟩
def dd_checksum : He.DefD := ⟨("checksum", none), "checksum", "checksum", defArgs s_checksum, defBody s_checksum, defScope s_checksum, [], []⟩
def dd_write_record : He.DefD := ⟨("write_record", none), "write_record", "write_record", defArgs s_write_record, defBody s_write_record, defScope s_write_record, [], []⟩
def dd__read_size : He.DefD := ⟨("_read_size", none), "_read_size", "_read_size", defArgs s__read_size, defBody s__read_size, defScope s__read_size, [], []⟩
def dd_read_records : He.DefD := ⟨("read_records", none), "read_records", "read_records", defArgs s_read_records, defBody s_read_records, defScope s_read_records, [], []⟩
def dd__law_mix : He.DefD := ⟨("_law_mix", none), "_law_mix", "_law_mix", defArgs s__law_mix, defBody s__law_mix, defScope s__law_mix, [], []⟩
def dd__law_draws : He.DefD := ⟨("_law_draws", none), "_law_draws", "_law_draws", defArgs s__law_draws, defBody s__law_draws, defScope s__law_draws, [], []⟩
def dd__law_at : He.DefD := ⟨("_law_at", none), "_law_at", "_law_at", defArgs s__law_at, defBody s__law_at, defScope s__law_at, [], []⟩
def dd__law_is_integer : He.DefD := ⟨("_law_is_integer", none), "_law_is_integer", "_law_is_integer", defArgs s__law_is_integer, defBody s__law_is_integer, defScope s__law_is_integer, [], []⟩
def dd__law_same : He.DefD := ⟨("_law_same", none), "_law_same", "_law_same", defArgs s__law_same, defBody s__law_same, defScope s__law_same, [], []⟩
def dd__law_next : He.DefD := ⟨("_law_next", none), "_law_next", "_law_next", defArgs s__law_next, defBody s__law_next, defScope s__law_next, [], []⟩
def dd__law_number : He.DefD := ⟨("_law_number", none), "_law_number", "_law_number", defArgs s__law_number, defBody s__law_number, defScope s__law_number, [], []⟩
def dd__law_checksum : He.DefD := ⟨("_law_checksum", none), "_law_checksum", "_law_checksum", defArgs s__law_checksum, defBody s__law_checksum, defScope s__law_checksum, [], []⟩
def dd__law_record : He.DefD := ⟨("_law_record", none), "_law_record", "_law_record", defArgs s__law_record, defBody s__law_record, defScope s__law_record, [], []⟩
def dd__law_bytes : He.DefD := ⟨("_law_bytes", none), "_law_bytes", "_law_bytes", defArgs s__law_bytes, defBody s__law_bytes, defScope s__law_bytes, [], []⟩
def dd__law_behind : He.DefD := ⟨("_law_behind", none), "_law_behind", "_law_behind", defArgs s__law_behind, defBody s__law_behind, defScope s__law_behind, [], []⟩
def dd_law : He.DefD := ⟨("law", none), "law", "law", defArgs s_law, defBody s_law, defScope s_law, [], []⟩
def fn : List He.DefD := ([dd_Reader___init__, dd_Reader_read_byte, dd_Reader_read_number, dd_write_number, dd_checksum, dd_write_record, dd__read_size, dd_read_records, dd__law_mix, dd__law_draws, dd__law_at, dd__law_is_integer, dd__law_same, dd__law_next, dd__law_number, dd__law_checksum, dd__law_record, dd__law_bytes, dd__law_behind, dd_law] : List He.DefD)
def fa : List He.Fa := ([.mkr "Reader", .glo "Reader", .cls "Reader", .meth "Reader" "read_byte", .meth "Reader" "read_number", .glo "write_number", .glo "checksum", .glo "write_record", .glo "_read_size", .glo "read_records", .glo "_law_mix", .glo "_law_draws", .glo "_law_at", .glo "_law_is_integer", .glo "_law_same", .glo "_law_next", .glo "_law_number", .glo "_law_checksum", .glo "_law_record", .glo "_law_bytes", .glo "_law_behind", .glo "law", .free "bool", .free "int", .free "isinstance", .free "len", .free "list", .free "min", .free "range", .free "str"] : List He.Fa) ++ ([.free "tuple", .int "NUMBER_BYTES" 60, .int "CHECKSUM_LIMIT" 4294967296, .exc "SignalwholeError", .glo "SignalwholeError", .exm "SignalwholeError" "SignalwholeError" true, .exc "DamagedPacket", .glo "DamagedPacket", .exm "DamagedPacket" "DamagedPacket" true, .noat "Reader" "data", .noat "Reader" "at"] : List He.Fa)
theorem tops {K : PySem.W.Frag} {h : Heap} {mg : Str → Option Value} (X : K.In h) (G : h.Ns mainGlobals mg) (c : He.SaysD fa fn K) : TopF K mg where
  bool := He.free_ok X G (c.fact 22 (f := .free "bool") rfl)
  int_ := He.free_ok X G (c.fact 23 (f := .free "int") rfl)
  isinstance := He.free_ok X G (c.fact 24 (f := .free "isinstance") rfl)
  len := He.free_ok X G (c.fact 25 (f := .free "len") rfl)
  list := He.free_ok X G (c.fact 26 (f := .free "list") rfl)
  min := He.free_ok X G (c.fact 27 (f := .free "min") rfl)
  range := He.free_ok X G (c.fact 28 (f := .free "range") rfl)
  str := He.free_ok X G (c.fact 29 (f := .free "str") rfl)
  tuple := He.free_ok X G (c.fact 30 (f := .free "tuple") rfl)
  c_NUMBER_BYTES := He.int_ok X G (c.fact 31 (f := .int "NUMBER_BYTES" 60) rfl)
  c_CHECKSUM_LIMIT := He.int_ok X G (c.fact 32 (f := .int "CHECKSUM_LIMIT" 4294967296) rfl)
  x_SignalwholeError := c.fact 33 (f := .exc "SignalwholeError") rfl
  m_SignalwholeError := c.fact 35 (f := .exm "SignalwholeError" "SignalwholeError" true) rfl
  g_SignalwholeError := He.glo_ok X G (c.fact 34 (f := .glo "SignalwholeError") rfl)
  x_DamagedPacket := c.fact 36 (f := .exc "DamagedPacket") rfl
  m_DamagedPacket := c.fact 38 (f := .exm "DamagedPacket" "DamagedPacket" true) rfl
  g_DamagedPacket := He.glo_ok X G (c.fact 37 (f := .glo "DamagedPacket") rfl)
  n_Reader_data := He.noat_ok (c.fact 39 (f := .noat "Reader" "data") rfl)
  n_Reader_at := He.noat_ok (c.fact 40 (f := .noat "Reader" "at") rfl)
theorem defs {K : PySem.W.Frag} {h : Heap} {mg : Str → Option Value} (X : K.In h) (G : h.Ns mainGlobals mg) (c : He.SaysD fa fn K) : Defs K mg where
  d_Reader___init__ := let ⟨fd, F⟩ := c.def_ 0 (d := dd_Reader___init__) rfl; ⟨⟨_, fd, F, He.mkr_ok (c.fact 0 (f := .mkr "Reader") rfl), He.glo_ok X G (c.fact 1 (f := .glo "Reader") rfl)⟩⟩
  d_Reader_read_byte := let ⟨fd, F⟩ := c.def_ 1 (d := dd_Reader_read_byte) rfl; ⟨He.cls_ok (c.fact 2 (f := .cls "Reader") rfl), ⟨_, fd, F, He.meth_ok (c.fact 3 (f := .meth "Reader" "read_byte") rfl)⟩⟩
  d_Reader_read_number := let ⟨fd, F⟩ := c.def_ 2 (d := dd_Reader_read_number) rfl; ⟨He.cls_ok (c.fact 2 (f := .cls "Reader") rfl), ⟨_, fd, F, He.meth_ok (c.fact 4 (f := .meth "Reader" "read_number") rfl)⟩⟩
  d_write_number := let ⟨fd, F⟩ := c.def_ 3 (d := dd_write_number) rfl; ⟨⟨_, fd, F, He.glo_ok X G (c.fact 5 (f := .glo "write_number") rfl)⟩⟩
  d_checksum := let ⟨fd, F⟩ := c.def_ 4 (d := dd_checksum) rfl; ⟨⟨_, fd, F, He.glo_ok X G (c.fact 6 (f := .glo "checksum") rfl)⟩⟩
  d_write_record := let ⟨fd, F⟩ := c.def_ 5 (d := dd_write_record) rfl; ⟨⟨_, fd, F, He.glo_ok X G (c.fact 7 (f := .glo "write_record") rfl)⟩⟩
  d__read_size := let ⟨fd, F⟩ := c.def_ 6 (d := dd__read_size) rfl; ⟨⟨_, fd, F, He.glo_ok X G (c.fact 8 (f := .glo "_read_size") rfl)⟩⟩
  d_read_records := let ⟨fd, F⟩ := c.def_ 7 (d := dd_read_records) rfl; ⟨⟨_, fd, F, He.glo_ok X G (c.fact 9 (f := .glo "read_records") rfl)⟩⟩
  d__law_mix := let ⟨fd, F⟩ := c.def_ 8 (d := dd__law_mix) rfl; ⟨⟨_, fd, F, He.glo_ok X G (c.fact 10 (f := .glo "_law_mix") rfl)⟩⟩
  d__law_draws := let ⟨fd, F⟩ := c.def_ 9 (d := dd__law_draws) rfl; ⟨⟨_, fd, F, He.glo_ok X G (c.fact 11 (f := .glo "_law_draws") rfl)⟩⟩
  d__law_at := let ⟨fd, F⟩ := c.def_ 10 (d := dd__law_at) rfl; ⟨⟨_, fd, F, He.glo_ok X G (c.fact 12 (f := .glo "_law_at") rfl)⟩⟩
  d__law_is_integer := let ⟨fd, F⟩ := c.def_ 11 (d := dd__law_is_integer) rfl; ⟨⟨_, fd, F, He.glo_ok X G (c.fact 13 (f := .glo "_law_is_integer") rfl)⟩⟩
  d__law_same := let ⟨fd, F⟩ := c.def_ 12 (d := dd__law_same) rfl; ⟨⟨_, fd, F, He.glo_ok X G (c.fact 14 (f := .glo "_law_same") rfl)⟩⟩
  d__law_next := let ⟨fd, F⟩ := c.def_ 13 (d := dd__law_next) rfl; ⟨⟨_, fd, F, He.glo_ok X G (c.fact 15 (f := .glo "_law_next") rfl)⟩⟩
  d__law_number := let ⟨fd, F⟩ := c.def_ 14 (d := dd__law_number) rfl; ⟨⟨_, fd, F, He.glo_ok X G (c.fact 16 (f := .glo "_law_number") rfl)⟩⟩
  d__law_checksum := let ⟨fd, F⟩ := c.def_ 15 (d := dd__law_checksum) rfl; ⟨⟨_, fd, F, He.glo_ok X G (c.fact 17 (f := .glo "_law_checksum") rfl)⟩⟩
  d__law_record := let ⟨fd, F⟩ := c.def_ 16 (d := dd__law_record) rfl; ⟨⟨_, fd, F, He.glo_ok X G (c.fact 18 (f := .glo "_law_record") rfl)⟩⟩
  d__law_bytes := let ⟨fd, F⟩ := c.def_ 17 (d := dd__law_bytes) rfl; ⟨⟨_, fd, F, He.glo_ok X G (c.fact 19 (f := .glo "_law_bytes") rfl)⟩⟩
  d__law_behind := let ⟨fd, F⟩ := c.def_ 18 (d := dd__law_behind) rfl; ⟨⟨_, fd, F, He.glo_ok X G (c.fact 20 (f := .glo "_law_behind") rfl)⟩⟩
  d_law := let ⟨fd, F⟩ := c.def_ 19 (d := dd_law) rfl; ⟨⟨_, fd, F, He.glo_ok X G (c.fact 21 (f := .glo "law") rfl)⟩⟩
def loose : List PySem.Str := (["_wall", "SignalwholeError", "DamagedPacket", "Reader", "write_number", "checksum", "write_record", "_read_size", "read_records", "_law_mix", "_law_draws", "_law_at", "_law_is_integer", "_law_same", "_law_next", "_law_number", "_law_checksum", "_law_record", "_law_bytes", "_law_behind", "NUMBER_BYTES", "CHECKSUM_LIMIT"] : List PySem.Str)
abbrev R : PySem.W.OpenRow := PySem.W.OpenLaw.row PySem.Challenge.rw_signalwhole_k11_records
abbrev hk : PySem.W.Hook := He.hookD 4 fa fn
def ob (s : PySem.W.SharedT) : He.AlD := He.obsDG 4 fa fn (HandSHeadRun.getT s)
theorem ob_eq (s : PySem.W.SharedT) : ob s = hk.obs s.abs := He.obsDG_eq (HandSHeadRun.getT_eq s)
set_option maxHeartbeats 0 in
theorem run (w : World) : HandSHeadRun.RunEq R (PySem.W.view R.prog [27]) hk ob 4000 loose w := by
  intro os
  kernel_rfl
end Mk11
open PySem PySem.W PySem.Calls PyProof.Rows
set_option maxRecDepth 100000 in
set_option maxHeartbeats 0 in
theorem PySem.Challenge.cw_signalwhole_k11_records_holds : PySem.Challenge.rw_signalwhole_k11_records.Holds := by
  w_on; o_law
  refine HandSHeadRun.head_any (r := OpenLaw.row PySem.Challenge.rw_signalwhole_k11_records) (q := view (OpenLaw.row PySem.Challenge.rw_signalwhole_k11_records).prog [27]) (H := Mk11.hk) (ob := Mk11.ob) (M := 4000) (loose := Mk11.loose) (d := HandSHeadRun.topDef (OpenLaw.row PySem.Challenge.rw_signalwhole_k11_records).prog 27) (kwd := []) Mk11.ob_eq
    (by kernel_rfl) (fun s => by kernel_rfl) Mk11.run (by kernel_rfl) (by kernel_rfl) (by kernel_rfl) (by rfl) (by first | assumption | decide +kernel) (by decide +kernel) ⟨rfl, rfl, rfl, rfl, rfl, by decide +kernel⟩ ?hw ?hc
  case hw => w_witness2
  case hc =>
    refine L2.walk_ofE (l := PySem.Challenge.rw_signalwhole_k11_records) (n := 63) (k := 8) (x := "script") (CX := L2.CX0) rfl (by decide) (by kernel_rfl) ⟨rfl, by decide, by decide⟩ ?F (fun _ _ _ _ z => z)
    intro w mg fa h Y G hmg0
    obtain ⟨K, KX, c⟩ := Y
    have hmg : mg ("law" : PySem.Str) = some (.ref fa) := by
      have e : (HandSHeadRun.topDef (OpenLaw.row PySem.Challenge.rw_signalwhole_k11_records).prog 27).name = ("law" : PySem.Str) := by kernel_rfl
      rw [← e]
      exact hmg0
    have T := Mk11.tops KX G c
    have D := Mk11.defs KX G c
    obtain ⟨fd, hb, hF⟩ := Mk11.law_fn (P := (PySem.Challenge.rw_signalwhole_k11_records).prog) (w := w) T D hmg
    exact ⟨K, fd, Mk11.spLaw K, KX, hb, fun H a ns hl _ hS => ⟨a, ns, rfl, hS, hl, fun _ => rfl⟩, hF⟩
