import PyProof.Rows.All
import Wide.All
import OpenK.AllK
import Wide.FinOn
import KE.KStateDown
import HandS.ForMost
import HandS.Exc
import HandS.TryOnly
import HandS.ExcOwn
import HandS.WordsExc
import HandS.Defaults
import HandS.IsInst
import HandS.Flow
import HandS.Style
import HandS.TupAny
import HandS.Walk
import HandS.Codes
import HandS.Head0
import HandS.Head1
import HandS.Head2
import HandS.HeadEnd
import HandS.HeadHook1
import HandS.HeadHook2
import HandS.More
import KE.GoesComp
import KE.KAsSuite
import HandS.Wide
import PySem.Challenge.RW_signalwhole_k12_bytes_written_and_read
set_option Elab.async false
set_option linter.all false
set_option maxRecDepth 100000
set_option maxHeartbeats 4000000

/-! ### my own words over the hand layer -/
namespace My
open PySem PySem.Spec PyProof.Rows L2

/-- a def of the top, by its name -/
structure DefAt (K : PySem.W.Frag) (mg : Str → Option Value) (x : Str) (st : Stmt) : Prop where
  ex : ∃ (f : Addr) (fd : FuncData), FunD K x x (defArgs st) (defBody st) (defScope st) [] [] f fd ∧ mg x = some (.ref f)
/-- a method of a class, by its name -/
structure MetAt (K : PySem.W.Frag) (C : Addr) (m q : Str) (st : Stmt) : Prop where
  cl : Cls K C
  ex : ∃ (f : Addr) (fd : FuncData), FunD K m q (defArgs st) (defBody st) (defScope st) [] [] f fd ∧ Meth K C m f
/-- the maker of a class -/
structure MkAt (K : PySem.W.Frag) (mg : Str → Option Value) (C : Addr) (x q : Str) (st : Stmt) : Prop where
  ex : ∃ (f : Addr) (fd : FuncData), FunD K "__init__" q (defArgs st) (defBody st) (defScope st) [] [] f fd ∧ Mk K C f ∧ mg x = some (.ref C)

/-- what a def promises, by its name -/
structure Kal (P : Program) (w : World) (K : PySem.W.Frag) (mg : Str → Option Value) (base : Heap) (CX : CXT) (k : Nat) (x : Str) (ps : List Str) (sp : Sp) : Prop where
  ex : ∃ (f : Addr) (fd : FuncData), FnOk P w K mg base CX k f fd ps sp ∧ mg x = some (.ref f) ∧ PySem.W.keepIn K (.ref f) = true ∧ Binds K fd ps []
structure KMet (P : Program) (w : World) (K : PySem.W.Frag) (mg : Str → Option Value) (base : Heap) (CX : CXT) (k : Nat) (C : Addr) (m : Str) (ps : List Str) (sp : Sp) : Prop where
  ex : ∃ (f : Addr) (fd : FuncData), FnOk P w K mg base CX k f fd ps sp ∧ Cls K C ∧ Meth K C m f ∧ Binds K fd ps []
structure KMak (P : Program) (w : World) (K : PySem.W.Frag) (mg : Str → Option Value) (base : Heap) (CX : CXT) (k : Nat) (x : Str) (C : Addr) (ps : List Str) (sp : Sp) : Prop where
  ex : ∃ (f : Addr) (fd : FuncData), FnOk P w K mg base CX k f fd ps sp ∧ mg x = some (.ref C) ∧ Mk K C f ∧ Binds K fd ps []

section
variable {X : Cx} {CX : CXT} {k j : Nat} {x m : Str} {p pos apos : Pos} {e o : Expr} {es : List Expr} {t : TA} {ta : TE} {ps : List Str} {sp : Sp} {C : Addr} {W : WX}
theorem pe_kal (c : Kal X.prog X.w X.K X.mg X.base CX0 k x ps sp) (hr : Room j X.A) (hk : k ≤ j) (ha : PA X (e :: es) t) (hg : Gl X x := by rfl) (hdb : (x == ("__debug__" : Str)) = false := by decide)
    (he : starEach (e :: es) X.env = (false, eval e X.env) :: starEach es X.env := by rfl) (hpl : (backTo pos (starEach es X.env)).any (·.1) = false := by rfl) : PE X (.Call (.Name x p) (e :: es) [] pos) (tCall sp [] E0 t) := by
  obtain ⟨f, fd, F, hm, kp, hb⟩ := c.ex
  exact pe_call F (hr.mono hk) hg hm kp hb .nil pass0 ha hdb he hpl
theorem pe_kal0 (c : Kal X.prog X.w X.K X.mg X.base CX0 k x ps sp) (hr : Room j X.A) (hk : k ≤ j) (hg : Gl X x := by rfl) (hdb : (x == ("__debug__" : Str)) = false := by decide) : PE X (.Call (.Name x p) [] [] pos) (tCall sp [] E0 tNil) := by
  obtain ⟨f, fd, F, hm, kp, hb⟩ := c.ex
  exact pe_call0 F (hr.mono hk) hg hm kp hb .nil pass0 hdb
/-- a def that may raise, called where the raised is wished for by W -/
theorem pe_kalX (c : Kal X.prog X.w X.K X.mg X.base (L2.CX X.prog X.w) k x ps sp) (hr : Room j X.A) (hk : k ≤ j) (tk : Takes X W) (ha : PA X (e :: es) t) (hg : Gl X x := by rfl) (hdb : (x == ("__debug__" : Str)) = false := by decide)
    (he : starEach (e :: es) X.env = (false, eval e X.env) :: starEach es X.env := by rfl) (hpl : (backTo pos (starEach es X.env)).any (·.1) = false := by rfl) : PE X (.Call (.Name x p) (e :: es) [] pos) (tCallS sp (WE W) t) := by
  obtain ⟨f, fd, F, hm, kp, hb⟩ := c.ex
  exact pe_callS F (hr.mono hk) hg hm kp hb (fun σ => passAt tk σ) ha hdb he hpl
theorem pe_kmet {pl : Sem Bool} (c : KMet X.prog X.w X.K X.mg X.base CX0 k C m ps sp) (hr : Room j X.A) (hk : k ≤ j) (ho : PE X o ta) (ha : PA X (e :: es) t)
    (hst : starEach (e :: es) X.env = (false, eval e X.env) :: starEach es X.env := by rfl) (hpl : (backTo pos (starEach es X.env)).any (·.1) = false := by rfl)
    (ht : eval (.Call (.Attribute o m apos) (e :: es) [] pos) X.env = (do
      let ov ← eval o X.env
      standAt apos.atName
      let (f, first) ← holding [ov] (getMethod ov m pl)
      callWith pos f first (backTo pos (starEach (e :: es) X.env)) (backToKw pos (keywordEach [] X.env))) := by rfl) :
    PE X (.Call (.Attribute o m apos) (e :: es) [] pos) (tMeth C m sp [] E0 ta t) := by
  obtain ⟨f, fd, F, c, hm, hb⟩ := c.ex
  exact pe_meth ho c hm F (hr.mono hk) hb .nil pass0 ha hst hpl ht
theorem pe_kmet0 {pl : Sem Bool} (c : KMet X.prog X.w X.K X.mg X.base CX0 k C m ps sp) (hr : Room j X.A) (hk : k ≤ j) (ho : PE X o ta)
    (ht : eval (.Call (.Attribute o m apos) [] [] pos) X.env = (do
      let ov ← eval o X.env
      standAt apos.atName
      let (f, first) ← holding [ov] (getMethod ov m pl)
      callWith pos f first (backTo pos (starEach [] X.env)) (backToKw pos (keywordEach [] X.env))) := by rfl) :
    PE X (.Call (.Attribute o m apos) [] [] pos) (tMeth C m sp [] E0 ta tNil) := by
  obtain ⟨f, fd, F, c, hm, hb⟩ := c.ex
  exact pe_meth0 ho c hm F (hr.mono hk) hb .nil pass0 ht
/-- o.m(e, ..) of a method that may raise -/
def tMethX (C : Addr) (m : Str) (sp : Sp) (E : L2.St → XK) (ta : TE) (t : TA) : TE := fun σ H Q => ta σ H fun x H1 => ∃ a dx fs, x = .ref a ∧ H1 a = some (.ins C dx fs) ∧ fs.lookup m = none ∧ t σ H1 fun vs H2 => sp (x :: vs) H2 Q (E σ)
theorem pe_kmetX {pl : Sem Bool} (c : KMet X.prog X.w X.K X.mg X.base (L2.CX X.prog X.w) k C m ps sp) (hr : Room j X.A) (hk : k ≤ j) (tk : Takes X W) (ho : PE X o ta) (ha : PA X (e :: es) t)
    (hst : starEach (e :: es) X.env = (false, eval e X.env) :: starEach es X.env := by rfl) (hpl : (backTo pos (starEach es X.env)).any (·.1) = false := by rfl)
    (ht : eval (.Call (.Attribute o m apos) (e :: es) [] pos) X.env = (do
      let ov ← eval o X.env
      standAt apos.atName
      let (f, first) ← holding [ov] (getMethod ov m pl)
      callWith pos f first (backTo pos (starEach (e :: es) X.env)) (backToKw pos (keywordEach [] X.env))) := by rfl) :
    PE X (.Call (.Attribute o m apos) (e :: es) [] pos) (tMethX C m sp (WE W) ta t) := by
  obtain ⟨f, fd, F, c, hm, hb⟩ := c.ex
  refine ⟨fun pins s σ H Q I h => ?_⟩
  refine PySem.W.methodCall_KW (pl := pl) (thn (ho.run pins s σ H _ I h) fun u s1 ⟨x, H1, I1, rx, a, dx, fs, ex, ea, l, q⟩ => ?_) ht
  subst ex
  obtain rfl : u = Value.ref a := rx
  refine getmeth_ok I1 ea c hm l ?_
  refine PySem.W.callWith_K (first := [.ref a]) (h₀ := X.base) I.ok.mod.kin hm.kp (thn (ha.run pos pins s1 σ H1 _ I1 q) fun us s2 ⟨vs, H2, I2, r, q2⟩ => ⟨I2.kIn, ?_⟩) hst hpl
  exact run_fnS (us := .ref a :: us) (vs := .ref a :: vs) F (hr.mono hk) hb (passAt tk σ) I2 (.cons rfl r) q2
theorem pe_kmetX0 {pl : Sem Bool} (c : KMet X.prog X.w X.K X.mg X.base (L2.CX X.prog X.w) k C m ps sp) (hr : Room j X.A) (hk : k ≤ j) (tk : Takes X W) (ho : PE X o ta)
    (ht : eval (.Call (.Attribute o m apos) [] [] pos) X.env = (do
      let ov ← eval o X.env
      standAt apos.atName
      let (f, first) ← holding [ov] (getMethod ov m pl)
      callWith pos f first (backTo pos (starEach [] X.env)) (backToKw pos (keywordEach [] X.env))) := by rfl) :
    PE X (.Call (.Attribute o m apos) [] [] pos) (tMethX C m sp (WE W) ta tNil) := by
  obtain ⟨f, fd, F, c, hm, hb⟩ := c.ex
  refine ⟨fun pins s σ H Q I h => ?_⟩
  refine PySem.W.methodCall_KW (pl := pl) (thn (ho.run pins s σ H _ I h) fun u s1 ⟨x, H1, I1, rx, a, dx, fs, ex, ea, l, q⟩ => ?_) ht
  subst ex
  obtain rfl : u = Value.ref a := rx
  refine getmeth_ok I1 ea c hm l ?_
  refine PySem.W.callWith_K0 (first := [.ref a]) I1.kIn hm.kp ?_
  exact run_fnS (us := [.ref a]) (vs := [.ref a]) F (hr.mono hk) hb (passAt tk σ) I1 (.cons rfl .nil) q
theorem pe_kmk (c : KMak X.prog X.w X.K X.mg X.base CX0 k x C ps sp) (hr : Room j X.A) (hk : k + 1 ≤ j) (ha : PA X (e :: es) t) (hg : Gl X x := by rfl) (hdb : (x == ("__debug__" : Str)) = false := by decide)
    (he : starEach (e :: es) X.env = (false, eval e X.env) :: starEach es X.env := by rfl) (hpl : (backTo pos (starEach es X.env)).any (·.1) = false := by rfl) : PE X (.Call (.Name x p) (e :: es) [] pos) (tMake C sp [] E0 t) := by
  obtain ⟨f, fd, F, hm, M, hb⟩ := c.ex
  exact pe_make M F (hr.mono hk) hg hm hb .nil pass0 ha hdb he hpl
theorem pe_kmk0 (c : KMak X.prog X.w X.K X.mg X.base CX0 k x C ps sp) (hr : Room j X.A) (hk : k + 1 ≤ j) (hg : Gl X x := by rfl) (hdb : (x == ("__debug__" : Str)) = false := by decide) : PE X (.Call (.Name x p) [] [] pos) (tMake C sp [] E0 tNil) := by
  obtain ⟨f, fd, F, hm, M, hb⟩ := c.ex
  exact pe_make0 M F (hr.mono hk) hg hm hb .nil pass0 hdb
/-- o[i] of a list, for o[i] op= e: the place is told from the front or from the back -/
theorem get_list : PGet X (rIxL X.K) := by
  rintro pins s σ H _ _ ov iv Q I ro ri ⟨p, xs, i, z, rfl, rfl, sq, hat, q⟩
  cases ro
  obtain ⟨t, rfl⟩ := ri
  obtain ⟨us, rel, plain, _⟩ := I.list sq
  obtain ⟨j, seq, get, lt, low, high⟩ := atI_get hat
  obtain ⟨u, hu, ru⟩ := rel.get get
  have same_len := rel.length
  have big := line63
  have done : EP X pins σ Q u s := ⟨z, H, I, ru, q⟩
  rcases Int.lt_or_le i 0 with neg | pos
  · rw [seqIndex_neg neg low] at seq
    have at_ : (i + (us.toArray.size : Int)).toNat = j := by
      rw [List.size_toArray, ← same_len]; exact Option.some.inj seq
    exact wpAny_getItem_list_neg plain.isList neg (by simp only [List.size_toArray]; omega) (by omega) (by rw [at_]; simpa using hu) done
  · rw [seqIndex_of pos high] at seq
    have at_ : i.toNat = j := Option.some.inj seq
    exact wpAny_getItem_list plain.isList pos (by omega) (by rw [at_]; simpa using hu) done
end

/-! ### a def's promise by its body -/
section
variable {P : Program} {w : World} {K : PySem.W.Frag} {mg : Str → Option Value} {base : Heap} {k : Nat} {x m q : Str} {st : Stmt} {N ps : List Str} {sp : Sp} {C : Addr}
/-- how the arguments bind -/
abbrev BindsBy (x q : Str) (st : Stmt) (ps : List Str) : Prop := ∀ (kV doc pm : Value) (an : Option Addr) (cdv ct : Value) (us : List Value), us.length = ps.length → bindArgs (PySem.W.fnOf x q (defArgs st) (defBody st) (defScope st) .none kV doc pm an cdv ct) ⟨us, []⟩ = pure (ps.zip us)
/-- the body keeps the promise; nothing is raised -/
abbrev Body0 (P : Program) (w : World) (K : PySem.W.Frag) (mg : Str → Option Value) (base : Heap) (k : Nat) (q : Str) (st : Stmt) (N : List Str) (sp : Sp) : Prop :=
  ∀ (f : Addr) (cdv : Value) (A : Around) (outer : List Env) (s : Shared) (H : Hp) (vs : List V) (Q : VK) (E : XK), Room k (A.deeper (envOfC q (defScope st) s.heap.objs.size f cdv)) → sp vs H Q E →
      ∃ t, PSs (cxOf CX0 P w K mg base N q (defScope st) f cdv A outer s H E).nox (defBody st) t ∧ t { nx := fun _ H' => Q .non H', rt := Q } (start N vs) H
/-- .. what is raised is wished for -/
abbrev BodyX (P : Program) (w : World) (K : PySem.W.Frag) (mg : Str → Option Value) (base : Heap) (k : Nat) (q : Str) (st : Stmt) (N : List Str) (sp : Sp) : Prop :=
  ∀ (f : Addr) (cdv : Value) (A : Around) (outer : List Env) (s : Shared) (H : Hp) (vs : List V) (Q : VK) (E : XK), Room k (A.deeper (envOfC q (defScope st) s.heap.objs.size f cdv)) → sp vs H Q E →
      ∃ t, PSs (cxOf (L2.CX P w) P w K mg base N q (defScope st) f cdv A outer s H E) (defBody st) t ∧ t { nx := fun _ H' => Q .non H', rt := Q } (start N vs) H
theorem kal_mk (D : DefAt K mg x st) (S : FnScope N ps (defScope st)) (hb : BindsBy x x st ps) (len : ∀ vs H Q E, sp vs H Q E → vs.length = ps.length) (body : Body0 P w K mg base k x st N sp) : Kal P w K mg base CX0 (k + 1) x ps sp := by
  obtain ⟨f, fd, F, hm⟩ := D.ex
  exact ⟨f, fd, F.ok S len fun cdv A outer s H vs Q E hr h => let ⟨t, h1, h2⟩ := body f cdv A outer s H vs Q E hr h; ⟨t, h1.nox, h2⟩, hm, F.kp, F.bindsN hb⟩
theorem kal_mkX (D : DefAt K mg x st) (S : FnScope N ps (defScope st)) (hb : BindsBy x x st ps) (len : ∀ vs H Q E, sp vs H Q E → vs.length = ps.length) (body : BodyX P w K mg base k x st N sp) : Kal P w K mg base (L2.CX P w) (k + 1) x ps sp := by
  obtain ⟨f, fd, F, hm⟩ := D.ex
  exact ⟨f, fd, F.ok S len fun cdv A outer s H vs Q E hr h => body f cdv A outer s H vs Q E hr h, hm, F.kp, F.bindsN hb⟩
theorem kmet_mk (D : MetAt K C m q st) (S : FnScope N ps (defScope st)) (hb : BindsBy m q st ps) (len : ∀ vs H Q E, sp vs H Q E → vs.length = ps.length) (body : Body0 P w K mg base k q st N sp) : KMet P w K mg base CX0 (k + 1) C m ps sp := by
  obtain ⟨f, fd, F, hm⟩ := D.ex
  exact ⟨f, fd, F.ok S len fun cdv A outer s H vs Q E hr h => let ⟨t, h1, h2⟩ := body f cdv A outer s H vs Q E hr h; ⟨t, h1.nox, h2⟩, D.cl, hm, F.bindsN hb⟩
theorem kmet_mkX (D : MetAt K C m q st) (S : FnScope N ps (defScope st)) (hb : BindsBy m q st ps) (len : ∀ vs H Q E, sp vs H Q E → vs.length = ps.length) (body : BodyX P w K mg base k q st N sp) : KMet P w K mg base (L2.CX P w) (k + 1) C m ps sp := by
  obtain ⟨f, fd, F, hm⟩ := D.ex
  exact ⟨f, fd, F.ok S len fun cdv A outer s H vs Q E hr h => body f cdv A outer s H vs Q E hr h, D.cl, hm, F.bindsN hb⟩
theorem kmak_mk (D : MkAt K mg C x q st) (S : FnScope N ps (defScope st)) (hb : BindsBy "__init__" q st ps) (len : ∀ vs H Q E, sp vs H Q E → vs.length = ps.length) (body : Body0 P w K mg base k q st N sp) : KMak P w K mg base CX0 (k + 1) x C ps sp := by
  obtain ⟨f, fd, F, M, hm⟩ := D.ex
  exact ⟨f, fd, F.ok S len fun cdv A outer s H vs Q E hr h => let ⟨t, h1, h2⟩ := body f cdv A outer s H vs Q E hr h; ⟨t, h1.nox, h2⟩, hm, M, F.bindsN hb⟩
end

/-- a module's int -/
theorem pe_gint {X : Cx} {x : Str} {pos : Pos} {i : Int} (hg : Gl X x) (hm : ∃ t, X.mg x = some (.int i t)) (hd : (x == ("__debug__" : Str)) = false := by decide) : PE X (.Name x pos) (tC (.int i)) := by
  obtain ⟨t, e⟩ := hm
  exact pe_glob hg e ⟨t, rfl⟩ hd

/-! ### heaps -/
/-- all that was tracked but what P names is as it was -/
def Keep (P : Addr → Prop) (H H' : Hp) : Prop := ∀ b o, H b = some o → ¬ P b → H' b = some o
theorem Keep.refl {P : Addr → Prop} (H : Hp) : Keep P H H := fun _ _ h _ => h
theorem Keep.trans {P : Addr → Prop} {H H1 H2 : Hp} (a : Keep P H H1) (b : Keep P H1 H2) : Keep P H H2 := fun c o h n => b c o (a c o h n) n
theorem Keep.mono {P P' : Addr → Prop} {H H' : Hp} (a : Keep P H H') (h : ∀ b, P b → P' b ∨ H b = none) : Keep P' H H' := fun b o e n => a b o e fun p => (h b p).elim n fun z => by rw [z] at e; cases e
theorem Keep.of {P : Addr → Prop} {H H' : Hp} (a : Same H H') : Keep P H H' := fun b o e _ => a b o e
theorem Keep.new {P : Addr → Prop} {H : Hp} {p : Addr} {o : HO} (h : H p = none) : Keep P H (upd H p o) := fun b u e _ => by rw [upd_ne (ne_of_none e h)]; exact e
theorem Keep.put {P : Addr → Prop} {H : Hp} {p : Addr} {o : HO} (h : P p) : Keep P H (upd H p o) := fun b u e n => by
  rw [upd_ne fun z => n (by rw [z]; exact h)]
  exact e
theorem same_new {H : Hp} {p : Addr} {o : HO} (h : H p = none) : Same H (upd H p o) := fun b u e => by rw [upd_ne (ne_of_none e h)]; exact e
theorem same_of {H H' : Hp} {p : Addr} {o : HO} (e : upd H p o = H') (h : H p = none) : Same H H' := by rw [← e]; exact same_new h
theorem upd_at {H H' : Hp} {p : Addr} {o : HO} (e : upd H p o = H') : H' p = some o := by rw [← e]; exact upd_same
theorem keep_of {P : Addr → Prop} {H H' : Hp} {p : Addr} {o : HO} (e : upd H p o = H') (h : P p) : Keep P H H' := by rw [← e]; exact Keep.put h
theorem Keep.seq {K : PySem.W.Frag} {P : Addr → Prop} {H H' : Hp} {a : Addr} {xs : List V} (e : Keep P H H') (n : ¬ P a) (h : SqL K H a xs) : SqL K H' a xs := by
  rcases h with (h | ⟨o, h⟩) | h
  · exact .inl (.inl (e _ _ h n))
  · exact .inl (.inr ⟨o, e _ _ h n⟩)
  · exact .inr h
theorem Keep.seqT {K : PySem.W.Frag} {P : Addr → Prop} {H H' : Hp} {a : Addr} {xs : List V} (e : Keep P H H') (n : ¬ P a) (h : SqT K H a xs) : SqT K H' a xs := by
  rcases h with (h | ⟨o, h⟩) | h
  · exact .inl (.inl (e _ _ h n))
  · exact .inl (.inr ⟨o, e _ _ h n⟩)
  · exact .inr h
theorem Same.seqT {K : PySem.W.Frag} {H H' : Hp} {a : Addr} {xs : List V} (e : Same H H') (h : SqT K H a xs) : SqT K H' a xs := by
  rcases h with (h | ⟨o, h⟩) | h
  · exact .inl (.inl (e _ _ h))
  · exact .inl (.inr ⟨o, e _ _ h⟩)
  · exact .inr h
mutual
theorem Dp.same {K : PySem.W.Frag} {H H' : Hp} (e : Same H H') : ∀ {d : PyData} {v : V}, Dp K H v d → Dp K H' v d
  | _, _, .non => .non
  | _, _, .bl b => .bl b
  | _, _, .int i => .int i
  | _, _, .str x => .str x
  | _, _, .lst s a => .lst (e.seq s) (DpAll.same e a)
  | _, _, .tup s a => .tup (Same.seqT e s) (DpAll.same e a)
theorem DpAll.same {K : PySem.W.Frag} {H H' : Hp} (e : Same H H') : ∀ {ds : List PyData} {vs : List V}, DpAll K H vs ds → DpAll K H' vs ds
  | _, _, .nil => .nil
  | _, _, .cons a b => .cons (Dp.same e a) (DpAll.same e b)
end
theorem ty_list {K : PySem.W.Frag} {H : Hp} {a : Addr} {xs : List V} (h : SqL K H a xs) : TyX K H (.ref a) (.type "list") := by
  rcases h with (h | ⟨o, h⟩) | ⟨o, its, n, h, c, _⟩
  · exact .base (.lst h)
  · exact .base (.frz h)
  · exact .kList h c
theorem ty_tup {K : PySem.W.Frag} {H : Hp} {a : Addr} {xs : List V} (h : SqT K H a xs) : TyX K H (.ref a) (.type "tuple") := by
  rcases h with (h | ⟨o, h⟩) | ⟨o, its, n, h, c, _⟩
  · exact .base (.tup h)
  · exact .fTuple h
  · exact .kTuple h c
/-! ### texts by their signs -/
open SX in
theorem S_get {l : List Nat} {j c : Nat} (h : l[j]? = some c) : atI (S l).cps.toList ((j : Nat) : Int) = some c := atI_nat (by simpa [S] using h)
open SX in
theorem S_get' {l : List Nat} {j c : Nat} {z : Int} (e : z = (j : Nat)) (h : l[j]? = some c) : atI (S l).cps.toList z = some c := by
  rw [e]; exact S_get h
theorem line24 : sizeLine = 16777216 := by decide
theorem S_small {l : List Nat} (h : l.length ≤ 16777216) : (SX.S l).length ≤ sizeLine := by rw [SX.S_len, line24]; exact h
theorem cut_S (l : List Nat) (a b : Nat) (hb : b ≤ l.length) : cutS (SX.S l) (some (a : Int)) (some (b : Int)) = SX.S ((l.drop a).take (b - a)) := by
  unfold cutS
  rw [HT.sIx_nat, HT.sIx_nat, SX.S_len, Nat.min_eq_left hb]
  by_cases h : a ≤ l.length
  · rw [Nat.min_eq_left h]
  · rw [Nat.min_eq_right (by omega), List.drop_eq_nil_of_le (show l.length ≤ a by omega), List.drop_eq_nil_of_le (show l.length ≤ l.length by omega)]
    simp
theorem cutS_to (l : List Nat) (b : Nat) (hb : b ≤ l.length) : cutS (SX.S l) none (some (b : Int)) = SX.S (l.take b) := by
  unfold cutS
  rw [HT.sIx_nat, HT.sIx_none, SX.S_len, Nat.min_eq_left hb]
  simp
theorem cutV_from (xs : List V) (a : Nat) : cutV xs (some (a : Int)) none = xs.drop a := by
  unfold cutV
  rw [HT.sIx_nat, HT.sIx_none]
  by_cases h : a ≤ xs.length
  · rw [Nat.min_eq_left h, List.take_of_length_le (by rw [List.length_drop] <;> omega)]
  · rw [Nat.min_eq_right (by omega), List.drop_eq_nil_of_le (show xs.length ≤ xs.length by omega), List.drop_eq_nil_of_le (show xs.length ≤ a by omega)]
    simp
theorem cutV_to (xs : List V) (b : Nat) : cutV xs none (some (b : Int)) = xs.take b := by
  unfold cutV
  rw [HT.sIx_nat, HT.sIx_none]
  by_cases h : b ≤ xs.length
  · rw [Nat.min_eq_left h]; simp
  · rw [Nat.min_eq_right (by omega), List.take_of_length_le (show xs.length ≤ b by omega)]; simp
theorem cutV_mid (xs : List V) (a b : Nat) : cutV xs (some (a : Int)) (some (b : Int)) = (xs.drop a).take (b - a) := by
  unfold cutV
  rw [HT.sIx_nat, HT.sIx_nat]
  by_cases h : a ≤ xs.length
  · by_cases hb : b ≤ xs.length
    · rw [Nat.min_eq_left h, Nat.min_eq_left hb]
    · rw [Nat.min_eq_left h, Nat.min_eq_right (by omega), List.take_of_length_le (by rw [List.length_drop] <;> omega), List.take_of_length_le (by rw [List.length_drop] <;> omega)]
  · rw [Nat.min_eq_right (show xs.length ≤ a by omega), List.drop_eq_nil_of_le (show xs.length ≤ xs.length by omega), List.drop_eq_nil_of_le (show xs.length ≤ a by omega)]
    simp
theorem dec_t {p : Prop} [Decidable p] (h : decide p = true) : p := of_decide_eq_true h
theorem dec_f {p : Prop} [Decidable p] (h : ¬ decide p = true) : ¬ p := fun z => h (decide_eq_true z)
theorem vint {a b : Int} (h : decide (V.int a = V.int b) = true) : a = b := V.int.inj (of_decide_eq_true h)
theorem vintF {a b : Int} (h : ¬ decide (V.int a = V.int b) = true) : a ≠ b := fun z => h (decide_eq_true (by rw [z]))
theorem vstr1 {a : Nat} {l : List Nat} (h : decide (V.str ⟨#[a]⟩ = V.str (SX.S l)) = true) : [a] = l := SX.S_inj (V.str.inj (of_decide_eq_true h) : SX.S [a] = SX.S l)
theorem vstr1F {a : Nat} {l : List Nat} (h : ¬ decide (V.str ⟨#[a]⟩ = V.str (SX.S l)) = true) : [a] ≠ l := fun z => h (decide_eq_true (by rw [← z]))
theorem map_get {α β : Type} {xs : List α} {f : α → β} {i : Nat} {y : β} (h : (xs.map f)[i]? = some y) : ∃ z, xs[i]? = some z ∧ y = f z := by
  rw [List.getElem?_map] at h
  cases e : xs[i]? with
  | none => rw [e] at h; cases h
  | some z => rw [e] at h; exact ⟨z, rfl, (Option.some.inj h).symm⟩
theorem map_put {α β : Type} {xs : List α} {f : α → β} {i : Nat} {z : α} (h : xs[i]? = some z) : (xs.map f)[i]? = some (f z) := by rw [List.getElem?_map, h]; rfl
/-- what holds between two turns, shut for ⟨..⟩ -/
inductive Hold (p : Prop) : Prop where
  | mk (h : p)
  | no (h : False)
theorem Hold.out {p : Prop} : Hold p → p
  | .mk h => h
  | .no h => h.elim
/-! ### walks from 0 on -/
theorem for_range0 {n : Nat} {g : TG} {tb : TS} {D : Ends} {σ : L2.St} {H : Hp} (Pv : Nat → L2.St → Hp → Prop) (h0 : Pv 0 σ H)
    (hs : ∀ (i : Nat) σ H, i < n → Pv i σ H → g (.int (i : Nat)) σ H fun σ2 H2 => tb { D with nx := Pv (i + 1), ct := Pv (i + 1), bk := D.nx } σ2 H2) (hd : ∀ σ H, Pv n σ H → D.nx σ H) :
    ∃ W : Nat → Nat → L2.St → Hp → Prop, (∃ m, W 0 m σ H) ∧ ∀ i m σ H, W i m σ H →
      ((Itr 0 n).stop i H ∧ D.nx σ H) ∨ ((Itr 0 n).go i H ∧ ∃ N : L2.St → Hp → Prop, (∀ σ' H', N σ' H' → ∃ m', m' < m ∧ W (i + 1) m' σ' H') ∧ ∀ x H', (Itr 0 n).yld i H x H' → g x σ H' fun σ2 H2 => tb { D with nx := N, ct := N, bk := D.nx } σ2 H2) :=
  for_range (lo := 0) Pv h0 (fun i σ H hi p => by rw [Int.zero_add]; exact hs i σ H hi p) hd
theorem lc_range0 {n : Nat} {g : TG} {tt : TT} {te : TE} {vs : List Nat} {σ : L2.St} {H1 : Hp} {D : Addr} {Qd : Hp → Prop} (Pv : Nat → Hp → Prop) (h0 : Pv 0 (upd H1 D (.lst [])))
    (hs : ∀ (i : Nat) H, i < n → Pv i H → g (.int (i : Nat)) (wipe σ vs) H fun σ2 H2 => wipe σ2 vs = wipe σ vs ∧ tt σ2 H2 fun b H3 =>
      if b = true then te σ2 H3 fun y H4 => ∃ acc, H4 D = some (.lst acc) ∧ acc.length < sizeLine ∧ Pv (i + 1) (upd H4 D (.lst (acc ++ [y]))) else Pv (i + 1) H3) (hd : ∀ H, Pv n H → Qd H) :
    ∃ W : Nat → Nat → Hp → Prop, (∃ m, W 0 m (upd H1 D (.lst []))) ∧ ∀ i m H, W i m H →
      ((Itr 0 n).stop i H ∧ Qd H) ∨ ((Itr 0 n).go i H ∧ ∃ Nx : Hp → Prop, (∀ H', Nx H' → ∃ m', m' < m ∧ W (i + 1) m' H') ∧ ∀ x H', (Itr 0 n).yld i H x H' → g x (wipe σ vs) H' fun σ2 H2 => wipe σ2 vs = wipe σ vs ∧ tt σ2 H2 fun b H3 =>
        if b = true then te σ2 H3 fun y H4 => ∃ acc, H4 D = some (.lst acc) ∧ acc.length < sizeLine ∧ Nx (upd H4 D (.lst (acc ++ [y]))) else Nx H3) :=
  lc_range (lo := 0) Pv h0 (fun i H hi p => by rw [Int.zero_add]; exact hs i H hi p) hd
/-- len of a text, a list, a tuple; its size is bounded -/
theorem call_lenB {X : Cx} : CallR X (.builtin "len") (fun xs H Q => ∃ x n, xs = [x] ∧ LenV X.K x H n ∧ (n ≤ sizeLine → Q (.int n) H)) := by
  intro pins s σ H xs us Q I r h
  obtain ⟨x, n, rfl, e, q⟩ := h
  have hz : n ≤ sizeLine := by
    cases x with
    | str y => obtain ⟨h1, rfl⟩ := (show y.length ≤ sizeLine ∧ n = y.length from e); exact h1
    | byt y => obtain ⟨h1, rfl⟩ := (show y.size ≤ sizeLine ∧ n = y.size from e); exact h1
    | ref p =>
      rcases (show (∃ xs, SqL X.K H p xs ∧ n = xs.length) ∨ ∃ xs, SqT X.K H p xs ∧ n = xs.length from e) with ⟨xs, h1, rfl⟩ | ⟨xs, h1, rfl⟩
      · obtain ⟨_, _, _, h2⟩ := I.list h1; exact h2
      · obtain ⟨_, _, _, h2⟩ := I.tuple h1; exact h2
    | _ => exact False.elim e
  exact call_len pins s σ H _ us Q I r ⟨x, n, rfl, e, q hz⟩
/-! ### isinstance of data -/
theorem kb_NoneType_bool : kitB "NoneType" "bool" = some false := by decide +kernel
theorem kb_NoneType_int : kitB "NoneType" "int" = some false := by decide +kernel
theorem kb_NoneType_str : kitB "NoneType" "str" = some false := by decide +kernel
theorem kb_NoneType_tuple : kitB "NoneType" "tuple" = some false := by decide +kernel
theorem kb_NoneType_list : kitB "NoneType" "list" = some false := by decide +kernel
theorem kb_bool_bool : kitB "bool" "bool" = some true := by decide +kernel
theorem kb_bool_int : kitB "bool" "int" = some true := by decide +kernel
theorem kb_bool_str : kitB "bool" "str" = some false := by decide +kernel
theorem kb_bool_tuple : kitB "bool" "tuple" = some false := by decide +kernel
theorem kb_bool_list : kitB "bool" "list" = some false := by decide +kernel
theorem kb_int_bool : kitB "int" "bool" = some false := by decide +kernel
theorem kb_int_int : kitB "int" "int" = some true := by decide +kernel
theorem kb_int_str : kitB "int" "str" = some false := by decide +kernel
theorem kb_int_tuple : kitB "int" "tuple" = some false := by decide +kernel
theorem kb_int_list : kitB "int" "list" = some false := by decide +kernel
theorem kb_str_bool : kitB "str" "bool" = some false := by decide +kernel
theorem kb_str_int : kitB "str" "int" = some false := by decide +kernel
theorem kb_str_str : kitB "str" "str" = some true := by decide +kernel
theorem kb_str_tuple : kitB "str" "tuple" = some false := by decide +kernel
theorem kb_str_list : kitB "str" "list" = some false := by decide +kernel
theorem kb_list_bool : kitB "list" "bool" = some false := by decide +kernel
theorem kb_list_int : kitB "list" "int" = some false := by decide +kernel
theorem kb_list_str : kitB "list" "str" = some false := by decide +kernel
theorem kb_list_tuple : kitB "list" "tuple" = some false := by decide +kernel
theorem kb_list_list : kitB "list" "list" = some true := by decide +kernel
theorem kb_tuple_bool : kitB "tuple" "bool" = some false := by decide +kernel
theorem kb_tuple_int : kitB "tuple" "int" = some false := by decide +kernel
theorem kb_tuple_str : kitB "tuple" "str" = some false := by decide +kernel
theorem kb_tuple_tuple : kitB "tuple" "tuple" = some true := by decide +kernel
theorem kb_tuple_list : kitB "tuple" "list" = some false := by decide +kernel
theorem kitLT {K : PySem.W.Frag} {a : String} {r1 r2 : Bool} (h1 : kitB a "list" = some r1) (h2 : kitB a "tuple" = some r2) : PySem.W.kitAny K (.type a) [.type "list", .type "tuple"] = some (r1 || r2) := by
  refine kitAny_cons (kit_ty h1) (fun z => ?_) (fun z => by rw [z]; rfl)
  refine kitAny_cons (kit_ty h2) (fun z2 => ?_) (fun z2 => by rw [z2, Bool.or_true])
  rw [z, z2]; exact kitAny_nil
/-! ### data: how deep; both of the same -/
mutual
def deep : PyData → Nat
  | .list ds => deepAll ds + 1
  | .tuple ds => deepAll ds + 1
  | _ => 0
def deepAll : List PyData → Nat
  | [] => 0
  | d :: ds => max (deep d) (deepAll ds)
end
theorem deepAll_get : ∀ {ds : List PyData} {i : Nat} {d : PyData}, ds[i]? = some d → deep d ≤ deepAll ds
  | [], _, _, h => by simp at h
  | e :: ds, 0, d, h => by
    simp at h; subst h
    unfold deepAll; exact Nat.le_max_left _ _
  | e :: ds, i + 1, d, h => by
    have := deepAll_get (ds := ds) (i := i) (d := d) (by simpa using h)
    unfold deepAll; exact Nat.le_trans this (Nat.le_max_right _ _)
theorem DpAll.get {K : PySem.W.Frag} {H : Hp} : ∀ {vs : List V} {ds : List PyData} {i : Nat} {d : PyData}, DpAll K H vs ds → ds[i]? = some d → ∃ v, vs[i]? = some v ∧ Dp K H v d
  | _, _, _, _, .nil, h => by simp at h
  | _, _, 0, d, .cons a _, h => by simp at h; subst h; exact ⟨_, rfl, a⟩
  | _, _, i + 1, d, .cons _ t, h => by
    obtain ⟨v, h1, h2⟩ := DpAll.get t (i := i) (d := d) (by simpa using h)
    exact ⟨v, by simpa using h1, h2⟩
theorem DpAll.len {K : PySem.W.Frag} {H : Hp} : ∀ {vs : List V} {ds : List PyData}, DpAll K H vs ds → vs.length = ds.length
  | _, _, .nil => rfl
  | _, _, .cons _ t => by simp [DpAll.len t]
theorem DpAll.by {K : PySem.W.Frag} {H : Hp} : ∀ {vs : List V} {ds : List PyData}, vs.length = ds.length → (∀ (i : Nat) (v : V) (d : PyData), vs[i]? = some v → ds[i]? = some d → Dp K H v d) → DpAll K H vs ds
  | [], [], _, _ => .nil
  | [], _ :: _, h, _ => by simp at h
  | _ :: _, [], h, _ => by simp at h
  | v :: vs, d :: ds, h, f => .cons (f 0 v d rfl rfl) (DpAll.by (by simpa using h) fun i v d a b => f (i + 1) v d (by simpa using a) (by simpa using b))
/-- a promise that is never asked -/
theorem kal_none {P : Program} {w : World} {K : PySem.W.Frag} {mg : Str → Option Value} {base : Heap} {x : Str} {st : Stmt} {ps : List Str} (D : DefAt K mg x st) (hb : BindsBy x x st ps) (k : Nat) : Kal P w K mg base CX0 k x ps (fun _ _ _ _ => False) := by
  obtain ⟨f, fd, F, hm⟩ := D.ex
  exact ⟨f, fd, ⟨fun _ _ _ _ h => h.elim, fun _ _ _ _ _ _ _ _ _ _ _ _ _ h => h.elim⟩, hm, F.kp, F.bindsN hb⟩
/-- two values of the same data -/
def spSame (K : PySem.W.Frag) (n : Nat) : Sp := fun vs H Q _ => ∃ (x y : V) (d : PyData), vs = [x, y] ∧ Dp K H x d ∧ Dp K H y d ∧ deep d ≤ n ∧ ∀ H', Same H H' → Q (.bl true) H'
end My


/-! ### a list comprehension that an exception may leave -/
namespace My
open PySem PySem.Spec PyProof.Rows L2
theorem noteFrame_eq {e : Value} {env env' : Env} (h : env.frame = env'.frame) : noteFrame e env = noteFrame e env' := by
  unfold noteFrame PySem.frameOf
  rw [h]
section
variable {X : Cx} {pins : List (Addr × Obj)} {σ : L2.St} {H3 H1 : Hp} {s3 s1 s2 : Shared} {W : WX} {fp : List Addr} {C : Addr} {ce : Env} {e : Value}
theorem comp_air (I3 : Inv X pins σ H3 s3) (hs : X.stack = X.env :: X.outer) (hf : X.env.frame = some X.env.locals) (tk : Takes X W) (f3 : ∀ b ∈ fp, FpOk X pins H3 b)
    (os : s1.os = s3.os) (u : Un (frs X.stack) fp H3 H1 s3.heap s1.heap) (hC : s3.heap.objs.size ≤ C) (nC : H1 C = none) {m : Str → Option Value} (hns : s1.heap.Ns C m) (hcf : ce.frame = X.env.frame) (hcl : ce.locals = C)
    (c : L2.CX X.prog X.w X.stack H1 s1 (WE W σ) e s2) : notedBy (model X.prog X.w) X.A ce (CompFails (model X.prog X.w) X.A X.xe ce) e s2 := by
  obtain ⟨a, B, H', cls, d, rfl, fl, hok, ub, na, os2, ag, w⟩ := c
  have hfr : X.A.frames = some (X.env :: X.outer) := by rw [I3.ok.frames, hs]
  have ltS : ∀ {b o}, s3.heap.get? b = some o → b ≠ C := fun h z => by
    have := Heap.lt_size h
    rw [z] at this
    exact absurd (Nat.lt_of_lt_of_le this hC) (Nat.lt_irrefl _)
  have frS : ∀ b ∈ frs X.stack, ∃ o, s3.heap.get? b = some o ∧ ∀ vs, o.data ≠ .fields vs := fun b hb => by
    obtain ⟨_, o, e, hd⟩ := I3.stack.mem hb
    exact ⟨o, e, hd⟩
  have nCf : C ∉ frs X.stack := fun hm => by
    obtain ⟨o, e, _⟩ := frS C hm
    exact ltS e rfl
  obtain ⟨oC, es, ep, hoC, hrest⟩ := hns
  have bC : B.get? C = some oC := ub.keep C oC hoC nC nCf
  have nC' : H' C = none := ub.free C oC hoC nC
  show wpAny _ X.A (noteFrame (.ref a) ce) _ _ s2
  rw [noteFrame_eq hcf]
  have fl' : HandSPX.FlyingZ B (X.env :: X.outer) a (Zc cls d) s2.heap := by rw [← hs]; exact fl
  refine HandSPX.looks_onZ Zc.steady hfr hf fl' fun h1 hh up1 => ?_
  rw [← hs] at hh
  refine ⟨m, by rw [hcl]; exact ⟨oC, es, ep, hh.1 _ _ bC, hrest⟩, fun h2 m2 hn2 sb => ?_⟩
  rw [hcl] at sb hn2
  obtain ⟨st1, nBa, ff1, oe, vs, T, oT, ts, he, hz, hd, hv1, nBT, hTe, hT, hdT, h3⟩ := hh
  have aC : a ≠ C := fun z => by rw [z, bC] at nBa; cases nBa
  have tC : T ≠ C := fun z => by rw [z, bC] at nBT; cases nBT
  have he2 : h2.get? a = some oe := (sb.2 a aC).trans he
  have hT2 : h2.get? T = some oT := (sb.2 T tC).trans hT
  -- the ground without the block's names
  have g0 : ∀ {b o}, (PySem.W.hideAll B [C]).get? b = some o → B.get? b = some o ∧ b ≠ C := fun {b o} h => by
    refine ⟨PySem.W.of_hideAll _ h, fun z => ?_⟩
    rw [z, PySem.W.hideAll_none [C] (by simp)] at h; cases h
  have g1 : ∀ {b o}, B.get? b = some o → b ≠ C → (PySem.W.hideAll B [C]).get? b = some o := fun h n => PySem.W.hideAll_get [C] h (by simpa using n)
  have gn : ∀ {b}, B.get? b = none → (PySem.W.hideAll B [C]).get? b = none := fun {b} h => by
    cases q : (PySem.W.hideAll B [C]).get? b with
    | none => rfl
    | some o =>
      have := (g0 q).1
      rw [h] at this; cases this
  have st2 : (PySem.W.hideAll B [C]).StaysIn h2 := fun b o h => (sb.2 b (g0 h).2).trans (st1 b o (g0 h).1)
  have ff2 : h2.FunFrames (PySem.W.hideAll B [C]) X.stack := by
    refine funFrames_none (Heap.FunFrames.sameBut sb hn2 ff1) fun L hL => ?_
    obtain ⟨nb, _⟩ := ff1.mem hL
    exact gn nb
  have tr2 : HandSPX.TracedZ h2 (PySem.W.hideAll B [C]) a (Zc cls d) (rawInt X.env.locals) := ⟨oe, vs, T, oT, ts, he2, hz, hd, hv1, gn nBT, hTe, hT2, hdT, h3⟩
  unfold PySem.passOn
  refine wpAny_bind (wpAny_field he2 hd hv1 ?_)
  rw [if_neg (show ¬ ((Value.ref T == Value.none) = true) from by simp)]
  have fin : wpAny (model X.prog X.w) X.A (setFlight (.ref a) ce.frame) (fun _ s4 => wpAny (model X.prog X.w) X.A (throw (.ref a) : Sem Value) (fun _ _ => False) X.xe s4) X.xe { s2 with heap := h2 } := by
    rw [hcf, hf]
    refine HandSPX.setFlight_anyZ (fr := some X.env.locals) st2 ff2 tr2 fun h4 st4 ff4 tr4 up4 => wpAny_throw (tk _ _ ?_)
    -- the state without the exception
    obtain ⟨G, q1, q2⟩ := restrict h4 fun b => ((PySem.W.hideAll B [C]).get? b).isSome || decide (b ∈ frs X.stack)
    have gB : ∀ b o, (PySem.W.hideAll B [C]).get? b = some o → G.get? b = some o := fun b o e => by
      rw [q1 b (by simp [e])]
      exact st4 b o e
    have gF : ∀ b, b ∈ frs X.stack → G.get? b = h4.get? b := fun b hb => q1 b (by simp [hb])
    have og : ∀ b o, G.get? b = some o → h4.get? b = some o ∧ (((PySem.W.hideAll B [C]).get? b).isSome = true ∨ b ∈ frs X.stack) := fun b o e => by
      cases q : (((PySem.W.hideAll B [C]).get? b).isSome || decide (b ∈ frs X.stack)) with
      | false => rw [q2 b q] at e; cases e
      | true =>
        rw [q1 b q] at e
        exact ⟨e, by simpa [Bool.or_eq_true] using q⟩
    have nfp : ∀ b ∈ frs X.stack, b ∉ fp := fun b hb hm => by
      rcases List.mem_cons.mp (I3.stkSub b hb) with z | z
      · exact (f3 b hm).2.1 z
      · exact (f3 b hm).2.2.1 z
    have fr4 : ∀ b o, b ∈ frs X.stack → s3.heap.get? b = some o → ∃ sl, G.get? b = some { o with slots := sl } := fun b o hb e => by
      obtain ⟨o', e', hnf⟩ := frS b hb
      rw [e] at e'; cases e'
      have nb : b ≠ C := fun z => nCf (z ▸ hb)
      obtain ⟨sl1, e1⟩ := u.slot b o e (I3.stkFree b hb) hb (nfp b hb)
      obtain ⟨sl2, e2⟩ := ub.slot b _ e1 hb
      obtain ⟨sl3, e3⟩ := up1 b _ e2 hnf
      obtain ⟨sl4, e4⟩ := up4 b _ ((sb.2 b nb).trans e3) hnf
      exact ⟨sl4, by rw [gF b hb]; exact e4⟩
    have hokB : HOk X.prog X.w H' (PySem.W.hideAll B [C]) := fun b o q => (hok b o q).stay (fun c v hc r => g1 r fun z => by
      rcases hc with hc | hc
      · rw [← hc, z, nC'] at q; cases q
      · rw [z, nC'] at hc; cases hc) (fun _ r => r) fun _ _ r => r
    refine ⟨a, PySem.W.hideAll B [C], { s3 with heap := G, gens := s2.gens, drawn := s2.drawn, toks := s2.toks }, pins, σ, H', cls, d, rfl, ?_, fun b o e hb => ?_, Heap.UpToSlots.of_keeps fun b o e => (og b o e).1, .inr (.inr ⟨st4, gn nBa, ff4, tr4⟩), na, os2.trans os, ag, w⟩
    · refine I3.call (ch := fp) ⟨fun b o e n hb hx => ?_, fun b o e n hb hx => fr4 b o hb e, fun b o e n hx => ?_, fun b o e hx => ?_, fun b xs e => ub.tups _ _ (u.tups _ _ e), fun b o v e => ub.frzs _ _ _ (u.frzs _ _ _ e), fun b ps e => ?_⟩ (hokB.kept gB) ag fun b hb => ⟨(f3 b hb).2.2.2.1, (f3 b hb).2.1, (f3 b hb).2.2.2.2.1, (f3 b hb).2.2.2.2.2⟩
      · exact gB b o (g1 (ub.keep b o (u.keep b o e n hb hx) (u.free b o e n hx) hb) (ltS e))
      · have e1 := u.any e n hx
        obtain ⟨sl, e1⟩ := e1
        exact ub.free b _ e1 (u.free b o e n hx)
      · by_cases hb : b ∈ frs X.stack
        · obtain ⟨sl, q⟩ := fr4 b o hb e
          exact ⟨_, q⟩
        · obtain ⟨o1, e1⟩ := u.there b o e hx
          obtain ⟨o2, e2⟩ := ub.there b o1 e1 hb
          exact ⟨o2, gB b o2 (g1 e2 (ltS e))⟩
      · obtain ⟨m1, e1⟩ := u.tbls b ps e
        obtain ⟨m2, e2⟩ := ub.tbls b _ e1
        exact ⟨m1 ++ m2, by rw [e2, Array.append_assoc]⟩
    · obtain ⟨e', h⟩ := og b o e
      rcases h with h | h
      · obtain ⟨o', q⟩ := Option.isSome_iff_exists.mp h
        have z := st4 b o' q
        rw [e'] at z; cases z
        exact q
      · exact absurd h hb
  first
    | exact wpAny_bind (wpAny_pure (wpAny_bind fin))
    | exact wpAny_bind fin
/-- the block's context, with a wish of its own -/
abbrev blkX (X : Cx) (s : Shared) (H : Hp) (scope : Scope) (cenv : Env) (fp : List Addr) (xe : Value → Shared → Prop) : Cx := (X.blk s H scope cenv fp).wish xe
/-- [elt for target in iter if ..] whose element may raise; the element's reading knows the slots of the def -/
def tLcX (wi : TI) (g : TG) (tt : TT) (te : L2.St → TE) (vs : List Nat) : TE := fun σ H Q => tLc wi g tt (te σ) vs σ H Q
theorem pe_lcX {elt tg iter : Expr} {ifs : List Expr} {scope : Scope} {own : List (Str × Nat)} {pos : Pos} {wi : TI} {g : TG} {tt : TT} {te : L2.St → TE} (hc : X.calm = true) (hN : X.N.Nodup) (hs : X.stack = X.env :: X.outer) (hf : X.env.frame = some X.env.locals) (tk : Takes X W) (hi : PI X tg iter wi) (ok : BlkOk X.N X.env.scope scope own)
    (hg : ∀ (s : Shared) (H : Hp) (C : Addr) (cl : List (Str × Addr)) (fp : List Addr) (xe : Value → Shared → Prop), PG (blkX X s H scope (compEnvC scope cl C X.env) fp xe) tg g)
    (ht : ∀ (s : Shared) (H : Hp) (C : Addr) (cl : List (Str × Addr)) (fp : List Addr) (xe : Value → Shared → Prop), PTs (blkX X s H scope (compEnvC scope cl C X.env) fp xe) ifs tt)
    (he : ∀ (σ0 : L2.St) (s : Shared) (H : Hp) (C : Addr) (cl : List (Str × Addr)) (fp : List Addr) (xe : Value → Shared → Prop), (∀ σ', PassesAt (L2.CX X.prog X.w) (blkX X s H scope (compEnvC scope cl C X.env) fp xe) σ' (WE W σ0)) → PE (blkX X s H scope (compEnvC scope cl C X.env) fp xe) elt (te σ0))
    (hfs : ∀ x, foldedSetIterable iter X.env x = pure x := by intro _; rfl) : PE X (.ListComp elt [⟨tg, iter, ifs, 0⟩] scope pos) (tLcX wi g tt te (own.map (·.2))) := by
  refine ⟨fun pins s σ H Q I h => ?_⟩
  have h : tLc wi g tt (te σ) (own.map (·.2)) σ H Q := h
  rw [eval_ListComp]
  have hfree : ∀ y ∈ scope.names, y.2 = .free → ∃ c, X.env.cells.lookup y.1 = some c := fun y hy e => (ok.free y hy e).elim (fun k => I.ok.has _ (.inl k)) fun k => I.ok.has _ (.inr k)
  refine comprehension_at (use := none) rfl hfs (closure_ok hfree) ok.kind (fun y hy e => by rw [ok.uniq y hy, e]) (thn (hi.run pins s σ H _ I h) fun xv s1 hx => thn hx fun itv s2 h2 => ?_)
  obtain ⟨it, fp, tn, J, H2, e, I2, T, stn, f2, q⟩ := h2
  subst e
  refine wpAny_newObj_type (newEnv_comp ?_) (by show 0 ≤ sizeLine; decide)
  obtain ⟨D, hD⟩ : ∃ D, s2.heap.objs.size = D := ⟨_, rfl⟩
  have hDn : H2 D = none := I2.hok.fresh (Nat.le_of_eq hD)
  obtain ⟨Wd, ⟨m0, w0⟩, turn⟩ := q D hDn
  rw [hD]
  generalize hs3 : ({ s2 with heap := s2.heap.push { cls := .type "list", data := .seq ([] : List Value).toArray } } : Shared) = s3
  have h3 : s3.heap = s2.heap.push { cls := .type "list", data := .seq ([] : List Value).toArray } := by rw [← hs3]
  have old3 : ∀ b o, s2.heap.get? b = some o → s3.heap.get? b = some o := fun b o e => by rw [h3]; exact Heap.get?_push_of_some _ e
  have I3 : Inv X pins σ (upd H2 D (.lst [])) s3 := by
    rw [← hs3]
    refine I2.laid (t' := s2.toks) (fun b o e => Heap.get?_push_of_some _ e) (Nat.le_of_eq hD) ⟨Nat.zero_le _, [], 0, .nil, ?_⟩
    rw [← hD]
    exact Heap.get?_push_size _ rfl
  have f3 : ∀ b ∈ fp, FpOk X pins (upd H2 D (.lst [])) b ∧ b < s3.heap.objs.size := fun b hb => by
    obtain ⟨o, e, _⟩ := T.obj _ _ stn b hb
    have lt := Heap.lt_size e
    refine ⟨⟨?_, (f2 b hb).2⟩, by rw [h3, Heap.size_push]; exact Nat.lt_succ_of_lt lt⟩
    rw [upd_ne (by rw [← hD]; exact Nat.ne_of_lt lt)]
    exact (f2 b hb).1
  have st3 : tn 0 s3.heap := T.keep _ _ _ stn fun b _ o e => old3 b o e
  show codeAny _ _ (.compStart _ 0 (.ref it) (.ref D) (compEnvC scope (cellsFrom (s3.heap.objs.size + 1) scope.names (cloFrom X.env.cells scope.names [])) s3.heap.objs.size X.env)) (compEnds (model X.prog X.w) X.A X.xe none (EP X pins σ Q) (.ref D) (compEnvC scope (cellsFrom (s3.heap.objs.size + 1) scope.names (cloFrom X.env.cells scope.names [])) s3.heap.objs.size X.env)) { s3 with heap := pushCells (s3.heap.push { cls := .type "dict", data := .dict #[] }) scope.names }
  have pg := fun xe => hg s3 (upd H2 D (.lst [])) s3.heap.objs.size (cellsFrom (s3.heap.objs.size + 1) scope.names (cloFrom X.env.cells scope.names [])) fp xe
  have pt := fun xe => ht s3 (upd H2 D (.lst [])) s3.heap.objs.size (cellsFrom (s3.heap.objs.size + 1) scope.names (cloFrom X.env.cells scope.names [])) fp xe
  have pe := fun xe => he σ s3 (upd H2 D (.lst [])) s3.heap.objs.size (cellsFrom (s3.heap.objs.size + 1) scope.names (cloFrom X.env.cells scope.names [])) fp xe
  have I4' := block_start I3 ok hN f3
  generalize hce : compEnvC scope (cellsFrom (s3.heap.objs.size + 1) scope.names (cloFrom X.env.cells scope.names [])) s3.heap.objs.size X.env = ce at pg pt pe I4' ⊢
  have cL : ce.locals = s3.heap.objs.size := by rw [← hce]; rfl
  have cF : ce.frame = X.env.frame := by rw [← hce]; rfl
  generalize hH3 : upd H2 D (.lst []) = H3 at I3 I4' pg pt pe w0 f3
  have nCx : ∀ {xe : Value → Shared → Prop} {pins' σ' H' s'}, Inv (blkX X s3 H3 scope ce fp xe) pins' σ' H' s' → H' s3.heap.objs.size = none ∧ ∃ m, s'.heap.Ns s3.heap.objs.size m := fun {xe pins' σ' H' s'} I' => by
    have z : H' ce.locals = none := I'.free
    obtain ⟨m, hn, _⟩ := I'.loc
    have hn : s'.heap.Ns ce.locals m := hn
    rw [cL] at z hn
    exact ⟨z, m, hn⟩
  have air : ∀ σ', PassesAt (L2.CX X.prog X.w) (blkX X s3 H3 scope ce fp (notedBy (model X.prog X.w) X.A ce (CompFails (model X.prog X.w) X.A X.xe ce))) σ' (WE W σ) := fun σ' pins' H1 s1 e s' I1 c => by
    obtain ⟨n1, m, hn⟩ := nCx I1
    exact comp_air I3 hs hf tk (fun b hb => (f3 b hb).1) I1.os I1.base (Nat.le_refl _) n1 hn cF cL c
  generalize hxe : notedBy (model X.prog X.w) X.A ce (CompFails (model X.prog X.w) X.A X.xe ce) = xe at air
  have pg := pg xe
  have pt := pt xe
  have pe := pe xe air
  have I4 := I4'.wish xe
  generalize hs4 : ({ s3 with heap := pushCells (s3.heap.push { cls := .type "dict", data := .dict #[] }) scope.names } : Shared) = s4 at I4 ⊢
  have st4 : tn 0 s4.heap := T.keep _ _ _ st3 fun b _ o e => by rw [← hs4]; exact pushCells_keeps _ _ _ _ (Heap.get?_push_of_some _ e)
  have nfp : ∀ b ∈ fp, H3 b = none := fun b hb => (f3 b hb).1.1
  have stat : ∀ {σ' : L2.St} {H' : Hp} {s' : Shared}, Inv (blkX X s3 H3 scope ce fp xe) [] σ' H' s' → (∀ b ∈ fp, H' b = none) → ∀ b ∈ fp, FpOk (blkX X s3 H3 scope ce fp xe) [] H' b := fun {σ' H' s'} I' hn b hb =>
    ⟨hn b hb, (I'.ok.exf b hb).1, I'.ok.exfs b hb, .inl hb, fun x c e => (I'.ok.exf b hb).2 x c e, fun p hp => absurd (show p ∈ ([] : List (Addr × Obj)) ++ [] from hp) (by simp)⟩
  have loop : codeAny (model X.prog X.w) X.A (.compLoop (.ListComp elt [⟨tg, iter, ifs, 0⟩] scope pos) 0 (.ref it) (.ref D) ce) (compEnds (model X.prog X.w) X.A X.xe none (EP X pins σ Q) (.ref D) ce) s4 := by
    refine compLoop_any (fun n s' => ∃ i H', Inv (blkX X s3 H3 scope ce fp xe) [] (wipe σ (own.map (·.2))) H' s' ∧ tn i s'.heap ∧ (∀ b ∈ fp, H' b = none) ∧ Wd i n H') ?_ m0 ⟨0, H3, I4, st4, nfp, w0⟩
    rintro n s5 ⟨i, H5, I5, st5, n5, w5⟩
    have toE : ∀ e s', xe e s' → notedBy (model X.prog X.w) X.A ce (fun e s' => compEnds (model X.prog X.w) X.A X.xe none (EP X pins σ Q) (.ref D) ce (.error e) s') e s' := fun e s' h => by rw [← hxe] at h; exact h
    rcases turn i n H5 w5 with ⟨stop, qq⟩ | ⟨go, Nx, hNx, step⟩
    · refine thnF (T.done (blkX X s3 H3 scope ce fp xe) rfl rfl rfl hc i [] s5 _ H5 (fun _ _ => False) I5 (stat I5 n5) st5 stop) fun r s6 ⟨hr, I6⟩ => ?_
      subst hr
      have I7 : Inv X pins σ H5 s6 := I3.call' (ch := fp) I6.os I6.base I6.hok I6.bare fun b hb => ⟨(f3 b hb).1.2.2.2.1, (f3 b hb).1.2.1, (f3 b hb).1.2.2.2.2.1, (f3 b hb).1.2.2.2.2.2⟩
      obtain ⟨nC, m, hn⟩ := nCx I6
      refine ⟨m, by rw [cL]; exact hn, fun h'' sb => ?_⟩
      rw [cL] at sb
      obtain ⟨g0, g1, g2, g3, g4, g5⟩ := I3.fpOk (Nat.le_refl _) nC
      exact ⟨.ref D, H5, I7.turned (t' := s6.toks) (fun b o hb e => (sb.2 b hb).trans e) g0 g1 g3 g4 g5, rfl, qq⟩
    · refine thnF (T.item (blkX X s3 H3 scope ce fp xe) rfl rfl rfl hc i [] s5 _ H5 (fun _ _ => False) I5 (stat I5 n5) st5 go) fun r s6 ⟨v, hr, h6⟩ => ?_
      subst hr
      refine thnF h6 fun _ s7 ⟨x, H7, I7, r7, y7, st7, n7⟩ => ?_
      have I7' := I7.pinned (stat I7 n7) (T.obj _ _ st7)
      refine wpAny_mono (pg.run _ s7 _ H7 x v _ I7' r7 (step x H7 y7)) (fun _ s8 ⟨σ8, H8, I8, hw8, q8⟩ => ?_) toE
      refine wpAny_mono (pt.run _ s8 σ8 H8 _ I8 q8) (fun b s9 ⟨H9, I9, q9⟩ => ?_) toE
      have fin : ∀ {s' : Shared} {H' : Hp}, Inv (blkX X s3 H3 scope ce fp xe) ([] ++ pinsAt fp s7.heap) σ8 H' s' → Nx H' → ∃ m, m < n ∧ ∃ i H', Inv (blkX X s3 H3 scope ce fp xe) [] (wipe σ (own.map (·.2))) H' s' ∧ tn i s'.heap ∧ (∀ b ∈ fp, H' b = none) ∧ Wd i m H' := fun {s' H'} I' nx => by
        obtain ⟨m', hm, w'⟩ := hNx H' nx
        have pin' : ∀ b ∈ fp, ∀ o, s7.heap.get? b = some o → s'.heap.get? b = some o ∧ H' b = none := fun b hb o e =>
          let z := I'.pin (b, o) (List.mem_append_right _ (List.mem_append_right _ (mem_pinsAt hb e)))
          ⟨z.1, z.2.1⟩
        have hl : (wipe σ (own.map (·.2))).length = σ8.length := by rw [← hw8, wipe_length]
        refine ⟨m', hm, i + 1, H', (I'.unpinned (pins := [])).weak hl (fun j v e => ?_), T.keep _ _ _ st7 fun b hb o e => (pin' b hb o e).1, fun b hb => ?_, w'⟩
        · rw [← hw8] at e
          exact (wipe_some e).1
        · obtain ⟨o, e, _⟩ := T.obj _ _ st7 b hb
          exact (pin' b hb o e).2
      cases b with
      | false =>
        simp only [Bool.false_eq_true, if_false] at q9 ⊢
        exact fin I9 q9
      | true =>
        simp only [if_true] at q9 ⊢
        refine wpAny_mono (pe.run _ s9 σ8 H9 _ I9 q9) (fun z s10 ⟨yv, H10, I10, r10, acc, hD10, hz10, nx⟩ => ?_) toE
        exact app_ok (X := blkX X s3 H3 scope ce fp xe) I10 hD10 hz10 r10 fun s11 I11 => fin I11 nx
  exact codeAny_compStart_list loop (T.self X.A 0 _ _ _ st4 loop)
end
section
variable {X : Cx} {k j : Nat} {x m : Str} {p pos apos : Pos} {e o : Expr} {es : List Expr} {t : TA} {ta : TE} {ps : List Str} {sp : Sp} {C : Addr} {E : L2.St → XK}
/-- a method that may raise, called where the raised is taken as PassesAt tells (a block's element) -/
theorem pe_kmetP {pl : Sem Bool} (c : KMet X.prog X.w X.K X.mg X.base (L2.CX X.prog X.w) k C m ps sp) (hr : Room j X.A) (hk : k ≤ j) (hx : ∀ σ, PassesAt (L2.CX X.prog X.w) X σ (E σ)) (ho : PE X o ta) (ha : PA X (e :: es) t)
    (hst : starEach (e :: es) X.env = (false, eval e X.env) :: starEach es X.env := by rfl) (hpl : (backTo pos (starEach es X.env)).any (·.1) = false := by rfl)
    (ht : eval (.Call (.Attribute o m apos) (e :: es) [] pos) X.env = (do
      let ov ← eval o X.env
      standAt apos.atName
      let (f, first) ← holding [ov] (getMethod ov m pl)
      callWith pos f first (backTo pos (starEach (e :: es) X.env)) (backToKw pos (keywordEach [] X.env))) := by rfl) :
    PE X (.Call (.Attribute o m apos) (e :: es) [] pos) (tMethX C m sp E ta t) := by
  obtain ⟨f, fd, F, c, hm, hb⟩ := c.ex
  refine ⟨fun pins s σ H Q I h => ?_⟩
  refine PySem.W.methodCall_KW (pl := pl) (thn (ho.run pins s σ H _ I h) fun u s1 ⟨x, H1, I1, rx, a, dx, fs, ex, ea, l, q⟩ => ?_) ht
  subst ex
  obtain rfl : u = Value.ref a := rx
  refine getmeth_ok I1 ea c hm l ?_
  refine PySem.W.callWith_K (first := [.ref a]) (h₀ := X.base) I.ok.mod.kin hm.kp (thn (ha.run pos pins s1 σ H1 _ I1 q) fun us s2 ⟨vs, H2, I2, r, q2⟩ => ⟨I2.kIn, ?_⟩) hst hpl
  exact run_fnS (us := .ref a :: us) (vs := .ref a :: vs) F (hr.mono hk) hb (hx σ) I2 (.cons rfl r) q2
theorem pe_kmetP0 {pl : Sem Bool} (c : KMet X.prog X.w X.K X.mg X.base (L2.CX X.prog X.w) k C m ps sp) (hr : Room j X.A) (hk : k ≤ j) (hx : ∀ σ, PassesAt (L2.CX X.prog X.w) X σ (E σ)) (ho : PE X o ta)
    (ht : eval (.Call (.Attribute o m apos) [] [] pos) X.env = (do
      let ov ← eval o X.env
      standAt apos.atName
      let (f, first) ← holding [ov] (getMethod ov m pl)
      callWith pos f first (backTo pos (starEach [] X.env)) (backToKw pos (keywordEach [] X.env))) := by rfl) :
    PE X (.Call (.Attribute o m apos) [] [] pos) (tMethX C m sp E ta tNil) := by
  obtain ⟨f, fd, F, c, hm, hb⟩ := c.ex
  refine ⟨fun pins s σ H Q I h => ?_⟩
  refine PySem.W.methodCall_KW (pl := pl) (thn (ho.run pins s σ H _ I h) fun u s1 ⟨x, H1, I1, rx, a, dx, fs, ex, ea, l, q⟩ => ?_) ht
  subst ex
  obtain rfl : u = Value.ref a := rx
  refine getmeth_ok I1 ea c hm l ?_
  refine PySem.W.callWith_K0 (first := [.ref a]) I1.kIn hm.kp ?_
  exact run_fnS (us := [.ref a]) (vs := [.ref a]) F (hr.mono hk) hb (hx σ) I1 (.cons rfl .nil) q
end
theorem ix_listK {X : Cx} {K : PySem.W.Frag} (e : X.K = K) : IxR X (rIxL K) := e ▸ ix_list
theorem ix_tupK {X : Cx} {K : PySem.W.Frag} (e : X.K = K) : IxR X (rIxT K) := e ▸ ix_tup
/-- a module's text -/
theorem pe_gstr {X : Cx} {x : Str} {pos : Pos} {i : Str} (hg : Gl X x) (hm : ∃ t, X.mg x = some (.str i t)) (hd : (x == ("__debug__" : Str)) = false := by decide) : PE X (.Name x pos) (tC (.str i)) := by
  obtain ⟨t, e⟩ := hm
  exact pe_glob hg e ⟨t, rfl⟩ hd
end My
local macro_rules | `(tactic| walk_at "cond") => `(tactic| first
  | omega
  | decide
  | (dsimp only; omega)
  | (refine ⟨?_, ?_⟩ <;> first | omega | decide | (dsimp only; omega))
  | (refine ⟨?_, ?_, ?_⟩ <;> first | omega | decide | (dsimp only; omega))
  | (refine Or.inl ⟨?_, ?_⟩ <;> first | omega | decide | (dsimp only; omega))
  | (refine Or.inr ⟨?_, ?_⟩ <;> first | omega | decide | (dsimp only; omega))
  | assumption)
-- a list's item, the list told by a fact H p = some (.lst ..)
local macro_rules | `(tactic| walk_at "ixl") => `(tactic| ((first
  | refine' ⟨_, _, _, _, rfl, rfl, L2.SqL.of L2.upd_same, ?ati, ?rest⟩
  | refine' ⟨_, _, _, _, rfl, rfl, L2.SqL.of (by assumption), ?ati, ?rest⟩
  | refine' ⟨_, _, _, _, rfl, rfl, (by assumption), ?ati, ?rest⟩); (case ati => first | rfl | assumption | exact L2.atI_nat (by assumption))))
local macro_rules | `(tactic| walk_at "len") => `(tactic| first
  | refine ⟨_, _, rfl, Or.inl (L2.SqL.of L2.upd_same), ?_⟩
  | refine ⟨_, _, rfl, Or.inl (L2.SqL.of (by assumption)), ?_⟩
  | refine ⟨_, _, rfl, Or.inl (by assumption), ?_⟩)
-- a list's item stored
local macro_rules | `(tactic| walk_at "setl") => `(tactic| ((first
  | refine' ⟨_, _, _, _, rfl, rfl, L2.upd_same, ?ix, ?rest⟩
  | refine' ⟨_, _, _, _, rfl, rfl, (by assumption), ?ix, ?rest⟩); (case ix => first | rfl | assumption)))
local macro_rules | `(tactic| walk_at "op") => `(tactic| (refine' ⟨_, _, rfl, rfl, ?c, ?rest⟩; (case c => (show (_ : Prop); walk_at "cond"))))
-- a sign of a text
local macro_rules | `(tactic| walk_at "ixs") => `(tactic| (refine' ⟨_, _, _, rfl, rfl, ?sz, ?ati, ?rest⟩; (case sz => first | assumption | exact My.S_small (by omega)); (case ati => first | assumption | exact My.S_get (by assumption))))
local macro_rules | `(tactic| walk_at "go") => `(tactic| repeat first
  | refine ⟨_, rfl, ?_⟩
  | walk_at "ixl"
  | walk_at "ixs"
  | walk_at "setl"
  | walk_at "len"
  | refine ⟨_, _, rfl, Or.inl ⟨_, (by assumption), rfl⟩, fun _ => ?_⟩
  | refine ⟨_, _, rfl, Or.inr ⟨_, (by assumption), rfl⟩, fun _ => ?_⟩
  | walk_at "isi"
  | walk_at "op"
  | refine ⟨_, _, rfl, rfl, ?_⟩
  | refine ⟨Or.inl ⟨rfl, _, L2.SqL.of L2.upd_same⟩, ?_⟩
  | refine ⟨Or.inl ⟨rfl, _, L2.SqL.of (by assumption)⟩, ?_⟩
  | refine Or.inl ⟨_, rfl, ?_⟩
  | refine ⟨rfl, ?_⟩)
-- xs.append(e), behind its argument
local macro_rules | `(tactic| walk_at "app") => `(tactic| first
  | refine ⟨_, _, _, rfl, rfl, L2.upd_same, ?_, ?_⟩
  | refine ⟨_, _, _, rfl, rfl, (by assumption), ?_, ?_⟩)
-- isinstance(x, T)
local macro_rules | `(tactic| walk_at "kb") => `(tactic| first | exact My.kb_NoneType_bool | exact My.kb_NoneType_int | exact My.kb_NoneType_str | exact My.kb_NoneType_tuple | exact My.kb_NoneType_list | exact My.kb_bool_bool | exact My.kb_bool_int | exact My.kb_bool_str | exact My.kb_bool_tuple | exact My.kb_bool_list | exact My.kb_int_bool | exact My.kb_int_int | exact My.kb_int_str | exact My.kb_int_tuple | exact My.kb_int_list | exact My.kb_str_bool | exact My.kb_str_int | exact My.kb_str_str | exact My.kb_str_tuple | exact My.kb_str_list | exact My.kb_list_bool | exact My.kb_list_int | exact My.kb_list_str | exact My.kb_list_tuple | exact My.kb_list_list | exact My.kb_tuple_bool | exact My.kb_tuple_int | exact My.kb_tuple_str | exact My.kb_tuple_tuple | exact My.kb_tuple_list)
local macro_rules | `(tactic| walk_at "isi") => `(tactic| first
  | refine ⟨_, _, _, _, _, rfl, L2.ClsV.ty _, L2.TyX.base L2.TyOf.non, L2.kit_ty (by walk_at "kb"), ?_⟩
  | refine ⟨_, _, _, _, _, rfl, L2.ClsV.ty _, L2.TyX.base (L2.TyOf.bl _), L2.kit_ty (by walk_at "kb"), ?_⟩
  | refine ⟨_, _, _, _, _, rfl, L2.ClsV.ty _, L2.TyX.base (L2.TyOf.int _), L2.kit_ty (by walk_at "kb"), ?_⟩
  | refine ⟨_, _, _, _, _, rfl, L2.ClsV.ty _, L2.TyX.base (L2.TyOf.str _), L2.kit_ty (by walk_at "kb"), ?_⟩
  | refine ⟨_, _, _, _, _, rfl, L2.ClsV.ty _, My.ty_list (by assumption), L2.kit_ty (by walk_at "kb"), ?_⟩
  | refine ⟨_, _, _, _, _, rfl, L2.ClsV.ty _, My.ty_tup (by assumption), L2.kit_ty (by walk_at "kb"), ?_⟩)

namespace Mk12
/-- a number's bytes -/
def num (n : Nat) : List Nat := if h : n < 128 then [n] else (n % 128 + 128) :: num (n / 128)
decreasing_by omega
theorem num_lo {n : Nat} (h : n < 128) : num n = [n] := by rw [num, dif_pos h]
theorem num_hi {n : Nat} (h : ¬ n < 128) : num n = (n % 128 + 128) :: num (n / 128) := by rw [num, dif_neg h]
theorem num_shape (n : Nat) : ∃ cs d, num n = cs ++ [d] ∧ (∀ c ∈ cs, 128 ≤ c) ∧ d < 128 := by
  induction n using Nat.strongRecOn with
  | _ n ih =>
    by_cases h : n < 128
    · exact ⟨[], n, num_lo h, by simp, h⟩
    · obtain ⟨cs, d, e, h1, h2⟩ := ih (n / 128) (by omega)
      refine ⟨(n % 128 + 128) :: cs, d, by rw [num_hi h, e]; rfl, fun c m => ?_, h2⟩
      rcases List.mem_cons.mp m with rfl | m
      · omega
      · exact h1 c m
theorem num_len {n : Nat} (h : n < 2097152) : (num n).length ≤ 3 := by
  by_cases h1 : n < 128
  · rw [num_lo h1]; simp
  · rw [num_hi h1]
    by_cases h2 : n / 128 < 128
    · rw [num_lo h2]; simp
    · rw [num_hi h2, num_lo (by omega)]; simp
theorem num_pos (n : Nat) : 0 < (num n).length := by
  obtain ⟨cs, d, e, _⟩ := num_shape n
  rw [e]; simp
theorem num_byte (n : Nat) : ∀ c ∈ num n, c < 256 := by
  induction n using Nat.strongRecOn with
  | _ n ih =>
    by_cases h : n < 128
    · rw [num_lo h]; intro c m; simp at m; omega
    · rw [num_hi h]
      intro c m
      rcases List.mem_cons.mp m with rfl | m
      · omega
      · exact ih (n / 128) (by omega) c m
/-- what is read: the number, how many bytes; i bytes before -/
def pnum : Nat → List Nat → Option (Nat × Nat)
  | _, [] => none
  | i, b :: t => if b < 128 then (if b = 0 ∧ 0 < i then none else some (b, 1)) else (pnum (i + 1) t).map fun q => (b % 128 + 128 * q.1, q.2 + 1)
theorem pnum_num : ∀ (n i : Nat) (rest : List Nat), (i = 0 ∨ 0 < n) → pnum i (num n ++ rest) = some (n, (num n).length) := by
  intro n
  induction n using Nat.strongRecOn with
  | _ n ih =>
    intro i rest hi
    by_cases h : n < 128
    · rw [num_lo h]
      show (if n < 128 then (if n = 0 ∧ 0 < i then none else some (n, 1)) else _) = _
      rw [if_pos h, if_neg (by omega)]; rfl
    · rw [num_hi h]
      show (if n % 128 + 128 < 128 then _ else (pnum (i + 1) (num (n / 128) ++ rest)).map _) = _
      rw [if_neg (by omega), ih (n / 128) (by omega) (i + 1) rest (.inr (by omega))]
      simp only [Option.map_some, List.length_cons]
      congr 2
      omega
theorem pnum_open : ∀ (cs : List Nat) (i : Nat), (∀ c ∈ cs, 128 ≤ c) → pnum i cs = none
  | [], _, _ => rfl
  | c :: cs, i, h => by
    have := h c (by simp)
    show (if c < 128 then _ else (pnum (i + 1) cs).map _) = _
    rw [if_neg (by omega), pnum_open cs (i + 1) fun d m => h d (by simp [m])]; rfl
theorem pnum_needless : ∀ (cs : List Nat) (i : Nat) (rest : List Nat), (∀ c ∈ cs, 128 ≤ c) → 0 < i + cs.length → pnum i (cs ++ 0 :: rest) = none
  | [], i, rest, _, p => by
    show (if 0 < 128 then (if 0 = 0 ∧ 0 < i then none else _) else _) = _
    rw [if_pos (by decide), if_pos ⟨rfl, by simpa using p⟩]
  | c :: cs, i, rest, h, p => by
    have := h c (by simp)
    show (if c < 128 then _ else (pnum (i + 1) (cs ++ 0 :: rest)).map _) = _
    rw [if_neg (by omega), pnum_needless cs (i + 1) rest (fun d m => h d (by simp [m])) (by omega)]; rfl
theorem pnum_le : ∀ (l : List Nat) (i v k : Nat), pnum i l = some (v, k) → 0 < k ∧ k ≤ l.length
  | [], _, _, _, h => by cases h
  | b :: t, i, v, k, h => by
    unfold pnum at h
    split at h
    · split at h
      · cases h
      · cases h; simp
    · cases e : pnum (i + 1) t with
      | none => rw [e] at h; cases h
      | some q =>
        obtain ⟨v', k'⟩ := q
        rw [e] at h
        cases h
        have := pnum_le t (i + 1) v' k' e
        simp; omega
/-! ### the readers as plain parsers: of the bytes l, from the place i on -/
def pByte (l : List Nat) (i : Nat) : Option (Nat × Nat) := (l[i]?).map fun b => (b, i + 1)
def pNum (l : List Nat) (i : Nat) : Option (Nat × Nat) := (pnum 0 ((l.drop i).take 60)).map fun q => (q.1, i + q.2)
def pChoice (c : Nat) (l : List Nat) (i : Nat) : Option (Nat × Nat) := (pByte l i).bind fun q => if q.1 < c then some q else none
def pCount (l : List Nat) (i : Nat) : Option (Nat × Nat) := (pNum l i).bind fun q => if q.1 + q.2 ≤ l.length then some q else none
def pMark (l : List Nat) (i : Nat) : Option ((Nat × Nat) × Nat) := (pNum l i).bind fun a => (pNum l a.2).map fun b => ((a.1, b.1), b.2)
/-- the signs that a text may have -/
def okSign (c : Nat) : Prop := c = 10 ∨ (32 ≤ c ∧ c < 37) ∨ (38 ≤ c ∧ c < 127)
instance (c : Nat) : Decidable (okSign c) := by unfold okSign; infer_instance
def pChar (l : List Nat) (i : Nat) : Option (Nat × Nat) := (pNum l i).bind fun q => if okSign q.1 then some q else none
/-- n things, one after the other -/
def pRep {α : Type} (p : List Nat → Nat → Option (α × Nat)) : Nat → List Nat → Nat → Option (List α × Nat)
  | 0, _, i => some ([], i)
  | n + 1, l, i => (p l i).bind fun a => (pRep p n l a.2).map fun b => (a.1 :: b.1, b.2)
theorem pRep_snoc {α : Type} (p : List Nat → Nat → Option (α × Nat)) : ∀ (n : Nat) (l : List Nat) (i : Nat), pRep p (n + 1) l i = (pRep p n l i).bind fun a => (p l a.2).map fun b => (a.1 ++ [b.1], b.2)
  | 0, l, i => by
    show ((p l i).bind fun a => (some (([] : List α), a.2)).map fun b => (a.1 :: b.1, b.2)) = ((p l i).map fun b => (([] : List α) ++ [b.1], b.2))
    cases p l i <;> rfl
  | n + 1, l, i => by
    show (p l i).bind (fun a => (pRep p (n + 1) l a.2).map _) = ((p l i).bind fun a => (pRep p n l a.2).map _).bind _
    cases p l i with
    | none => rfl
    | some a =>
      simp only [Option.bind_some]
      rw [pRep_snoc p n l a.2]
      cases pRep p n l a.2 with
      | none => rfl
      | some b =>
        simp only [Option.bind_some, Option.map_some]
        cases p l b.2 <;> rfl
/-- if n of them can be read, so can fewer -/
theorem pRep_none {α : Type} (p : List Nat → Nat → Option (α × Nat)) {l : List Nat} {i : Nat} : ∀ {n m : Nat}, n ≤ m → pRep p n l i = none → pRep p m l i = none := by
  intro n m h e
  induction m with
  | zero => rw [Nat.le_zero.mp h] at e; exact e
  | succ m ih =>
    rcases Nat.lt_or_eq_of_le h with lt | rfl
    · rw [pRep_snoc, ih (by omega)]; rfl
    · exact e
def pList {α : Type} (p : List Nat → Nat → Option (α × Nat)) (l : List Nat) (i : Nat) : Option (List α × Nat) := (pCount l i).bind fun q => pRep p q.1 l q.2
/-- a deed -/
inductive Deed where
  | back (n : Nat)
  | change (module : List Nat) (removed : List (Nat × Nat)) (behind : Option (Nat × Nat)) (number : Nat) (text : List Nat)
def pBehind (l : List Nat) (i : Nat) : Option (Option (Nat × Nat) × Nat) := (pChoice 2 l i).bind fun b => if b.1 = 1 then (pMark l b.2).map fun m => (some m.1, m.2) else some (none, b.2)
def pChange (l : List Nat) (i : Nat) : Option (Deed × Nat) := (pList pChar l i).bind fun mo => (pList pMark l mo.2).bind fun rm => (pBehind l rm.2).bind fun be => (pNum l be.2).bind fun nu => (pList pChar l nu.2).map fun te => (.change mo.1 rm.1 be.1 nu.1 te.1, te.2)
def pDeed (l : List Nat) (i : Nat) : Option (Deed × Nat) := (pChoice 2 l i).bind fun c => if c.1 = 1 then (pNum l c.2).map fun n => (.back n.1, n.2) else pChange l c.2
def pTriple (l : List Nat) (i : Nat) : Option ((Nat × Nat × Deed) × Nat) := (pNum l i).bind fun a => (pNum l a.2).bind fun b => (pDeed l b.2).map fun d => ((a.1, b.1, d.1), d.2)
def pTriples (l : List Nat) (i : Nat) : Option (List (Nat × Nat × Deed) × Nat) := pList pTriple l i
def pPacket (l : List Nat) (i : Nat) : Option (List (Nat × Nat × Deed) × Nat) := (pByte l i).bind fun b => if b.1 = 1 then pTriples l b.2 else none
end Mk12
namespace Mk12
open PySem PySem.Spec PyProof.Rows L2 My

/-! ### written forms, and that they are read back -/
theorem num_le {n k : Nat} (h : n < 128 ^ (k + 1)) : (num n).length ≤ k + 1 := by
  induction k generalizing n with
  | zero => rw [num_lo (by simpa using h)]; simp
  | succ k ih =>
    by_cases h1 : n < 128
    · rw [num_lo h1]; simp
    · have : n / 128 < 128 ^ (k + 1) := by
        rw [Nat.div_lt_iff_lt_mul (by decide)]
        rw [Nat.pow_succ] at h; exact h
      have := ih this
      rw [num_hi h1, List.length_cons]; omega
/-- v is read off w wherever w stands -/
def Rd {α : Type} (p : List Nat → Nat → Option (α × Nat)) (v : α) (w : List Nat) : Prop := ∀ (l : List Nat) (i : Nat) (rest : List Nat), i ≤ l.length → l.drop i = w ++ rest → p l i = some (v, i + w.length)
theorem drop_next {l w rest : List Nat} {i : Nat} (hi : i ≤ l.length) (h : l.drop i = w ++ rest) : i + w.length ≤ l.length ∧ l.drop (i + w.length) = rest := by
  constructor
  · have := congrArg List.length h
    rw [List.length_drop, List.length_append] at this
    omega
  · rw [← List.drop_drop, h, List.drop_left]
theorem rd_num {n : Nat} (h : n < 128 ^ 60) : Rd pNum n (num n) := by
  intro l i rest hi e
  unfold pNum
  have hl := num_le (k := 59) h
  rw [e, List.take_append, List.take_of_length_le hl, pnum_num n 0 _ (.inl rfl)]; rfl
theorem rd_byte (b : Nat) : Rd pByte b [b] := by
  intro l i rest hi e
  unfold pByte
  have : l[i]? = some b := by
    have := congrArg (·[0]?) e
    simpa using this
  rw [this]; rfl
theorem rd_choice {b c : Nat} (h : b < c) : Rd (pChoice c) b [b] := by
  intro l i rest hi e
  unfold pChoice
  rw [rd_byte b l i rest hi e]
  show (if b < c then _ else _) = _
  rw [if_pos h]
theorem rd_mark {m : Nat × Nat} (h1 : m.1 < 128 ^ 60) (h2 : m.2 < 128 ^ 60) : Rd pMark m (num m.1 ++ num m.2) := by
  intro l i rest hi e
  rw [List.append_assoc] at e
  have s := drop_next hi e
  unfold pMark
  rw [rd_num h1 l i _ hi e]
  show ((pNum l (i + (num m.1).length)).map _) = _
  rw [rd_num h2 l _ _ s.1 s.2, List.length_append, ← Nat.add_assoc]; rfl
theorem rd_char {c : Nat} (h : okSign c) : Rd pChar c (num c) := by
  intro l i rest hi e
  have : c < 128 ^ 60 := Nat.lt_of_lt_of_le (show c < 128 by unfold okSign at h; omega) (by decide)
  unfold pChar
  rw [rd_num this l i _ hi e]
  show (if okSign c then _ else _) = _
  rw [if_pos h]
theorem rd_rep {α : Type} {p : List Nat → Nat → Option (α × Nat)} {w : α → List Nat} : ∀ {vs : List α}, (∀ v ∈ vs, Rd p v (w v)) → Rd (pRep p vs.length) vs (vs.flatMap w)
  | [], _ => fun l i rest hi e => rfl
  | v :: vs, h => fun l i rest hi e => by
    have e1 : l.drop i = w v ++ (vs.flatMap w ++ rest) := by rw [e, List.flatMap_cons, List.append_assoc]
    have s := drop_next hi e1
    show ((p l i).bind fun a => (pRep p vs.length l a.2).map _) = _
    rw [h v (by simp) l i _ hi e1]
    show ((pRep p vs.length l (i + (w v).length)).map _) = _
    rw [rd_rep (vs := vs) (fun u m => h u (by simp [m])) l _ _ s.1 s.2]
    simp only [Option.map_some, List.flatMap_cons, List.length_append, Nat.add_assoc]
theorem flat_len {α : Type} {w : α → List Nat} : ∀ {vs : List α}, (∀ v ∈ vs, 0 < (w v).length) → vs.length ≤ (vs.flatMap w).length
  | [], _ => Nat.le_refl _
  | v :: vs, h => by
    have := flat_len (vs := vs) fun u m => h u (by simp [m])
    have h0 := h v (by simp)
    rw [List.flatMap_cons, List.length_append, List.length_cons]; omega
theorem flat_le {α : Type} {w : α → List Nat} {k : Nat} : ∀ {vs : List α}, (∀ v ∈ vs, (w v).length ≤ k) → (vs.flatMap w).length ≤ k * vs.length
  | [], _ => by simp
  | v :: vs, h => by
    have := flat_le (vs := vs) fun u m => h u (by simp [m])
    have h0 := h v (by simp)
    rw [List.flatMap_cons, List.length_append, List.length_cons, Nat.mul_succ]; omega
/-- a list, written -/
def wList {α : Type} (w : α → List Nat) (vs : List α) : List Nat := num vs.length ++ vs.flatMap w
theorem rd_list {α : Type} {p : List Nat → Nat → Option (α × Nat)} {w : α → List Nat} {vs : List α} (hn : vs.length < 128 ^ 60) (h : ∀ v ∈ vs, Rd p v (w v)) (h0 : ∀ v ∈ vs, 0 < (w v).length) : Rd (pList p) vs (wList w vs) := by
  intro l i rest hi e
  unfold wList at e
  rw [List.append_assoc] at e
  have s := drop_next hi e
  unfold pList pCount
  rw [rd_num hn l i _ hi e]
  have hle := flat_len h0
  have s2 := drop_next s.1 s.2
  have : vs.length + (i + (num vs.length).length) ≤ l.length := by have := s2.1; omega
  simp only [Option.bind_some]
  rw [if_pos this]
  simp only [Option.bind_some]
  rw [rd_rep h l _ _ s.1 s.2]
  unfold wList
  rw [List.length_append, Nat.add_assoc]
def wText (cs : List Nat) : List Nat := wList num cs
def wMark (m : Nat × Nat) : List Nat := num m.1 ++ num m.2
def wBehind : Option (Nat × Nat) → List Nat
  | none => [0]
  | some m => 1 :: wMark m
def wDeed : Deed → List Nat
  | .back n => 1 :: num n
  | .change mo rm be nu te => 0 :: (wText mo ++ (wList wMark rm ++ (wBehind be ++ (num nu ++ wText te))))
def wTriple (t : Nat × Nat × Deed) : List Nat := num t.1 ++ (num t.2.1 ++ wDeed t.2.2)
def wTriples (ts : List (Nat × Nat × Deed)) : List Nat := wList wTriple ts
/-- what the law draws -/
abbrev big : Nat := 128 ^ 10
def okText (cs : List Nat) : Prop := cs.length < 140 ∧ ∀ c ∈ cs, okSign c
def okMark (m : Nat × Nat) : Prop := m.1 < big ∧ m.2 < 8
def okBehind : Option (Nat × Nat) → Prop
  | none => True
  | some m => okMark m
def okDeed : Deed → Prop
  | .back n => n < big
  | .change mo rm be nu te => okText mo ∧ (rm.length < 4 ∧ ∀ m ∈ rm, okMark m) ∧ okBehind be ∧ nu < big ∧ okText te
def okTriple (t : Nat × Nat × Deed) : Prop := t.1 < 9 ∧ t.2.1 < big ∧ okDeed t.2.2
def okTriples (ts : List (Nat × Nat × Deed)) : Prop := ts.length < 7 ∧ ∀ t ∈ ts, okTriple t
theorem big60 {n : Nat} (h : n < big) : n < 128 ^ 60 := Nat.lt_of_lt_of_le h (by decide)
theorem sm60 {n : Nat} (h : n < 1000000) : n < 128 ^ 60 := Nat.lt_of_lt_of_le h (by decide)
theorem rd_text {cs : List Nat} (h : okText cs) : Rd (pList pChar) cs (wText cs) := rd_list (sm60 (by have := h.1; omega)) (fun c m => rd_char (h.2 c m)) fun c _ => num_pos c
theorem rd_mark' {m : Nat × Nat} (h : okMark m) : Rd pMark m (wMark m) := rd_mark (big60 h.1) (sm60 (by have := h.2; omega))
theorem mark_pos (m : Nat × Nat) : 0 < (wMark m).length := by
  unfold wMark; rw [List.length_append]; have := num_pos m.1; omega
theorem rd_marks {rm : List (Nat × Nat)} (h : rm.length < 4 ∧ ∀ m ∈ rm, okMark m) : Rd (pList pMark) rm (wList wMark rm) := rd_list (sm60 (by have := h.1; omega)) (fun m k => rd_mark' (h.2 m k)) fun m _ => mark_pos m
theorem cons_drop {b : Nat} {l w rest : List Nat} {i : Nat} (hi : i ≤ l.length) (e : l.drop i = (b :: w) ++ rest) : i + 1 ≤ l.length ∧ l.drop (i + 1) = w ++ rest := drop_next (w := [b]) hi e
theorem rd_behind {be : Option (Nat × Nat)} (h : okBehind be) : Rd pBehind be (wBehind be) := by
  intro l i rest hi e
  unfold pBehind
  cases be with
  | none =>
    rw [rd_choice (show 0 < 2 by decide) l i rest hi e]; rfl
  | some m =>
    rw [rd_choice (show 1 < 2 by decide) l i (wMark m ++ rest) hi e]
    have s := cons_drop hi e
    show ((pMark l (i + 1)).map _) = _
    rw [rd_mark' h l _ _ s.1 s.2]
    show some (some m, i + 1 + (wMark m).length) = some (some m, i + ((wMark m).length + 1))
    rw [Nat.add_assoc, Nat.add_comm 1]
theorem rd_deed {d : Deed} (h : okDeed d) : Rd pDeed d (wDeed d) := by
  intro l i rest hi e
  unfold pDeed
  cases d with
  | back n =>
    rw [rd_choice (show 1 < 2 by decide) l i (num n ++ rest) hi e]
    have s := cons_drop hi e
    show ((pNum l (i + 1)).map _) = _
    rw [rd_num (big60 h) l _ _ s.1 s.2]
    show some (Deed.back n, i + 1 + (num n).length) = some (Deed.back n, i + ((num n).length + 1))
    rw [Nat.add_assoc, Nat.add_comm 1]
  | change mo rm be nu te =>
    obtain ⟨h1, h2, h3, h4, h5⟩ := h
    rw [rd_choice (show 0 < 2 by decide) l i (_ ++ rest) hi e]
    have s0 := cons_drop hi e
    show pChange l (i + 1) = _
    unfold pChange
    have e1 := s0.2
    rw [List.append_assoc] at e1
    have s1 := drop_next s0.1 e1
    have e2 := s1.2
    rw [List.append_assoc] at e2
    have s2 := drop_next s1.1 e2
    have e3 := s2.2
    rw [List.append_assoc] at e3
    have s3 := drop_next s2.1 e3
    have e4 := s3.2
    rw [List.append_assoc] at e4
    have s4 := drop_next s3.1 e4
    rw [rd_text h1 l _ _ s0.1 e1]
    show ((pList pMark l (i + 1 + (wText mo).length)).bind _) = _
    rw [rd_marks h2 l _ _ s1.1 e2]
    show ((pBehind l (i + 1 + (wText mo).length + (wList wMark rm).length)).bind _) = _
    rw [rd_behind h3 l _ _ s2.1 e3]
    show ((pNum l (i + 1 + (wText mo).length + (wList wMark rm).length + (wBehind be).length)).bind _) = _
    rw [rd_num (big60 h4) l _ _ s3.1 e4]
    show ((pList pChar l (i + 1 + (wText mo).length + (wList wMark rm).length + (wBehind be).length + (num nu).length)).map _) = _
    rw [rd_text h5 l _ _ s4.1 s4.2]
    simp only [Option.map_some, wDeed, List.length_cons, List.length_append]
    congr 2
    omega
theorem deed_pos (d : Deed) : 0 < (wDeed d).length := by
  cases d <;> simp [wDeed]
theorem rd_triple {t : Nat × Nat × Deed} (h : okTriple t) : Rd pTriple t (wTriple t) := by
  obtain ⟨h1, h2, h3⟩ := h
  intro l i rest hi e
  unfold wTriple at e
  rw [List.append_assoc] at e
  have s1 := drop_next hi e
  have e2 := s1.2
  rw [List.append_assoc] at e2
  have s2 := drop_next s1.1 e2
  unfold pTriple
  rw [rd_num (sm60 (by omega)) l _ _ hi e]
  show ((pNum l (i + (num t.1).length)).bind _) = _
  rw [rd_num (big60 h2) l _ _ s1.1 e2]
  show ((pDeed l (i + (num t.1).length + (num t.2.1).length)).map _) = _
  rw [rd_deed h3 l _ _ s2.1 s2.2]
  simp only [Option.map_some, wTriple, List.length_append]
  congr 2
  omega
theorem triple_pos (t : Nat × Nat × Deed) : 0 < (wTriple t).length := by
  unfold wTriple; rw [List.length_append]; have := num_pos t.1; omega
theorem rd_triples {ts : List (Nat × Nat × Deed)} (h : okTriples ts) : Rd pTriples ts (wTriples ts) := rd_list (sm60 (by have := h.1; omega)) (fun t m => rd_triple (h.2 t m)) fun t _ => triple_pos t
theorem rd_packet {ts : List (Nat × Nat × Deed)} (h : okTriples ts) : Rd pPacket ts (1 :: wTriples ts) := by
  intro l i rest hi e
  have s := cons_drop hi e
  unfold pPacket
  rw [rd_byte 1 l i _ hi e]
  show pTriples l (i + 1) = _
  rw [rd_triples h l _ _ s.1 s.2, List.length_cons]
  congr 2
  omega
/-! ### how long -/
theorem num10 {n : Nat} (h : n < big) : (num n).length ≤ 10 := num_le (k := 9) h
theorem text_le {cs : List Nat} (h : okText cs) : (wText cs).length ≤ 142 := by
  unfold wText wList
  have h1 := flat_le (w := num) (vs := cs) (k := 1) fun c m => num_le (k := 0) (by have := h.2 c m; unfold okSign at this; omega)
  have h2 := num_le (n := cs.length) (k := 1) (by have := h.1; omega)
  have := h.1
  rw [List.length_append]; omega
theorem mark_le {m : Nat × Nat} (h : okMark m) : (wMark m).length ≤ 11 := by
  unfold wMark
  have h1 := num10 h.1
  have h2 := num_le (n := m.2) (k := 0) (by have := h.2; omega)
  rw [List.length_append]; omega
theorem deed_le {d : Deed} (h : okDeed d) : (wDeed d).length ≤ 400 := by
  cases d with
  | back n =>
    have := num10 (n := n) h
    simp only [wDeed, List.length_cons]; omega
  | change mo rm be nu te =>
    obtain ⟨h1, h2, h3, h4, h5⟩ := h
    have a1 := text_le h1
    have a5 := text_le h5
    have a4 := num10 h4
    have a2 := flat_le (w := wMark) (vs := rm) (k := 11) fun m k => mark_le (h2.2 m k)
    have a2' := num_le (n := rm.length) (k := 0) (by have := h2.1; omega)
    have a3 : (wBehind be).length ≤ 12 := by
      cases be with
      | none => simp [wBehind]
      | some m => have := mark_le (m := m) h3; simp only [wBehind, List.length_cons]; omega
    have := h2.1
    simp only [wDeed, wList, List.length_cons, List.length_append]; omega
theorem triple_le {t : Nat × Nat × Deed} (h : okTriple t) : (wTriple t).length ≤ 420 := by
  have h1 := num_le (n := t.1) (k := 0) (by have := h.1; omega)
  have h2 := num10 h.2.1
  have h3 := deed_le h.2.2
  unfold wTriple
  simp only [List.length_append]; omega
theorem triples_le {ts : List (Nat × Nat × Deed)} (h : okTriples ts) : (wTriples ts).length ≤ 3000 := by
  have h1 := flat_le (w := wTriple) (vs := ts) (k := 420) fun t m => triple_le (h.2 t m)
  have h2 := num_le (n := ts.length) (k := 0) (by have := h.1; omega)
  have := h.1
  unfold wTriples wList
  simp only [List.length_append]; omega
end Mk12
namespace Mk12
open PySem PySem.Spec PyProof.Rows L2 My
/-! ### the text by places -/
def top (i : Nat) : Stmt := PySem.Challenge.pw_signalwhole_k12_bytes_written_and_read.main.body.getD i (.Pass ⟨0, 0, 0, 0⟩)
abbrev s_Reader___init__ : Stmt := inClass (top 8) 0
abbrev s_Reader_read_byte : Stmt := inClass (top 8) 1
abbrev s_Reader_read_choice : Stmt := inClass (top 8) 2
abbrev s_Reader_end : Stmt := inClass (top 8) 3
abbrev s_Reader_read_number : Stmt := inClass (top 8) 4
abbrev s_Reader_read_count : Stmt := inClass (top 8) 5
abbrev s_Reader_read_character : Stmt := inClass (top 8) 6
abbrev s_Reader_read_string : Stmt := inClass (top 8) 7
abbrev s_Reader_read_mark : Stmt := inClass (top 8) 8
abbrev s_Reader_read_deed : Stmt := inClass (top 8) 9
abbrev s_Reader_read_triple : Stmt := inClass (top 8) 11
abbrev s_Reader_read_triples : Stmt := inClass (top 8) 12
abbrev s_Reader_read_packet : Stmt := inClass (top 8) 13
abbrev s_write_number : Stmt := top 10
abbrev s_write_list : Stmt := top 11
abbrev s_write_string : Stmt := top 12
abbrev s_write_mark : Stmt := top 13
abbrev s_write_deed : Stmt := top 14
abbrev s_write_triples : Stmt := top 15
abbrev s_write_packet : Stmt := top 16
abbrev s__law_next : Stmt := top 18
abbrev s__law_same : Stmt := top 19
abbrev s__law_number : Stmt := top 20
abbrev s__law_text : Stmt := top 21
abbrev s__law_mark : Stmt := top 22
abbrev s__law_deed : Stmt := top 23
abbrev s__law_triples : Stmt := top 24
abbrev s__law_read_number : Stmt := top 25
abbrev s__law_sign : Stmt := top 26
abbrev s__law_read_text : Stmt := top 27
abbrev s__law_read_mark : Stmt := top 28
abbrev s__law_read_deed : Stmt := top 29
abbrev s__law_read_triples : Stmt := top 30
abbrev s__law_read_packet : Stmt := top 31
abbrev s__law_drawn_number : Stmt := top 32
abbrev s__law_drawn_text : Stmt := top 33
abbrev s__law_drawn_deed : Stmt := top 34
abbrev s__law_spoilt : Stmt := top 35
abbrev s__law_told : Stmt := top 36
abbrev s__law_own : Stmt := top 37
abbrev s__law_in_a_row : Stmt := top 38
abbrev s_law : Stmt := top 39
theorem sc_Reader___init__ : FnScope ["self", "data"] ["self", "data"] (defScope s_Reader___init__) := ⟨rfl, rfl, rfl, by decide +kernel, rfl, by decide +kernel, by decide +kernel⟩
theorem bi_Reader___init__ : BindsBy "__init__" "Reader.__init__" s_Reader___init__ ["self", "data"] := fun _ _ _ _ _ _ us hl => match us, hl with | [_, _], _ => rfl
theorem sc_Reader_read_byte : FnScope ["self"] ["self"] (defScope s_Reader_read_byte) := ⟨rfl, rfl, rfl, by decide +kernel, rfl, by decide +kernel, by decide +kernel⟩
theorem bi_Reader_read_byte : BindsBy "read_byte" "Reader.read_byte" s_Reader_read_byte ["self"] := fun _ _ _ _ _ _ us hl => match us, hl with | [_], _ => rfl
theorem sc_Reader_read_choice : FnScope ["self", "count", "byte"] ["self", "count"] (defScope s_Reader_read_choice) := ⟨rfl, rfl, rfl, by decide +kernel, rfl, by decide +kernel, by decide +kernel⟩
theorem bi_Reader_read_choice : BindsBy "read_choice" "Reader.read_choice" s_Reader_read_choice ["self", "count"] := fun _ _ _ _ _ _ us hl => match us, hl with | [_, _], _ => rfl
theorem sc_Reader_end : FnScope ["self"] ["self"] (defScope s_Reader_end) := ⟨rfl, rfl, rfl, by decide +kernel, rfl, by decide +kernel, by decide +kernel⟩
theorem bi_Reader_end : BindsBy "end" "Reader.end" s_Reader_end ["self"] := fun _ _ _ _ _ _ us hl => match us, hl with | [_], _ => rfl
theorem sc_Reader_read_number : FnScope ["self", "total", "factor", "index", "byte"] ["self"] (defScope s_Reader_read_number) := ⟨rfl, rfl, rfl, by decide +kernel, rfl, by decide +kernel, by decide +kernel⟩
theorem bi_Reader_read_number : BindsBy "read_number" "Reader.read_number" s_Reader_read_number ["self"] := fun _ _ _ _ _ _ us hl => match us, hl with | [_], _ => rfl
theorem sc_Reader_read_count : FnScope ["self", "count"] ["self"] (defScope s_Reader_read_count) := ⟨rfl, rfl, rfl, by decide +kernel, rfl, by decide +kernel, by decide +kernel⟩
theorem bi_Reader_read_count : BindsBy "read_count" "Reader.read_count" s_Reader_read_count ["self"] := fun _ _ _ _ _ _ us hl => match us, hl with | [_], _ => rfl
theorem sc_Reader_read_character : FnScope ["self", "code"] ["self"] (defScope s_Reader_read_character) := ⟨rfl, rfl, rfl, by decide +kernel, rfl, by decide +kernel, by decide +kernel⟩
theorem bi_Reader_read_character : BindsBy "read_character" "Reader.read_character" s_Reader_read_character ["self"] := fun _ _ _ _ _ _ us hl => match us, hl with | [_], _ => rfl
theorem sc_Reader_read_string : FnScope ["self", "_"] ["self"] (defScope s_Reader_read_string) := ⟨rfl, rfl, rfl, by decide +kernel, rfl, by decide +kernel, by decide +kernel⟩
theorem bi_Reader_read_string : BindsBy "read_string" "Reader.read_string" s_Reader_read_string ["self"] := fun _ _ _ _ _ _ us hl => match us, hl with | [_], _ => rfl
theorem sc_Reader_read_mark : FnScope ["self", "number"] ["self"] (defScope s_Reader_read_mark) := ⟨rfl, rfl, rfl, by decide +kernel, rfl, by decide +kernel, by decide +kernel⟩
theorem bi_Reader_read_mark : BindsBy "read_mark" "Reader.read_mark" s_Reader_read_mark ["self"] := fun _ _ _ _ _ _ us hl => match us, hl with | [_], _ => rfl
theorem sc_Reader_read_deed : FnScope ["self", "module", "removed", "behind", "number", "_"] ["self"] (defScope s_Reader_read_deed) := ⟨rfl, rfl, rfl, by decide +kernel, rfl, by decide +kernel, by decide +kernel⟩
theorem bi_Reader_read_deed : BindsBy "read_deed" "Reader.read_deed" s_Reader_read_deed ["self"] := fun _ _ _ _ _ _ us hl => match us, hl with | [_], _ => rfl
theorem sc_Reader_read_triple : FnScope ["self", "replica", "place"] ["self"] (defScope s_Reader_read_triple) := ⟨rfl, rfl, rfl, by decide +kernel, rfl, by decide +kernel, by decide +kernel⟩
theorem bi_Reader_read_triple : BindsBy "read_triple" "Reader.read_triple" s_Reader_read_triple ["self"] := fun _ _ _ _ _ _ us hl => match us, hl with | [_], _ => rfl
theorem sc_Reader_read_triples : FnScope ["self", "_"] ["self"] (defScope s_Reader_read_triples) := ⟨rfl, rfl, rfl, by decide +kernel, rfl, by decide +kernel, by decide +kernel⟩
theorem bi_Reader_read_triples : BindsBy "read_triples" "Reader.read_triples" s_Reader_read_triples ["self"] := fun _ _ _ _ _ _ us hl => match us, hl with | [_], _ => rfl
theorem sc_Reader_read_packet : FnScope ["self"] ["self"] (defScope s_Reader_read_packet) := ⟨rfl, rfl, rfl, by decide +kernel, rfl, by decide +kernel, by decide +kernel⟩
theorem bi_Reader_read_packet : BindsBy "read_packet" "Reader.read_packet" s_Reader_read_packet ["self"] := fun _ _ _ _ _ _ us hl => match us, hl with | [_], _ => rfl
theorem sc_write_number : FnScope ["number", "data"] ["number"] (defScope s_write_number) := ⟨rfl, rfl, rfl, by decide +kernel, rfl, by decide +kernel, by decide +kernel⟩
theorem bi_write_number : BindsBy "write_number" "write_number" s_write_number ["number"] := fun _ _ _ _ _ _ us hl => match us, hl with | [_], _ => rfl
theorem sc_write_list : FnScope ["items", "data", "item"] ["items"] (defScope s_write_list) := ⟨rfl, rfl, rfl, by decide +kernel, rfl, by decide +kernel, by decide +kernel⟩
theorem bi_write_list : BindsBy "write_list" "write_list" s_write_list ["items"] := fun _ _ _ _ _ _ us hl => match us, hl with | [_], _ => rfl
theorem sc_write_string : FnScope ["text", "character"] ["text"] (defScope s_write_string) := ⟨rfl, rfl, rfl, by decide +kernel, rfl, by decide +kernel, by decide +kernel⟩
theorem bi_write_string : BindsBy "write_string" "write_string" s_write_string ["text"] := fun _ _ _ _ _ _ us hl => match us, hl with | [_], _ => rfl
theorem sc_write_mark : FnScope ["mark"] ["mark"] (defScope s_write_mark) := ⟨rfl, rfl, rfl, by decide +kernel, rfl, by decide +kernel, by decide +kernel⟩
theorem bi_write_mark : BindsBy "write_mark" "write_mark" s_write_mark ["mark"] := fun _ _ _ _ _ _ us hl => match us, hl with | [_], _ => rfl
theorem sc_write_deed : FnScope ["deed", "_", "module", "removed", "behind", "number", "text", "data", "mark"] ["deed"] (defScope s_write_deed) := ⟨rfl, rfl, rfl, by decide +kernel, rfl, by decide +kernel, by decide +kernel⟩
theorem bi_write_deed : BindsBy "write_deed" "write_deed" s_write_deed ["deed"] := fun _ _ _ _ _ _ us hl => match us, hl with | [_], _ => rfl
theorem sc_write_triples : FnScope ["triples", "written", "replica", "place", "deed"] ["triples"] (defScope s_write_triples) := ⟨rfl, rfl, rfl, by decide +kernel, rfl, by decide +kernel, by decide +kernel⟩
theorem bi_write_triples : BindsBy "write_triples" "write_triples" s_write_triples ["triples"] := fun _ _ _ _ _ _ us hl => match us, hl with | [_], _ => rfl
theorem sc_write_packet : FnScope ["packet"] ["packet"] (defScope s_write_packet) := ⟨rfl, rfl, rfl, by decide +kernel, rfl, by decide +kernel, by decide +kernel⟩
theorem bi_write_packet : BindsBy "write_packet" "write_packet" s_write_packet ["packet"] := fun _ _ _ _ _ _ us hl => match us, hl with | [_], _ => rfl
theorem sc__law_next : FnScope ["state", "limit", "cell", "value"] ["state", "limit"] (defScope s__law_next) := ⟨rfl, rfl, rfl, by decide +kernel, rfl, by decide +kernel, by decide +kernel⟩
theorem bi__law_next : BindsBy "_law_next" "_law_next" s__law_next ["state", "limit"] := fun _ _ _ _ _ _ us hl => match us, hl with | [_, _], _ => rfl
theorem sc__law_same : FnScope ["actual", "expected", "k"] ["actual", "expected"] (defScope s__law_same) := ⟨rfl, rfl, rfl, by decide +kernel, rfl, by decide +kernel, by decide +kernel⟩
theorem bi__law_same : BindsBy "_law_same" "_law_same" s__law_same ["actual", "expected"] := fun _ _ _ _ _ _ us hl => match us, hl with | [_, _], _ => rfl
theorem sc__law_number : FnScope ["number", "data"] ["number"] (defScope s__law_number) := ⟨rfl, rfl, rfl, by decide +kernel, rfl, by decide +kernel, by decide +kernel⟩
theorem bi__law_number : BindsBy "_law_number" "_law_number" s__law_number ["number"] := fun _ _ _ _ _ _ us hl => match us, hl with | [_], _ => rfl
theorem sc__law_text : FnScope ["text", "data", "character"] ["text"] (defScope s__law_text) := ⟨rfl, rfl, rfl, by decide +kernel, rfl, by decide +kernel, by decide +kernel⟩
theorem bi__law_text : BindsBy "_law_text" "_law_text" s__law_text ["text"] := fun _ _ _ _ _ _ us hl => match us, hl with | [_], _ => rfl
theorem sc__law_mark : FnScope ["mark"] ["mark"] (defScope s__law_mark) := ⟨rfl, rfl, rfl, by decide +kernel, rfl, by decide +kernel, by decide +kernel⟩
theorem bi__law_mark : BindsBy "_law_mark" "_law_mark" s__law_mark ["mark"] := fun _ _ _ _ _ _ us hl => match us, hl with | [_], _ => rfl
theorem sc__law_deed : FnScope ["deed", "data", "mark"] ["deed"] (defScope s__law_deed) := ⟨rfl, rfl, rfl, by decide +kernel, rfl, by decide +kernel, by decide +kernel⟩
theorem bi__law_deed : BindsBy "_law_deed" "_law_deed" s__law_deed ["deed"] := fun _ _ _ _ _ _ us hl => match us, hl with | [_], _ => rfl
theorem sc__law_triples : FnScope ["triples", "data", "replica", "place", "deed"] ["triples"] (defScope s__law_triples) := ⟨rfl, rfl, rfl, by decide +kernel, rfl, by decide +kernel, by decide +kernel⟩
theorem bi__law_triples : BindsBy "_law_triples" "_law_triples" s__law_triples ["triples"] := fun _ _ _ _ _ _ us hl => match us, hl with | [_], _ => rfl
theorem sc__law_read_number : FnScope ["data", "at", "total", "factor", "k"] ["data", "at"] (defScope s__law_read_number) := ⟨rfl, rfl, rfl, by decide +kernel, rfl, by decide +kernel, by decide +kernel⟩
theorem bi__law_read_number : BindsBy "_law_read_number" "_law_read_number" s__law_read_number ["data", "at"] := fun _ _ _ _ _ _ us hl => match us, hl with | [_, _], _ => rfl
theorem sc__law_sign : FnScope ["code", "first", "rest"] ["code"] (defScope s__law_sign) := ⟨rfl, rfl, rfl, by decide +kernel, rfl, by decide +kernel, by decide +kernel⟩
theorem bi__law_sign : BindsBy "_law_sign" "_law_sign" s__law_sign ["code"] := fun _ _ _ _ _ _ us hl => match us, hl with | [_], _ => rfl
theorem sc__law_read_text : FnScope ["data", "at", "found", "count", "text", "k"] ["data", "at"] (defScope s__law_read_text) := ⟨rfl, rfl, rfl, by decide +kernel, rfl, by decide +kernel, by decide +kernel⟩
theorem bi__law_read_text : BindsBy "_law_read_text" "_law_read_text" s__law_read_text ["data", "at"] := fun _ _ _ _ _ _ us hl => match us, hl with | [_, _], _ => rfl
theorem sc__law_read_mark : FnScope ["data", "at", "first", "second"] ["data", "at"] (defScope s__law_read_mark) := ⟨rfl, rfl, rfl, by decide +kernel, rfl, by decide +kernel, by decide +kernel⟩
theorem bi__law_read_mark : BindsBy "_law_read_mark" "_law_read_mark" s__law_read_mark ["data", "at"] := fun _ _ _ _ _ _ us hl => match us, hl with | [_, _], _ => rfl
theorem sc__law_read_deed : FnScope ["data", "at", "found", "module", "count", "marks", "k", "behind", "number", "text"] ["data", "at"] (defScope s__law_read_deed) := ⟨rfl, rfl, rfl, by decide +kernel, rfl, by decide +kernel, by decide +kernel⟩
theorem bi__law_read_deed : BindsBy "_law_read_deed" "_law_read_deed" s__law_read_deed ["data", "at"] := fun _ _ _ _ _ _ us hl => match us, hl with | [_, _], _ => rfl
theorem sc__law_read_triples : FnScope ["data", "at", "count", "triples", "k", "pair", "deed"] ["data", "at"] (defScope s__law_read_triples) := ⟨rfl, rfl, rfl, by decide +kernel, rfl, by decide +kernel, by decide +kernel⟩
theorem bi__law_read_triples : BindsBy "_law_read_triples" "_law_read_triples" s__law_read_triples ["data", "at"] := fun _ _ _ _ _ _ us hl => match us, hl with | [_, _], _ => rfl
theorem sc__law_read_packet : FnScope ["data", "at"] ["data", "at"] (defScope s__law_read_packet) := ⟨rfl, rfl, rfl, by decide +kernel, rfl, by decide +kernel, by decide +kernel⟩
theorem bi__law_read_packet : BindsBy "_law_read_packet" "_law_read_packet" s__law_read_packet ["data", "at"] := fun _ _ _ _ _ _ us hl => match us, hl with | [_, _], _ => rfl
theorem sc__law_drawn_number : FnScope ["state"] ["state"] (defScope s__law_drawn_number) := ⟨rfl, rfl, rfl, by decide +kernel, rfl, by decide +kernel, by decide +kernel⟩
theorem bi__law_drawn_number : BindsBy "_law_drawn_number" "_law_drawn_number" s__law_drawn_number ["state"] := fun _ _ _ _ _ _ us hl => match us, hl with | [_], _ => rfl
theorem sc__law_drawn_text : FnScope ["state", "letters", "k"] ["state"] (defScope s__law_drawn_text) := ⟨rfl, rfl, rfl, by decide +kernel, rfl, by decide +kernel, by decide +kernel⟩
theorem bi__law_drawn_text : BindsBy "_law_drawn_text" "_law_drawn_text" s__law_drawn_text ["state"] := fun _ _ _ _ _ _ us hl => match us, hl with | [_], _ => rfl
theorem sc__law_drawn_deed : FnScope ["state", "marks", "behind", "k"] ["state"] (defScope s__law_drawn_deed) := ⟨rfl, rfl, rfl, by decide +kernel, rfl, by decide +kernel, by decide +kernel⟩
theorem bi__law_drawn_deed : BindsBy "_law_drawn_deed" "_law_drawn_deed" s__law_drawn_deed ["state"] := fun _ _ _ _ _ _ us hl => match us, hl with | [_], _ => rfl
theorem sc__law_spoilt : FnScope ["state", "data", "place", "byte", "pick", "k"] ["state", "data"] (defScope s__law_spoilt) := ⟨rfl, rfl, rfl, by decide +kernel, rfl, by decide +kernel, by decide +kernel⟩
theorem bi__law_spoilt : BindsBy "_law_spoilt" "_law_spoilt" s__law_spoilt ["state", "data"] := fun _ _ _ _ _ _ us hl => match us, hl with | [_, _], _ => rfl
theorem sc__law_told : FnScope ["kind", "data", "reader", "found", "at", "ended"] ["kind", "data"] (defScope s__law_told) := ⟨rfl, rfl, rfl, by decide +kernel, rfl, by decide +kernel, by decide +kernel⟩
theorem bi__law_told : BindsBy "_law_told" "_law_told" s__law_told ["kind", "data"] := fun _ _ _ _ _ _ us hl => match us, hl with | [_, _], _ => rfl
theorem sc__law_own : FnScope ["kind", "data"] ["kind", "data"] (defScope s__law_own) := ⟨rfl, rfl, rfl, by decide +kernel, rfl, by decide +kernel, by decide +kernel⟩
theorem bi__law_own : BindsBy "_law_own" "_law_own" s__law_own ["kind", "data"] := fun _ _ _ _ _ _ us hl => match us, hl with | [_, _], _ => rfl
theorem sc__law_in_a_row : FnScope ["things", "written", "data", "part", "reader", "told"] ["things", "written"] (defScope s__law_in_a_row) := ⟨rfl, rfl, rfl, by decide +kernel, rfl, by decide +kernel, by decide +kernel⟩
theorem bi__law_in_a_row : BindsBy "_law_in_a_row" "_law_in_a_row" s__law_in_a_row ["things", "written"] := fun _ _ _ _ _ _ us hl => match us, hl with | [_, _], _ => rfl
theorem sc_law : FnScope ["script", "state", "k", "number", "text", "deed", "triples", "written", "own", "things", "long", "kind", "j", "data"] ["script"] (defScope s_law) := ⟨rfl, rfl, rfl, by decide +kernel, rfl, by decide +kernel, by decide +kernel⟩
theorem bi_law : BindsBy "law" "law" s_law ["script"] := fun _ _ _ _ _ _ us hl => match us, hl with | [_], _ => rfl
/-- what the top leaves of the names that the text uses -/
structure TopF (K : PySem.W.Frag) (mg : Str → Option Value) : Prop where
  bool : mg "bool" = none
  int_ : mg "int" = none
  isinstance : mg "isinstance" = none
  len : mg "len" = none
  list : mg "list" = none
  ord : mg "ord" = none
  range : mg "range" = none
  str : mg "str" = none
  tuple : mg "tuple" = none
  c_BEFORE_PERCENT : ∃ t, mg "BEFORE_PERCENT" = some (.str " !\"#$" t)
  c_AFTER_PERCENT : ∃ t, mg "AFTER_PERCENT" = some (.str "&'()*+,-./0123456789:;<=>?@ABCDEFGHIJKLMNOPQRSTUVWXYZ[\\]^_`abcdefghijklmnopqrstuvwxyz{|}~" t)
  c_NUMBER_BYTES : ∃ t, mg "NUMBER_BYTES" = some (.int 60 t)
  x_SignalwholeError : He.Fa.ok K (.exc "SignalwholeError") = true
  g_SignalwholeError : mg "SignalwholeError" = some (.ref (He.ga K "SignalwholeError"))
  m_SignalwholeError : He.Fa.ok K (.exm "SignalwholeError" "SignalwholeError" true) = true
  x_DamagedPacket : He.Fa.ok K (.exc "DamagedPacket") = true
  g_DamagedPacket : mg "DamagedPacket" = some (.ref (He.ga K "DamagedPacket"))
  m_DamagedPacket : He.Fa.ok K (.exm "DamagedPacket" "DamagedPacket" true) = true
  n_Reader_data : NoAttr K (He.ga K "Reader") "data"
  n_Reader_at : NoAttr K (He.ga K "Reader") "at"
structure Defs (K : PySem.W.Frag) (mg : Str → Option Value) : Prop where
  d_Reader___init__ : MkAt K mg (He.ga K "Reader") "Reader" "Reader.__init__" s_Reader___init__
  d_Reader_read_byte : MetAt K (He.ga K "Reader") "read_byte" "Reader.read_byte" s_Reader_read_byte
  d_Reader_read_choice : MetAt K (He.ga K "Reader") "read_choice" "Reader.read_choice" s_Reader_read_choice
  d_Reader_end : MetAt K (He.ga K "Reader") "end" "Reader.end" s_Reader_end
  d_Reader_read_number : MetAt K (He.ga K "Reader") "read_number" "Reader.read_number" s_Reader_read_number
  d_Reader_read_count : MetAt K (He.ga K "Reader") "read_count" "Reader.read_count" s_Reader_read_count
  d_Reader_read_character : MetAt K (He.ga K "Reader") "read_character" "Reader.read_character" s_Reader_read_character
  d_Reader_read_string : MetAt K (He.ga K "Reader") "read_string" "Reader.read_string" s_Reader_read_string
  d_Reader_read_mark : MetAt K (He.ga K "Reader") "read_mark" "Reader.read_mark" s_Reader_read_mark
  d_Reader_read_deed : MetAt K (He.ga K "Reader") "read_deed" "Reader.read_deed" s_Reader_read_deed
  d_Reader_read_triple : MetAt K (He.ga K "Reader") "read_triple" "Reader.read_triple" s_Reader_read_triple
  d_Reader_read_triples : MetAt K (He.ga K "Reader") "read_triples" "Reader.read_triples" s_Reader_read_triples
  d_Reader_read_packet : MetAt K (He.ga K "Reader") "read_packet" "Reader.read_packet" s_Reader_read_packet
  d_write_number : DefAt K mg "write_number" s_write_number
  d_write_list : DefAt K mg "write_list" s_write_list
  d_write_string : DefAt K mg "write_string" s_write_string
  d_write_mark : DefAt K mg "write_mark" s_write_mark
  d_write_deed : DefAt K mg "write_deed" s_write_deed
  d_write_triples : DefAt K mg "write_triples" s_write_triples
  d_write_packet : DefAt K mg "write_packet" s_write_packet
  d__law_next : DefAt K mg "_law_next" s__law_next
  d__law_same : DefAt K mg "_law_same" s__law_same
  d__law_number : DefAt K mg "_law_number" s__law_number
  d__law_text : DefAt K mg "_law_text" s__law_text
  d__law_mark : DefAt K mg "_law_mark" s__law_mark
  d__law_deed : DefAt K mg "_law_deed" s__law_deed
  d__law_triples : DefAt K mg "_law_triples" s__law_triples
  d__law_read_number : DefAt K mg "_law_read_number" s__law_read_number
  d__law_sign : DefAt K mg "_law_sign" s__law_sign
  d__law_read_text : DefAt K mg "_law_read_text" s__law_read_text
  d__law_read_mark : DefAt K mg "_law_read_mark" s__law_read_mark
  d__law_read_deed : DefAt K mg "_law_read_deed" s__law_read_deed
  d__law_read_triples : DefAt K mg "_law_read_triples" s__law_read_triples
  d__law_read_packet : DefAt K mg "_law_read_packet" s__law_read_packet
  d__law_drawn_number : DefAt K mg "_law_drawn_number" s__law_drawn_number
  d__law_drawn_text : DefAt K mg "_law_drawn_text" s__law_drawn_text
  d__law_drawn_deed : DefAt K mg "_law_drawn_deed" s__law_drawn_deed
  d__law_spoilt : DefAt K mg "_law_spoilt" s__law_spoilt
  d__law_told : DefAt K mg "_law_told" s__law_told
  d__law_own : DefAt K mg "_law_own" s__law_own
  d__law_in_a_row : DefAt K mg "_law_in_a_row" s__law_in_a_row
  d_law : DefAt K mg "law" s_law
/-- the law's own def, for the end -/
def spLaw (K : PySem.W.Frag) : Sp := fun vs H Q _ => ∃ (a : Addr) (ns : List Int), vs = [.ref a] ∧ SqL K H a (ns.map V.int) ∧ ns.length ≤ 63 ∧ ∀ H', Q (.bl true) H'
theorem law_of {P : Program} {w : World} {K : PySem.W.Frag} {mg : Str → Option Value} {fa : Addr} {k : Nat} {sp : Sp} (D : Defs K mg) (hmg : mg "law" = some (.ref fa)) (S : FnScope ["script", "state", "k", "number", "text", "deed", "triples", "written", "own", "things", "long", "kind", "j", "data"] ["script"] (defScope s_law)) (len : ∀ vs H Q E, sp vs H Q E → vs.length = 1)
    (body : ∀ base : Heap, Body0 P w K mg base k "law" s_law ["script", "state", "k", "number", "text", "deed", "triples", "written", "own", "things", "long", "kind", "j", "data"] sp) :
    ∃ fd : FuncData, (∀ (s : Shared) (v : Value), BindsTo s fd ⟨[v], []⟩ [("script", v)]) ∧ ∀ base : Heap, K.In base → base.Ns mainGlobals mg → FnOk P w K mg base CX0 (k + 1) fa fd ["script"] sp := by
  obtain ⟨f, fd, F, hm⟩ := D.d_law.ex
  have e := hmg.symm.trans hm
  cases e
  have b := FunD.bindsA (ps := ["script"]) F bi_law
  exact ⟨fd, fun s v => b s [v] rfl, fun base _ _ => F.ok S len fun cdv A outer s H vs Q E hr h => let ⟨t, h1, h2⟩ := body base _ cdv A outer s H vs Q E hr h; ⟨t, h1.nox, h2⟩⟩
end Mk12
namespace Mk12
open PySem PySem.Spec PyProof.Rows L2 My

abbrev nums (l : List Nat) : List V := l.map fun n => V.int (n : Nat)
theorem da_ : ¬ (("data" : Str) = "at") := by decide +kernel
def rf (q : Addr) (i : Nat) : List (Str × V) := [("data", .ref q), ("at", .int (i : Nat))]
theorem rf_d (q : Addr) (i : Nat) : (rf q i).lookup ("data" : Str) = some (.ref q) := by
  show List.lookup ("data" : Str) (("data", V.ref q) :: _) = _
  rw [List.lookup_cons_self]
theorem rf_a (q : Addr) (i : Nat) : (rf q i).lookup ("at" : Str) = some (.int (i : Nat)) := by
  have : (("at" : Str) == ("data" : Str)) = false := by decide +kernel
  show List.lookup ("at" : Str) (("data", V.ref q) :: ("at", V.int (i : Nat)) :: []) = _
  rw [List.lookup_cons, this, List.lookup_cons_self]
theorem rf_no {m : Str} (q : Addr) (i : Nat) (h1 : (m == ("data" : Str)) = false) (h2 : (m == ("at" : Str)) = false) : (rf q i).lookup m = none := by
  show List.lookup m (("data", V.ref q) :: ("at", V.int (i : Nat)) :: []) = _
  rw [List.lookup_cons, h1, List.lookup_cons, h2]; rfl
theorem rf_put (q : Addr) (i j : Nat) : putF "at" (.int (j : Nat)) (rf q i) = rf q j := by
  show (if ("data" : Str) = "at" then _ else (("data" : Str), V.ref q) :: (if ("at" : Str) = "at" then _ else _)) = _
  rw [if_neg da_, if_pos rfl]; rfl
/-- a Reader stands at r, over a list of its own, at place i -/
def RdAt (C : Addr) (H : Hp) (r q : Addr) (l : List Nat) (i : Nat) : Prop := H q = some (.lst (nums l)) ∧ (∃ dx : Addr, H r = some (.ins C dx (rf q i))) ∧ l.length ≤ 1000000
def spRInit (C : Addr) : Sp := fun vs H Q _ => ∃ (r a dx : Addr) (l : List Nat), vs = [.ref r, .ref a] ∧ H r = some (.ins C dx []) ∧ H a = some (.lst (nums l)) ∧ l.length ≤ 1000000 ∧ ∀ (H' : Hp) (q : Addr), Keep (· = r) H H' → H q = none → RdAt C H' r q l 0 → Q .non H'
def spByte (C CE : Addr) : Sp := fun vs H Q E => ∃ (r q : Addr) (l : List Nat) (i : Nat), vs = [.ref r] ∧ RdAt C H r q l i ∧
  (∀ b : Nat, l[i]? = some b → ∀ H' : Hp, Keep (· = r) H H' → RdAt C H' r q l (i + 1) → Q (.int (b : Nat)) H') ∧ (l[i]? = none → E (.ref CE) none H)
/-- read_number from a place on -/
def spNumR (C CE : Addr) : Sp := fun vs H Q E => ∃ (r q : Addr) (l : List Nat) (i : Nat), vs = [.ref r] ∧ RdAt C H r q l i ∧
  (∀ v k : Nat, pnum 0 ((l.drop i).take 60) = some (v, k) → ∀ H' : Hp, Keep (· = r) H H' → RdAt C H' r q l (i + k) → Q (.int (v : Nat)) H') ∧ (pnum 0 ((l.drop i).take 60) = none → ∀ (H' : Hp) (j : Nat), Keep (· = r) H H' → RdAt C H' r q l j → E (.ref CE) none H')
section
variable {P : Program} {w : World} {K : PySem.W.Frag} {mg : Str → Option Value} {base : Heap}
theorem k_rinit (T : TopF K mg) (D : Defs K mg) : KMak P w K mg base CX0 1 "Reader" (He.ga K "Reader") ["self", "data"] (spRInit (He.ga K "Reader")) := by
  refine kmak_mk D.d_Reader___init__ sc_Reader___init__ bi_Reader___init__ (fun vs H Q E h => ?_) (fun f cdv A outer s H vs Q E hr h => ?_)
  · obtain ⟨_, _, _, _, rfl, _⟩ := h; rfl
  · obtain ⟨r, a, dx, l, rfl, hr1, ha, hll, kk⟩ := h
    have nd := sc_Reader___init__.nd
    have cl := D.d_Reader_read_byte.cl
    refine ⟨_, (pss_cons (ps_fld (pv 0) (pe_callTy call_list_of (by rfl) T.list (by decide +kernel) (pa_cons (pv 1) pa_nil)) rfl)
 (pss_one (ps_fld (pv 0) pe_int rfl))), ?_⟩
    refine ⟨_, rfl, _, _, rfl, .inl (SqL.of ha), fun q nq => ?_⟩
    generalize h1 : upd _ q _ = H1
    have s1 := same_of h1 nq
    have a1 := upd_at h1
    have nqr : q ≠ r := fun z => by rw [z, hr1] at nq; cases nq
    refine ⟨_, rfl, r, _, dx, [], rfl, s1 _ _ hr1, cl, T.n_Reader_data, by show 0 < 1000; decide, ?_⟩
    generalize h2 : upd _ r _ = H2
    have k2 : Keep (· = r) H1 H2 := keep_of h2 rfl
    have a2 := upd_at h2
    refine ⟨_, rfl, r, _, dx, _, rfl, a2, cl, T.n_Reader_at, by show 1 < 1000; decide, ?_⟩
    generalize h3 : upd _ r _ = H3
    have k3 : Keep (· = r) H2 H3 := keep_of h3 rfl
    have a3 := upd_at h3
    have e : putF "at" (V.int 0) (putF "data" (V.ref q) []) = rf q 0 := by
      show (if ("data" : Str) = "at" then _ else (("data" : Str), V.ref q) :: putF "at" (V.int 0) []) = _
      rw [if_neg da_]; rfl
    rw [e] at a3
    exact kk H3 q ((Keep.of s1).trans (k2.trans k3)) nq ⟨k3 _ _ (k2 _ _ a1 nqr) nqr, ⟨dx, a3⟩, hll⟩
theorem k_read_byte (T : TopF K mg) (D : Defs K mg) : KMet P w K mg base (L2.CX P w) 1 (He.ga K "Reader") "read_byte" ["self"] (spByte (He.ga K "Reader") (He.ga K "DamagedPacket")) := by
  refine kmet_mkX D.d_Reader_read_byte sc_Reader_read_byte bi_Reader_read_byte (fun vs H Q E h => ?_) (fun f cdv A outer s H vs Q E hr h => ?_)
  · obtain ⟨_, _, _, _, rfl, _⟩ := h; rfl
  · obtain ⟨r, q, l, i, rfl, ⟨hq, ⟨dx, hr1⟩, hll⟩, k1, k0⟩ := h
    have nd := sc_Reader_read_byte.nd
    have cl := D.d_Reader_read_byte.cl
    refine ⟨_, (pss_cons (ps_if (pt_cmpR op_ge (pe_fld (pv 0) rfl) (pe_callB call_len_seq (by rfl) T.len (by decide +kernel) (pa_cons (pe_fld (pv 0) rfl) pa_nil)) (nomark _))
 (pss_one (ps_raise rfl (takes_of rfl rfl rfl rfl) (pmk_own PySem.F.excBase_ValueError (He.exc_ok T.x_DamagedPacket).1 T.g_DamagedPacket (He.exc_ok T.x_DamagedPacket).2.1 (raises_own (He.exc_ok T.x_DamagedPacket).2.2.1 (He.exc_ok T.x_DamagedPacket).2.2.2) rfl))) pss_nil)
 (pss_cons (ps_fldaug (pv 0) pe_int in_add)
 (pss_one (ps_ret (pe_ix ix_list (pe_fld (pv 0) rfl) (pe_op op_sub (pe_fld (pv 0) rfl) pe_int) (fun _ _ => rfl)))))), ?_⟩
    refine ⟨_, rfl, r, _, dx, _, _, rfl, hr1, cl, T.n_Reader_at, rf_a _ _, ?_⟩
    refine ⟨_, rfl, r, _, dx, _, _, rfl, hr1, cl, T.n_Reader_data, rf_d _ _, _, _, rfl, .inl (SqL.of hq), ?_⟩
    rw [List.length_map]
    refine ⟨_, _, rfl, rfl, _, rfl, ?_⟩
    refine ite2 (fun e => ?_) (fun e => ?_)
    · refine k0 (List.getElem?_eq_none ?_)
      have := of_decide_eq_true e; omega
    · have lt : i < l.length := by
        have : ¬ ((l.length : Nat) : Int) ≤ (i : Nat) := fun z => e (decide_eq_true z)
        omega
      have hb := List.getElem?_eq_getElem lt
      generalize l[i] = b at hb
      refine ⟨_, rfl, r, _, dx, _, _, rfl, hr1, cl, T.n_Reader_at, rf_a _ _, _, _, rfl, rfl, dx, _, hr1, by show 2 < 1000; decide, ?_⟩
      have e2 : putF "at" (V.int (((i : Nat) : Int) + 1)) (rf q i) = rf q (i + 1) := rf_put q i (i + 1)
      rw [e2]
      generalize h3 : upd _ r _ = H3
      have k3 : Keep (· = r) H H3 := keep_of h3 rfl
      have a3 := upd_at h3
      have nqr : q ≠ r := ne_of hq hr1 (by intro z; cases z)
      have hq3 := k3 _ _ hq nqr
      refine ⟨_, rfl, r, _, dx, _, _, rfl, a3, cl, T.n_Reader_data, rf_d _ _, ?_⟩
      refine ⟨_, rfl, r, _, dx, _, _, rfl, a3, cl, T.n_Reader_at, rf_a _ _, ?_⟩
      refine ⟨_, _, rfl, rfl, ?_⟩
      refine ⟨_, _, _, _, rfl, rfl, SqL.of hq3, ?_, k1 b hb H3 k3 ⟨hq3, ⟨dx, a3⟩, hll⟩⟩
      rw [show (((i + 1 : Nat) : Int) - 1) = ((i : Nat) : Int) by omega]
      exact atI_nat (map_put hb)
theorem k_read_number (T : TopF K mg) (D : Defs K mg) (c_Reader_read_byte : KMet P w K mg base (L2.CX P w) 1 (He.ga K "Reader") "read_byte" ["self"] (spByte (He.ga K "Reader") (He.ga K "DamagedPacket"))) : KMet P w K mg base (L2.CX P w) 2 (He.ga K "Reader") "read_number" ["self"] (spNumR (He.ga K "Reader") (He.ga K "DamagedPacket")) := by
  refine kmet_mkX D.d_Reader_read_number sc_Reader_read_number bi_Reader_read_number (fun vs H Q E h => ?_) (fun f cdv A outer s H vs Q E hr h => ?_)
  · obtain ⟨_, _, _, _, rfl, _⟩ := h; rfl
  · obtain ⟨r, q, l0, i0, rfl, R0, k1, k0⟩ := h
    have ll : ((l0.drop i0).take 60).length ≤ 60 := by rw [List.length_take]; omega
    have lg : ∀ n, n < 60 → ((l0.drop i0).take 60)[n]? = l0[i0 + n]? := fun n h => by rw [List.getElem?_take, if_pos h, List.getElem?_drop]
    generalize hL : (l0.drop i0).take 60 = l at k1 k0 ll lg
    have nd := sc_Reader_read_number.nd
    refine ⟨_, (pss_cons (ps_set (i := 1) nd rfl (by first | exact Or.inl rfl | exact Or.inr rfl) pe_int)
 (pss_cons (ps_set (i := 2) nd rfl (by first | exact Or.inl rfl | exact Or.inr rfl) pe_int)
 (pss_cons (ps_for (passes_of rfl) rfl (pi_range1 (by rfl) T.range (pa_cons (pe_gint (by rfl) T.c_NUMBER_BYTES) pa_nil)) (pg_name (i := 3) nd rfl (by first | exact Or.inl rfl | exact Or.inr rfl))
 (pss_cons (ps_set (i := 4) nd rfl (by first | exact Or.inl rfl | exact Or.inr rfl) (pe_kmetX0 c_Reader_read_byte hr (by first | decide | exact Nat.le_refl _ | omega) (takes_of rfl rfl rfl rfl) (pv 0)))
 (pss_cons (ps_aug (i := 1) nd rfl (by first | exact Or.inl rfl | exact Or.inr rfl) (pe_op op_mul (pe_op op_mod (pv 4) pe_int) (pv 2)) ip_add)
 (pss_cons (ps_if (pt_cmpR op_lt (pv 4) pe_int (nomark _))
 (pss_cons (ps_if (PW.pt (pw_and (pt_cmpR op_eq (pv 4) pe_int (nomark _)) (pw_and1 (pt_cmpR op_gt (pv 3) pe_int (nomark _)))))
 (pss_one (ps_raise rfl (takes_of rfl rfl rfl rfl) (pmk_own PySem.F.excBase_ValueError (He.exc_ok T.x_DamagedPacket).1 T.g_DamagedPacket (He.exc_ok T.x_DamagedPacket).2.1 (raises_own (He.exc_ok T.x_DamagedPacket).2.2.1 (He.exc_ok T.x_DamagedPacket).2.2.2) rfl))) pss_nil)
 (pss_one (ps_ret (pv 1)))) pss_nil)
 (pss_one (ps_set (i := 2) nd rfl (by first | exact Or.inl rfl | exact Or.inr rfl) (pe_op op_mul (pv 2) pe_int)))))))
 (pss_one (ps_raise rfl (takes_of rfl rfl rfl rfl) (pmk_own PySem.F.excBase_ValueError (He.exc_ok T.x_DamagedPacket).1 T.g_DamagedPacket (He.exc_ok T.x_DamagedPacket).2.1 (raises_own (He.exc_ok T.x_DamagedPacket).2.2.1 (He.exc_ok T.x_DamagedPacket).2.2.2) rfl)))))), ?_⟩
    refine ⟨60, rfl, by decide, by decide, for_range0 (n := 60) (fun i σ H' => Hold (∃ (tot fac : Nat) (v3 v4 : Option V), σ = [some (.ref r), some (.int (tot : Nat)), some (.int (fac : Nat)), v3, v4] ∧ Keep (· = r) H H' ∧ RdAt (He.ga K "Reader") H' r q l0 (i0 + i) ∧ pnum 0 l = (pnum i (l.drop i)).map fun z => (tot + fac * z.1, i + z.2))) ?_ ?_ ?_⟩
    · refine .mk ⟨0, 1, none, none, rfl, Keep.refl _, R0, ?_⟩
      rw [List.drop_zero]
      cases pnum 0 l with
      | none => rfl
      | some z => simp
    · intro i σ H1 hi V
      obtain ⟨tot, fac, v3, v4, rfl, kp, R, hp⟩ := V.out
      have R' := R
      obtain ⟨hq, ⟨dx, hr1⟩, hll⟩ := R'
      refine ⟨_, rfl, r, dx, _, rfl, hr1, rf_no _ _ (by decide +kernel) (by decide +kernel), ?_⟩
      have hi60 : i < 60 := by simpa using hi
      refine ⟨r, q, l0, i0 + i, rfl, R, fun b hb H2 k2 R2 => ?_, fun hb => ?_⟩
      all_goals rw [← lg i hi60] at hb
      · have hd : l.drop i = b :: l.drop (i + 1) := by
          obtain ⟨lt, e⟩ := List.getElem?_eq_some_iff.mp hb
          rw [← e]; exact List.drop_eq_getElem_cons lt
        rw [hd] at hp
        have kp2 := kp.trans k2
        refine ⟨_, rfl, _, rfl, _, _, rfl, rfl, show (0 : Int) < 128 by decide, ?_⟩
        refine ⟨_, rfl, _, _, rfl, rfl, .inl ⟨by omega, by omega⟩, ?_⟩
        refine ⟨_, _, rfl, rfl, ?_⟩
        refine ⟨_, rfl, _, _, rfl, rfl, _, rfl, ?_⟩
        refine ite2 (fun e => ?_) (fun e => ?_)
        · have hb128 : b < 128 := by have := of_decide_eq_true e; omega
          have ep : pnum i (b :: l.drop (i + 1)) = if b = 0 ∧ 0 < i then none else some (b, 1) := by
            show (if b < 128 then _ else _) = _
            rw [if_pos hb128]
          rw [ep] at hp
          have ev : ((tot : Nat) : Int) + ((b : Nat) : Int) % 128 * ((fac : Nat) : Int) = ((tot + fac * b : Nat) : Int) := by
            rw [show ((b : Nat) : Int) % 128 = (b : Nat) by omega, Int.natCast_add, Int.natCast_mul, Int.mul_comm]
          have fin : ¬ (b = 0 ∧ 0 < i) → Q (.int (((tot : Nat) : Int) + ((b : Nat) : Int) % 128 * ((fac : Nat) : Int))) H2 := fun z => by
            rw [if_neg z] at hp
            rw [ev]
            exact k1 _ _ hp H2 kp2 R2
          refine ⟨_, rfl, rfl, _, rfl, ?_⟩
          refine ite2 (fun e1 => ?_) (fun e1 => ?_)
          · have b0 : b = 0 := by have := vint e1; omega
            refine ⟨_, rfl, _, _, rfl, rfl, _, rfl, ?_⟩
            refine ite2 (fun e2 => ?_) (fun e2 => ?_)
            · have := of_decide_eq_true e2
              refine k0 ?_ H2 _ kp2 R2
              rw [hp, if_pos ⟨b0, by omega⟩]; rfl
            · refine ⟨_, rfl, fin fun z => e2 (decide_eq_true (by omega))⟩
          · refine ite2 (fun z => absurd z (by simp)) (fun _ => ?_)
            refine ⟨_, rfl, fin fun z => vintF e1 (by rw [z.1]; rfl)⟩
        · have hb128 : ¬ b < 128 := fun z => e (decide_eq_true (by omega))
          have ep : pnum i (b :: l.drop (i + 1)) = (pnum (i + 1) (l.drop (i + 1))).map fun q => (b % 128 + 128 * q.1, q.2 + 1) := by
            show (if b < 128 then _ else _) = _
            rw [if_neg hb128]
          rw [ep] at hp
          have ev : ((tot : Nat) : Int) + ((b : Nat) : Int) % 128 * ((fac : Nat) : Int) = ((tot + fac * (b % 128) : Nat) : Int) := by
            rw [show ((b : Nat) : Int) % 128 = ((b % 128 : Nat) : Int) by omega, Int.natCast_add, Int.natCast_mul, Int.mul_comm]
          refine ⟨_, rfl, _, _, rfl, rfl, .inr ⟨by decide, by decide⟩, ?_⟩
          refine .mk ⟨tot + fac * (b % 128), fac * 128, some (.int (i : Nat)), some (.int (b : Nat)), by rw [← ev]; rfl, kp2, R2, ?_⟩
          rw [hp]
          cases pnum (i + 1) (l.drop (i + 1)) with
          | none => rfl
          | some z =>
            simp only [Option.map_some]
            congr 2
            · rw [Nat.mul_add, ← Nat.mul_assoc, Nat.add_assoc]
            · omega
      · refine k0 ?_ H1 _ kp R
        rw [hp, List.drop_eq_nil_iff.mpr (by simpa using hb)]; rfl
    · intro σ H1 V
      obtain ⟨tot, fac, v3, v4, rfl, kp, R, hp⟩ := V.out
      refine k0 ?_ H1 _ kp R
      rw [hp, List.drop_eq_nil_iff.mpr ll]; rfl
end
end Mk12
namespace Mk12
open PySem PySem.Spec PyProof.Rows L2 My

/-- what each reading method promises: p is its parser, val tells the value -/
def spP {α : Type} (C CE : Addr) (p : List Nat → Nat → Option (α × Nat)) (val : Hp → V → α → Prop) : Sp := fun vs H Q E => ∃ (r q : Addr) (l : List Nat) (i : Nat), vs = [.ref r] ∧ RdAt C H r q l i ∧
  (∀ v j, p l i = some (v, j) → ∀ (H' : Hp) (x : V), Keep (· = r) H H' → RdAt C H' r q l j → val H' x v → Q x H') ∧ (p l i = none → ∀ (H' : Hp) (j : Nat), Keep (· = r) H H' → RdAt C H' r q l j → E (.ref CE) none H')
def vInt (_ : Hp) (x : V) (n : Nat) : Prop := x = .int (n : Nat)
section
variable {P : Program} {w : World} {K : PySem.W.Frag} {mg : Str → Option Value} {base : Heap}
theorem kmet_imp {CX : CXT} {k : Nat} {C : Addr} {m : Str} {ps : List Str} {sp sp' : Sp} (c : KMet P w K mg base CX k C m ps sp) (h : ∀ vs H Q E, sp' vs H Q E → sp vs H Q E) : KMet P w K mg base CX k C m ps sp' := by
  obtain ⟨f, fd, F, r⟩ := c.ex
  exact ⟨f, fd, F.imp h, r⟩
theorem k_read_count (T : TopF K mg) (D : Defs K mg) (c_Reader_read_number : KMet P w K mg base (L2.CX P w) 2 (He.ga K "Reader") "read_number" ["self"] (spNumR (He.ga K "Reader") (He.ga K "DamagedPacket"))) : KMet P w K mg base (L2.CX P w) 3 (He.ga K "Reader") "read_count" ["self"] (spP (He.ga K "Reader") (He.ga K "DamagedPacket") pCount vInt) := by
  refine kmet_mkX D.d_Reader_read_count sc_Reader_read_count bi_Reader_read_count (fun vs H Q E h => ?_) (fun f cdv A outer s H vs Q E hr h => ?_)
  · obtain ⟨_, _, _, _, rfl, _⟩ := h; rfl
  · obtain ⟨r, q, l, i, rfl, R, k1, k0⟩ := h
    have nd := sc_Reader_read_count.nd
    have cl := D.d_Reader_read_byte.cl
    refine ⟨_, (pss_cons (ps_set (i := 1) nd rfl (by first | exact Or.inl rfl | exact Or.inr rfl) (pe_kmetX0 c_Reader_read_number hr (by first | decide | exact Nat.le_refl _ | omega) (takes_of rfl rfl rfl rfl) (pv 0)))
 (pss_cons (ps_if (pt_cmpR op_gt (pv 1) (pe_op op_sub (pe_callB call_len_seq (by rfl) T.len (by decide +kernel) (pa_cons (pe_fld (pv 0) rfl) pa_nil)) (pe_fld (pv 0) rfl)) (nomark _))
 (pss_one (ps_raise rfl (takes_of rfl rfl rfl rfl) (pmk_own PySem.F.excBase_ValueError (He.exc_ok T.x_DamagedPacket).1 T.g_DamagedPacket (He.exc_ok T.x_DamagedPacket).2.1 (raises_own (He.exc_ok T.x_DamagedPacket).2.2.1 (He.exc_ok T.x_DamagedPacket).2.2.2) rfl))) pss_nil)
 (pss_one (ps_ret (pv 1))))), ?_⟩
    obtain ⟨hq, ⟨dx, hr1⟩, hll⟩ := id R
    refine ⟨_, rfl, r, dx, _, rfl, hr1, rf_no _ _ (by decide +kernel) (by decide +kernel), ?_⟩
    refine ⟨r, q, l, i, rfl, R, fun v k e H' k' R' => ?_, fun e H' j k' R' => k0 (by unfold pCount pNum; rw [e]; rfl) H' j k' R'⟩
    obtain ⟨hq', ⟨dx', hr'⟩, _⟩ := id R'
    refine ⟨_, rfl, _, rfl, r, _, dx', _, _, rfl, hr', cl, T.n_Reader_data, rf_d _ _, _, _, rfl, .inl (SqL.of hq'), ?_⟩
    refine ⟨_, rfl, r, _, dx', _, _, rfl, hr', cl, T.n_Reader_at, rf_a _ _, ?_⟩
    rw [List.length_map]
    refine ⟨_, _, rfl, rfl, _, _, rfl, rfl, _, rfl, ?_⟩
    refine ite2 (fun h => ?_) (fun h => ?_)
    · have h1 := of_decide_eq_true h
      refine k0 ?_ H' _ k' R'
      unfold pCount pNum
      rw [e]
      show (if v + (i + k) ≤ l.length then _ else none) = none
      rw [if_neg (by omega)]
    · have h1 : ¬ ((l.length : Nat) : Int) - ((i + k : Nat) : Int) < ((v : Nat) : Int) := fun z => h (decide_eq_true z)
      refine ⟨_, rfl, k1 v (i + k) ?_ H' _ k' R' rfl⟩
      unfold pCount pNum
      rw [e]
      show (if v + (i + k) ≤ l.length then _ else none) = _
      rw [if_pos (by omega)]
theorem k_num (c : KMet P w K mg base (L2.CX P w) 2 (He.ga K "Reader") "read_number" ["self"] (spNumR (He.ga K "Reader") (He.ga K "DamagedPacket"))) : KMet P w K mg base (L2.CX P w) 2 (He.ga K "Reader") "read_number" ["self"] (spP (He.ga K "Reader") (He.ga K "DamagedPacket") pNum vInt) := by
  refine kmet_imp c fun vs H Q E h => ?_
  obtain ⟨r, q, l, i, rfl, R, k1, k0⟩ := h
  refine ⟨r, q, l, i, rfl, R, fun v k e H' k' R' => k1 v (i + k) (by unfold pNum; rw [e]; rfl) H' _ k' R' rfl, fun e H' j k' R' => k0 (by unfold pNum; rw [e]; rfl) H' j k' R'⟩
def vMark (H : Hp) (x : V) (m : Nat × Nat) : Prop := ∃ t : Addr, x = .ref t ∧ H t = some (.tup [.int (m.1 : Nat), .int (m.2 : Nat)])
theorem k_read_mark (T : TopF K mg) (D : Defs K mg) (c_Reader_read_number : KMet P w K mg base (L2.CX P w) 2 (He.ga K "Reader") "read_number" ["self"] (spP (He.ga K "Reader") (He.ga K "DamagedPacket") pNum vInt)) : KMet P w K mg base (L2.CX P w) 3 (He.ga K "Reader") "read_mark" ["self"] (spP (He.ga K "Reader") (He.ga K "DamagedPacket") pMark vMark) := by
  refine kmet_mkX D.d_Reader_read_mark sc_Reader_read_mark bi_Reader_read_mark (fun vs H Q E h => ?_) (fun f cdv A outer s H vs Q E hr h => ?_)
  · obtain ⟨_, _, _, _, rfl, _⟩ := h; rfl
  · obtain ⟨r, q, l, i, rfl, R, k1, k0⟩ := h
    have nd := sc_Reader_read_mark.nd
    refine ⟨_, (pss_cons (ps_set (i := 1) nd rfl (by first | exact Or.inl rfl | exact Or.inr rfl) (pe_kmetX0 c_Reader_read_number hr (by first | decide | exact Nat.le_refl _ | omega) (takes_of rfl rfl rfl rfl) (pv 0)))
 (pss_one (ps_ret (pe_tup (pa_cons (pv 1) (pa_cons (pe_kmetX0 c_Reader_read_number hr (by first | decide | exact Nat.le_refl _ | omega) (takes_of rfl rfl rfl rfl) (pv 0)) pa_nil)))))), ?_⟩
    obtain ⟨hq, ⟨dx, hr1⟩, hll⟩ := id R
    refine ⟨_, rfl, r, dx, _, rfl, hr1, rf_no _ _ (by decide +kernel) (by decide +kernel), ?_⟩
    refine ⟨r, q, l, i, rfl, R, fun v j e H' x k' R' hx => ?_, fun e H' j k' R' => k0 (by unfold pMark; rw [e]; rfl) H' j k' R'⟩
    obtain rfl : x = .int (v : Nat) := hx
    obtain ⟨hq', ⟨dx', hr'⟩, _⟩ := id R'
    refine ⟨_, rfl, _, rfl, r, dx', _, rfl, hr', rf_no _ _ (by decide +kernel) (by decide +kernel), ?_⟩
    refine ⟨r, q, l, j, rfl, R', fun v2 j2 e2 H2 x2 k2 R2 hx2 => ?_, fun e2 H2 j2 k2 R2 => k0 (by unfold pMark; rw [e]; show ((pNum l j).map _) = none; rw [e2]; rfl) H2 j2 (k'.trans k2) R2⟩
    obtain rfl : x2 = .int (v2 : Nat) := hx2
    refine ⟨by show 2 ≤ sizeLine; decide, fun t nt => ?_⟩
    generalize h3 : upd _ t _ = H3
    have s3 := same_of h3 nt
    have a3 := upd_at h3
    obtain ⟨hq2, ⟨dx2, hr2⟩, _⟩ := R2
    refine k1 (v, v2) j2 (by unfold pMark; rw [e]; show ((pNum l j).map _) = _; rw [e2]; rfl) H3 _ ((k'.trans k2).trans (Keep.of s3)) ⟨s3 _ _ hq2, ⟨dx2, s3 _ _ hr2⟩, hll⟩ ⟨t, rfl, a3⟩
def spChoice (C CE : Addr) : Sp := fun vs H Q E => ∃ (r q : Addr) (l : List Nat) (i c : Nat), vs = [.ref r, .int (c : Nat)] ∧ RdAt C H r q l i ∧
  (∀ v j, pChoice c l i = some (v, j) → ∀ (H' : Hp), Keep (· = r) H H' → RdAt C H' r q l j → Q (.int (v : Nat)) H') ∧ (pChoice c l i = none → ∀ (H' : Hp) (j : Nat), Keep (· = r) H H' → RdAt C H' r q l j → E (.ref CE) none H')
theorem k_read_choice (T : TopF K mg) (D : Defs K mg) (c_Reader_read_byte : KMet P w K mg base (L2.CX P w) 1 (He.ga K "Reader") "read_byte" ["self"] (spByte (He.ga K "Reader") (He.ga K "DamagedPacket"))) : KMet P w K mg base (L2.CX P w) 2 (He.ga K "Reader") "read_choice" ["self", "count"] (spChoice (He.ga K "Reader") (He.ga K "DamagedPacket")) := by
  refine kmet_mkX D.d_Reader_read_choice sc_Reader_read_choice bi_Reader_read_choice (fun vs H Q E h => ?_) (fun f cdv A outer s H vs Q E hr h => ?_)
  · obtain ⟨_, _, _, _, _, rfl, _⟩ := h; rfl
  · obtain ⟨r, q, l, i, c, rfl, R, k1, k0⟩ := h
    have nd := sc_Reader_read_choice.nd
    refine ⟨_, (pss_cons (ps_set (i := 2) nd rfl (by first | exact Or.inl rfl | exact Or.inr rfl) (pe_kmetX0 c_Reader_read_byte hr (by first | decide | exact Nat.le_refl _ | omega) (takes_of rfl rfl rfl rfl) (pv 0)))
 (pss_cons (ps_if (pt_cmpR op_ge (pv 2) (pv 1) (nomark _))
 (pss_one (ps_raise rfl (takes_of rfl rfl rfl rfl) (pmk_own PySem.F.excBase_ValueError (He.exc_ok T.x_DamagedPacket).1 T.g_DamagedPacket (He.exc_ok T.x_DamagedPacket).2.1 (raises_own (He.exc_ok T.x_DamagedPacket).2.2.1 (He.exc_ok T.x_DamagedPacket).2.2.2) rfl))) pss_nil)
 (pss_one (ps_ret (pv 2))))), ?_⟩
    obtain ⟨hq, ⟨dx, hr1⟩, hll⟩ := id R
    refine ⟨_, rfl, r, dx, _, rfl, hr1, rf_no _ _ (by decide +kernel) (by decide +kernel), ?_⟩
    refine ⟨r, q, l, i, rfl, R, fun b e H' k' R' => ?_, fun e => k0 (by unfold pChoice pByte; rw [e]; rfl) H i (Keep.refl _) R⟩
    have ec : pChoice c l i = if b < c then some (b, i + 1) else none := by unfold pChoice pByte; rw [e]; rfl
    refine ⟨_, rfl, _, rfl, _, _, rfl, rfl, _, rfl, ?_⟩
    refine ite2 (fun h => ?_) (fun h => ?_)
    · have h1 := of_decide_eq_true h
      exact k0 (by rw [ec, if_neg (by omega)]) H' _ k' R'
    · have h1 : ¬ ((c : Nat) : Int) ≤ ((b : Nat) : Int) := fun z => h (decide_eq_true z)
      exact ⟨_, rfl, k1 b (i + 1) (by rw [ec, if_pos (by omega)]) H' k' R'⟩
end
end Mk12
namespace Mk12
open PySem PySem.Spec PyProof.Rows L2 My

open SX
def vChr (_ : Hp) (x : V) (c : Nat) : Prop := x = .str (S [c])
theorem bef : (" !\"#$" : Str) = S ((List.range 5).map (32 + ·)) := by decide +kernel
theorem aft : ("&'()*+,-./0123456789:;<=>?@ABCDEFGHIJKLMNOPQRSTUVWXYZ[\\]^_`abcdefghijklmnopqrstuvwxyz{|}~" : Str) = S ((List.range 89).map (38 + ·)) := by decide +kernel
section
variable {P : Program} {w : World} {K : PySem.W.Frag} {mg : Str → Option Value} {base : Heap}
theorem k_read_character (T : TopF K mg) (D : Defs K mg) (c_Reader_read_number : KMet P w K mg base (L2.CX P w) 2 (He.ga K "Reader") "read_number" ["self"] (spP (He.ga K "Reader") (He.ga K "DamagedPacket") pNum vInt)) : KMet P w K mg base (L2.CX P w) 3 (He.ga K "Reader") "read_character" ["self"] (spP (He.ga K "Reader") (He.ga K "DamagedPacket") pChar vChr) := by
  refine kmet_mkX D.d_Reader_read_character sc_Reader_read_character bi_Reader_read_character (fun vs H Q E h => ?_) (fun f cdv A outer s H vs Q E hr h => ?_)
  · obtain ⟨_, _, _, _, rfl, _⟩ := h; rfl
  · obtain ⟨r, q, l, i, rfl, R, k1, k0⟩ := h
    have nd := sc_Reader_read_character.nd
    refine ⟨_, (pss_cons (ps_set (i := 1) nd rfl (by first | exact Or.inl rfl | exact Or.inr rfl) (pe_kmetX0 c_Reader_read_number hr (by first | decide | exact Nat.le_refl _ | omega) (takes_of rfl rfl rfl rfl) (pv 0)))
 (pss_cons (ps_if (pt_cmpR op_eq (pv 1) pe_int (nomark _))
 (pss_one (ps_ret pe_str)) pss_nil)
 (pss_cons (ps_if (pt_chain op_le op_lt pe_int (pv 1) pe_int)
 (pss_one (ps_ret (pe_ix ix_str (pe_gstr (by rfl) T.c_BEFORE_PERCENT) (pe_op op_sub (pv 1) pe_int) (fun _ _ => rfl)))) pss_nil)
 (pss_cons (ps_if (pt_chain op_le op_lt pe_int (pv 1) pe_int)
 (pss_one (ps_ret (pe_ix ix_str (pe_gstr (by rfl) T.c_AFTER_PERCENT) (pe_op op_sub (pv 1) pe_int) (fun _ _ => rfl)))) pss_nil)
 (pss_one (ps_raise rfl (takes_of rfl rfl rfl rfl) (pmk_own PySem.F.excBase_ValueError (He.exc_ok T.x_DamagedPacket).1 T.g_DamagedPacket (He.exc_ok T.x_DamagedPacket).2.1 (raises_own (He.exc_ok T.x_DamagedPacket).2.2.1 (He.exc_ok T.x_DamagedPacket).2.2.2) rfl))))))), ?_⟩
    obtain ⟨hq, ⟨dx, hr1⟩, hll⟩ := id R
    refine ⟨_, rfl, r, dx, _, rfl, hr1, rf_no _ _ (by decide +kernel) (by decide +kernel), ?_⟩
    refine ⟨r, q, l, i, rfl, R, fun v j e H' x k' R' hx => ?_, fun e H' j k' R' => k0 (by unfold pChar; rw [e]; rfl) H' j k' R'⟩
    obtain rfl : x = .int (v : Nat) := hx
    have ep : pChar l i = if okSign v then some (v, j) else none := by unfold pChar; rw [e]; rfl
    refine ⟨_, rfl, rfl, _, rfl, ?_⟩
    refine ite2 (fun h => ?_) (fun h => ?_)
    · have h1 : v = 10 := by have := vint h; omega
      subst h1
      exact k1 10 j (by rw [ep, if_pos (.inl rfl)]) H' _ k' R' (by show V.str _ = V.str _; congr 1)
    have n10 : v ≠ 10 := fun z => vintF h (by rw [z]; rfl)
    -- 38 <= code < 127, or nothing
    have sb : ∀ k, k < 5 → (S ((List.range 5).map (32 + ·))).cps.toList[k]? = some (32 + k) := fun k hk => by
      show ((List.range 5).map (32 + ·)).toArray.toList[k]? = _
      rw [List.toList_toArray, List.getElem?_map, List.getElem?_range hk]; rfl
    have sa : ∀ k, k < 89 → (S ((List.range 89).map (38 + ·))).cps.toList[k]? = some (38 + k) := fun k hk => by
      show ((List.range 89).map (38 + ·)).toArray.toList[k]? = _
      rw [List.toList_toArray, List.getElem?_map, List.getElem?_range hk]; rfl
    refine ⟨_, rfl, _, _, rfl, rfl, _, rfl, ?_⟩
    refine ite2 (fun g1 => ?_) (fun g1 => ?_)
    · refine ⟨_, _, rfl, rfl, _, rfl, ?_⟩
      refine ite2 (fun g2 => ?_) (fun g2 => ?_)
      · have h1 := of_decide_eq_true g1
        have h2 := of_decide_eq_true g2
        refine ⟨_, rfl, _, _, rfl, rfl, ?_⟩
        refine ⟨_, _, v, rfl, rfl, by decide +kernel, ?_, k1 v j (by rw [ep, if_pos (.inr (.inl (by omega)))]) H' _ k' R' rfl⟩
        rw [bef, show ((v : Nat) : Int) - 32 = ((v - 32 : Nat) : Int) by omega]
        refine atI_nat ?_
        rw [sb _ (by omega), show 32 + (v - 32) = v by omega]
      · have h2 : ¬ ((v : Nat) : Int) < 37 := fun z => g2 (decide_eq_true z)
        have hlo : v ≠ 10 ∧ ¬ (32 ≤ v ∧ v < 37) := by omega
        refine ⟨_, rfl, _, _, rfl, rfl, _, rfl, ?_⟩
        refine ite2 (fun g3 => ?_) (fun g3 => ?_)
        · refine ⟨_, _, rfl, rfl, _, rfl, ?_⟩
          refine ite2 (fun g4 => ?_) (fun g4 => ?_)
          · have h3 := of_decide_eq_true g3
            have h4 := of_decide_eq_true g4
            refine ⟨_, rfl, _, _, rfl, rfl, ?_⟩
            refine ⟨_, _, v, rfl, rfl, by decide +kernel, ?_, k1 v j (by rw [ep, if_pos (.inr (.inr (by omega)))]) H' _ k' R' rfl⟩
            rw [aft, show ((v : Nat) : Int) - 38 = ((v - 38 : Nat) : Int) by omega]
            refine atI_nat ?_
            rw [sa _ (by omega), show 38 + (v - 38) = v by omega]
          · have h4 : ¬ ((v : Nat) : Int) < 127 := fun z => g4 (decide_eq_true z)
            exact k0 (by rw [ep, if_neg (by unfold okSign; omega)]) H' _ k' R'
        · refine ⟨_, rfl, ite2 (fun z => by cases z) (fun _ => ?_)⟩
          have h3 : ¬ (38 : Int) ≤ ((v : Nat) : Int) := fun z => g3 (decide_eq_true z)
          exact k0 (by rw [ep, if_neg (by unfold okSign; omega)]) H' _ k' R'
    · refine ⟨_, rfl, ite2 (fun z => by cases z) (fun _ => ?_)⟩
      have h2 : ¬ (32 : Int) ≤ ((v : Nat) : Int) := fun z => g1 (decide_eq_true z)
      have hlo : v ≠ 10 ∧ ¬ (32 ≤ v ∧ v < 37) := by omega
      refine ⟨_, rfl, _, _, rfl, rfl, _, rfl, ?_⟩
      refine ite2 (fun g3 => ?_) (fun g3 => ?_)
      · refine ⟨_, _, rfl, rfl, _, rfl, ?_⟩
        refine ite2 (fun g4 => ?_) (fun g4 => ?_)
        · have h3 := of_decide_eq_true g3
          have h4 := of_decide_eq_true g4
          refine ⟨_, rfl, _, _, rfl, rfl, ?_⟩
          refine ⟨_, _, v, rfl, rfl, by decide +kernel, ?_, k1 v j (by rw [ep, if_pos (.inr (.inr (by omega)))]) H' _ k' R' rfl⟩
          rw [aft, show ((v : Nat) : Int) - 38 = ((v - 38 : Nat) : Int) by omega]
          refine atI_nat ?_
          rw [sa _ (by omega), show 38 + (v - 38) = v by omega]
        · have h4 : ¬ ((v : Nat) : Int) < 127 := fun z => g4 (decide_eq_true z)
          exact k0 (by rw [ep, if_neg (by unfold okSign; omega)]) H' _ k' R'
      · refine ⟨_, rfl, ite2 (fun z => by cases z) (fun _ => ?_)⟩
        have h3 : ¬ (38 : Int) ≤ ((v : Nat) : Int) := fun z => g3 (decide_eq_true z)
        exact k0 (by rw [ep, if_neg (by unfold okSign; omega)]) H' _ k' R'
end
end Mk12
namespace Mk12
open PySem PySem.Spec PyProof.Rows L2 My

open SX
def vStr (_ : Hp) (x : V) (cs : List Nat) : Prop := x = .str (S cs)
section
variable {P : Program} {w : World} {K : PySem.W.Frag} {mg : Str → Option Value} {base : Heap}
theorem k_read_string (T : TopF K mg) (D : Defs K mg) (c_Reader_read_count : KMet P w K mg base (L2.CX P w) 3 (He.ga K "Reader") "read_count" ["self"] (spP (He.ga K "Reader") (He.ga K "DamagedPacket") pCount vInt)) (c_Reader_read_character : KMet P w K mg base (L2.CX P w) 3 (He.ga K "Reader") "read_character" ["self"] (spP (He.ga K "Reader") (He.ga K "DamagedPacket") pChar vChr)) : KMet P w K mg base (L2.CX P w) 4 (He.ga K "Reader") "read_string" ["self"] (spP (He.ga K "Reader") (He.ga K "DamagedPacket") (pList pChar) vStr) := by
  refine kmet_mkX D.d_Reader_read_string sc_Reader_read_string bi_Reader_read_string (fun vs H Q E h => ?_) (fun f cdv A outer s H vs Q E hr h => ?_)
  · obtain ⟨_, _, _, _, rfl, _⟩ := h; rfl
  · obtain ⟨r, q, l, i, rfl, R, k1, k0⟩ := h
    have nd := sc_Reader_read_string.nd
    refine ⟨_, (pss_one (ps_ret (pe_join pe_str (pe_lcX (g := gName 1) (own := [("_", 1)]) rfl nd rfl rfl (takes_of rfl rfl rfl rfl) (pi_range1 (by rfl) T.range (pa_cons (pe_kmetX0 c_Reader_read_count hr (by first | decide | exact Nat.le_refl _ | omega) (takes_of rfl rfl rfl rfl) (pv 0)) pa_nil)) (blkOk_by (own := [("_", 1)]) (N := ["self", "_"]) (sc := defScope s_Reader_read_string) (by decide +kernel)) (fun _ _ _ _ _ _ => (pg_name (i := 1) nd rfl (by first | exact Or.inl rfl | exact Or.inr rfl))) (fun _ _ _ _ _ _ => pts_nil) (fun _ _ _ _ _ _ _ hx => (pe_kmetP0 (E := fun _ => WE _ _) c_Reader_read_character hr (by first | decide | exact Nat.le_refl _ | omega) hx (pv 0))))))), ?_⟩
    obtain ⟨hq, ⟨dx, hr1⟩, hll⟩ := id R
    refine ⟨⟨_, rfl⟩, _, rfl, r, dx, _, rfl, hr1, rf_no _ _ (by decide +kernel) (by decide +kernel), ?_⟩
    refine ⟨r, q, l, i, rfl, R, fun n j e H' x k' R' hx => ?_, fun e H' j k' R' => k0 (by unfold pList; rw [e]; rfl) H' j k' R'⟩
    obtain rfl : x = .int (n : Nat) := hx
    have en : n + j ≤ l.length := by
      unfold pCount at e
      cases e0 : pNum l i with
      | none => rw [e0] at e; cases e
      | some a =>
        rw [e0] at e
        simp only [Option.bind_some] at e
        split at e
        · cases e; assumption
        · cases e
    have epl : pList pChar l i = pRep pChar n l j := by unfold pList; rw [e]; rfl
    rw [epl] at k1 k0
    refine ⟨_, rfl, by omega, by omega, fun D nD => ?_⟩
    refine lc_range0 (n := n) (fun m H2 => Hold (Keep (fun b => b = r ∨ b = D) H' H2 ∧ ∃ (cs : List Nat) (j2 : Nat), pRep pChar m l j = some (cs, j2) ∧ RdAt (He.ga K "Reader") H2 r q l j2 ∧ H2 D = some (.lst (cs.map fun c => V.str (S [c]))) ∧ cs.length = m)) ?_ ?_ ?_
    · obtain ⟨hq', ⟨dx', hr'⟩, _⟩ := id R'
      exact .mk ⟨Keep.new nD, [], j, rfl, ⟨(same_new nD) _ _ hq', ⟨dx', (same_new nD) _ _ hr'⟩, hll⟩, upd_same, rfl⟩
    · intro m H2 hm V
      obtain ⟨k2, cs, j2, ep, R2, hD, hl⟩ := V.out
      obtain ⟨hq2, ⟨dx2, hr2⟩, _⟩ := id R2
      have nDr : D ≠ r := ne_of hD hr2 (by intro z; cases z)
      have nq0 : q ≠ D := fun z => by
        obtain ⟨h, _⟩ := R'
        rw [z, nD] at h; cases h
      have kF : ∀ {H3 : Hp}, Keep (· = r) H2 H3 → Keep (· = r) H H3 := fun k3 => k'.trans ((k2.trans (k3.mono fun b z => .inl (.inl z))).mono fun b z => z.imp id fun z => by rw [z]; exact nD)
      refine ⟨rfl, ?_⟩
      refine ⟨_, rfl, r, dx2, _, rfl, hr2, rf_no _ _ (by decide +kernel) (by decide +kernel), ?_⟩
      refine ⟨r, q, l, j2, rfl, R2, fun c j3 e3 H3 x k3 R3 hx => ?_, fun e3 H3 j3 k3 R3 => ?_⟩
      · obtain rfl : x = .str (S [c]) := hx
        obtain ⟨hq3, ⟨dx3, hr3⟩, _⟩ := R3
        refine ⟨_, k3 _ _ hD nDr, by rw [List.length_map, line24]; omega, .mk ⟨k2.trans ((k3.mono fun b z => .inl (.inl z)).trans (Keep.put (.inr rfl))), cs ++ [c], j3, ?_, ⟨by rw [upd_ne nq0]; exact hq3, ⟨dx3, by rw [upd_ne nDr.symm]; exact hr3⟩, hll⟩, by rw [upd_same]; simp, by simp [hl]⟩⟩
        rw [pRep_snoc, ep]
        show (pChar l j2).map _ = _
        rw [e3]; rfl
      · refine k0 (pRep_none pChar (n := m + 1) (by omega) ?_) H3 j3 (kF k3) R3
        rw [pRep_snoc, ep]
        show (pChar l j2).map _ = _
        rw [e3]; rfl
    intro H2 V
    obtain ⟨k2, cs, j2, ep, R2, hD, hl⟩ := V.out
    clear V
    have e0 : ("" : Str) = S [] := by decide +kernel
    have kF : Keep (· = r) H H2 := k'.trans (k2.mono fun b z => z.imp id fun z => by rw [z]; exact nD)
    refine ⟨_, _, cs.map fun c => S [c], rfl, rfl, .inl (SqL.of (by rw [List.map_map]; exact hD)), ?_, k1 cs j2 ep H2 _ kF R2 ?_⟩
    · rw [e0, S_len, List.length_nil, Nat.mul_zero, List.map_map]
      have : ∀ cs : List Nat, (cs.map ((fun x : Str => x.length) ∘ fun c => S [c])).sum = cs.length := by
        intro cs
        induction cs with
        | nil => rfl
        | cons c cs ih => rw [List.map_cons, List.sum_cons, ih, List.length_cons]; show (S [c]).length + _ = _; rw [S_len]; simp; omega
      rw [this]; omega
    · show L2.V.str _ = L2.V.str _
      congr 1
      have e1 : (cs.map fun c => S [c]) = (cs.map fun c => [c]).map S := by rw [List.map_map]; rfl
      rw [e0, e1, join_S]
      congr 1
      have : ∀ cs : List Nat, TL.joinL [] (cs.map fun c => [c]) = cs := by
        intro cs
        induction cs with
        | nil => rfl
        | cons c cs ih =>
          cases cs with
          | nil => rfl
          | cons d r =>
            show [c] ++ ([] ++ TL.joinL [] ((d :: r).map fun c => [c])) = _
            rw [ih]; rfl
      exact this cs
end
end Mk12
namespace Mk12
open PySem PySem.Spec PyProof.Rows L2 My

open SX
/-! ### deeds as data -/
def encM (m : Nat × Nat) : PyData := .tuple [.int (m.1 : Nat), .int (m.2 : Nat)]
def encO : Option (Nat × Nat) → PyData
  | none => .none
  | some m => encM m
def encD : Deed → PyData
  | .back n => .tuple [.str "back", .int (n : Nat)]
  | .change mo rm be nu te => .tuple [.str "change", .str (S mo), .tuple (rm.map encM), encO be, .int (nu : Nat), .str (S te)]
def encT (t : Nat × Nat × Deed) : PyData := .tuple [.int (t.1 : Nat), .int (t.2.1 : Nat), encD t.2.2]
mutual
/-- data without lists -/
def flatP : PyData → Bool
  | .list _ => false
  | .dict _ => false
  | .tuple ds => flatA ds
  | _ => true
def flatA : List PyData → Bool
  | [] => true
  | d :: ds => flatP d && flatA ds
end
theorem seqT_keep {K : PySem.W.Frag} {H H' : Hp} {r a : Addr} {o : HO} {xs : List V} (k : Keep (· = r) H H') (hr : H r = some o) (n1 : ∀ ys, o ≠ .tup ys) (n2 : ∀ p u, o ≠ .frz p u) (h : SqT K H a xs) : SqT K H' a xs := by
  rcases h with (h | ⟨p, h⟩) | h
  · exact .inl (.inl (k _ _ h fun z => by rw [z, hr] at h; cases h; exact n1 _ rfl))
  · exact .inl (.inr ⟨p, k _ _ h fun z => by rw [z, hr] at h; cases h; exact n2 _ _ rfl⟩)
  · exact .inr h
mutual
theorem Dp.keep1 {K : PySem.W.Frag} {H H' : Hp} {r : Addr} {o : HO} (k : Keep (· = r) H H') (hr : H r = some o) (n1 : ∀ ys, o ≠ .tup ys) (n2 : ∀ p u, o ≠ .frz p u) : ∀ {d : PyData} {v : V}, flatP d = true → Dp K H v d → Dp K H' v d
  | _, _, _, .non => .non
  | _, _, _, .bl b => .bl b
  | _, _, _, .int i => .int i
  | _, _, _, .str x => .str x
  | _, _, f, .lst _ _ => by cases f
  | _, _, f, .tup s t => .tup (seqT_keep k hr n1 n2 s) (DpAll.keep1 k hr n1 n2 f t)
theorem DpAll.keep1 {K : PySem.W.Frag} {H H' : Hp} {r : Addr} {o : HO} (k : Keep (· = r) H H') (hr : H r = some o) (n1 : ∀ ys, o ≠ .tup ys) (n2 : ∀ p u, o ≠ .frz p u) : ∀ {ds : List PyData} {vs : List V}, flatA ds = true → DpAll K H vs ds → DpAll K H' vs ds
  | _, _, _, .nil => .nil
  | _, _, f, .cons a t => by
    unfold flatA at f
    have f := Bool.and_eq_true_iff.mp f
    exact .cons (Dp.keep1 k hr n1 n2 f.1 a) (DpAll.keep1 k hr n1 n2 f.2 t)
end
theorem flat_M (m : Nat × Nat) : flatP (encM m) = true := rfl
theorem flat_Ms : ∀ rm : List (Nat × Nat), flatA (rm.map encM) = true
  | [] => rfl
  | m :: rm => by
    show (flatP (encM m) && flatA (rm.map encM)) = true
    rw [flat_Ms rm]; rfl
theorem flat_D : ∀ d : Deed, flatP (encD d) = true
  | .back n => rfl
  | .change mo rm be nu te => by
    show (true && (true && (flatA (rm.map encM) && (flatP (encO be) && (true && (true && true)))))) = true
    rw [flat_Ms]
    cases be <;> rfl
theorem flat_O (be : Option (Nat × Nat)) : flatP (encO be) = true := by cases be <;> rfl
theorem Dp.keepR {K : PySem.W.Frag} {H H' : Hp} {r C dx : Addr} {fs : List (Str × V)} {v : V} {d : PyData} (h : Dp K H v d) (k : Keep (· = r) H H') (hr : H r = some (.ins C dx fs)) (f : flatP d = true) : Dp K H' v d := Dp.keep1 k hr (by intro _ z; cases z) (by intro _ _ z; cases z) f h
theorem flat_T (t : Nat × Nat × Deed) : flatP (encT t) = true := by
  show (true && (true && (flatP (encD t.2.2) && true))) = true
  rw [flat_D]; rfl
end Mk12
namespace Mk12
open PySem PySem.Spec PyProof.Rows L2 My

/-- a list that grows, of data without lists -/
def LD (K : PySem.W.Frag) (H : Hp) (D : Addr) (ds : List PyData) : Prop := ∃ vs, H D = some (.lst vs) ∧ DpAll K H vs ds
theorem LD.nil {K : PySem.W.Frag} {H : Hp} {D : Addr} (h : H D = some (.lst [])) : LD K H D [] := ⟨[], h, .nil⟩
theorem DpAll.snoc {K : PySem.W.Frag} {H : Hp} {x : V} {d : PyData} (a : Dp K H x d) : ∀ {vs : List V} {ds : List PyData}, DpAll K H vs ds → DpAll K H (vs ++ [x]) (ds ++ [d])
  | _, _, .nil => .cons a .nil
  | _, _, .cons b t => .cons b (DpAll.snoc a t)
theorem LD.keepR {K : PySem.W.Frag} {H H' : Hp} {D r : Addr} {ds : List PyData} {C dx : Addr} {fs : List (Str × V)} (h : LD K H D ds) (f : flatA ds = true) (k : Keep (· = r) H H') (hr : H r = some (.ins C dx fs)) : LD K H' D ds := by
  obtain ⟨vs, h1, h2⟩ := h
  exact ⟨vs, k _ _ h1 (ne_of h1 hr (by intro z; cases z)), DpAll.keep1 k hr (by intro _ z; cases z) (by intro _ _ z; cases z) f h2⟩
theorem LD.push {K : PySem.W.Frag} {H : Hp} {D : Addr} {ds : List PyData} {x : V} {d : PyData} (h : LD K H D ds) (f : flatA ds = true) (a : Dp K H x d) (fd : flatP d = true) : ∃ vs, H D = some (.lst vs) ∧ vs.length = ds.length ∧ LD K (upd H D (.lst (vs ++ [x]))) D (ds ++ [d]) := by
  obtain ⟨vs, h1, h2⟩ := h
  have k : Keep (· = D) H (upd H D (.lst (vs ++ [x]))) := Keep.put rfl
  exact ⟨vs, h1, DpAll.len h2, vs ++ [x], upd_same, DpAll.snoc (Dp.keep1 k h1 (by intro _ z; cases z) (by intro _ _ z; cases z) fd a) (DpAll.keep1 k h1 (by intro _ z; cases z) (by intro _ _ z; cases z) f h2)⟩
theorem pRep_len {α : Type} {p : List Nat → Nat → Option (α × Nat)} : ∀ {n : Nat} {l : List Nat} {i j : Nat} {as : List α}, pRep p n l i = some (as, j) → as.length = n
  | 0, _, _, _, _, h => by cases h; rfl
  | n + 1, l, i, j, as, h => by
    unfold pRep at h
    cases e : p l i with
    | none => rw [e] at h; cases h
    | some a =>
      rw [e] at h
      simp only [Option.bind_some] at h
      cases e2 : pRep p n l a.2 with
      | none => rw [e2] at h; cases h
      | some b =>
        rw [e2] at h
        cases h
        simp [pRep_len e2]
theorem flatA_map {α : Type} {enc : α → PyData} (h : ∀ a, flatP (enc a) = true) : ∀ as : List α, flatA (as.map enc) = true
  | [] => rfl
  | a :: as => by
    show (flatP (enc a) && flatA (as.map enc)) = true
    rw [h, flatA_map h as]; rfl
theorem pCount_le {l : List Nat} {i n j : Nat} (e : pCount l i = some (n, j)) : n + j ≤ l.length := by
  unfold pCount at e
  cases e0 : pNum l i with
  | none => rw [e0] at e; cases e
  | some a =>
    rw [e0] at e
    simp only [Option.bind_some] at e
    split at e
    · cases e; assumption
    · cases e
end Mk12
namespace Mk12
open PySem PySem.Spec PyProof.Rows L2 My

open SX
def vD {α : Type} (K : PySem.W.Frag) (enc : α → PyData) (H : Hp) (x : V) (v : α) : Prop := Dp K H x (enc v)
theorem RdAt.same {C : Addr} {H H' : Hp} {r q : Addr} {l : List Nat} {i : Nat} (R : RdAt C H r q l i) (s : Same H H') : RdAt C H' r q l i := by
  obtain ⟨h1, ⟨dx, h2⟩, h3⟩ := R
  exact ⟨s _ _ h1, ⟨dx, s _ _ h2⟩, h3⟩
section
variable {P : Program} {w : World} {K : PySem.W.Frag} {mg : Str → Option Value} {base : Heap}
theorem k_read_deed (T : TopF K mg) (D : Defs K mg) (c_Reader_read_choice : KMet P w K mg base (L2.CX P w) 2 (He.ga K "Reader") "read_choice" ["self", "count"] (spChoice (He.ga K "Reader") (He.ga K "DamagedPacket"))) (c_Reader_read_number : KMet P w K mg base (L2.CX P w) 2 (He.ga K "Reader") "read_number" ["self"] (spP (He.ga K "Reader") (He.ga K "DamagedPacket") pNum vInt))
    (c_Reader_read_count : KMet P w K mg base (L2.CX P w) 3 (He.ga K "Reader") "read_count" ["self"] (spP (He.ga K "Reader") (He.ga K "DamagedPacket") pCount vInt)) (c_Reader_read_mark : KMet P w K mg base (L2.CX P w) 3 (He.ga K "Reader") "read_mark" ["self"] (spP (He.ga K "Reader") (He.ga K "DamagedPacket") pMark vMark))
    (c_Reader_read_string : KMet P w K mg base (L2.CX P w) 4 (He.ga K "Reader") "read_string" ["self"] (spP (He.ga K "Reader") (He.ga K "DamagedPacket") (pList pChar) vStr)) : KMet P w K mg base (L2.CX P w) 5 (He.ga K "Reader") "read_deed" ["self"] (spP (He.ga K "Reader") (He.ga K "DamagedPacket") pDeed (vD K encD)) := by
  refine kmet_mkX D.d_Reader_read_deed sc_Reader_read_deed bi_Reader_read_deed (fun vs H Q E h => ?_) (fun f cdv A outer s H vs Q E hr h => ?_)
  · obtain ⟨_, _, _, _, rfl, _⟩ := h; rfl
  · obtain ⟨r, q, l, i, rfl, R, k1, k0⟩ := h
    have nd := sc_Reader_read_deed.nd
    have nor : ∀ {m : Str} {q : Addr} {i : Nat}, (m == ("data" : Str)) = false → (m == ("at" : Str)) = false → (rf q i).lookup m = none := fun a b => rf_no _ _ a b
    refine ⟨_, (pss_cons (ps_if (pt_cmpR op_eq (pe_kmetX c_Reader_read_choice hr (by first | decide | exact Nat.le_refl _ | omega) (takes_of rfl rfl rfl rfl) (pv 0) (pa_cons pe_int pa_nil)) pe_int (nomark _))
 (pss_one (ps_ret (pe_tup (pa_cons pe_str (pa_cons (pe_kmetX0 c_Reader_read_number hr (by first | decide | exact Nat.le_refl _ | omega) (takes_of rfl rfl rfl rfl) (pv 0)) pa_nil))))) pss_nil)
 (pss_cons (ps_set (i := 1) nd rfl (by first | exact Or.inl rfl | exact Or.inr rfl) (pe_kmetX0 c_Reader_read_string hr (by first | decide | exact Nat.le_refl _ | omega) (takes_of rfl rfl rfl rfl) (pv 0)))
 (pss_cons (ps_set (i := 2) nd rfl (by first | exact Or.inl rfl | exact Or.inr rfl) (pe_callTy call_tuple_of (by rfl) T.tuple (by decide +kernel) (pa_cons (pe_lcX (g := gName 5) (own := [("_", 5)]) rfl nd rfl rfl (takes_of rfl rfl rfl rfl) (pi_range1 (by rfl) T.range (pa_cons (pe_kmetX0 c_Reader_read_count hr (by first | decide | exact Nat.le_refl _ | omega) (takes_of rfl rfl rfl rfl) (pv 0)) pa_nil)) (blkOk_by (own := [("_", 5)]) (N := ["self", "module", "removed", "behind", "number", "_"]) (sc := defScope s_Reader_read_deed) (by decide +kernel)) (fun _ _ _ _ _ _ => (pg_name (i := 5) nd rfl (by first | exact Or.inl rfl | exact Or.inr rfl))) (fun _ _ _ _ _ _ => pts_nil) (fun _ _ _ _ _ _ _ hx => (pe_kmetP0 (E := fun _ => WE _ _) c_Reader_read_mark hr (by first | decide | exact Nat.le_refl _ | omega) hx (pv 0)))) pa_nil)))
 (pss_cons (ps_set (i := 3) nd rfl (by first | exact Or.inl rfl | exact Or.inr rfl) pe_non)
 (C8.pss_cut (ps_if (pt_cmpR op_eq (pe_kmetX c_Reader_read_choice hr (by first | decide | exact Nat.le_refl _ | omega) (takes_of rfl rfl rfl rfl) (pv 0) (pa_cons pe_int pa_nil)) pe_int (nomark _))
 (pss_one (ps_set (i := 3) nd rfl (by first | exact Or.inl rfl | exact Or.inr rfl) (pe_kmetX0 c_Reader_read_mark hr (by first | decide | exact Nat.le_refl _ | omega) (takes_of rfl rfl rfl rfl) (pv 0)))) pss_nil)
 (pss_cons (ps_set (i := 4) nd rfl (by first | exact Or.inl rfl | exact Or.inr rfl) (pe_kmetX0 c_Reader_read_number hr (by first | decide | exact Nat.le_refl _ | omega) (takes_of rfl rfl rfl rfl) (pv 0)))
 (pss_one (ps_ret (pe_tup (pa_cons pe_str (pa_cons (pv 1) (pa_cons (pv 2) (pa_cons (pv 3) (pa_cons (pv 4) (pa_cons (pe_kmetX0 c_Reader_read_string hr (by first | decide | exact Nat.le_refl _ | omega) (takes_of rfl rfl rfl rfl) (pv 0)) pa_nil))))))))))))))), ?_⟩
    obtain ⟨hq, ⟨dx, hr1⟩, hll⟩ := id R
    refine ⟨_, rfl, r, dx, _, rfl, hr1, rf_no _ _ (by decide +kernel) (by decide +kernel), ?_⟩
    refine ⟨r, q, l, i, 2, rfl, R, fun c j e1 H1 kk1 R1 => ?_, fun e H' j k' R' => k0 (by unfold pDeed; rw [e]; rfl) H' j k' R'⟩
    refine ⟨rfl, _, rfl, ?_⟩
    refine ite2 (fun h => ?_) (fun h => ?_)
    · have hc : c = 1 := by have := vint h; omega
      have ed : pDeed l i = (pNum l j).map fun n => (.back n.1, n.2) := by
        unfold pDeed; rw [e1]
        show (if c = 1 then _ else _) = _
        rw [if_pos hc]
      obtain ⟨hq1, ⟨dx1, hr1⟩, _⟩ := id R1
      refine ⟨_, rfl, r, dx1, _, rfl, hr1, rf_no _ _ (by decide +kernel) (by decide +kernel), ?_⟩
      refine ⟨r, q, l, j, rfl, R1, fun n j2 e2 H2 x kk2 R2 hx => ?_, fun e2 H2 j2 kk2 R2 => k0 (by rw [ed, e2]; rfl) H2 j2 (kk1.trans kk2) R2⟩
      obtain rfl : x = .int (n : Nat) := hx
      refine ⟨by show 2 ≤ sizeLine; decide, fun t nt => ?_⟩
      generalize h3 : upd _ t _ = H3
      have s3 := same_of h3 nt
      have a3 := upd_at h3
      exact k1 (.back n) j2 (by rw [ed, e2]; rfl) H3 _ ((kk1.trans kk2).trans (Keep.of s3)) (R2.same s3) (.tup (.inl (.inl a3)) (.cons (.str _) (.cons (.int _) .nil)))
    have hc : ¬ c = 1 := fun z => vintF h (by rw [z]; rfl)
    have ed : pDeed l i = pChange l j := by
      unfold pDeed; rw [e1]
      show (if c = 1 then _ else _) = _
      rw [if_neg hc]
    rw [ed] at k1 k0
    obtain ⟨hq1, ⟨dx1, hr1⟩, _⟩ := id R1
    -- module
    refine ⟨_, rfl, r, dx1, _, rfl, hr1, rf_no _ _ (by decide +kernel) (by decide +kernel), ?_⟩
    refine ⟨r, q, l, j, rfl, R1, fun mo j2 e2 H2 x kk2 R2 hx => ?_, fun e2 H2 j2 kk2 R2 => k0 (by unfold pChange; rw [e2]; rfl) H2 j2 (kk1.trans kk2) R2⟩
    obtain rfl : x = .str (S mo) := hx
    have K2 := kk1.trans kk2
    have p2 : pChange l j = (pList pMark l j2).bind fun rm => (pBehind l rm.2).bind fun be => (pNum l be.2).bind fun nu => (pList pChar l nu.2).map fun te => (.change mo rm.1 be.1 nu.1 te.1, te.2) := by unfold pChange; rw [e2]; rfl
    rw [p2] at k1 k0
    obtain ⟨hq2, ⟨dx2, hr2⟩, _⟩ := id R2
    -- removed
    refine ⟨_, rfl, r, dx2, _, rfl, hr2, rf_no _ _ (by decide +kernel) (by decide +kernel), ?_⟩
    refine ⟨r, q, l, j2, rfl, R2, fun n j3 e3 H3 x kk3 R3 hx => ?_, fun e3 H3 j3 kk3 R3 => k0 (by unfold pList; rw [e3]; rfl) H3 j3 (K2.trans kk3) R3⟩
    obtain rfl : x = .int (n : Nat) := hx
    have K3 := K2.trans kk3
    have en := pCount_le e3
    have epl : pList pMark l j2 = pRep pMark n l j3 := by unfold pList; rw [e3]; rfl
    rw [epl] at k1 k0
    refine ⟨_, rfl, by omega, by omega, fun D nD => ?_⟩
    have nq0 : q ≠ D := fun z => by
      obtain ⟨h, _⟩ := R3
      rw [z, nD] at h; cases h
    refine lc_range0 (n := n) (fun m H2 => Hold (Keep (fun b => b = r ∨ b = D) H3 H2 ∧ ∃ (ms : List (Nat × Nat)) (j4 : Nat), pRep pMark m l j3 = some (ms, j4) ∧ RdAt (He.ga K "Reader") H2 r q l j4 ∧ LD K H2 D (ms.map encM))) ?_ ?_ ?_
    · exact .mk ⟨Keep.new nD, [], j3, rfl, R3.same (same_new nD), LD.nil upd_same⟩
    · intro m H4 hm V
      obtain ⟨k4, ms, j4, ep, R4, hD⟩ := V.out
      clear V
      obtain ⟨hq4, ⟨dx4, hr4⟩, _⟩ := id R4
      have nDr : D ≠ r := by
        obtain ⟨vs, h, _⟩ := hD
        exact ne_of h hr4 (by intro z; cases z)
      have kF : ∀ {H5 : Hp}, Keep (· = r) H4 H5 → Keep (· = r) H H5 := fun k5 => K3.trans ((k4.trans (k5.mono fun b z => .inl (.inl z))).mono fun b z => z.imp id fun z => by rw [z]; exact nD)
      refine ⟨rfl, ?_⟩
      refine ⟨_, rfl, r, dx4, _, rfl, hr4, rf_no _ _ (by decide +kernel) (by decide +kernel), ?_⟩
      refine ⟨r, q, l, j4, rfl, R4, fun c j5 e5 H5 x k5 R5 hx => ?_, fun e5 H5 j5 k5 R5 => ?_⟩
      · obtain ⟨t, rfl, ht⟩ := hx
        have hD5 := hD.keepR (flat_Ms ms) k5 hr4
        have hM : Dp K H5 (.ref t) (encM c) := .tup (.inl (.inl ht)) (.cons (.int _) (.cons (.int _) .nil))
        obtain ⟨vs, h1, h2, h3⟩ := hD5.push (flat_Ms ms) hM (flat_M c)
        obtain ⟨hq5, ⟨dx5, hr5⟩, _⟩ := R5
        have hml := pRep_len ep
        refine ⟨vs, h1, by rw [h2, List.length_map, line24]; omega, .mk ⟨k4.trans ((k5.mono fun b z => .inl (.inl z)).trans (Keep.put (.inr rfl))), ms ++ [c], j5, ?_, ⟨by rw [upd_ne nq0]; exact hq5, ⟨dx5, by rw [upd_ne nDr.symm]; exact hr5⟩, hll⟩, by rw [List.map_append]; exact h3⟩⟩
        rw [pRep_snoc, ep]
        show (pMark l j4).map _ = _
        rw [e5]; rfl
      · refine k0 ?_ H5 j5 (kF k5) R5
        rw [pRep_none pMark (n := m + 1) (by omega) (by
          rw [pRep_snoc, ep]
          show (pMark l j4).map _ = _
          rw [e5]; rfl)]
        rfl
    intro H4 V
    obtain ⟨k4, ms, j4, ep, R4, hD⟩ := V.out
    clear V
    obtain ⟨vs, hD1, hD2⟩ := hD
    have K4 : Keep (· = r) H H4 := K3.trans (k4.mono fun b z => z.imp id fun z => by rw [z]; exact nD)
    refine ⟨D, vs, rfl, .inl ⟨SqL.of hD1, fun t nt => ?_⟩⟩
    generalize h5 : upd _ t _ = H5
    have s5 := same_of h5 nt
    have a5 := upd_at h5
    have R5 := R4.same s5
    have hT : Dp K H5 (.ref t) (.tuple (ms.map encM)) := .tup (.inl (.inl a5)) (DpAll.same s5 hD2)
    have K5 : Keep (· = r) H H5 := K4.trans (Keep.of s5)
    rw [ep] at k1 k0
    simp only [Option.bind_some] at k1 k0
    obtain ⟨hq5, ⟨dx5, hr5⟩, _⟩ := id R5
    refine ⟨fun σ' H6 => ∃ (x : V) (be : Option (Nat × Nat)) (j5 : Nat), σ' = [some (.ref r), some (.str (S mo)), some (.ref t), some x, none, none] ∧ Keep (· = r) H5 H6 ∧ RdAt (He.ga K "Reader") H6 r q l j5 ∧ pBehind l j4 = some (be, j5) ∧ Dp K H6 x (encO be), ?_, ?_⟩
    · refine ⟨_, rfl, r, dx5, _, rfl, hr5, rf_no _ _ (by decide +kernel) (by decide +kernel), ?_⟩
      refine ⟨r, q, l, j4, 2, rfl, R5, fun c j5 e5 H6 k6 R6 => ?_, fun e5 H6 j5 k6 R6 => k0 (by unfold pBehind; rw [e5]; rfl) H6 j5 (K5.trans k6) R6⟩
      refine ⟨rfl, _, rfl, ?_⟩
      refine ite2 (fun h => ?_) (fun h => ?_)
      · have hc : c = 1 := by have := vint h; omega
        have eb : pBehind l j4 = (pMark l j5).map fun m => (some m.1, m.2) := by
          unfold pBehind; rw [e5]
          show (if c = 1 then _ else _) = _
          rw [if_pos hc]
        obtain ⟨hq6, ⟨dx6, hr6⟩, _⟩ := id R6
        refine ⟨_, rfl, r, dx6, _, rfl, hr6, rf_no _ _ (by decide +kernel) (by decide +kernel), ?_⟩
        refine ⟨r, q, l, j5, rfl, R6, fun m j6 e6 H7 x k7 R7 hx => ?_, fun e6 H7 j6 k7 R7 => k0 (by rw [eb, e6]; rfl) H7 j6 (K5.trans (k6.trans k7)) R7⟩
        obtain ⟨t2, rfl, ht2⟩ := hx
        exact ⟨_, some m, j6, rfl, k6.trans k7, R7, by rw [eb, e6]; rfl, .tup (.inl (.inl ht2)) (.cons (.int _) (.cons (.int _) .nil))⟩
      · have hc : ¬ c = 1 := fun z => vintF h (by rw [z]; rfl)
        refine ⟨_, none, j5, rfl, k6, R6, ?_, .non⟩
        unfold pBehind; rw [e5]
        show (if c = 1 then _ else _) = _
        rw [if_neg hc]
    · rintro σ' H6 ⟨x, be, j5, rfl, k6, R6, e6, hx⟩
      have K6 := K5.trans k6
      rw [e6] at k1 k0
      simp only [Option.bind_some] at k1 k0
      obtain ⟨hq6, ⟨dx6, hr6⟩, _⟩ := id R6
      refine ⟨_, rfl, r, dx6, _, rfl, hr6, rf_no _ _ (by decide +kernel) (by decide +kernel), ?_⟩
      refine ⟨r, q, l, j5, rfl, R6, fun nu j7 e7 H7 y k7 R7 hy => ?_, fun e7 H7 j7 k7 R7 => k0 (by rw [e7]; rfl) H7 j7 (K6.trans k7) R7⟩
      obtain rfl : y = .int (nu : Nat) := hy
      have K7 := K6.trans k7
      rw [e7] at k1 k0
      simp only [Option.bind_some] at k1 k0
      obtain ⟨hq7, ⟨dx7, hr7⟩, _⟩ := id R7
      refine ⟨_, rfl, _, rfl, _, rfl, _, rfl, _, rfl, r, dx7, _, rfl, hr7, rf_no _ _ (by decide +kernel) (by decide +kernel), ?_⟩
      refine ⟨r, q, l, j7, rfl, R7, fun te j8 e8 H8 z k8 R8 hz => ?_, fun e8 H8 j8 k8 R8 => k0 (by rw [e8]; rfl) H8 j8 (K7.trans k8) R8⟩
      obtain rfl : z = .str (S te) := hz
      have hx8 := Dp.keepR hx (k7.trans k8) hr6 (flat_O be)
      have hT8 := Dp.keepR hT (k6.trans (k7.trans k8)) hr5 (flat_Ms ms)
      refine ⟨by show 6 ≤ sizeLine; decide, fun p np => ?_⟩
      generalize h9 : upd _ p _ = H9
      have s9 := same_of h9 np
      have a9 := upd_at h9
      exact k1 (.change mo ms be nu te) j8 (by rw [e8]; rfl) H9 _ ((K7.trans k8).trans (Keep.of s9)) (R8.same s9) (.tup (.inl (.inl a9)) (.cons (.str _) (.cons (.str _) (.cons (Dp.same s9 hT8) (.cons (Dp.same s9 hx8) (.cons (.int _) (.cons (.str _) .nil)))))))
end
end Mk12
namespace Mk12
open PySem PySem.Spec PyProof.Rows L2 My

open SX
def encTs (ts : List (Nat × Nat × Deed)) : PyData := .list (ts.map encT)
def spEnd (C CE : Addr) : Sp := fun vs H Q E => ∃ (r q : Addr) (l : List Nat) (i : Nat), vs = [.ref r] ∧ RdAt C H r q l i ∧ (l.length ≤ i → Q .non H) ∧ (i < l.length → E (.ref CE) none H)
section
variable {P : Program} {w : World} {K : PySem.W.Frag} {mg : Str → Option Value} {base : Heap}
theorem k_end (T : TopF K mg) (D : Defs K mg) : KMet P w K mg base (L2.CX P w) 1 (He.ga K "Reader") "end" ["self"] (spEnd (He.ga K "Reader") (He.ga K "DamagedPacket")) := by
  refine kmet_mkX D.d_Reader_end sc_Reader_end bi_Reader_end (fun vs H Q E h => ?_) (fun f cdv A outer s H vs Q E hr h => ?_)
  · obtain ⟨_, _, _, _, rfl, _⟩ := h; rfl
  · obtain ⟨r, q, l, i, rfl, ⟨hq, ⟨dx, hr1⟩, hll⟩, k1, k0⟩ := h
    have nd := sc_Reader_end.nd
    have cl := D.d_Reader_read_byte.cl
    refine ⟨_, (pss_one (ps_if (pt_cmpR op_lt (pe_fld (pv 0) rfl) (pe_callB call_len_seq (by rfl) T.len (by decide +kernel) (pa_cons (pe_fld (pv 0) rfl) pa_nil)) (nomark _))
 (pss_one (ps_raise rfl (takes_of rfl rfl rfl rfl) (pmk_own PySem.F.excBase_ValueError (He.exc_ok T.x_DamagedPacket).1 T.g_DamagedPacket (He.exc_ok T.x_DamagedPacket).2.1 (raises_own (He.exc_ok T.x_DamagedPacket).2.2.1 (He.exc_ok T.x_DamagedPacket).2.2.2) rfl))) pss_nil)), ?_⟩
    refine ⟨_, rfl, r, _, dx, _, _, rfl, hr1, cl, T.n_Reader_at, rf_a _ _, ?_⟩
    refine ⟨_, rfl, r, _, dx, _, _, rfl, hr1, cl, T.n_Reader_data, rf_d _ _, _, _, rfl, .inl (SqL.of hq), ?_⟩
    rw [List.length_map]
    refine ⟨_, _, rfl, rfl, _, rfl, ?_⟩
    refine ite2 (fun e => ?_) (fun e => ?_)
    · have := of_decide_eq_true e
      exact k0 (by omega)
    · have : ¬ ((i : Nat) : Int) < (l.length : Nat) := fun z => e (decide_eq_true z)
      exact k1 (by omega)
theorem k_read_triple (T : TopF K mg) (D : Defs K mg) (c_Reader_read_number : KMet P w K mg base (L2.CX P w) 2 (He.ga K "Reader") "read_number" ["self"] (spP (He.ga K "Reader") (He.ga K "DamagedPacket") pNum vInt))
    (c_Reader_read_deed : KMet P w K mg base (L2.CX P w) 5 (He.ga K "Reader") "read_deed" ["self"] (spP (He.ga K "Reader") (He.ga K "DamagedPacket") pDeed (vD K encD))) : KMet P w K mg base (L2.CX P w) 6 (He.ga K "Reader") "read_triple" ["self"] (spP (He.ga K "Reader") (He.ga K "DamagedPacket") pTriple (vD K encT)) := by
  refine kmet_mkX D.d_Reader_read_triple sc_Reader_read_triple bi_Reader_read_triple (fun vs H Q E h => ?_) (fun f cdv A outer s H vs Q E hr h => ?_)
  · obtain ⟨_, _, _, _, rfl, _⟩ := h; rfl
  · obtain ⟨r, q, l, i, rfl, R, k1, k0⟩ := h
    have nd := sc_Reader_read_triple.nd
    refine ⟨_, (pss_cons (ps_set (i := 1) nd rfl (by first | exact Or.inl rfl | exact Or.inr rfl) (pe_kmetX0 c_Reader_read_number hr (by first | decide | exact Nat.le_refl _ | omega) (takes_of rfl rfl rfl rfl) (pv 0)))
 (pss_cons (ps_set (i := 2) nd rfl (by first | exact Or.inl rfl | exact Or.inr rfl) (pe_kmetX0 c_Reader_read_number hr (by first | decide | exact Nat.le_refl _ | omega) (takes_of rfl rfl rfl rfl) (pv 0)))
 (pss_one (ps_ret (pe_tup (pa_cons (pv 1) (pa_cons (pv 2) (pa_cons (pe_kmetX0 c_Reader_read_deed hr (by first | decide | exact Nat.le_refl _ | omega) (takes_of rfl rfl rfl rfl) (pv 0)) pa_nil)))))))), ?_⟩
    obtain ⟨hq, ⟨dx, hr1⟩, hll⟩ := id R
    refine ⟨_, rfl, r, dx, _, rfl, hr1, rf_no _ _ (by decide +kernel) (by decide +kernel), ?_⟩
    refine ⟨r, q, l, i, rfl, R, fun a j e H' x k' R' hx => ?_, fun e H' j k' R' => k0 (by unfold pTriple; rw [e]; rfl) H' j k' R'⟩
    obtain rfl : x = .int (a : Nat) := hx
    obtain ⟨hq', ⟨dx', hr'⟩, _⟩ := id R'
    have p1 : pTriple l i = (pNum l j).bind fun b => (pDeed l b.2).map fun d => ((a, b.1, d.1), d.2) := by unfold pTriple; rw [e]; rfl
    rw [p1] at k1 k0
    refine ⟨_, rfl, r, dx', _, rfl, hr', rf_no _ _ (by decide +kernel) (by decide +kernel), ?_⟩
    refine ⟨r, q, l, j, rfl, R', fun b j2 e2 H2 x k2 R2 hx => ?_, fun e2 H2 j2 k2 R2 => k0 (by rw [e2]; rfl) H2 j2 (k'.trans k2) R2⟩
    obtain rfl : x = .int (b : Nat) := hx
    rw [e2] at k1 k0
    simp only [Option.bind_some] at k1 k0
    obtain ⟨hq2, ⟨dx2, hr2⟩, _⟩ := id R2
    refine ⟨_, rfl, _, rfl, _, rfl, r, dx2, _, rfl, hr2, rf_no _ _ (by decide +kernel) (by decide +kernel), ?_⟩
    refine ⟨r, q, l, j2, rfl, R2, fun d j3 e3 H3 x k3 R3 hx => ?_, fun e3 H3 j3 k3 R3 => k0 (by rw [e3]; rfl) H3 j3 ((k'.trans k2).trans k3) R3⟩
    refine ⟨by show 3 ≤ sizeLine; decide, fun t nt => ?_⟩
    generalize h4 : upd _ t _ = H4
    have s4 := same_of h4 nt
    have a4 := upd_at h4
    exact k1 (a, b, d) j3 (by rw [e3]; rfl) H4 _ (((k'.trans k2).trans k3).trans (Keep.of s4)) (R3.same s4) (.tup (.inl (.inl a4)) (.cons (.int _) (.cons (.int _) (.cons (Dp.same s4 hx) .nil))))
theorem k_read_triples (T : TopF K mg) (D : Defs K mg) (c_Reader_read_count : KMet P w K mg base (L2.CX P w) 3 (He.ga K "Reader") "read_count" ["self"] (spP (He.ga K "Reader") (He.ga K "DamagedPacket") pCount vInt))
    (c_Reader_read_triple : KMet P w K mg base (L2.CX P w) 6 (He.ga K "Reader") "read_triple" ["self"] (spP (He.ga K "Reader") (He.ga K "DamagedPacket") pTriple (vD K encT))) : KMet P w K mg base (L2.CX P w) 7 (He.ga K "Reader") "read_triples" ["self"] (spP (He.ga K "Reader") (He.ga K "DamagedPacket") pTriples (vD K encTs)) := by
  refine kmet_mkX D.d_Reader_read_triples sc_Reader_read_triples bi_Reader_read_triples (fun vs H Q E h => ?_) (fun f cdv A outer s H vs Q E hr h => ?_)
  · obtain ⟨_, _, _, _, rfl, _⟩ := h; rfl
  · obtain ⟨r, q, l, i, rfl, R, k1, k0⟩ := h
    have nd := sc_Reader_read_triples.nd
    refine ⟨_, (pss_one (ps_ret (pe_lcX (g := gName 1) (own := [("_", 1)]) rfl nd rfl rfl (takes_of rfl rfl rfl rfl) (pi_range1 (by rfl) T.range (pa_cons (pe_kmetX0 c_Reader_read_count hr (by first | decide | exact Nat.le_refl _ | omega) (takes_of rfl rfl rfl rfl) (pv 0)) pa_nil)) (blkOk_by (own := [("_", 1)]) (N := ["self", "_"]) (sc := defScope s_Reader_read_triples) (by decide +kernel)) (fun _ _ _ _ _ _ => (pg_name (i := 1) nd rfl (by first | exact Or.inl rfl | exact Or.inr rfl))) (fun _ _ _ _ _ _ => pts_nil) (fun _ _ _ _ _ _ _ hx => (pe_kmetP0 (E := fun _ => WE _ _) c_Reader_read_triple hr (by first | decide | exact Nat.le_refl _ | omega) hx (pv 0)))))), ?_⟩
    obtain ⟨hq, ⟨dx, hr1⟩, hll⟩ := id R
    refine ⟨_, rfl, r, dx, _, rfl, hr1, rf_no _ _ (by decide +kernel) (by decide +kernel), ?_⟩
    refine ⟨r, q, l, i, rfl, R, fun n j3 e3 H3 x K3 R3 hx => ?_, fun e3 H3 j3 kk3 R3 => k0 (by unfold pTriples pList; rw [e3]; rfl) H3 j3 kk3 R3⟩
    obtain rfl : x = .int (n : Nat) := hx
    have en := pCount_le e3
    have epl : pTriples l i = pRep pTriple n l j3 := by unfold pTriples pList; rw [e3]; rfl
    rw [epl] at k1 k0
    refine ⟨_, rfl, by omega, by omega, fun D nD => ?_⟩
    have nq0 : q ≠ D := fun z => by
      obtain ⟨h, _⟩ := R3
      rw [z, nD] at h; cases h
    have fm := flatA_map (enc := encT) flat_T
    refine lc_range0 (n := n) (fun m H2 => Hold (Keep (fun b => b = r ∨ b = D) H3 H2 ∧ ∃ (ms : List (Nat × Nat × Deed)) (j4 : Nat), pRep pTriple m l j3 = some (ms, j4) ∧ RdAt (He.ga K "Reader") H2 r q l j4 ∧ LD K H2 D (ms.map encT))) ?_ ?_ ?_
    · exact .mk ⟨Keep.new nD, [], j3, rfl, R3.same (same_new nD), LD.nil upd_same⟩
    · intro m H4 hm V
      obtain ⟨k4, ms, j4, ep, R4, hD⟩ := V.out
      clear V
      obtain ⟨hq4, ⟨dx4, hr4⟩, _⟩ := id R4
      have nDr : D ≠ r := by
        obtain ⟨vs, h, _⟩ := hD
        exact ne_of h hr4 (by intro z; cases z)
      have kF : ∀ {H5 : Hp}, Keep (· = r) H4 H5 → Keep (· = r) H H5 := fun k5 => K3.trans ((k4.trans (k5.mono fun b z => .inl (.inl z))).mono fun b z => z.imp id fun z => by rw [z]; exact nD)
      refine ⟨rfl, ?_⟩
      refine ⟨_, rfl, r, dx4, _, rfl, hr4, rf_no _ _ (by decide +kernel) (by decide +kernel), ?_⟩
      refine ⟨r, q, l, j4, rfl, R4, fun c j5 e5 H5 x k5 R5 hx => ?_, fun e5 H5 j5 k5 R5 => ?_⟩
      · have hD5 := hD.keepR (fm ms) k5 hr4
        obtain ⟨vs, h1, h2, h3⟩ := hD5.push (fm ms) hx (flat_T c)
        obtain ⟨hq5, ⟨dx5, hr5⟩, _⟩ := R5
        have hml := pRep_len ep
        refine ⟨vs, h1, by rw [h2, List.length_map, line24]; omega, .mk ⟨k4.trans ((k5.mono fun b z => .inl (.inl z)).trans (Keep.put (.inr rfl))), ms ++ [c], j5, ?_, ⟨by rw [upd_ne nq0]; exact hq5, ⟨dx5, by rw [upd_ne nDr.symm]; exact hr5⟩, hll⟩, by rw [List.map_append]; exact h3⟩⟩
        rw [pRep_snoc, ep]
        show (pTriple l j4).map _ = _
        rw [e5]; rfl
      · refine k0 (pRep_none pTriple (n := m + 1) (by omega) ?_) H5 j5 (kF k5) R5
        rw [pRep_snoc, ep]
        show (pTriple l j4).map _ = _
        rw [e5]; rfl
    intro H4 V
    obtain ⟨k4, ms, j4, ep, R4, hD⟩ := V.out
    clear V
    obtain ⟨vs, hD1, hD2⟩ := hD
    exact k1 ms j4 ep H4 _ (K3.trans (k4.mono fun b z => z.imp id fun z => by rw [z]; exact nD)) R4 (.lst (SqL.of hD1) hD2)
theorem k_read_packet (T : TopF K mg) (D : Defs K mg) (c_Reader_read_byte : KMet P w K mg base (L2.CX P w) 1 (He.ga K "Reader") "read_byte" ["self"] (spByte (He.ga K "Reader") (He.ga K "DamagedPacket")))
    (c_Reader_read_triples : KMet P w K mg base (L2.CX P w) 7 (He.ga K "Reader") "read_triples" ["self"] (spP (He.ga K "Reader") (He.ga K "DamagedPacket") pTriples (vD K encTs))) : KMet P w K mg base (L2.CX P w) 8 (He.ga K "Reader") "read_packet" ["self"] (spP (He.ga K "Reader") (He.ga K "DamagedPacket") pPacket (vD K encTs)) := by
  refine kmet_mkX D.d_Reader_read_packet sc_Reader_read_packet bi_Reader_read_packet (fun vs H Q E h => ?_) (fun f cdv A outer s H vs Q E hr h => ?_)
  · obtain ⟨_, _, _, _, rfl, _⟩ := h; rfl
  · obtain ⟨r, q, l, i, rfl, R, k1, k0⟩ := h
    have nd := sc_Reader_read_packet.nd
    refine ⟨_, (pss_cons (ps_if (pt_cmpR op_ne (pe_kmetX0 c_Reader_read_byte hr (by first | decide | exact Nat.le_refl _ | omega) (takes_of rfl rfl rfl rfl) (pv 0)) pe_int (nomark _))
 (pss_one (ps_raise rfl (takes_of rfl rfl rfl rfl) (pmk_own PySem.F.excBase_ValueError (He.exc_ok T.x_DamagedPacket).1 T.g_DamagedPacket (He.exc_ok T.x_DamagedPacket).2.1 (raises_own (He.exc_ok T.x_DamagedPacket).2.2.1 (He.exc_ok T.x_DamagedPacket).2.2.2) rfl))) pss_nil)
 (pss_one (ps_ret (pe_kmetX0 c_Reader_read_triples hr (by first | decide | exact Nat.le_refl _ | omega) (takes_of rfl rfl rfl rfl) (pv 0))))), ?_⟩
    obtain ⟨hq, ⟨dx, hr1⟩, hll⟩ := id R
    refine ⟨_, rfl, r, dx, _, rfl, hr1, rf_no _ _ (by decide +kernel) (by decide +kernel), ?_⟩
    refine ⟨r, q, l, i, rfl, R, fun b e H' k' R' => ?_, fun e => k0 (by unfold pPacket pByte; rw [e]; rfl) H i (Keep.refl _) R⟩
    have ep : pPacket l i = if b = 1 then pTriples l (i + 1) else none := by unfold pPacket pByte; rw [e]; rfl
    rw [ep] at k1 k0
    refine ⟨rfl, _, rfl, ?_⟩
    refine ite2 (fun h => ?_) (fun h => ?_)
    · refine k0 (if_neg fun z => ?_) H' _ k' R'
      rw [z] at h; simp at h
    · have hb : b = 1 := by
        have : ¬ ¬ (V.int ((b : Nat) : Int) = V.int 1) := fun z => h (by simpa using z)
        have := V.int.inj (Classical.not_not.mp this)
        omega
      rw [if_pos hb] at k1 k0
      obtain ⟨hq', ⟨dx', hr'⟩, _⟩ := id R'
      refine ⟨_, rfl, r, dx', _, rfl, hr', rf_no _ _ (by decide +kernel) (by decide +kernel), ?_⟩
      exact ⟨r, q, l, i + 1, rfl, R', fun v j e2 H2 x k2 R2 hx => k1 v j e2 H2 x (k'.trans k2) R2 hx, fun e2 H2 j k2 R2 => k0 e2 H2 j (k'.trans k2) R2⟩
end
end Mk12
namespace Mk12
open PySem PySem.Spec PyProof.Rows L2 My

abbrev BL (H : Hp) (p : Addr) (l : List Nat) : Prop := H p = some (.lst (nums l))
/-- lists of bytes -/
inductive Ls (H : Hp) : List Addr → List (List Nat) → Prop where
  | nil : Ls H [] []
  | cons {p : Addr} {l : List Nat} {ps : List Addr} {ls : List (List Nat)} (h : BL H p l) (t : Ls H ps ls) : Ls H (p :: ps) (l :: ls)
theorem Ls.len {H : Hp} {ps : List Addr} {ls : List (List Nat)} (h : Ls H ps ls) : ps.length = ls.length := by
  induction h with
  | nil => rfl
  | cons _ _ ih => simp [ih]
theorem Ls.snoc {H : Hp} {ps : List Addr} {ls : List (List Nat)} {p : Addr} {l : List Nat} (h : Ls H ps ls) (a : BL H p l) : Ls H (ps ++ [p]) (ls ++ [l]) := by
  induction h with
  | nil => exact .cons a .nil
  | cons b _ ih => exact .cons b ih
theorem Ls.keep {H H' : Hp} {ps : List Addr} {ls : List (List Nat)} (h : Ls H ps ls) (f : ∀ p l, p ∈ ps → BL H p l → BL H' p l) : Ls H' ps ls := by
  induction h with
  | nil => exact .nil
  | cons b _ ih => exact .cons (f _ _ (by simp) b) (ih fun p l m => f p l (by simp [m]))
theorem Ls.get {H : Hp} {ps : List Addr} {ls : List (List Nat)} (h : Ls H ps ls) : ∀ {i : Nat} {p : Addr}, ps[i]? = some p → ∃ l, ls[i]? = some l ∧ BL H p l := by
  induction h with
  | nil => intro i p e; simp at e
  | cons b _ ih =>
    intro i p e
    cases i with
    | zero => simp at e; subst e; exact ⟨_, rfl, b⟩
    | succ i => obtain ⟨l, h1, h2⟩ := ih (i := i) (p := p) (by simpa using e); exact ⟨l, by simpa using h1, h2⟩
/-- a list of lists of bytes that grows -/
def LL (H : Hp) (D : Addr) (ls : List (List Nat)) : Prop := ∃ ps : List Addr, H D = some (.lst (ps.map V.ref)) ∧ Ls H ps ls ∧ D ∉ ps
theorem LL.nil {H : Hp} {D : Addr} (h : H D = some (.lst [])) : LL H D [] := ⟨[], h, .nil, by simp⟩
theorem LL.push {H H1 : Hp} {D p : Addr} {ls : List (List Nat)} {l : List Nat} (h : LL H D ls) (s : Same H H1) (n : H p = none) (a : BL H1 p l) : ∃ vs, H1 D = some (.lst vs) ∧ vs.length = ls.length ∧ LL (upd H1 D (.lst (vs ++ [.ref p]))) D (ls ++ [l]) := by
  obtain ⟨ps, h1, h2, h3⟩ := h
  have np : p ≠ D := fun z => by rw [z, h1] at n; cases n
  refine ⟨ps.map V.ref, s _ _ h1, by rw [List.length_map, h2.len], ps ++ [p], by rw [upd_same]; simp, ?_, by simp [h3]; exact fun z => np z.symm⟩
  refine (h2.keep fun q l m e => ?_).snoc (by show upd H1 D _ p = _; rw [upd_ne np]; exact a)
  show upd H1 D _ q = _
  rw [upd_ne (fun z : q = D => h3 (by rw [← z]; exact m))]
  exact s _ _ e
theorem take_succ_flat {α : Type} {ls : List (List α)} {i : Nat} {l : List α} (h : ls[i]? = some l) : (ls.take (i + 1)).flatten = (ls.take i).flatten ++ l := by
  rw [List.take_add_one, h]; simp
theorem take_flat_le {α : Type} (ls : List (List α)) (i : Nat) : (ls.take i).flatten.length ≤ ls.flatten.length := by
  have : ls.flatten = (ls.take i).flatten ++ (ls.drop i).flatten := by rw [← List.flatten_append, List.take_append_drop]
  rw [this, List.length_append]; omega
theorem same_put {H H' : Hp} {D : Addr} {o : HO} (s : Same H H') (n : H D = none) : Same H (upd H' D o) := fun b u e => by rw [upd_ne (ne_of_none e n)]; exact s _ _ e
theorem LL.push2 {H0 H H1 : Hp} {D p : Addr} {ls : List (List Nat)} {l : List Nat} (h : LL H D ls) (s0 : Same H0 H) (n0 : H0 D = none) (s : Same H H1) (n : H p = none) (a : BL H1 p l) : ∃ vs, H1 D = some (.lst vs) ∧ vs.length = ls.length ∧ Same H0 (upd H1 D (.lst (vs ++ [.ref p]))) ∧ LL (upd H1 D (.lst (vs ++ [.ref p]))) D (ls ++ [l]) := by
  obtain ⟨vs, h1, h2, h3⟩ := h.push s n a
  exact ⟨vs, h1, h2, same_put (s0.trans s) n0, h3⟩
theorem nums_len (l : List Nat) : (nums l).length = l.length := List.length_map _
end Mk12
namespace Mk12
open PySem PySem.Spec PyProof.Rows L2 My

open SX
/-- a def that makes a list of bytes of its argument -/
def spW {α : Type} (arg : Hp → V → α → Prop) (ok : α → Prop) (w : α → List Nat) : Sp := fun vs H Q _ => ∃ (x : V) (v : α), vs = [x] ∧ arg H x v ∧ ok v ∧ ∀ (H' : Hp) (p : Addr), Same H H' → H p = none → BL H' p (w v) → Q (.ref p) H'
def spNum : Sp := fun vs H Q _ => ∃ n : Nat, vs = [.int (n : Nat)] ∧ n < big ∧ ∀ (H' : Hp) (p : Addr), Same H H' → H p = none → H' p = some (.lst (nums (num n))) → Q (.ref p) H'
def spWL : Sp := fun vs H Q _ => ∃ (a : Addr) (ls : List (List Nat)), vs = [.ref a] ∧ LL H a ls ∧ ls.length < 1000 ∧ ls.flatten.length ≤ 100000 ∧ ∀ (H' : Hp) (p : Addr), Same H H' → H p = none → BL H' p (num ls.length ++ ls.flatten) → Q (.ref p) H'
def aStr (_ : Hp) (x : V) (cs : List Nat) : Prop := x = .str (S cs)
def aD {α : Type} (K : PySem.W.Frag) (enc : α → PyData) (H : Hp) (x : V) (v : α) : Prop := Dp K H x (enc v)
theorem dp_list {K : PySem.W.Frag} {H : Hp} {x : V} {ds : List PyData} (h : Dp K H x (.list ds)) : ∃ a vs, x = .ref a ∧ SqL K H a vs ∧ DpAll K H vs ds := by
  cases h with
  | lst s t => exact ⟨_, _, rfl, s, t⟩
theorem dp_tup {K : PySem.W.Frag} {H : Hp} {x : V} {ds : List PyData} (h : Dp K H x (.tuple ds)) : ∃ a vs, x = .ref a ∧ SqT K H a vs ∧ DpAll K H vs ds := by
  cases h with
  | tup s t => exact ⟨_, _, rfl, s, t⟩
theorem dp_int {K : PySem.W.Frag} {H : Hp} {x : V} {i : Int} (h : Dp K H x (.int i)) : x = .int i := by cases h; rfl
theorem dp_str {K : PySem.W.Frag} {H : Hp} {x : V} {i : Str} (h : Dp K H x (.str i)) : x = .str i := by cases h; rfl
theorem dp_mark {K : PySem.W.Frag} {H : Hp} {x : V} {m : Nat × Nat} (h : Dp K H x (encM m)) : ∃ a, x = .ref a ∧ SqT K H a [.int (m.1 : Nat), .int (m.2 : Nat)] := by
  obtain ⟨a, vs, rfl, s, t⟩ := dp_tup h
  cases t with
  | cons t1 t =>
  cases t with
  | cons t2 t =>
  cases t
  rw [dp_int t1, dp_int t2] at s
  exact ⟨a, rfl, s⟩
theorem dp_back {K : PySem.W.Frag} {H : Hp} {x : V} {n : Nat} (h : Dp K H x (encD (.back n))) : ∃ a, x = .ref a ∧ SqT K H a [.str "back", .int (n : Nat)] := by
  obtain ⟨a, vs, rfl, s, t⟩ := dp_tup h
  cases t with
  | cons t1 t =>
  cases t with
  | cons t2 t =>
  cases t
  rw [dp_str t1, dp_int t2] at s
  exact ⟨a, rfl, s⟩
theorem dp_change {K : PySem.W.Frag} {H : Hp} {x : V} {mo te : List Nat} {rm : List (Nat × Nat)} {be : Option (Nat × Nat)} {nu : Nat} (h : Dp K H x (encD (.change mo rm be nu te))) : ∃ a b vs y, x = .ref a ∧ SqT K H a [.str "change", .str (S mo), .ref b, y, .int (nu : Nat), .str (S te)] ∧ SqT K H b vs ∧ DpAll K H vs (rm.map encM) ∧ Dp K H y (encO be) := by
  obtain ⟨a, vs, rfl, s, t⟩ := dp_tup h
  cases t with
  | cons t1 t =>
  cases t with
  | cons t2 t =>
  cases t with
  | cons t3 t =>
  cases t with
  | cons t4 t =>
  cases t with
  | cons t5 t =>
  cases t with
  | cons t6 t =>
  cases t
  obtain ⟨b, ws, rfl, s3, t3⟩ := dp_tup t3
  rw [dp_str t1, dp_str t2, dp_int t5, dp_str t6] at s
  exact ⟨a, b, ws, _, rfl, s, s3, t3, t4⟩
theorem dp_triple {K : PySem.W.Frag} {H : Hp} {x : V} {t : Nat × Nat × Deed} (h : Dp K H x (encT t)) : ∃ a y, x = .ref a ∧ SqT K H a [.int (t.1 : Nat), .int (t.2.1 : Nat), y] ∧ Dp K H y (encD t.2.2) := by
  obtain ⟨a, vs, rfl, s, t⟩ := dp_tup h
  cases t with
  | cons t1 t =>
  cases t with
  | cons t2 t =>
  cases t with
  | cons t3 t =>
  cases t
  rw [dp_int t1, dp_int t2] at s
  exact ⟨a, _, rfl, s, t3⟩
theorem tnil {K : PySem.W.Frag} {H : Hp} {xs : List V} (h : DpAll K H xs []) : xs = [] := by cases h; rfl
section
variable {P : Program} {w : World} {K : PySem.W.Frag} {mg : Str → Option Value} {base : Heap}
theorem k_write_number (T : TopF K mg) (D : Defs K mg) : Kal P w K mg base CX0 1 "write_number" ["number"] spNum := by
  refine kal_mk D.d_write_number sc_write_number bi_write_number (fun vs H Q E h => ?_) (fun f cdv A outer s H vs Q E hr h => ?_)
  · obtain ⟨_, rfl, _⟩ := h; rfl
  · obtain ⟨n, rfl, hn, kk⟩ := h
    have nd := sc_write_number.nd
    refine ⟨_, (pss_cons (ps_set (i := 1) nd rfl (by first | exact Or.inl rfl | exact Or.inr rfl) (pe_lst pa_nil))
 (pss_cons (ps_while PassesOwn.never (pt_cmpR op_ge (pv 0) pe_int (nomark _))
 (pss_cons (ps_expr (pe_bm PySem.F.plainAttrs_list PySem.F.slot_list_append PySem.F.type_list_append mt_append (pv 1) (pa_cons (pe_op op_add (pe_op op_mod (pv 0) pe_int) pe_int) pa_nil)))
 (pss_one (ps_set (i := 0) nd rfl (by first | exact Or.inl rfl | exact Or.inr rfl) (pe_op op_fdiv (pv 0) pe_int)))))
 (pss_one (ps_ret (pe_op op_cat (pv 1) (pe_lst (pa_cons (pv 0) pa_nil))))))), ?_⟩
    refine ⟨Nat.zero_le _, fun p np => ?_⟩
    generalize hp : upd _ p _ = H1
    have s1 := same_of hp np
    have ap := upd_at hp
    refine ⟨fun m σ H' => Hold (∃ cs : List Nat, σ = [some (.int (m : Nat)), some (.ref p)] ∧ Same H H' ∧ H' p = some (.lst (nums cs)) ∧ num n = cs ++ num m), ⟨n, .mk ⟨[], rfl, s1, ap, rfl⟩⟩, ?_⟩
    rintro m σ H2 V
    obtain ⟨cs, rfl, s2, a2, hc⟩ := V.out
    have hl := num10 hn
    have hm := num_pos m
    rw [hc, List.length_append] at hl
    refine ⟨_, rfl, _, _, rfl, rfl, _, rfl, ?_⟩
    refine ite2 (fun e => ?_) (fun e => ?_)
    · have hm : ¬ m < 128 := by have := of_decide_eq_true e; omega
      refine ⟨_, fun _ _ h => h, ?_⟩
      rw [num_hi hm] at hc
      refine ⟨_, rfl, .inl ⟨rfl, _, SqL.of a2⟩, ?_⟩
      refine ⟨_, rfl, _, _, rfl, rfl, show (0 : Int) < 128 by decide, _, _, rfl, rfl, ?_⟩
      refine ⟨p, _, _, rfl, rfl, a2, by rw [List.length_map, line24]; omega, ?_⟩
      generalize h3 : upd _ p _ = H3
      have k3 : Keep (· = p) H2 H3 := keep_of h3 rfl
      have a3 := upd_at h3
      refine ⟨_, rfl, _, _, rfl, rfl, show (0 : Int) < 128 ∧ (128 : Int) < 1073741824 by decide, ?_⟩
      refine ⟨m / 128, by omega, .mk ⟨cs ++ [m % 128 + 128], rfl, fun b o e => k3 _ _ (s2 _ _ e) (ne_of_none e np), by rw [a3]; simp, by rw [hc]; simp⟩⟩
    · have hm : m < 128 := by
        have : ¬ ((m : Int) ≥ 128) := fun z => e (decide_eq_true z)
        omega
      rw [num_lo hm] at hc
      refine ⟨_, rfl, _, rfl, by show 1 ≤ sizeLine; decide, fun q nq => ?_⟩
      generalize h3 : upd _ q _ = H3
      have s3 := same_of h3 nq
      have a3 := upd_at h3
      refine ⟨p, q, _, _, rfl, rfl, s3 _ _ a2, a3, by rw [List.length_map, line24]; simp; omega, fun r nr => ?_⟩
      generalize h4 : upd _ r _ = H4
      have s4 := same_of h4 nr
      have a4 := upd_at h4
      have sA := s2.trans s3
      refine kk H4 r (sA.trans s4) (sA.free nr) ?_
      rw [a4, hc]; simp
theorem k__law_number (T : TopF K mg) (D : Defs K mg) : Kal P w K mg base CX0 1 "_law_number" ["number"] spNum := by
  refine kal_mk D.d__law_number sc__law_number bi__law_number (fun vs H Q E h => ?_) (fun f cdv A outer s H vs Q E hr h => ?_)
  · obtain ⟨_, rfl, _⟩ := h; rfl
  · obtain ⟨n, rfl, hn, kk⟩ := h
    have nd := sc__law_number.nd
    refine ⟨_, (pss_cons (ps_set (i := 1) nd rfl (by first | exact Or.inl rfl | exact Or.inr rfl) (pe_lst pa_nil))
 (pss_cons (ps_while PassesOwn.never (pt_cmpR op_gt (pv 0) pe_int (nomark _))
 (pss_cons (ps_expr (pe_bm PySem.F.plainAttrs_list PySem.F.slot_list_append PySem.F.type_list_append mt_append (pv 1) (pa_cons (pe_op op_add (pe_op op_mod (pv 0) pe_int) pe_int) pa_nil)))
 (pss_one (ps_set (i := 0) nd rfl (by first | exact Or.inl rfl | exact Or.inr rfl) (pe_op op_fdiv (pv 0) pe_int)))))
 (pss_one (ps_ret (pe_op op_cat (pv 1) (pe_lst (pa_cons (pv 0) pa_nil))))))), ?_⟩
    refine ⟨Nat.zero_le _, fun p np => ?_⟩
    generalize hp : upd _ p _ = H1
    have s1 := same_of hp np
    have ap := upd_at hp
    refine ⟨fun m σ H' => Hold (∃ cs : List Nat, σ = [some (.int (m : Nat)), some (.ref p)] ∧ Same H H' ∧ H' p = some (.lst (nums cs)) ∧ num n = cs ++ num m), ⟨n, .mk ⟨[], rfl, s1, ap, rfl⟩⟩, ?_⟩
    rintro m σ H2 V
    obtain ⟨cs, rfl, s2, a2, hc⟩ := V.out
    have hl := num10 hn
    have hm := num_pos m
    rw [hc, List.length_append] at hl
    refine ⟨_, rfl, _, _, rfl, rfl, _, rfl, ?_⟩
    refine ite2 (fun e => ?_) (fun e => ?_)
    · have hm : ¬ m < 128 := by have := of_decide_eq_true e; omega
      refine ⟨_, fun _ _ h => h, ?_⟩
      rw [num_hi hm] at hc
      refine ⟨_, rfl, .inl ⟨rfl, _, SqL.of a2⟩, ?_⟩
      refine ⟨_, rfl, _, _, rfl, rfl, show (0 : Int) < 128 by decide, _, _, rfl, rfl, ?_⟩
      refine ⟨p, _, _, rfl, rfl, a2, by rw [List.length_map, line24]; omega, ?_⟩
      generalize h3 : upd _ p _ = H3
      have k3 : Keep (· = p) H2 H3 := keep_of h3 rfl
      have a3 := upd_at h3
      refine ⟨_, rfl, _, _, rfl, rfl, show (0 : Int) < 128 ∧ (128 : Int) < 1073741824 by decide, ?_⟩
      refine ⟨m / 128, by omega, .mk ⟨cs ++ [m % 128 + 128], rfl, fun b o e => k3 _ _ (s2 _ _ e) (ne_of_none e np), by rw [a3]; simp [Int.add_comm], by rw [hc]; simp⟩⟩
    · have hm : m < 128 := by
        have : ¬ ((m : Int) > 127) := fun z => e (decide_eq_true z)
        omega
      rw [num_lo hm] at hc
      refine ⟨_, rfl, _, rfl, by show 1 ≤ sizeLine; decide, fun q nq => ?_⟩
      generalize h3 : upd _ q _ = H3
      have s3 := same_of h3 nq
      have a3 := upd_at h3
      refine ⟨p, q, _, _, rfl, rfl, s3 _ _ a2, a3, by rw [List.length_map, line24]; simp; omega, fun r nr => ?_⟩
      generalize h4 : upd _ r _ = H4
      have s4 := same_of h4 nr
      have a4 := upd_at h4
      have sA := s2.trans s3
      refine kk H4 r (sA.trans s4) (sA.free nr) ?_
      rw [a4, hc]; simp
theorem k_write_list (T : TopF K mg) (D : Defs K mg) (c_write_number : Kal P w K mg base CX0 1 "write_number" ["number"] spNum) : Kal P w K mg base CX0 2 "write_list" ["items"] spWL := by
  refine kal_mk D.d_write_list sc_write_list bi_write_list (fun vs H Q E h => ?_) (fun f cdv A outer s H vs Q E hr h => ?_)
  · obtain ⟨_, _, rfl, _⟩ := h; rfl
  · obtain ⟨a, ls, rfl, ⟨ps, ha, hls, nap⟩, hn, hf, kk⟩ := h
    have nd := sc_write_list.nd
    have el := hls.len
    refine ⟨_, (pss_cons (ps_set (i := 1) nd rfl (by first | exact Or.inl rfl | exact Or.inr rfl) (pe_kal c_write_number hr (by first | decide | exact Nat.le_refl _ | omega) (pa_cons (pe_callB call_len_seq (by rfl) T.len (by decide +kernel) (pa_cons (pv 0) pa_nil)) pa_nil)))
 (pss_cons (ps_for PassesOwn.never rfl (pi_list (pv 0)) (pg_name (i := 2) nd rfl (by first | exact Or.inl rfl | exact Or.inr rfl))
 (pss_one (ps_expr (pe_bm PySem.F.plainAttrs_list PySem.F.slot_list_extend PySem.F.type_list_extend mt_extend (pv 1) (pa_cons (pv 2) pa_nil)))))
 (pss_one (ps_ret (pv 1))))), ?_⟩
    refine ⟨_, rfl, _, _, rfl, .inl (SqL.of ha), ls.length, by rw [List.length_map, el]; rfl, Nat.lt_trans hn (by decide), fun H1 q s1 nq aq => ?_⟩
    have naq : a ≠ q := ne_of_none ha nq
    have npq : ∀ p ∈ ps, ∀ l, BL H p l → p ≠ q := fun p m l e => ne_of_none e nq
    have hz := num10 (n := ls.length) (Nat.lt_trans hn (by decide))
    refine ⟨_, rfl, a, rfl, ⟨_, SqL.of (s1 _ _ ha)⟩, for_list (K := K) (a := a) (xs := ps.map V.ref) (fun i σ H' => Hold (∃ v2 : Option V, σ = [some (.ref a), some (.ref q), v2] ∧ Keep (· = q) H1 H' ∧ BL H' q (num ls.length ++ (ls.take i).flatten))) ?_ ?_ ?_ ?_⟩
    · exact .mk ⟨none, rfl, Keep.refl _, by rw [List.take_zero, List.flatten_nil, List.append_nil]; exact aq⟩
    · intro i σ H' _ V
      obtain ⟨_, rfl, k, _⟩ := V.out
      exact k.seq naq (SqL.of (s1 _ _ ha))
    · intro i x σ H' hx V
      obtain ⟨v2, rfl, k, hq⟩ := V.out
      obtain ⟨p, hp, rfl⟩ := map_get hx
      obtain ⟨l, hl, hb⟩ := hls.get hp
      have hb' := k _ _ (s1 _ _ hb) (ne_of_none hb nq)
      have hle := take_flat_le ls (i + 1)
      rw [take_succ_flat hl, List.length_append] at hle
      refine ⟨_, rfl, .inl ⟨rfl, _, SqL.of hq⟩, _, rfl, q, p, _, _, rfl, rfl, hq, hb', by rw [nums_len, nums_len, List.length_append, line24]; omega, ?_⟩
      exact .mk ⟨_, rfl, k.trans (Keep.put rfl), by show upd H' q _ q = _; rw [upd_same, take_succ_flat hl]; simp⟩
    · intro σ H' V
      obtain ⟨v2, rfl, k, hq⟩ := V.out
      rw [List.length_map, el, List.take_length] at hq
      exact ⟨_, rfl, kk H' q (fun b o e => k _ _ (s1 _ _ e) (ne_of_none e nq)) nq hq⟩
theorem k_write_string (T : TopF K mg) (D : Defs K mg) (c_write_number : Kal P w K mg base CX0 1 "write_number" ["number"] spNum) (c_write_list : Kal P w K mg base CX0 2 "write_list" ["items"] spWL) : Kal P w K mg base CX0 3 "write_string" ["text"] (spW aStr okText wText) := by
  refine kal_mk D.d_write_string sc_write_string bi_write_string (fun vs H Q E h => ?_) (fun f cdv A outer s H vs Q E hr h => ?_)
  · obtain ⟨_, _, rfl, _⟩ := h; rfl
  · obtain ⟨x, cs, rfl, hx, ok, kk⟩ := h
    obtain rfl : x = .str (S cs) := hx
    have nd := sc_write_string.nd
    refine ⟨_, (pss_one (ps_ret (pe_kal c_write_list hr (by first | decide | exact Nat.le_refl _ | omega) (pa_cons (pe_lc (g := gName 1) (own := [("character", 1)]) rfl nd (pi_str (pv 0)) (blkOk_by (own := [("character", 1)]) (N := ["text", "character"]) (sc := defScope s_write_string) (by decide +kernel)) (fun _ _ _ _ _ => (pg_name (i := 1) nd rfl (by first | exact Or.inl rfl | exact Or.inr rfl))) (fun _ _ _ _ _ => pts_nil) (fun _ _ _ _ _ => (pe_kal c_write_number hr (by first | decide | exact Nat.le_refl _ | omega) (pa_cons (pe_callB call_ord (by rfl) T.ord (by decide +kernel) (pa_cons (pv 1) pa_nil)) pa_nil)))) pa_nil)))), ?_⟩
    refine ⟨_, rfl, S cs, rfl, fun D nD => ?_⟩
    refine lc_it walk_str (fun i H' => Hold (Keep (· = D) H H' ∧ LL H' D ((cs.take i).map num))) ?_ ?_ ?_ ?_
    · exact .mk ⟨Keep.new nD, LL.nil upd_same⟩
    · intro _ _ _ _; trivial
    · intro i x H1 H2 hi V Y
      obtain ⟨k1, hD⟩ := V.out
      obtain ⟨rfl, c, hc, rfl⟩ := Y
      have hc : cs[i]? = some c := by simpa [S] using hc
      have oc := ok.2 c (List.mem_of_getElem? hc)
      refine ⟨rfl, ?_⟩
      refine ⟨_, rfl, _, rfl, rfl, ?_⟩
      refine ⟨c, rfl, Nat.lt_of_lt_of_le (show c < 128 by unfold okSign at oc; omega) (by decide), fun H3 p s3 np hp => ?_⟩
      obtain ⟨vs, h1, h2, h3⟩ := hD.push s3 np hp
      have hl := (List.getElem?_eq_some_iff.mp hc).1
      have := ok.1
      refine ⟨vs, h1, by rw [h2, List.length_map, List.length_take, line24]; omega, .mk ⟨k1.trans ((Keep.of s3).trans (Keep.put rfl)), ?_⟩⟩
      rw [List.take_add_one, hc, List.map_append]; exact h3
    · intro H1 V
      obtain ⟨k1, hD⟩ := V.out
      have hn : (S cs).cps.size = cs.length := by simp [S]
      rw [hn, List.take_length] at hD
      have e : (cs.map num).flatten = cs.flatMap num := rfl
      have hle := flat_le (w := num) (vs := cs) (k := 1) fun c m => num_le (k := 0) (by have := ok.2 c m; unfold okSign at this; omega)
      have := ok.1
      refine ⟨D, _, rfl, hD, by rw [List.length_map]; omega, by rw [e]; omega, fun H2 p s2 np hp => ?_⟩
      have sA : Same H H2 := fun b o eb => s2 _ _ (k1 _ _ eb (ne_of_none eb nD))
      refine kk H2 p sA ?_ (by show H2 p = _; rw [hp, List.length_map, e]; rfl)
      cases hh : H p with
      | none => rfl
      | some o => have := k1 _ _ hh (ne_of_none hh nD); rw [np] at this; cases this
theorem k_write_mark (T : TopF K mg) (D : Defs K mg) (c_write_number : Kal P w K mg base CX0 1 "write_number" ["number"] spNum) : Kal P w K mg base CX0 2 "write_mark" ["mark"] (spW (aD K encM) okMark wMark) := by
  refine kal_mk D.d_write_mark sc_write_mark bi_write_mark (fun vs H Q E h => ?_) (fun f cdv A outer s H vs Q E hr h => ?_)
  · obtain ⟨_, _, rfl, _⟩ := h; rfl
  · obtain ⟨x, m, rfl, hx, ok, kk⟩ := h
    obtain ⟨a, rfl, ha⟩ := dp_mark hx
    have nd := sc_write_mark.nd
    refine ⟨_, (pss_one (ps_ret (pe_op op_cat (pe_kal c_write_number hr (by first | decide | exact Nat.le_refl _ | omega) (pa_cons (pe_ix ix_tup (pv 0) pe_int (fun _ _ => rfl)) pa_nil)) (pe_kal c_write_number hr (by first | decide | exact Nat.le_refl _ | omega) (pa_cons (pe_ix ix_tup (pv 0) pe_int (fun _ _ => rfl)) pa_nil))))), ?_⟩
    have h2 : m.2 < big := Nat.lt_of_lt_of_le ok.2 (by decide)
    refine ⟨_, rfl, _, _, _, _, rfl, rfl, ha, rfl, m.1, rfl, ok.1, fun H1 p s1 np hp => ?_⟩
    refine ⟨_, rfl, _, _, _, _, rfl, rfl, Same.seqT s1 ha, rfl, m.2, rfl, h2, fun H2 q s2 nq hq => ?_⟩
    have l1 := num10 ok.1
    have l2 := num10 h2
    refine ⟨p, q, _, _, rfl, rfl, s2 _ _ hp, hq, by rw [nums_len, nums_len, line24]; omega, fun r nr => ?_⟩
    generalize h3 : upd _ r _ = H3
    have s3 := same_of h3 nr
    have a3 := upd_at h3
    have sA := (s1.trans s2)
    exact kk H3 r (sA.trans s3) (sA.free nr) (by show H3 r = _; rw [a3]; unfold wMark; simp)
theorem k__law_mark (T : TopF K mg) (D : Defs K mg) (c__law_number : Kal P w K mg base CX0 1 "_law_number" ["number"] spNum) : Kal P w K mg base CX0 2 "_law_mark" ["mark"] (spW (aD K encM) okMark wMark) := by
  refine kal_mk D.d__law_mark sc__law_mark bi__law_mark (fun vs H Q E h => ?_) (fun f cdv A outer s H vs Q E hr h => ?_)
  · obtain ⟨_, _, rfl, _⟩ := h; rfl
  · obtain ⟨x, m, rfl, hx, ok, kk⟩ := h
    obtain ⟨a, rfl, ha⟩ := dp_mark hx
    have nd := sc__law_mark.nd
    refine ⟨_, (pss_one (ps_ret (pe_op op_cat (pe_kal c__law_number hr (by first | decide | exact Nat.le_refl _ | omega) (pa_cons (pe_ix ix_tup (pv 0) pe_int (fun _ _ => rfl)) pa_nil)) (pe_kal c__law_number hr (by first | decide | exact Nat.le_refl _ | omega) (pa_cons (pe_ix ix_tup (pv 0) pe_int (fun _ _ => rfl)) pa_nil))))), ?_⟩
    have h2 : m.2 < big := Nat.lt_of_lt_of_le ok.2 (by decide)
    refine ⟨_, rfl, _, _, _, _, rfl, rfl, ha, rfl, m.1, rfl, ok.1, fun H1 p s1 np hp => ?_⟩
    refine ⟨_, rfl, _, _, _, _, rfl, rfl, Same.seqT s1 ha, rfl, m.2, rfl, h2, fun H2 q s2 nq hq => ?_⟩
    have l1 := num10 ok.1
    have l2 := num10 h2
    refine ⟨p, q, _, _, rfl, rfl, s2 _ _ hp, hq, by rw [nums_len, nums_len, line24]; omega, fun r nr => ?_⟩
    generalize h3 : upd _ r _ = H3
    have s3 := same_of h3 nr
    have a3 := upd_at h3
    have sA := (s1.trans s2)
    exact kk H3 r (sA.trans s3) (sA.free nr) (by show H3 r = _; rw [a3]; unfold wMark; simp)
theorem k__law_text (T : TopF K mg) (D : Defs K mg) (c__law_number : Kal P w K mg base CX0 1 "_law_number" ["number"] spNum) : Kal P w K mg base CX0 2 "_law_text" ["text"] (spW aStr okText wText) := by
  refine kal_mk D.d__law_text sc__law_text bi__law_text (fun vs H Q E h => ?_) (fun f cdv A outer s H vs Q E hr h => ?_)
  · obtain ⟨_, _, rfl, _⟩ := h; rfl
  · obtain ⟨x, cs, rfl, hx, ok, kk⟩ := h
    obtain rfl : x = .str (S cs) := hx
    have nd := sc__law_text.nd
    refine ⟨_, (pss_cons (ps_set (i := 1) nd rfl (by first | exact Or.inl rfl | exact Or.inr rfl) (pe_kal c__law_number hr (by first | decide | exact Nat.le_refl _ | omega) (pa_cons (pe_callB call_len_str (by rfl) T.len (by decide +kernel) (pa_cons (pv 0) pa_nil)) pa_nil)))
 (pss_cons (ps_for PassesOwn.never rfl (pi_str (pv 0)) (pg_name (i := 2) nd rfl (by first | exact Or.inl rfl | exact Or.inr rfl))
 (pss_one (ps_set (i := 1) nd rfl (by first | exact Or.inl rfl | exact Or.inr rfl) (pe_op op_cat (pv 1) (pe_kal c__law_number hr (by first | decide | exact Nat.le_refl _ | omega) (pa_cons (pe_callB call_ord (by rfl) T.ord (by decide +kernel) (pa_cons (pv 2) pa_nil)) pa_nil))))))
 (pss_one (ps_ret (pv 1))))), ?_⟩
    have hn := ok.1
    refine ⟨_, rfl, _, rfl, S_small (by omega), cs.length, by rw [S_len]; rfl, Nat.lt_trans hn (by decide), fun H1 q s1 nq aq => ?_⟩
    refine ⟨_, rfl, S cs, rfl, ?_⟩
    refine for_it walk_str (fun i σ H' => Hold (∃ (v2 : Option V) (p : Addr), σ = [some (.str (S cs)), some (.ref p), v2] ∧ Same H H' ∧ H p = none ∧ BL H' p (num cs.length ++ (cs.take i).flatMap num))) ?_ ?_ ?_ ?_
    · exact .mk ⟨none, q, rfl, s1, nq, by rw [List.take_zero, List.flatMap_nil, List.append_nil]; exact aq⟩
    · intro _ _ _ _ _; trivial
    · intro i x σ H1 H2 hi V Y
      obtain ⟨v2, p, rfl, s2, np, hp⟩ := V.out
      obtain ⟨rfl, c, hc, rfl⟩ := Y
      have hc : cs[i]? = some c := by simpa [S] using hc
      have oc := ok.2 c (List.mem_of_getElem? hc)
      have cb : c < big := Nat.lt_of_lt_of_le (show c < 128 by unfold okSign at oc; omega) (by decide)
      refine ⟨_, rfl, _, rfl, _, rfl, rfl, ?_⟩
      refine ⟨c, rfl, cb, fun H3 r s3 nr hr => ?_⟩
      have hl := (List.getElem?_eq_some_iff.mp hc).1
      have l1 := num10 cb
      have l2 := num10 (n := cs.length) (Nat.lt_trans hn (by decide))
      have l3 := flat_le (w := num) (vs := cs.take i) (k := 10) fun c m => num10 (by have := ok.2 c (List.mem_of_mem_take m); exact Nat.lt_of_lt_of_le (show c < 128 by unfold okSign at this; omega) (by decide))
      rw [List.length_take] at l3
      refine ⟨p, r, _, _, rfl, rfl, s3 _ _ hp, hr, by rw [nums_len, nums_len, List.length_append, line24]; omega, fun u nu => ?_⟩
      generalize h4 : upd _ u _ = H4
      have s4 := same_of h4 nu
      have a4 := upd_at h4
      have sA := s2.trans s3
      exact .mk ⟨_, u, rfl, sA.trans s4, sA.free nu, by show H4 u = _; rw [a4, List.take_add_one, hc]; simp⟩
    · intro σ H1 V
      obtain ⟨v2, p, rfl, s2, np, hp⟩ := V.out
      have hn : (S cs).cps.size = cs.length := by simp [S]
      rw [hn, List.take_length] at hp
      exact ⟨_, rfl, kk H1 p s2 np hp⟩
end
end Mk12
namespace Mk12
open PySem PySem.Spec PyProof.Rows L2 My

open SX
theorem bk : decide (V.str "back" = V.str "back") = true := decide_eq_true rfl
theorem ch : ¬ decide (V.str "change" = V.str "back") = true := by decide +kernel
theorem be_le {be : Option (Nat × Nat)} (h : okBehind be) : (wBehind be).length ≤ 12 := by
  cases be with
  | none => simp [wBehind]
  | some m => have := mark_le (m := m) h; simp only [wBehind, List.length_cons]; omega
theorem marks_le {rm : List (Nat × Nat)} (h : rm.length < 4 ∧ ∀ m ∈ rm, okMark m) : (rm.flatMap wMark).length ≤ 33 := by
  have := flat_le (w := wMark) (vs := rm) (k := 11) fun m k => mark_le (h.2 m k)
  have := h.1
  omega
section
variable {P : Program} {w : World} {K : PySem.W.Frag} {mg : Str → Option Value} {base : Heap}
theorem k_write_deed (T : TopF K mg) (D : Defs K mg) (c_write_number : Kal P w K mg base CX0 1 "write_number" ["number"] spNum) (c_write_list : Kal P w K mg base CX0 2 "write_list" ["items"] spWL) (c_write_string : Kal P w K mg base CX0 3 "write_string" ["text"] (spW aStr okText wText)) (c_write_mark : Kal P w K mg base CX0 2 "write_mark" ["mark"] (spW (aD K encM) okMark wMark)) : Kal P w K mg base CX0 4 "write_deed" ["deed"] (spW (aD K encD) okDeed wDeed) := by
  refine kal_mk D.d_write_deed sc_write_deed bi_write_deed (fun vs H Q E h => ?_) (fun f cdv A outer s H vs Q E hr h => ?_)
  · obtain ⟨_, _, rfl, _⟩ := h; rfl
  · obtain ⟨x, d, rfl, hx, ok, kk⟩ := h
    have nd := sc_write_deed.nd
    refine ⟨_, (pss_cons (ps_if (pt_cmpR op_eq (pe_ix ix_tup (pv 0) pe_int (fun _ _ => rfl)) pe_str (nomark _))
 (pss_one (ps_ret (pe_op op_cat (pe_lst (pa_cons pe_int pa_nil)) (pe_kal c_write_number hr (by first | decide | exact Nat.le_refl _ | omega) (pa_cons (pe_ix ix_tup (pv 0) pe_int (fun _ _ => rfl)) pa_nil))))) pss_nil)
 (pss_cons (ps_asg (pv 0) (pg_tup rfl (pgs_cons (pg_name (i := 1) nd rfl (by first | exact Or.inl rfl | exact Or.inr rfl)) (pgs_cons (pg_name (i := 2) nd rfl (by first | exact Or.inl rfl | exact Or.inr rfl)) (pgs_cons (pg_name (i := 3) nd rfl (by first | exact Or.inl rfl | exact Or.inr rfl)) (pgs_cons (pg_name (i := 4) nd rfl (by first | exact Or.inl rfl | exact Or.inr rfl)) (pgs_cons (pg_name (i := 5) nd rfl (by first | exact Or.inl rfl | exact Or.inr rfl)) (pgs_cons (pg_name (i := 6) nd rfl (by first | exact Or.inl rfl | exact Or.inr rfl)) pgs_nil))))))))
 (pss_cons (ps_set (i := 7) nd rfl (by first | exact Or.inl rfl | exact Or.inr rfl) (pe_op op_cat (pe_op op_cat (pe_lst (pa_cons pe_int pa_nil)) (pe_kal c_write_string hr (by first | decide | exact Nat.le_refl _ | omega) (pa_cons (pv 2) pa_nil))) (pe_kal c_write_list hr (by first | decide | exact Nat.le_refl _ | omega) (pa_cons (pe_lc (g := gName 8) (own := [("mark", 8)]) rfl nd (pi_tup (pv 3)) (blkOk_by (own := [("mark", 8)]) (N := ["deed", "_", "module", "removed", "behind", "number", "text", "data", "mark"]) (sc := defScope s_write_deed) (by decide +kernel)) (fun _ _ _ _ _ => (pg_name (i := 8) nd rfl (by first | exact Or.inl rfl | exact Or.inr rfl))) (fun _ _ _ _ _ => pts_nil) (fun _ _ _ _ _ => (pe_kal c_write_mark hr (by first | decide | exact Nat.le_refl _ | omega) (pa_cons (pv 8) pa_nil)))) pa_nil))))
 (C8.pss_cut (ps_expr (pe_bm PySem.F.plainAttrs_list PySem.F.slot_list_extend PySem.F.type_list_extend mt_extend (pv 7) (pa_cons (pe_ifExp (pt_cmpR op_isN (pv 4) pe_non (nomark _)) (pe_lst (pa_cons pe_int pa_nil)) (pe_op op_cat (pe_lst (pa_cons pe_int pa_nil)) (pe_kal c_write_mark hr (by first | decide | exact Nat.le_refl _ | omega) (pa_cons (pv 4) pa_nil)))) pa_nil)))
 (pss_one (ps_ret (pe_op op_cat (pe_op op_cat (pv 7) (pe_kal c_write_number hr (by first | decide | exact Nat.le_refl _ | omega) (pa_cons (pv 5) pa_nil))) (pe_kal c_write_string hr (by first | decide | exact Nat.le_refl _ | omega) (pa_cons (pv 6) pa_nil))))))))), ?_⟩
    cases d with
    | back n =>
      obtain ⟨a, rfl, ha⟩ := dp_back hx
      refine ⟨_, rfl, _, _, _, _, rfl, rfl, ha, rfl, rfl, _, rfl, ?_⟩
      refine ite2 (fun _ => ?_) (fun e => absurd bk e)
      refine ⟨by show 1 ≤ sizeLine; decide, fun p np => ?_⟩
      generalize h1 : upd _ p _ = H1
      have s1 := same_of h1 np
      have a1 := upd_at h1
      refine ⟨_, rfl, _, _, _, _, rfl, rfl, Same.seqT s1 ha, rfl, n, rfl, ok, fun H2 q s2 nq hq => ?_⟩
      have l1 := num10 (n := n) ok
      refine ⟨p, q, _, _, rfl, rfl, s2 _ _ a1, hq, by rw [nums_len, line24]; simp; omega, fun r nr => ?_⟩
      generalize h3 : upd _ r _ = H3
      have s3 := same_of h3 nr
      have a3 := upd_at h3
      have sA := s1.trans s2
      exact kk H3 r (sA.trans s3) (sA.free nr) (by show H3 r = _; rw [a3]; rfl)
    | change mo rm be nu te =>
      obtain ⟨a, b, ms, y, rfl, ha, hb, hms, hy⟩ := dp_change hx
      obtain ⟨o1, o2, o3, o4, o5⟩ := ok
      have l1 := text_le o1
      have l5 := text_le o5
      have l4 := num10 o4
      have l2 := marks_le o2
      have l3 := be_le o3
      have l2' := num_le (n := rm.length) (k := 0) (by have := o2.1; omega)
      refine ⟨_, rfl, _, _, _, _, rfl, rfl, ha, rfl, rfl, _, rfl, ?_⟩
      refine ite2 (fun e => absurd e ch) (fun _ => ?_)
      refine ⟨_, rfl, a, _, rfl, ha, rfl, _, _, rfl, _, _, rfl, _, _, rfl, _, _, rfl, _, _, rfl, _, _, rfl, rfl, ?_⟩
      -- data = [0] + write_string(module)
      refine ⟨by show 1 ≤ sizeLine; decide, fun p np => ?_⟩
      generalize h1 : upd _ p _ = H1
      have s1 := same_of h1 np
      have a1 := upd_at h1
      refine ⟨_, rfl, _, mo, rfl, rfl, o1, fun H2 q s2 nq hq => ?_⟩
      refine ⟨p, q, _, _, rfl, rfl, s2 _ _ a1, hq, by rw [nums_len, line24]; simp; omega, fun r nr => ?_⟩
      generalize h3 : upd _ r _ = H3
      have s3 := same_of h3 nr
      have a3 : BL H3 r (0 :: wText mo) := upd_at h3
      have S3 := (s1.trans s2).trans s3
      -- the marks
      refine ⟨_, rfl, b, rfl, ⟨_, Same.seqT S3 hb⟩, fun D nD => ?_⟩
      have hlen := DpAll.len hms
      refine lc_it (walk_tup (K := K) (a := b) (xs := ms)) (fun i H' => Hold (Same H3 H' ∧ LL H' D ((rm.take i).map wMark))) ?_ ?_ ?_ ?_
      · exact .mk ⟨same_new nD, LL.nil upd_same⟩
      · intro i H' _ V
        obtain ⟨k, _⟩ := V.out
        exact Same.seqT (S3.trans k) hb
      · intro i x H4 H5 hi V Y
        obtain ⟨k4, hD⟩ := V.out
        obtain ⟨rfl, hx⟩ := Y
        have hi2 : i < rm.length := by rw [hlen, List.length_map] at hi; exact hi
        obtain ⟨m, hm⟩ : ∃ m, rm[i]? = some m := ⟨_, List.getElem?_eq_getElem hi2⟩
        obtain ⟨v, hv, dv⟩ := DpAll.get hms (i := i) (d := encM m) (by rw [List.getElem?_map, hm]; rfl)
        obtain rfl : x = v := by rw [hx] at hv; exact Option.some.inj hv
        refine ⟨rfl, ?_⟩
        refine ⟨_, rfl, _, m, rfl, Dp.same (S3.trans k4) dv, o2.2 m (List.mem_of_getElem? hm), fun H6 u s6 nu hu => ?_⟩
        obtain ⟨vs, h1, h2, h3, h4⟩ := hD.push2 k4 nD s6 nu hu
        refine ⟨vs, h1, by rw [h2, List.length_map, List.length_take, line24]; have := o2.1; omega, .mk ⟨h3, ?_⟩⟩
        rw [List.take_add_one, hm, List.map_append]; exact h4
      intro H4 V
      obtain ⟨k4, hD⟩ := V.out
      rw [hlen, List.length_map, List.take_length] at hD
      have ef : (rm.map wMark).flatten = rm.flatMap wMark := rfl
      refine ⟨D, _, rfl, hD, by rw [List.length_map]; have := o2.1; omega, by rw [ef]; omega, fun H5 u s5 nnu hu => ?_⟩
      rw [ef, List.length_map] at hu
      have S5 : Same H3 H5 := k4.trans s5
      have r5 : BL H5 r (0 :: wText mo) := S5 _ _ a3
      refine ⟨r, u, _, _, rfl, rfl, r5, hu, by rw [nums_len, nums_len, List.length_append, List.length_cons, line24]; omega, fun t nt => ?_⟩
      generalize h6 : upd _ t _ = H6
      have s6 := same_of h6 nt
      have a6 : BL H6 t ((0 :: wText mo) ++ wList wMark rm) := by show H6 t = _; rw [upd_at h6]; unfold wList; simp
      have S6 : Same H H6 := (S3.trans S5).trans s6
      have nt0 : H t = none := (S3.trans S5).free nt
      have hw : (wList wMark rm).length ≤ 34 := by unfold wList; rw [List.length_append]; omega
      -- behind
      have hy6 := Dp.same S6 hy
      clear V
      refine ⟨fun σ' H7 => ∃ v8 : Option V, σ' = [some (.ref a), some (.str "change"), some (.str (S mo)), some (.ref b), some y, some (.int (nu : Nat)), some (.str (S te)), some (.ref t), v8] ∧ Same H H7 ∧ BL H7 t ((0 :: wText mo) ++ wList wMark rm ++ wBehind be), ?_, ?_⟩
      · have fin : ∀ (H7 : Hp) (z : Addr), Same H6 H7 → BL H7 z (wBehind be) → (nums ((0 :: wText mo) ++ wList wMark rm)).length + (nums (wBehind be)).length ≤ sizeLine ∧ Same H (upd H7 t (.lst (nums ((0 :: wText mo) ++ wList wMark rm) ++ nums (wBehind be)))) ∧ BL (upd H7 t (.lst (nums ((0 :: wText mo) ++ wList wMark rm) ++ nums (wBehind be)))) t ((0 :: wText mo) ++ wList wMark rm ++ wBehind be) := fun H7 z s7 hz => ⟨by rw [nums_len, nums_len, List.length_append, List.length_cons, line24]; omega, same_put (S6.trans s7) nt0, by show upd H7 t _ t = _; rw [upd_same, ← List.map_append]⟩
        refine ⟨_, rfl, .inl ⟨rfl, _, SqL.of a6⟩, ?_⟩
        refine ⟨_, rfl, rfl, _, rfl, ?_⟩
        cases be with
        | none =>
          obtain rfl : y = .non := by cases hy; rfl
          refine ite2 (fun _ => ?_) (fun e => by exact absurd (decide_eq_true rfl) e)
          refine ⟨by show 1 ≤ sizeLine; decide, fun z nz => ?_⟩
          generalize h7 : upd _ z _ = H7
          have s7 := same_of h7 nz
          have a7 : BL H7 z [0] := upd_at h7
          obtain ⟨f1, f2, f3⟩ := fin H7 z s7 a7
          exact ⟨t, z, _, _, rfl, rfl, s7 _ _ a6, a7, f1, _, rfl, f2, f3⟩
        | some m =>
          obtain ⟨ya, rfl, hya⟩ := dp_mark hy
          refine ite2 (fun e => by cases of_decide_eq_true e) (fun _ => ?_)
          refine ⟨by show 1 ≤ sizeLine; decide, fun z nz => ?_⟩
          generalize h7 : upd _ z _ = H7
          have s7 := same_of h7 nz
          have a7 : BL H7 z [1] := upd_at h7
          refine ⟨_, rfl, _, m, rfl, Dp.same (S6.trans s7) hy, o3, fun H8 x8 s8 n8 a8 => ?_⟩
          have lm := mark_le (m := m) o3
          refine ⟨z, x8, _, _, rfl, rfl, s8 _ _ a7, a8, by rw [nums_len, nums_len, line24]; simp; omega, fun z9 n9 => ?_⟩
          generalize h9 : upd _ z9 _ = H9
          have s9 := same_of h9 n9
          have a9 : BL H9 z9 (wBehind (some m)) := upd_at h9
          have S9 := (s7.trans s8).trans s9
          obtain ⟨f1, f2, f3⟩ := fin H9 z9 S9 a9
          exact ⟨t, z9, _, _, rfl, rfl, S9 _ _ a6, a9, f1, _, rfl, f2, f3⟩
      · rintro σ' H7 ⟨v8, rfl, S7, hd7⟩
        refine ⟨_, rfl, _, rfl, nu, rfl, o4, fun H8 z s8 n8 a8 => ?_⟩
        refine ⟨t, z, _, _, rfl, rfl, s8 _ _ hd7, a8, by simp only [nums_len, List.length_append, List.length_cons]; rw [line24]; omega, fun z9 n9 => ?_⟩
        generalize h9 : upd _ z9 _ = H9
        have s9 := same_of h9 n9
        have a9 := upd_at h9
        refine ⟨_, rfl, _, te, rfl, rfl, o5, fun H10 z10 s10 n10 a10 => ?_⟩
        refine ⟨z9, z10, _, _, rfl, rfl, s10 _ _ a9, a10, by simp only [nums_len, List.length_append, List.length_cons]; rw [line24]; omega, fun z11 n11 => ?_⟩
        generalize h11 : upd _ z11 _ = H11
        have s11 := same_of h11 n11
        have a11 := upd_at h11
        have S11 := ((S7.trans s8).trans s9).trans s10
        refine kk H11 z11 (S11.trans s11) (S11.free n11) ?_
        show H11 z11 = _
        rw [a11]
        simp [wDeed]
theorem k_write_triples (T : TopF K mg) (D : Defs K mg) (c_write_number : Kal P w K mg base CX0 1 "write_number" ["number"] spNum) (c_write_list : Kal P w K mg base CX0 2 "write_list" ["items"] spWL) (c_write_deed : Kal P w K mg base CX0 4 "write_deed" ["deed"] (spW (aD K encD) okDeed wDeed)) : Kal P w K mg base CX0 5 "write_triples" ["triples"] (spW (aD K encTs) okTriples wTriples) := by
  refine kal_mk D.d_write_triples sc_write_triples bi_write_triples (fun vs H Q E h => ?_) (fun f cdv A outer s H vs Q E hr h => ?_)
  · obtain ⟨_, _, rfl, _⟩ := h; rfl
  · obtain ⟨x, ts, rfl, hx, ok, kk⟩ := h
    obtain ⟨a, us, rfl, ha, hus⟩ := dp_list hx
    have hlen := DpAll.len hus
    rw [List.length_map] at hlen
    have ok1 := ok.1
    have nd := sc_write_triples.nd
    refine ⟨_, (pss_cons (ps_set (i := 1) nd rfl (by first | exact Or.inl rfl | exact Or.inr rfl) (pe_lst pa_nil))
 (pss_cons (ps_for PassesOwn.never rfl (pi_list (pv 0)) (pg_tup rfl (pgs_cons (pg_name (i := 2) nd rfl (by first | exact Or.inl rfl | exact Or.inr rfl)) (pgs_cons (pg_name (i := 3) nd rfl (by first | exact Or.inl rfl | exact Or.inr rfl)) (pgs_cons (pg_name (i := 4) nd rfl (by first | exact Or.inl rfl | exact Or.inr rfl)) pgs_nil))))
 (pss_one (ps_expr (pe_bm PySem.F.plainAttrs_list PySem.F.slot_list_append PySem.F.type_list_append mt_append (pv 1) (pa_cons (pe_op op_cat (pe_op op_cat (pe_kal c_write_number hr (by first | decide | exact Nat.le_refl _ | omega) (pa_cons (pv 2) pa_nil)) (pe_kal c_write_number hr (by first | decide | exact Nat.le_refl _ | omega) (pa_cons (pv 3) pa_nil))) (pe_kal c_write_deed hr (by first | decide | exact Nat.le_refl _ | omega) (pa_cons (pv 4) pa_nil))) pa_nil)))))
 (pss_one (ps_ret (pe_kal c_write_list hr (by first | decide | exact Nat.le_refl _ | omega) (pa_cons (pv 1) pa_nil)))))), ?_⟩
    refine ⟨by show 0 ≤ sizeLine; decide, fun p np => ?_⟩
    generalize h1 : upd _ p _ = H1
    have s1 := same_of h1 np
    have a1 := upd_at h1
    refine ⟨_, rfl, a, rfl, ⟨_, s1.seq ha⟩, for_list (K := K) (a := a) (xs := us) (fun i σ H' => Hold (∃ v2 v3 v4 : Option V, σ = [some (.ref a), some (.ref p), v2, v3, v4] ∧ Same H H' ∧ LL H' p ((ts.take i).map wTriple))) ?_ ?_ ?_ ?_⟩
    · exact .mk ⟨none, none, none, rfl, s1, LL.nil a1⟩
    · intro i σ H' _ V
      obtain ⟨_, _, _, rfl, k, _⟩ := V.out
      exact k.seq ha
    · intro i x σ H2 hx V
      obtain ⟨v2, v3, v4, rfl, s2, hD⟩ := V.out
      have hi2 : i < ts.length := by rw [← hlen]; exact (List.getElem?_eq_some_iff.mp hx).1
      obtain ⟨t, ht⟩ : ∃ t, ts[i]? = some t := ⟨_, List.getElem?_eq_getElem hi2⟩
      obtain ⟨v, hv, dv⟩ := DpAll.get hus (i := i) (d := encT t) (by rw [List.getElem?_map, ht]; rfl)
      obtain rfl : x = v := by rw [hx] at hv; exact Option.some.inj hv
      obtain ⟨o1, o2, o3⟩ := ok.2 t (List.mem_of_getElem? ht)
      obtain ⟨b, y, rfl, hb, hy⟩ := dp_triple dv
      refine ⟨b, _, rfl, Same.seqT s2 hb, rfl, _, _, rfl, _, _, rfl, _, _, rfl, rfl, ?_⟩
      obtain ⟨ps, q1, q2, q3⟩ := id hD
      refine ⟨_, rfl, .inl ⟨rfl, _, SqL.of q1⟩, ?_⟩
      have ob : t.1 < big := Nat.lt_of_lt_of_le o1 (by decide)
      have l1 := num10 ob
      have l2 := num10 o2
      have l3 := deed_le o3
      refine ⟨_, rfl, t.1, rfl, ob, fun H3 z3 s3 n3 a3 => ?_⟩
      refine ⟨_, rfl, t.2.1, rfl, o2, fun H4 z4 s4 n4 a4 => ?_⟩
      refine ⟨z3, z4, _, _, rfl, rfl, s4 _ _ a3, a4, by rw [nums_len, nums_len, line24]; omega, fun z5 n5 => ?_⟩
      generalize h5 : upd _ z5 _ = H5
      have s5 := same_of h5 n5
      have a5 := upd_at h5
      refine ⟨_, rfl, y, t.2.2, rfl, Dp.same (((s2.trans s3).trans s4).trans s5) hy, o3, fun H6 z6 s6 n6 a6 => ?_⟩
      refine ⟨z5, z6, _, _, rfl, rfl, s6 _ _ a5, a6, by simp only [nums_len, List.length_append]; rw [line24]; omega, fun z7 n7 => ?_⟩
      generalize h7 : upd _ z7 _ = H7
      have s7 := same_of h7 n7
      have a7 : BL H7 z7 (wTriple t) := by show H7 z7 = _; rw [upd_at h7]; unfold wTriple; simp
      have S7 := (((s3.trans s4).trans s5).trans s6).trans s7
      have n0 := (((s3.trans s4).trans s5).trans s6).free n7
      obtain ⟨vs, g1, g2, g3, g4⟩ := hD.push2 s2 np S7 n0 a7
      refine ⟨p, _, _, rfl, rfl, g1, by rw [g2, List.length_map, List.length_take, line24]; omega, .mk ⟨_, _, _, rfl, g3, ?_⟩⟩
      rw [List.take_add_one, ht, List.map_append]; exact g4
    · intro σ H2 V
      obtain ⟨v2, v3, v4, rfl, s2, hD⟩ := V.out
      rw [hlen, List.take_length] at hD
      have ef : (ts.map wTriple).flatten = ts.flatMap wTriple := rfl
      have hw := triples_le ok
      unfold wTriples wList at hw
      rw [List.length_append] at hw
      refine ⟨_, rfl, p, _, rfl, hD, by rw [List.length_map]; omega, by rw [ef]; omega, fun H3 z s3 nz hz => ?_⟩
      rw [ef, List.length_map] at hz
      exact kk H3 z (s2.trans s3) (s2.free nz) hz
theorem k_write_packet (T : TopF K mg) (D : Defs K mg) (c_write_triples : Kal P w K mg base CX0 5 "write_triples" ["triples"] (spW (aD K encTs) okTriples wTriples)) : Kal P w K mg base CX0 6 "write_packet" ["packet"] (spW (aD K encTs) okTriples fun ts => 1 :: wTriples ts) := by
  refine kal_mk D.d_write_packet sc_write_packet bi_write_packet (fun vs H Q E h => ?_) (fun f cdv A outer s H vs Q E hr h => ?_)
  · obtain ⟨_, _, rfl, _⟩ := h; rfl
  · obtain ⟨x, ts, rfl, hx, ok, kk⟩ := h
    have nd := sc_write_packet.nd
    refine ⟨_, (pss_one (ps_ret (pe_op op_cat (pe_lst (pa_cons pe_int pa_nil)) (pe_kal c_write_triples hr (by first | decide | exact Nat.le_refl _ | omega) (pa_cons (pv 0) pa_nil))))), ?_⟩
    refine ⟨by show 1 ≤ sizeLine; decide, fun p np => ?_⟩
    generalize h1 : upd _ p _ = H1
    have s1 := same_of h1 np
    have a1 := upd_at h1
    refine ⟨_, rfl, x, ts, rfl, Dp.same s1 hx, ok, fun H2 q s2 nq hq => ?_⟩
    have l1 := triples_le ok
    refine ⟨p, q, _, _, rfl, rfl, s2 _ _ a1, hq, by rw [nums_len, line24]; simp; omega, fun r nr => ?_⟩
    generalize h3 : upd _ r _ = H3
    have s3 := same_of h3 nr
    have a3 := upd_at h3
    have sA := s1.trans s2
    exact kk H3 r (sA.trans s3) (sA.free nr) (by show H3 r = _; rw [a3]; rfl)
theorem k__law_deed (T : TopF K mg) (D : Defs K mg) (c__law_number : Kal P w K mg base CX0 1 "_law_number" ["number"] spNum) (c__law_text : Kal P w K mg base CX0 2 "_law_text" ["text"] (spW aStr okText wText)) (c__law_mark : Kal P w K mg base CX0 2 "_law_mark" ["mark"] (spW (aD K encM) okMark wMark)) : Kal P w K mg base CX0 3 "_law_deed" ["deed"] (spW (aD K encD) okDeed wDeed) := by
  refine kal_mk D.d__law_deed sc__law_deed bi__law_deed (fun vs H Q E h => ?_) (fun f cdv A outer s H vs Q E hr h => ?_)
  · obtain ⟨_, _, rfl, _⟩ := h; rfl
  · obtain ⟨x, d, rfl, hx, ok, kk⟩ := h
    have nd := sc__law_deed.nd
    refine ⟨_, (pss_cons (ps_if (pt_cmpR op_eq (pe_ix ix_tup (pv 0) pe_int (fun _ _ => rfl)) pe_str (nomark _))
 (pss_one (ps_ret (pe_op op_cat (pe_lst (pa_cons pe_int pa_nil)) (pe_kal c__law_number hr (by first | decide | exact Nat.le_refl _ | omega) (pa_cons (pe_ix ix_tup (pv 0) pe_int (fun _ _ => rfl)) pa_nil))))) pss_nil)
 (pss_cons (ps_set (i := 1) nd rfl (by first | exact Or.inl rfl | exact Or.inr rfl) (pe_op op_cat (pe_op op_cat (pe_lst (pa_cons pe_int pa_nil)) (pe_kal c__law_text hr (by first | decide | exact Nat.le_refl _ | omega) (pa_cons (pe_ix ix_tup (pv 0) pe_int (fun _ _ => rfl)) pa_nil))) (pe_kal c__law_number hr (by first | decide | exact Nat.le_refl _ | omega) (pa_cons (pe_callB call_len_seq (by rfl) T.len (by decide +kernel) (pa_cons (pe_ix ix_tup (pv 0) pe_int (fun _ _ => rfl)) pa_nil)) pa_nil))))
 (C8.pss_cut (ps_for PassesOwn.never rfl (pi_tup (pe_ix ix_tup (pv 0) pe_int (fun _ _ => rfl))) (pg_name (i := 2) nd rfl (by first | exact Or.inl rfl | exact Or.inr rfl))
 (pss_one (ps_set (i := 1) nd rfl (by first | exact Or.inl rfl | exact Or.inr rfl) (pe_op op_cat (pv 1) (pe_kal c__law_mark hr (by first | decide | exact Nat.le_refl _ | omega) (pa_cons (pv 2) pa_nil))))))
 (C8.pss_cut (ps_set (i := 1) nd rfl (by first | exact Or.inl rfl | exact Or.inr rfl) (pe_op op_cat (pv 1) (pe_ifExp (pt_cmpR op_isN (pe_ix ix_tup (pv 0) pe_int (fun _ _ => rfl)) pe_non (nomark _)) (pe_lst (pa_cons pe_int pa_nil)) (pe_op op_cat (pe_lst (pa_cons pe_int pa_nil)) (pe_kal c__law_mark hr (by first | decide | exact Nat.le_refl _ | omega) (pa_cons (pe_ix ix_tup (pv 0) pe_int (fun _ _ => rfl)) pa_nil))))))
 (pss_one (ps_ret (pe_op op_cat (pe_op op_cat (pv 1) (pe_kal c__law_number hr (by first | decide | exact Nat.le_refl _ | omega) (pa_cons (pe_ix ix_tup (pv 0) pe_int (fun _ _ => rfl)) pa_nil))) (pe_kal c__law_text hr (by first | decide | exact Nat.le_refl _ | omega) (pa_cons (pe_ix ix_tup (pv 0) pe_int (fun _ _ => rfl)) pa_nil))))))))), ?_⟩
    cases d with
    | back n =>
      obtain ⟨a, rfl, ha⟩ := dp_back hx
      refine ⟨_, rfl, _, _, _, _, rfl, rfl, ha, rfl, rfl, _, rfl, ?_⟩
      refine ite2 (fun _ => ?_) (fun e => absurd bk e)
      refine ⟨by show 1 ≤ sizeLine; decide, fun p np => ?_⟩
      generalize h1 : upd _ p _ = H1
      have s1 := same_of h1 np
      have a1 := upd_at h1
      refine ⟨_, rfl, _, _, _, _, rfl, rfl, Same.seqT s1 ha, rfl, n, rfl, ok, fun H2 q s2 nq hq => ?_⟩
      have l1 := num10 (n := n) ok
      refine ⟨p, q, _, _, rfl, rfl, s2 _ _ a1, hq, by rw [nums_len, line24]; simp; omega, fun r nr => ?_⟩
      generalize h3 : upd _ r _ = H3
      have s3 := same_of h3 nr
      have a3 := upd_at h3
      have sA := s1.trans s2
      exact kk H3 r (sA.trans s3) (sA.free nr) (by show H3 r = _; rw [a3]; rfl)
    | change mo rm be nu te =>
      obtain ⟨a, b, ms, y, rfl, ha, hb, hms, hy⟩ := dp_change hx
      obtain ⟨o1, o2, o3, o4, o5⟩ := ok
      have l1 := text_le o1
      have l5 := text_le o5
      have l4 := num10 o4
      have l2 := marks_le o2
      have l3 := be_le o3
      have orm : rm.length < big := Nat.lt_trans o2.1 (by decide)
      have l2' := num10 orm
      have hlen := DpAll.len hms
      rw [List.length_map] at hlen
      refine ⟨_, rfl, _, _, _, _, rfl, rfl, ha, rfl, rfl, _, rfl, ?_⟩
      refine ite2 (fun e => absurd e ch) (fun _ => ?_)
      -- data = [0] + text + number
      refine ⟨by show 1 ≤ sizeLine; decide, fun p np => ?_⟩
      generalize h1 : upd _ p _ = H1
      have s1 := same_of h1 np
      have a1 := upd_at h1
      refine ⟨_, rfl, _, _, _, _, rfl, rfl, Same.seqT s1 ha, rfl, _, mo, rfl, rfl, o1, fun H2 q s2 nq hq => ?_⟩
      refine ⟨p, q, _, _, rfl, rfl, s2 _ _ a1, hq, by rw [nums_len, line24]; simp; omega, fun r nr => ?_⟩
      generalize h3 : upd _ r _ = H3
      have s3 := same_of h3 nr
      have a3 : BL H3 r (0 :: wText mo) := upd_at h3
      have S3 := (s1.trans s2).trans s3
      refine ⟨_, rfl, _, _, _, _, rfl, rfl, Same.seqT S3 ha, rfl, _, _, rfl, .inr (Same.seqT S3 hb), rm.length, by rw [hlen]; rfl, orm, fun H4 t s4 n4 a4 => ?_⟩
      refine ⟨r, t, _, _, rfl, rfl, s4 _ _ a3, a4, by simp only [nums_len, List.length_cons]; rw [line24]; omega, fun u n5 => ?_⟩
      generalize h5 : upd _ u _ = H5
      have s5 := same_of h5 n5
      have S5 := (S3.trans s4).trans s5
      have n5' := (S3.trans s4).free n5
      have a5 : BL H5 u ((0 :: wText mo) ++ num rm.length) := by show H5 u = _; rw [upd_at h5]; simp
      -- the marks
      refine ⟨fun σ' H7 => ∃ (z : Addr) (v2 : Option V), σ' = [some (.ref a), some (.ref z), v2] ∧ Same H H7 ∧ H z = none ∧ BL H7 z ((0 :: wText mo) ++ wList wMark rm), ?_, ?_⟩
      · refine ⟨_, rfl, _, _, _, _, rfl, rfl, Same.seqT S5 ha, rfl, b, rfl, ⟨_, Same.seqT S5 hb⟩, ?_⟩
        refine for_it (walk_tup (K := K) (a := b) (xs := ms)) (fun i σ H' => Hold (∃ (v2 : Option V) (z : Addr), σ = [some (.ref a), some (.ref z), v2] ∧ Same H H' ∧ H z = none ∧ BL H' z ((0 :: wText mo) ++ num rm.length ++ (rm.take i).flatMap wMark))) ?_ ?_ ?_ ?_
        · exact .mk ⟨none, u, rfl, S5, n5', by rw [List.take_zero, List.flatMap_nil, List.append_nil]; exact a5⟩
        · intro i σ H' _ V
          obtain ⟨_, _, _, k, _⟩ := V.out
          exact Same.seqT k hb
        · intro i x σ H6 H7 hi V Y
          obtain ⟨v2, z, rfl, s6, nz, hz⟩ := V.out
          obtain ⟨rfl, hx⟩ := Y
          have hi2 : i < rm.length := by rw [← hlen]; exact hi
          obtain ⟨m, hm⟩ : ∃ m, rm[i]? = some m := ⟨_, List.getElem?_eq_getElem hi2⟩
          obtain ⟨v, hv, dv⟩ := DpAll.get hms (i := i) (d := encM m) (by rw [List.getElem?_map, hm]; rfl)
          obtain rfl : x = v := by rw [hx] at hv; exact Option.some.inj hv
          have om := o2.2 m (List.mem_of_getElem? hm)
          have lm := mark_le om
          have lf := flat_le (w := wMark) (vs := rm.take i) (k := 11) fun m k => mark_le (o2.2 m (List.mem_of_mem_take k))
          rw [List.length_take] at lf
          have o21 := o2.1
          refine ⟨_, rfl, _, rfl, _, m, rfl, Dp.same s6 dv, om, fun H8 q8 s8 n8 a8 => ?_⟩
          refine ⟨z, q8, _, _, rfl, rfl, s8 _ _ hz, a8, by simp only [nums_len, List.length_append, List.length_cons]; rw [line24]; omega, fun q9 n9 => ?_⟩
          generalize h9 : upd _ q9 _ = H9
          have s9 := same_of h9 n9
          have a9 := upd_at h9
          have S9 := s6.trans s8
          exact .mk ⟨_, q9, rfl, S9.trans s9, S9.free n9, by show H9 q9 = _; rw [a9, List.take_add_one, hm]; simp⟩
        · intro σ H6 V
          obtain ⟨v2, z, rfl, s6, nz, hz⟩ := V.out
          rw [hlen, List.take_length] at hz
          exact ⟨z, v2, rfl, s6, nz, by show H6 z = _; rw [hz]; unfold wList; simp⟩
      rintro σ' H6 ⟨z, v2, rfl, S6, nz, hz⟩
      have lw : (wList wMark rm).length ≤ 44 := by unfold wList; rw [List.length_append]; omega
      have hy6 := Dp.same S6 hy
      -- behind
      refine ⟨fun σ' H7 => ∃ (z : Addr) (v2 : Option V), σ' = [some (.ref a), some (.ref z), v2] ∧ Same H H7 ∧ H z = none ∧ BL H7 z ((0 :: wText mo) ++ wList wMark rm ++ wBehind be), ?_, ?_⟩
      · have fin : ∀ (H7 : Hp) (u : Addr), Same H6 H7 → BL H7 u (wBehind be) → (nums ((0 :: wText mo) ++ wList wMark rm)).length + (nums (wBehind be)).length ≤ sizeLine ∧ ∀ q, H7 q = none → ∃ (z : Addr) (v3 : Option V), [some (.ref a), some (.ref q), v2] = [some (.ref a), some (.ref z), v3] ∧ Same H (upd H7 q (.lst (nums ((0 :: wText mo) ++ wList wMark rm) ++ nums (wBehind be)))) ∧ H z = none ∧ BL (upd H7 q (.lst (nums ((0 :: wText mo) ++ wList wMark rm) ++ nums (wBehind be)))) z ((0 :: wText mo) ++ wList wMark rm ++ wBehind be) := fun H7 u s7 hu =>
          ⟨by rw [nums_len, nums_len, List.length_append, List.length_cons, line24]; omega, fun q nq => ⟨q, v2, rfl, (S6.trans s7).trans (same_new nq), (S6.trans s7).free nq, by show upd H7 q _ q = _; rw [upd_same, ← List.map_append]⟩⟩
        refine ⟨_, rfl, _, rfl, _, _, _, _, rfl, rfl, Same.seqT S6 ha, rfl, rfl, _, rfl, ?_⟩
        cases be with
        | none =>
          obtain rfl : y = .non := by cases hy; rfl
          refine ite2 (fun _ => ?_) (fun e => by exact absurd (decide_eq_true rfl) e)
          refine ⟨by show 1 ≤ sizeLine; decide, fun u nu => ?_⟩
          generalize h7 : upd _ u _ = H7
          have s7 := same_of h7 nu
          have a7 : BL H7 u [0] := upd_at h7
          obtain ⟨f1, f2⟩ := fin H7 u s7 a7
          exact ⟨z, u, _, _, rfl, rfl, s7 _ _ hz, a7, f1, f2⟩
        | some m =>
          obtain ⟨ya, rfl, hya⟩ := dp_mark hy
          refine ite2 (fun e => by cases of_decide_eq_true e) (fun _ => ?_)
          refine ⟨by show 1 ≤ sizeLine; decide, fun u nu => ?_⟩
          generalize h7 : upd _ u _ = H7
          have s7 := same_of h7 nu
          have a7 : BL H7 u [1] := upd_at h7
          refine ⟨_, rfl, _, _, _, _, rfl, rfl, Same.seqT (S6.trans s7) ha, rfl, _, m, rfl, Dp.same (S6.trans s7) hy, o3, fun H8 x8 s8 n8 a8 => ?_⟩
          have lm := mark_le (m := m) o3
          refine ⟨u, x8, _, _, rfl, rfl, s8 _ _ a7, a8, by rw [nums_len, nums_len, line24]; simp; omega, fun z9 n9 => ?_⟩
          generalize h9 : upd _ z9 _ = H9
          have s9 := same_of h9 n9
          have a9 : BL H9 z9 (wBehind (some m)) := upd_at h9
          have S9 := (s7.trans s8).trans s9
          obtain ⟨f1, f2⟩ := fin H9 z9 S9 a9
          exact ⟨z, z9, _, _, rfl, rfl, S9 _ _ hz, a9, f1, f2⟩
      · rintro σ' H7 ⟨t, v2, rfl, S7, nt0, hd7⟩
        refine ⟨_, rfl, _, rfl, _, _, _, _, rfl, rfl, Same.seqT S7 ha, rfl, nu, rfl, o4, fun H8 z s8 n8 a8 => ?_⟩
        refine ⟨t, z, _, _, rfl, rfl, s8 _ _ hd7, a8, by simp only [nums_len, List.length_append, List.length_cons]; rw [line24]; omega, fun z9 n9 => ?_⟩
        generalize h9 : upd _ z9 _ = H9
        have s9 := same_of h9 n9
        have a9 := upd_at h9
        have S9 := (S7.trans s8).trans s9
        refine ⟨_, rfl, _, _, _, _, rfl, rfl, Same.seqT S9 ha, rfl, _, te, rfl, rfl, o5, fun H10 z10 s10 n10 a10 => ?_⟩
        refine ⟨z9, z10, _, _, rfl, rfl, s10 _ _ a9, a10, by simp only [nums_len, List.length_append, List.length_cons]; rw [line24]; omega, fun z11 n11 => ?_⟩
        generalize h11 : upd _ z11 _ = H11
        have s11 := same_of h11 n11
        have a11 := upd_at h11
        have S11 := S9.trans s10
        refine kk H11 z11 (S11.trans s11) (S11.free n11) ?_
        show H11 z11 = _
        rw [a11]
        simp [wDeed]
theorem k__law_triples (T : TopF K mg) (D : Defs K mg) (c__law_number : Kal P w K mg base CX0 1 "_law_number" ["number"] spNum) (c__law_deed : Kal P w K mg base CX0 3 "_law_deed" ["deed"] (spW (aD K encD) okDeed wDeed)) : Kal P w K mg base CX0 4 "_law_triples" ["triples"] (spW (aD K encTs) okTriples wTriples) := by
  refine kal_mk D.d__law_triples sc__law_triples bi__law_triples (fun vs H Q E h => ?_) (fun f cdv A outer s H vs Q E hr h => ?_)
  · obtain ⟨_, _, rfl, _⟩ := h; rfl
  · obtain ⟨x, ts, rfl, hx, ok, kk⟩ := h
    obtain ⟨a, us, rfl, ha, hus⟩ := dp_list hx
    have hlen := DpAll.len hus
    rw [List.length_map] at hlen
    have ok1 := ok.1
    have on : ts.length < big := Nat.lt_trans ok1 (by decide)
    have nd := sc__law_triples.nd
    refine ⟨_, (pss_cons (ps_set (i := 1) nd rfl (by first | exact Or.inl rfl | exact Or.inr rfl) (pe_kal c__law_number hr (by first | decide | exact Nat.le_refl _ | omega) (pa_cons (pe_callB call_len_seq (by rfl) T.len (by decide +kernel) (pa_cons (pv 0) pa_nil)) pa_nil)))
 (pss_cons (ps_for PassesOwn.never rfl (pi_list (pv 0)) (pg_tup rfl (pgs_cons (pg_name (i := 2) nd rfl (by first | exact Or.inl rfl | exact Or.inr rfl)) (pgs_cons (pg_name (i := 3) nd rfl (by first | exact Or.inl rfl | exact Or.inr rfl)) (pgs_cons (pg_name (i := 4) nd rfl (by first | exact Or.inl rfl | exact Or.inr rfl)) pgs_nil))))
 (pss_one (ps_set (i := 1) nd rfl (by first | exact Or.inl rfl | exact Or.inr rfl) (pe_op op_cat (pe_op op_cat (pe_op op_cat (pv 1) (pe_kal c__law_number hr (by first | decide | exact Nat.le_refl _ | omega) (pa_cons (pv 2) pa_nil))) (pe_kal c__law_number hr (by first | decide | exact Nat.le_refl _ | omega) (pa_cons (pv 3) pa_nil))) (pe_kal c__law_deed hr (by first | decide | exact Nat.le_refl _ | omega) (pa_cons (pv 4) pa_nil))))))
 (pss_one (ps_ret (pv 1))))), ?_⟩
    refine ⟨_, rfl, _, _, rfl, .inl ha, ts.length, by rw [hlen]; rfl, on, fun H1 p s1 np hp => ?_⟩
    have l0 := num10 on
    refine ⟨_, rfl, a, rfl, ⟨_, s1.seq ha⟩, for_list (K := K) (a := a) (xs := us) (fun i σ H' => Hold (∃ (z : Addr) (v2 v3 v4 : Option V), σ = [some (.ref a), some (.ref z), v2, v3, v4] ∧ Same H H' ∧ H z = none ∧ BL H' z (num ts.length ++ (ts.take i).flatMap wTriple))) ?_ ?_ ?_ ?_⟩
    · exact .mk ⟨p, none, none, none, rfl, s1, np, by rw [List.take_zero, List.flatMap_nil, List.append_nil]; exact hp⟩
    · intro i σ H' _ V
      obtain ⟨_, _, _, _, rfl, k, _⟩ := V.out
      exact k.seq ha
    · intro i x σ H2 hx V
      obtain ⟨z, v2, v3, v4, rfl, s2, nz, hz⟩ := V.out
      have hi2 : i < ts.length := by rw [← hlen]; exact (List.getElem?_eq_some_iff.mp hx).1
      obtain ⟨t, ht⟩ : ∃ t, ts[i]? = some t := ⟨_, List.getElem?_eq_getElem hi2⟩
      obtain ⟨v, hv, dv⟩ := DpAll.get hus (i := i) (d := encT t) (by rw [List.getElem?_map, ht]; rfl)
      obtain rfl : x = v := by rw [hx] at hv; exact Option.some.inj hv
      obtain ⟨o1, o2, o3⟩ := ok.2 t (List.mem_of_getElem? ht)
      obtain ⟨b, y, rfl, hb, hy⟩ := dp_triple dv
      refine ⟨b, _, rfl, Same.seqT s2 hb, rfl, _, _, rfl, _, _, rfl, _, _, rfl, rfl, ?_⟩
      have ob : t.1 < big := Nat.lt_of_lt_of_le o1 (by decide)
      have l1 := num10 ob
      have l2 := num10 o2
      have l3 := deed_le o3
      have lf := flat_le (w := wTriple) (vs := ts.take i) (k := 420) fun m k => triple_le (ok.2 m (List.mem_of_mem_take k))
      rw [List.length_take] at lf
      refine ⟨_, rfl, _, rfl, t.1, rfl, ob, fun H3 z3 s3 n3 a3 => ?_⟩
      refine ⟨z, z3, _, _, rfl, rfl, s3 _ _ hz, a3, by simp only [nums_len, List.length_append]; rw [line24]; omega, fun y3 m3 => ?_⟩
      generalize g3 : upd _ y3 _ = G3
      have t3 := same_of g3 m3
      have b3 := upd_at g3
      refine ⟨_, rfl, t.2.1, rfl, o2, fun H4 z4 s4 n4 a4 => ?_⟩
      refine ⟨y3, z4, _, _, rfl, rfl, s4 _ _ b3, a4, by simp only [nums_len, List.length_append]; rw [line24]; omega, fun z5 n5 => ?_⟩
      generalize h5 : upd _ z5 _ = H5
      have s5 := same_of h5 n5
      have a5 := upd_at h5
      have S5 := (((s2.trans s3).trans t3).trans s4).trans s5
      refine ⟨_, rfl, y, t.2.2, rfl, Dp.same S5 hy, o3, fun H6 z6 s6 n6 a6 => ?_⟩
      refine ⟨z5, z6, _, _, rfl, rfl, s6 _ _ a5, a6, by simp only [nums_len, List.length_append]; rw [line24]; omega, fun z7 n7 => ?_⟩
      generalize h7 : upd _ z7 _ = H7
      have s7 := same_of h7 n7
      have S6 := S5.trans s6
      refine .mk ⟨z7, _, _, _, rfl, S6.trans s7, S6.free n7, ?_⟩
      show H7 z7 = _
      rw [upd_at h7, List.take_add_one, ht]
      simp [wTriple]
    · intro σ H2 V
      obtain ⟨z, v2, v3, v4, rfl, s2, nz, hz⟩ := V.out
      rw [hlen, List.take_length] at hz
      exact ⟨_, rfl, kk H2 z s2 nz hz⟩
end
end Mk12
namespace Mk12
open PySem PySem.Spec PyProof.Rows L2 My

open SX
/-- what the law's own readers tell -/
def encR {α : Type} (enc : α → PyData) : Option (α × Nat) → PyData
  | none => .none
  | some v => .tuple [enc v.1, .int (v.2 : Nat)]
def spO {α : Type} (K : PySem.W.Frag) (p : List Nat → Nat → Option (α × Nat)) (enc : α → PyData) : Sp := fun vs H Q _ => ∃ (a : Addr) (l : List Nat) (i : Nat), vs = [.ref a, .int (i : Nat)] ∧ H a = some (.lst (nums l)) ∧ l.length ≤ 1000000 ∧ ∀ (H' : Hp) (x : V), Same H H' → Dp K H' x (encR enc (p l i)) → Q x H'
theorem encR_none {α : Type} {K : PySem.W.Frag} {H : Hp} {x : V} {enc : α → PyData} (h : Dp K H x (encR enc none)) : x = .non := by cases h; rfl
theorem encR_some {α : Type} {K : PySem.W.Frag} {H : Hp} {x : V} {enc : α → PyData} {v : α} {j : Nat} (h : Dp K H x (encR enc (some (v, j)))) : ∃ t y, x = .ref t ∧ SqT K H t [y, .int (j : Nat)] ∧ Dp K H y (enc v) := by
  obtain ⟨a, vs, rfl, s, t⟩ := dp_tup h
  cases t with
  | cons t1 t =>
  cases t with
  | cons t2 t =>
  cases t
  rw [dp_int t2] at s
  exact ⟨a, _, rfl, s, t1⟩
def encN (n : Nat) : PyData := .int (n : Nat)
def encS (cs : List Nat) : PyData := .str (S cs)
section
variable {P : Program} {w : World} {K : PySem.W.Frag} {mg : Str → Option Value} {base : Heap}
theorem k__law_read_number (T : TopF K mg) (D : Defs K mg) : Kal P w K mg base CX0 1 "_law_read_number" ["data", "at"] (spO K pNum encN) := by
  refine kal_mk D.d__law_read_number sc__law_read_number bi__law_read_number (fun vs H Q E h => ?_) (fun f cdv A outer s H vs Q E hr h => ?_)
  · obtain ⟨_, _, _, rfl, _⟩ := h; rfl
  · obtain ⟨a, l0, i0, rfl, ha, hll, kk⟩ := h
    have nd := sc__law_read_number.nd
    have ll : ((l0.drop i0).take 60).length ≤ 60 := by rw [List.length_take]; omega
    have lg : ∀ n, n < 60 → ((l0.drop i0).take 60)[n]? = l0[i0 + n]? := fun n h => by rw [List.getElem?_take, if_pos h, List.getElem?_drop]
    have ep : pNum l0 i0 = (pnum 0 ((l0.drop i0).take 60)).map fun q => (q.1, i0 + q.2) := rfl
    rw [ep] at kk
    generalize hL : (l0.drop i0).take 60 = l at kk ll lg
    refine ⟨_, (pss_cons (ps_set (i := 2) nd rfl (by first | exact Or.inl rfl | exact Or.inr rfl) pe_int)
 (pss_cons (ps_set (i := 3) nd rfl (by first | exact Or.inl rfl | exact Or.inr rfl) pe_int)
 (pss_cons (ps_for PassesOwn.never rfl (pi_range1 (by rfl) T.range (pa_cons pe_int pa_nil)) (pg_name (i := 4) nd rfl (by first | exact Or.inl rfl | exact Or.inr rfl))
 (pss_cons (ps_if (pt_cmpR op_ge (pe_op op_add (pv 1) (pv 4)) (pe_callB call_len_seq (by rfl) T.len (by decide +kernel) (pa_cons (pv 0) pa_nil)) (nomark _))
 (pss_one (ps_ret pe_non)) pss_nil)
 (pss_cons (ps_set (i := 2) nd rfl (by first | exact Or.inl rfl | exact Or.inr rfl) (pe_op op_add (pv 2) (pe_op op_mul (pe_op op_mod (pe_ix ix_list (pv 0) (pe_op op_add (pv 1) (pv 4)) (fun _ _ => rfl)) pe_int) (pv 3))))
 (pss_cons (ps_set (i := 3) nd rfl (by first | exact Or.inl rfl | exact Or.inr rfl) (pe_op op_mul (pv 3) pe_int))
 (pss_one (ps_if (pt_cmpR op_lt (pe_ix ix_list (pv 0) (pe_op op_add (pv 1) (pv 4)) (fun _ _ => rfl)) pe_int (nomark _))
 (pss_one (ps_ret (pe_ifExp (PW.pt (pw_and (pt_cmpR op_gt (pv 4) pe_int (nomark _)) (pw_and1 (pt_cmpR op_eq (pe_ix ix_list (pv 0) (pe_op op_add (pv 1) (pv 4)) (fun _ _ => rfl)) pe_int (nomark _))))) pe_non (pe_tup (pa_cons (pv 2) (pa_cons (pe_op op_add (pe_op op_add (pv 1) (pv 4)) pe_int) pa_nil)))))) pss_nil))))))
 (pss_one (ps_ret pe_non))))), ?_⟩
    refine ⟨60, rfl, by decide, by decide, for_range0 (n := 60) (fun k σ H' => Hold (∃ (tot fac : Nat) (v : Option V), σ = [some (.ref a), some (.int (i0 : Nat)), some (.int (tot : Nat)), some (.int (fac : Nat)), v] ∧ H' = H ∧ pnum 0 l = (pnum k (l.drop k)).map fun z => (tot + fac * z.1, k + z.2))) ?_ ?_ ?_⟩
    · refine .mk ⟨0, 1, none, rfl, rfl, ?_⟩
      rw [List.drop_zero]
      cases pnum 0 l with
      | none => rfl
      | some z => simp
    · intro k σ H' hk V
      obtain ⟨tot, fac, v, rfl, rfl, hp⟩ := V.out
      have hk60 : k < 60 := by simpa using hk
      have hg := lg k hk60
      refine ⟨_, rfl, _, rfl, _, _, rfl, rfl, _, rfl, _, _, rfl, .inl (SqL.of ha), _, _, rfl, rfl, _, rfl, ?_⟩
      rw [nums_len]
      refine ite2 (fun e => ?_) (fun e => ?_)
      · have e := of_decide_eq_true e
        have : l.drop k = [] := by
          rw [List.getElem?_eq_none (show l0.length ≤ i0 + k by omega)] at hg
          exact List.drop_eq_nil_iff.mpr (List.getElem?_eq_none_iff.mp hg)
        refine kk _ _ (Same.refl _) ?_
        rw [hp, this]
        exact .non
      have hlt : i0 + k < l0.length := by
        have : ¬ ((l0.length : Nat) : Int) ≤ ((i0 : Nat) : Int) + ((k : Nat) : Int) := fun z => e (decide_eq_true z)
        omega
      obtain ⟨b, hb⟩ : ∃ b, l0[i0 + k]? = some b := ⟨_, List.getElem?_eq_getElem hlt⟩
      rw [hb] at hg
      have hd : l.drop k = b :: l.drop (k + 1) := by
        obtain ⟨lt, e⟩ := List.getElem?_eq_some_iff.mp hg
        rw [← e]; exact List.drop_eq_getElem_cons lt
      rw [hd] at hp
      have hat : atI (nums l0) (((i0 : Nat) : Int) + ((k : Nat) : Int)) = some (.int (b : Nat)) := by
        rw [← Int.natCast_add]; exact atI_nat (map_put hb)
      refine ⟨_, rfl, _, rfl, _, rfl, _, rfl, _, _, rfl, rfl, _, _, _, _, rfl, rfl, SqL.of ha, hat, _, _, rfl, rfl, show (0 : Int) < 128 by decide, ?_⟩
      refine ⟨_, rfl, _, _, rfl, rfl, .inl ⟨by omega, by omega⟩, _, _, rfl, rfl, ?_⟩
      refine ⟨_, rfl, _, _, rfl, rfl, .inr ⟨by decide, by decide⟩, ?_⟩
      refine ⟨_, rfl, _, rfl, _, rfl, _, _, rfl, rfl, _, _, _, _, rfl, rfl, SqL.of ha, hat, _, _, rfl, rfl, _, rfl, ?_⟩
      have ev : ((tot : Nat) : Int) + ((b : Nat) : Int) % 128 * ((fac : Nat) : Int) = ((tot + fac * (b % 128) : Nat) : Int) := by
        rw [show ((b : Nat) : Int) % 128 = ((b % 128 : Nat) : Int) by omega, Int.natCast_add, Int.natCast_mul, Int.mul_comm]
      refine ite2 (fun e => ?_) (fun e => ?_)
      · have hb128 : b < 128 := by have := of_decide_eq_true e; omega
        have ep : pnum k (b :: l.drop (k + 1)) = if b = 0 ∧ 0 < k then none else some (b, 1) := by
          show (if b < 128 then _ else _) = _
          rw [if_pos hb128]
        rw [ep] at hp
        have fin : ¬ (b = 0 ∧ 0 < k) → 2 ≤ sizeLine ∧ ∀ t, H' t = none → Q (.ref t) (upd H' t (.tup [.int (((tot : Nat) : Int) + ((b : Nat) : Int) % 128 * ((fac : Nat) : Int)), .int (((i0 : Nat) : Int) + ((k : Nat) : Int) + 1)])) := fun z => by
          rw [if_neg z] at hp
          refine ⟨by decide, fun t nt => ?_⟩
          generalize h3 : upd _ t _ = H3
          have s3 := same_of h3 nt
          have a3 := upd_at h3
          rw [ev] at a3
          refine kk H3 _ s3 ?_
          rw [hp]
          refine .tup (.inl (.inl a3)) (.cons ?_ (.cons ?_ .nil))
          · rw [Nat.mod_eq_of_lt hb128]; exact .int _
          · show Dp K H3 _ (.int ((i0 + (k + 1) : Nat) : Int))
            rw [show (((i0 + (k + 1) : Nat)) : Int) = ((i0 : Nat) : Int) + ((k : Nat) : Int) + 1 by omega]
            exact .int _
        refine ⟨_, rfl, _, _, rfl, rfl, _, rfl, ?_⟩
        refine ite2 (fun e1 => ?_) (fun e1 => ?_)
        · have k0 : 0 < k := by have := of_decide_eq_true e1; omega
          refine ⟨_, rfl, _, rfl, _, rfl, _, _, rfl, rfl, _, _, _, _, rfl, rfl, SqL.of ha, hat, rfl, _, rfl, ?_⟩
          refine ite2 (fun e2 => ?_) (fun e2 => ?_)
          · have b0 : b = 0 := by have := vint e2; omega
            refine kk _ _ (Same.refl _) ?_
            rw [hp, if_pos ⟨b0, k0⟩]
            exact .non
          · obtain ⟨f1, f2⟩ := fin fun z => vintF e2 (by rw [z.1]; rfl)
            exact ⟨_, rfl, _, rfl, _, rfl, _, _, rfl, rfl, _, _, rfl, rfl, f1, f2⟩
        · obtain ⟨f1, f2⟩ := fin fun z => e1 (decide_eq_true (by have := z.2; omega))
          exact ⟨_, rfl, _, rfl, _, rfl, _, _, rfl, rfl, _, _, rfl, rfl, f1, f2⟩
      · have hb128 : ¬ b < 128 := fun z => e (decide_eq_true (by omega))
        have ep : pnum k (b :: l.drop (k + 1)) = (pnum (k + 1) (l.drop (k + 1))).map fun q => (b % 128 + 128 * q.1, q.2 + 1) := by
          show (if b < 128 then _ else _) = _
          rw [if_neg hb128]
        rw [ep] at hp
        refine .mk ⟨tot + fac * (b % 128), fac * 128, some (.int (k : Nat)), by rw [← ev]; rfl, rfl, ?_⟩
        rw [hp]
        cases pnum (k + 1) (l.drop (k + 1)) with
        | none => rfl
        | some z =>
          simp only [Option.map_some]
          congr 2
          · rw [Nat.mul_add, ← Nat.mul_assoc, Nat.add_assoc]
          · omega
    · intro σ H' V
      obtain ⟨tot, fac, v, rfl, rfl, hp⟩ := V.out
      refine kk _ _ (Same.refl _) ?_
      rw [hp, List.drop_eq_nil_iff.mpr ll]
      exact .non
end
end Mk12
namespace Mk12
open PySem PySem.Spec PyProof.Rows L2 My

open SX
/-- how a thing's reading goes on in another -/
theorem pTriple_mark (l : List Nat) (i : Nat) : pTriple l i = (pMark l i).bind fun m => (pDeed l m.2).map fun d => ((m.1.1, m.1.2, d.1), d.2) := by
  unfold pTriple pMark
  cases pNum l i with
  | none => rfl
  | some a =>
    show (pNum l a.2).bind _ = ((pNum l a.2).map _).bind _
    cases pNum l a.2 <;> rfl
theorem Dp_non {K : PySem.W.Frag} {H : Hp} {d : PyData} (h : Dp K H .non d) : d = .none := by cases h; rfl
theorem isN_no {t : Addr} : ¬ decide (V.ref t = V.non) = true := fun e => by cases of_decide_eq_true e
theorem isN_yes : decide (V.non = V.non) = true := decide_eq_true rfl
section
variable {P : Program} {w : World} {K : PySem.W.Frag} {mg : Str → Option Value} {base : Heap}
def spSign : Sp := fun vs H Q _ => ∃ c : Nat, vs = [.int (c : Nat)] ∧ okSign c ∧ Q (.str (S [c])) H
theorem k__law_sign (T : TopF K mg) (D : Defs K mg) : Kal P w K mg base CX0 1 "_law_sign" ["code"] spSign := by
  refine kal_mk D.d__law_sign sc__law_sign bi__law_sign (fun vs H Q E h => ?_) (fun f cdv A outer s H vs Q E hr h => ?_)
  · obtain ⟨_, rfl, _⟩ := h; rfl
  · obtain ⟨c, rfl, ok, kk⟩ := h
    have nd := sc__law_sign.nd
    have sb : ∀ k, k < 5 → (S ((List.range 5).map (32 + ·))).cps.toList[k]? = some (32 + k) := fun k hk => by
      show ((List.range 5).map (32 + ·)).toArray.toList[k]? = _
      rw [List.toList_toArray, List.getElem?_map, List.getElem?_range hk]; rfl
    have sa : ∀ k, k < 89 → (S ((List.range 89).map (38 + ·))).cps.toList[k]? = some (38 + k) := fun k hk => by
      show ((List.range 89).map (38 + ·)).toArray.toList[k]? = _
      rw [List.toList_toArray, List.getElem?_map, List.getElem?_range hk]; rfl
    refine ⟨_, (pss_cons (ps_set (i := 1) nd rfl (by first | exact Or.inl rfl | exact Or.inr rfl) pe_str)
 (pss_cons (ps_set (i := 2) nd rfl (by first | exact Or.inl rfl | exact Or.inr rfl) pe_str)
 (pss_cons (ps_if (pt_cmpR op_lt (pv 0) pe_int (nomark _))
 (pss_one (ps_ret (pe_ifExp (pt_cmpR op_eq (pv 0) pe_int (nomark _)) pe_str (pe_ix ix_str (pv 1) (pe_op op_sub (pv 0) pe_int) (fun _ _ => rfl))))) pss_nil)
 (pss_one (ps_ret (pe_ix ix_str (pv 2) (pe_op op_sub (pv 0) pe_int) (fun _ _ => rfl))))))), ?_⟩
    refine ⟨_, rfl, _, _, rfl, rfl, _, rfl, ?_⟩
    refine ite2 (fun h => ?_) (fun h => ?_)
    · have h1 := of_decide_eq_true h
      refine ⟨_, rfl, rfl, _, rfl, ?_⟩
      refine ite2 (fun h => ?_) (fun h => ?_)
      · have : c = 10 := by have := vint h; omega
        subst this
        exact kk
      · have n10 : c ≠ 10 := fun z => vintF h (by rw [z]; rfl)
        have hc : 32 ≤ c ∧ c < 37 := by unfold okSign at ok; omega
        refine ⟨_, rfl, _, rfl, _, _, rfl, rfl, ?_⟩
        refine ⟨_, _, c, rfl, rfl, by decide +kernel, ?_, kk⟩
        rw [bef, show ((c : Nat) : Int) - 32 = ((c - 32 : Nat) : Int) by omega]
        refine atI_nat ?_
        rw [sb _ (by omega), show 32 + (c - 32) = c by omega]
    · have h1 : ¬ ((c : Nat) : Int) < 37 := fun z => h (decide_eq_true z)
      have hc : 38 ≤ c ∧ c < 127 := by unfold okSign at ok; omega
      refine ⟨_, rfl, _, rfl, _, _, rfl, rfl, ?_⟩
      refine ⟨_, _, c, rfl, rfl, by decide +kernel, ?_, kk⟩
      rw [aft, show ((c : Nat) : Int) - 38 = ((c - 38 : Nat) : Int) by omega]
      refine atI_nat ?_
      rw [sa _ (by omega), show 38 + (c - 38) = c by omega]
theorem k__law_read_text (T : TopF K mg) (D : Defs K mg) (c__law_read_number : Kal P w K mg base CX0 1 "_law_read_number" ["data", "at"] (spO K pNum encN)) (c__law_sign : Kal P w K mg base CX0 1 "_law_sign" ["code"] spSign) : Kal P w K mg base CX0 2 "_law_read_text" ["data", "at"] (spO K (pList pChar) encS) := by
  refine kal_mk D.d__law_read_text sc__law_read_text bi__law_read_text (fun vs H Q E h => ?_) (fun f cdv A outer s H vs Q E hr h => ?_)
  · obtain ⟨_, _, _, rfl, _⟩ := h; rfl
  · obtain ⟨a, l, i, rfl, ha, hll, kk⟩ := h
    have nd := sc__law_read_text.nd
    refine ⟨_, (pss_cons (ps_set (i := 2) nd rfl (by first | exact Or.inl rfl | exact Or.inr rfl) (pe_kal c__law_read_number hr (by first | decide | exact Nat.le_refl _ | omega) (pa_cons (pv 0) (pa_cons (pv 1) pa_nil))))
 (pss_cons (ps_if (PW.pt (pw_or (pt_cmpR op_isN (pv 2) pe_non (nomark _)) (pw_or1 (pt_cmpR op_gt (pe_ix ix_tup (pv 2) pe_int (fun _ _ => rfl)) (pe_op op_sub (pe_callB call_len_seq (by rfl) T.len (by decide +kernel) (pa_cons (pv 0) pa_nil)) (pe_ix ix_tup (pv 2) pe_int (fun _ _ => rfl))) (nomark _)))))
 (pss_one (ps_ret pe_non)) pss_nil)
 (pss_cons (ps_asg (pv 2) (pg_tup rfl (pgs_cons (pg_name (i := 3) nd rfl (by first | exact Or.inl rfl | exact Or.inr rfl)) (pgs_cons (pg_name (i := 1) nd rfl (by first | exact Or.inl rfl | exact Or.inr rfl)) pgs_nil))))
 (pss_cons (ps_set (i := 4) nd rfl (by first | exact Or.inl rfl | exact Or.inr rfl) pe_str)
 (pss_cons (ps_for PassesOwn.never rfl (pi_range1 (by rfl) T.range (pa_cons (pv 3) pa_nil)) (pg_name (i := 5) nd rfl (by first | exact Or.inl rfl | exact Or.inr rfl))
 (pss_cons (ps_set (i := 2) nd rfl (by first | exact Or.inl rfl | exact Or.inr rfl) (pe_kal c__law_read_number hr (by first | decide | exact Nat.le_refl _ | omega) (pa_cons (pv 0) (pa_cons (pv 1) pa_nil))))
 (C8.pss_cut (ps_if (PW.pt (pw_or (pt_cmpR op_isN (pv 2) pe_non (nomark _)) (pw_or (PW.pt (pw_and (pt_cmpR op_ne (pe_ix ix_tup (pv 2) pe_int (fun _ _ => rfl)) pe_int (nomark _)) (pw_and1 (pt_not (pt_chain op_le op_le pe_int (pe_ix ix_tup (pv 2) pe_int (fun _ _ => rfl)) pe_int))))) (pw_or1 (pt_cmpR op_eq (pe_ix ix_tup (pv 2) pe_int (fun _ _ => rfl)) pe_int (nomark _))))))
 (pss_one (ps_ret pe_non)) pss_nil)
 (pss_cons (ps_set (i := 4) nd rfl (by first | exact Or.inl rfl | exact Or.inr rfl) (pe_op op_add_str (pv 4) (pe_kal c__law_sign hr (by first | decide | exact Nat.le_refl _ | omega) (pa_cons (pe_ix ix_tup (pv 2) pe_int (fun _ _ => rfl)) pa_nil))))
 (pss_one (ps_set (i := 1) nd rfl (by first | exact Or.inl rfl | exact Or.inr rfl) (pe_ix ix_tup (pv 2) pe_int (fun _ _ => rfl))))))))
 (pss_one (ps_ret (pe_tup (pa_cons (pv 4) (pa_cons (pv 1) pa_nil)))))))))), ?_⟩
    refine ⟨_, rfl, _, rfl, a, l, i, rfl, ha, hll, fun H1 x s1 hx => ?_⟩
    refine ⟨_, rfl, rfl, _, rfl, ?_⟩
    cases e : pNum l i with
    | none =>
      rw [e] at hx
      obtain rfl := encR_none hx
      refine ite2 (fun _ => ?_) (fun z => absurd isN_yes z)
      exact kk _ _ s1 (by unfold pList pCount; rw [e]; exact .non)
    | some nj =>
      obtain ⟨n, j⟩ := nj
      rw [e] at hx
      obtain ⟨t, y, rfl, ht, hy⟩ := encR_some hx
      obtain rfl := dp_int hy
      refine ite2 (fun z => absurd z isN_no) (fun _ => ?_)
      refine ⟨_, rfl, _, _, _, _, rfl, rfl, ht, rfl, _, rfl, _, _, rfl, .inl (SqL.of (s1 _ _ ha)), ?_⟩
      rw [nums_len]
      refine ⟨_, rfl, _, _, _, _, rfl, rfl, ht, rfl, _, _, rfl, rfl, _, _, rfl, rfl, _, rfl, ?_⟩
      have ec : pList pChar l i = if n + j ≤ l.length then pRep pChar n l j else none := by
        unfold pList pCount
        rw [e]
        show (if n + j ≤ l.length then some (n, j) else none).bind _ = _
        split <;> rfl
      refine ite2 (fun z => ?_) (fun z => ?_)
      · have := of_decide_eq_true z
        refine kk _ _ s1 ?_
        rw [ec, if_neg (by omega)]
        exact .non
      have hle : n + j ≤ l.length := by
        have : ¬ ((l.length : Nat) : Int) - ((j : Nat) : Int) < ((n : Nat) : Int) := fun w => z (decide_eq_true w)
        omega
      rw [ec, if_pos hle] at kk
      refine ⟨_, rfl, t, _, rfl, ht, rfl, _, _, rfl, _, _, rfl, rfl, ?_⟩
      have e0 : ("" : Str) = S [] := by decide +kernel
      refine ⟨_, rfl, _, rfl, by omega, by omega, for_range0 (n := n) (fun m σ H' => Hold (∃ (cs : List Nat) (j2 : Nat) (v2 v5 : Option V), σ = [some (.ref a), some (.int (j2 : Nat)), v2, some (.int (n : Nat)), some (.str (S cs)), v5] ∧ Same H H' ∧ pRep pChar m l j = some (cs, j2))) ?_ ?_ ?_⟩
      · exact .mk ⟨[], j, _, none, by rw [← e0]; rfl, s1, rfl⟩
      · intro m σ H2 hm V
        obtain ⟨cs, j2, v2, v5, rfl, s2, ep⟩ := V.out
        have hml := pRep_len ep
        refine ⟨_, rfl, _, rfl, a, l, j2, rfl, s2 _ _ ha, hll, fun H3 x s3 hx => ?_⟩
        have S3 := s2.trans s3
        have bad : pChar l j2 = none → Dp K H3 .non (encR encS (pRep pChar n l j)) := fun z => by
          rw [pRep_none pChar (n := m + 1) (m := n) (by omega) (by rw [pRep_snoc, ep]; show (pChar l j2).map _ = _; rw [z]; rfl)]
          exact .non
        refine ⟨fun σ' H4 => ∃ (c j3 : Nat) (t : Addr), σ' = [some (.ref a), some (.int (j2 : Nat)), some (.ref t), some (.int (n : Nat)), some (.str (S cs)), some (.int (m : Nat))] ∧ H4 = H3 ∧ SqT K H3 t [.int (c : Nat), .int (j3 : Nat)] ∧ okSign c ∧ pNum l j2 = some (c, j3), ?_, ?_⟩
        · refine ⟨_, rfl, rfl, _, rfl, ?_⟩
          cases e2 : pNum l j2 with
          | none =>
            rw [e2] at hx
            obtain rfl := encR_none hx
            refine ite2 (fun _ => ?_) (fun z => absurd isN_yes z)
            exact kk _ _ S3 (bad (by unfold pChar; rw [e2]; rfl))
          | some cj =>
            obtain ⟨c, j3⟩ := cj
            rw [e2] at hx
            obtain ⟨t, y, rfl, ht, hy⟩ := encR_some hx
            obtain rfl := dp_int hy
            have e3 : pChar l j2 = if okSign c then some (c, j3) else none := by unfold pChar; rw [e2]; rfl
            refine ite2 (fun z => absurd z isN_no) (fun _ => ?_)
            have no : ¬ okSign c → Dp K H3 .non (encR encS (pRep pChar n l j)) := fun z => bad (by rw [e3, if_neg z])
            have le10 : ∀ (z : Bool), (!decide (L2.V.int (c : Nat) = L2.V.int 10)) = z → (z = true ↔ c ≠ 10) := fun z hz => by
              subst hz
              rw [Bool.not_eq_true', decide_eq_false_iff_not]
              exact ⟨fun h1 h2 => h1 (by rw [h2]; rfl), fun h1 h2 => h1 (by have := L2.V.int.inj h2; omega)⟩
            refine ⟨_, rfl, _, _, _, _, rfl, rfl, ht, rfl, rfl, _, rfl, ?_⟩
            refine ite2 (fun z => ?_) (fun z => ?_)
            · have n10 : c ≠ 10 := (le10 _ rfl).mp z
              refine ⟨_, rfl, _, _, _, _, rfl, rfl, ht, rfl, _, _, rfl, rfl, _, rfl, ?_⟩
              refine ite2 (fun z1 => ?_) (fun z1 => ?_)
              · have h1 := of_decide_eq_true z1
                refine ⟨_, _, rfl, rfl, _, rfl, ?_⟩
                refine ite2 (fun z2 => ?_) (fun z2 => ?_)
                · have h2 : ¬ ((c : Nat) : Int) ≤ 126 := by simpa using z2
                  exact kk _ _ S3 (no (by unfold okSign; omega))
                · have h2 : ((c : Nat) : Int) ≤ 126 := by simpa using z2
                  refine ⟨_, rfl, _, _, _, _, rfl, rfl, ht, rfl, rfl, _, rfl, ?_⟩
                  refine ite2 (fun z3 => ?_) (fun z3 => ?_)
                  · have := vint z3
                    exact kk _ _ S3 (no (by unfold okSign; omega))
                  · have := vintF z3
                    exact ⟨c, j3, t, rfl, rfl, ht, by unfold okSign; omega, rfl⟩
              · have h1 : ¬ (32 : Int) ≤ ((c : Nat) : Int) := fun w => z1 (decide_eq_true w)
                refine ⟨_, rfl, ?_⟩
                refine ite2 (fun _ => ?_) (fun z2 => by simp at z2)
                exact kk _ _ S3 (no (by unfold okSign; omega))
            · have c10 : c = 10 := Classical.not_not.mp fun w => z ((le10 _ rfl).mpr w)
              refine ⟨_, rfl, _, _, _, _, rfl, rfl, ht, rfl, rfl, _, rfl, ?_⟩
              refine ite2 (fun z3 => ?_) (fun z3 => ?_)
              · have := vint z3; omega
              · exact ⟨c, j3, t, rfl, rfl, ht, .inl c10, rfl⟩
        · rintro σ' _ ⟨c, j3, t, rfl, rfl, ht, oc, e2⟩
          have e3 : pChar l j2 = some (c, j3) := by unfold pChar; rw [e2]; show (if okSign c then _ else _) = _; rw [if_pos oc]
          refine ⟨_, rfl, _, rfl, _, _, _, _, rfl, rfl, ht, rfl, c, rfl, oc, ?_⟩
          refine ⟨_, _, rfl, rfl, by rw [S_len, S_len, line24, hml]; simp; omega, ?_⟩
          rw [S_cat]
          refine ⟨_, rfl, _, _, _, _, rfl, rfl, ht, rfl, ?_⟩
          refine .mk ⟨cs ++ [c], j3, _, _, rfl, S3, ?_⟩
          rw [pRep_snoc, ep]
          show (pChar l j2).map _ = _
          rw [e3]; rfl
      · intro σ H2 V
        obtain ⟨cs, j2, v2, v5, rfl, s2, ep⟩ := V.out
        refine ⟨_, rfl, _, rfl, by show 2 ≤ sizeLine; decide, fun u nu => ?_⟩
        generalize h3 : upd _ u _ = H3
        have s3 := same_of h3 nu
        have a3 := upd_at h3
        refine kk H3 _ (s2.trans s3) ?_
        rw [ep]
        exact .tup (.inl (.inl a3)) (.cons (.str _) (.cons (.int _) .nil))
theorem k__law_read_mark (T : TopF K mg) (D : Defs K mg) (c__law_read_number : Kal P w K mg base CX0 1 "_law_read_number" ["data", "at"] (spO K pNum encN)) : Kal P w K mg base CX0 2 "_law_read_mark" ["data", "at"] (spO K pMark encM) := by
  refine kal_mk D.d__law_read_mark sc__law_read_mark bi__law_read_mark (fun vs H Q E h => ?_) (fun f cdv A outer s H vs Q E hr h => ?_)
  · obtain ⟨_, _, _, rfl, _⟩ := h; rfl
  · obtain ⟨a, l, i, rfl, ha, hll, kk⟩ := h
    have nd := sc__law_read_mark.nd
    refine ⟨_, (pss_cons (ps_set (i := 2) nd rfl (by first | exact Or.inl rfl | exact Or.inr rfl) (pe_kal c__law_read_number hr (by first | decide | exact Nat.le_refl _ | omega) (pa_cons (pv 0) (pa_cons (pv 1) pa_nil))))
 (pss_cons (ps_set (i := 3) nd rfl (by first | exact Or.inl rfl | exact Or.inr rfl) (pe_ifExp (pt_cmpR op_isN (pv 2) pe_non (nomark _)) pe_non (pe_kal c__law_read_number hr (by first | decide | exact Nat.le_refl _ | omega) (pa_cons (pv 0) (pa_cons (pe_ix ix_tup (pv 2) pe_int (fun _ _ => rfl)) pa_nil)))))
 (pss_one (ps_ret (pe_ifExp (pt_cmpR op_isN (pv 3) pe_non (nomark _)) pe_non (pe_tup (pa_cons (pe_tup (pa_cons (pe_ix ix_tup (pv 2) pe_int (fun _ _ => rfl)) (pa_cons (pe_ix ix_tup (pv 3) pe_int (fun _ _ => rfl)) pa_nil))) (pa_cons (pe_ix ix_tup (pv 3) pe_int (fun _ _ => rfl)) pa_nil)))))))), ?_⟩
    refine ⟨_, rfl, _, rfl, a, l, i, rfl, ha, hll, fun H1 x s1 hx => ?_⟩
    refine ⟨_, rfl, rfl, _, rfl, ?_⟩
    cases e : pNum l i with
    | none =>
      rw [e] at hx
      obtain rfl := encR_none hx
      refine ite2 (fun _ => ?_) (fun z => absurd isN_yes z)
      refine ⟨_, rfl, rfl, _, rfl, ite2 (fun _ => ?_) (fun z => absurd isN_yes z)⟩
      exact kk _ _ s1 (by unfold pMark; rw [e]; exact .non)
    | some nj =>
      obtain ⟨n, j⟩ := nj
      rw [e] at hx
      obtain ⟨t, y, rfl, ht, hy⟩ := encR_some hx
      obtain rfl := dp_int hy
      have em : pMark l i = (pNum l j).map fun b => ((n, b.1), b.2) := by unfold pMark; rw [e]; rfl
      rw [em] at kk
      refine ite2 (fun z => absurd z isN_no) (fun _ => ?_)
      refine ⟨_, rfl, _, rfl, _, _, _, _, rfl, rfl, ht, rfl, a, l, j, rfl, s1 _ _ ha, hll, fun H2 x2 s2 hx2 => ?_⟩
      refine ⟨_, rfl, rfl, _, rfl, ?_⟩
      cases e2 : pNum l j with
      | none =>
        rw [e2] at hx2
        obtain rfl := encR_none hx2
        refine ite2 (fun _ => ?_) (fun z => absurd isN_yes z)
        exact kk _ _ (s1.trans s2) (by rw [e2]; exact .non)
      | some nj2 =>
        obtain ⟨n2, j2⟩ := nj2
        rw [e2] at hx2
        obtain ⟨t2, y2, rfl, ht2, hy2⟩ := encR_some hx2
        obtain rfl := dp_int hy2
        refine ite2 (fun z => absurd z isN_no) (fun _ => ?_)
        refine ⟨_, rfl, _, _, _, _, rfl, rfl, Same.seqT s2 ht, rfl, _, rfl, _, _, _, _, rfl, rfl, ht2, rfl, by show 2 ≤ sizeLine; decide, fun u nu => ?_⟩
        generalize h3 : upd _ u _ = H3
        have s3 := same_of h3 nu
        have a3 := upd_at h3
        refine ⟨_, rfl, _, _, _, _, rfl, rfl, Same.seqT s3 ht2, rfl, by show 2 ≤ sizeLine; decide, fun v nv => ?_⟩
        generalize h4 : upd _ v _ = H4
        have s4 := same_of h4 nv
        have a4 := upd_at h4
        refine kk H4 _ (((s1.trans s2).trans s3).trans s4) ?_
        rw [e2]
        exact .tup (.inl (.inl a4)) (.cons (.tup (.inl (.inl (s4 _ _ a3))) (.cons (.int _) (.cons (.int _) .nil))) (.cons (.int _) .nil))
end
end Mk12
namespace Mk12
open PySem PySem.Spec PyProof.Rows L2 My

open SX
section
variable {P : Program} {w : World} {K : PySem.W.Frag} {mg : Str → Option Value} {base : Heap}
/-- x is told, or none; what comes behind it is read by p2 -/
theorem bind_none {α β : Type} {K : PySem.W.Frag} {H : Hp} {p2 : α × Nat → Option (β × Nat)} {enc : β → PyData} : Dp K H .non (encR enc ((none : Option (α × Nat)).bind p2)) := .non
theorem k__law_read_deed (T : TopF K mg) (D : Defs K mg) (c__law_read_number : Kal P w K mg base CX0 1 "_law_read_number" ["data", "at"] (spO K pNum encN)) (c__law_read_text : Kal P w K mg base CX0 2 "_law_read_text" ["data", "at"] (spO K (pList pChar) encS)) (c__law_read_mark : Kal P w K mg base CX0 2 "_law_read_mark" ["data", "at"] (spO K pMark encM)) : Kal P w K mg base CX0 3 "_law_read_deed" ["data", "at"] (spO K pDeed encD) := by
  refine kal_mk D.d__law_read_deed sc__law_read_deed bi__law_read_deed (fun vs H Q E h => ?_) (fun f cdv A outer s H vs Q E hr h => ?_)
  · obtain ⟨_, _, _, rfl, _⟩ := h; rfl
  · obtain ⟨a, l, i, rfl, ha, hll, kk⟩ := h
    have nd := sc__law_read_deed.nd
    refine ⟨_, (pss_cons (ps_if (PW.pt (pw_or (pt_cmpR op_ge (pv 1) (pe_callB call_len_seq (by rfl) T.len (by decide +kernel) (pa_cons (pv 0) pa_nil)) (nomark _)) (pw_or1 (pt_cmpR op_gt (pe_ix ix_list (pv 0) (pv 1) (fun _ _ => rfl)) pe_int (nomark _)))))
 (pss_one (ps_ret pe_non)) pss_nil)
 (pss_cons (ps_if (pt_cmpR op_eq (pe_ix ix_list (pv 0) (pv 1) (fun _ _ => rfl)) pe_int (nomark _))
 (pss_cons (ps_set (i := 2) nd rfl (by first | exact Or.inl rfl | exact Or.inr rfl) (pe_kal c__law_read_number hr (by first | decide | exact Nat.le_refl _ | omega) (pa_cons (pv 0) (pa_cons (pe_op op_add (pv 1) pe_int) pa_nil))))
 (pss_one (ps_ret (pe_ifExp (pt_cmpR op_isN (pv 2) pe_non (nomark _)) pe_non (pe_tup (pa_cons (pe_tup (pa_cons pe_str (pa_cons (pe_ix ix_tup (pv 2) pe_int (fun _ _ => rfl)) pa_nil))) (pa_cons (pe_ix ix_tup (pv 2) pe_int (fun _ _ => rfl)) pa_nil))))))) pss_nil)
 (pss_cons (ps_set (i := 3) nd rfl (by first | exact Or.inl rfl | exact Or.inr rfl) (pe_kal c__law_read_text hr (by first | decide | exact Nat.le_refl _ | omega) (pa_cons (pv 0) (pa_cons (pe_op op_add (pv 1) pe_int) pa_nil))))
 (C8.pss_cut (ps_set (i := 4) nd rfl (by first | exact Or.inl rfl | exact Or.inr rfl) (pe_ifExp (pt_cmpR op_isN (pv 3) pe_non (nomark _)) pe_non (pe_kal c__law_read_number hr (by first | decide | exact Nat.le_refl _ | omega) (pa_cons (pv 0) (pa_cons (pe_ix ix_tup (pv 3) pe_int (fun _ _ => rfl)) pa_nil)))))
 (pss_cons (ps_if (PW.pt (pw_or (pt_cmpR op_isN (pv 4) pe_non (nomark _)) (pw_or1 (pt_cmpR op_gt (pe_ix ix_tup (pv 4) pe_int (fun _ _ => rfl)) (pe_op op_sub (pe_callB call_len_seq (by rfl) T.len (by decide +kernel) (pa_cons (pv 0) pa_nil)) (pe_ix ix_tup (pv 4) pe_int (fun _ _ => rfl))) (nomark _)))))
 (pss_one (ps_ret pe_non)) pss_nil)
 (pss_cons (ps_set (i := 1) nd rfl (by first | exact Or.inl rfl | exact Or.inr rfl) (pe_ix ix_tup (pv 4) pe_int (fun _ _ => rfl)))
 (pss_cons (ps_set (i := 5) nd rfl (by first | exact Or.inl rfl | exact Or.inr rfl) (pe_lst pa_nil))
 (pss_cons (ps_for PassesOwn.never rfl (pi_range1 (by rfl) T.range (pa_cons (pe_ix ix_tup (pv 4) pe_int (fun _ _ => rfl)) pa_nil)) (pg_name (i := 6) nd rfl (by first | exact Or.inl rfl | exact Or.inr rfl))
 (pss_cons (ps_set (i := 2) nd rfl (by first | exact Or.inl rfl | exact Or.inr rfl) (pe_kal c__law_read_mark hr (by first | decide | exact Nat.le_refl _ | omega) (pa_cons (pv 0) (pa_cons (pv 1) pa_nil))))
 (pss_cons (ps_if (pt_cmpR op_isN (pv 2) pe_non (nomark _))
 (pss_one (ps_ret pe_non)) pss_nil)
 (pss_cons (ps_expr (pe_bm PySem.F.plainAttrs_list PySem.F.slot_list_append PySem.F.type_list_append mt_append (pv 5) (pa_cons (pe_ix ix_tup (pv 2) pe_int (fun _ _ => rfl)) pa_nil)))
 (pss_one (ps_set (i := 1) nd rfl (by first | exact Or.inl rfl | exact Or.inr rfl) (pe_ix ix_tup (pv 2) pe_int (fun _ _ => rfl))))))))
 (pss_cons (ps_if (PW.pt (pw_or (pt_cmpR op_ge (pv 1) (pe_callB call_len_seq (by rfl) T.len (by decide +kernel) (pa_cons (pv 0) pa_nil)) (nomark _)) (pw_or1 (pt_cmpR op_gt (pe_ix ix_list (pv 0) (pv 1) (fun _ _ => rfl)) pe_int (nomark _)))))
 (pss_one (ps_ret pe_non)) pss_nil)
 (C8.pss_cut (ps_set (i := 7) nd rfl (by first | exact Or.inl rfl | exact Or.inr rfl) (pe_ifExp (pt_cmpR op_eq (pe_ix ix_list (pv 0) (pv 1) (fun _ _ => rfl)) pe_int (nomark _)) (pe_tup (pa_cons pe_non (pa_cons (pe_op op_add (pv 1) pe_int) pa_nil))) (pe_kal c__law_read_mark hr (by first | decide | exact Nat.le_refl _ | omega) (pa_cons (pv 0) (pa_cons (pe_op op_add (pv 1) pe_int) pa_nil)))))
 (C8.pss_cut (ps_set (i := 8) nd rfl (by first | exact Or.inl rfl | exact Or.inr rfl) (pe_ifExp (pt_cmpR op_isN (pv 7) pe_non (nomark _)) pe_non (pe_kal c__law_read_number hr (by first | decide | exact Nat.le_refl _ | omega) (pa_cons (pv 0) (pa_cons (pe_ix ix_tup (pv 7) pe_int (fun _ _ => rfl)) pa_nil)))))
 (C8.pss_cut (ps_set (i := 9) nd rfl (by first | exact Or.inl rfl | exact Or.inr rfl) (pe_ifExp (pt_cmpR op_isN (pv 8) pe_non (nomark _)) pe_non (pe_kal c__law_read_text hr (by first | decide | exact Nat.le_refl _ | omega) (pa_cons (pv 0) (pa_cons (pe_ix ix_tup (pv 8) pe_int (fun _ _ => rfl)) pa_nil)))))
 (pss_one (ps_ret (pe_ifExp (pt_cmpR op_isN (pv 9) pe_non (nomark _)) pe_non (pe_tup (pa_cons (pe_tup (pa_cons pe_str (pa_cons (pe_ix ix_tup (pv 3) pe_int (fun _ _ => rfl)) (pa_cons (pe_callTy call_tuple_of (by rfl) T.tuple (by decide +kernel) (pa_cons (pv 5) pa_nil)) (pa_cons (pe_ix ix_tup (pv 7) pe_int (fun _ _ => rfl)) (pa_cons (pe_ix ix_tup (pv 8) pe_int (fun _ _ => rfl)) (pa_cons (pe_ix ix_tup (pv 9) pe_int (fun _ _ => rfl)) pa_nil))))))) (pa_cons (pe_ix ix_tup (pv 9) pe_int (fun _ _ => rfl)) pa_nil)))))))))))))))))), ?_⟩
    refine ⟨_, rfl, _, rfl, _, _, rfl, .inl (SqL.of ha), _, _, rfl, rfl, _, rfl, ?_⟩
    rw [nums_len]
    refine ite2 (fun z => ?_) (fun z => ?_)
    · have z := of_decide_eq_true z
      refine kk _ _ (Same.refl _) ?_
      unfold pDeed pChoice pByte
      rw [List.getElem?_eq_none (show l.length ≤ i by omega)]
      exact .non
    have hlt : i < l.length := by
      have : ¬ ((l.length : Nat) : Int) ≤ ((i : Nat) : Int) := fun w => z (decide_eq_true w)
      omega
    obtain ⟨b, hb⟩ : ∃ b, l[i]? = some b := ⟨_, List.getElem?_eq_getElem hlt⟩
    have hat : atI (nums l) ((i : Nat) : Int) = some (.int (b : Nat)) := atI_nat (map_put hb)
    have ec : pChoice 2 l i = if b < 2 then some (b, i + 1) else none := by unfold pChoice pByte; rw [hb]; rfl
    refine ⟨_, rfl, _, rfl, _, _, _, _, rfl, rfl, SqL.of ha, hat, _, _, rfl, rfl, _, rfl, ?_⟩
    refine ite2 (fun z => ?_) (fun z => ?_)
    · have z := of_decide_eq_true z
      refine kk _ _ (Same.refl _) ?_
      unfold pDeed
      rw [ec, if_neg (by omega)]
      exact .non
    have hb2 : b < 2 := by
      have : ¬ (1 : Int) < ((b : Nat) : Int) := fun w => z (decide_eq_true w)
      omega
    rw [if_pos hb2] at ec
    have ei : ((i : Nat) : Int) + 1 = ((i + 1 : Nat) : Int) := rfl
    refine ⟨_, rfl, _, rfl, _, _, _, _, rfl, rfl, SqL.of ha, hat, rfl, _, rfl, ?_⟩
    refine ite2 (fun z => ?_) (fun z => ?_)
    · -- back
      have b1 : b = 1 := by have := vint z; omega
      have ed : pDeed l i = (pNum l (i + 1)).map fun n => (.back n.1, n.2) := by unfold pDeed; rw [ec, b1]; rfl
      rw [ed] at kk
      refine ⟨_, rfl, _, rfl, _, _, rfl, rfl, a, l, i + 1, rfl, ha, hll, fun H1 x s1 hx => ?_⟩
      refine ⟨_, rfl, rfl, _, rfl, ?_⟩
      cases e : pNum l (i + 1) with
      | none =>
        rw [e] at hx
        obtain rfl := encR_none hx
        refine ite2 (fun _ => ?_) (fun z => absurd isN_yes z)
        exact kk _ _ s1 (by rw [e]; exact .non)
      | some nj =>
        obtain ⟨n, j⟩ := nj
        rw [e] at hx
        obtain ⟨t, y, rfl, ht, hy⟩ := encR_some hx
        obtain rfl := dp_int hy
        refine ite2 (fun z => absurd z isN_no) (fun _ => ?_)
        refine ⟨_, rfl, _, _, _, _, rfl, rfl, ht, rfl, by show 2 ≤ sizeLine; decide, fun u nu => ?_⟩
        generalize h3 : upd _ u _ = H3
        have s3 := same_of h3 nu
        have a3 := upd_at h3
        refine ⟨_, rfl, _, _, _, _, rfl, rfl, Same.seqT s3 ht, rfl, by show 2 ≤ sizeLine; decide, fun v nv => ?_⟩
        generalize h4 : upd _ v _ = H4
        have s4 := same_of h4 nv
        have a4 := upd_at h4
        refine kk H4 _ ((s1.trans s3).trans s4) ?_
        rw [e]
        exact .tup (.inl (.inl a4)) (.cons (.tup (.inl (.inl (s4 _ _ a3))) (.cons (.str _) (.cons (.int _) .nil))) (.cons (.int _) .nil))
    have b1 : ¬ b = 1 := fun w => vintF z (by rw [w]; rfl)
    have ed : pDeed l i = pChange l (i + 1) := by unfold pDeed; rw [ec]; show (if b = 1 then _ else _) = _; rw [if_neg b1]
    rw [ed] at kk
    unfold pChange at kk
    -- module
    refine ⟨_, rfl, _, rfl, _, _, rfl, rfl, a, l, i + 1, rfl, ha, hll, fun H1 xm s1 hm => ?_⟩
    refine ⟨fun σ' H2 => ∃ y : V, σ' = [some (.ref a), some (.int (i : Nat)), none, some xm, some y, none, none, none, none, none] ∧ Same H1 H2 ∧ Dp K H2 y (encR encN ((pList pChar l (i + 1)).bind fun mo => pNum l mo.2)), ?_, ?_⟩
    · refine ⟨_, rfl, rfl, _, rfl, ?_⟩
      cases e : pList pChar l (i + 1) with
      | none =>
        rw [e] at hm
        obtain rfl := encR_none hm
        refine ite2 (fun _ => ?_) (fun z => absurd isN_yes z)
        exact ⟨_, rfl, Same.refl _, .non⟩
      | some mj =>
        obtain ⟨mo, j⟩ := mj
        rw [e] at hm
        obtain ⟨t, y, rfl, ht, hy⟩ := encR_some hm
        refine ite2 (fun z => absurd z isN_no) (fun _ => ?_)
        refine ⟨_, rfl, _, rfl, _, _, _, _, rfl, rfl, ht, rfl, a, l, j, rfl, s1 _ _ ha, hll, fun H2 x2 s2 hx2 => ?_⟩
        exact ⟨_, rfl, s2, hx2⟩
    rintro σ' H2 ⟨xc, rfl, s2, hc⟩
    have S2 := s1.trans s2
    refine ⟨_, rfl, rfl, _, rfl, ?_⟩
    cases em : pList pChar l (i + 1) with
    | none =>
      rw [em] at hc
      obtain rfl := encR_none hc
      refine ite2 (fun _ => ?_) (fun z => absurd isN_yes z)
      exact kk _ _ S2 (by rw [em]; exact .non)
    | some mj =>
    obtain ⟨mo, j⟩ := mj
    rw [em] at hc hm kk
    simp only [Option.bind_some] at hc kk
    obtain ⟨tm, ym, rfl, htm, hym⟩ := encR_some hm
    obtain rfl := dp_str hym
    cases e : pNum l j with
    | none =>
      rw [e] at hc
      obtain rfl := encR_none hc
      refine ite2 (fun _ => ?_) (fun z => absurd isN_yes z)
      exact kk _ _ S2 (by unfold pList pCount; rw [e]; exact .non)
    | some nj =>
    obtain ⟨n, j2⟩ := nj
    rw [e] at hc
    obtain ⟨tc, yc, rfl, htc, hyc⟩ := encR_some hc
    obtain rfl := dp_int hyc
    refine ite2 (fun z => absurd z isN_no) (fun _ => ?_)
    refine ⟨_, rfl, _, _, _, _, rfl, rfl, htc, rfl, _, rfl, _, _, rfl, .inl (SqL.of (S2 _ _ ha)), ?_⟩
    rw [nums_len]
    refine ⟨_, rfl, _, _, _, _, rfl, rfl, htc, rfl, _, _, rfl, rfl, _, _, rfl, rfl, _, rfl, ?_⟩
    have epl : pList pMark l j = if n + j2 ≤ l.length then pRep pMark n l j2 else none := by
      unfold pList pCount
      rw [e]
      show (if n + j2 ≤ l.length then some (n, j2) else none).bind _ = _
      split <;> rfl
    refine ite2 (fun z => ?_) (fun z => ?_)
    · have := of_decide_eq_true z
      refine kk _ _ S2 ?_
      rw [epl, if_neg (by omega)]
      exact .non
    have hle : n + j2 ≤ l.length := by
      have : ¬ ((l.length : Nat) : Int) - ((j2 : Nat) : Int) < ((n : Nat) : Int) := fun w => z (decide_eq_true w)
      omega
    rw [epl, if_pos hle] at kk
    clear epl
    refine ⟨_, rfl, _, _, _, _, rfl, rfl, htc, rfl, ?_⟩
    -- the marks
    refine ⟨by show 0 ≤ sizeLine; decide, fun M nM => ?_⟩
    generalize h3 : upd _ M _ = H3
    have s3 := same_of h3 nM
    have a3 := upd_at h3
    have S3 := S2.trans s3
    have nM0 := S2.free nM
    refine ⟨_, rfl, _, _, _, _, rfl, rfl, Same.seqT s3 htc, rfl, _, rfl, by omega, by omega, for_range0 (n := n) (fun m σ H' => Hold (∃ (ms : List (Nat × Nat)) (j3 : Nat) (v2 v6 : Option V), σ = [some (.ref a), some (.int (j3 : Nat)), v2, some (.ref tm), some (.ref tc), some (.ref M), v6, none, none, none] ∧ Same H2 H' ∧ pRep pMark m l j2 = some (ms, j3) ∧ LD K H' M (ms.map encM))) ?_ ?_ ?_⟩
    · exact .mk ⟨[], j2, _, none, rfl, s3, rfl, LD.nil a3⟩
    · intro m σ H4 hm V
      obtain ⟨ms, j3, v2, v6, rfl, s4, ep, hD⟩ := V.out
      clear V
      have hml := pRep_len ep
      have S4 := S2.trans s4
      refine ⟨_, rfl, _, rfl, a, l, j3, rfl, S4 _ _ ha, hll, fun H5 x s5 hx => ?_⟩
      have S5 := S4.trans s5
      refine ⟨_, rfl, rfl, _, rfl, ?_⟩
      cases e2 : pMark l j3 with
      | none =>
        rw [e2] at hx
        obtain rfl := encR_none hx
        refine ite2 (fun _ => ?_) (fun z => absurd isN_yes z)
        refine kk _ _ S5 ?_
        rw [pRep_none pMark (n := m + 1) (m := n) (by omega) (by rw [pRep_snoc, ep]; show (pMark l j3).map _ = _; rw [e2]; rfl)]
        exact .non
      | some cj =>
        obtain ⟨c, j4⟩ := cj
        rw [e2] at hx
        obtain ⟨t, y, rfl, ht, hy⟩ := encR_some hx
        refine ite2 (fun z => absurd z isN_no) (fun _ => ?_)
        obtain ⟨vs, g1, g2⟩ := hD
        have hD5 : LD K H5 M (ms.map encM) := ⟨vs, s5 _ _ g1, DpAll.same s5 g2⟩
        obtain ⟨vs', g3, g4, g5⟩ := hD5.push (flat_Ms ms) hy (flat_M c)
        refine ⟨_, rfl, .inl ⟨rfl, _, SqL.of g3⟩, ?_⟩
        refine ⟨_, rfl, _, _, _, _, rfl, rfl, ht, rfl, M, _, _, rfl, rfl, g3, by rw [g4, List.length_map, line24]; omega, ?_⟩
        generalize h6 : upd _ M _ = H6 at g5
        have k6 : Keep (· = M) H5 H6 := keep_of h6 rfl
        have ht6 := seqT_keep k6 g3 (by intro _ z; cases z) (by intro _ _ z; cases z) ht
        refine ⟨_, rfl, _, _, _, _, rfl, rfl, ht6, rfl, ?_⟩
        refine .mk ⟨ms ++ [c], j4, _, _, rfl, fun b o e => k6 _ _ (s5 _ _ (s4 _ _ e)) (ne_of_none e nM), ?_, by rw [List.map_append]; exact g5⟩
        rw [pRep_snoc, ep]
        show (pMark l j3).map _ = _
        rw [e2]; rfl
    · intro σ H4 V
      obtain ⟨ms, j3, v2, v6, rfl, s4, ep, hD⟩ := V.out
      clear V
      have S4 := S2.trans s4
      rw [ep] at kk
      simp only [Option.bind_some] at kk
      -- the byte in front of what is behind
      refine ⟨_, rfl, _, rfl, _, _, rfl, .inl (SqL.of (S4 _ _ ha)), _, _, rfl, rfl, _, rfl, ?_⟩
      rw [nums_len]
      refine ite2 (fun z => ?_) (fun z => ?_)
      · have z := of_decide_eq_true z
        refine kk _ _ S4 ?_
        unfold pBehind pChoice pByte
        rw [List.getElem?_eq_none (show l.length ≤ j3 by omega)]
        exact .non
      have hlt3 : j3 < l.length := by
        have : ¬ ((l.length : Nat) : Int) ≤ ((j3 : Nat) : Int) := fun w => z (decide_eq_true w)
        omega
      obtain ⟨b3, hb3⟩ : ∃ b, l[j3]? = some b := ⟨_, List.getElem?_eq_getElem hlt3⟩
      have hat3 : atI (nums l) ((j3 : Nat) : Int) = some (.int (b3 : Nat)) := atI_nat (map_put hb3)
      have ec3 : pChoice 2 l j3 = if b3 < 2 then some (b3, j3 + 1) else none := by unfold pChoice pByte; rw [hb3]; rfl
      refine ⟨_, rfl, _, rfl, _, _, _, _, rfl, rfl, SqL.of (S4 _ _ ha), hat3, _, _, rfl, rfl, _, rfl, ?_⟩
      refine ite2 (fun z => ?_) (fun z => ?_)
      · have z := of_decide_eq_true z
        refine kk _ _ S4 ?_
        unfold pBehind
        rw [ec3, if_neg (by omega)]
        exact .non
      have hb32 : b3 < 2 := by
        have : ¬ (1 : Int) < ((b3 : Nat) : Int) := fun w => z (decide_eq_true w)
        omega
      rw [if_pos hb32] at ec3
      -- behind
      refine ⟨fun σ' H5 => ∃ y : L2.V, σ' = [some (.ref a), some (.int (j3 : Nat)), v2, some (.ref tm), some (.ref tc), some (.ref M), v6, some y, none, none] ∧ Same H4 H5 ∧ Dp K H5 y (encR encO (pBehind l j3)), ?_, ?_⟩
      · refine ⟨_, rfl, _, rfl, _, _, _, _, rfl, rfl, SqL.of (S4 _ _ ha), hat3, rfl, _, rfl, ?_⟩
        refine ite2 (fun z => ?_) (fun z => ?_)
        · have b0 : b3 = 0 := by have := vint z; omega
          refine ⟨_, rfl, _, _, rfl, rfl, by show 2 ≤ sizeLine; decide, fun u nu => ?_⟩
          generalize h5 : upd _ u _ = H5
          have s5 := same_of h5 nu
          have a5 := upd_at h5
          refine ⟨_, rfl, s5, ?_⟩
          have eb : pBehind l j3 = some (none, j3 + 1) := by unfold pBehind; rw [ec3, b0]; rfl
          rw [eb]
          exact .tup (.inl (.inl a5)) (.cons .non (.cons (.int _) .nil))
        · have b31 : b3 = 1 := by have := vintF z; omega
          refine ⟨_, rfl, _, rfl, _, _, rfl, rfl, a, l, j3 + 1, rfl, S4 _ _ ha, hll, fun H5 x s5 hx => ?_⟩
          refine ⟨_, rfl, s5, ?_⟩
          have eb : pBehind l j3 = (pMark l (j3 + 1)).map fun m => (some m.1, m.2) := by unfold pBehind; rw [ec3, b31]; rfl
          rw [eb]
          cases e2 : pMark l (j3 + 1) with
          | none => rw [e2] at hx; obtain rfl := encR_none hx; exact .non
          | some v => obtain ⟨v, j4⟩ := v; rw [e2] at hx; exact hx
      rintro σ' H5 ⟨xb, rfl, s5, hb⟩
      -- number
      refine ⟨fun σ' H6 => ∃ y : L2.V, σ' = [some (.ref a), some (.int (j3 : Nat)), v2, some (.ref tm), some (.ref tc), some (.ref M), v6, some xb, some y, none] ∧ Same H5 H6 ∧ Dp K H6 y (encR encN ((pBehind l j3).bind fun be => pNum l be.2)), ?_, ?_⟩
      · refine ⟨_, rfl, rfl, _, rfl, ?_⟩
        cases e2 : pBehind l j3 with
        | none =>
          rw [e2] at hb
          obtain rfl := encR_none hb
          refine ite2 (fun _ => ?_) (fun z => absurd isN_yes z)
          exact ⟨_, rfl, Same.refl _, .non⟩
        | some v =>
          obtain ⟨be, j4⟩ := v
          rw [e2] at hb
          obtain ⟨t, y, rfl, ht, hy⟩ := encR_some hb
          refine ite2 (fun z => absurd z isN_no) (fun _ => ?_)
          refine ⟨_, rfl, _, rfl, _, _, _, _, rfl, rfl, ht, rfl, a, l, j4, rfl, (S4.trans s5) _ _ ha, hll, fun H6 x2 s6 hx2 => ?_⟩
          exact ⟨_, rfl, s6, hx2⟩
      rintro σ' H6 ⟨xn, rfl, s6, hn⟩
      have S6 := (S4.trans s5).trans s6
      -- text
      refine ⟨fun σ' H7 => ∃ y : L2.V, σ' = [some (.ref a), some (.int (j3 : Nat)), v2, some (.ref tm), some (.ref tc), some (.ref M), v6, some xb, some xn, some y] ∧ Same H6 H7 ∧ Dp K H7 y (encR encS (((pBehind l j3).bind fun be => pNum l be.2).bind fun nu => pList pChar l nu.2)), ?_, ?_⟩
      · refine ⟨_, rfl, rfl, _, rfl, ?_⟩
        cases e2 : (pBehind l j3).bind fun be => pNum l be.2 with
        | none =>
          rw [e2] at hn
          obtain rfl := encR_none hn
          refine ite2 (fun _ => ?_) (fun z => absurd isN_yes z)
          exact ⟨_, rfl, Same.refl _, .non⟩
        | some v =>
          obtain ⟨nu, j4⟩ := v
          rw [e2] at hn
          obtain ⟨t, y, rfl, ht, hy⟩ := encR_some hn
          refine ite2 (fun z => absurd z isN_no) (fun _ => ?_)
          refine ⟨_, rfl, _, rfl, _, _, _, _, rfl, rfl, ht, rfl, a, l, j4, rfl, S6 _ _ ha, hll, fun H7 x2 s7 hx2 => ?_⟩
          exact ⟨_, rfl, s7, hx2⟩
      rintro σ' H7 ⟨xt, rfl, s7, ht7⟩
      have S7 := S6.trans s7
      refine ⟨_, rfl, rfl, _, rfl, ?_⟩
      cases eb : pBehind l j3 with
      | none =>
        rw [eb] at ht7 kk
        obtain rfl := encR_none ht7
        refine ite2 (fun _ => ?_) (fun z => absurd isN_yes z)
        exact kk _ _ S7 .non
      | some v =>
      obtain ⟨be, j4⟩ := v
      rw [eb] at ht7 kk hb hn
      simp only [Option.bind_some] at ht7 kk hn
      cases en : pNum l j4 with
      | none =>
        rw [en] at ht7 kk
        obtain rfl := encR_none ht7
        refine ite2 (fun _ => ?_) (fun z => absurd isN_yes z)
        exact kk _ _ S7 .non
      | some v =>
      obtain ⟨nu, j5⟩ := v
      rw [en] at ht7 kk hn
      simp only [Option.bind_some] at ht7 kk
      cases et : pList pChar l j5 with
      | none =>
        rw [et] at ht7 kk
        obtain rfl := encR_none ht7
        refine ite2 (fun _ => ?_) (fun z => absurd isN_yes z)
        exact kk _ _ S7 .non
      | some v =>
      obtain ⟨te, j6⟩ := v
      rw [et] at ht7 kk
      obtain ⟨t1, y1, rfl, ht1, hy1⟩ := encR_some hb
      obtain ⟨t2, y2, rfl, ht2, hy2⟩ := encR_some hn
      obtain ⟨t3, y3, rfl, ht3, hy3⟩ := encR_some ht7
      obtain rfl := dp_int hy2
      obtain rfl := dp_str hy3
      refine ite2 (fun z => absurd z isN_no) (fun _ => ?_)
      have sB := s6.trans s7
      have sC := s5.trans sB
      obtain ⟨vs, g1, g2⟩ := hD
      refine ⟨_, rfl, _, _, _, _, rfl, rfl, Same.seqT (s2.trans (s4.trans sC)) htm, rfl, ?_⟩
      refine ⟨_, rfl, M, vs, rfl, .inl ⟨SqL.of (sC _ _ g1), fun u nu8 => ?_⟩⟩
      generalize h8 : upd _ u _ = H8
      have s8 := same_of h8 nu8
      have a8 := upd_at h8
      have hT : Dp K H8 (.ref u) (.tuple (ms.map encM)) := .tup (.inl (.inl a8)) (DpAll.same (sC.trans s8) g2)
      refine ⟨_, rfl, _, _, _, _, rfl, rfl, Same.seqT (sB.trans s8) ht1, rfl, ?_⟩
      refine ⟨_, rfl, _, _, _, _, rfl, rfl, Same.seqT (s7.trans s8) ht2, rfl, ?_⟩
      refine ⟨_, rfl, _, _, _, _, rfl, rfl, Same.seqT s8 ht3, rfl, by show 6 ≤ sizeLine; decide, fun v nv => ?_⟩
      generalize h9 : upd _ v _ = H9
      have s9 := same_of h9 nv
      have a9 := upd_at h9
      refine ⟨_, rfl, _, _, _, _, rfl, rfl, Same.seqT (s8.trans s9) ht3, rfl, by show 2 ≤ sizeLine; decide, fun z nz => ?_⟩
      generalize h10 : upd _ z _ = H10
      have s10 := same_of h10 nz
      have a10 := upd_at h10
      refine kk H10 _ (((S7.trans s8).trans s9).trans s10) ?_
      exact .tup (.inl (.inl a10)) (.cons (.tup (.inl (.inl (s10 _ _ a9))) (.cons (.str _) (.cons (.str _) (.cons (Dp.same (s9.trans s10) hT) (.cons (Dp.same (((sB.trans s8).trans s9).trans s10) hy1) (.cons (.int _) (.cons (.str _) .nil))))))) (.cons (.int _) .nil))
end
end Mk12
namespace Mk12
open PySem PySem.Spec PyProof.Rows L2 My

open SX
section
variable {P : Program} {w : World} {K : PySem.W.Frag} {mg : Str → Option Value} {base : Heap}
theorem k__law_read_triples (T : TopF K mg) (D : Defs K mg) (c__law_read_number : Kal P w K mg base CX0 1 "_law_read_number" ["data", "at"] (spO K pNum encN)) (c__law_read_mark : Kal P w K mg base CX0 2 "_law_read_mark" ["data", "at"] (spO K pMark encM)) (c__law_read_deed : Kal P w K mg base CX0 3 "_law_read_deed" ["data", "at"] (spO K pDeed encD)) : Kal P w K mg base CX0 4 "_law_read_triples" ["data", "at"] (spO K pTriples encTs) := by
  refine kal_mk D.d__law_read_triples sc__law_read_triples bi__law_read_triples (fun vs H Q E h => ?_) (fun f cdv A outer s H vs Q E hr h => ?_)
  · obtain ⟨_, _, _, rfl, _⟩ := h; rfl
  · obtain ⟨a, l, i, rfl, ha, hll, kk⟩ := h
    have nd := sc__law_read_triples.nd
    refine ⟨_, (pss_cons (ps_set (i := 2) nd rfl (by first | exact Or.inl rfl | exact Or.inr rfl) (pe_kal c__law_read_number hr (by first | decide | exact Nat.le_refl _ | omega) (pa_cons (pv 0) (pa_cons (pv 1) pa_nil))))
 (pss_cons (ps_if (PW.pt (pw_or (pt_cmpR op_isN (pv 2) pe_non (nomark _)) (pw_or1 (pt_cmpR op_gt (pe_ix ix_tup (pv 2) pe_int (fun _ _ => rfl)) (pe_op op_sub (pe_callB call_len_seq (by rfl) T.len (by decide +kernel) (pa_cons (pv 0) pa_nil)) (pe_ix ix_tup (pv 2) pe_int (fun _ _ => rfl))) (nomark _)))))
 (pss_one (ps_ret pe_non)) pss_nil)
 (pss_cons (ps_set (i := 1) nd rfl (by first | exact Or.inl rfl | exact Or.inr rfl) (pe_ix ix_tup (pv 2) pe_int (fun _ _ => rfl)))
 (pss_cons (ps_set (i := 3) nd rfl (by first | exact Or.inl rfl | exact Or.inr rfl) (pe_lst pa_nil))
 (pss_cons (ps_for PassesOwn.never rfl (pi_range1 (by rfl) T.range (pa_cons (pe_ix ix_tup (pv 2) pe_int (fun _ _ => rfl)) pa_nil)) (pg_name (i := 4) nd rfl (by first | exact Or.inl rfl | exact Or.inr rfl))
 (pss_cons (ps_set (i := 5) nd rfl (by first | exact Or.inl rfl | exact Or.inr rfl) (pe_kal c__law_read_mark hr (by first | decide | exact Nat.le_refl _ | omega) (pa_cons (pv 0) (pa_cons (pv 1) pa_nil))))
 (C8.pss_cut (ps_set (i := 6) nd rfl (by first | exact Or.inl rfl | exact Or.inr rfl) (pe_ifExp (pt_cmpR op_isN (pv 5) pe_non (nomark _)) pe_non (pe_kal c__law_read_deed hr (by first | decide | exact Nat.le_refl _ | omega) (pa_cons (pv 0) (pa_cons (pe_ix ix_tup (pv 5) pe_int (fun _ _ => rfl)) pa_nil)))))
 (pss_cons (ps_if (pt_cmpR op_isN (pv 6) pe_non (nomark _))
 (pss_one (ps_ret pe_non)) pss_nil)
 (pss_cons (ps_expr (pe_bm PySem.F.plainAttrs_list PySem.F.slot_list_append PySem.F.type_list_append mt_append (pv 3) (pa_cons (pe_op op_catT (pe_ix ix_tup (pv 5) pe_int (fun _ _ => rfl)) (pe_tup (pa_cons (pe_ix ix_tup (pv 6) pe_int (fun _ _ => rfl)) pa_nil))) pa_nil)))
 (pss_one (ps_set (i := 1) nd rfl (by first | exact Or.inl rfl | exact Or.inr rfl) (pe_ix ix_tup (pv 6) pe_int (fun _ _ => rfl)))))))))
 (pss_one (ps_ret (pe_tup (pa_cons (pv 3) (pa_cons (pv 1) pa_nil)))))))))), ?_⟩
    refine ⟨_, rfl, _, rfl, a, l, i, rfl, ha, hll, fun H1 x s1 hx => ?_⟩
    refine ⟨_, rfl, rfl, _, rfl, ?_⟩
    cases e : pNum l i with
    | none =>
      rw [e] at hx
      obtain rfl := encR_none hx
      refine ite2 (fun _ => ?_) (fun z => absurd isN_yes z)
      exact kk _ _ s1 (by unfold pTriples pList pCount; rw [e]; exact .non)
    | some nj =>
    obtain ⟨n, j⟩ := nj
    rw [e] at hx
    obtain ⟨t, y, rfl, ht, hy⟩ := encR_some hx
    obtain rfl := dp_int hy
    refine ite2 (fun z => absurd z isN_no) (fun _ => ?_)
    refine ⟨_, rfl, _, _, _, _, rfl, rfl, ht, rfl, _, rfl, _, _, rfl, .inl (SqL.of (s1 _ _ ha)), ?_⟩
    rw [nums_len]
    refine ⟨_, rfl, _, _, _, _, rfl, rfl, ht, rfl, _, _, rfl, rfl, _, _, rfl, rfl, _, rfl, ?_⟩
    have ec : pTriples l i = if n + j ≤ l.length then pRep pTriple n l j else none := by
      unfold pTriples pList pCount
      rw [e]
      show (if n + j ≤ l.length then some (n, j) else none).bind _ = _
      split <;> rfl
    refine ite2 (fun z => ?_) (fun z => ?_)
    · have := of_decide_eq_true z
      refine kk _ _ s1 ?_
      rw [ec, if_neg (by omega)]
      exact .non
    have hle : n + j ≤ l.length := by
      have : ¬ ((l.length : Nat) : Int) - ((j : Nat) : Int) < ((n : Nat) : Int) := fun w => z (decide_eq_true w)
      omega
    rw [ec, if_pos hle] at kk
    clear ec
    refine ⟨_, rfl, _, _, _, _, rfl, rfl, ht, rfl, ?_⟩
    refine ⟨by show 0 ≤ sizeLine; decide, fun M nM => ?_⟩
    generalize h3 : upd _ M _ = H3
    have s3 := same_of h3 nM
    have a3 := upd_at h3
    have nM0 := s1.free nM
    have fm := flatA_map (enc := encT) flat_T
    refine ⟨_, rfl, _, _, _, _, rfl, rfl, Same.seqT s3 ht, rfl, _, rfl, by omega, by omega, for_range0 (n := n) (fun m σ H' => Hold (∃ (ms : List (Nat × Nat × Deed)) (j3 : Nat) (v4 v5 v6 : Option V), σ = [some (.ref a), some (.int (j3 : Nat)), some (.ref t), some (.ref M), v4, v5, v6] ∧ Same H1 H' ∧ pRep pTriple m l j = some (ms, j3) ∧ LD K H' M (ms.map encT))) ?_ ?_ ?_⟩
    · exact .mk ⟨[], j, none, none, none, rfl, s3, rfl, LD.nil a3⟩
    · intro m σ H4 hm V
      obtain ⟨ms, j3, v4, v5, v6, rfl, s4, ep, hD⟩ := V.out
      clear V
      have hml := pRep_len ep
      have S4 := s1.trans s4
      refine ⟨_, rfl, _, rfl, a, l, j3, rfl, S4 _ _ ha, hll, fun H5 xp s5 hp => ?_⟩
      have S5 := S4.trans s5
      have bad : pTriple l j3 = none → Dp K H5 .non (encR encTs (pRep pTriple n l j)) := fun z => by
        rw [pRep_none pTriple (n := m + 1) (m := n) (by omega) (by rw [pRep_snoc, ep]; show (pTriple l j3).map _ = _; rw [z]; rfl)]
        exact .non
      refine ⟨fun σ' H6 => ∃ y : L2.V, σ' = [some (.ref a), some (.int (j3 : Nat)), some (.ref t), some (.ref M), some (.int (m : Nat)), some xp, some y] ∧ Same H5 H6 ∧ Dp K H6 y (encR encD ((pMark l j3).bind fun m => pDeed l m.2)), ?_, ?_⟩
      · refine ⟨_, rfl, rfl, _, rfl, ?_⟩
        cases e2 : pMark l j3 with
        | none =>
          rw [e2] at hp
          obtain rfl := encR_none hp
          refine ite2 (fun _ => ?_) (fun z => absurd isN_yes z)
          exact ⟨_, rfl, Same.refl _, .non⟩
        | some v =>
          obtain ⟨mk, j4⟩ := v
          rw [e2] at hp
          obtain ⟨tp, y, rfl, htp, hy⟩ := encR_some hp
          refine ite2 (fun z => absurd z isN_no) (fun _ => ?_)
          refine ⟨_, rfl, _, rfl, _, _, _, _, rfl, rfl, htp, rfl, a, l, j4, rfl, S5 _ _ ha, hll, fun H6 x2 s6 hx2 => ?_⟩
          exact ⟨_, rfl, s6, hx2⟩
      rintro σ' H6 ⟨xd, rfl, s6, hd⟩
      refine ⟨_, rfl, rfl, _, rfl, ?_⟩
      have et := pTriple_mark l j3
      cases e2 : pMark l j3 with
      | none =>
        rw [e2] at hd et
        obtain rfl := encR_none hd
        refine ite2 (fun _ => ?_) (fun z => absurd isN_yes z)
        have := bad et
        exact kk _ _ (S5.trans s6) (by rw [Dp_non this]; exact .non)
      | some v =>
      obtain ⟨mk, j4⟩ := v
      rw [e2] at hd et hp
      simp only [Option.bind_some] at hd et
      cases e4 : pDeed l j4 with
      | none =>
        rw [e4] at hd et
        obtain rfl := encR_none hd
        refine ite2 (fun _ => ?_) (fun z => absurd isN_yes z)
        have := bad et
        exact kk _ _ (S5.trans s6) (by rw [Dp_non this]; exact .non)
      | some v =>
      obtain ⟨d, j5⟩ := v
      rw [e4] at hd et
      obtain ⟨tp, yp, rfl, htp, hyp⟩ := encR_some hp
      obtain ⟨td, yd, rfl, htd, hyd⟩ := encR_some hd
      obtain ⟨tm, rfl, htm⟩ := dp_mark hyp
      refine ite2 (fun z => absurd z isN_no) (fun _ => ?_)
      obtain ⟨vs, g1, g2⟩ := hD
      have s56 := s5.trans s6
      refine ⟨_, rfl, .inl ⟨rfl, _, SqL.of (s56 _ _ g1)⟩, ?_⟩
      refine ⟨_, rfl, _, _, _, _, rfl, rfl, Same.seqT s6 htp, rfl, ?_⟩
      refine ⟨_, rfl, _, _, _, _, rfl, rfl, htd, rfl, by show 1 ≤ sizeLine; decide, fun u nu => ?_⟩
      generalize h7 : upd _ u _ = H7
      have s7 := same_of h7 nu
      have a7 := upd_at h7
      refine ⟨tm, u, _, _, rfl, rfl, Same.seqT (s6.trans s7) htm, .inl (.inl a7), by simp, by show 3 ≤ sizeLine; decide, fun z => by simp at z, fun _ q nq => ?_⟩
      generalize h8 : upd _ q _ = H8
      have s8 := same_of h8 nq
      have a8 := upd_at h8
      have s78 := s7.trans s8
      have hD8 : LD K H8 M (ms.map encT) := ⟨vs, (s56.trans s78) _ _ g1, DpAll.same (s56.trans s78) g2⟩
      have hq : Dp K H8 (.ref q) (encT (mk.1, mk.2, d)) := .tup (.inl (.inl a8)) (.cons (.int _) (.cons (.int _) (.cons (Dp.same s78 hyd) .nil)))
      obtain ⟨vs', g3, g4, g5⟩ := hD8.push (fm ms) hq (flat_T _)
      refine ⟨M, _, _, rfl, rfl, g3, by rw [g4, List.length_map, line24]; omega, ?_⟩
      generalize h9 : upd _ M _ = H9 at g5
      have k9 : Keep (· = M) H8 H9 := keep_of h9 rfl
      have ht9 := seqT_keep k9 g3 (by intro _ z; cases z) (by intro _ _ z; cases z) (Same.seqT s78 htd)
      refine ⟨_, rfl, _, _, _, _, rfl, rfl, ht9, rfl, ?_⟩
      refine .mk ⟨ms ++ [(mk.1, mk.2, d)], j5, _, _, _, rfl, fun b o e => k9 _ _ (s78 _ _ (s56 _ _ (s4 _ _ e))) (ne_of_none e nM), ?_, by rw [List.map_append]; exact g5⟩
      rw [pRep_snoc, ep]
      show (pTriple l j3).map _ = _
      rw [et]; rfl
    · intro σ H4 V
      obtain ⟨ms, j3, v4, v5, v6, rfl, s4, ep, hD⟩ := V.out
      clear V
      obtain ⟨vs, g1, g2⟩ := hD
      refine ⟨_, rfl, _, rfl, by show 2 ≤ sizeLine; decide, fun u nu => ?_⟩
      generalize h5 : upd _ u _ = H5
      have s5 := same_of h5 nu
      have a5 := upd_at h5
      refine kk H5 _ ((s1.trans s4).trans s5) ?_
      rw [ep]
      exact .tup (.inl (.inl a5)) (.cons (.lst (SqL.of (s5 _ _ g1)) (DpAll.same s5 g2)) (.cons (.int _) .nil))
theorem k__law_read_packet (T : TopF K mg) (D : Defs K mg) (c__law_read_triples : Kal P w K mg base CX0 4 "_law_read_triples" ["data", "at"] (spO K pTriples encTs)) : Kal P w K mg base CX0 5 "_law_read_packet" ["data", "at"] (spO K pPacket encTs) := by
  refine kal_mk D.d__law_read_packet sc__law_read_packet bi__law_read_packet (fun vs H Q E h => ?_) (fun f cdv A outer s H vs Q E hr h => ?_)
  · obtain ⟨_, _, _, rfl, _⟩ := h; rfl
  · obtain ⟨a, l, i, rfl, ha, hll, kk⟩ := h
    have nd := sc__law_read_packet.nd
    refine ⟨_, (pss_cons (ps_if (PW.pt (pw_or (pt_cmpR op_ge (pv 1) (pe_callB call_len_seq (by rfl) T.len (by decide +kernel) (pa_cons (pv 0) pa_nil)) (nomark _)) (pw_or1 (pt_cmpR op_ne (pe_ix ix_list (pv 0) (pv 1) (fun _ _ => rfl)) pe_int (nomark _)))))
 (pss_one (ps_ret pe_non)) pss_nil)
 (pss_one (ps_ret (pe_kal c__law_read_triples hr (by first | decide | exact Nat.le_refl _ | omega) (pa_cons (pv 0) (pa_cons (pe_op op_add (pv 1) pe_int) pa_nil)))))), ?_⟩
    refine ⟨_, rfl, _, rfl, _, _, rfl, .inl (SqL.of ha), _, _, rfl, rfl, _, rfl, ?_⟩
    rw [nums_len]
    refine ite2 (fun z => ?_) (fun z => ?_)
    · have z := of_decide_eq_true z
      refine kk _ _ (Same.refl _) ?_
      unfold pPacket pByte
      rw [List.getElem?_eq_none (show l.length ≤ i by omega)]
      exact .non
    have hlt : i < l.length := by
      have : ¬ ((l.length : Nat) : Int) ≤ ((i : Nat) : Int) := fun w => z (decide_eq_true w)
      omega
    obtain ⟨b, hb⟩ : ∃ b, l[i]? = some b := ⟨_, List.getElem?_eq_getElem hlt⟩
    have hat : atI (nums l) ((i : Nat) : Int) = some (.int (b : Nat)) := atI_nat (map_put hb)
    have ep : pPacket l i = if b = 1 then pTriples l (i + 1) else none := by unfold pPacket pByte; rw [hb]; rfl
    rw [ep] at kk
    refine ⟨_, rfl, _, rfl, _, _, _, _, rfl, rfl, SqL.of ha, hat, rfl, _, rfl, ?_⟩
    refine ite2 (fun z => ?_) (fun z => ?_)
    · refine kk _ _ (Same.refl _) ?_
      rw [if_neg fun w => by rw [w] at z; simp at z]
      exact .non
    · have hb1 : b = 1 := by
        have : ¬ ¬ (L2.V.int ((b : Nat) : Int) = L2.V.int 1) := fun w => z (by simpa using w)
        have := L2.V.int.inj (Classical.not_not.mp this)
        omega
      rw [if_pos hb1] at kk
      exact ⟨_, rfl, _, rfl, _, _, rfl, rfl, a, l, i + 1, rfl, ha, hll, kk⟩
/-- the five sorts of things -/
def encK (kind : Nat) (l : List Nat) : PyData :=
  if kind = 0 then encR encN (pNum l 0) else if kind = 1 then encR encS (pList pChar l 0) else if kind = 2 then encR encD (pDeed l 0) else if kind = 3 then encR encTs (pTriples l 0) else encR encTs (pPacket l 0)
def spOwn (K : PySem.W.Frag) : Sp := fun vs H Q _ => ∃ (kind : Nat) (a : Addr) (l : List Nat), vs = [.int (kind : Nat), .ref a] ∧ H a = some (.lst (nums l)) ∧ l.length ≤ 1000000 ∧ ∀ (H' : Hp) (x : V), Same H H' → Dp K H' x (encK kind l) → Q x H'
theorem kind_is {k : Nat} {n : Int} (h : decide (L2.V.int (k : Nat) = L2.V.int n) = true) : (k : Int) = n := vint h
theorem k__law_own (T : TopF K mg) (D : Defs K mg) (c__law_read_number : Kal P w K mg base CX0 1 "_law_read_number" ["data", "at"] (spO K pNum encN)) (c__law_read_text : Kal P w K mg base CX0 2 "_law_read_text" ["data", "at"] (spO K (pList pChar) encS)) (c__law_read_deed : Kal P w K mg base CX0 3 "_law_read_deed" ["data", "at"] (spO K pDeed encD)) (c__law_read_triples : Kal P w K mg base CX0 4 "_law_read_triples" ["data", "at"] (spO K pTriples encTs)) (c__law_read_packet : Kal P w K mg base CX0 5 "_law_read_packet" ["data", "at"] (spO K pPacket encTs)) : Kal P w K mg base CX0 6 "_law_own" ["kind", "data"] (spOwn K) := by
  refine kal_mk D.d__law_own sc__law_own bi__law_own (fun vs H Q E h => ?_) (fun f cdv A outer s H vs Q E hr h => ?_)
  · obtain ⟨_, _, _, rfl, _⟩ := h; rfl
  · obtain ⟨kind, a, l, rfl, ha, hll, kk⟩ := h
    have nd := sc__law_own.nd
    refine ⟨_, (pss_cons (ps_if (pt_cmpR op_eq (pv 0) pe_int (nomark _))
 (pss_one (ps_ret (pe_kal c__law_read_number hr (by first | decide | exact Nat.le_refl _ | omega) (pa_cons (pv 1) (pa_cons pe_int pa_nil))))) pss_nil)
 (pss_cons (ps_if (pt_cmpR op_eq (pv 0) pe_int (nomark _))
 (pss_one (ps_ret (pe_kal c__law_read_text hr (by first | decide | exact Nat.le_refl _ | omega) (pa_cons (pv 1) (pa_cons pe_int pa_nil))))) pss_nil)
 (pss_cons (ps_if (pt_cmpR op_eq (pv 0) pe_int (nomark _))
 (pss_one (ps_ret (pe_kal c__law_read_deed hr (by first | decide | exact Nat.le_refl _ | omega) (pa_cons (pv 1) (pa_cons pe_int pa_nil))))) pss_nil)
 (pss_one (ps_ret (pe_ifExp (pt_cmpR op_eq (pv 0) pe_int (nomark _)) (pe_kal c__law_read_triples hr (by first | decide | exact Nat.le_refl _ | omega) (pa_cons (pv 1) (pa_cons pe_int pa_nil))) (pe_kal c__law_read_packet hr (by first | decide | exact Nat.le_refl _ | omega) (pa_cons (pv 1) (pa_cons pe_int pa_nil))))))))), ?_⟩
    unfold encK at kk
    refine ⟨_, rfl, rfl, _, rfl, ite2 (fun z => ?_) (fun z => ?_)⟩
    · have e : kind = 0 := by have := vint z; omega
      rw [if_pos e] at kk
      exact ⟨_, rfl, a, l, 0, rfl, ha, hll, kk⟩
    have e0 : kind ≠ 0 := by have := vintF z; omega
    rw [if_neg e0] at kk
    refine ⟨_, rfl, rfl, _, rfl, ite2 (fun z => ?_) (fun z => ?_)⟩
    · have e : kind = 1 := by have := vint z; omega
      rw [if_pos e] at kk
      exact ⟨_, rfl, a, l, 0, rfl, ha, hll, kk⟩
    have e1 : kind ≠ 1 := by have := vintF z; omega
    rw [if_neg e1] at kk
    refine ⟨_, rfl, rfl, _, rfl, ite2 (fun z => ?_) (fun z => ?_)⟩
    · have e : kind = 2 := by have := vint z; omega
      rw [if_pos e] at kk
      exact ⟨_, rfl, a, l, 0, rfl, ha, hll, kk⟩
    have e2 : kind ≠ 2 := by have := vintF z; omega
    rw [if_neg e2] at kk
    refine ⟨_, rfl, rfl, _, rfl, ite2 (fun z => ?_) (fun z => ?_)⟩
    · have e : kind = 3 := by have := vint z; omega
      rw [if_pos e] at kk
      exact ⟨_, rfl, a, l, 0, rfl, ha, hll, kk⟩
    have e3 : kind ≠ 3 := by have := vintF z; omega
    rw [if_neg e3] at kk
    exact ⟨_, rfl, a, l, 0, rfl, ha, hll, kk⟩
end
end Mk12
namespace Mk12
open PySem PySem.Spec PyProof.Rows L2 My

/-- the law's state -/
def StAt (H : Hp) (s l : Addr) : Prop := ∃ (ns : List Int) (i c d : Int), H s = some (.lst [.ref l, .int i, .int c, .int d]) ∧ H l = some (.lst (ns.map V.int)) ∧ 0 ≤ i ∧ 0 ≤ c ∧ 0 ≤ d
def spNext : Sp := fun vs H Q _ => ∃ (s sl : Addr) (lim : Int), vs = [.ref s, .int lim] ∧ StAt H s sl ∧ 0 < lim ∧ lim ≤ (128 ^ 10 : Nat) ∧ ∀ (H' : Hp) (n : Nat), Keep (· = s) H H' → StAt H' s sl → (n : Int) < lim → Q (.int (n : Nat)) H'
section
variable {P : Program} {w : World} {K : PySem.W.Frag} {mg : Str → Option Value} {base : Heap}
theorem k__law_next (T : TopF K mg) (D : Defs K mg) : Kal P w K mg base CX0 1 "_law_next" ["state", "limit"] spNext := by
  refine kal_mk D.d__law_next sc__law_next bi__law_next (fun vs H Q E h => ?_) (fun f cdv A outer s H vs Q E hr h => ?_)
  · obtain ⟨_, _, _, rfl, _⟩ := h; rfl
  · obtain ⟨s, l, lim, rfl, ⟨ns, i, c, d, hs, hl, hi, hc, hd⟩, h0, h1, k⟩ := h
    have nd := sc__law_next.nd
    refine ⟨_, (C8.pss_cut (ps_if (PW.pt (pw_and (pt_cmpR op_eq (pe_ix ix_list (pv 0) pe_int (fun _ _ => rfl)) pe_int (nomark _)) (pw_and1 (pt_cmpR op_lt (pe_ix ix_list (pv 0) pe_int (fun _ _ => rfl)) (pe_callB call_len_seq (by rfl) T.len (by decide +kernel) (pa_cons (pe_ix ix_list (pv 0) pe_int (fun _ _ => rfl)) pa_nil)) (nomark _)))))
 (pss_cons (ps_set (i := 2) nd rfl (by first | exact Or.inl rfl | exact Or.inr rfl) (pe_ix ix_list (pe_ix ix_list (pv 0) pe_int (fun _ _ => rfl)) (pe_ix ix_list (pv 0) pe_int (fun _ _ => rfl)) (fun _ _ => rfl)))
 (pss_cons (ps_augS (pv 0) pe_int get_list pe_int ip_add set_list)
 (pss_one (ps_if (pt_cmpR op_ge (pv 2) (pe_op op_pow pe_int pe_int) (nomark _))
 (pss_one (ps_asg (pv 2) (pg_sub (pv 0) pe_int set_list))) (pss_one (ps_asg (pe_op op_mod (pe_callTy call_int1 (by rfl) T.int_ (by decide +kernel) (pa_cons (pe_op op_add (pe_op op_add (pe_op op_mul (pe_ix ix_list (pv 0) pe_int (fun _ _ => rfl)) pe_int) (pe_op op_mod (pe_callTy call_int1 (by rfl) T.int_ (by decide +kernel) (pa_cons (pv 2) pa_nil)) pe_int)) pe_int) pa_nil)) pe_int) (pg_sub (pv 0) pe_int set_list))))))) pss_nil)
 (pss_cons (ps_if (pt_cmpR op_gt (pe_ix ix_list (pv 0) pe_int (fun _ _ => rfl)) pe_int (nomark _))
 (pss_cons (ps_set (i := 3) nd rfl (by first | exact Or.inl rfl | exact Or.inr rfl) (pe_op op_mod (pe_callTy call_int1 (by rfl) T.int_ (by decide +kernel) (pa_cons (pe_ix ix_list (pv 0) pe_int (fun _ _ => rfl)) pa_nil)) (pv 1)))
 (pss_cons (ps_asg (pe_op op_fdivW (pe_ix ix_list (pv 0) pe_int (fun _ _ => rfl)) (pv 1)) (pg_sub (pv 0) pe_int set_list))
 (pss_one (ps_ret (pv 3))))) pss_nil)
 (pss_cons (ps_asg (pe_op op_mod (pe_callTy call_int1 (by rfl) T.int_ (by decide +kernel) (pa_cons (pe_op op_add (pe_op op_mul (pe_ix ix_list (pv 0) pe_int (fun _ _ => rfl)) pe_int) pe_int) pa_nil)) pe_int) (pg_sub (pv 0) pe_int set_list))
 (pss_one (ps_ret (pe_op op_mod (pe_callTy call_int1 (by rfl) T.int_ (by decide +kernel) (pa_cons (pe_op op_fdiv (pe_ix ix_list (pv 0) pe_int (fun _ _ => rfl)) pe_int) pa_nil)) (pv 1))))))), ?_⟩
    have nls : l ≠ s := fun e => by
      subst e; rw [hl] at hs
      cases ns with
      | nil => simp at hs
      | cons x r => simp at hs
    have hb : (128 ^ 10 : Nat) < 2 ^ 71 := by decide
    have hW : ∀ c : Int, CDivW c lim := fun c => wide_div (b := 71) h0 (by omega) (by decide) (by decide)
    have kQ : ∀ (H' : Hp) (n : Int), Keep (· = s) H H' → StAt H' s l → 0 ≤ n → n < lim → Q (.int n) H' := fun H' n a b c d => by
      have := k H' n.toNat a b (by omega)
      rwa [Int.toNat_of_nonneg c] at this
    -- behind the first if the state is one again
    refine ⟨fun σ' H' => (∃ v, σ' = [some (.ref s), some (.int lim), v, none]) ∧ Keep (· = s) H H' ∧ ∃ i' c' d' : Int, H' s = some (.lst [.ref l, .int i', .int c', .int d']) ∧ H' l = some (.lst (ns.map V.int)) ∧ 0 ≤ i' ∧ 0 ≤ c' ∧ 0 ≤ d', ?_, ?_⟩
    · walk_at "go"
      refine ite2 (fun e1 => ?_) (fun e1 => ?_)
      · walk_at "go"
        refine ite2 (fun e2 => ?_) (fun e2 => ?_)
        · have hlt : i < (ns.length : Int) := by
            rw [decide_eq_true_eq, List.length_map] at e2
            exact e2
          obtain ⟨j, rfl⟩ : ∃ j : Nat, i = (j : Int) := ⟨i.toNat, by omega⟩
          have hj : j < ns.length := by omega
          have at1 : (ns.map V.int)[j]? = some (.int ns[j]) := by rw [List.getElem?_map, List.getElem?_eq_getElem hj]; rfl
          have s1 : (upd H s (.lst [.ref l, .int (j + 1), .int c, .int d])) s = some (.lst [.ref l, .int (j + 1), .int c, .int d]) := upd_same
          walk_at "go"
          refine ite2 (fun e3 => ?_) (fun e3 => ?_)
          · have q : (0 : Int) ≤ ns[j] := by
              have z := e3
              rw [decide_eq_true_eq] at z
              have : (10 : Int) ^ (18 : Int).toNat = 1000000000000000000 := by decide
              omega
            walk_at "go"
            refine ⟨⟨_, rfl⟩, fun b o e n => ?_, _, _, _, upd_same, ?_, ?_, q, hd⟩
            · rw [upd_ne n, upd_ne n]; exact e
            · rw [upd_ne nls, upd_ne nls]; exact hl
            · omega
          · walk_at "go"
            refine ⟨⟨_, rfl⟩, fun b o e n => ?_, _, _, _, upd_same, ?_, ?_, hc, Int.emod_nonneg _ (by decide)⟩
            · rw [upd_ne n, upd_ne n]; exact e
            · rw [upd_ne nls, upd_ne nls]; exact hl
            · omega
        · exact ⟨⟨_, rfl⟩, Keep.refl _, i, c, d, hs, hl, hi, hc, hd⟩
      · walk_at "go"
        refine ite2 (fun e2 => ?_) (fun e2 => ?_)
        · exact absurd e2 (by simp)
        · exact ⟨⟨_, rfl⟩, Keep.refl _, i, c, d, hs, hl, hi, hc, hd⟩
    · rintro σ' H' ⟨⟨v, rfl⟩, kp, i', c', d', hs', hl', hi', hc', hd'⟩
      walk_at "go"
      refine ite2 (fun e1 => ?_) (fun e1 => ?_)
      · have hW := hW c'
        have q : 0 < c' := by
          rw [decide_eq_true_eq] at e1
          exact e1
        walk_at "go"
        refine kQ _ _ (fun b o e n => ?_) ⟨ns, _, _, _, upd_same, ?_, hi', ?_, hd'⟩ (Int.emod_nonneg _ (by omega)) (Int.emod_lt_of_pos _ h0)
        · rw [upd_ne n]; exact kp b o e n
        · rw [upd_ne nls]; exact hl'
        · exact Int.ediv_nonneg (by omega) (by omega)
      · walk_at "go"
        refine kQ _ _ (fun b o e n => ?_) ⟨ns, _, _, _, upd_same, ?_, hi', hc', ?_⟩ (Int.emod_nonneg _ (by omega)) (Int.emod_lt_of_pos _ h0)
        · rw [upd_ne n]; exact kp b o e n
        · rw [upd_ne nls]; exact hl'
        · exact Int.emod_nonneg _ (by decide)
end
end Mk12
namespace Mk12
open PySem PySem.Spec PyProof.Rows L2 My

section
variable {P : Program} {w : World} {K : PySem.W.Frag} {mg : Str → Option Value} {base : Heap}
theorem same_step (T : TopF K mg) (D : Defs K mg) (k n : Nat) (spI : Sp) (c__law_same : Kal P w K mg base CX0 k "_law_same" ["actual", "expected"] spI) (hI : ∀ m, n = m + 1 → spI = spSame K m) : Kal P w K mg base CX0 (k + 1) "_law_same" ["actual", "expected"] (spSame K n) := by
  refine kal_mk D.d__law_same sc__law_same bi__law_same (fun vs H Q E h => ?_) (fun f cdv A outer s H vs Q E hr h => ?_)
  · obtain ⟨_, _, _, rfl, _⟩ := h; rfl
  · obtain ⟨x, y, d, rfl, hx, hy, hd, kk⟩ := h
    have nd := sc__law_same.nd
    refine ⟨_, (pss_cons (ps_if (pt_cmpR op_isN (pv 1) pe_non (nomark _))
 (pss_one (ps_ret (pe_cmpR op_isN (pv 0) pe_non (nomark _)))) pss_nil)
 (pss_cons (ps_if (pt_val (pe_callB call_isi (by rfl) T.isinstance (by decide +kernel) (pa_cons (pv 1) (pa_cons (pe_bltn (v := .ty "bool") (u := .type "bool") (by rfl) T.bool (by decide +kernel) rfl) pa_nil))))
 (pss_one (ps_ret (pe_and (pe_callB call_isi (by rfl) T.isinstance (by decide +kernel) (pa_cons (pv 0) (pa_cons (pe_bltn (v := .ty "bool") (u := .type "bool") (by rfl) T.bool (by decide +kernel) rfl) pa_nil))) (pe_one (pe_cmpR op_eq (pv 0) (pv 1) (nomark _)))))) pss_nil)
 (pss_cons (ps_if (pt_val (pe_callB call_isi (by rfl) T.isinstance (by decide +kernel) (pa_cons (pv 1) (pa_cons (pe_bltn (v := .ty "int") (u := .type "int") (by rfl) T.int_ (by decide +kernel) rfl) pa_nil))))
 (pss_one (ps_ret (pe_and (pe_callB call_isi (by rfl) T.isinstance (by decide +kernel) (pa_cons (pv 0) (pa_cons (pe_bltn (v := .ty "int") (u := .type "int") (by rfl) T.int_ (by decide +kernel) rfl) pa_nil))) (pe_and (pe_not (pe_callB call_isi (by rfl) T.isinstance (by decide +kernel) (pa_cons (pv 0) (pa_cons (pe_bltn (v := .ty "bool") (u := .type "bool") (by rfl) T.bool (by decide +kernel) rfl) pa_nil)))) (pe_one (pe_cmpR op_eq (pv 0) (pv 1) (nomark _))))))) pss_nil)
 (pss_cons (ps_if (pt_val (pe_callB call_isi (by rfl) T.isinstance (by decide +kernel) (pa_cons (pv 1) (pa_cons (pe_bltn (v := .ty "str") (u := .type "str") (by rfl) T.str (by decide +kernel) rfl) pa_nil))))
 (pss_one (ps_ret (pe_and (pe_callB call_isi (by rfl) T.isinstance (by decide +kernel) (pa_cons (pv 0) (pa_cons (pe_bltn (v := .ty "str") (u := .type "str") (by rfl) T.str (by decide +kernel) rfl) pa_nil))) (pe_one (pe_cmpR op_eq (pv 0) (pv 1) (nomark _)))))) pss_nil)
 (pss_cons (ps_if (PW.pt (pw_and (pt_val (pe_callB call_isi (by rfl) T.isinstance (by decide +kernel) (pa_cons (pv 1) (pa_cons (pe_bltn (v := .ty "tuple") (u := .type "tuple") (by rfl) T.tuple (by decide +kernel) rfl) pa_nil)))) (pw_and1 (pt_not (pt_val (pe_callB call_isi (by rfl) T.isinstance (by decide +kernel) (pa_cons (pv 0) (pa_cons (pe_bltn (v := .ty "tuple") (u := .type "tuple") (by rfl) T.tuple (by decide +kernel) rfl) pa_nil))))))))
 (pss_one (ps_ret pe_bl)) pss_nil)
 (pss_cons (ps_if (PW.pt (pw_and (pt_val (pe_callB call_isi (by rfl) T.isinstance (by decide +kernel) (pa_cons (pv 1) (pa_cons (pe_bltn (v := .ty "list") (u := .type "list") (by rfl) T.list (by decide +kernel) rfl) pa_nil)))) (pw_and1 (pt_not (pt_val (pe_callB call_isi (by rfl) T.isinstance (by decide +kernel) (pa_cons (pv 0) (pa_cons (pe_bltn (v := .ty "list") (u := .type "list") (by rfl) T.list (by decide +kernel) rfl) pa_nil))))))))
 (pss_one (ps_ret pe_bl)) pss_nil)
 (pss_cons (ps_if (pt_cmpR op_ne (pe_callB call_lenB (by rfl) T.len (by decide +kernel) (pa_cons (pv 0) pa_nil)) (pe_callB call_lenB (by rfl) T.len (by decide +kernel) (pa_cons (pv 1) pa_nil)) (nomark _))
 (pss_one (ps_ret pe_bl)) pss_nil)
 (pss_cons (ps_for PassesOwn.never rfl (pi_range1 (by rfl) T.range (pa_cons (pe_callB call_lenB (by rfl) T.len (by decide +kernel) (pa_cons (pv 1) pa_nil)) pa_nil)) (pg_name (i := 2) nd rfl (by first | exact Or.inl rfl | exact Or.inr rfl))
 (pss_one (ps_if (pt_not (pt_val (pe_kal c__law_same hr (by first | decide | exact Nat.le_refl _ | omega) (pa_cons (pe_ix ix_seq (pv 0) (pv 2) (fun _ _ => rfl)) (pa_cons (pe_ix ix_seq (pv 1) (pv 2) (fun _ _ => rfl)) pa_nil)))))
 (pss_one (ps_ret pe_bl)) pss_nil)))
 (pss_one (ps_ret pe_bl)))))))))), ?_⟩
    cases d with
    | none =>
      cases hx; cases hy
      walk_at "go"
      exact kk _ (Same.refl _)
    | bool b =>
      cases hx; cases hy
      walk_at "go"
      show Q (V.bl (decide (V.bl b = V.bl b))) H
      rw [decide_eq_true rfl]
      exact kk _ (Same.refl _)
    | int i =>
      cases hx; cases hy
      walk_at "go"
      show Q (V.bl (decide (V.int i = V.int i))) H
      rw [decide_eq_true rfl]
      exact kk _ (Same.refl _)
    | str x =>
      cases hx; cases hy
      walk_at "go"
      show Q (V.bl (decide (V.str x = V.str x))) H
      rw [decide_eq_true rfl]
      exact kk _ (Same.refl _)
    | list ds =>
      cases hx with
      | @lst a xs _ sx ax =>
      cases hy with
      | @lst b ys _ sy ay =>
      have lx := My.DpAll.len ax
      have ly := My.DpAll.len ay
      walk_at "go"
      refine ite2 (fun e => ?_) (fun _ => ?_)
      · rw [lx, ly] at e
        simp at e
      have hsz : ys.length ≤ sizeLine := by assumption
      walk_at "go"
      rw [line24] at hsz
      refine ⟨by omega, by omega, for_range0 (fun i σ H' => Hold (∃ v, σ = [some (.ref a), some (.ref b), v] ∧ Same H H')) ?_ ?_ ?_⟩
      · exact .mk ⟨none, rfl, Same.refl _⟩
      · intro i σ H' hi W
        obtain ⟨v, rfl, s1⟩ := W.out
        have hi2 : i < ds.length := by rw [← ly]; simpa using hi
        obtain ⟨d, hdi⟩ : ∃ d, ds[i]? = some d := ⟨_, List.getElem?_eq_getElem hi2⟩
        obtain ⟨x, hx, dx⟩ := My.DpAll.get ax hdi
        obtain ⟨y, hy, dy⟩ := My.DpAll.get ay hdi
        have hdd := deepAll_get hdi
        have hn : deepAll ds + 1 ≤ n := hd
        obtain ⟨m, rfl⟩ : ∃ m, n = m + 1 := ⟨n - 1, by omega⟩
        have e := hI m rfl
        subst e
        refine ⟨_, rfl, _, rfl, .inl ⟨_, _, _, _, rfl, rfl, s1.seq sx, atI_nat hx, ?_⟩⟩
        refine ⟨_, rfl, _, rfl, .inl ⟨_, _, _, _, rfl, rfl, s1.seq sy, atI_nat hy, ?_⟩⟩
        refine ⟨x, y, d, rfl, Dp.same s1 dx, Dp.same s1 dy, by omega, fun H2 s2 => ?_⟩
        exact ⟨_, rfl, .mk ⟨_, rfl, s1.trans s2⟩⟩
      · intro σ H' W
        obtain ⟨v, rfl, s1⟩ := W.out
        exact kk _ s1
    | tuple ds =>
      cases hx with
      | @tup a xs _ sx ax =>
      cases hy with
      | @tup b ys _ sy ay =>
      have lx := My.DpAll.len ax
      have ly := My.DpAll.len ay
      walk_at "go"
      refine ite2 (fun e => ?_) (fun _ => ?_)
      · rw [lx, ly] at e
        simp at e
      have hsz : ys.length ≤ sizeLine := by assumption
      walk_at "go"
      rw [line24] at hsz
      refine ⟨by omega, by omega, for_range0 (fun i σ H' => Hold (∃ v, σ = [some (.ref a), some (.ref b), v] ∧ Same H H')) ?_ ?_ ?_⟩
      · exact .mk ⟨none, rfl, Same.refl _⟩
      · intro i σ H' hi W
        obtain ⟨v, rfl, s1⟩ := W.out
        have hi2 : i < ds.length := by rw [← ly]; simpa using hi
        obtain ⟨d, hdi⟩ : ∃ d, ds[i]? = some d := ⟨_, List.getElem?_eq_getElem hi2⟩
        obtain ⟨x, hx, dx⟩ := My.DpAll.get ax hdi
        obtain ⟨y, hy, dy⟩ := My.DpAll.get ay hdi
        have hdd := deepAll_get hdi
        have hn : deepAll ds + 1 ≤ n := hd
        obtain ⟨m, rfl⟩ : ∃ m, n = m + 1 := ⟨n - 1, by omega⟩
        have e := hI m rfl
        subst e
        refine ⟨_, rfl, _, rfl, .inr <| .inl ⟨_, _, _, _, rfl, rfl, My.Same.seqT s1 sx, atI_nat hx, ?_⟩⟩
        refine ⟨_, rfl, _, rfl, .inr <| .inl ⟨_, _, _, _, rfl, rfl, My.Same.seqT s1 sy, atI_nat hy, ?_⟩⟩
        refine ⟨x, y, d, rfl, Dp.same s1 dx, Dp.same s1 dy, by omega, fun H2 s2 => ?_⟩
        exact ⟨_, rfl, .mk ⟨_, rfl, s1.trans s2⟩⟩
      · intro σ H' W
        obtain ⟨v, rfl, s1⟩ := W.out
        exact kk _ s1
    | dict _ => cases hx
/-- _law_same of data of any depth up to n -/
theorem k__law_same (T : TopF K mg) (D : Defs K mg) : ∀ n : Nat, Kal P w K mg base CX0 (n + 1) "_law_same" ["actual", "expected"] (spSame K n)
  | 0 => same_step T D 0 0 _ (kal_none D.d__law_same bi__law_same 0) (fun m h => by omega)
  | n + 1 => same_step T D (n + 1) (n + 1) _ (k__law_same T D n) (fun m h => by cases h; rfl)
end
end Mk12
namespace Mk12
open PySem PySem.Spec PyProof.Rows L2 My

open SX
theorem StAt.same {H H' : Hp} {s l : Addr} (h : StAt H s l) (e : Same H H') : StAt H' s l := by
  obtain ⟨ns, i, c, d, a, b, r⟩ := h
  exact ⟨ns, i, c, d, e _ _ a, e _ _ b, r⟩
theorem StAt.ne {H : Hp} {s l p : Addr} (h : StAt H s l) (n : H p = none) : p ≠ s := fun z => by
  obtain ⟨_, _, _, _, z1, _⟩ := h
  rw [← z, n] at z1; cases z1
theorem StAt.keep {H H' : Hp} {s l p : Addr} (h : StAt H s l) (n : H p = none) (k : Keep (· = p) H H') : StAt H' s l := by
  obtain ⟨ns, i, c, d, a, b, r⟩ := h
  exact ⟨ns, i, c, d, k _ _ a (ne_of_none a n), k _ _ b (ne_of_none b n), r⟩
theorem StAt.nel {H : Hp} {s l p : Addr} (h : StAt H s l) (n : H p = none) : p ≠ l := fun z => by
  obtain ⟨_, _, _, _, _, z1, _⟩ := h
  rw [← z, n] at z1; cases z1
theorem StAt.upd {H : Hp} {s l p : Addr} {ys : List L2.V} (h : StAt H s l) (n : p ≠ s) (nl : p ≠ l) : StAt (L2.upd H p (.lst ys)) s l := by
  obtain ⟨ns, i, c, d, a, b, r⟩ := h
  exact ⟨ns, i, c, d, by rw [upd_ne n.symm]; exact a, by rw [upd_ne nl.symm]; exact b, r⟩
/-- data stay while the state changes -/
theorem Dp.keepS {K : PySem.W.Frag} {H H' : Hp} {s l : Addr} {v : L2.V} {d : PyData} (h : Dp K H v d) (k : Keep (· = s) H H') (hs : StAt H s l) (f : flatP d = true) : Dp K H' v d := by
  obtain ⟨ns, i, c, e, a, b, r⟩ := hs
  exact Dp.keep1 k a (by intro _ z; cases z) (by intro _ _ z; cases z) f h
section
variable {P : Program} {w : World} {K : PySem.W.Frag} {mg : Str → Option Value} {base : Heap}
def spDN : Sp := fun vs H Q _ => ∃ (s sl : Addr), vs = [.ref s] ∧ StAt H s sl ∧ ∀ (H' : Hp) (n : Nat), Keep (· = s) H H' → StAt H' s sl → n < big → Q (.int (n : Nat)) H'
theorem k__law_drawn_number (T : TopF K mg) (D : Defs K mg) (c__law_next : Kal P w K mg base CX0 1 "_law_next" ["state", "limit"] spNext) : Kal P w K mg base CX0 2 "_law_drawn_number" ["state"] spDN := by
  refine kal_mk D.d__law_drawn_number sc__law_drawn_number bi__law_drawn_number (fun vs H Q E h => ?_) (fun f cdv A outer s H vs Q E hr h => ?_)
  · obtain ⟨_, _, rfl, _⟩ := h; rfl
  · obtain ⟨s, sl, rfl, h0, kk⟩ := h
    have nd := sc__law_drawn_number.nd
    refine ⟨_, (pss_one (ps_ret (pe_kal c__law_next hr (by first | decide | exact Nat.le_refl _ | omega) (pa_cons (pv 0) (pa_cons (pe_ix ix_list (pe_lst (pa_cons pe_int (pa_cons pe_int (pa_cons pe_int (pa_cons (pe_op op_pow pe_int pe_int) (pa_cons (pe_op op_mul (pe_op op_pow pe_int pe_int) pe_int) pa_nil)))))) (pe_kal c__law_next hr (by first | decide | exact Nat.le_refl _ | omega) (pa_cons (pv 0) (pa_cons pe_int pa_nil))) (fun _ _ => rfl)) pa_nil))))), ?_⟩
    walk_at "go"
    refine ⟨by show 5 ≤ sizeLine; decide, fun p np => ?_⟩
    generalize h1 : upd _ p _ = H1
    have s1 := same_of h1 np
    have a1 := upd_at h1
    refine ⟨_, rfl, s, _, 5, rfl, h0.same s1, by decide, by decide +kernel, fun H2 n k2 h2 hn => ?_⟩
    have a2 := k2 _ _ a1 (h0.ne np)
    obtain ⟨lim, hl, l0, l1⟩ : ∃ lim : Int, atI [L2.V.int 3, L2.V.int 128, L2.V.int 300, (fun (i j : Int) => L2.V.int (i ^ j.toNat)) 128 3, (fun (i j : Int) => L2.V.int (i * j)) (2 ^ Int.toNat 60) 1024] ((n : Nat) : Int) = some (.int lim) ∧ 0 < lim ∧ lim ≤ (128 ^ 10 : Nat) := by
      have : n = 0 ∨ n = 1 ∨ n = 2 ∨ n = 3 ∨ n = 4 := by omega
      rcases this with rfl | rfl | rfl | rfl | rfl
      · exact ⟨_, rfl, by decide +kernel, by decide +kernel⟩
      · exact ⟨_, rfl, by decide +kernel, by decide +kernel⟩
      · exact ⟨_, rfl, by decide +kernel, by decide +kernel⟩
      · exact ⟨_, rfl, by decide +kernel, by decide +kernel⟩
      · exact ⟨_, rfl, by decide +kernel, by decide +kernel⟩
    refine ⟨_, _, _, _, rfl, rfl, SqL.of a2, hl, s, _, lim, rfl, h2, l0, l1, fun H3 m k3 h3 hm => ?_⟩
    exact kk H3 m ((Keep.of s1).trans (k2.trans k3)) h3 (by show m < 128 ^ 10; omega)
def alphabet : List Nat := 10 :: ((List.range 5).map (32 + ·) ++ (List.range 89).map (38 + ·))
theorem letters_S : ("\n !\"#$&'()*+,-./0123456789:;<=>?@ABCDEFGHIJKLMNOPQRSTUVWXYZ[\\]^_`abcdefghijklmnopqrstuvwxyz{|}~" : Str) = S alphabet := by decide +kernel
theorem alphabet_ok : ∀ c ∈ alphabet, okSign c := by decide +kernel
theorem LD.keepS {K : PySem.W.Frag} {H H' : Hp} {D s l : Addr} {ds : List PyData} (h : LD K H D ds) (f : flatA ds = true) (k : Keep (· = s) H H') (hs : StAt H s l) (n : D ≠ s) : LD K H' D ds := by
  obtain ⟨vs, h1, h2⟩ := h
  obtain ⟨ns, i, c, e, a, b, r⟩ := hs
  exact ⟨vs, k _ _ h1 n, DpAll.keep1 k a (by intro _ z; cases z) (by intro _ _ z; cases z) f h2⟩
def spDT : Sp := fun vs H Q _ => ∃ (s sl : Addr), vs = [.ref s] ∧ StAt H s sl ∧ ∀ (H' : Hp) (cs : List Nat), Keep (· = s) H H' → StAt H' s sl → okText cs → Q (.str (S cs)) H'
theorem k__law_drawn_text (T : TopF K mg) (D : Defs K mg) (c__law_next : Kal P w K mg base CX0 1 "_law_next" ["state", "limit"] spNext) : Kal P w K mg base CX0 2 "_law_drawn_text" ["state"] spDT := by
  refine kal_mk D.d__law_drawn_text sc__law_drawn_text bi__law_drawn_text (fun vs H Q E h => ?_) (fun f cdv A outer s H vs Q E hr h => ?_)
  · obtain ⟨_, _, rfl, _⟩ := h; rfl
  · obtain ⟨s, sl, rfl, h0, kk⟩ := h
    have nd := sc__law_drawn_text.nd
    refine ⟨_, (pss_cons (ps_set (i := 1) nd rfl (by first | exact Or.inl rfl | exact Or.inr rfl) pe_str)
 (pss_one (ps_ret (pe_join pe_str (pe_lc (g := gName 2) (own := [("k", 2)]) rfl nd (pi_range1 (by rfl) T.range (pa_cons (pe_kal c__law_next hr (by first | decide | exact Nat.le_refl _ | omega) (pa_cons (pv 0) (pa_cons (pe_ix ix_list (pe_lst (pa_cons pe_int (pa_cons pe_int (pa_cons pe_int (pa_cons pe_int pa_nil))))) (pe_kal c__law_next hr (by first | decide | exact Nat.le_refl _ | omega) (pa_cons (pv 0) (pa_cons pe_int pa_nil))) (fun _ _ => rfl)) pa_nil))) pa_nil)) (blkOk_by (own := [("k", 2)]) (N := ["state", "letters", "k"]) (sc := defScope s__law_drawn_text) (by decide +kernel)) (fun _ _ _ _ _ => (pg_name (i := 2) nd rfl (by first | exact Or.inl rfl | exact Or.inr rfl))) (fun _ _ _ _ _ => pts_nil) (fun _ _ _ _ _ => (pe_ix ix_str (pv 1) (pe_kal c__law_next hr (by first | decide | exact Nat.le_refl _ | omega) (pa_cons (pv 0) (pa_cons (pe_callB call_len_str (by rfl) T.len (by decide +kernel) (pa_cons (pv 1) pa_nil)) pa_nil))) (fun _ _ => rfl)))))))), ?_⟩
    refine ⟨⟨_, rfl⟩, ?_⟩
    refine ⟨_, rfl, by show 4 ≤ sizeLine; decide, fun p np => ?_⟩
    generalize h1 : upd _ p _ = H1
    have s1 := same_of h1 np
    have a1 := upd_at h1
    refine ⟨_, rfl, s, _, 4, rfl, h0.same s1, by decide, by decide +kernel, fun H2 n k2 h2 hn => ?_⟩
    have a2 := k2 _ _ a1 (h0.ne np)
    obtain ⟨lim, hl, l0, l1⟩ : ∃ lim : Int, atI [L2.V.int 1, L2.V.int 4, L2.V.int 9, L2.V.int 140] ((n : Nat) : Int) = some (.int lim) ∧ 0 < lim ∧ lim ≤ 140 := by
      have : n = 0 ∨ n = 1 ∨ n = 2 ∨ n = 3 := by omega
      rcases this with rfl | rfl | rfl | rfl
      · exact ⟨_, rfl, by decide, by decide⟩
      · exact ⟨_, rfl, by decide, by decide⟩
      · exact ⟨_, rfl, by decide, by decide⟩
      · exact ⟨_, rfl, by decide, by decide⟩
    refine ⟨_, _, _, _, rfl, rfl, SqL.of a2, hl, s, _, lim, rfl, h2, l0, Int.le_trans l1 (by decide +kernel), fun H3 m k3 h3 hm => ?_⟩
    have K3 : Keep (· = s) H H3 := (Keep.of s1).trans (k2.trans k3)
    refine ⟨_, rfl, by omega, by omega, fun D nD => ?_⟩
    have nDs := h3.ne nD
    have nDl := h3.nel nD
    refine lc_range0 (n := m) (fun i H4 => Hold (Keep (fun b => b = s ∨ b = D) H3 H4 ∧ StAt H4 s sl ∧ ∃ cs : List Nat, H4 D = some (.lst (cs.map fun c => L2.V.str (S [c]))) ∧ cs.length = i ∧ ∀ c ∈ cs, okSign c)) ?_ ?_ ?_
    · exact .mk ⟨Keep.new nD, h3.same (same_new nD), [], upd_same, rfl, by simp⟩
    · intro i H4 hi V
      obtain ⟨k4, h4, cs, hD, hl, hc⟩ := V.out
      refine ⟨rfl, ?_⟩
      refine ⟨_, rfl, _, rfl, _, rfl, _, rfl, by rw [letters_S, S_len]; decide +kernel, ?_⟩
      refine ⟨s, _, _, rfl, h4, by rw [letters_S, S_len]; decide +kernel, by rw [letters_S, S_len]; decide +kernel, fun H5 j k5 h5 hj => ?_⟩
      have hj : j < alphabet.length := by
        rw [letters_S, S_len] at hj
        omega
      obtain ⟨c, hcj⟩ : ∃ c, alphabet[j]? = some c := ⟨_, List.getElem?_eq_getElem (show j < alphabet.length from hj)⟩
      refine ⟨_, _, c, rfl, rfl, by rw [letters_S, S_len]; decide +kernel, by rw [letters_S]; exact S_get hcj, ?_⟩
      have hD5 := k5 _ _ hD nDs
      refine ⟨_, hD5, by rw [List.length_map, hl, line24]; omega, .mk ⟨k4.trans ((k5.mono fun b z => .inl (.inl z)).trans (Keep.put (.inr rfl))), h5.upd nDs nDl, cs ++ [c], by rw [upd_same]; simp, by simp [hl], fun d hd => ?_⟩⟩
      rcases List.mem_append.mp hd with hd | hd
      · exact hc d hd
      · rw [List.mem_singleton.mp hd]; exact alphabet_ok c (List.mem_of_getElem? hcj)
    intro H4 V
    obtain ⟨k4, h4, cs, hD, hl, hc⟩ := V.out
    clear V
    have e0 : ("" : Str) = S [] := by decide +kernel
    have kF : Keep (· = s) H H4 := K3.trans (k4.mono fun b z => z.imp id fun z => by rw [z]; exact nD)
    refine ⟨_, _, cs.map fun c => S [c], rfl, rfl, .inl (SqL.of (by rw [List.map_map]; exact hD)), ?_, ?_⟩
    · rw [e0, S_len, List.length_nil, Nat.mul_zero, List.map_map]
      have : ∀ cs : List Nat, (cs.map ((fun x : Str => x.length) ∘ fun c => S [c])).sum = cs.length := by
        intro cs
        induction cs with
        | nil => rfl
        | cons c cs ih => rw [List.map_cons, List.sum_cons, ih, List.length_cons]; show (S [c]).length + _ = _; rw [S_len]; simp; omega
      rw [this]; omega
    · have e1 : (cs.map fun c => S [c]) = (cs.map fun c => [c]).map S := by rw [List.map_map]; rfl
      have e2 : ∀ cs : List Nat, TL.joinL [] (cs.map fun c => [c]) = cs := by
        intro cs
        induction cs with
        | nil => rfl
        | cons c cs ih =>
          cases cs with
          | nil => rfl
          | cons d r =>
            show [c] ++ ([] ++ TL.joinL [] ((d :: r).map fun c => [c])) = _
            rw [ih]; rfl
      rw [e0, e1, join_S, e2]
      exact kk H4 cs kF h4 ⟨by omega, hc⟩
end
end Mk12
namespace Mk12
open PySem PySem.Spec PyProof.Rows L2 My

open SX
section
variable {P : Program} {w : World} {K : PySem.W.Frag} {mg : Str → Option Value} {base : Heap}
def spDD (K : PySem.W.Frag) : Sp := fun vs H Q _ => ∃ (s sl : Addr), vs = [.ref s] ∧ StAt H s sl ∧ ∀ (H' : Hp) (x : L2.V) (d : Deed), Keep (· = s) H H' → StAt H' s sl → okDeed d → Dp K H' x (encD d) → Q x H'
theorem k__law_drawn_deed (T : TopF K mg) (D : Defs K mg) (c__law_next : Kal P w K mg base CX0 1 "_law_next" ["state", "limit"] spNext) (c__law_drawn_number : Kal P w K mg base CX0 2 "_law_drawn_number" ["state"] spDN) (c__law_drawn_text : Kal P w K mg base CX0 2 "_law_drawn_text" ["state"] spDT) : Kal P w K mg base CX0 3 "_law_drawn_deed" ["state"] (spDD K) := by
  refine kal_mk D.d__law_drawn_deed sc__law_drawn_deed bi__law_drawn_deed (fun vs H Q E h => ?_) (fun f cdv A outer s H vs Q E hr h => ?_)
  · obtain ⟨_, _, rfl, _⟩ := h; rfl
  · obtain ⟨s, sl, rfl, h0, kk⟩ := h
    have nd := sc__law_drawn_deed.nd
    refine ⟨_, (pss_cons (ps_if (pt_cmpR op_eq (pe_kal c__law_next hr (by first | decide | exact Nat.le_refl _ | omega) (pa_cons (pv 0) (pa_cons pe_int pa_nil))) pe_int (nomark _))
 (pss_one (ps_ret (pe_tup (pa_cons pe_str (pa_cons (pe_kal c__law_drawn_number hr (by first | decide | exact Nat.le_refl _ | omega) (pa_cons (pv 0) pa_nil)) pa_nil))))) pss_nil)
 (pss_cons (ps_set (i := 1) nd rfl (by first | exact Or.inl rfl | exact Or.inr rfl) (pe_callTy call_tuple_of (by rfl) T.tuple (by decide +kernel) (pa_cons (pe_lc (g := gName 3) (own := [("k", 3)]) rfl nd (pi_range1 (by rfl) T.range (pa_cons (pe_kal c__law_next hr (by first | decide | exact Nat.le_refl _ | omega) (pa_cons (pv 0) (pa_cons pe_int pa_nil))) pa_nil)) (blkOk_by (own := [("k", 3)]) (N := ["state", "marks", "behind", "k"]) (sc := defScope s__law_drawn_deed) (by decide +kernel)) (fun _ _ _ _ _ => (pg_name (i := 3) nd rfl (by first | exact Or.inl rfl | exact Or.inr rfl))) (fun _ _ _ _ _ => pts_nil) (fun _ _ _ _ _ => (pe_tup (pa_cons (pe_kal c__law_drawn_number hr (by first | decide | exact Nat.le_refl _ | omega) (pa_cons (pv 0) pa_nil)) (pa_cons (pe_kal c__law_next hr (by first | decide | exact Nat.le_refl _ | omega) (pa_cons (pv 0) (pa_cons pe_int pa_nil))) pa_nil))))) pa_nil)))
 (pss_cons (ps_set (i := 2) nd rfl (by first | exact Or.inl rfl | exact Or.inr rfl) (pe_ix ix_list (pe_lst (pa_cons pe_non (pa_cons (pe_tup (pa_cons (pe_kal c__law_drawn_number hr (by first | decide | exact Nat.le_refl _ | omega) (pa_cons (pv 0) pa_nil)) (pa_cons (pe_kal c__law_next hr (by first | decide | exact Nat.le_refl _ | omega) (pa_cons (pv 0) (pa_cons pe_int pa_nil))) pa_nil))) pa_nil))) (pe_kal c__law_next hr (by first | decide | exact Nat.le_refl _ | omega) (pa_cons (pv 0) (pa_cons pe_int pa_nil))) (fun _ _ => rfl)))
 (pss_one (ps_ret (pe_tup (pa_cons pe_str (pa_cons (pe_kal c__law_drawn_text hr (by first | decide | exact Nat.le_refl _ | omega) (pa_cons (pv 0) pa_nil)) (pa_cons (pv 1) (pa_cons (pv 2) (pa_cons (pe_kal c__law_drawn_number hr (by first | decide | exact Nat.le_refl _ | omega) (pa_cons (pv 0) pa_nil)) (pa_cons (pe_kal c__law_drawn_text hr (by first | decide | exact Nat.le_refl _ | omega) (pa_cons (pv 0) pa_nil)) pa_nil)))))))))))), ?_⟩
    refine ⟨_, rfl, s, sl, 3, rfl, h0, by decide, by decide +kernel, fun H1 n1 k1 h1 _ => ?_⟩
    refine ⟨rfl, _, rfl, ?_⟩
    refine ite2 (fun _ => ?_) (fun _ => ?_)
    · refine ⟨_, rfl, s, sl, rfl, h1, fun H2 n k2 h2 hn => ?_⟩
      refine ⟨by show 2 ≤ sizeLine; decide, fun t nt => ?_⟩
      generalize h3 : upd _ t _ = H3
      have s3 := same_of h3 nt
      have a3 := upd_at h3
      exact kk H3 _ (.back n) ((k1.trans k2).trans (Keep.of s3)) (h2.same s3) hn (.tup (.inl (.inl a3)) (.cons (.str _) (.cons (.int _) .nil)))
    -- the marks
    refine ⟨_, rfl, s, sl, 4, rfl, h1, by decide, by decide +kernel, fun H2 n k2 h2 hn => ?_⟩
    have K2 : Keep (· = s) H H2 := k1.trans k2
    refine ⟨_, rfl, by omega, by omega, fun D nD => ?_⟩
    have nDs := h2.ne nD
    have nDl := h2.nel nD
    refine lc_range0 (n := n) (fun i H4 => Hold (Keep (fun b => b = s ∨ b = D) H2 H4 ∧ StAt H4 s sl ∧ ∃ ms : List (Nat × Nat), LD K H4 D (ms.map encM) ∧ ms.length = i ∧ ∀ m ∈ ms, okMark m)) ?_ ?_ ?_
    · exact .mk ⟨Keep.new nD, h2.same (same_new nD), [], LD.nil upd_same, rfl, by simp⟩
    · intro i H4 hi V
      obtain ⟨k4, h4, ms, hD, hl, hc⟩ := V.out
      clear V
      refine ⟨rfl, ?_⟩
      refine ⟨_, rfl, s, sl, rfl, h4, fun H5 a k5 h5 ha => ?_⟩
      refine ⟨_, rfl, s, sl, 8, rfl, h5, by decide, by decide +kernel, fun H6 b k6 h6 hb => ?_⟩
      refine ⟨by show 2 ≤ sizeLine; decide, fun t nt => ?_⟩
      generalize h7 : upd _ t _ = H7
      have s7 := same_of h7 nt
      have a7 := upd_at h7
      have hD7 : LD K H7 D (ms.map encM) := by
        obtain ⟨vs, g1, g2⟩ := LD.keepS hD (flat_Ms ms) (k5.trans k6) h4 nDs
        exact ⟨vs, s7 _ _ g1, DpAll.same s7 g2⟩
      obtain ⟨vs, g1, g2, g3⟩ := hD7.push (flat_Ms ms) (d := encM (a, b)) (.tup (.inl (.inl a7)) (.cons (.int _) (.cons (.int _) .nil))) (flat_M _)
      refine ⟨vs, g1, by rw [g2, List.length_map, hl, line24]; omega, .mk ⟨k4.trans (((k5.trans k6).trans (Keep.of s7)).mono (fun b z => .inl (.inl z)) |>.trans (Keep.put (.inr rfl))), (h6.same s7).upd nDs nDl, ms ++ [(a, b)], by rw [List.map_append]; exact g3, by simp [hl], fun d hd => ?_⟩⟩
      rcases List.mem_append.mp hd with hd | hd
      · exact hc d hd
      · rw [List.mem_singleton.mp hd]; exact ⟨ha, by show b < 8; omega⟩
    intro H4 V
    obtain ⟨k4, h4, ms, hD, hl, hc⟩ := V.out
    clear V
    have K4 : Keep (· = s) H H4 := K2.trans (k4.mono fun b z => z.imp id fun z => by rw [z]; exact nD)
    obtain ⟨vs, hD1, hD2⟩ := hD
    refine ⟨D, vs, rfl, .inl ⟨SqL.of hD1, fun t nt => ?_⟩⟩
    generalize e5 : upd _ t _ = H5
    have s5 := same_of e5 nt
    have a5 := upd_at e5
    have h5 := h4.same s5
    have hT : Dp K H5 (.ref t) (.tuple (ms.map encM)) := .tup (.inl (.inl a5)) (DpAll.same s5 hD2)
    -- behind
    refine ⟨_, rfl, s, sl, rfl, h5, fun H6 a k6 h6 ha => ?_⟩
    refine ⟨_, rfl, s, sl, 8, rfl, h6, by decide, by decide +kernel, fun H7 b k7 h7 hb => ?_⟩
    refine ⟨by show 2 ≤ sizeLine; decide, fun u nu => ?_⟩
    generalize e8 : upd _ u _ = H8
    have s8 := same_of e8 nu
    have a8 := upd_at e8
    refine ⟨by show 2 ≤ sizeLine; decide, fun p np => ?_⟩
    generalize e9 : upd _ p _ = H9
    have s9 := same_of e9 np
    have a9 := upd_at e9
    have h9 := (h7.same s8).same s9
    refine ⟨_, rfl, s, sl, 2, rfl, h9, by decide, by decide +kernel, fun H10 j k10 h10 hj => ?_⟩
    have K69 : Keep (· = s) H5 H9 := (k6.trans k7).trans ((Keep.of s8).trans (Keep.of s9))
    have hM9 : Dp K H9 (.ref u) (encM (a, b)) := .tup (.inl (.inl (s9 _ _ a8))) (.cons (.int _) (.cons (.int _) .nil))
    obtain ⟨y, be, hy, ob, dy⟩ : ∃ (y : L2.V) (be : Option (Nat × Nat)), atI [L2.V.non, L2.V.ref u] ((j : Nat) : Int) = some y ∧ okBehind be ∧ Dp K H10 y (encO be) := by
      have : j = 0 ∨ j = 1 := by omega
      rcases this with rfl | rfl
      · exact ⟨_, none, rfl, trivial, .non⟩
      · exact ⟨_, some (a, b), rfl, ⟨ha, by show b < 8; omega⟩, Dp.keepS hM9 k10 h9 rfl⟩
    refine ⟨_, _, _, _, rfl, rfl, SqL.of (k10 _ _ a9 ((h7.same s8).ne np)), hy, ?_⟩
    have fO : flatP (encO be) = true := by cases be <;> rfl
    have hT10 := Dp.keepS (Dp.keepS hT K69 h5 (flat_Ms ms)) k10 h9 (flat_Ms ms)
    have K10 : Keep (· = s) H H10 := ((K4.trans (Keep.of s5)).trans K69).trans k10
    refine ⟨_, rfl, s, sl, rfl, h10, fun H11 mo k11 h11 om => ?_⟩
    refine ⟨_, rfl, _, rfl, _, rfl, s, sl, rfl, h11, fun H12 nu k12 h12 onu => ?_⟩
    refine ⟨_, rfl, s, sl, rfl, h12, fun H13 te k13 h13 ote => ?_⟩
    have k1113 := (k11.trans k12).trans k13
    refine ⟨by show 6 ≤ sizeLine; decide, fun v nv => ?_⟩
    generalize e14 : upd _ v _ = H14
    have s14 := same_of e14 nv
    have a14 := upd_at e14
    refine kk H14 _ (.change mo ms be nu te) ((K10.trans k1113).trans (Keep.of s14)) (h13.same s14) ⟨om, ⟨by omega, hc⟩, ob, onu, ote⟩ ?_
    exact .tup (.inl (.inl a14)) (.cons (.str _) (.cons (.str _) (.cons (Dp.same s14 (Dp.keepS hT10 k1113 h10 (flat_Ms ms))) (.cons (Dp.same s14 (Dp.keepS dy k1113 h10 fO)) (.cons (.int _) (.cons (.str _) .nil))))))
def spSpoilt : Sp := fun vs H Q _ => ∃ (s sl a : Addr) (l : List Nat), vs = [.ref s, .ref a] ∧ StAt H s sl ∧ BL H a l ∧ l.length ≤ 10000 ∧ ∀ (H' : Hp) (q : Addr) (m : List Nat), Keep (· = s) H H' → StAt H' s sl → BL H' q m → m.length ≤ 30000 → Q (.ref q) H'
theorem StAt.neB {H : Hp} {s l a : Addr} {m : List Nat} (h : StAt H s l) (b : BL H a m) : a ≠ s := fun z => by
  obtain ⟨_, _, _, _, z1, _⟩ := h
  have b : H a = _ := b
  rw [z, z1] at b
  cases m with
  | nil => cases b
  | cons x m => cases b
theorem k__law_spoilt (T : TopF K mg) (D : Defs K mg) (c__law_next : Kal P w K mg base CX0 1 "_law_next" ["state", "limit"] spNext) : Kal P w K mg base CX0 2 "_law_spoilt" ["state", "data"] spSpoilt := by
  refine kal_mk D.d__law_spoilt sc__law_spoilt bi__law_spoilt (fun vs H Q E h => ?_) (fun f cdv A outer s H vs Q E hr h => ?_)
  · obtain ⟨_, _, _, _, rfl, _⟩ := h; rfl
  · obtain ⟨s, sl, a, l, rfl, h0, ha, hll, kk⟩ := h
    have nd := sc__law_spoilt.nd
    have nas := h0.neB ha
    refine ⟨_, (pss_cons (ps_set (i := 2) nd rfl (by first | exact Or.inl rfl | exact Or.inr rfl) (pe_kal c__law_next hr (by first | decide | exact Nat.le_refl _ | omega) (pa_cons (pv 0) (pa_cons (pe_op op_add (pe_callB call_len_seq (by rfl) T.len (by decide +kernel) (pa_cons (pv 1) pa_nil)) pe_int) pa_nil))))
 (pss_cons (ps_set (i := 3) nd rfl (by first | exact Or.inl rfl | exact Or.inr rfl) (pe_ix ix_list (pe_lst (pa_cons pe_int (pa_cons pe_int (pa_cons pe_int (pa_cons pe_int (pa_cons pe_int (pa_cons pe_int (pa_cons pe_int pa_nil)))))))) (pe_kal c__law_next hr (by first | decide | exact Nat.le_refl _ | omega) (pa_cons (pv 0) (pa_cons pe_int pa_nil))) (fun _ _ => rfl)))
 (pss_cons (ps_set (i := 4) nd rfl (by first | exact Or.inl rfl | exact Or.inr rfl) (pe_kal c__law_next hr (by first | decide | exact Nat.le_refl _ | omega) (pa_cons (pv 0) (pa_cons pe_int pa_nil))))
 (pss_cons (ps_if (pt_cmpR op_eq (pv 4) pe_int (nomark _))
 (pss_one (ps_ret (pe_slice sl_list (pv 1) po_none (po_some (pv 2))))) pss_nil)
 (pss_cons (ps_if (pt_cmpR op_eq (pv 4) pe_int (nomark _))
 (pss_one (ps_ret (pe_op op_cat (pe_slice sl_list (pv 1) po_none (po_some (pv 2))) (pe_slice sl_list (pv 1) (po_some (pe_op op_add (pv 2) pe_int)) po_none)))) pss_nil)
 (pss_cons (ps_if (pt_cmpR op_eq (pv 4) pe_int (nomark _))
 (pss_one (ps_ret (pe_op op_cat (pe_op op_cat (pe_slice sl_list (pv 1) po_none (po_some (pv 2))) (pe_lst (pa_cons (pv 3) pa_nil))) (pe_slice sl_list (pv 1) (po_some (pv 2)) po_none)))) pss_nil)
 (pss_cons (ps_if (pt_cmpR op_eq (pv 4) pe_int (nomark _))
 (pss_one (ps_ret (pe_op op_cat (pe_op op_cat (pe_slice sl_list (pv 1) po_none (po_some (pv 2))) (pe_lst (pa_cons (pv 3) pa_nil))) (pe_slice sl_list (pv 1) (po_some (pe_op op_add (pv 2) pe_int)) po_none)))) pss_nil)
 (pss_one (ps_ret (pe_lc (g := gName 5) (own := [("k", 5)]) rfl nd (pi_range1 (by rfl) T.range (pa_cons (pe_kal c__law_next hr (by first | decide | exact Nat.le_refl _ | omega) (pa_cons (pv 0) (pa_cons pe_int pa_nil))) pa_nil)) (blkOk_by (own := [("k", 5)]) (N := ["state", "data", "place", "byte", "pick", "k"]) (sc := defScope s__law_spoilt) (by decide +kernel)) (fun _ _ _ _ _ => (pg_name (i := 5) nd rfl (by first | exact Or.inl rfl | exact Or.inr rfl))) (fun _ _ _ _ _ => pts_nil) (fun _ _ _ _ _ => (pe_kal c__law_next hr (by first | decide | exact Nat.le_refl _ | omega) (pa_cons (pv 0) (pa_cons (pe_ix (ix_listK (K := K) rfl) (pe_lst (pa_cons pe_int (pa_cons pe_int pa_nil))) (pe_kal c__law_next hr (by first | decide | exact Nat.le_refl _ | omega) (pa_cons (pv 0) (pa_cons pe_int pa_nil))) (fun _ _ => rfl)) pa_nil)))))))))))))), ?_⟩
    refine ⟨_, rfl, _, rfl, _, _, rfl, .inl (SqL.of ha), _, _, rfl, rfl, s, sl, _, rfl, h0, by omega, ?_, fun H1 pl k1 h1 hpl => ?_⟩
    · rw [nums_len]; have : (10001 : Int) ≤ (128 ^ 10 : Nat) := by decide +kernel
      omega
    rw [nums_len] at hpl
    refine ⟨by show 7 ≤ sizeLine; decide, fun p np => ?_⟩
    generalize e2 : upd _ p _ = H2
    have s2 := same_of e2 np
    have a2 := upd_at e2
    refine ⟨_, rfl, s, sl, 7, rfl, h1.same s2, by decide, by decide +kernel, fun H3 n k3 h3 hn => ?_⟩
    have a3 := k3 _ _ a2 (h1.ne np)
    obtain ⟨b, hb⟩ : ∃ b : Nat, atI [L2.V.int 0, L2.V.int 1, L2.V.int 2, L2.V.int 37, L2.V.int 127, L2.V.int 128, L2.V.int 255] ((n : Nat) : Int) = some (.int (b : Nat)) := by
      have : n = 0 ∨ n = 1 ∨ n = 2 ∨ n = 3 ∨ n = 4 ∨ n = 5 ∨ n = 6 := by omega
      rcases this with rfl | rfl | rfl | rfl | rfl | rfl | rfl
      · exact ⟨0, rfl⟩
      · exact ⟨1, rfl⟩
      · exact ⟨2, rfl⟩
      · exact ⟨37, rfl⟩
      · exact ⟨127, rfl⟩
      · exact ⟨128, rfl⟩
      · exact ⟨255, rfl⟩
    refine ⟨_, _, _, _, rfl, rfl, SqL.of a3, hb, ?_⟩
    refine ⟨_, rfl, s, sl, 5, rfl, h3, by decide, by decide +kernel, fun H4 pk k4 h4 hpk => ?_⟩
    have K4 : Keep (· = s) H H4 := (k1.trans (Keep.of s2)).trans (k3.trans k4)
    have ha4 : BL H4 a l := K4 _ _ ha nas
    have ct : ∀ j : Nat, cutV (nums l) none (some ((j : Nat) : Int)) = nums (l.take j) := fun j => by rw [cutV_to]; exact List.map_take.symm
    have cf : ∀ j : Nat, cutV (nums l) (some ((j : Nat) : Int)) none = nums (l.drop j) := fun j => by rw [cutV_from]; exact List.map_drop.symm
    have lt : ∀ j, (l.take j).length ≤ l.length := fun j => by rw [List.length_take]; omega
    have ld : ∀ j, (l.drop j).length ≤ l.length := fun j => by rw [List.length_drop]; omega
    -- data[:place]
    refine ⟨_, rfl, rfl, _, rfl, ite2 (fun _ => ?_) (fun _ => ?_)⟩
    · refine ⟨_, rfl, _, rfl, _, rfl, ?_⟩
      refine ⟨_, _, rfl, SqL.of ha4, fun c nc => ?_⟩
      rw [ct]
      exact kk _ c (l.take pl) (K4.trans (Keep.of (same_new nc))) (h4.same (same_new nc)) upd_same (by have := lt pl; omega)
    have hf : ((pl : Nat) : Int) + 1 = ((pl + 1 : Nat) : Int) := rfl
    refine ⟨_, rfl, rfl, _, rfl, ite2 (fun _ => ?_) (fun _ => ?_)⟩
    · refine ⟨_, rfl, _, rfl, _, rfl, ?_⟩
      refine ⟨_, _, rfl, SqL.of ha4, fun c nc => ?_⟩
      rw [ct]
      generalize e5 : upd _ c _ = H5
      have s5 := same_of e5 nc
      have a5 := upd_at e5
      refine ⟨_, rfl, _, rfl, _, _, rfl, rfl, _, rfl, ?_⟩
      refine ⟨_, _, rfl, SqL.of (s5 _ _ ha4), fun d nd => ?_⟩
      rw [hf, cf]
      generalize e6 : upd _ d _ = H6
      have s6 := same_of e6 nd
      have a6 := upd_at e6
      have l1 := lt pl
      have l2 := ld (pl + 1)
      refine ⟨c, d, _, _, rfl, rfl, s6 _ _ a5, a6, by rw [nums_len, nums_len, line24]; omega, fun q nq => ?_⟩
      rw [← List.map_append]
      exact kk _ q _ (K4.trans (Keep.of ((s5.trans s6).trans (same_new nq)))) (h4.same ((s5.trans s6).trans (same_new nq))) upd_same (by rw [List.length_append]; omega)
    refine ⟨_, rfl, rfl, _, rfl, ite2 (fun _ => ?_) (fun _ => ?_)⟩
    · refine ⟨_, rfl, _, rfl, _, rfl, ?_⟩
      refine ⟨_, _, rfl, SqL.of ha4, fun c nc => ?_⟩
      rw [ct]
      generalize e5 : upd _ c _ = H5
      have s5 := same_of e5 nc
      have a5 := upd_at e5
      refine ⟨_, rfl, by show 1 ≤ sizeLine; decide, fun d nd => ?_⟩
      generalize e6 : upd _ d _ = H6
      have s6 := same_of e6 nd
      have a6 : BL H6 d [b] := upd_at e6
      have l1 := lt pl
      have l2 := ld pl
      refine ⟨c, d, _, _, rfl, rfl, s6 _ _ a5, a6, by rw [nums_len, nums_len, line24, List.length_singleton]; omega, fun q nq => ?_⟩
      rw [← List.map_append]
      generalize e7 : upd _ q _ = H7
      have s7 := same_of e7 nq
      have a7 := upd_at e7
      refine ⟨_, rfl, _, rfl, _, rfl, ?_⟩
      have S7 := (s5.trans s6).trans s7
      refine ⟨_, _, rfl, SqL.of (S7 _ _ ha4), fun e ne => ?_⟩
      rw [cf]
      generalize e8 : upd _ e _ = H8
      have s8 := same_of e8 ne
      have a8 := upd_at e8
      refine ⟨q, e, _, _, rfl, rfl, s8 _ _ a7, a8, by rw [nums_len, nums_len, line24, List.length_append, List.length_singleton]; omega, fun r nr => ?_⟩
      rw [← List.map_append]
      have S8 := (S7.trans s8).trans (same_new nr (o := .lst (nums (l.take pl ++ [b] ++ l.drop pl))))
      exact kk _ r _ (K4.trans (Keep.of S8)) (h4.same S8) upd_same (by rw [List.length_append, List.length_append, List.length_singleton]; omega)
    refine ⟨_, rfl, rfl, _, rfl, ite2 (fun _ => ?_) (fun _ => ?_)⟩
    · refine ⟨_, rfl, _, rfl, _, rfl, ?_⟩
      refine ⟨_, _, rfl, SqL.of ha4, fun c nc => ?_⟩
      rw [ct]
      generalize e5 : upd _ c _ = H5
      have s5 := same_of e5 nc
      have a5 := upd_at e5
      refine ⟨_, rfl, by show 1 ≤ sizeLine; decide, fun d nd => ?_⟩
      generalize e6 : upd _ d _ = H6
      have s6 := same_of e6 nd
      have a6 : BL H6 d [b] := upd_at e6
      have l1 := lt pl
      have l2 := ld (pl + 1)
      refine ⟨c, d, _, _, rfl, rfl, s6 _ _ a5, a6, by rw [nums_len, nums_len, line24, List.length_singleton]; omega, fun q nq => ?_⟩
      rw [← List.map_append]
      generalize e7 : upd _ q _ = H7
      have s7 := same_of e7 nq
      have a7 := upd_at e7
      refine ⟨_, rfl, _, rfl, _, _, rfl, rfl, _, rfl, ?_⟩
      have S7 := (s5.trans s6).trans s7
      refine ⟨_, _, rfl, SqL.of (S7 _ _ ha4), fun e ne => ?_⟩
      rw [hf, cf]
      generalize e8 : upd _ e _ = H8
      have s8 := same_of e8 ne
      have a8 := upd_at e8
      refine ⟨q, e, _, _, rfl, rfl, s8 _ _ a7, a8, by rw [nums_len, nums_len, line24, List.length_append, List.length_singleton]; omega, fun r nr => ?_⟩
      rw [← List.map_append]
      have S8 := (S7.trans s8).trans (same_new nr (o := .lst (nums (l.take pl ++ [b] ++ l.drop (pl + 1)))))
      exact kk _ r _ (K4.trans (Keep.of S8)) (h4.same S8) upd_same (by rw [List.length_append, List.length_append, List.length_singleton]; omega)
    -- drawn bytes
    refine ⟨_, rfl, s, sl, 12, rfl, h4, by decide, by decide +kernel, fun H5 n5 k5 h5 hn5 => ?_⟩
    refine ⟨_, rfl, by omega, by omega, fun D nD => ?_⟩
    have nDs := h5.ne nD
    have nDl := h5.nel nD
    refine lc_range0 (n := n5) (fun i H6 => Hold (Keep (fun b => b = s ∨ b = D) H5 H6 ∧ StAt H6 s sl ∧ ∃ ms : List Nat, BL H6 D ms ∧ ms.length = i)) ?_ ?_ ?_
    · exact .mk ⟨Keep.new nD, h5.same (same_new nD), [], upd_same, rfl⟩
    · intro i H6 hi V
      obtain ⟨k6, h6, ms, hD, hl⟩ := V.out
      clear V
      refine ⟨rfl, ?_⟩
      refine ⟨_, rfl, by show 2 ≤ sizeLine; decide, fun u nu => ?_⟩
      generalize e7 : upd _ u _ = H7
      have s7 := same_of e7 nu
      have a7 := upd_at e7
      have h7 := h6.same s7
      refine ⟨_, rfl, s, sl, 2, rfl, h7, by decide, by decide +kernel, fun H8 j k8 h8 hj => ?_⟩
      obtain ⟨lim, hlim, l0, l1⟩ : ∃ lim : Int, atI [L2.V.int 3, L2.V.int 256] ((j : Nat) : Int) = some (.int lim) ∧ 0 < lim ∧ lim ≤ 256 := by
        have : j = 0 ∨ j = 1 := by omega
        rcases this with rfl | rfl
        · exact ⟨_, rfl, by decide, by decide⟩
        · exact ⟨_, rfl, by decide, by decide⟩
      refine ⟨_, _, _, _, rfl, rfl, SqL.of (k8 _ _ a7 (h6.ne nu)), hlim, s, sl, lim, rfl, h8, l0, Int.le_trans l1 (by decide +kernel), fun H9 x k9 h9 hx => ?_⟩
      have K9 : Keep (· = s) H6 H9 := ((Keep.of s7).trans k8).trans k9
      have hD9 := K9 _ _ hD nDs
      refine ⟨_, hD9, by rw [nums_len, hl, line24]; omega, .mk ⟨k6.trans ((K9.mono fun b z => .inl (.inl z)).trans (Keep.put (.inr rfl))), h9.upd nDs nDl, ms ++ [x], ?_, by simp [hl]⟩⟩
      show upd H9 D _ D = _
      rw [upd_same]; simp
    intro H6 V
    obtain ⟨k6, h6, ms, hD, hl⟩ := V.out
    clear V
    exact kk H6 D ms ((K4.trans k5).trans (k6.mono fun b z => z.imp id fun z => by rw [z]; exact nD)) h6 hD (by omega)
end
end Mk12
namespace Mk12
open PySem PySem.Spec PyProof.Rows L2 My

open SX
theorem le_num {l : List Nat} {i v j : Nat} (h : i ≤ l.length) (e : pNum l i = some (v, j)) : j ≤ l.length := by
  unfold pNum at e
  cases e0 : pnum 0 ((l.drop i).take 60) with
  | none => rw [e0] at e; cases e
  | some q =>
    obtain ⟨v', k⟩ := q
    rw [e0] at e
    cases e
    have := (pnum_le _ _ _ _ e0).2
    rw [List.length_take, List.length_drop] at this
    show i + k ≤ _
    omega
theorem le_byte {l : List Nat} {i v j : Nat} (e : pByte l i = some (v, j)) : j ≤ l.length := by
  unfold pByte at e
  cases e0 : l[i]? with
  | none => rw [e0] at e; cases e
  | some b =>
    rw [e0] at e
    cases e
    exact (List.getElem?_eq_some_iff.mp e0).1
theorem bind_some' {α β : Type} {x : Option α} {f : α → Option β} {y : β} (h : x.bind f = some y) : ∃ a, x = some a ∧ f a = some y := by
  cases x with
  | none => cases h
  | some a => exact ⟨a, rfl, h⟩
theorem map_some' {α β : Type} {x : Option α} {f : α → β} {y : β} (h : x.map f = some y) : ∃ a, x = some a ∧ f a = y := by
  cases x with
  | none => cases h
  | some a => exact ⟨a, rfl, Option.some.inj h⟩
/-- a parser never leaves its bytes -/
def Ins {α : Type} (p : List Nat → Nat → Option (α × Nat)) : Prop := ∀ {l : List Nat} {i j : Nat} {v : α}, i ≤ l.length → p l i = some (v, j) → j ≤ l.length
theorem in_num : Ins pNum := fun h e => le_num h e
theorem in_choice (c : Nat) : Ins (pChoice c) := fun {l i j v} h e => by
  obtain ⟨⟨b, k⟩, e1, e2⟩ := bind_some' e
  split at e2
  · cases e2; exact le_byte e1
  · cases e2
theorem in_count : Ins pCount := fun {l i j v} h e => by
  obtain ⟨⟨b, k⟩, e1, e2⟩ := bind_some' e
  split at e2
  · cases e2; exact in_num h e1
  · cases e2
theorem in_mark : Ins pMark := fun {l i j v} h e => by
  obtain ⟨⟨a, k⟩, e1, e2⟩ := bind_some' e
  obtain ⟨⟨b, m⟩, e3, e4⟩ := map_some' e2
  cases e4
  exact in_num (in_num h e1) e3
theorem in_char : Ins pChar := fun {l i j v} h e => by
  obtain ⟨⟨b, k⟩, e1, e2⟩ := bind_some' e
  split at e2
  · cases e2; exact in_num h e1
  · cases e2
theorem in_rep {α : Type} {p : List Nat → Nat → Option (α × Nat)} (hp : Ins p) : ∀ n : Nat, Ins (pRep p n)
  | 0 => by
    intro h e
    cases e; exact h
  | n + 1 => by
    intro h e
    obtain ⟨⟨a, k⟩, e1, e2⟩ := bind_some' e
    obtain ⟨⟨b, m⟩, e3, e4⟩ := map_some' e2
    cases e4
    exact in_rep hp n (hp h e1) e3
theorem in_list {α : Type} {p : List Nat → Nat → Option (α × Nat)} (hp : Ins p) : Ins (pList p) := fun {l i j v} h e => by
  obtain ⟨⟨n, k⟩, e1, e2⟩ := bind_some' e
  exact in_rep hp n (in_count h e1) e2
theorem in_behind : Ins pBehind := fun {l i j v} h e => by
  obtain ⟨⟨b, k⟩, e1, e2⟩ := bind_some' e
  have hk := in_choice 2 h e1
  split at e2
  · obtain ⟨⟨b, m⟩, e3, e4⟩ := map_some' e2
    cases e4
    exact in_mark hk e3
  · cases e2; exact hk
theorem in_deed : Ins pDeed := fun {l i j v} h e => by
  obtain ⟨⟨b, k⟩, e1, e2⟩ := bind_some' e
  have hk := in_choice 2 h e1
  split at e2
  · obtain ⟨⟨b, m⟩, e3, e4⟩ := map_some' e2
    cases e4
    exact in_num hk e3
  · obtain ⟨⟨a1, k1⟩, f1, e2⟩ := bind_some' e2
    obtain ⟨⟨a2, k2⟩, f2, e2⟩ := bind_some' e2
    obtain ⟨⟨a3, k3⟩, f3, e2⟩ := bind_some' e2
    obtain ⟨⟨a4, k4⟩, f4, e2⟩ := bind_some' e2
    obtain ⟨⟨a5, k5⟩, f5, e2⟩ := map_some' e2
    cases e2
    exact in_list in_char (in_num (in_behind (in_list in_mark (in_list in_char hk f1) f2) f3) f4) f5
theorem in_triple : Ins pTriple := fun {l i j v} h e => by
  obtain ⟨⟨a1, k1⟩, f1, e2⟩ := bind_some' e
  obtain ⟨⟨a2, k2⟩, f2, e2⟩ := bind_some' e2
  obtain ⟨⟨a3, k3⟩, f3, e2⟩ := map_some' e2
  cases e2
  exact in_deed (in_num (in_num h f1) f2) f3
theorem in_triples : Ins pTriples := in_list in_triple
theorem in_packet : Ins pPacket := fun {l i j v} h e => by
  obtain ⟨⟨b, k⟩, e1, e2⟩ := bind_some' e
  split at e2
  · exact in_triples (le_byte e1) e2
  · cases e2
def resK (kind : Nat) (l : List Nat) : Option (PyData × Nat) :=
  if kind = 0 then (pNum l 0).map fun v => (encN v.1, v.2) else if kind = 1 then (pList pChar l 0).map fun v => (encS v.1, v.2) else if kind = 2 then (pDeed l 0).map fun v => (encD v.1, v.2) else if kind = 3 then (pTriples l 0).map fun v => (encTs v.1, v.2) else (pPacket l 0).map fun v => (encTs v.1, v.2)
theorem encR_map {α : Type} (enc : α → PyData) (x : Option (α × Nat)) : encR enc x = encR id (x.map fun v => (enc v.1, v.2)) := by cases x <;> rfl
theorem encK_res (kind : Nat) (l : List Nat) : encK kind l = encR id (resK kind l) := by
  unfold encK resK
  split
  · exact encR_map _ _
  split
  · exact encR_map _ _
  split
  · exact encR_map _ _
  split
  · exact encR_map _ _
  · exact encR_map _ _
theorem res_le {kind : Nat} {l : List Nat} {d : PyData} {j : Nat} (e : resK kind l = some (d, j)) : j ≤ l.length := by
  unfold resK at e
  split at e
  · obtain ⟨⟨a, k⟩, f, e⟩ := map_some' e; cases e; exact in_num (Nat.zero_le _) f
  split at e
  · obtain ⟨⟨a, k⟩, f, e⟩ := map_some' e; cases e; exact in_list in_char (Nat.zero_le _) f
  split at e
  · obtain ⟨⟨a, k⟩, f, e⟩ := map_some' e; cases e; exact in_deed (Nat.zero_le _) f
  split at e
  · obtain ⟨⟨a, k⟩, f, e⟩ := map_some' e; cases e; exact in_triples (Nat.zero_le _) f
  · obtain ⟨⟨a, k⟩, f, e⟩ := map_some' e; cases e; exact in_packet (Nat.zero_le _) f
section
variable {P : Program} {w : World} {K : PySem.W.Frag} {mg : Str → Option Value} {base : Heap}
theorem k__law_told (T : TopF K mg) (D : Defs K mg) (c_Reader : KMak P w K mg base CX0 1 "Reader" (He.ga K "Reader") ["self", "data"] (spRInit (He.ga K "Reader")))
    (c_Reader_read_number : KMet P w K mg base (L2.CX P w) 2 (He.ga K "Reader") "read_number" ["self"] (spP (He.ga K "Reader") (He.ga K "DamagedPacket") pNum vInt))
    (c_Reader_read_string : KMet P w K mg base (L2.CX P w) 4 (He.ga K "Reader") "read_string" ["self"] (spP (He.ga K "Reader") (He.ga K "DamagedPacket") (pList pChar) vStr))
    (c_Reader_read_deed : KMet P w K mg base (L2.CX P w) 5 (He.ga K "Reader") "read_deed" ["self"] (spP (He.ga K "Reader") (He.ga K "DamagedPacket") pDeed (vD K encD)))
    (c_Reader_read_triples : KMet P w K mg base (L2.CX P w) 7 (He.ga K "Reader") "read_triples" ["self"] (spP (He.ga K "Reader") (He.ga K "DamagedPacket") pTriples (vD K encTs)))
    (c_Reader_read_packet : KMet P w K mg base (L2.CX P w) 8 (He.ga K "Reader") "read_packet" ["self"] (spP (He.ga K "Reader") (He.ga K "DamagedPacket") pPacket (vD K encTs)))
    (c_Reader_end : KMet P w K mg base (L2.CX P w) 1 (He.ga K "Reader") "end" ["self"] (spEnd (He.ga K "Reader") (He.ga K "DamagedPacket"))) : Kal P w K mg base CX0 9 "_law_told" ["kind", "data"] (spOwn K) := by
  refine kal_mk D.d__law_told sc__law_told bi__law_told (fun vs H Q E h => ?_) (fun f cdv A outer s H vs Q E hr h => ?_)
  · obtain ⟨_, _, _, rfl, _⟩ := h; rfl
  · obtain ⟨kind, a, l, rfl, ha, hll, kk⟩ := h
    have nd := sc__law_told.nd
    have cl := D.d_Reader_read_byte.cl
    refine ⟨_, (pss_cons (ps_set (i := 2) nd rfl (by first | exact Or.inl rfl | exact Or.inr rfl) (pe_kmk c_Reader hr (by first | decide | exact Nat.le_refl _ | omega) (pa_cons (pe_callTy call_list_of (by rfl) T.list (by decide +kernel) (pa_cons (pv 1) pa_nil)) pa_nil)))
 (C8.pss_cut (ps_try_only rfl rfl ⟨rfl, by decide, .inl T.g_DamagedPacket⟩ takes0 (fun W pn xe tk pw => (pss_one (ps_if (pt_cmpR op_eq (pv 0) pe_int (nomark _))
 (pss_one (ps_set (i := 3) nd rfl (by first | exact Or.inl rfl | exact Or.inr rfl) (pe_kmetX0 c_Reader_read_number hr (by first | decide | exact Nat.le_refl _ | omega) tk (pv 2)))) (pss_one (ps_if (pt_cmpR op_eq (pv 0) pe_int (nomark _))
 (pss_one (ps_set (i := 3) nd rfl (by first | exact Or.inl rfl | exact Or.inr rfl) (pe_kmetX0 c_Reader_read_string hr (by first | decide | exact Nat.le_refl _ | omega) tk (pv 2)))) (pss_one (ps_if (pt_cmpR op_eq (pv 0) pe_int (nomark _))
 (pss_one (ps_set (i := 3) nd rfl (by first | exact Or.inl rfl | exact Or.inr rfl) (pe_kmetX0 c_Reader_read_deed hr (by first | decide | exact Nat.le_refl _ | omega) tk (pv 2)))) (pss_one (ps_if (pt_cmpR op_eq (pv 0) pe_int (nomark _))
 (pss_one (ps_set (i := 3) nd rfl (by first | exact Or.inl rfl | exact Or.inr rfl) (pe_kmetX0 c_Reader_read_triples hr (by first | decide | exact Nat.le_refl _ | omega) tk (pv 2)))) (pss_one (ps_set (i := 3) nd rfl (by first | exact Or.inl rfl | exact Or.inr rfl) (pe_kmetX0 c_Reader_read_packet hr (by first | decide | exact Nat.le_refl _ | omega) tk (pv 2)))))))))))))
 (fun a_ oe_ cls_ d_ pn_ _ _ => (pss_one (ps_ret pe_non))))
 (pss_cons (ps_set (i := 4) nd rfl (by first | exact Or.inl rfl | exact Or.inr rfl) (pe_fld (pv 2) rfl))
 (C8.pss_cut (ps_try_only rfl rfl ⟨rfl, by decide, .inl T.g_DamagedPacket⟩ takes0 (fun W pn xe tk pw => (pss_cons (ps_expr (pe_kmetX0 c_Reader_end hr (by first | decide | exact Nat.le_refl _ | omega) tk (pv 2)))
 (pss_one (ps_set (i := 5) nd rfl (by first | exact Or.inl rfl | exact Or.inr rfl) pe_bl))))
 (fun a_ oe_ cls_ d_ pn_ _ _ => (pss_one (ps_set (i := 5) nd rfl (by first | exact Or.inl rfl | exact Or.inr rfl) pe_bl))))
 (pss_one (ps_ret (pe_ifExp (pt_cmpR op_eq (pv 5) (pe_cmpR op_eq (pv 4) (pe_callB call_len_seq (by rfl) T.len (by decide +kernel) (pa_cons (pv 1) pa_nil)) (nomark _)) (nomark _)) (pe_tup (pa_cons (pv 3) (pa_cons (pv 4) pa_nil))) (pe_tup (pa_cons pe_str (pa_cons (pv 4) pa_nil)))))))))), ?_⟩
    refine ⟨_, rfl, _, _, rfl, .inl (SqL.of ha), fun c nc => ?_⟩
    generalize hc : upd _ c _ = H1
    have s1 := same_of hc nc
    have ac := upd_at hc
    refine fun r dx nr ndx ne => ⟨r, c, dx, l, rfl, upd_same, ?_, hll, fun H2 q k2 _ R => ⟨rfl, ?_⟩⟩
    · rw [upd_ne (ne_of_none ac nr), upd_ne (ne_of_none ac ndx)]; exact ac
    have s2 : Same H H2 := fun b o e => by
      have e1 := s1 _ _ e
      refine k2 _ _ ?_ (ne_of_none e1 nr)
      rw [upd_ne (ne_of_none e1 nr), upd_ne (ne_of_none e1 ndx)]; exact e1
    have nrH : H r = none := s1.free nr
    have s3 : ∀ {H3 : Hp}, Keep (· = r) H2 H3 → Same H H3 := fun k3 b o e => k3 _ _ (s2 _ _ e) (ne_of_none e nrH)
    obtain ⟨hq, ⟨dx2, hr2⟩, _⟩ := id R
    rw [encK_res] at kk
    have k0 : resK kind l = none → ∀ H3, Keep (· = r) H2 H3 → Q .non H3 := fun e H3 k3 => kk H3 _ (s3 k3) (by rw [e]; exact .non)
    -- what is read
    refine ⟨fun σ' H3 => ∃ (x : L2.V) (d : PyData) (j : Nat), σ' = [some (.int (kind : Nat)), some (.ref a), some (.ref r), some x, none, none] ∧ Keep (· = r) H2 H3 ∧ RdAt (He.ga K "Reader") H3 r q l j ∧ resK kind l = some (d, j) ∧ Dp K H3 x d, ?_, ?_⟩
    · refine ⟨_, rfl, rfl, _, rfl, ite2 (fun z => ?_) (fun z => ?_)⟩
      · have e : kind = 0 := by have := vint z; omega
        have er : resK kind l = (pNum l 0).map fun v => (encN v.1, v.2) := by unfold resK; rw [if_pos e]
        refine ⟨_, rfl, r, dx2, _, rfl, hr2, rf_no _ _ (by decide +kernel) (by decide +kernel), ?_⟩
        refine ⟨r, q, l, 0, rfl, R, fun v j e3 H3 x k3 R3 hx => ?_, fun e3 H3 j k3 R3 => ⟨true, He.exm_ok T.m_DamagedPacket, fun _ a ha => k0 (by rw [er, e3]; rfl) H3 k3, fun z => nomatch z⟩⟩
        obtain rfl : x = .int (v : Nat) := hx
        exact ⟨_, encN v, j, rfl, k3, R3, by rw [er, e3]; rfl, .int _⟩
      have e0 : kind ≠ 0 := by have := vintF z; omega
      refine ⟨_, rfl, rfl, _, rfl, ite2 (fun z => ?_) (fun z => ?_)⟩
      · have e : kind = 1 := by have := vint z; omega
        have er : resK kind l = (pList pChar l 0).map fun v => (encS v.1, v.2) := by unfold resK; rw [if_neg e0, if_pos e]
        refine ⟨_, rfl, r, dx2, _, rfl, hr2, rf_no _ _ (by decide +kernel) (by decide +kernel), ?_⟩
        refine ⟨r, q, l, 0, rfl, R, fun v j e3 H3 x k3 R3 hx => ?_, fun e3 H3 j k3 R3 => ⟨true, He.exm_ok T.m_DamagedPacket, fun _ a ha => k0 (by rw [er, e3]; rfl) H3 k3, fun z => nomatch z⟩⟩
        obtain rfl : x = .str (S v) := hx
        exact ⟨_, encS v, j, rfl, k3, R3, by rw [er, e3]; rfl, .str _⟩
      have e1 : kind ≠ 1 := by have := vintF z; omega
      refine ⟨_, rfl, rfl, _, rfl, ite2 (fun z => ?_) (fun z => ?_)⟩
      · have e : kind = 2 := by have := vint z; omega
        have er : resK kind l = (pDeed l 0).map fun v => (encD v.1, v.2) := by unfold resK; rw [if_neg e0, if_neg e1, if_pos e]
        refine ⟨_, rfl, r, dx2, _, rfl, hr2, rf_no _ _ (by decide +kernel) (by decide +kernel), ?_⟩
        refine ⟨r, q, l, 0, rfl, R, fun v j e3 H3 x k3 R3 hx => ?_, fun e3 H3 j k3 R3 => ⟨true, He.exm_ok T.m_DamagedPacket, fun _ a ha => k0 (by rw [er, e3]; rfl) H3 k3, fun z => nomatch z⟩⟩
        exact ⟨_, encD v, j, rfl, k3, R3, by rw [er, e3]; rfl, hx⟩
      have e2 : kind ≠ 2 := by have := vintF z; omega
      refine ⟨_, rfl, rfl, _, rfl, ite2 (fun z => ?_) (fun z => ?_)⟩
      · have e : kind = 3 := by have := vint z; omega
        have er : resK kind l = (pTriples l 0).map fun v => (encTs v.1, v.2) := by unfold resK; rw [if_neg e0, if_neg e1, if_neg e2, if_pos e]
        refine ⟨_, rfl, r, dx2, _, rfl, hr2, rf_no _ _ (by decide +kernel) (by decide +kernel), ?_⟩
        refine ⟨r, q, l, 0, rfl, R, fun v j e3 H3 x k3 R3 hx => ?_, fun e3 H3 j k3 R3 => ⟨true, He.exm_ok T.m_DamagedPacket, fun _ a ha => k0 (by rw [er, e3]; rfl) H3 k3, fun z => nomatch z⟩⟩
        exact ⟨_, encTs v, j, rfl, k3, R3, by rw [er, e3]; rfl, hx⟩
      have e3 : kind ≠ 3 := by have := vintF z; omega
      have er : resK kind l = (pPacket l 0).map fun v => (encTs v.1, v.2) := by unfold resK; rw [if_neg e0, if_neg e1, if_neg e2, if_neg e3]
      refine ⟨_, rfl, r, dx2, _, rfl, hr2, rf_no _ _ (by decide +kernel) (by decide +kernel), ?_⟩
      refine ⟨r, q, l, 0, rfl, R, fun v j e3 H3 x k3 R3 hx => ?_, fun e3 H3 j k3 R3 => ⟨true, He.exm_ok T.m_DamagedPacket, fun _ a ha => k0 (by rw [er, e3]; rfl) H3 k3, fun z => nomatch z⟩⟩
      exact ⟨_, encTs v, j, rfl, k3, R3, by rw [er, e3]; rfl, hx⟩
    rintro σ' H3 ⟨x, d, j, rfl, k3, R3, er, hx⟩
    have hj := res_le er
    obtain ⟨hq3, ⟨dx3, hr3⟩, _⟩ := id R3
    refine ⟨_, rfl, r, _, dx3, _, _, rfl, hr3, cl, T.n_Reader_at, rf_a _ _, ?_⟩
    refine ⟨fun σ' H4 => H4 = H3 ∧ σ' = [some (.int (kind : Nat)), some (.ref a), some (.ref r), some x, some (.int (j : Nat)), some (.bl (decide (j = l.length)))], ?_, ?_⟩
    · refine ⟨_, rfl, r, dx3, _, rfl, hr3, rf_no _ _ (by decide +kernel) (by decide +kernel), ?_⟩
      refine ⟨r, q, l, j, rfl, R3, fun h => ⟨rfl, ?_⟩, fun h => ⟨true, He.exm_ok T.m_DamagedPacket, fun _ a ha => ⟨rfl, ?_⟩, fun z => nomatch z⟩⟩
      · rw [decide_eq_true (show j = l.length by omega)]; rfl
      · rw [decide_eq_false (show ¬ j = l.length by omega)]; rfl
    rintro σ' _ ⟨rfl, rfl⟩
    have s3' := s3 k3
    refine ⟨_, rfl, _, rfl, _, rfl, _, _, rfl, .inl (SqL.of (s3' _ _ ha)), rfl, rfl, _, rfl, ?_⟩
    rw [nums_len]
    refine ite2 (fun _ => ?_) (fun z => ?_)
    · refine ⟨_, rfl, _, rfl, by show 2 ≤ sizeLine; decide, fun t nt => ?_⟩
      generalize h4 : upd _ t _ = H4
      have s4 := same_of h4 nt
      have a4 := upd_at h4
      refine kk H4 _ (s3'.trans s4) ?_
      rw [er]
      exact .tup (.inl (.inl a4)) (.cons (Dp.same s4 hx) (.cons (.int _) .nil))
    · refine absurd (decide_eq_true ?_) z
      by_cases h : j = l.length
      · rw [decide_eq_true h, decide_eq_true (by rw [h])]
      · rw [decide_eq_false h, decide_eq_false (fun z => h (by have := V.int.inj z; omega))]
end
end Mk12
namespace Mk12
open PySem PySem.Spec PyProof.Rows L2 My

open SX
theorem seqL_keepI {K : PySem.W.Frag} {H H' : Hp} {r a C dx : Addr} {fs : List (Str × L2.V)} {xs : List L2.V} (k : Keep (· = r) H H') (hr : H r = some (.ins C dx fs)) (h : SqL K H a xs) : SqL K H' a xs := by
  rcases h with (h | ⟨p, h⟩) | h
  · exact .inl (.inl (k _ _ h fun z => by rw [z, hr] at h; cases h))
  · exact .inl (.inr ⟨p, k _ _ h fun z => by rw [z, hr] at h; cases h⟩)
  · exact .inr h
mutual
theorem Dp.keepI {K : PySem.W.Frag} {H H' : Hp} {r C dx : Addr} {fs : List (Str × L2.V)} (k : Keep (· = r) H H') (hr : H r = some (.ins C dx fs)) : ∀ {d : PyData} {v : L2.V}, Dp K H v d → Dp K H' v d
  | _, _, .non => .non
  | _, _, .bl b => .bl b
  | _, _, .int i => .int i
  | _, _, .str x => .str x
  | _, _, .lst s t => .lst (seqL_keepI k hr s) (DpAll.keepI k hr t)
  | _, _, .tup s t => .tup (seqT_keep k hr (by intro _ z; cases z) (by intro _ _ z; cases z) s) (DpAll.keepI k hr t)
theorem DpAll.keepI {K : PySem.W.Frag} {H H' : Hp} {r C dx : Addr} {fs : List (Str × L2.V)} (k : Keep (· = r) H H') (hr : H r = some (.ins C dx fs)) : ∀ {ds : List PyData} {vs : List L2.V}, DpAll K H vs ds → DpAll K H' vs ds
  | _, _, .nil => .nil
  | _, _, .cons a t => .cons (Dp.keepI k hr a) (DpAll.keepI k hr t)
end
theorem deep_map {α : Type} {enc : α → PyData} {n : Nat} (h : ∀ a, deep (enc a) ≤ n) : ∀ as : List α, deepAll (as.map enc) ≤ n
  | [] => Nat.zero_le _
  | a :: as => by
    show max (deep (enc a)) (deepAll (as.map enc)) ≤ n
    have := h a
    have := deep_map h as
    omega
theorem deep_M (m : Nat × Nat) : deep (encM m) ≤ 1 := by show max 0 (max 0 0) + 1 ≤ 1; omega
theorem deep_O (be : Option (Nat × Nat)) : deep (encO be) ≤ 1 := by
  cases be with
  | none => show 0 ≤ 1; omega
  | some m => exact deep_M m
theorem deep_D (d : Deed) : deep (encD d) ≤ 3 := by
  cases d with
  | back n => show max 0 (max 0 0) + 1 ≤ 3; omega
  | change mo rm be nu te =>
    show max 0 (max 0 (max (deepAll (rm.map encM) + 1) (max (deep (encO be)) (max 0 (max 0 0))))) + 1 ≤ 3
    have h1 := deep_map (n := 1) deep_M rm
    have h2 := deep_O be
    omega
theorem deep_T (t : Nat × Nat × Deed) : deep (encT t) ≤ 4 := by
  show max 0 (max 0 (max (deep (encD t.2.2)) 0)) + 1 ≤ 4
  have := deep_D t.2.2
  omega
theorem deep_Ts (ts : List (Nat × Nat × Deed)) : deep (encTs ts) ≤ 5 := by
  show deepAll (ts.map encT) + 1 ≤ 5
  have := deep_map (n := 4) deep_T ts
  omega
/-- the five things, and how they are written -/
structure Five where
  n : Nat
  cs : List Nat
  d : Deed
  ts : List (Nat × Nat × Deed)
def Five.ok (f : Five) : Prop := f.n < big ∧ okText f.cs ∧ okDeed f.d ∧ okTriples f.ts
def Five.parts (f : Five) : List (List Nat) := [num f.n, wText f.cs, wDeed f.d, wTriples f.ts, 1 :: wTriples f.ts]
def Five.things (f : Five) : List PyData := [encN f.n, encS f.cs, encD f.d, encTs f.ts, encTs f.ts]
theorem Five.deep (f : Five) : My.deep (.list f.things) ≤ 6 := by
  show max 0 (max 0 (max (My.deep (encD f.d)) (max (My.deep (encTs f.ts)) (max (My.deep (encTs f.ts)) 0)))) + 1 ≤ 6
  have h1 := deep_D f.d
  have h2 := deep_Ts f.ts
  omega
theorem Five.len {f : Five} (h : f.ok) : f.parts.flatten.length ≤ 10000 := by
  obtain ⟨h1, h2, h3, h4⟩ := h
  have a1 := num10 h1
  have a2 := text_le h2
  have a3 := deed_le h3
  have a4 := triples_le h4
  show (num f.n ++ (wText f.cs ++ (wDeed f.d ++ (wTriples f.ts ++ ((1 :: wTriples f.ts) ++ []))))).length ≤ _
  simp only [List.length_append, List.length_cons, List.length_nil]
  omega
section
variable {P : Program} {w : World} {K : PySem.W.Frag} {mg : Str → Option Value} {base : Heap}
def spRow (K : PySem.W.Frag) : Sp := fun vs H Q _ => ∃ (x : L2.V) (wr : Addr) (f : Five), vs = [x, .ref wr] ∧ Dp K H x (.list f.things) ∧ LL H wr f.parts ∧ f.ok ∧ ∀ H' : Hp, Same H H' → Q (.bl true) H'
theorem k__law_in_a_row (T : TopF K mg) (D : Defs K mg) (c_Reader : KMak P w K mg base CX0 1 "Reader" (He.ga K "Reader") ["self", "data"] (spRInit (He.ga K "Reader")))
    (c_Reader_read_number : KMet P w K mg base (L2.CX P w) 2 (He.ga K "Reader") "read_number" ["self"] (spP (He.ga K "Reader") (He.ga K "DamagedPacket") pNum vInt))
    (c_Reader_read_string : KMet P w K mg base (L2.CX P w) 4 (He.ga K "Reader") "read_string" ["self"] (spP (He.ga K "Reader") (He.ga K "DamagedPacket") (pList pChar) vStr))
    (c_Reader_read_deed : KMet P w K mg base (L2.CX P w) 5 (He.ga K "Reader") "read_deed" ["self"] (spP (He.ga K "Reader") (He.ga K "DamagedPacket") pDeed (vD K encD)))
    (c_Reader_read_triples : KMet P w K mg base (L2.CX P w) 7 (He.ga K "Reader") "read_triples" ["self"] (spP (He.ga K "Reader") (He.ga K "DamagedPacket") pTriples (vD K encTs)))
    (c_Reader_read_packet : KMet P w K mg base (L2.CX P w) 8 (He.ga K "Reader") "read_packet" ["self"] (spP (He.ga K "Reader") (He.ga K "DamagedPacket") pPacket (vD K encTs)))
    (c_Reader_end : KMet P w K mg base (L2.CX P w) 1 (He.ga K "Reader") "end" ["self"] (spEnd (He.ga K "Reader") (He.ga K "DamagedPacket")))
    (c__law_same : Kal P w K mg base CX0 7 "_law_same" ["actual", "expected"] (spSame K 6)) : Kal P w K mg base CX0 9 "_law_in_a_row" ["things", "written"] (spRow K) := by
  refine kal_mk D.d__law_in_a_row sc__law_in_a_row bi__law_in_a_row (fun vs H Q E h => ?_) (fun f cdv A outer s H vs Q E hr h => ?_)
  · obtain ⟨_, _, _, rfl, _⟩ := h; rfl
  · obtain ⟨xt, wr, F, rfl, hth, ⟨ps, hwr, hls, nwr⟩, ok, kk⟩ := h
    have nd := sc__law_in_a_row.nd
    have cl := D.d_Reader_read_byte.cl
    have hfl := F.len ok
    have el := hls.len
    refine ⟨_, (pss_cons (ps_set (i := 2) nd rfl (by first | exact Or.inl rfl | exact Or.inr rfl) (pe_lst pa_nil))
 (pss_cons (ps_for PassesOwn.never rfl (pi_list (pv 1)) (pg_name (i := 3) nd rfl (by first | exact Or.inl rfl | exact Or.inr rfl))
 (pss_one (ps_set (i := 2) nd rfl (by first | exact Or.inl rfl | exact Or.inr rfl) (pe_op op_cat (pv 2) (pv 3)))))
 (pss_cons (ps_set (i := 4) nd rfl (by first | exact Or.inl rfl | exact Or.inr rfl) (pe_kmk c_Reader hr (by first | decide | exact Nat.le_refl _ | omega) (pa_cons (pv 2) pa_nil)))
 (pss_cons (ps_expr (pe_bm PySem.F.plainAttrs_list PySem.F.slot_list_append PySem.F.type_list_append mt_append (pv 2) (pa_cons pe_int pa_nil)))
 (pss_cons (ps_if (pt_cmpR op_ne (pe_fld (pv 4) rfl) pe_int (nomark _))
 (pss_one (ps_ret pe_bl)) pss_nil)
 (pss_cons (ps_set (i := 5) nd rfl (by first | exact Or.inl rfl | exact Or.inr rfl) (pe_lst (pa_cons (pe_kmetX0 c_Reader_read_number hr (by first | decide | exact Nat.le_refl _ | omega) takes0 (pv 4)) (pa_cons (pe_kmetX0 c_Reader_read_string hr (by first | decide | exact Nat.le_refl _ | omega) takes0 (pv 4)) (pa_cons (pe_kmetX0 c_Reader_read_deed hr (by first | decide | exact Nat.le_refl _ | omega) takes0 (pv 4)) (pa_cons (pe_kmetX0 c_Reader_read_triples hr (by first | decide | exact Nat.le_refl _ | omega) takes0 (pv 4)) (pa_cons (pe_kmetX0 c_Reader_read_packet hr (by first | decide | exact Nat.le_refl _ | omega) takes0 (pv 4)) pa_nil)))))))
 (pss_cons (ps_expr (pe_kmetX0 c_Reader_end hr (by first | decide | exact Nat.le_refl _ | omega) takes0 (pv 4)))
 (pss_one (ps_ret (pe_kal c__law_same hr (by first | decide | exact Nat.le_refl _ | omega) (pa_cons (pv 5) (pa_cons (pv 0) pa_nil)))))))))))), ?_⟩
    refine ⟨by show 0 ≤ sizeLine; decide, fun p np => ?_⟩
    generalize h1 : upd _ p _ = H1
    have s1 := same_of h1 np
    have a1 : BL H1 p [] := upd_at h1
    refine ⟨_, rfl, wr, rfl, ⟨_, SqL.of (s1 _ _ hwr)⟩, for_list (K := K) (a := wr) (xs := ps.map V.ref) (fun i σ H' => Hold (∃ (z : Addr) (v3 : Option V), σ = [some xt, some (.ref wr), some (.ref z), v3, none, none] ∧ Same H H' ∧ H z = none ∧ BL H' z ((F.parts.take i).flatten))) ?_ ?_ ?_ ?_⟩
    · exact .mk ⟨p, none, rfl, s1, np, a1⟩
    · intro i σ H' _ V
      obtain ⟨_, _, rfl, k, _⟩ := V.out
      exact SqL.of (k _ _ hwr)
    · intro i x σ H2 hx V
      obtain ⟨z, v3, rfl, s2, nz, hz⟩ := V.out
      obtain ⟨q, hq, rfl⟩ := map_get hx
      obtain ⟨l, hl, hb⟩ := hls.get hq
      have hle := take_flat_le F.parts (i + 1)
      rw [take_succ_flat hl, List.length_append] at hle
      refine ⟨_, rfl, _, rfl, z, q, _, _, rfl, rfl, hz, s2 _ _ hb, by rw [nums_len, nums_len, line24]; omega, fun u nu => ?_⟩
      generalize h3 : upd _ u _ = H3
      have s3 := same_of h3 nu
      have a3 := upd_at h3
      exact .mk ⟨u, _, rfl, s2.trans s3, s2.free nu, by show H3 u = _; rw [a3, take_succ_flat hl]; simp⟩
    intro σ H2 V
    obtain ⟨z, v3, rfl, s2, nz, hz⟩ := V.out
    clear V
    rw [List.length_map, el, List.take_length] at hz
    generalize hL : F.parts.flatten = l at hz hfl
    have eL : num F.n ++ (wText F.cs ++ (wDeed F.d ++ (wTriples F.ts ++ ((1 :: wTriples F.ts) ++ [])))) = l := hL
    -- reader = Reader(data)
    refine ⟨_, rfl, fun r dx nr ndx ne => ⟨r, z, dx, l, rfl, upd_same, ?_, by omega, fun H3 q k3 nq R => ⟨rfl, ?_⟩⟩⟩
    · rw [upd_ne (ne_of_none hz nr), upd_ne (ne_of_none hz ndx)]; exact hz
    have s23 : Same H2 H3 := fun b o e => by
      refine k3 _ _ ?_ (ne_of_none e nr)
      rw [upd_ne (ne_of_none e nr), upd_ne (ne_of_none e ndx)]; exact e
    have hz3 : BL H3 z l := s23 _ _ hz
    have nqz : q ≠ z := fun w => by
      rw [w, upd_ne (ne_of_none hz nr), upd_ne (ne_of_none hz ndx), hz] at nq; cases nq
    have nrz : r ≠ z := fun w => by rw [w, hz] at nr; cases nr
    -- data.append(7)
    refine ⟨_, rfl, .inl ⟨rfl, _, SqL.of hz3⟩, z, _, _, rfl, rfl, hz3, by rw [nums_len, line24]; omega, ?_⟩
    generalize h4 : upd _ z _ = H4
    have k4 : Keep (· = z) H3 H4 := keep_of h4 rfl
    have S4 : Same H H4 := fun b o e => k4 _ _ (s23 _ _ (s2 _ _ e)) (ne_of_none e nz)
    have R4 : RdAt (He.ga K "Reader") H4 r q l 0 := by
      obtain ⟨g1, ⟨dx, g2⟩, g3⟩ := R
      exact ⟨k4 _ _ g1 nqz, ⟨dx, k4 _ _ g2 nrz⟩, g3⟩
    have nrH : H r = none := s2.free nr
    obtain ⟨_, ⟨dx4, hr4⟩, _⟩ := id R4
    refine ⟨_, rfl, r, _, dx4, _, _, rfl, hr4, cl, T.n_Reader_at, rf_a _ _, rfl, _, rfl, ?_⟩
    refine ite2 (fun w => by simp at w) (fun _ => ?_)
    -- the five things
    obtain ⟨o1, o2, o3, o4⟩ := ok
    have e0 : l.drop 0 = num F.n ++ (wText F.cs ++ (wDeed F.d ++ (wTriples F.ts ++ ((1 :: wTriples F.ts) ++ [])))) := by rw [eL]; rfl
    have d1 := drop_next (Nat.zero_le _) e0
    have p1 := rd_num (big60 o1) l 0 _ (Nat.zero_le _) e0
    generalize hi1 : 0 + (num F.n).length = i1 at d1 p1
    have d2 := drop_next d1.1 d1.2
    have p2 := rd_text o2 l i1 _ d1.1 d1.2
    generalize hi2 : i1 + (wText F.cs).length = i2 at d2 p2
    have d3 := drop_next d2.1 d2.2
    have p3 := rd_deed o3 l i2 _ d2.1 d2.2
    generalize hi3 : i2 + (wDeed F.d).length = i3 at d3 p3
    have d4 := drop_next d3.1 d3.2
    have p4 := rd_triples o4 l i3 _ d3.1 d3.2
    generalize hi4 : i3 + (wTriples F.ts).length = i4 at d4 p4
    have d5 := drop_next d4.1 d4.2
    have p5 := rd_packet o4 l i4 _ d4.1 d4.2
    generalize hi5 : i4 + (1 :: wTriples F.ts).length = i5 at d5 p5
    have end5 : l.length ≤ i5 := List.drop_eq_nil_iff.mp d5.2
    refine ⟨_, rfl, r, dx4, _, rfl, hr4, rf_no _ _ (by decide +kernel) (by decide +kernel), ?_⟩
    refine ⟨r, q, l, 0, rfl, R4, fun v j e H5 x5 k5 R5 hx5 => ?_, fun e => by rw [p1] at e; cases e⟩
    obtain ⟨rfl, rfl⟩ : F.n = v ∧ i1 = j := by rw [p1] at e; cases e; exact ⟨rfl, rfl⟩
    obtain rfl : x5 = .int (F.n : Nat) := hx5
    obtain ⟨_, ⟨dx5, hr5⟩, _⟩ := id R5
    refine ⟨_, rfl, r, dx5, _, rfl, hr5, rf_no _ _ (by decide +kernel) (by decide +kernel), ?_⟩
    refine ⟨r, q, l, i1, rfl, R5, fun v j e2 H6 x6 k6 R6 hx6 => ?_, fun e => by rw [p2] at e; cases e⟩
    obtain ⟨rfl, rfl⟩ : F.cs = v ∧ i2 = j := by rw [p2] at e2; cases e2; exact ⟨rfl, rfl⟩
    obtain rfl : x6 = .str (S F.cs) := hx6
    obtain ⟨_, ⟨dx6, hr6⟩, _⟩ := id R6
    refine ⟨_, rfl, r, dx6, _, rfl, hr6, rf_no _ _ (by decide +kernel) (by decide +kernel), ?_⟩
    refine ⟨r, q, l, i2, rfl, R6, fun v j e3 H7 x7 k7 R7 hx7 => ?_, fun e => by rw [p3] at e; cases e⟩
    obtain ⟨rfl, rfl⟩ : F.d = v ∧ i3 = j := by rw [p3] at e3; cases e3; exact ⟨rfl, rfl⟩
    obtain ⟨_, ⟨dx7, hr7⟩, _⟩ := id R7
    refine ⟨_, rfl, r, dx7, _, rfl, hr7, rf_no _ _ (by decide +kernel) (by decide +kernel), ?_⟩
    refine ⟨r, q, l, i3, rfl, R7, fun v j e4 H8 x8 k8 R8 hx8 => ?_, fun e => by rw [p4] at e; cases e⟩
    obtain ⟨rfl, rfl⟩ : F.ts = v ∧ i4 = j := by rw [p4] at e4; cases e4; exact ⟨rfl, rfl⟩
    obtain ⟨_, ⟨dx8, hr8⟩, _⟩ := id R8
    refine ⟨_, rfl, r, dx8, _, rfl, hr8, rf_no _ _ (by decide +kernel) (by decide +kernel), ?_⟩
    refine ⟨r, q, l, i4, rfl, R8, fun v j e5 H9 x9 k9 R9 hx9 => ?_, fun e => by rw [p5] at e; cases e⟩
    obtain ⟨rfl, rfl⟩ : F.ts = v ∧ i5 = j := by rw [p5] at e5; cases e5; exact ⟨rfl, rfl⟩
    obtain ⟨_, ⟨dx9, hr9⟩, _⟩ := id R9
    refine ⟨by show 5 ≤ sizeLine; decide, fun t nt => ?_⟩
    generalize h10 : upd _ t _ = H10
    have s10 := same_of h10 nt
    have a10 := upd_at h10
    have R10 := R9.same s10
    have htold : Dp K H10 (.ref t) (.list F.things) := .lst (SqL.of a10) (.cons (.int _) (.cons (.str _) (.cons (Dp.same s10 (Dp.keepI k9 hr8 (Dp.keepI k8 hr7 hx7))) (.cons (Dp.same s10 (Dp.keepI k9 hr8 hx8)) (.cons (Dp.same s10 hx9) .nil)))))
    have k49 := ((((k5.trans k6).trans k7).trans k8).trans k9)
    have S10 : Same H H10 := fun b o eb => s10 _ _ (k49 _ _ (S4 _ _ eb) (ne_of_none eb nrH))
    refine ⟨_, rfl, r, dx9, _, rfl, s10 _ _ hr9, rf_no _ _ (by decide +kernel) (by decide +kernel), ?_⟩
    refine ⟨r, q, l, i5, rfl, R10, fun _ => ?_, fun h => absurd h (by omega)⟩
    refine ⟨_, rfl, _, rfl, _, _, _, rfl, htold, Dp.same S10 hth, F.deep, fun H11 s11 => kk H11 (S10.trans s11)⟩
end
end Mk12
namespace Mk12
open PySem PySem.Spec PyProof.Rows L2 My

open SX
abbrev bytesP (l : List Nat) : PyData := .list (l.map fun n => .int (n : Nat))
theorem nums_dp {K : PySem.W.Frag} {H : Hp} : ∀ l : List Nat, DpAll K H (nums l) (l.map fun n => PyData.int (n : Nat))
  | [] => .nil
  | n :: l => .cons (.int _) (nums_dp l)
theorem bl_dp {K : PySem.W.Frag} {H : Hp} {p : Addr} {l : List Nat} (h : BL H p l) : Dp K H (.ref p) (bytesP l) := .lst (SqL.of h) (nums_dp l)
theorem bytes_deep (l : List Nat) : deep (bytesP l) ≤ 1 := by
  have : deepAll (l.map fun n => PyData.int (n : Nat)) ≤ 0 := deep_map (n := 0) (enc := fun n : Nat => PyData.int (n : Nat)) (fun _ => Nat.zero_le _) l
  show deepAll _ + 1 ≤ 1
  omega
theorem encR_deep {α : Type} {enc : α → PyData} (h : ∀ a, deep (enc a) ≤ 5) (x : Option (α × Nat)) : deep (encR enc x) ≤ 6 := by
  cases x with
  | none => exact Nat.zero_le _
  | some v =>
    show max (deep (enc v.1)) (max 0 0) + 1 ≤ 6
    have := h v.1
    omega
theorem encK_deep (k : Nat) (l : List Nat) : deep (encK k l) ≤ 6 := by
  unfold encK
  split
  · exact encR_deep (fun _ => Nat.zero_le _) _
  split
  · exact encR_deep (fun _ => Nat.zero_le _) _
  split
  · exact encR_deep (fun d => Nat.le_trans (deep_D d) (by decide)) _
  split
  · exact encR_deep deep_Ts _
  · exact encR_deep deep_Ts _
theorem rd0 {α : Type} {p : List Nat → Nat → Option (α × Nat)} {v : α} {l : List Nat} (h : Rd p v l) : p l 0 = some (v, l.length) := by
  have := h l 0 [] (Nat.zero_le _) (by simp)
  rwa [Nat.zero_add] at this
/-- each of the five is read back -/
theorem five_back {f : Five} (ok : f.ok) {k : Nat} {l : List Nat} (h : f.parts[k]? = some l) : ∃ t, f.things[k]? = some t ∧ encK k l = .tuple [t, .int (l.length : Nat)] ∧ deep t ≤ 5 ∧ l.length ≤ 10000 := by
  have hl := Five.len ok
  obtain ⟨h1, h2, h3, h4⟩ := ok
  have a1 := num10 h1
  have a2 := text_le h2
  have a3 := deed_le h3
  have a4 := triples_le h4
  match k, h with
  | 0, h =>
    obtain rfl : num f.n = l := Option.some.inj h
    exact ⟨_, rfl, by unfold encK; rw [if_pos rfl, rd0 (rd_num (big60 h1))]; rfl, Nat.zero_le _, by omega⟩
  | 1, h =>
    obtain rfl : wText f.cs = l := Option.some.inj h
    exact ⟨_, rfl, by unfold encK; rw [if_neg (by decide), if_pos rfl, rd0 (rd_text h2)]; rfl, Nat.zero_le _, by omega⟩
  | 2, h =>
    obtain rfl : wDeed f.d = l := Option.some.inj h
    exact ⟨_, rfl, by unfold encK; rw [if_neg (by decide), if_neg (by decide), if_pos rfl, rd0 (rd_deed h3)]; rfl, Nat.le_trans (deep_D _) (by decide), by omega⟩
  | 3, h =>
    obtain rfl : wTriples f.ts = l := Option.some.inj h
    exact ⟨_, rfl, by unfold encK; rw [if_neg (by decide), if_neg (by decide), if_neg (by decide), if_pos rfl, rd0 (rd_triples h4)]; rfl, deep_Ts _, by omega⟩
  | 4, h =>
    obtain rfl : 1 :: wTriples f.ts = l := Option.some.inj h
    exact ⟨_, rfl, by unfold encK; rw [if_neg (by decide), if_neg (by decide), if_neg (by decide), if_neg (by decide), rd0 (rd_packet h4)]; rfl, deep_Ts _, by rw [List.length_cons]; omega⟩
  | k + 5, h => cases h
/-- what the law holds while it spoils -/
structure G (K : PySem.W.Frag) (s sl w th D : Addr) (x : L2.V) (ps : List Addr) (f : Five) (H : Hp) : Prop where
  st : StAt H s sl
  hw : H w = some (.lst (ps.map V.ref))
  hp : Ls H ps f.parts
  ht : H th = some (.lst [.int (f.n : Nat), .str (S f.cs), x, .ref D, .ref D])
  hx : Dp K H x (encD f.d)
  hD : LD K H D (f.ts.map encT)
  nw : w ≠ s
  nt : th ≠ s
  nD : D ≠ s
theorem fmT (ts : List (Nat × Nat × Deed)) : flatA (ts.map encT) = true := flatA_map flat_T ts
theorem LD.same {K : PySem.W.Frag} {H H' : Hp} {D : Addr} {ds : List PyData} (h : LD K H D ds) (e : Same H H') : LD K H' D ds := by
  obtain ⟨vs, h1, h2⟩ := h
  exact ⟨vs, e _ _ h1, DpAll.same e h2⟩
theorem LD.dp {K : PySem.W.Frag} {H : Hp} {D : Addr} {ds : List PyData} (h : LD K H D ds) : Dp K H (.ref D) (.list ds) := by
  obtain ⟨vs, h1, h2⟩ := h
  exact .lst (SqL.of h1) h2
theorem G.same {K : PySem.W.Frag} {s sl w th D : Addr} {x : L2.V} {ps : List Addr} {f : Five} {H H' : Hp} (g : G K s sl w th D x ps f H) (e : Same H H') : G K s sl w th D x ps f H' :=
  ⟨g.st.same e, e _ _ g.hw, g.hp.keep fun _ _ _ h => e _ _ h, e _ _ g.ht, Dp.same e g.hx, g.hD.same e, g.nw, g.nt, g.nD⟩
theorem G.keep {K : PySem.W.Frag} {s sl w th D : Addr} {x : L2.V} {ps : List Addr} {f : Five} {H H' : Hp} (g : G K s sl w th D x ps f H) (k : Keep (· = s) H H') (st : StAt H' s sl) : G K s sl w th D x ps f H' :=
  ⟨st, k _ _ g.hw g.nw, g.hp.keep fun _ _ _ h => k _ _ h (g.st.neB h), k _ _ g.ht g.nt, Dp.keepS g.hx k g.st (flat_D _), LD.keepS g.hD (fmT _) k g.st g.nD, g.nw, g.nt, g.nD⟩
/-- the value at a place of the things -/
theorem G.thing {K : PySem.W.Frag} {s sl w th D : Addr} {x : L2.V} {ps : List Addr} {f : Five} {H : Hp} (g : G K s sl w th D x ps f H) : DpAll K H [.int (f.n : Nat), .str (S f.cs), x, .ref D, .ref D] f.things :=
  .cons (.int _) (.cons (.str _) (.cons g.hx (.cons g.hD.dp (.cons g.hD.dp .nil))))
section
variable {P : Program} {w : World} {K : PySem.W.Frag} {mg : Str → Option Value}
theorem law_fn (T : TopF K mg) (D : Defs K mg) {fa : Addr} (hmg : mg "law" = some (.ref fa)) : ∃ fd : FuncData, (∀ (s : Shared) (v : Value), BindsTo s fd ⟨[v], []⟩ [("script", v)]) ∧ ∀ base : Heap, K.In base → base.Ns mainGlobals mg → FnOk P w K mg base CX0 12 fa fd ["script"] (spLaw K) := by
  refine law_of D hmg sc_law (fun vs H Q E h => ?_) (fun base f cdv A outer s₀ H vs Q E hr h => ?_)
  · obtain ⟨_, _, rfl, _⟩ := h; rfl
  · obtain ⟨a, ns, rfl, hS, hlen, kk⟩ := h
    have nd := sc_law.nd
    have c__law_next := k__law_next (P := P) (w := w) (base := base) T D
    have c__law_same := k__law_same (P := P) (w := w) (base := base) T D 6
    have c_write_number := k_write_number (P := P) (w := w) (base := base) T D
    have c__law_number := k__law_number (P := P) (w := w) (base := base) T D
    have c_write_list := k_write_list T D c_write_number
    have c_write_string := k_write_string T D c_write_number c_write_list
    have c_write_mark := k_write_mark T D c_write_number
    have c_write_deed := k_write_deed T D c_write_number c_write_list c_write_string c_write_mark
    have c_write_triples := k_write_triples T D c_write_number c_write_list c_write_deed
    have c_write_packet := k_write_packet T D c_write_triples
    have c__law_text := k__law_text T D c__law_number
    have c__law_mark := k__law_mark T D c__law_number
    have c__law_deed := k__law_deed T D c__law_number c__law_text c__law_mark
    have c__law_triples := k__law_triples T D c__law_number c__law_deed
    have c_Reader := k_rinit (P := P) (w := w) (base := base) T D
    have c_Reader_read_byte := k_read_byte (P := P) (w := w) (base := base) T D
    have c_Reader_read_number := k_num (k_read_number T D c_Reader_read_byte)
    have c_Reader_read_count := k_read_count T D (k_read_number T D c_Reader_read_byte)
    have c_Reader_read_mark := k_read_mark T D c_Reader_read_number
    have c_Reader_read_choice := k_read_choice T D c_Reader_read_byte
    have c_Reader_read_character := k_read_character T D c_Reader_read_number
    have c_Reader_read_string := k_read_string T D c_Reader_read_count c_Reader_read_character
    have c_Reader_read_deed := k_read_deed T D c_Reader_read_choice c_Reader_read_number c_Reader_read_count c_Reader_read_mark c_Reader_read_string
    have c_Reader_read_triple := k_read_triple T D c_Reader_read_number c_Reader_read_deed
    have c_Reader_read_triples := k_read_triples T D c_Reader_read_count c_Reader_read_triple
    have c_Reader_read_packet := k_read_packet T D c_Reader_read_byte c_Reader_read_triples
    have c_Reader_end := k_end (P := P) (w := w) (base := base) T D
    have c__law_read_number := k__law_read_number (P := P) (w := w) (base := base) T D
    have c__law_read_text := k__law_read_text T D c__law_read_number (k__law_sign (P := P) (w := w) (base := base) T D)
    have c__law_read_mark := k__law_read_mark T D c__law_read_number
    have c__law_read_deed := k__law_read_deed T D c__law_read_number c__law_read_text c__law_read_mark
    have c__law_read_triples := k__law_read_triples T D c__law_read_number c__law_read_mark c__law_read_deed
    have c__law_read_packet := k__law_read_packet T D c__law_read_triples
    have c__law_own := k__law_own T D c__law_read_number c__law_read_text c__law_read_deed c__law_read_triples c__law_read_packet
    have c__law_drawn_number := k__law_drawn_number T D c__law_next
    have c__law_drawn_text := k__law_drawn_text T D c__law_next
    have c__law_drawn_deed := k__law_drawn_deed T D c__law_next c__law_drawn_number c__law_drawn_text
    have c__law_spoilt := k__law_spoilt T D c__law_next
    have c__law_told := k__law_told T D c_Reader c_Reader_read_number c_Reader_read_string c_Reader_read_deed c_Reader_read_triples c_Reader_read_packet c_Reader_end
    have c__law_in_a_row := k__law_in_a_row T D c_Reader c_Reader_read_number c_Reader_read_string c_Reader_read_deed c_Reader_read_triples c_Reader_read_packet c_Reader_end c__law_same
    refine ⟨_, (pss_cons (ps_set (i := 1) nd rfl (by first | exact Or.inl rfl | exact Or.inr rfl) (pe_lst (pa_cons (pe_callTy call_list_of (by rfl) T.list (by decide +kernel) (pa_cons (pv 0) pa_nil)) (pa_cons pe_int (pa_cons pe_int (pa_cons pe_int pa_nil))))))
 (pss_cons (ps_for PassesOwn.never rfl (pi_range1 (by rfl) T.range (pa_cons pe_int pa_nil)) (pg_name (i := 2) nd rfl (by first | exact Or.inl rfl | exact Or.inr rfl))
 (pss_cons (ps_set (i := 3) nd rfl (by first | exact Or.inl rfl | exact Or.inr rfl) (pe_kal c__law_drawn_number hr (by first | decide | exact Nat.le_refl _ | omega) (pa_cons (pv 1) pa_nil)))
 (pss_cons (ps_set (i := 4) nd rfl (by first | exact Or.inl rfl | exact Or.inr rfl) (pe_kal c__law_drawn_text hr (by first | decide | exact Nat.le_refl _ | omega) (pa_cons (pv 1) pa_nil)))
 (pss_cons (ps_set (i := 5) nd rfl (by first | exact Or.inl rfl | exact Or.inr rfl) (pe_kal c__law_drawn_deed hr (by first | decide | exact Nat.le_refl _ | omega) (pa_cons (pv 1) pa_nil)))
 (pss_cons (ps_setLc (g := gName 12) (i := 6) (own := [("j", 12)]) rfl nd rfl rfl (sw_true rfl rfl rfl (by decide +kernel)) (pi_range1 (by rfl) T.range (pa_cons (pe_kal c__law_next hr (by first | decide | exact Nat.le_refl _ | omega) (pa_cons (pv 1) (pa_cons pe_int pa_nil))) pa_nil)) (blkOk_by (own := [("j", 12)]) (N := ["script", "state", "k", "number", "text", "deed", "triples", "written", "own", "things", "long", "kind", "j", "data"]) (sc := defScope s_law) (by decide +kernel)) (fun _ _ _ _ _ => (pg_name (i := 12) nd rfl (by first | exact Or.inl rfl | exact Or.inr rfl))) (fun _ _ _ _ _ => pts_nil) (fun _ _ _ _ _ => (pe_tup (pa_cons (pe_kal c__law_next hr (by first | decide | exact Nat.le_refl _ | omega) (pa_cons (pv 1) (pa_cons pe_int pa_nil))) (pa_cons (pe_kal c__law_drawn_number hr (by first | decide | exact Nat.le_refl _ | omega) (pa_cons (pv 1) pa_nil)) (pa_cons (pe_kal c__law_drawn_deed hr (by first | decide | exact Nat.le_refl _ | omega) (pa_cons (pv 1) pa_nil)) pa_nil))))))
 (pss_cons (ps_set (i := 7) nd rfl (by first | exact Or.inl rfl | exact Or.inr rfl) (pe_lst (pa_cons (pe_kal c_write_number hr (by first | decide | exact Nat.le_refl _ | omega) (pa_cons (pv 3) pa_nil)) (pa_cons (pe_kal c_write_string hr (by first | decide | exact Nat.le_refl _ | omega) (pa_cons (pv 4) pa_nil)) (pa_cons (pe_kal c_write_deed hr (by first | decide | exact Nat.le_refl _ | omega) (pa_cons (pv 5) pa_nil)) (pa_cons (pe_kal c_write_triples hr (by first | decide | exact Nat.le_refl _ | omega) (pa_cons (pe_callTy call_list_of (by rfl) T.list (by decide +kernel) (pa_cons (pv 6) pa_nil)) pa_nil)) (pa_cons (pe_kal c_write_packet hr (by first | decide | exact Nat.le_refl _ | omega) (pa_cons (pe_callTy call_list_of (by rfl) T.list (by decide +kernel) (pa_cons (pv 6) pa_nil)) pa_nil)) pa_nil)))))))
 (pss_cons (ps_set (i := 8) nd rfl (by first | exact Or.inl rfl | exact Or.inr rfl) (pe_kal c__law_triples hr (by first | decide | exact Nat.le_refl _ | omega) (pa_cons (pv 6) pa_nil)))
 (pss_cons (ps_if (pt_not (pt_val (pe_kal c__law_same hr (by first | decide | exact Nat.le_refl _ | omega) (pa_cons (pv 7) (pa_cons (pe_lst (pa_cons (pe_kal c__law_number hr (by first | decide | exact Nat.le_refl _ | omega) (pa_cons (pv 3) pa_nil)) (pa_cons (pe_kal c__law_text hr (by first | decide | exact Nat.le_refl _ | omega) (pa_cons (pv 4) pa_nil)) (pa_cons (pe_kal c__law_deed hr (by first | decide | exact Nat.le_refl _ | omega) (pa_cons (pv 5) pa_nil)) (pa_cons (pv 8) (pa_cons (pe_op op_cat (pe_lst (pa_cons pe_int pa_nil)) (pv 8)) pa_nil)))))) pa_nil)))))
 (pss_one (ps_ret pe_bl)) pss_nil)
 (pss_cons (ps_set (i := 9) nd rfl (by first | exact Or.inl rfl | exact Or.inr rfl) (pe_lst (pa_cons (pv 3) (pa_cons (pv 4) (pa_cons (pv 5) (pa_cons (pv 6) (pa_cons (pv 6) pa_nil)))))))
 (pss_cons (ps_if (pt_not (pt_val (pe_kal c__law_in_a_row hr (by first | decide | exact Nat.le_refl _ | omega) (pa_cons (pv 9) (pa_cons (pv 7) pa_nil)))))
 (pss_one (ps_ret pe_bl)) pss_nil)
 (pss_cons (ps_set (i := 10) nd rfl (by first | exact Or.inl rfl | exact Or.inr rfl) (pe_op op_cat (pe_lc (g := gName 12) (own := [("j", 12)]) rfl nd (pi_range1 (by rfl) T.range (pa_cons (pe_kal c__law_next hr (by first | decide | exact Nat.le_refl _ | omega) (pa_cons (pv 1) (pa_cons pe_int pa_nil))) pa_nil)) (blkOk_by (own := [("j", 12)]) (N := ["script", "state", "k", "number", "text", "deed", "triples", "written", "own", "things", "long", "kind", "j", "data"]) (sc := defScope s_law) (by decide +kernel)) (fun _ _ _ _ _ => (pg_name (i := 12) nd rfl (by first | exact Or.inl rfl | exact Or.inr rfl))) (fun _ _ _ _ _ => pts_nil) (fun _ _ _ _ _ => (pe_op op_add pe_int (pe_kal c__law_next hr (by first | decide | exact Nat.le_refl _ | omega) (pa_cons (pv 1) (pa_cons pe_int pa_nil)))))) (pe_lst (pa_cons (pe_kal c__law_next hr (by first | decide | exact Nat.le_refl _ | omega) (pa_cons (pv 1) (pa_cons pe_int pa_nil))) pa_nil))))
 (pss_cons (ps_if (pt_not (pt_val (pe_kal c__law_same hr (by first | decide | exact Nat.le_refl _ | omega) (pa_cons (pe_kal c__law_told hr (by first | decide | exact Nat.le_refl _ | omega) (pa_cons pe_int (pa_cons (pv 10) pa_nil))) (pa_cons (pe_kal c__law_own hr (by first | decide | exact Nat.le_refl _ | omega) (pa_cons pe_int (pa_cons (pv 10) pa_nil))) pa_nil)))))
 (pss_one (ps_ret pe_bl)) pss_nil)
 (pss_one (ps_for PassesOwn.never rfl (pi_range1 (by rfl) T.range (pa_cons pe_int pa_nil)) (pg_name (i := 11) nd rfl (by first | exact Or.inl rfl | exact Or.inr rfl))
 (pss_cons (ps_if (pt_not (pt_val (pe_kal c__law_same hr (by first | decide | exact Nat.le_refl _ | omega) (pa_cons (pe_kal c__law_told hr (by first | decide | exact Nat.le_refl _ | omega) (pa_cons (pv 11) (pa_cons (pe_ix ix_list (pv 7) (pv 11) (fun _ _ => rfl)) pa_nil))) (pa_cons (pe_tup (pa_cons (pe_ix ix_list (pv 9) (pv 11) (fun _ _ => rfl)) (pa_cons (pe_callB call_lenB (by rfl) T.len (by decide +kernel) (pa_cons (pe_ix ix_list (pv 7) (pv 11) (fun _ _ => rfl)) pa_nil)) pa_nil))) pa_nil)))))
 (pss_one (ps_ret pe_bl)) pss_nil)
 (pss_one (ps_for PassesOwn.never rfl (pi_range1 (by rfl) T.range (pa_cons pe_int pa_nil)) (pg_name (i := 12) nd rfl (by first | exact Or.inl rfl | exact Or.inr rfl))
 (pss_cons (ps_set (i := 13) nd rfl (by first | exact Or.inl rfl | exact Or.inr rfl) (pe_kal c__law_spoilt hr (by first | decide | exact Nat.le_refl _ | omega) (pa_cons (pv 1) (pa_cons (pe_callTy call_list_of (by rfl) T.list (by decide +kernel) (pa_cons (pe_ix ix_list (pv 7) (pv 11) (fun _ _ => rfl)) pa_nil)) pa_nil))))
 (pss_one (ps_if (pt_not (pt_val (pe_kal c__law_same hr (by first | decide | exact Nat.le_refl _ | omega) (pa_cons (pe_kal c__law_told hr (by first | decide | exact Nat.le_refl _ | omega) (pa_cons (pv 11) (pa_cons (pv 13) pa_nil))) (pa_cons (pe_kal c__law_own hr (by first | decide | exact Nat.le_refl _ | omega) (pa_cons (pv 11) (pa_cons (pv 13) pa_nil))) pa_nil)))))
 (pss_one (ps_ret pe_bl)) pss_nil))))))))))))))))))))
 (pss_one (ps_ret pe_bl)))), ?_⟩
    -- the state
    refine ⟨_, rfl, a, _, rfl, .inl hS, fun sl nsl => ?_⟩
    generalize e1 : upd _ sl _ = H1
    have s1 := same_of e1 nsl
    have a1 := upd_at e1
    refine ⟨by show 4 ≤ sizeLine; decide, fun s ns' => ?_⟩
    generalize e2 : upd _ s _ = H2
    have s2 := same_of e2 ns'
    have a2 := upd_at e2
    have h2 : StAt H2 s sl := ⟨ns, 0, 0, 1, a2, s2 _ _ a1, by decide, by decide, by decide⟩
    refine ⟨4, rfl, by decide, by decide, for_range0 (n := 4) (fun i σ H' => Hold (∃ v2 v3 v4 v5 v6 v7 v8 v9 v10 v11 v12 v13 : Option V, σ = [some (.ref a), some (.ref s), v2, v3, v4, v5, v6, v7, v8, v9, v10, v11, v12, v13] ∧ StAt H' s sl)) ?_ ?_ ?_⟩
    · exact .mk ⟨_, _, _, _, _, _, _, _, _, _, _, _, rfl, h2⟩
    · intro i σ H3 hi V
      obtain ⟨v2, v3, v4, v5, v6, v7, v8, v9, v10, v11, v12, v13, rfl, h3⟩ := V.out
      clear V
      -- number, text, deed
      refine ⟨_, rfl, s, sl, rfl, h3, fun H4 n k4 h4 on => ?_⟩
      refine ⟨_, rfl, s, sl, rfl, h4, fun H5 cs k5 h5 ot => ?_⟩
      refine ⟨_, rfl, s, sl, rfl, h5, fun H6 x d k6 h6 od hx => ?_⟩
      -- triples
      refine ⟨_, rfl, s, sl, 7, rfl, h6, by decide, by decide +kernel, fun H7 m k7 h7 hm => ?_⟩
      have hx7 := Dp.keepS hx k7 h6 (flat_D d)
      refine ⟨_, rfl, by omega, by omega, fun D' nD => ?_⟩
      have nDs := h7.ne nD
      have nDl := h7.nel nD
      refine lc_range0 (n := m) (fun j H8 => Hold (Keep (fun b => b = s ∨ b = D') H7 H8 ∧ StAt H8 s sl ∧ ∃ ts : List (Nat × Nat × Deed), LD K H8 D' (ts.map encT) ∧ ts.length = j ∧ ∀ t ∈ ts, okTriple t)) ?_ ?_ ?_
      · exact .mk ⟨Keep.new nD, h7.same (same_new nD), [], LD.nil upd_same, rfl, by simp⟩
      · intro j H8 hj V
        obtain ⟨k8, h8, ts, hD, hl, hc⟩ := V.out
        clear V
        refine ⟨rfl, ?_⟩
        refine ⟨_, rfl, s, sl, 9, rfl, h8, by decide, by decide +kernel, fun H9 a9 k9 h9 ha9 => ?_⟩
        refine ⟨_, rfl, s, sl, rfl, h9, fun H10 b10 k10 h10 hb10 => ?_⟩
        refine ⟨_, rfl, s, sl, rfl, h10, fun H11 y dd k11 h11 odd hy => ?_⟩
        refine ⟨by show 3 ≤ sizeLine; decide, fun t nt => ?_⟩
        generalize e12 : upd _ t _ = H12
        have s12 := same_of e12 nt
        have a12 := upd_at e12
        have hD12 := (LD.keepS hD (fmT ts) ((k9.trans k10).trans k11) h8 nDs).same s12
        obtain ⟨vs, g1, g2, g3⟩ := hD12.push (fmT ts) (d := encT (a9, b10, dd)) (.tup (.inl (.inl a12)) (.cons (.int _) (.cons (.int _) (.cons (Dp.same s12 hy) .nil)))) (flat_T _)
        refine ⟨vs, g1, by rw [g2, List.length_map, hl, line24]; omega, .mk ⟨k8.trans ((((k9.trans k10).trans k11).trans (Keep.of s12)).mono (fun b z => .inl (.inl z)) |>.trans (Keep.put (.inr rfl))), (h11.same s12).upd nDs nDl, ts ++ [(a9, b10, dd)], by rw [List.map_append]; exact g3, by simp [hl], fun t ht => ?_⟩⟩
        rcases List.mem_append.mp ht with ht | ht
        · exact hc t ht
        · rw [List.mem_singleton.mp ht]; exact ⟨by show a9 < 9; omega, hb10, odd⟩
      intro H8 V
      obtain ⟨k8, h8, ts, hD, hl, hc⟩ := V.out
      clear V
      have k78 : Keep (· = s) H7 H8 := k8.mono fun b z => z.imp id fun z => by rw [z]; exact nD
      have hx8 := Dp.keepS hx7 k78 h7 (flat_D d)
      have ots : okTriples ts := ⟨by omega, hc⟩
      -- written
      refine ⟨_, rfl, n, rfl, on, fun H9 p1 s9 n1 b1 => ?_⟩
      refine ⟨_, rfl, _, cs, rfl, rfl, ot, fun H10 p2 s10 n2 b2 => ?_⟩
      refine ⟨_, rfl, x, d, rfl, Dp.same (s9.trans s10) hx8, od, fun H11 p3 s11 n3 b3 => ?_⟩
      have S11 := (s9.trans s10).trans s11
      obtain ⟨vs, g1, g2⟩ := id (hD.same S11)
      refine ⟨_, rfl, D', vs, rfl, .inl (SqL.of g1), fun c nc => ?_⟩
      generalize e12 : upd _ c _ = H12
      have s12 := same_of e12 nc
      have a12 := upd_at e12
      refine ⟨_, ts, rfl, .lst (SqL.of a12) (DpAll.same s12 g2), ots, fun H13 p4 s13 n4 b4 => ?_⟩
      refine ⟨_, rfl, D', vs, rfl, .inl (SqL.of ((s12.trans s13) _ _ g1)), fun c2 nc2 => ?_⟩
      generalize e14 : upd _ c2 _ = H14
      have s14 := same_of e14 nc2
      have a14 := upd_at e14
      refine ⟨_, ts, rfl, .lst (SqL.of a14) (DpAll.same ((s12.trans s13).trans s14) g2), ots, fun H15 p5 s15 n5 b5 => ?_⟩
      refine ⟨by show 5 ≤ sizeLine; decide, fun wr nw => ?_⟩
      generalize e16 : upd _ wr _ = H16
      have s16 := same_of e16 nw
      have a16 := upd_at e16
      have S1516 := s15.trans s16
      have S1316 := s14.trans S1516
      have S1216 := s13.trans S1316
      have S1116 := s12.trans S1216
      have S1016 := s11.trans S1116
      have S916 := s10.trans S1016
      have S816 := s9.trans S916
      let F : Five := ⟨n, cs, d, ts⟩
      have okF : F.ok := ⟨on, ot, od, ots⟩
      have hls : Ls H16 [p1, p2, p3, p4, p5] F.parts := .cons (S916 _ _ b1) (.cons (S1016 _ _ b2) (.cons (S1116 _ _ b3) (.cons (S1316 _ _ b4) (.cons (s16 _ _ b5) .nil))))
      have h16 := h8.same S816
      have nws : wr ≠ s := (h8.same ((((s9.trans s10).trans s11).trans ((s12.trans s13).trans (s14.trans s15))))).ne nw
      -- own
      refine ⟨_, rfl, .ref D', ts, rfl, (hD.same S816).dp, ots, fun H17 po s17 no bo => ?_⟩
      -- the written are as they should be
      refine ⟨_, rfl, _, rfl, n, rfl, on, fun H18 q1 s18 m1 c1 => ?_⟩
      refine ⟨_, rfl, _, cs, rfl, rfl, ot, fun H19 q2 s19 m2 c2' => ?_⟩
      refine ⟨_, rfl, x, d, rfl, Dp.same (((S816.trans s17).trans s18).trans s19) hx8, od, fun H20 q3 s20 m3 c3 => ?_⟩
      refine ⟨_, rfl, by show 1 ≤ sizeLine; decide, fun q0 m0 => ?_⟩
      generalize e21 : upd _ q0 _ = H21
      have s21 := same_of e21 m0
      have a21 : BL H21 q0 [1] := upd_at e21
      have S1821 := (s19.trans s20).trans s21
      have S1721 := s18.trans S1821
      have l4 := triples_le ots
      refine ⟨_, rfl, q0, po, _, _, rfl, rfl, a21, S1721 _ _ bo, by rw [nums_len, nums_len, line24, List.length_singleton]; omega, fun q5 m5 => ?_⟩
      generalize e22 : upd _ q5 _ = H22
      have s22 := same_of e22 m5
      have a22 : BL H22 q5 (1 :: wTriples ts) := upd_at e22
      refine ⟨by show 5 ≤ sizeLine; decide, fun q6 m6 => ?_⟩
      generalize e23 : upd _ q6 _ = H23
      have s23 := same_of e23 m6
      have a23 := upd_at e23
      have S2123 := s22.trans s23
      have S1623 := (s17.trans S1721).trans S2123
      have hls23 := hls.keep (H' := H23) fun _ _ _ h => S1623 _ _ h
      have dw : Dp K H23 (.ref wr) (.list (F.parts.map bytesP)) := .lst (SqL.of (S1623 _ _ a16)) (.cons (bl_dp ((S916.trans S1623) _ _ b1)) (.cons (bl_dp ((S1016.trans S1623) _ _ b2)) (.cons (bl_dp ((S1116.trans S1623) _ _ b3)) (.cons (bl_dp ((S1316.trans S1623) _ _ b4)) (.cons (bl_dp ((s16.trans S1623) _ _ b5)) .nil)))))
      have dq : Dp K H23 (.ref q6) (.list (F.parts.map bytesP)) := .lst (SqL.of a23) (.cons (bl_dp ((S1821.trans S2123) _ _ c1)) (.cons (bl_dp (((s20.trans s21).trans S2123) _ _ c2')) (.cons (bl_dp ((s21.trans S2123) _ _ c3)) (.cons (bl_dp ((S1721.trans S2123) _ _ bo)) (.cons (bl_dp (s23 _ _ a22)) .nil)))))
      have dd2 : deep (.list (F.parts.map bytesP)) ≤ 6 := by
        show deepAll _ + 1 ≤ 6
        have := deep_map (n := 1) bytes_deep F.parts
        omega
      refine ⟨_, _, _, rfl, dw, dq, dd2, fun H24 s24 => ⟨_, rfl, ite2 (fun z => by simp at z) (fun _ => ?_)⟩⟩
      have S1624 := S1623.trans s24
      -- things
      refine ⟨_, rfl, _, rfl, _, rfl, _, rfl, _, rfl, by show 5 ≤ sizeLine; decide, fun th nth => ?_⟩
      generalize e25 : upd _ th _ = H25
      have s25 := same_of e25 nth
      have a25 := upd_at e25
      have S1625 := S1624.trans s25
      have S825 := S816.trans S1625
      have nts : th ≠ s := (h16.same S1624).ne nth
      have g25 : G K s sl wr th D' x [p1, p2, p3, p4, p5] F H25 := ⟨h16.same S1625, S1625 _ _ a16, hls.keep fun _ _ _ h => S1625 _ _ h, a25, Dp.same S825 hx8, hD.same S825, nws, nts, nDs⟩
      -- all in a row
      have nwp : wr ∉ [p1, p2, p3, p4, p5] := by
        intro hmem
        obtain ⟨k, hk⟩ := List.getElem?_of_mem hmem
        obtain ⟨l, _, hb⟩ := hls.get hk
        have hb : H16 wr = _ := hb
        rw [a16] at hb
        cases l with
        | nil => cases hb
        | cons y l => cases hb
      refine ⟨_, rfl, _, rfl, .ref th, wr, F, rfl, .lst (SqL.of a25) g25.thing, ⟨_, g25.hw, g25.hp, nwp⟩, okF, fun H26 s26 => ⟨_, rfl, ite2 (fun z => by simp at z) (fun _ => ?_)⟩⟩
      have g26 := g25.same s26
      clear_value F
      -- long
      refine ⟨_, rfl, s, sl, 63, rfl, g26.st, by decide, by decide +kernel, fun H27 m27 k27 h27 hm27 => ?_⟩
      have g27 := g26.keep k27 h27
      refine ⟨_, rfl, by omega, by omega, fun L nL => ?_⟩
      have nLs := h27.ne nL
      have nLl := h27.nel nL
      refine lc_range0 (n := m27) (fun j H8 => Hold (Keep (fun b => b = s ∨ b = L) H27 H8 ∧ StAt H8 s sl ∧ ∃ bs : List Nat, BL H8 L bs ∧ bs.length = j)) ?_ ?_ ?_
      · exact .mk ⟨Keep.new nL, h27.same (same_new nL), [], upd_same, rfl⟩
      · intro j H8 hj V
        obtain ⟨k8, h8, bs, hb, hl⟩ := V.out
        clear V
        refine ⟨rfl, ?_⟩
        refine ⟨_, rfl, s, sl, 128, rfl, h8, by decide, by decide +kernel, fun H9 y k9 h9 hy => ?_⟩
        have hb9 := k9 _ _ hb nLs
        refine ⟨_, _, rfl, rfl, ?_⟩
        refine ⟨_, hb9, by rw [nums_len, hl, line24]; omega, .mk ⟨k8.trans ((k9.mono fun b z => .inl (.inl z)).trans (Keep.put (.inr rfl))), h9.upd nLs nLl, bs ++ [128 + y], ?_, by simp [hl]⟩⟩
        show upd H9 L _ L = _
        rw [upd_same]; simp
      intro H28 V
      obtain ⟨k28, h28, bs, hb, hl⟩ := V.out
      clear V
      have g28 := g27.keep (k28.mono fun b z => z.imp id fun z => by rw [z]; exact nL) h28
      refine ⟨_, rfl, s, sl, 3, rfl, h28, by decide, by decide +kernel, fun H29 y k29 h29 hy => ?_⟩
      have g29 := g28.keep k29 h29
      have hb29 := k29 _ _ hb nLs
      refine ⟨by show 1 ≤ sizeLine; decide, fun u nu => ?_⟩
      generalize e30 : upd _ u _ = H30
      have s30 := same_of e30 nu
      have a30 : BL H30 u [y] := upd_at e30
      refine ⟨L, u, _, _, rfl, rfl, s30 _ _ hb29, a30, by rw [nums_len, nums_len, List.length_singleton, line24]; omega, fun lg nlg => ?_⟩
      generalize e31 : upd _ lg _ = H31
      have s31 := same_of e31 nlg
      have a31 : BL H31 lg (bs ++ [y]) := by show H31 lg = _; rw [upd_at e31]; simp
      have g31 := (g29.same s30).same s31
      have lgl : (bs ++ [y]).length ≤ 1000000 := by rw [List.length_append, List.length_singleton]; omega
      refine ⟨_, rfl, 0, lg, _, rfl, a31, lgl, fun H32 x1 s32 hx1 => ?_⟩
      refine ⟨_, rfl, 0, lg, _, rfl, s32 _ _ a31, lgl, fun H33 x2 s33 hx2 => ?_⟩
      refine ⟨_, _, _, rfl, Dp.same s33 hx1, hx2, encK_deep _ _, fun H34 s34 => ⟨_, rfl, ite2 (fun z => by simp at z) (fun _ => ?_)⟩⟩
      have g34 := ((g31.same s32).same s33).same s34
      -- the kinds
      refine ⟨5, rfl, by decide, by decide, for_range0 (n := 5) (fun kd σ H' => Hold (∃ u11 u12 u13 : Option V, σ = [some (.ref a), some (.ref s), some (.int (i : Nat)), some (.int (n : Nat)), some (.str (S cs)), some x, some (.ref D'), some (.ref wr), some (.ref po), some (.ref th), some (.ref lg), u11, u12, u13] ∧ G K s sl wr th D' x [p1, p2, p3, p4, p5] F H')) ?_ ?_ ?_⟩
      · exact .mk ⟨_, _, _, rfl, g34⟩
      · intro kd σ H35 hkd V
        obtain ⟨u11, u12, u13, rfl, g35⟩ := V.out
        clear V
        have hk5 : kd < 5 := by simpa using hkd
        obtain ⟨pk, hpk⟩ : ∃ pk, [p1, p2, p3, p4, p5][kd]? = some pk := ⟨_, List.getElem?_eq_getElem (show kd < [p1, p2, p3, p4, p5].length from hk5)⟩
        obtain ⟨lk, hlk, bk⟩ := g35.hp.get hpk
        obtain ⟨t, ht, et, dt, ll⟩ := five_back okF hlk
        have hat : atI ([p1, p2, p3, p4, p5].map V.ref) ((kd : Nat) : Int) = some (.ref pk) := atI_nat (map_put hpk)
        refine ⟨_, rfl, _, rfl, _, rfl, _, _, _, _, rfl, rfl, SqL.of g35.hw, hat, kd, pk, lk, rfl, bk, by omega, fun H36 x1 s36 hx1 => ?_⟩
        have g36 := g35.same s36
        obtain ⟨tv, htv, dtv⟩ := DpAll.get g36.thing ht
        refine ⟨_, rfl, _, rfl, _, _, _, _, rfl, rfl, SqL.of g36.ht, atI_nat htv, ?_⟩
        refine ⟨_, rfl, _, rfl, _, _, _, _, rfl, rfl, SqL.of g36.hw, hat, _, _, rfl, .inl ⟨_, SqL.of (s36 _ _ bk), rfl⟩, fun _ => ?_⟩
        rw [nums_len]
        refine ⟨by show 2 ≤ sizeLine; decide, fun v nv => ?_⟩
        generalize e37 : upd _ v _ = H37
        have s37 := same_of e37 nv
        have a37 := upd_at e37
        have dv : Dp K H37 (.ref v) (encK kd lk) := by rw [et]; exact .tup (.inl (.inl a37)) (.cons (Dp.same s37 dtv) (.cons (.int _) .nil))
        refine ⟨_, _, _, rfl, Dp.same s37 hx1, dv, encK_deep _ _, fun H38 s38 => ⟨_, rfl, ite2 (fun z => by simp at z) (fun _ => ?_)⟩⟩
        have g38 := (g36.same s37).same s38
        refine ⟨4, rfl, by decide, by decide, for_range0 (n := 4) (fun j σ H' => Hold (∃ u12 u13 : Option V, σ = [some (.ref a), some (.ref s), some (.int (i : Nat)), some (.int (n : Nat)), some (.str (S cs)), some x, some (.ref D'), some (.ref wr), some (.ref po), some (.ref th), some (.ref lg), some (.int (kd : Nat)), u12, u13] ∧ G K s sl wr th D' x [p1, p2, p3, p4, p5] F H')) ?_ ?_ ?_⟩
        · exact .mk ⟨_, _, rfl, g38⟩
        · intro j σ H39 hj V
          obtain ⟨u12, u13, rfl, g39⟩ := V.out
          clear V
          obtain ⟨lk', hlk', bk'⟩ := g39.hp.get hpk
          obtain rfl : lk = lk' := by rw [hlk] at hlk'; exact Option.some.inj hlk'
          refine ⟨_, rfl, _, rfl, _, rfl, _, _, _, _, rfl, rfl, SqL.of g39.hw, hat, _, _, rfl, .inl (SqL.of bk'), fun c nc => ?_⟩
          generalize e40 : upd _ c _ = H40
          have s40 := same_of e40 nc
          have a40 := upd_at e40
          have g40 := g39.same s40
          refine ⟨s, sl, c, lk, rfl, g40.st, a40, ll, fun H41 dt' m k41 h41 hdt hm' => ?_⟩
          have g41 := g40.keep k41 h41
          refine ⟨_, rfl, _, rfl, kd, dt', m, rfl, hdt, by omega, fun H42 x3 s42 hx3 => ?_⟩
          refine ⟨_, rfl, _, rfl, kd, dt', m, rfl, s42 _ _ hdt, by omega, fun H43 x4 s43 hx4 => ?_⟩
          refine ⟨_, _, _, rfl, Dp.same s43 hx3, hx4, encK_deep _ _, fun H44 s44 => ⟨_, rfl, ite2 (fun z => by simp at z) (fun _ => ?_)⟩⟩
          exact .mk ⟨_, _, rfl, ((g41.same s42).same s43).same s44⟩
        · intro σ H39 V
          obtain ⟨u12, u13, rfl, g39⟩ := V.out
          exact .mk ⟨_, _, _, rfl, g39⟩
      · intro σ H35 V
        obtain ⟨u11, u12, u13, rfl, g35⟩ := V.out
        exact .mk ⟨_, _, _, _, _, _, _, _, _, _, _, _, rfl, g35.st⟩
    · intro σ H3 V
      exact kk _
end
end Mk12
namespace Mk12
open PySem PySem.Spec PyProof.Rows L2 My
def dd_Reader___init__ : He.DefD := ⟨("Reader", some "__init__"), "__init__", "Reader.__init__", defArgs s_Reader___init__, defBody s_Reader___init__, defScope s_Reader___init__, [], []⟩
def dd_Reader_read_byte : He.DefD := ⟨("Reader", some "read_byte"), "read_byte", "Reader.read_byte", defArgs s_Reader_read_byte, defBody s_Reader_read_byte, defScope s_Reader_read_byte, [], []⟩
def dd_Reader_read_choice : He.DefD := ⟨("Reader", some "read_choice"), "read_choice", "Reader.read_choice", defArgs s_Reader_read_choice, defBody s_Reader_read_choice, defScope s_Reader_read_choice, [], []⟩
def dd_Reader_end : He.DefD := ⟨("Reader", some "end"), "end", "Reader.end", defArgs s_Reader_end, defBody s_Reader_end, defScope s_Reader_end, [], []⟩
def dd_Reader_read_number : He.DefD := ⟨("Reader", some "read_number"), "read_number", "Reader.read_number", defArgs s_Reader_read_number, defBody s_Reader_read_number, defScope s_Reader_read_number, [], []⟩
def dd_Reader_read_count : He.DefD := ⟨("Reader", some "read_count"), "read_count", "Reader.read_count", defArgs s_Reader_read_count, defBody s_Reader_read_count, defScope s_Reader_read_count, [], []⟩
def dd_Reader_read_character : He.DefD := ⟨("Reader", some "read_character"), "read_character", "Reader.read_character", defArgs s_Reader_read_character, defBody s_Reader_read_character, defScope s_Reader_read_character, [], []⟩
def dd_Reader_read_string : He.DefD := ⟨("Reader", some "read_string"), "read_string", "Reader.read_string", defArgs s_Reader_read_string, defBody s_Reader_read_string, defScope s_Reader_read_string, [], []⟩
def dd_Reader_read_mark : He.DefD := ⟨("Reader", some "read_mark"), "read_mark", "Reader.read_mark", defArgs s_Reader_read_mark, defBody s_Reader_read_mark, defScope s_Reader_read_mark, [], []⟩
def dd_Reader_read_deed : He.DefD := ⟨("Reader", some "read_deed"), "read_deed", "Reader.read_deed", defArgs s_Reader_read_deed, defBody s_Reader_read_deed, defScope s_Reader_read_deed, [], []⟩
def dd_Reader_read_triple : He.DefD := ⟨("Reader", some "read_triple"), "read_triple", "Reader.read_triple", defArgs s_Reader_read_triple, defBody s_Reader_read_triple, defScope s_Reader_read_triple, [], []⟩
def dd_Reader_read_triples : He.DefD := ⟨("Reader", some "read_triples"), "read_triples", "Reader.read_triples", defArgs s_Reader_read_triples, defBody s_Reader_read_triples, defScope s_Reader_read_triples, [], []⟩
def dd_Reader_read_packet : He.DefD := ⟨("Reader", some "read_packet"), "read_packet", "Reader.read_packet", defArgs s_Reader_read_packet, defBody s_Reader_read_packet, defScope s_Reader_read_packet, [], []⟩
def dd_write_number : He.DefD := ⟨("write_number", none), "write_number", "write_number", defArgs s_write_number, defBody s_write_number, defScope s_write_number, [], []⟩
def dd_write_list : He.DefD := ⟨("write_list", none), "write_list", "write_list", defArgs s_write_list, defBody s_write_list, defScope s_write_list, [], []⟩
def dd_write_string : He.DefD := ⟨("write_string", none), "write_string", "write_string", defArgs s_write_string, defBody s_write_string, defScope s_write_string, [], []⟩
def dd_write_mark : He.DefD := ⟨("write_mark", none), "write_mark", "write_mark", defArgs s_write_mark, defBody s_write_mark, defScope s_write_mark, [], []⟩
def dd_write_deed : He.DefD := ⟨("write_deed", none), "write_deed", "write_deed", defArgs s_write_deed, defBody s_write_deed, defScope s_write_deed, [], []⟩
def dd_write_triples : He.DefD := ⟨("write_triples", none), "write_triples", "write_triples", defArgs s_write_triples, defBody s_write_triples, defScope s_write_triples, [], []⟩
def dd_write_packet : He.DefD := ⟨("write_packet", none), "write_packet", "write_packet", defArgs s_write_packet, defBody s_write_packet, defScope s_write_packet, [], []⟩
def dd__law_next : He.DefD := ⟨("_law_next", none), "_law_next", "_law_next", defArgs s__law_next, defBody s__law_next, defScope s__law_next, [], []⟩
def dd__law_same : He.DefD := ⟨("_law_same", none), "_law_same", "_law_same", defArgs s__law_same, defBody s__law_same, defScope s__law_same, [], []⟩
def dd__law_number : He.DefD := ⟨("_law_number", none), "_law_number", "_law_number", defArgs s__law_number, defBody s__law_number, defScope s__law_number, [], []⟩
def dd__law_text : He.DefD := ⟨("_law_text", none), "_law_text", "_law_text", defArgs s__law_text, defBody s__law_text, defScope s__law_text, [], []⟩
def dd__law_mark : He.DefD := ⟨("_law_mark", none), "_law_mark", "_law_mark", defArgs s__law_mark, defBody s__law_mark, defScope s__law_mark, [], []⟩
def dd__law_deed : He.DefD := ⟨("_law_deed", none), "_law_deed", "_law_deed", defArgs s__law_deed, defBody s__law_deed, defScope s__law_deed, [], []⟩
def dd__law_triples : He.DefD := ⟨("_law_triples", none), "_law_triples", "_law_triples", defArgs s__law_triples, defBody s__law_triples, defScope s__law_triples, [], []⟩
def dd__law_read_number : He.DefD := ⟨("_law_read_number", none), "_law_read_number", "_law_read_number", defArgs s__law_read_number, defBody s__law_read_number, defScope s__law_read_number, [], []⟩
def dd__law_sign : He.DefD := ⟨("_law_sign", none), "_law_sign", "_law_sign", defArgs s__law_sign, defBody s__law_sign, defScope s__law_sign, [], []⟩
def dd__law_read_text : He.DefD := ⟨("_law_read_text", none), "_law_read_text", "_law_read_text", defArgs s__law_read_text, defBody s__law_read_text, defScope s__law_read_text, [], []⟩
def dd__law_read_mark : He.DefD := ⟨("_law_read_mark", none), "_law_read_mark", "_law_read_mark", defArgs s__law_read_mark, defBody s__law_read_mark, defScope s__law_read_mark, [], []⟩
def dd__law_read_deed : He.DefD := ⟨("_law_read_deed", none), "_law_read_deed", "_law_read_deed", defArgs s__law_read_deed, defBody s__law_read_deed, defScope s__law_read_deed, [], []⟩
def dd__law_read_triples : He.DefD := ⟨("_law_read_triples", none), "_law_read_triples", "_law_read_triples", defArgs s__law_read_triples, defBody s__law_read_triples, defScope s__law_read_triples, [], []⟩
def dd__law_read_packet : He.DefD := ⟨("_law_read_packet", none), "_law_read_packet", "_law_read_packet", defArgs s__law_read_packet, defBody s__law_read_packet, defScope s__law_read_packet, [], []⟩
def dd__law_drawn_number : He.DefD := ⟨("_law_drawn_number", none), "_law_drawn_number", "_law_drawn_number", defArgs s__law_drawn_number, defBody s__law_drawn_number, defScope s__law_drawn_number, [], []⟩
def dd__law_drawn_text : He.DefD := ⟨("_law_drawn_text", none), "_law_drawn_text", "_law_drawn_text", defArgs s__law_drawn_text, defBody s__law_drawn_text, defScope s__law_drawn_text, [], []⟩
def dd__law_drawn_deed : He.DefD := ⟨("_law_drawn_deed", none), "_law_drawn_deed", "_law_drawn_deed", defArgs s__law_drawn_deed, defBody s__law_drawn_deed, defScope s__law_drawn_deed, [], []⟩
def dd__law_spoilt : He.DefD := ⟨("_law_spoilt", none), "_law_spoilt", "_law_spoilt", defArgs s__law_spoilt, defBody s__law_spoilt, defScope s__law_spoilt, [], []⟩
def dd__law_told : He.DefD := ⟨("_law_told", none), "_law_told", "_law_told", defArgs s__law_told, defBody s__law_told, defScope s__law_told, [], []⟩
def dd__law_own : He.DefD := ⟨("_law_own", none), "_law_own", "_law_own", defArgs s__law_own, defBody s__law_own, defScope s__law_own, [], []⟩
def dd__law_in_a_row : He.DefD := ⟨("_law_in_a_row", none), "_law_in_a_row", "_law_in_a_row", defArgs s__law_in_a_row, defBody s__law_in_a_row, defScope s__law_in_a_row, [], []⟩
def dd_law : He.DefD := ⟨("law", none), "law", "law", defArgs s_law, defBody s_law, defScope s_law, [], []⟩
def fn : List He.DefD := ([dd_Reader___init__, dd_Reader_read_byte, dd_Reader_read_choice, dd_Reader_end, dd_Reader_read_number, dd_Reader_read_count, dd_Reader_read_character, dd_Reader_read_string, dd_Reader_read_mark, dd_Reader_read_deed, dd_Reader_read_triple, dd_Reader_read_triples, dd_Reader_read_packet, dd_write_number, dd_write_list, dd_write_string, dd_write_mark, dd_write_deed, dd_write_triples, dd_write_packet, dd__law_next, dd__law_same, dd__law_number, dd__law_text, dd__law_mark, dd__law_deed, dd__law_triples, dd__law_read_number, dd__law_sign, dd__law_read_text] : List He.DefD) ++ ([dd__law_read_mark, dd__law_read_deed, dd__law_read_triples, dd__law_read_packet, dd__law_drawn_number, dd__law_drawn_text, dd__law_drawn_deed, dd__law_spoilt, dd__law_told, dd__law_own, dd__law_in_a_row, dd_law] : List He.DefD)
def fa : List He.Fa := ([.mkr "Reader", .glo "Reader", .cls "Reader", .meth "Reader" "read_byte", .meth "Reader" "read_choice", .meth "Reader" "end", .meth "Reader" "read_number", .meth "Reader" "read_count", .meth "Reader" "read_character", .meth "Reader" "read_string", .meth "Reader" "read_mark", .meth "Reader" "read_deed", .meth "Reader" "read_triple", .meth "Reader" "read_triples", .meth "Reader" "read_packet", .glo "write_number", .glo "write_list", .glo "write_string", .glo "write_mark", .glo "write_deed", .glo "write_triples", .glo "write_packet", .glo "_law_next", .glo "_law_same", .glo "_law_number", .glo "_law_text", .glo "_law_mark", .glo "_law_deed", .glo "_law_triples", .glo "_law_read_number"] : List He.Fa) ++ ([.glo "_law_sign", .glo "_law_read_text", .glo "_law_read_mark", .glo "_law_read_deed", .glo "_law_read_triples", .glo "_law_read_packet", .glo "_law_drawn_number", .glo "_law_drawn_text", .glo "_law_drawn_deed", .glo "_law_spoilt", .glo "_law_told", .glo "_law_own", .glo "_law_in_a_row", .glo "law", .free "bool", .free "int", .free "isinstance", .free "len", .free "list", .free "ord", .free "range", .free "str", .free "tuple", .str "BEFORE_PERCENT" " !\"#$", .str "AFTER_PERCENT" "&'()*+,-./0123456789:;<=>?@ABCDEFGHIJKLMNOPQRSTUVWXYZ[\\]^_`abcdefghijklmnopqrstuvwxyz{|}~", .int "NUMBER_BYTES" 60, .exc "SignalwholeError", .glo "SignalwholeError", .exm "SignalwholeError" "SignalwholeError" true, .exc "DamagedPacket"] : List He.Fa) ++ ([.glo "DamagedPacket", .exm "DamagedPacket" "DamagedPacket" true, .noat "Reader" "data", .noat "Reader" "at"] : List He.Fa)
theorem tops {K : PySem.W.Frag} {h : Heap} {mg : Str → Option Value} (X : K.In h) (G : h.Ns mainGlobals mg) (c : He.SaysD fa fn K) : TopF K mg where
  bool := He.free_ok X G (c.fact 44 (f := .free "bool") rfl)
  int_ := He.free_ok X G (c.fact 45 (f := .free "int") rfl)
  isinstance := He.free_ok X G (c.fact 46 (f := .free "isinstance") rfl)
  len := He.free_ok X G (c.fact 47 (f := .free "len") rfl)
  list := He.free_ok X G (c.fact 48 (f := .free "list") rfl)
  ord := He.free_ok X G (c.fact 49 (f := .free "ord") rfl)
  range := He.free_ok X G (c.fact 50 (f := .free "range") rfl)
  str := He.free_ok X G (c.fact 51 (f := .free "str") rfl)
  tuple := He.free_ok X G (c.fact 52 (f := .free "tuple") rfl)
  c_BEFORE_PERCENT := He.str_ok X G (c.fact 53 (f := .str "BEFORE_PERCENT" " !\"#$") rfl)
  c_AFTER_PERCENT := He.str_ok X G (c.fact 54 (f := .str "AFTER_PERCENT" "&'()*+,-./0123456789:;<=>?@ABCDEFGHIJKLMNOPQRSTUVWXYZ[\\]^_`abcdefghijklmnopqrstuvwxyz{|}~") rfl)
  c_NUMBER_BYTES := He.int_ok X G (c.fact 55 (f := .int "NUMBER_BYTES" 60) rfl)
  x_SignalwholeError := c.fact 56 (f := .exc "SignalwholeError") rfl
  m_SignalwholeError := c.fact 58 (f := .exm "SignalwholeError" "SignalwholeError" true) rfl
  g_SignalwholeError := He.glo_ok X G (c.fact 57 (f := .glo "SignalwholeError") rfl)
  x_DamagedPacket := c.fact 59 (f := .exc "DamagedPacket") rfl
  m_DamagedPacket := c.fact 61 (f := .exm "DamagedPacket" "DamagedPacket" true) rfl
  g_DamagedPacket := He.glo_ok X G (c.fact 60 (f := .glo "DamagedPacket") rfl)
  n_Reader_data := He.noat_ok (c.fact 62 (f := .noat "Reader" "data") rfl)
  n_Reader_at := He.noat_ok (c.fact 63 (f := .noat "Reader" "at") rfl)
theorem defs {K : PySem.W.Frag} {h : Heap} {mg : Str → Option Value} (X : K.In h) (G : h.Ns mainGlobals mg) (c : He.SaysD fa fn K) : Defs K mg where
  d_Reader___init__ := let ⟨fd, F⟩ := c.def_ 0 (d := dd_Reader___init__) rfl; ⟨⟨_, fd, F, He.mkr_ok (c.fact 0 (f := .mkr "Reader") rfl), He.glo_ok X G (c.fact 1 (f := .glo "Reader") rfl)⟩⟩
  d_Reader_read_byte := let ⟨fd, F⟩ := c.def_ 1 (d := dd_Reader_read_byte) rfl; ⟨He.cls_ok (c.fact 2 (f := .cls "Reader") rfl), ⟨_, fd, F, He.meth_ok (c.fact 3 (f := .meth "Reader" "read_byte") rfl)⟩⟩
  d_Reader_read_choice := let ⟨fd, F⟩ := c.def_ 2 (d := dd_Reader_read_choice) rfl; ⟨He.cls_ok (c.fact 2 (f := .cls "Reader") rfl), ⟨_, fd, F, He.meth_ok (c.fact 4 (f := .meth "Reader" "read_choice") rfl)⟩⟩
  d_Reader_end := let ⟨fd, F⟩ := c.def_ 3 (d := dd_Reader_end) rfl; ⟨He.cls_ok (c.fact 2 (f := .cls "Reader") rfl), ⟨_, fd, F, He.meth_ok (c.fact 5 (f := .meth "Reader" "end") rfl)⟩⟩
  d_Reader_read_number := let ⟨fd, F⟩ := c.def_ 4 (d := dd_Reader_read_number) rfl; ⟨He.cls_ok (c.fact 2 (f := .cls "Reader") rfl), ⟨_, fd, F, He.meth_ok (c.fact 6 (f := .meth "Reader" "read_number") rfl)⟩⟩
  d_Reader_read_count := let ⟨fd, F⟩ := c.def_ 5 (d := dd_Reader_read_count) rfl; ⟨He.cls_ok (c.fact 2 (f := .cls "Reader") rfl), ⟨_, fd, F, He.meth_ok (c.fact 7 (f := .meth "Reader" "read_count") rfl)⟩⟩
  d_Reader_read_character := let ⟨fd, F⟩ := c.def_ 6 (d := dd_Reader_read_character) rfl; ⟨He.cls_ok (c.fact 2 (f := .cls "Reader") rfl), ⟨_, fd, F, He.meth_ok (c.fact 8 (f := .meth "Reader" "read_character") rfl)⟩⟩
  d_Reader_read_string := let ⟨fd, F⟩ := c.def_ 7 (d := dd_Reader_read_string) rfl; ⟨He.cls_ok (c.fact 2 (f := .cls "Reader") rfl), ⟨_, fd, F, He.meth_ok (c.fact 9 (f := .meth "Reader" "read_string") rfl)⟩⟩
  d_Reader_read_mark := let ⟨fd, F⟩ := c.def_ 8 (d := dd_Reader_read_mark) rfl; ⟨He.cls_ok (c.fact 2 (f := .cls "Reader") rfl), ⟨_, fd, F, He.meth_ok (c.fact 10 (f := .meth "Reader" "read_mark") rfl)⟩⟩
  d_Reader_read_deed := let ⟨fd, F⟩ := c.def_ 9 (d := dd_Reader_read_deed) rfl; ⟨He.cls_ok (c.fact 2 (f := .cls "Reader") rfl), ⟨_, fd, F, He.meth_ok (c.fact 11 (f := .meth "Reader" "read_deed") rfl)⟩⟩
  d_Reader_read_triple := let ⟨fd, F⟩ := c.def_ 10 (d := dd_Reader_read_triple) rfl; ⟨He.cls_ok (c.fact 2 (f := .cls "Reader") rfl), ⟨_, fd, F, He.meth_ok (c.fact 12 (f := .meth "Reader" "read_triple") rfl)⟩⟩
  d_Reader_read_triples := let ⟨fd, F⟩ := c.def_ 11 (d := dd_Reader_read_triples) rfl; ⟨He.cls_ok (c.fact 2 (f := .cls "Reader") rfl), ⟨_, fd, F, He.meth_ok (c.fact 13 (f := .meth "Reader" "read_triples") rfl)⟩⟩
  d_Reader_read_packet := let ⟨fd, F⟩ := c.def_ 12 (d := dd_Reader_read_packet) rfl; ⟨He.cls_ok (c.fact 2 (f := .cls "Reader") rfl), ⟨_, fd, F, He.meth_ok (c.fact 14 (f := .meth "Reader" "read_packet") rfl)⟩⟩
  d_write_number := let ⟨fd, F⟩ := c.def_ 13 (d := dd_write_number) rfl; ⟨⟨_, fd, F, He.glo_ok X G (c.fact 15 (f := .glo "write_number") rfl)⟩⟩
  d_write_list := let ⟨fd, F⟩ := c.def_ 14 (d := dd_write_list) rfl; ⟨⟨_, fd, F, He.glo_ok X G (c.fact 16 (f := .glo "write_list") rfl)⟩⟩
  d_write_string := let ⟨fd, F⟩ := c.def_ 15 (d := dd_write_string) rfl; ⟨⟨_, fd, F, He.glo_ok X G (c.fact 17 (f := .glo "write_string") rfl)⟩⟩
  d_write_mark := let ⟨fd, F⟩ := c.def_ 16 (d := dd_write_mark) rfl; ⟨⟨_, fd, F, He.glo_ok X G (c.fact 18 (f := .glo "write_mark") rfl)⟩⟩
  d_write_deed := let ⟨fd, F⟩ := c.def_ 17 (d := dd_write_deed) rfl; ⟨⟨_, fd, F, He.glo_ok X G (c.fact 19 (f := .glo "write_deed") rfl)⟩⟩
  d_write_triples := let ⟨fd, F⟩ := c.def_ 18 (d := dd_write_triples) rfl; ⟨⟨_, fd, F, He.glo_ok X G (c.fact 20 (f := .glo "write_triples") rfl)⟩⟩
  d_write_packet := let ⟨fd, F⟩ := c.def_ 19 (d := dd_write_packet) rfl; ⟨⟨_, fd, F, He.glo_ok X G (c.fact 21 (f := .glo "write_packet") rfl)⟩⟩
  d__law_next := let ⟨fd, F⟩ := c.def_ 20 (d := dd__law_next) rfl; ⟨⟨_, fd, F, He.glo_ok X G (c.fact 22 (f := .glo "_law_next") rfl)⟩⟩
  d__law_same := let ⟨fd, F⟩ := c.def_ 21 (d := dd__law_same) rfl; ⟨⟨_, fd, F, He.glo_ok X G (c.fact 23 (f := .glo "_law_same") rfl)⟩⟩
  d__law_number := let ⟨fd, F⟩ := c.def_ 22 (d := dd__law_number) rfl; ⟨⟨_, fd, F, He.glo_ok X G (c.fact 24 (f := .glo "_law_number") rfl)⟩⟩
  d__law_text := let ⟨fd, F⟩ := c.def_ 23 (d := dd__law_text) rfl; ⟨⟨_, fd, F, He.glo_ok X G (c.fact 25 (f := .glo "_law_text") rfl)⟩⟩
  d__law_mark := let ⟨fd, F⟩ := c.def_ 24 (d := dd__law_mark) rfl; ⟨⟨_, fd, F, He.glo_ok X G (c.fact 26 (f := .glo "_law_mark") rfl)⟩⟩
  d__law_deed := let ⟨fd, F⟩ := c.def_ 25 (d := dd__law_deed) rfl; ⟨⟨_, fd, F, He.glo_ok X G (c.fact 27 (f := .glo "_law_deed") rfl)⟩⟩
  d__law_triples := let ⟨fd, F⟩ := c.def_ 26 (d := dd__law_triples) rfl; ⟨⟨_, fd, F, He.glo_ok X G (c.fact 28 (f := .glo "_law_triples") rfl)⟩⟩
  d__law_read_number := let ⟨fd, F⟩ := c.def_ 27 (d := dd__law_read_number) rfl; ⟨⟨_, fd, F, He.glo_ok X G (c.fact 29 (f := .glo "_law_read_number") rfl)⟩⟩
  d__law_sign := let ⟨fd, F⟩ := c.def_ 28 (d := dd__law_sign) rfl; ⟨⟨_, fd, F, He.glo_ok X G (c.fact 30 (f := .glo "_law_sign") rfl)⟩⟩
  d__law_read_text := let ⟨fd, F⟩ := c.def_ 29 (d := dd__law_read_text) rfl; ⟨⟨_, fd, F, He.glo_ok X G (c.fact 31 (f := .glo "_law_read_text") rfl)⟩⟩
  d__law_read_mark := let ⟨fd, F⟩ := c.def_ 30 (d := dd__law_read_mark) rfl; ⟨⟨_, fd, F, He.glo_ok X G (c.fact 32 (f := .glo "_law_read_mark") rfl)⟩⟩
  d__law_read_deed := let ⟨fd, F⟩ := c.def_ 31 (d := dd__law_read_deed) rfl; ⟨⟨_, fd, F, He.glo_ok X G (c.fact 33 (f := .glo "_law_read_deed") rfl)⟩⟩
  d__law_read_triples := let ⟨fd, F⟩ := c.def_ 32 (d := dd__law_read_triples) rfl; ⟨⟨_, fd, F, He.glo_ok X G (c.fact 34 (f := .glo "_law_read_triples") rfl)⟩⟩
  d__law_read_packet := let ⟨fd, F⟩ := c.def_ 33 (d := dd__law_read_packet) rfl; ⟨⟨_, fd, F, He.glo_ok X G (c.fact 35 (f := .glo "_law_read_packet") rfl)⟩⟩
  d__law_drawn_number := let ⟨fd, F⟩ := c.def_ 34 (d := dd__law_drawn_number) rfl; ⟨⟨_, fd, F, He.glo_ok X G (c.fact 36 (f := .glo "_law_drawn_number") rfl)⟩⟩
  d__law_drawn_text := let ⟨fd, F⟩ := c.def_ 35 (d := dd__law_drawn_text) rfl; ⟨⟨_, fd, F, He.glo_ok X G (c.fact 37 (f := .glo "_law_drawn_text") rfl)⟩⟩
  d__law_drawn_deed := let ⟨fd, F⟩ := c.def_ 36 (d := dd__law_drawn_deed) rfl; ⟨⟨_, fd, F, He.glo_ok X G (c.fact 38 (f := .glo "_law_drawn_deed") rfl)⟩⟩
  d__law_spoilt := let ⟨fd, F⟩ := c.def_ 37 (d := dd__law_spoilt) rfl; ⟨⟨_, fd, F, He.glo_ok X G (c.fact 39 (f := .glo "_law_spoilt") rfl)⟩⟩
  d__law_told := let ⟨fd, F⟩ := c.def_ 38 (d := dd__law_told) rfl; ⟨⟨_, fd, F, He.glo_ok X G (c.fact 40 (f := .glo "_law_told") rfl)⟩⟩
  d__law_own := let ⟨fd, F⟩ := c.def_ 39 (d := dd__law_own) rfl; ⟨⟨_, fd, F, He.glo_ok X G (c.fact 41 (f := .glo "_law_own") rfl)⟩⟩
  d__law_in_a_row := let ⟨fd, F⟩ := c.def_ 40 (d := dd__law_in_a_row) rfl; ⟨⟨_, fd, F, He.glo_ok X G (c.fact 42 (f := .glo "_law_in_a_row") rfl)⟩⟩
  d_law := let ⟨fd, F⟩ := c.def_ 41 (d := dd_law) rfl; ⟨⟨_, fd, F, He.glo_ok X G (c.fact 43 (f := .glo "law") rfl)⟩⟩
def loose : List PySem.Str := (["_wall", "SignalwholeError", "DamagedPacket", "Reader", "write_number", "write_list", "write_string", "write_mark", "write_deed", "write_triples", "write_packet", "_law_next", "_law_same", "_law_number", "_law_text", "_law_mark", "_law_deed", "_law_triples", "_law_read_number", "_law_sign", "_law_read_text", "_law_read_mark", "_law_read_deed", "_law_read_triples", "_law_read_packet", "_law_drawn_number", "_law_drawn_text", "_law_drawn_deed", "_law_spoilt", "_law_told"] : List PySem.Str) ++ (["_law_own", "_law_in_a_row", "BEFORE_PERCENT", "AFTER_PERCENT", "NUMBER_BYTES"] : List PySem.Str)
abbrev R : PySem.W.OpenRow := PySem.W.OpenLaw.row PySem.Challenge.rw_signalwhole_k12_bytes_written_and_read
abbrev hk : PySem.W.Hook := He.hookD 4 fa fn
def ob (s : PySem.W.SharedT) : He.AlD := He.obsDG 4 fa fn (HandSHeadRun.getT s)
theorem ob_eq (s : PySem.W.SharedT) : ob s = hk.obs s.abs := He.obsDG_eq (HandSHeadRun.getT_eq s)
set_option maxHeartbeats 0 in
theorem run (w : World) : HandSHeadRun.RunEq R (PySem.W.view R.prog [39]) hk ob 4000 loose w := by
  intro os
  kernel_rfl
end Mk12
open PySem PySem.W PySem.Calls PyProof.Rows
set_option maxRecDepth 100000 in
set_option maxHeartbeats 0 in
theorem PySem.Challenge.cw_signalwhole_k12_bytes_written_and_read_holds : PySem.Challenge.rw_signalwhole_k12_bytes_written_and_read.Holds := by
  w_on; o_law
  refine HandSHeadRun.head_any (r := OpenLaw.row PySem.Challenge.rw_signalwhole_k12_bytes_written_and_read) (q := view (OpenLaw.row PySem.Challenge.rw_signalwhole_k12_bytes_written_and_read).prog [39]) (H := Mk12.hk) (ob := Mk12.ob) (M := 4000) (loose := Mk12.loose) (d := HandSHeadRun.topDef (OpenLaw.row PySem.Challenge.rw_signalwhole_k12_bytes_written_and_read).prog 39) (kwd := []) Mk12.ob_eq
    (by kernel_rfl) (fun s => by kernel_rfl) Mk12.run (by kernel_rfl) (by kernel_rfl) (by kernel_rfl) (by rfl) (by first | assumption | decide +kernel) (by decide +kernel) ⟨rfl, rfl, rfl, rfl, rfl, by decide +kernel⟩ ?hw ?hc
  case hw => w_witness2
  case hc =>
    refine L2.walk_ofE (l := PySem.Challenge.rw_signalwhole_k12_bytes_written_and_read) (n := 63) (k := 12) (x := "script") (CX := L2.CX0) rfl (by decide) (by kernel_rfl) ⟨rfl, by decide, by decide⟩ ?F (fun _ _ _ _ z => z)
    intro w mg fa h Y G hmg0
    obtain ⟨K, KX, c⟩ := Y
    have hmg : mg ("law" : PySem.Str) = some (.ref fa) := by
      have e : (HandSHeadRun.topDef (OpenLaw.row PySem.Challenge.rw_signalwhole_k12_bytes_written_and_read).prog 39).name = ("law" : PySem.Str) := by kernel_rfl
      rw [← e]
      exact hmg0
    have T := Mk12.tops KX G c
    have D := Mk12.defs KX G c
    obtain ⟨fd, hb, hF⟩ := Mk12.law_fn (P := (PySem.Challenge.rw_signalwhole_k12_bytes_written_and_read).prog) (w := w) T D hmg
    exact ⟨K, fd, Mk12.spLaw K, KX, hb, fun H a ns hl _ hS => ⟨a, ns, rfl, hS, hl, fun _ => rfl⟩, hF⟩
