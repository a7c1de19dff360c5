import PyProof.Rows.All
import Wide.All
import OpenK.AllK
import Wide.FinOn
import HandS.ForMost
import HandS.Exc
import HandS.ExcOwn
import HandS.ExcIs
import HandS.TryOnly
import HandS.WordsExc
import HandS.HotCalls
import HandS.IsInst
import HandS.Remove
import HandS.SortInts
import HandS.SortRule
import HandS.Flow
import HandS.Style
import HandS.Evl
import HandS.Walk
import HandS.Steps
import HandS.StrMore
import HandS.Defaults
import HandS.Conv
import HandS.HeadHook4
import HandS.HeadEnd
import HandS.HeadWalk
import KE.GoesRaise
import HandS.Head0
import HandS.Head1
import HandS.Head2
import PySem.Challenge.RW_legseats_k13_read_or_refused
set_option Elab.async false
set_option linter.all false
set_option maxRecDepth 100000
set_option maxHeartbeats 4000000
namespace Lg
open PySem PySem.Spec PyProof.Rows L2

/-! ### a < b < c < d as a test -/
section
variable {X : Cx}
def tChain3 (r1 r2 r3 : R2) (ta tb tc td : TE) : TT := fun σ H Q =>
  ta σ H fun x H1 => tb σ H1 fun y H2 => r1 x y H2 fun z1 H3 => ∃ k1, z1 = .bl k1 ∧
    (if k1 = true then tc σ H3 fun u H4 => r2 y u H4 fun z2 H5 => ∃ k2, z2 = .bl k2 ∧
      (if k2 = true then td σ H5 fun v H6 => r3 u v H6 fun z3 H7 => ∃ k3, z3 = .bl k3 ∧ Q k3 H7 else Q false H5)
    else Q false H3)
theorem pt_chain3 {o1 o2 o3 : CmpOp} {r1 r2 r3 : R2} {a b c d : Expr} {ta tb tc td : TE} {pos : Pos}
    (h1 : OpR X (compareOp o1) r1) (h2 : OpR X (compareOp o2) r2) (h3 : OpR X (compareOp o3) r3)
    (pa : PE X a ta) (pb : PE X b tb) (pc : PE X c tc) (pd : PE X d td)
    (hm : lastMarks [o1, o2, o3] [b, c, d] = false := by with_unfolding_all rfl) :
    PT X (.Compare a [o1, o2, o3] [b, c, d] pos) (tChain3 r1 r2 r3 ta tb tc td) := by
  refine ⟨fun pins s σ H Q I h => ?_⟩
  refine isTrue_chain (thn (pa.run pins s σ H _ I h) fun va sa ⟨x, HA, IA, ra, qa⟩ =>
    test_link (thn (pb.run pins sa σ HA _ IA qa) fun vb sb ⟨y, HB, IB, rb, qb⟩ =>
      thn (h1 pins sb σ HB x y va vb _ IB ra rb qb) fun vd sd ⟨z, HD, ID, rd, k, e, qd⟩ => ?_)) hm
  subst e
  cases rd
  refine wpAny_truthy_bool ?_
  cases k with
  | false => exact ite_ff ⟨HD, ID, qd⟩
  | true =>
    refine ite_tt (test_link (thn (pc.run pins sd σ HD _ ID qd) fun vc sc ⟨u, HC, IC, rc, qc⟩ =>
      thn (h2 pins sc σ HC y u vb vc _ IC rb rc qc) fun ve se ⟨z2, HE, IE, re, k2, e2, qe⟩ => ?_))
    subst e2
    cases re
    refine wpAny_truthy_bool ?_
    cases k2 with
    | false => exact ite_ff ⟨HE, IE, qe⟩
    | true =>
      refine ite_tt (test_last (thn (pd.run pins se σ HE _ IE qe) fun vf sf ⟨v, HF, IF, rf, qf⟩ =>
        thn (h3 pins sf σ HF u v vc vf _ IF rc rf qf) fun vg sg ⟨z3, HG, IG, rg, k3, e3, qg⟩ => ?_))
      subst e3
      cases rg
      exact wpAny_truthy_bool ⟨HG, IG, qg⟩
end

/-! ### defs that may be called: all of them over CX -/
section
variable (P : Program) (w : World) (K : PySem.W.Frag) (mg : Str → Option Value) (base : Heap)
structure Cal (k : Nat) (x : Str) (sp : Sp) : Prop where
  ex : ∃ (f : Addr) (fd : FuncData) (ps : List Str), FnOk P w K mg base (L2.CX P w) k f fd ps sp ∧ mg x = some (.ref f) ∧ PySem.W.keepIn K (.ref f) = true ∧ Binds K fd ps []
structure Met (k : Nat) (C : Addr) (m : Str) (sp : Sp) : Prop where
  ex : ∃ (f : Addr) (fd : FuncData) (ps : List Str), Cls K C ∧ Meth K C m f ∧ FnOk P w K mg base (L2.CX P w) k f fd ps sp ∧ Binds K fd ps []
structure Mak (k : Nat) (x : Str) (C : Addr) (sp : Sp) : Prop where
  ex : ∃ (f : Addr) (fd : FuncData) (ps : List Str), Mk K C f ∧ FnOk P w K mg base (L2.CX P w) k f fd ps sp ∧ mg x = some (.ref C) ∧ Binds K fd ps []
end
/-- nothing leaves -/
abbrev EZ : L2.St → XK := fun _ _ _ _ => False
section
variable {X : Cx} {W : WX}
theorem pz : ∀ σ, PassesAt (L2.CX X.prog X.w) X σ (EZ σ) := fun _ _ _ _ _ _ _ h => by
  obtain ⟨_, _, _, _, _, _, _, _, _, _, _, _, z⟩ := h
  exact z.elim
theorem pr (tk : Takes X W) : ∀ σ, PassesAt (L2.CX X.prog X.w) X σ (WE W σ) := fun σ => passAt tk σ
end
section
variable {X : Cx} {k j : Nat} {C : Addr} {x m : Str} {sp : Sp} {p pos apos : Pos} {e o : Expr} {es : List Expr} {ta : TE} {t : TA} {E : L2.St → XK}
theorem pe_c (c : Cal X.prog X.w X.K X.mg X.base k x sp) (hr : Room j X.A) (hx : ∀ σ, PassesAt (L2.CX X.prog X.w) X σ (E σ)) (ha : PA X (e :: es) t) (hk : k ≤ j := by decide) (hg : Gl X x := by rfl)
    (hdb : (x == ("__debug__" : Str)) = false := by decide) (he : starEach (e :: es) X.env = (false, eval e X.env) :: starEach es X.env := by rfl) (hpl : (backTo pos (starEach es X.env)).any (·.1) = false := by rfl) :
    PE X (.Call (.Name x p) (e :: es) [] pos) (tCallS sp E t) := by
  obtain ⟨f, fd, ps, F, hm, kp, b⟩ := c.ex
  exact pe_callS F (hr.mono hk) hg hm kp b hx ha hdb he hpl
def tMethS (C : Addr) (m : Str) (sp : Sp) (E : L2.St → XK) (ta : TE) (t : TA) : TE := fun σ H Q =>
  ta σ H fun x H1 => ∃ a dx fs, x = .ref a ∧ H1 a = some (.ins C dx fs) ∧ fs.lookup m = none ∧ t σ H1 fun vs H2 => sp (x :: vs) H2 Q (E σ)
theorem pe_m {pl : Sem Bool} (c : Met X.prog X.w X.K X.mg X.base k C m sp) (hr : Room j X.A) (hx : ∀ σ, PassesAt (L2.CX X.prog X.w) X σ (E σ)) (he : PE X o ta) (ha : PA X (e :: es) t) (hk : k ≤ j := by decide)
    (hst : starEach (e :: es) X.env = (false, eval e X.env) :: starEach es X.env := by rfl) (hpl : (backTo pos (starEach es X.env)).any (·.1) = false := by rfl)
    (ht : eval (.Call (.Attribute o m apos) (e :: es) [] pos) X.env = (do
      let ov ← eval o X.env
      standAt apos.atName
      let (f, first) ← holding [ov] (getMethod ov m pl)
      callWith pos f first (backTo pos (starEach (e :: es) X.env)) (backToKw pos (keywordEach [] X.env))) := by rfl) :
    PE X (.Call (.Attribute o m apos) (e :: es) [] pos) (tMethS C m sp E ta t) := by
  obtain ⟨f, fd, ps, hc, hm, F, b⟩ := c.ex
  refine ⟨fun pins s σ H Q I h => ?_⟩
  refine PySem.W.methodCall_KW (pl := pl) (thn (he.run pins s σ H _ I h) fun u s1 ⟨y, H1, I1, ry, a, dx, fs, ey, ea, l, q⟩ => ?_) ht
  subst ey
  obtain rfl : u = Value.ref a := ry
  refine getmeth_ok I1 ea hc hm l ?_
  refine PySem.W.callWith_K (first := [.ref a]) (h₀ := X.base) I.ok.mod.kin hm.kp
    (thn (ha.run pos pins s1 σ H1 _ I1 q) fun us s2 ⟨vs, H2, I2, r, q2⟩ => ⟨I2.kIn, ?_⟩) hst hpl
  exact run_fnS (us := .ref a :: us) (vs := .ref a :: vs) F (hr.mono hk) b (hx σ) I2 (.cons rfl r) q2
theorem pe_m0 {pl : Sem Bool} (c : Met X.prog X.w X.K X.mg X.base k C m sp) (hr : Room j X.A) (hx : ∀ σ, PassesAt (L2.CX X.prog X.w) X σ (E σ)) (he : PE X o ta) (hk : k ≤ j := by decide)
    (ht : eval (.Call (.Attribute o m apos) [] [] pos) X.env = (do
      let ov ← eval o X.env
      standAt apos.atName
      let (f, first) ← holding [ov] (getMethod ov m pl)
      callWith pos f first (backTo pos (starEach [] X.env)) (backToKw pos (keywordEach [] X.env))) := by rfl) :
    PE X (.Call (.Attribute o m apos) [] [] pos) (tMethS C m sp E ta tNil) := by
  obtain ⟨f, fd, ps, hc, hm, F, b⟩ := c.ex
  refine ⟨fun pins s σ H Q I h => ?_⟩
  refine PySem.W.methodCall_KW (pl := pl) (thn (he.run pins s σ H _ I h) fun u s1 ⟨y, H1, I1, ry, a, dx, fs, ey, ea, l, q⟩ => ?_) ht
  subst ey
  obtain rfl : u = Value.ref a := ry
  refine getmeth_ok I1 ea hc hm l ?_
  exact PySem.W.callWith_K0 (first := [.ref a]) I1.kIn hm.kp (run_fnS (us := [.ref a]) (vs := [.ref a]) F (hr.mono hk) b (hx σ) I1 (.cons rfl .nil) q)
def tMakeS (C : Addr) (sp : Sp) (E : L2.St → XK) (t : TA) : TE := fun σ H Q => t σ H fun vs H1 => ∀ x dx, H1 x = none → H1 dx = none → dx ≠ x →
  sp (.ref x :: vs) (upd (upd H1 dx (.own x)) x (.ins C dx [])) (fun v H2 => v = .non ∧ Q (.ref x) H2) (E σ)
theorem pe_k (c : Mak X.prog X.w X.K X.mg X.base k x C sp) (hr : Room j X.A) (hx : ∀ σ, PassesAt (L2.CX X.prog X.w) X σ (E σ)) (ha : PA X (e :: es) t) (hk : k + 1 ≤ j := by decide) (hg : Gl X x := by rfl)
    (hdb : (x == ("__debug__" : Str)) = false := by decide) (he : starEach (e :: es) X.env = (false, eval e X.env) :: starEach es X.env := by rfl) (hpl : (backTo pos (starEach es X.env)).any (·.1) = false := by rfl) :
    PE X (.Call (.Name x p) (e :: es) [] pos) (tMakeS C sp E t) := by
  obtain ⟨f, fd, ps, M, F, hm, b⟩ := c.ex
  refine ⟨fun pins s σ H Q I h => ?_⟩
  refine wpAny_Call_Name_kw (ld_glob I hg hm ?_ hdb)
  refine PySem.W.callWith_K (h₀ := X.base) I.ok.mod.kin M.kp (thn (ha.run pos pins s σ H _ I h) fun us s1 ⟨vs, H1, I1, r, q⟩ => ⟨I1.kIn, ?_⟩) he hpl
  have q2 := q (s1.heap.objs.size + 1) s1.heap.objs.size (I1.hok.fresh (Nat.le_succ _)) (I1.hok.fresh (Nat.le_refl _)) (Nat.ne_of_lt (Nat.lt_succ_self _))
  have I2 := Inv.made (C := C) I1
  have r2 : Vals (V.ref (s1.heap.objs.size + 1) :: vs) (Value.ref (s1.heap.objs.size + 1) :: us) := .cons rfl r
  have hl : (Value.ref (s1.heap.objs.size + 1) :: us).length = ps.length := by
    rw [← r2.length]
    exact F.len _ _ _ _ q2
  have b2 := b _ (Value.ref (s1.heap.objs.size + 1) :: us) I2.kIn (by rw [List.append_nil]; exact hl)
  rw [List.append_nil] at b2
  refine wpAny_call (make_map (f := f) I1.kIn M.makes M.init (beq_iff_eq.mp M.fn)
    (codeAny_mono (F.run _ X.stack _ _ ⟨Value.ref (s1.heap.objs.size + 1) :: us, []⟩ _ _ _ (E σ) ((hr.mono hk).make C us []) (I2.env0.make C us []) b2 r2 q2) fun res s' hq => ?_))
  cases res with
  | error err => exact hx σ pins _ _ err s' I2 hq
  | ok fl =>
    cases fl with
    | ret u =>
      obtain ⟨v, H', I3, rv, ev, q3⟩ := I2.after hq
      subst ev
      exact ⟨rv, ⟨V.ref (s1.heap.objs.size + 1), H', I3, rfl, q3⟩⟩
    | next => exact False.elim hq
    | brk => exact False.elim hq
    | cont => exact False.elim hq
end

/-! ### what the top has written: by the head's facts -/
structure Txt (fa : List He.Fa) (fn : List He.DefD) (ex : PySem.W.Frag → Bool) (K : PySem.W.Frag) (mg : Str → Option Value) : Prop where
  c : He.SaysD fa fn K
  x : ex K = true
  h : ∃ h : Heap, K.In h ∧ h.Ns mainGlobals mg
section
variable {fa : List He.Fa} {fn : List He.DefD} {ex : PySem.W.Frag → Bool} {P : Program} {w : World} {K : PySem.W.Frag} {mg : Str → Option Value} {base : Heap}
theorem Txt.glo (T : Txt fa fn ex K mg) (i : Nat) {x : Str} (e : fa[i]? = some (.glo x) := by rfl) : mg x = some (.ref (He.ga K x)) := by
  obtain ⟨h, X, G⟩ := T.h
  exact He.glo_ok X G (T.c.fact i e)
theorem Txt.free (T : Txt fa fn ex K mg) (i : Nat) {x : Str} (e : fa[i]? = some (.free x) := by rfl) : mg x = none := by
  obtain ⟨h, X, G⟩ := T.h
  exact He.free_ok X G (T.c.fact i e)
theorem Txt.int (T : Txt fa fn ex K mg) (i : Nat) {x : Str} {z : Int} (e : fa[i]? = some (.int x z) := by rfl) : ∃ u, mg x = some u ∧ RelV (.int z) u := by
  obtain ⟨h, X, G⟩ := T.h
  obtain ⟨t, q⟩ := He.int_ok X G (T.c.fact i e)
  exact ⟨_, q, t, rfl⟩
theorem Txt.str (T : Txt fa fn ex K mg) (i : Nat) {x z : Str} (e : fa[i]? = some (.str x z) := by rfl) : ∃ u, mg x = some u ∧ RelV (.str z) u := by
  obtain ⟨h, X, G⟩ := T.h
  obtain ⟨t, q⟩ := He.str_ok X G (T.c.fact i e)
  exact ⟨_, q, t, rfl⟩
theorem Txt.cls (T : Txt fa fn ex K mg) (i : Nat) {x : Str} (e : fa[i]? = some (.cls x) := by rfl) : Cls K (He.ga K x) := He.cls_ok (T.c.fact i e)
theorem Txt.noat (T : Txt fa fn ex K mg) (i : Nat) {x f : Str} (e : fa[i]? = some (.noat x f) := by rfl) : NoAttr K (He.ga K x) f := He.noat_ok (T.c.fact i e)
theorem Txt.cal (T : Txt fa fn ex K mg) (i j : Nat) {x : Str} {params : Arguments} {body : List Stmt} {scope : Scope} {N ps : List Str} {k : Nat} {sp : Sp}
    (e : fn[i]? = some ⟨(x, none), x, x, params, body, scope, [], []⟩) (g : fa[j]? = some (.glo x)) (S : FnScope N ps scope)
    (bd : ∀ (kV doc pm : Value) (an : Option Addr) (cdv ct : Value) (us : List Value), us.length = ps.length → bindArgs (PySem.W.fnOf x x params body scope .none kV doc pm an cdv ct) ⟨us, []⟩ = pure (ps.zip us))
    (len : ∀ vs H Q E, sp vs H Q E → vs.length = ps.length)
    (hbody : ∀ (cdv : Value) (A : Around) (outer : List Env) (s : Shared) (H : Hp) (vs : List V) (Q : VK) (E : XK), Room k (A.deeper (envOfC x scope s.heap.objs.size (He.ga K x) cdv)) → sp vs H Q E →
      ∃ t, PSs (cxOf (L2.CX P w) P w K mg base N x scope (He.ga K x) cdv A outer s H E) body t ∧ t { nx := fun _ H' => Q .non H', rt := Q } (start N vs) H) : Cal P w K mg base (k + 1) x sp := by
  obtain ⟨fd, F⟩ := T.c.def_ i e
  exact ⟨_, fd, ps, FunD.ok F S len hbody, T.glo j g, F.kp, FunD.bindsN F bd⟩
theorem Txt.met (T : Txt fa fn ex K mg) (i j l : Nat) {C m qual : Str} {params : Arguments} {body : List Stmt} {scope : Scope} {N ps : List Str} {k : Nat} {sp : Sp}
    (e : fn[i]? = some ⟨(C, some m), m, qual, params, body, scope, [], []⟩) (g : fa[j]? = some (.meth C m)) (gc : fa[l]? = some (.cls C)) (S : FnScope N ps scope)
    (bd : ∀ (kV doc pm : Value) (an : Option Addr) (cdv ct : Value) (us : List Value), us.length = ps.length → bindArgs (PySem.W.fnOf m qual params body scope .none kV doc pm an cdv ct) ⟨us, []⟩ = pure (ps.zip us))
    (len : ∀ vs H Q E, sp vs H Q E → vs.length = ps.length)
    (hbody : ∀ (cdv : Value) (A : Around) (outer : List Env) (s : Shared) (H : Hp) (vs : List V) (Q : VK) (E : XK), Room k (A.deeper (envOfC qual scope s.heap.objs.size (He.ma K (He.ga K C) m) cdv)) → sp vs H Q E →
      ∃ t, PSs (cxOf (L2.CX P w) P w K mg base N qual scope (He.ma K (He.ga K C) m) cdv A outer s H E) body t ∧ t { nx := fun _ H' => Q .non H', rt := Q } (start N vs) H) : Met P w K mg base (k + 1) (He.ga K C) m sp := by
  obtain ⟨fd, F⟩ := T.c.def_ i e
  exact ⟨_, fd, ps, T.cls l gc, He.meth_ok (T.c.fact j g), FunD.ok F S len hbody, FunD.bindsN F bd⟩
theorem Txt.mak (T : Txt fa fn ex K mg) (i j l : Nat) {C qual : Str} {params : Arguments} {body : List Stmt} {scope : Scope} {N ps : List Str} {k : Nat} {sp : Sp}
    (e : fn[i]? = some ⟨(C, some "__init__"), "__init__", qual, params, body, scope, [], []⟩) (g : fa[j]? = some (.mkr C)) (gc : fa[l]? = some (.glo C)) (S : FnScope N ps scope)
    (bd : ∀ (kV doc pm : Value) (an : Option Addr) (cdv ct : Value) (us : List Value), us.length = ps.length → bindArgs (PySem.W.fnOf "__init__" qual params body scope .none kV doc pm an cdv ct) ⟨us, []⟩ = pure (ps.zip us))
    (len : ∀ vs H Q E, sp vs H Q E → vs.length = ps.length)
    (hbody : ∀ (cdv : Value) (A : Around) (outer : List Env) (s : Shared) (H : Hp) (vs : List V) (Q : VK) (E : XK), Room k (A.deeper (envOfC qual scope s.heap.objs.size (He.ma K (He.ga K C) "__init__") cdv)) → sp vs H Q E →
      ∃ t, PSs (cxOf (L2.CX P w) P w K mg base N qual scope (He.ma K (He.ga K C) "__init__") cdv A outer s H E) body t ∧ t { nx := fun _ H' => Q .non H', rt := Q } (start N vs) H) : Mak P w K mg base (k + 1) C (He.ga K C) sp := by
  obtain ⟨fd, F⟩ := T.c.def_ i e
  exact ⟨_, fd, ps, He.mkr_ok (T.c.fact j g), FunD.ok F S len hbody, T.glo l gc, FunD.bindsN F bd⟩
end

/-! ### a name of the module; refusals made -/
section
variable {X : Cx} {fa : List He.Fa} {fn : List He.DefD} {ex : PySem.W.Frag → Bool}
theorem pe_gi {x : Str} {v : V} {pos : Pos} (hg : Gl X x) (h : ∃ u, X.mg x = some u ∧ RelV v u) (hd : (x == ("__debug__" : Str)) = false := by decide) : PE X (.Name x pos) (tC v) := by
  obtain ⟨u, hm, r⟩ := h
  exact pe_glob hg hm r hd
theorem pmk_x (T : Txt fa fn ex X.K X.mg) (j i : Nat) {x m : Str} {l : Nat} {p p2 pos : Pos} (e : fa[j]? = some (.exc x)) (g : fa[i]? = some (.glo x)) (hg : Gl X x := by rfl)
    (hdb : (x == ("__debug__" : Str)) = false := by decide) : PMk X (.Call (.Name x p) [.Constant (.str m) l p2] [] pos) (fun _ H Q => Q (.ref (He.ga X.K x)) none H) := by
  obtain ⟨q1, q2, q3, q4⟩ := He.exc_ok (T.c.fact j e)
  exact pmk_own PySem.F.excBase_ValueError q1 (T.glo i g) q2 (raises_own q3 q4) hg hdb
theorem Txt.exm {K : PySem.W.Frag} {mg : Str → Option Value} (T : Txt fa fn ex K mg) (i : Nat) {x y : Str} {b : Bool} (e : fa[i]? = some (.exm x y b) := by rfl) :
    PySem.W.exmOne K (.ref (He.ga K x)) (.ref (He.ga K y)) = some b := He.exm_ok (T.c.fact i e)
end

/-! ### sorted(d): a dict of ints, any number of keys -/
section
variable {X : Cx}
theorem cr_sortedD (hcalm : X.calm = true) : CallR X (.builtin "sorted") (fun xs H Q => ∃ (a : Addr) (kvs : List (Key × V)) (ks : List Int), xs = [.ref a] ∧ Rd H a (.dK kvs) ∧ kvs.map (·.1) = ks.map Sum.inl ∧
    ∀ (ys : List Int) (p : Addr), ys.Perm ks → ys.Pairwise (· ≤ ·) → H p = none → Q (.ref p) (upd H p (.lst (ys.map V.int)))) := by
  intro pins s σ H xs us Q I r q
  obtain ⟨a, kvs, ks, ex, hd, hks, q⟩ := q
  subst ex
  obtain ⟨u, eu, rx⟩ := vals1 r
  subst eu
  cases rx
  obtain ⟨z, lo, vs, rel, dd⟩ := dk_rd I.hok hd
  obtain ⟨ep, hat⟩ := dd.dictAt
  have hkeys : vs.map (·.1) = ks.map Sum.inl := rel.keys.symm.trans hks
  have hl : vs.length = ks.length := by
    have el := congrArg List.length hkeys
    rw [List.length_map, List.length_map] at el
    exact el
  have hlz : vs.length ≤ sizeLine := by
    have el := congrArg List.length hks
    rw [List.length_map, List.length_map] at el
    rw [hl, ← el]
    exact z
  refine Calls.call_function_entry PyProof.Rows.kind_sorted PyProof.Rows.plain_sorted PyProof.Rows.entry_sorted (PyProof.Rows.args_sorted1 _) ?_
  unfold Builtin.«sorted»
  refine wpAny_bind (m := checkCount "sorted" 1 1 _) (wpAny_pure ?_)
  refine wpAny_bind (PySem.W.kdu_collect (A := X.A.in1) (PySem.W.kdl_dict (knd := mixKind X.prog X.w) (kvs := vs) (ep := ep) lo)
    (I.ok.hd hcalm) hat hlz fun hp tk acc hk hacc => ?_)
  have hal : acc.toList.length = ks.length := by rw [Array.length_toList, hacc.1, hl]
  have hI : IntsAre acc.toList ks := ints_each hal fun j v ej => by
    obtain ⟨k, x, e1, e2⟩ := hacc.2 j v (by rw [← Array.getElem?_toList]; exact ej)
    have e3 : (vs.map (·.1))[j]? = some k := by
      rw [List.getElem?_map, e1]
      rfl
    rw [hkeys, List.getElem?_map] at e3
    cases e4 : ks[j]? with
    | none =>
      rw [e4] at e3
      cases e3
    | some y =>
      rw [e4] at e3
      have e5 : Sum.inl y = k := Option.some.inj e3
      subst e5
      rcases keyIs_shape (show keyIs (Sum.inl y) v = true from e2) with ⟨i, t, ek, ev⟩ | ⟨zz, t, ek, ev⟩
      · cases ek
        exact ⟨y, t, rfl, ev⟩
      · cases ek
  have J : Inv X pins σ H { s with heap := hp, toks := tk } := I.kept hk
  have hz2 : acc.toList.length ≤ sizeLine := by rw [hal, ← hl]; exact hlz
  refine wpAny_bind (wpAny_newList ?_ (by first | exact hz2 | (rw [← Array.length_toList]; exact hz2)))
  have hoL : (hp.push (seqObj "list" acc.toList.toArray 0)).get? hp.objs.size = some (seqObj "list" acc.toList.toArray 0) := Heap.get?_push_size _ rfl
  show wpAny _ _ _ _ _ { s with heap := hp.push (seqObj "list" acc.toList.toArray 0), toks := tk }
  refine wpAny_bind (wpAny_holding (wpAny_call_entry PyProof.Rows.slot_list_sort ⟨_, hoL, rfl⟩ PyProof.Rows.entry_list_sort
    (SrtO.list_sort_ord (s := { s with heap := hp.push (seqObj "list" acc.toList.toArray 0), toks := tk }) SrtO.swo_int hoL hz2
      (fun h2 => SrtO.ints_sortable hI h2) fun out g1 g2 => ⟨_, rfl, ?_⟩) (PyProof.Rows.args_list_sort _)))
  obtain ⟨k1, k2, k3⟩ := SrtO.ints_out hI g1 g2
  obtain ⟨en, he'⟩ := PyProof.Rows.sortedHeap_at (vs := acc.toList) (out := out.toArray) hoL
  have hlen : ((out.map SrtO.iv).map V.int).length ≤ sizeLine := by
    rw [List.length_map, k2.length_eq, ← hl]
    exact hlz
  refine wpAny_pure ⟨_, rfl, .ref hp.objs.size, upd H hp.objs.size (.lst ((out.map SrtO.iv).map V.int)), J.laid (t' := tk) (fun b u e => ?_) (Nat.le_refl _)
    ⟨hlen, out, en, vals_of_ints k1, he'⟩, rfl, q _ _ k2 k3 (J.hok.fresh (Nat.le_refl _))⟩
  have hb : b < hp.objs.size := Heap.lt_size e
  rw [PyProof.Rows.sortedHeap_old (Nat.ne_of_lt hb) (by rw [size_push']; exact Nat.lt_succ_of_lt hb)]
  exact Heap.get?_push_of_some _ e
end

/-! ### a def called within an except suite, handed the exception -/
section
/-- p the exception that is handled, and its object -/
structure FnP (P : Program) (w : World) (K : PySem.W.Frag) (mg : Str → Option Value) (base : Heap) (k : Nat) (f : Addr) (fd : FuncData) (ps : List Str) (sp : Addr × Obj → Sp) : Prop where
  len : ∀ p vs H Q E, sp p vs H Q E → vs.length = ps.length
  run : ∀ (A : Around) (outer : List Env) (s : Shared) (H : Hp) (args : Args) (us : List Value) (vs : List V) (Q : VK) (p : Addr × Obj), L2H.RoomH k A → L2H.PinOk outer H s p → Env0 P w K mg base A outer s H →
    BindsTo s fd args (ps.zip us) → Vals vs us → sp p vs H Q E0 → codeAny (model P w) A (.call (.ref f) args) (CR CX0 outer P w H s Q E0) s
variable {P : Program} {w : World} {K : PySem.W.Frag} {mg : Str → Option Value} {base : Heap}
theorem fn_ofP {k : Nat} {f : Addr} {name qual : Str} {params : Arguments} {body : List Stmt} {scope : Scope} {dV kV doc pm cdv ct oc : Value} {an od : Option Addr} {osl : Array (Option Value)} {N ps : List Str} {sp : Addr × Obj → Sp}
    (lk : K.lookup f = some ⟨oc, od, .func (PySem.W.fnOf name qual params body scope dV kV doc pm an cdv ct), osl⟩) (hcd : PySem.W.codeIn K cdv qual = true) (S : FnScope N ps scope) (len : ∀ p vs H Q E, sp p vs H Q E → vs.length = ps.length)
    (hbody : ∀ (A : Around) (outer : List Env) (s : Shared) (H : Hp) (vs : List V) (Q : VK) (p : Addr × Obj), L2H.RoomH k (A.deeper (envOfC qual scope s.heap.objs.size f cdv)) → sp p vs H Q E0 →
      ∃ t, PSs (L2H.cxH CX0 P w K mg base N qual scope f cdv A outer s H E0 p) body t ∧ t { nx := fun _ H' => Q .non H', rt := Q } (L2.start N vs) H) :
    FnP P w K mg base (k + 1) f (PySem.W.fnOf name qual params body scope dV kV doc pm an cdv ct) ps sp := by
  refine ⟨len, fun A outer s H args us vs Q p hr pin e0 hb r hsp => ?_⟩
  have hl := len _ _ _ _ _ hsp
  have inK : K.In s.heap := e0.mod.kin.keeps fun b o e => (e0.bs b o e).1
  have lim : s.heap.NoLimit := e0.mod.nolimit.keeps fun b o e => (e0.bs b o e).1
  have kinds : ∀ y ∈ ps.zip us, scope.names.lookup y.1 = some .local ∨
      (scope.names.lookup y.1 = some .cell ∧ ((cellsFrom (s.heap.objs.size + 1) scope.names []).lookup y.1).isSome = true) := fun ⟨n, v⟩ hy => by
    rcases S.par n (List.of_mem_zip hy).1 with q | q
    · exact .inl q
    · exact .inr ⟨q, PySem.W.cellsFrom_some _ _ _ (.inl q)⟩
  refine codeAny_call_function hr.depth (inK _ _ lk) rfl S.co S.gen rfl (PySem.W.codeRec_of inK hcd) (hb _ _ _ _ ?_)
  refine wpAny_newFunctionEnv_cells S.kind kinds fun env he s1 x => ?_
  subst he
  refine ⟨lim.keeps x.toInCall.keep, codeAny_func ?_⟩
  obtain ⟨t, ht, hq⟩ := hbody A outer s H vs Q p (hr.deeper _) hsp
  have J : Inv (L2H.cxH CX0 P w K mg base N qual scope f cdv A outer s H E0 p) [] (L2.start N vs) H s1 := L2H.inv_startH S pin e0 hl r x
  refine wpAny_mono (ht.run [] s1 (L2.start N vs) H _ J hq) (fun fl s' hs => ?_) fun e s' hs => hs
  cases fl with
  | ret u =>
    obtain ⟨v, σ', H', J', rv, q⟩ := hs
    exact ⟨v, H', J'.os, J'.bare, J'.base, J'.hok, rv, q⟩
  | next =>
    obtain ⟨σ', H', J', q⟩ := hs
    exact ⟨V.non, H', J'.os, J'.bare, J'.base, J'.hok, rfl, q⟩
  | brk =>
    obtain ⟨_, _, _, q⟩ := hs
    exact False.elim q
  | cont =>
    obtain ⟨_, _, _, q⟩ := hs
    exact False.elim q
structure CalP (P : Program) (w : World) (K : PySem.W.Frag) (mg : Str → Option Value) (base : Heap) (k : Nat) (x : Str) (sp : Addr × Obj → Sp) : Prop where
  ex : ∃ (f : Addr) (fd : FuncData) (ps : List Str), FnP P w K mg base k f fd ps sp ∧ mg x = some (.ref f) ∧ PySem.W.keepIn K (.ref f) = true ∧ Binds K fd ps []
def tCallP (sp : Addr × Obj → Sp) (p : Addr × Obj) (t : TA) : TE := fun σ H Q => t σ H fun vs H1 => sp p vs H1 Q E0
theorem roomH_mark {k : Nat} {A : Around} {m : Option Value} (r : Room k A) : L2H.RoomH k (A.mark m) := ⟨r.dp, r.un⟩
theorem pe_h {X : Cx} {k j : Nat} {a : Addr} {oe : Obj} {pn : List (Addr × Obj)} {x : Str} {sp : Addr × Obj → Sp} {q pos : Pos} {e : Expr} {es : List Expr} {t : TA} (c : CalP X.prog X.w X.K X.mg X.base k x sp) (hr : Room j X.A)
    (ha : PA (X.suite a ((a, oe) :: pn)) (e :: es) t) (hk : k ≤ j := by decide) (hg : Gl X x := by rfl) (hdb : (x == ("__debug__" : Str)) = false := by decide)
    (he : starEach (e :: es) X.env = (false, eval e X.env) :: starEach es X.env := by rfl) (hpl : (backTo pos (starEach es X.env)).any (·.1) = false := by rfl) :
    PE (X.suite a ((a, oe) :: pn)) (.Call (.Name x q) (e :: es) [] pos) (tCallP sp (a, oe) t) := by
  obtain ⟨f, fd, ps, F, hm, kp, b⟩ := c.ex
  refine ⟨fun pins s σ H Q I h => ?_⟩
  refine wpAny_Call_Name_kw (ld_glob I hg hm ?_ hdb)
  refine PySem.W.callWith_K (h₀ := X.base) I.ok.mod.kin kp (thn (ha.run pos pins s σ H _ I h) fun us s1 ⟨vs, H1, I1, r, q1⟩ => ⟨I1.kIn, ?_⟩) he hpl
  have hl : us.length = ps.length := by
    rw [← r.length]
    exact F.len _ _ _ _ _ q1
  have b2 := b s1 us I1.kIn (by rw [List.append_nil]; exact hl)
  rw [List.append_nil] at b2
  have P1 := I1.pin (a, oe) (List.mem_append_left _ List.mem_cons_self)
  have pin : L2H.PinOk X.stack H1 s1 (a, oe) :=
    ⟨P1.1, P1.2.1, fun hm => (List.mem_cons.mp (I1.stkSub a hm)).elim P1.2.2.1 P1.2.2.2.1, P1.2.2.2.2⟩
  refine wpAny_call (codeAny_mono (F.run (X.A.mark (some (.ref a))) X.stack s1 H1 ⟨us, []⟩ us vs Q (a, oe) (roomH_mark (hr.mono hk)) pin I1.env0 b2 r q1) fun res s' hq => ?_)
  cases res with
  | error err => exact False.elim hq
  | ok fl =>
    cases fl with
    | ret u => exact I1.after hq
    | next => exact False.elim hq
    | brk => exact False.elim hq
    | cont => exact False.elim hq
/-- isinstance(e, c), e the exception that is pinned -/
theorem call_isP {X : Cx} {q : Addr × Obj} {D : Addr} (hq : q ∈ X.pn) (C : ExcC X.K D) (hz : Zc (.ref D) none q.2) (hf : ∃ vs, q.2.data = .fields vs) : CallR X (.builtin "isinstance") (rIsE X.K D q.1) := by
  intro pins s σ H xs us Q I r h
  obtain ⟨c, cv, b, rfl, hcv, e, q1⟩ := h
  cases r with
  | cons rx rr =>
    cases rr with
    | cons rt rr =>
      cases rr
      cases rx
      have ec := hcv _ rt
      subst ec
      obtain ⟨there, _⟩ := I.pin q (List.mem_append.mpr (.inl hq))
      obtain ⟨vs, hv⟩ := hf
      have J : PySem.W.InstAt s.heap q.1 q.2 D none := by
        obtain ⟨qa, ⟨oc, od, oda, osl⟩⟩ := q
        obtain ⟨h1, h2⟩ := hz
        dsimp only at h1 h2 hv
        subst h1 h2 hv
        exact ⟨there, rfl, rfl, trivial⟩
      exact PySem.W.kia_one (PySem.W.handS_kitx_exc C.hg C.hk C.hs C.hd C.ha C.hn C.ht C.hm) I.kIn J e (fun z => nomatch z)
        fun tk => ⟨.bl b, H, I.kept (t' := tk) fun _ _ z => z, rfl, q1⟩
end
section
variable {fa : List He.Fa} {fn : List He.DefD} {ex : PySem.W.Frag → Bool} {P : Program} {w : World} {K : PySem.W.Frag} {mg : Str → Option Value} {base : Heap}
theorem Txt.calP (T : Txt fa fn ex K mg) (i j : Nat) {x : Str} {params : Arguments} {body : List Stmt} {scope : Scope} {N ps : List Str} {k : Nat} {sp : Addr × Obj → Sp}
    (e : fn[i]? = some ⟨(x, none), x, x, params, body, scope, [], []⟩) (g : fa[j]? = some (.glo x)) (S : FnScope N ps scope)
    (bd : ∀ (kV doc pm : Value) (an : Option Addr) (cdv ct : Value) (us : List Value), us.length = ps.length → bindArgs (PySem.W.fnOf x x params body scope .none kV doc pm an cdv ct) ⟨us, []⟩ = pure (ps.zip us))
    (len : ∀ p vs H Q E, sp p vs H Q E → vs.length = ps.length)
    (hbody : ∀ (cdv : Value) (A : Around) (outer : List Env) (s : Shared) (H : Hp) (vs : List V) (Q : VK) (p : Addr × Obj), L2H.RoomH k (A.deeper (envOfC x scope s.heap.objs.size (He.ga K x) cdv)) → sp p vs H Q E0 →
      ∃ t, PSs (L2H.cxH CX0 P w K mg base N x scope (He.ga K x) cdv A outer s H E0 p) body t ∧ t { nx := fun _ H' => Q .non H', rt := Q } (L2.start N vs) H) : CalP P w K mg base (k + 1) x sp := by
  obtain ⟨fd, F⟩ := T.c.def_ i e
  obtain ⟨oc, od, dV, kV, doc, pm, an, cdv, ct, osl, rfl, lk, hcd, _, _⟩ := F.ex
  exact ⟨_, _, ps, fn_ofP lk hcd S len fun A outer s H vs Q p hr hs => hbody cdv A outer s H vs Q p hr hs, T.glo j g, F.kp, FunD.bindsN F bd⟩
end

/-! ### the rules that speak of the written part, K named (within a comprehension's block the context is another) -/
section
variable {X : Cx} (K : PySem.W.Frag)
def rLenK : List V → Hp → VK → Prop := fun xs H Q => ∃ p ys, xs = [.ref p] ∧ (SqL K H p ys ∨ SqT K H p ys) ∧ Q (.int ys.length) H
theorem len_k (h : X.K = K := by rfl) : CallR X (.builtin "len") (rLenK K) := by
  subst h
  exact call_len_seq
theorem ix_l (h : X.K = K := by rfl) : IxR X (rIxL K) := by
  subst h
  exact ix_list
theorem ix_t (h : X.K = K := by rfl) : IxR X (rIxT K) := by
  subst h
  exact ix_tup
theorem isi_k (h : X.K = K := by rfl) : CallR X (.builtin "isinstance") (rIsi K) := by
  subst h
  exact call_isi
theorem in_k (h : X.K = K := by rfl) : OpR X (compareOp .In) (rIn K false) := by
  subst h
  exact op_in_seq
theorem notin_k (h : X.K = K := by rfl) : OpR X (compareOp .NotIn) (rIn K true) := by
  subst h
  exact op_notIn_seq
theorem eqD_k (hu : X.A.units + 64 < cLine) (h : X.K = K := by rfl) : OpR X (compareOp .Eq) (rEqD K) := by
  subst h
  exact op_eqD hu
theorem neD_k (hu : X.A.units + 64 < cLine) (h : X.K = K := by rfl) : OpR X (compareOp .NotEq) (rNeD K) := by
  subst h
  exact op_neD hu
theorem fld_k {e : Expr} {f : Str} {ta : TE} {pos : Pos} (he : PE X e ta) (hb : attributeBase e f X.env (eval e X.env) = eval e X.env) (h : X.K = K := by rfl) : PE X (.Attribute e f pos) (tFld K ta f) := by
  subst h
  exact pe_fld he hb
theorem all_k (hc : X.calm = true) (h : X.K = K := by rfl) : CallR X (.builtin "all") (rAll K) := by
  subst h
  exact cr_all hc
theorem max_k (hc : X.calm = true) (h : X.K = K := by rfl) : CallR X (.builtin "max") (rMax K) := by
  subst h
  exact cr_max hc
theorem sl_k (h : X.K = K := by rfl) : SlR X (rSlL K) := by
  subst h
  exact sl_list
def rListK : List V → Hp → VK → Prop := fun xs H Q => ∃ p ys, xs = [.ref p] ∧ (SqL K H p ys ∨ SqT K H p ys) ∧ ∀ l, H l = none → Q (.ref l) (upd H l (.lst ys))
theorem list_k (h : X.K = K := by rfl) : CallR X (.type "list") (rListK K) := by
  subst h
  exact call_list_of
theorem idx_k (h : X.K = K := by rfl) : MtR X "list.index" (rIndex K) := by
  subst h
  exact mt_index
theorem pi_l {tg e : Expr} {ta : TE} (he : PE X e ta) (h : X.K = K := by rfl) : PI X tg e (iList K ta) := by
  subst h
  exact pi_list he
theorem pi_t {tg e : Expr} {ta : TE} (he : PE X e ta) (h : X.K = K := by rfl) : PI X tg e (iTup K ta) := by
  subst h
  exact pi_tup he
end

/-! ### a call in an except suite, told of the exception's class -/
def tCallZ (sp : Addr × Obj → Sp) (a : Addr) (cls : Value) (d : Option Addr) (t : TA) : TE := fun σ H Q => ∀ oe, Zc cls d oe → (∃ vs, oe.data = .fields vs) → t σ H fun vs H1 => sp (a, oe) vs H1 Q E0
theorem pe_hz {X : Cx} {k j : Nat} {a : Addr} {oe : Obj} {cls : Value} {d : Option Addr} {pn : List (Addr × Obj)} {x : Str} {sp : Addr × Obj → Sp} {q pos : Pos} {e : Expr} {es : List Expr} {t : TA} (c : CalP X.prog X.w X.K X.mg X.base k x sp) (hr : Room j X.A)
    (hz : Zc cls d oe) (hf : ∃ vs, oe.data = .fields vs) (ha : PA (X.suite a ((a, oe) :: pn)) (e :: es) t) (hk : k ≤ j := by decide) (hg : Gl X x := by rfl) (hdb : (x == ("__debug__" : Str)) = false := by decide)
    (he : starEach (e :: es) X.env = (false, eval e X.env) :: starEach es X.env := by rfl) (hpl : (backTo pos (starEach es X.env)).any (·.1) = false := by rfl) :
    PE (X.suite a ((a, oe) :: pn)) (.Call (.Name x q) (e :: es) [] pos) (tCallZ sp a cls d t) :=
  ⟨fun pins s σ H Q I h => (pe_h c hr ha hk hg hdb he hpl).run pins s σ H Q I (h oe hz hf)⟩
/-! ### the refusals' classes: what isinstance asks of them -/
def excs : List Str := ["NoTrain", "NoStretch", "NoSeat", "NoStop", "NoLeg", "NoTicket", "Full", "Shared", "NoText"]
def excB (K : PySem.W.Frag) (D : Addr) : Bool :=
  He.eqO (PySem.W.findIn K (.ref D) "__getattribute__") (some (some (.builtin "BaseException.__getattribute__"))) && (He.eqO (PySem.W.findIn K (.ref D) "__getattr__") (some none) &&
  (decide (PySem.W.subIn K (.ref D) (.type "BaseException") = some true) && (PySem.W.hasDictIn K D && (He.eqO (PySem.W.findIn K (.ref D) "__class__") (some (some (.builtin "object.__class__"))) &&
  (He.eqO (PySem.W.specialIn K (.builtin "object.__class__") "__get__") (some (some (.builtin "getset_descriptor.__get__"))) && (decide (PySem.W.takesIn K (.builtin "object.__class__") = some true) && decide (PySem.W.mroIn K D (.type "object") = some true)))))))
theorem excB_ok {K : PySem.W.Frag} {D : Addr} (h : excB K D = true) : ExcC K D := by
  obtain ⟨h1, h⟩ := He.ba h
  obtain ⟨h2, h⟩ := He.ba h
  obtain ⟨h3, h⟩ := He.ba h
  obtain ⟨h4, h⟩ := He.ba h
  obtain ⟨h5, h⟩ := He.ba h
  obtain ⟨h6, h⟩ := He.ba h
  obtain ⟨h7, h8⟩ := He.ba h
  exact ⟨He.eqO_ok h1, He.eqO_ok h2, of_decide_eq_true h3, h4, He.eqO_ok h5, He.eqO_ok h6, of_decide_eq_true h7, of_decide_eq_true h8⟩
def excAll (K : PySem.W.Frag) : Bool := excs.all fun D => excB K (He.ga K D) && ((excs.all fun C => decide (PySem.W.kitOne K (.ref (He.ga K D)) (.ref (He.ga K C)) = some (decide (D = C)))) && decide (PySem.W.kitOne K (.ref (He.ga K D)) (.type "ValueError") = some true))
theorem excAll_ok {K : PySem.W.Frag} (h : excAll K = true) {D : Str} (hD : D ∈ excs) : ExcC K (He.ga K D) ∧ (∀ C ∈ excs, PySem.W.kitOne K (.ref (He.ga K D)) (.ref (He.ga K C)) = some (decide (D = C))) ∧ PySem.W.kitOne K (.ref (He.ga K D)) (.type "ValueError") = some true := by
  obtain ⟨h1, h2⟩ := He.ba (List.all_eq_true.mp h D hD)
  obtain ⟨h3, h4⟩ := He.ba h2
  exact ⟨excB_ok h1, fun C hC => of_decide_eq_true (List.all_eq_true.mp h3 C hC), of_decide_eq_true h4⟩
/-- one look: if isinstance(e, C): words.append(w) -/
theorem cls_step {K : PySem.W.Frag} {D a l C : Addr} {w : Str} {ws : List V} {b : Bool} {n : Nat} {E : Ends} {H : Hp} (hl : H l = some (.lst ws)) (hz : ws.length ≤ n) (hn : n ≤ 100) (hk : PySem.W.kitOne K (.ref D) (.ref C) = some b)
    (k : ∀ H', (∀ c o, c ≠ l → H c = some o → H' c = some o) → H' l = some (.lst (if b = true then ws ++ [.str w] else ws)) → (if b = true then ws ++ [V.str w] else ws).length ≤ n + 1 → E.nx [some (.ref a), some (.ref l)] H') :
    tIfS (tB (tCB (rIsE K D a) (tCons (tVar 0) (tCons (tC (.ref C)) tNil)))) (tDrop (tBM K "list" rAppend (tVar 1) (tCons (tC (.str w)) tNil))) tNext E [some (.ref a), some (.ref l)] H := by
  refine ⟨_, rfl, _, .ref C, b, rfl, fun u r => r, hk, _, rfl, ?_⟩
  cases b with
  | true =>
    refine iteT ?_
    refine ⟨_, rfl, .inl ⟨rfl, _, SqL.of hl⟩, l, ws, _, rfl, rfl, hl, Nat.lt_of_le_of_lt (Nat.le_trans hz hn) (by decide), ?_⟩
    refine k _ (fun c o hc ho => ?_) upd_same (by rw [if_pos rfl, List.length_append]; exact Nat.add_le_add_right hz 1)
    rw [upd_ne hc]
    exact ho
  | false => exact iteF (k H (fun _ _ _ h => h) hl (Nat.le_succ_of_le hz))
def excP : List (Str × Str) := [("NoTrain", "train"), ("NoStretch", "stretch"), ("NoSeat", "seat"), ("NoStop", "stop"), ("NoLeg", "leg"), ("NoTicket", "ticket"), ("Full", "full"), ("Shared", "shared"), ("NoText", "text")]
def excW (D : Str) : Str := (excP.lookup D).getD "other"
def wordsOf (D : Str) : List V := excP.foldl (fun ws x => if decide (D = x.1) = true then ws ++ [V.str x.2] else ws) []
theorem wordsOf_eq : ∀ D ∈ excs, wordsOf D = [.str (excW D)] := by decide +kernel
/-- _law_class(e), e the exception that is held -/
def spClass (K : PySem.W.Frag) : Addr × Obj → Sp := fun p vs H Q _ => ∃ D, D ∈ excs ∧ vs = [.ref p.1] ∧ Zc (.ref (He.ga K D)) none p.2 ∧ (∃ vs, p.2.data = .fields vs) ∧ ∀ H', Evl.Ex H H' → Q (.str (excW D)) H'
end Lg

namespace Lg
open PySem PySem.Spec PyProof.Rows L2
abbrev Ex := Evl.Ex

/-! ### lists in step -/
structure All2 {α β : Type} (R : α → β → Prop) (xs : List α) (ys : List β) : Prop where
  len : xs.length = ys.length
  at_ : ∀ (i : Nat) (x : α) (y : β), xs[i]? = some x → ys[i]? = some y → R x y
section
variable {α β γ : Type} {R R' : α → β → Prop} {xs : List α} {ys : List β}
theorem All2.nil : All2 R [] [] := ⟨rfl, fun i x y h => by simp at h⟩
theorem All2.mono (h : All2 R xs ys) (f : ∀ x y, R x y → R' x y) : All2 R' xs ys := ⟨h.len, fun i x y a b => f x y (h.at_ i x y a b)⟩
theorem All2.monoM (h : All2 R xs ys) (f : ∀ x y, x ∈ xs → y ∈ ys → R x y → R' x y) : All2 R' xs ys :=
  ⟨h.len, fun i x y a b => f x y (List.mem_of_getElem? a) (List.mem_of_getElem? b) (h.at_ i x y a b)⟩
theorem All2.left (h : All2 R xs ys) {i : Nat} {x : α} (e : xs[i]? = some x) : ∃ y, ys[i]? = some y ∧ R x y := by
  have hi : i < xs.length := (List.getElem?_eq_some_iff.mp e).1
  have hj : i < ys.length := by rw [← h.len]; exact hi
  exact ⟨ys[i], List.getElem?_eq_getElem hj, h.at_ i x _ e (List.getElem?_eq_getElem hj)⟩
theorem All2.right (h : All2 R xs ys) {i : Nat} {y : β} (e : ys[i]? = some y) : ∃ x, xs[i]? = some x ∧ R x y := by
  have hi : i < ys.length := (List.getElem?_eq_some_iff.mp e).1
  have hj : i < xs.length := by rw [h.len]; exact hi
  exact ⟨xs[i], List.getElem?_eq_getElem hj, h.at_ i _ y (List.getElem?_eq_getElem hj) e⟩
theorem All2.snoc (h : All2 R xs ys) {x : α} {y : β} (r : R x y) : All2 R (xs ++ [x]) (ys ++ [y]) := by
  refine ⟨by rw [List.length_append, List.length_append, h.len]; rfl, fun i a b ha hb => ?_⟩
  by_cases hi : i < xs.length
  · rw [List.getElem?_append_left hi] at ha
    rw [List.getElem?_append_left (by rw [← h.len]; exact hi)] at hb
    exact h.at_ i a b ha hb
  · rw [List.getElem?_append_right (by omega)] at ha
    rw [List.getElem?_append_right (by rw [← h.len]; omega)] at hb
    rw [h.len] at ha
    cases e : i - ys.length with
    | zero =>
      rw [e] at ha hb
      cases ha
      cases hb
      exact r
    | succ n =>
      rw [e] at ha
      simp at ha
theorem All2.set (h : All2 R xs ys) {i : Nat} {x : α} {y : β} (r : R x y) : All2 R (xs.set i x) (ys.set i y) := by
  refine ⟨by rw [List.length_set, List.length_set]; exact h.len, fun j a b ha hb => ?_⟩
  rw [List.getElem?_set] at ha hb
  by_cases e : i = j
  · rw [if_pos e] at ha hb
    by_cases hl : i < xs.length
    · have hl2 : i < ys.length := by rw [← h.len]; exact hl
      rw [if_pos hl] at ha
      rw [if_pos hl2] at hb
      cases ha
      cases hb
      exact r
    · rw [if_neg hl] at ha
      cases ha
  · rw [if_neg e] at ha hb
    exact h.at_ j a b ha hb
theorem All2.cons {x : α} {y : β} (r : R x y) (h : All2 R xs ys) : All2 R (x :: xs) (y :: ys) := by
  refine ⟨by rw [List.length_cons, List.length_cons, h.len], fun i a b ha hb => ?_⟩
  cases i with
  | zero =>
    cases ha
    cases hb
    exact r
  | succ n => exact h.at_ n a b (by simpa using ha) (by simpa using hb)
theorem All2.tail {x : α} {y : β} (h : All2 R (x :: xs) (y :: ys)) : R x y ∧ All2 R xs ys :=
  ⟨h.at_ 0 x y rfl rfl, ⟨by have := h.len; simpa using this, fun i a b ha hb => h.at_ (i + 1) a b (by simpa using ha) (by simpa using hb)⟩⟩
theorem All2.erase (h : All2 R xs ys) (i : Nat) : All2 R (xs.eraseIdx i) (ys.eraseIdx i) := by
  refine ⟨by rw [List.length_eraseIdx, List.length_eraseIdx, h.len], fun j a b ha hb => ?_⟩
  rw [List.getElem?_eraseIdx] at ha hb
  split at ha
  · rename_i c
    rw [if_pos c] at hb
    exact h.at_ j a b ha hb
  · rename_i c
    rw [if_neg c] at hb
    exact h.at_ (j + 1) a b ha hb
theorem All2.map_eq {f : β → α} (h : All2 (fun x y => x = f y) xs ys) : xs = ys.map f := by
  apply List.ext_getElem?
  intro i
  rw [List.getElem?_map]
  cases e : ys[i]? with
  | none =>
    have : ys.length ≤ i := List.getElem?_eq_none_iff.mp e
    exact List.getElem?_eq_none_iff.mpr (by rw [h.len]; exact this)
  | some y =>
    obtain ⟨x, ex, r⟩ := h.right e
    rw [ex, r]
    rfl
theorem All2.of_map (f : β → α) (ys : List β) (h : ∀ y ∈ ys, R (f y) y) : All2 R (ys.map f) ys := by
  refine ⟨by rw [List.length_map], fun i x y hx hy => ?_⟩
  rw [List.getElem?_map, hy] at hx
  cases hx
  exact h y (List.mem_of_getElem? hy)
theorem All2.mem_left (h : All2 R xs ys) {x : α} (m : x ∈ xs) : ∃ y ∈ ys, R x y := by
  obtain ⟨i, hi, e⟩ := List.mem_iff_getElem.mp m
  obtain ⟨y, ey, r⟩ := h.left (i := i) (x := x) (by rw [List.getElem?_eq_getElem hi, e])
  exact ⟨y, List.mem_of_getElem? ey, r⟩
end

/-! ### values and lists on the heap -/
/-- who holds a leg -/
def oV : Option Nat → V
  | none => .non
  | some t => .int (t : Int)
theorem oV_none {x : Option Nat} : decide (oV x = V.non) = x.isNone := by
  cases x with
  | none => exact decide_eq_true rfl
  | some t => exact decide_eq_false (fun h => nomatch h)
theorem oV_inj {x y : Option Nat} : oV x = oV y ↔ x = y := by
  cases x with
  | none => cases y with
    | none => exact ⟨fun _ => rfl, fun _ => rfl⟩
    | some u => exact ⟨fun h => (by cases h), fun h => (by cases h)⟩
  | some t => cases y with
    | none => exact ⟨fun h => (by cases h), fun h => (by cases h)⟩
    | some u =>
      refine ⟨fun h => ?_, fun h => by rw [h]⟩
      have h2 : (t : Int) = (u : Int) := V.int.inj h
      rw [Int.ofNat_inj.mp h2]
theorem oV_scal (x y : Option Nat) : scal (oV x) (oV y) = true := by
  cases x <;> cases y <;> rfl
def RowAt (H : Hp) (a : Addr) (row : List (Option Nat)) : Prop := H a = some (.lst (row.map oV))
abbrev Grid := List (List (Option Nat))
/-- a list of lists of holders at v -/
structure GridAt (H : Hp) (a : Addr) (as : List Addr) (g : Grid) : Prop where
  top : H a = some (.lst (as.map V.ref))
  row : All2 (RowAt H) as g
theorem GridAt.mono {H H' : Hp} {a : Addr} {as : List Addr} {g : Grid} (e : Ex H H') (h : GridAt H a as g) : GridAt H' a as g :=
  ⟨e _ _ h.top, h.row.mono fun _ _ r => e _ _ r⟩
abbrev P3 := Nat × Nat × Nat
def pV (p : P3) : List V := [.int p.1, .int p.2.1, .int p.2.2]
def PartAt (H : Hp) (t : Addr) (p : P3) : Prop := H t = some (.tup (pV p))
/-- a list of parts at l -/
def PartsAt (H : Hp) (l : Addr) (ps : List P3) : Prop := ∃ ts : List Addr, H l = some (.lst (ts.map V.ref)) ∧ All2 (PartAt H) ts ps
theorem PartsAt.mono {H H' : Hp} {l : Addr} {ps : List P3} (e : Ex H H') (h : PartsAt H l ps) : PartsAt H' l ps := by
  obtain ⟨ts, a, b⟩ := h
  exact ⟨ts, e _ _ a, b.mono fun _ _ r => e _ _ r⟩
theorem map_get {α β : Type} {f : α → β} {l : List α} {i : Nat} {x : α} (h : l[i]? = some x) : (l.map f)[i]? = some (f x) := by
  rw [List.getElem?_map, h]
  rfl
theorem map_back {α β : Type} {f : α → β} {l : List α} {i : Nat} {y : β} (h : (l.map f)[i]? = some y) : ∃ x, l[i]? = some x ∧ y = f x := by
  rw [List.getElem?_map] at h
  cases e : l[i]? with
  | none =>
    rw [e] at h
    cases h
  | some x =>
    rw [e] at h
    exact ⟨x, rfl, (Option.some.inj h).symm⟩
theorem lt_of_get {α : Type} {l : List α} {i : Nat} {x : α} (h : l[i]? = some x) : i < l.length := (List.getElem?_eq_some_iff.mp h).1

/-! ### what legs.py reckons -/
/-- how far a row of legs is free -/
def reach (row : List (Option Nat)) (s : Nat) : Nat := s + ((row.drop s).takeWhile Option.isNone).length
theorem reach_yes {row : List (Option Nat)} {s : Nat} (h : row[s]? = some none) : reach row s = reach row (s + 1) := by
  have hl := lt_of_get h
  have e : row.drop s = none :: row.drop (s + 1) := by
    rw [List.drop_eq_getElem_cons hl]
    have : row[s] = none := by
      have := List.getElem?_eq_getElem hl
      rw [this] at h
      exact Option.some.inj h
    rw [this]
  unfold reach
  rw [e]
  show s + (List.takeWhile Option.isNone (none :: List.drop (s + 1) row)).length = _
  rw [List.takeWhile_cons]
  simp only [Option.isNone_none, if_true, List.length_cons]
  omega
theorem reach_no {row : List (Option Nat)} {s t : Nat} (h : row[s]? = some (some t)) : reach row s = s := by
  have hl := lt_of_get h
  have e : row.drop s = some t :: row.drop (s + 1) := by
    rw [List.drop_eq_getElem_cons hl]
    have : row[s] = some t := by
      have := List.getElem?_eq_getElem hl
      rw [this] at h
      exact Option.some.inj h
    rw [this]
  unfold reach
  rw [e]
  show s + (List.takeWhile Option.isNone (some t :: List.drop (s + 1) row)).length = _
  rw [List.takeWhile_cons]
  simp
theorem reach_out {row : List (Option Nat)} {s : Nat} (h : row.length ≤ s) : reach row s = s := by
  unfold reach
  rw [List.drop_eq_nil_of_le h]
  rfl
theorem reach_ge (row : List (Option Nat)) (s : Nat) : s ≤ reach row s := Nat.le_add_right _ _
theorem reach_le {row : List (Option Nat)} {s : Nat} (h : s ≤ row.length) : reach row s ≤ row.length := by
  unfold reach
  have := (List.takeWhile_sublist (l := row.drop s) Option.isNone).length_le
  rw [List.length_drop] at this
  omega
/-- a leg is held -/
def held (row : List (Option Nat)) (leg : Nat) : Bool := ((row[leg]?).getD none).isSome
/-- a leg on which each seat is held -/
def fullLeg (g : Grid) (leg : Nat) : Bool := g.all fun row => held row leg
/-- the first full leg -/
def firstFull (g : Grid) (b e : Nat) : Option Nat := (List.range' b (e - b)).find? (fullLeg g)
/-- how many seats are held -/
def load (g : Grid) (leg : Nat) : Nat := (g.filter fun row => held row leg).length
/-- the best seat, and how far it leads: from the seat number k on, best and far so far -/
def bestFrom (s e : Nat) : Grid → Nat → Nat → Nat → Nat × Nat
  | [], _, best, far => (best, far)
  | row :: g, k, best, far => if far < min (reach row s) e then bestFrom s e g (k + 1) k (min (reach row s) e) else bestFrom s e g (k + 1) best far
def bestSeat (g : Grid) (s e : Nat) : Nat × Nat := bestFrom s e g 0 0 s
/-- the parts found: n turns at most -/
def foundN (g : Grid) (e : Nat) : Nat → Nat → List P3
  | 0, _ => []
  | n + 1, s => if s < e then
      (if (bestSeat g s e).2 = s then [] else ((bestSeat g s e).1, s, (bestSeat g s e).2) :: foundN g e n (bestSeat g s e).2)
    else []
def found (g : Grid) (b e : Nat) : List P3 := foundN g e (e - b) b
/-- a leg is given to a holder -/
def setCell (g : Grid) (seat leg : Nat) (h : Option Nat) : Grid := g.set seat ((g[seat]?.getD []).set leg h)
def markPart (g : Grid) (h : Option Nat) (p : P3) : Grid := (List.range' p.2.1 (p.2.2 - p.2.1)).foldl (fun g leg => setCell g p.1 leg h) g
def markAll (g : Grid) (ps : List P3) (h : Option Nat) : Grid := ps.foldl (fun g p => markPart g h p) g

/-! ### a train -/
structure Tr where
  stops : Nat
  rows : Grid
  sold : List (Nat × List P3)
  coming : Nat
structure Tr.Wf (T : Tr) : Prop where
  s1 : 1 ≤ T.rows.length
  s2 : T.rows.length ≤ 60
  t1 : 2 ≤ T.stops
  t2 : T.stops ≤ 60
  legs : ∀ row ∈ T.rows, row.length = T.stops - 1
  rising : (T.sold.map (·.1)).Pairwise (· < ·)
def Tr.new (seats stops : Nat) : Tr := ⟨stops, List.replicate seats (List.replicate (stops - 1) none), [], 0⟩
/-- a train's attributes -/
def trF (stops : Nat) (r d : Addr) (coming : Nat) : List (Str × V) := [("stops", .int stops), ("rows", .ref r), ("sold", .ref d), ("coming", .int coming)]
theorem kne1 : (("rows" : Str) == ("stops" : Str)) = false := by decide +kernel
theorem kne2 : (("sold" : Str) == ("stops" : Str)) = false := by decide +kernel
theorem kne3 : (("sold" : Str) == ("rows" : Str)) = false := by decide +kernel
theorem kne4 : (("coming" : Str) == ("stops" : Str)) = false := by decide +kernel
theorem kne5 : (("coming" : Str) == ("rows" : Str)) = false := by decide +kernel
theorem kne6 : (("coming" : Str) == ("sold" : Str)) = false := by decide +kernel
section
variable {s c : Nat} {r d : Addr}
theorem lk_stops : (trF s r d c).lookup ("stops" : Str) = some (.int s) := by
  show List.lookup _ _ = _
  rw [trF, List.lookup_cons]
  simp
theorem lk_rows : (trF s r d c).lookup ("rows" : Str) = some (.ref r) := by
  rw [trF, List.lookup_cons, kne1, List.lookup_cons]
  simp
theorem lk_sold : (trF s r d c).lookup ("sold" : Str) = some (.ref d) := by
  rw [trF, List.lookup_cons, kne2, List.lookup_cons, kne3, List.lookup_cons]
  simp
theorem lk_coming : (trF s r d c).lookup ("coming" : Str) = some (.int c) := by
  rw [trF, List.lookup_cons, kne4, List.lookup_cons, kne5, List.lookup_cons, kne6, List.lookup_cons]
  simp
theorem trF_no {m : Str} (h1 : (m == ("stops" : Str)) = false) (h2 : (m == ("rows" : Str)) = false) (h3 : (m == ("sold" : Str)) = false) (h4 : (m == ("coming" : Str)) = false) : (trF s r d c).lookup m = none := by
  rw [trF, List.lookup_cons, h1, List.lookup_cons, h2, List.lookup_cons, h3, List.lookup_cons, h4]
  rfl
theorem put_coming {n : Nat} : putF "coming" (.int n) (trF s r d c) = trF s r d n := by
  have e1 : ¬ ("stops" : Str) = "coming" := by decide +kernel
  have e2 : ¬ ("rows" : Str) = "coming" := by decide +kernel
  have e3 : ¬ ("sold" : Str) = "coming" := by decide +kernel
  simp [trF, putF, e1, e2, e3]
theorem put_all : putF "coming" (.int c) (putF "sold" (.ref d) (putF "rows" (.ref r) (putF "stops" (.int s) []))) = trF s r d c := by
  have e1 : ¬ ("stops" : Str) = "rows" := by decide +kernel
  have e2 : ¬ ("stops" : Str) = "sold" := by decide +kernel
  have e3 : ¬ ("rows" : Str) = "sold" := by decide +kernel
  have e4 : ¬ ("stops" : Str) = "coming" := by decide +kernel
  have e5 : ¬ ("rows" : Str) = "coming" := by decide +kernel
  have e6 : ¬ ("sold" : Str) = "coming" := by decide +kernel
  simp [trF, putF, e1, e2, e3, e4, e5, e6]
end
/-- a ticket sold: its number, where its list of parts stands, the parts -/
abbrev Ent := Nat × Addr × List P3
def entS (ent : List Ent) : List (Nat × List P3) := ent.map fun e => (e.1, e.2.2)
/-- the dict of the tickets sold -/
def entD (ent : List Ent) : List (Key × V) := ent.map fun e => (Sum.inl (e.1 : Int), V.ref e.2.1)
structure TrRaw (K : PySem.W.Frag) (H : Hp) (p : Addr) (T : Tr) (r d : Addr) (as : List Addr) (ent : List Ent) : Prop where
  wf : T.Wf
  ins : ∃ dx, H p = some (.ins (He.ga K "Train") dx (trF T.stops r d T.coming))
  grid : GridAt H r as T.rows
  nd : as.Nodup
  ra : r ∉ as
  sold : T.sold = entS ent
  dict : H d = some (.dK (entD ent))
  prt : ∀ e ∈ ent, PartsAt H e.2.1 e.2.2
  la : ∀ e ∈ ent, e.2.1 ∉ as
/-- a train at p, all that it leans on within S -/
def TrainAt (K : PySem.W.Frag) (H : Hp) (S : Addr → Prop) (p : Addr) (T : Tr) : Prop :=
  ∃ r d as ent, TrRaw K H p T r d as ent ∧ S p ∧ S r ∧ S d ∧ (∀ a ∈ as, S a) ∧ ∀ e ∈ ent, S e.2.1
/-- what stands beside S is kept, all tuples are; S' is S or new -/
structure Mv (H H' : Hp) (S S' : Addr → Prop) : Prop where
  keep : ∀ a o, ¬ S a → H a = some o → H' a = some o
  tups : ∀ a xs, H a = some (.tup xs) → H' a = some (.tup xs)
  new : ∀ a, S' a → S a ∨ H a = none
theorem Mv.refl (H : Hp) (S : Addr → Prop) : Mv H H S S := ⟨fun _ _ _ h => h, fun _ _ h => h, fun _ h => .inl h⟩
theorem Mv.trans {H H1 H2 : Hp} {S S1 S2 : Addr → Prop} (a : Mv H H1 S S1) (b : Mv H1 H2 S1 S2) : Mv H H2 S S2 where
  keep := fun x o hs hx => by
    have h1 := a.keep x o hs hx
    refine b.keep x o (fun hc => ?_) h1
    rcases a.new x hc with z | z
    · exact hs z
    · rw [hx] at z
      cases z
  tups := fun x xs h => b.tups x xs (a.tups x xs h)
  new := fun x h => by
    rcases b.new x h with z | z
    · exact a.new x z
    · by_cases hs : S x
      · exact .inl hs
      · refine .inr ?_
        cases q : H x with
        | none => rfl
        | some o =>
          rw [a.keep x o hs q] at z
          cases z
theorem Mv.ex {H H' : Hp} {S : Addr → Prop} (e : Ex H H') : Mv H H' S S := ⟨fun a o _ h => e a o h, fun a xs h => e a _ h, fun _ h => .inl h⟩
theorem TrainAt.mono {K : PySem.W.Frag} {H H' : Hp} {S : Addr → Prop} {p : Addr} {T : Tr} (h : TrainAt K H S p T) (k : ∀ a o, S a → H a = some o → H' a = some o) (kt : ∀ a xs, H a = some (.tup xs) → H' a = some (.tup xs)) : TrainAt K H' S p T := by
  obtain ⟨r, d, as, ent, R, sp, sr, sd, sa, sl⟩ := h
  obtain ⟨dx, e⟩ := R.ins
  refine ⟨r, d, as, ent, ⟨R.wf, ⟨dx, k _ _ sp e⟩, ⟨k _ _ sr R.grid.top, R.grid.row.monoM fun a _ m _ q => k _ _ (sa a m) q⟩, R.nd, R.ra, R.sold, k _ _ sd R.dict, fun x m => ?_, R.la⟩, sp, sr, sd, sa, sl⟩
  obtain ⟨ts, q1, q2⟩ := R.prt x m
  exact ⟨ts, k _ _ (sl x m) q1, q2.mono fun t y z => kt _ _ z⟩
theorem TrainAt.ex {K : PySem.W.Frag} {H H' : Hp} {S : Addr → Prop} {p : Addr} {T : Tr} (h : TrainAt K H S p T) (e : Ex H H') : TrainAt K H' S p T := h.mono (fun a o _ q => e a o q) fun a xs q => e a _ q
theorem TrainAt.wf {K : PySem.W.Frag} {H : Hp} {S : Addr → Prop} {p : Addr} {T : Tr} (h : TrainAt K H S p T) : T.Wf := by
  obtain ⟨r, d, as, ls, R, _⟩ := h
  exact R.wf
theorem TrainAt.ins {K : PySem.W.Frag} {H : Hp} {S : Addr → Prop} {p : Addr} {T : Tr} (h : TrainAt K H S p T) : ∃ dx r d, H p = some (.ins (He.ga K "Train") dx (trF T.stops r d T.coming)) := by
  obtain ⟨r, d, as, ls, R, _⟩ := h
  obtain ⟨dx, e⟩ := R.ins
  exact ⟨dx, r, d, e⟩
/-- S may be taken as small as what is tracked -/
theorem TrainAt.there {K : PySem.W.Frag} {H : Hp} {S : Addr → Prop} {p : Addr} {T : Tr} (h : TrainAt K H S p T) : ∃ S', (∀ a, S' a → S a ∧ ∃ o, H a = some o) ∧ TrainAt K H S' p T := by
  obtain ⟨r, d, as, ent, R, sp, sr, sd, sa, sl⟩ := h
  obtain ⟨dx, e⟩ := R.ins
  refine ⟨fun a => a = p ∨ a = r ∨ a = d ∨ a ∈ as ∨ ∃ x ∈ ent, x.2.1 = a, fun a q => ?_, r, d, as, ent, R, .inl rfl, .inr (.inl rfl), .inr (.inr (.inl rfl)), fun a m => .inr (.inr (.inr (.inl m))), fun x m => .inr (.inr (.inr (.inr ⟨x, m, rfl⟩)))⟩
  rcases q with rfl | rfl | rfl | m | ⟨x, m, rfl⟩
  · exact ⟨sp, _, e⟩
  · exact ⟨sr, _, R.grid.top⟩
  · exact ⟨sd, _, R.dict⟩
  · obtain ⟨y, _, q⟩ := R.grid.row.mem_left m
    exact ⟨sa a m, _, q⟩
  · obtain ⟨ts, q, _⟩ := R.prt x m
    exact ⟨sl x m, _, q⟩

/-! ### promises of legs.py and Train -/
/-- a refusal's class -/
abbrev cls (K : PySem.W.Frag) (x : Str) : Value := .ref (He.ga K x)
def spReach (K : PySem.W.Frag) : Sp := fun vs H Q _ => ∃ (a : Addr) (row : List (Option Nat)) (s : Nat), vs = [.ref a, .int s] ∧ SqL K H a (row.map oV) ∧ Q (.int (reach row s)) H
def spFirstFull : Sp := fun vs H Q _ => ∃ (r : Addr) (as : List Addr) (g : Grid) (b e : Nat), vs = [.ref r, .int b, .int e] ∧ GridAt H r as g ∧ g.length ≤ 1000 ∧ e ≤ 1000 ∧ b ≤ 1000 ∧ (∀ row ∈ g, e ≤ row.length) ∧
  ∀ H', Ex H H' → Q (oV (firstFull g b e)) H'
def Str3 (T : Tr) (b e : Int) : Prop := 0 ≤ b ∧ b < e ∧ e < T.stops
def spInit (K : PySem.W.Frag) : Sp := fun vs H Q E => ∃ (p dx : Addr) (a b : Int), vs = [.ref p, .int a, .int b] ∧ H p = some (.ins (He.ga K "Train") dx []) ∧
  ((1 ≤ a ∧ a ≤ 60 ∧ 2 ≤ b ∧ b ≤ 60) → ∀ H' S, (∀ q o, q ≠ p → H q = some o → H' q = some o) → (∀ q, S q → q = p ∨ H q = none) → TrainAt K H' S p (Tr.new a.toNat b.toNat) → Q .non H') ∧
  (¬ (1 ≤ a ∧ a ≤ 60 ∧ 2 ≤ b ∧ b ≤ 60) → E (cls K "NoTrain") none H)
def spSize (K : PySem.W.Frag) : Sp := fun vs H Q _ => ∃ (S : Addr → Prop) (p : Addr) (T : Tr), vs = [.ref p] ∧ TrainAt K H S p T ∧ ∀ t, H t = none → Q (.ref t) (upd H t (.tup [.int T.rows.length, .int T.stops]))
def spTickets (K : PySem.W.Frag) : Sp := fun vs H Q _ => ∃ (S : Addr → Prop) (p : Addr) (T : Tr), vs = [.ref p] ∧ TrainAt K H S p T ∧
  ∀ l, H l = none → Q (.ref l) (upd H l (.lst (T.sold.map fun x => .int (x.1 : Int))))
def spNeedStretch (K : PySem.W.Frag) : Sp := fun vs H Q E => ∃ (S : Addr → Prop) (p : Addr) (T : Tr) (b e : Int), vs = [.ref p, .int b, .int e] ∧ TrainAt K H S p T ∧ (Str3 T b e → Q .non H) ∧ (¬ Str3 T b e → E (cls K "NoStretch") none H)
def spNeedSeat (K : PySem.W.Frag) : Sp := fun vs H Q E => ∃ (S : Addr → Prop) (p : Addr) (T : Tr) (s : Int), vs = [.ref p, .int s] ∧ TrainAt K H S p T ∧ ((0 ≤ s ∧ s < T.rows.length) → Q .non H) ∧ (¬ (0 ≤ s ∧ s < T.rows.length) → E (cls K "NoSeat") none H)
def spNeedLeg (K : PySem.W.Frag) : Sp := fun vs H Q E => ∃ (S : Addr → Prop) (p : Addr) (T : Tr) (s : Int), vs = [.ref p, .int s] ∧ TrainAt K H S p T ∧ ((0 ≤ s ∧ s < (T.stops : Int) - 1) → Q .non H) ∧ (¬ (0 ≤ s ∧ s < (T.stops : Int) - 1) → E (cls K "NoLeg") none H)
def spBlocked (K : PySem.W.Frag) : Sp := fun vs H Q E => ∃ (S : Addr → Prop) (p : Addr) (T : Tr) (b e : Int), vs = [.ref p, .int b, .int e] ∧ TrainAt K H S p T ∧
  (Str3 T b e → ∀ H', Ex H H' → Q (oV (firstFull T.rows b.toNat e.toNat)) H') ∧ (¬ Str3 T b e → E (cls K "NoStretch") none H)
def spFarthest (K : PySem.W.Frag) : Sp := fun vs H Q E => ∃ (S : Addr → Prop) (p : Addr) (T : Tr) (s t : Int), vs = [.ref p, .int s, .int t] ∧ TrainAt K H S p T ∧
  (∀ row, (0 ≤ s ∧ T.rows[s.toNat]? = some row) → (0 ≤ t ∧ t < T.stops) → Q (.int (reach row t.toNat)) H) ∧
  (¬ (0 ≤ s ∧ s < T.rows.length) → E (cls K "NoSeat") none H) ∧
  ((0 ≤ s ∧ s < T.rows.length) → ¬ (0 ≤ t ∧ t < T.stops) → E (cls K "NoStop") none H)
def spHolder (K : PySem.W.Frag) : Sp := fun vs H Q E => ∃ (S : Addr → Prop) (p : Addr) (T : Tr) (s t : Int), vs = [.ref p, .int s, .int t] ∧ TrainAt K H S p T ∧
  (∀ row h, (0 ≤ s ∧ T.rows[s.toNat]? = some row) → (0 ≤ t ∧ row[t.toNat]? = some h) → Q (oV h) H) ∧
  (¬ (0 ≤ s ∧ s < T.rows.length) → E (cls K "NoSeat") none H) ∧
  ((0 ≤ s ∧ s < T.rows.length) → ¬ (0 ≤ t ∧ t < (T.stops : Int) - 1) → E (cls K "NoLeg") none H)
def spLoad (K : PySem.W.Frag) : Sp := fun vs H Q E => ∃ (S : Addr → Prop) (p : Addr) (T : Tr) (t : Int), vs = [.ref p, .int t] ∧ TrainAt K H S p T ∧
  ((0 ≤ t ∧ t < (T.stops : Int) - 1) → ∀ H', Ex H H' → Q (.int (load T.rows t.toNat)) H') ∧
  (¬ (0 ≤ t ∧ t < (T.stops : Int) - 1) → E (cls K "NoLeg") none H)
end Lg

namespace Lg
open PySem PySem.Spec PyProof.Rows L2

theorem iteD {p : Prop} [Decidable p] {A B : Prop} (h1 : p → A) (h2 : ¬ p → B) : if decide p = true then A else B := by
  by_cases h : p
  · rw [if_pos (decide_eq_true h)]
    exact h1 h
  · rw [if_neg (by rw [decide_eq_false h]; exact Bool.false_ne_true)]
    exact h2 h
theorem iteN {p : Prop} [Decidable p] {A B : Prop} (h1 : ¬ p → A) (h2 : p → B) : if (!decide p) = true then A else B := by
  by_cases h : p
  · rw [if_neg (by rw [decide_eq_true h]; decide)]
    exact h2 h
  · rw [if_pos (by rw [decide_eq_false h]; decide)]
    exact h1 h
theorem iteB {b : Bool} {A B : Prop} (h1 : b = true → A) (h2 : b = false → B) : if b = true then A else B := by
  cases b with
  | true => exact iteT (h1 rfl)
  | false => exact iteF (h2 rfl)
theorem iteBn {b : Bool} {A B : Prop} (h1 : b = false → A) (h2 : b = true → B) : if (!b) = true then A else B := by
  cases b with
  | true => exact iteF (h2 rfl)
  | false => exact iteT (h1 rfl)
/-- the way that is known -/
theorem iteY {c : Prop} [Decidable c] {A B : Prop} (hc : c) (h : A) : if c then A else B := by
  rw [if_pos hc]
  exact h
theorem iteNo {c : Prop} [Decidable c] {A B : Prop} (hc : ¬ c) (h : B) : if c then A else B := by
  rw [if_neg hc]
  exact h

/-! ### comprehensions -/
def kept (n : Nat) (keep : Nat → Bool) : List Nat := (List.range n).filter keep
theorem kept_yes {n : Nat} {keep : Nat → Bool} (h : keep n = true) : kept (n + 1) keep = kept n keep ++ [n] := by
  unfold kept
  rw [List.range_succ, List.filter_append, List.filter_cons, if_pos h]
  rfl
theorem kept_no {n : Nat} {keep : Nat → Bool} (h : keep n = false) : kept (n + 1) keep = kept n keep := by
  unfold kept
  rw [List.range_succ, List.filter_append, List.filter_cons, if_neg (by rw [h]; exact Bool.false_ne_true)]
  exact List.append_nil _
theorem kept_len (n : Nat) (keep : Nat → Bool) : (kept n keep).length ≤ n := by
  have h := List.length_filter_le keep (List.range n)
  rw [List.length_range] at h
  exact h
theorem kept_all (n : Nat) : kept n (fun _ => true) = List.range n := by
  unfold kept
  exact List.filter_eq_self.mpr fun _ _ => rfl
section
variable {J : It} {n : Nat} {G : Hp → Prop} {Y : Nat → Hp → V → Hp → Prop}
theorem lc_ex (w : Walk J n G Y) {Xr : Nat → V → Prop} (hY : ∀ i H x H', Y i H x H' → H' = H ∧ Xr i x) {j : Nat} {tt : TT} {te : TE} {vs : List Nat} {σ : L2.St} {H1 : Hp} {D : Addr} {Qd : Hp → Prop} (hD : H1 D = none)
    (hG : ∀ H, Ex H1 H → G H) (hn : n ≤ 100000) (keep : Nat → Bool) (R : Hp → Nat → V → Prop) (mono : ∀ H H' i v, Ex H H' → R H i v → R H' i v)
    (hw : ∀ x, wipe ((wipe σ vs).set j (some x)) vs = wipe σ vs)
    (ht : ∀ i x H, i < n → Xr i x → Ex H1 H → ∀ Q : Bool → Hp → Prop, (∀ H', Ex H H' → Q (keep i) H') → tt ((wipe σ vs).set j (some x)) H Q)
    (he : ∀ i x H, i < n → Xr i x → keep i = true → Ex H1 H → (∃ o, H D = some o) → ∀ Q : VK, (∀ y H' Hn, Ex H H' → Ex Hn H' → Hn D = none → R Hn i y → Q y H') → te ((wipe σ vs).set j (some x)) H Q)
    (q : ∀ H' ys, Ex H1 H' → H' D = some (.lst ys) → All2 (R H') (kept n keep) ys → Qd H') :
    ∃ W : Nat → Nat → Hp → Prop, (∃ m, W 0 m (upd H1 D (.lst []))) ∧ ∀ i m H, W i m H →
      (J.stop i H ∧ Qd H) ∨ (J.go i H ∧ ∃ Nx : Hp → Prop, (∀ H', Nx H' → ∃ m', m' < m ∧ W (i + 1) m' H') ∧ ∀ x H', J.yld i H x H' → gName j x (wipe σ vs) H' fun σ2 H2 => wipe σ2 vs = wipe σ vs ∧ tt σ2 H2 fun b H3 =>
        if b = true then te σ2 H3 fun y H4 => ∃ acc, H4 D = some (.lst acc) ∧ acc.length < sizeLine ∧ Nx (upd H4 D (.lst (acc ++ [y]))) else Nx H3) := by
  refine lc_it w (fun i H => Ex H1 H ∧ ∃ acc, H D = some (.lst acc) ∧ All2 (fun k y => ∃ Hn, Hn D = none ∧ Ex Hn H ∧ R Hn k y) (kept i keep) acc)
    ⟨Evl.Ex.new hD, [], upd_same, All2.nil⟩ (fun i H _ p => hG H p.1) ?_ ?_
  · rintro i x H H' hi ⟨ex, acc, hacc, hall⟩ y
    obtain ⟨rfl, xr⟩ := hY _ _ _ _ y
    refine ⟨hw x, ht i x H' hi xr ex _ fun H3 e3 => ?_⟩
    have hall3 : All2 (fun k y => ∃ Hn, Hn D = none ∧ Ex Hn H3 ∧ R Hn k y) (kept i keep) acc := hall.mono fun k y ⟨Hn, a, b, c⟩ => ⟨Hn, a, b.trans e3, c⟩
    refine iteB (fun hk => ?_) (fun hk => ?_)
    · refine he i x H3 hi xr hk (ex.trans e3) ⟨_, e3 _ _ hacc⟩ _ fun y H4 Hn e4 en nD r => ?_
      have hl : acc.length < sizeLine := by
        rw [← hall.len]
        exact Nat.lt_of_le_of_lt (kept_len i keep) (Nat.lt_of_lt_of_le hi (Nat.le_trans hn (by decide)))
      refine ⟨acc, e4 _ _ (e3 _ _ hacc), hl, Evl.Ex.mut ((ex.trans e3).trans e4) hD, _, upd_same, ?_⟩
      rw [kept_yes hk]
      refine All2.snoc (hall3.mono fun k y ⟨Hn, a, b, c⟩ => ⟨Hn, a, Evl.Ex.mut (b.trans e4) a, c⟩) ⟨Hn, nD, Evl.Ex.mut en nD, r⟩
    · refine ⟨ex.trans e3, acc, e3 _ _ hacc, ?_⟩
      rw [kept_no hk]
      exact hall3
  · rintro H ⟨ex, acc, hacc, hall⟩
    exact q H acc ex hacc (hall.mono fun k y ⟨Hn, a, b, c⟩ => mono _ _ _ _ b c)
/-- the same, each element a value that does not lean on the heap -/
theorem lc_v (w : Walk J n G Y) {Xr : Nat → V → Prop} (hY : ∀ i H x H', Y i H x H' → H' = H ∧ Xr i x) {j : Nat} {tt : TT} {te : TE} {vs : List Nat} {σ : L2.St} {H1 : Hp} {D : Addr} {Qd : Hp → Prop} (hD : H1 D = none)
    (hG : ∀ H, Ex H1 H → G H) (hn : n ≤ 100000) (keep : Nat → Bool) (v : Nat → V)
    (hw : ∀ x, wipe ((wipe σ vs).set j (some x)) vs = wipe σ vs)
    (ht : ∀ i x H, i < n → Xr i x → Ex H1 H → ∀ Q : Bool → Hp → Prop, (∀ H', Ex H H' → Q (keep i) H') → tt ((wipe σ vs).set j (some x)) H Q)
    (he : ∀ i x H, i < n → Xr i x → keep i = true → Ex H1 H → ∀ Q : VK, (∀ H', Ex H H' → Q (v i) H') → te ((wipe σ vs).set j (some x)) H Q)
    (q : ∀ H', Ex H1 H' → H' D = some (.lst ((kept n keep).map v)) → Qd H') :
    ∃ W : Nat → Nat → Hp → Prop, (∃ m, W 0 m (upd H1 D (.lst []))) ∧ ∀ i m H, W i m H →
      (J.stop i H ∧ Qd H) ∨ (J.go i H ∧ ∃ Nx : Hp → Prop, (∀ H', Nx H' → ∃ m', m' < m ∧ W (i + 1) m' H') ∧ ∀ x H', J.yld i H x H' → gName j x (wipe σ vs) H' fun σ2 H2 => wipe σ2 vs = wipe σ vs ∧ tt σ2 H2 fun b H3 =>
        if b = true then te σ2 H3 fun y H4 => ∃ acc, H4 D = some (.lst acc) ∧ acc.length < sizeLine ∧ Nx (upd H4 D (.lst (acc ++ [y]))) else Nx H3) := by
  refine lc_ex w hY hD hG hn keep (fun _ i y => y = v i) (fun _ _ _ _ _ h => h) hw ht (fun i x H hi xr hk ex hd Q k => he i x H hi xr hk ex Q fun H' e => k (v i) H' H1 e (ex.trans e) hD rfl) fun H' ys ex hd hall => ?_
  refine q H' ex ?_
  have e : ys = (kept n keep).map v := by
    refine All2.map_eq ?_
    refine ⟨hall.len.symm, fun i x y hx hy => hall.at_ i y x hy hx⟩
  rw [← e]
  exact hd
end
theorem y_list {xs : List V} : ∀ (i : Nat) (H : Hp) (x : V) (H' : Hp), YAt xs i H x H' → H' = H ∧ xs[i]? = some x := fun _ _ _ _ h => h
theorem y_range {f : Nat → V} : ∀ (i : Nat) (H : Hp) (x : V) (H' : Hp), YFn f i H x H' → H' = H ∧ x = f i := fun _ _ _ _ h => h
/-- no test -/
theorem lc_yes {n : Nat} {Xr : Nat → V → Prop} {H1 : Hp} {σ : L2.St} {vs : List Nat} {j : Nat} :
    ∀ i x H, i < n → Xr i x → Ex H1 H → ∀ Q : Bool → Hp → Prop, (∀ H', Ex H H' → Q true H') → tYes ((wipe σ vs).set j (some x)) H Q := fun _ _ H _ _ _ _ q => q H (Evl.Ex.refl H)
theorem sqL_ex {K : PySem.W.Frag} {H H' : Hp} {a : Addr} {xs : List V} (h : SqL K H a xs) (e : Ex H H') : SqL K H' a xs := Evl.ex_l e h
theorem sqL_of {K : PySem.W.Frag} {H H' : Hp} {a : Addr} {xs : List V} (h : H a = some (.lst xs)) (e : Ex H H') : SqL K H' a xs := SqL.of (e _ _ h)
theorem held_at {row : List (Option Nat)} {l : Nat} {h : Option Nat} (e : row[l]? = some h) : held row l = h.isSome := by
  unfold held
  rw [e]
  rfl
theorem oV_some {x : Option Nat} : (!decide (oV x = V.non)) = x.isSome := by
  rw [oV_none]
  cases x <;> rfl
theorem all_map_range (g : Grid) (f : List (Option Nat) → Bool) (b : Nat → Bool) (h : ∀ i row, g[i]? = some row → b i = f row) : ((List.range g.length).map b).all id = g.all f := by
  have e : (List.range g.length).map b = g.map f := by
    apply List.ext_getElem?
    intro i
    rw [List.getElem?_map, List.getElem?_map]
    by_cases hi : i < g.length
    · have h1 := List.getElem?_eq_getElem hi
      rw [h1, List.getElem?_range hi]
      show some (b i) = some (f g[i])
      rw [h i _ h1]
    · rw [List.getElem?_eq_none (by rw [List.length_range]; omega), List.getElem?_eq_none (by omega)]
      rfl
  rw [e, List.all_map]
  rfl
theorem kept_filter {α : Type} : ∀ (l : List α) (f : α → Bool) (keep : Nat → Bool), (∀ i x, l[i]? = some x → keep i = f x) → (kept l.length keep).length = (l.filter f).length := by
  intro l f keep h
  have main : ∀ n, n ≤ l.length → (kept n keep).length = ((l.take n).filter f).length := by
    intro n
    induction n with
    | zero => intro _; rfl
    | succ n ih =>
      intro hn
      have hl : n < l.length := hn
      have e := List.getElem?_eq_getElem hl
      have et : l.take (n + 1) = l.take n ++ [l[n]] := by rw [List.take_succ_eq_append_getElem hl]
      have hk := h n _ e
      rw [et, List.filter_append, List.length_append, ← ih (by omega)]
      cases hf : f l[n] with
      | true =>
        rw [hf] at hk
        rw [kept_yes hk, List.length_append, List.filter_cons, if_pos hf]
        rfl
      | false =>
        rw [hf] at hk
        rw [kept_no hk, List.filter_cons, if_neg (by rw [hf]; exact Bool.false_ne_true)]
        rfl
  rw [main l.length (Nat.le_refl _), List.take_length]
end Lg
namespace Lg
open PySem PySem.Spec PyProof.Rows L2
theorem entD_keys (ent : List Ent) : (entD ent).map (·.1) = ((entS ent).map fun x => (x.1 : Int)).map Sum.inl := by
  unfold entD entS
  rw [List.map_map, List.map_map, List.map_map]
  rfl
theorem sorted_is {sold : List (Nat × List P3)} {ys : List Int} (hp : ys.Perm (sold.map fun x => (x.1 : Int))) (hs : ys.Pairwise (· ≤ ·)) (hr : (sold.map (·.1)).Pairwise (· < ·)) : ys = sold.map fun x => (x.1 : Int) := by
  refine List.Perm.eq_of_pairwise (le := fun a b : Int => a ≤ b) (fun a b _ _ h1 h2 => Int.le_antisymm h1 h2) hs ?_ hp
  have h2 := List.pairwise_map.mp hr
  exact List.pairwise_map.mpr (h2.imp fun h => by omega)
end Lg
namespace Lg
theorem range_split {b i n : Nat} (h : i < n) : List.range' b n = List.range' b i ++ (b + i) :: List.range' (b + i + 1) (n - i - 1) := by
  have e : List.range' b (i + ((n - i - 1) + 1)) = List.range' b i ++ (b + i) :: List.range' (b + i + 1) (n - i - 1) := by
    rw [← List.range'_append_1, List.range'_succ]
  have h1 : i + ((n - i - 1) + 1) = n := by omega
  rw [h1] at e
  exact e
end Lg

namespace Lg
open PySem PySem.Spec PyProof.Rows L2
section
variable {J : It} {n : Nat} {G : Hp → Prop} {Y : Nat → Hp → V → Hp → Prop}
/-- each element a new object -/
theorem lc_new (w : Walk J n G Y) {Xr : Nat → V → Prop} (hY : ∀ i H x H', Y i H x H' → H' = H ∧ Xr i x) {j : Nat} {tt : TT} {te : TE} {vs : List Nat} {σ : L2.St} {H1 : Hp} {D : Addr} {Qd : Hp → Prop} (hD : H1 D = none)
    (hG : ∀ H, Ex H1 H → G H) (hn : n ≤ 100000) (keep : Nat → Bool) (R : Nat → HO → Prop)
    (hw : ∀ x, wipe ((wipe σ vs).set j (some x)) vs = wipe σ vs)
    (ht : ∀ i x H, i < n → Xr i x → Ex H1 H → ∀ Q : Bool → Hp → Prop, (∀ H', Ex H H' → Q (keep i) H') → tt ((wipe σ vs).set j (some x)) H Q)
    (he : ∀ i x H, i < n → Xr i x → keep i = true → Ex H1 H → (∃ o, H D = some o) → ∀ Q : VK, (∀ a H' o, H a = none → Ex H H' → H' a = some o → R i o → Q (.ref a) H') → te ((wipe σ vs).set j (some x)) H Q)
    (q : ∀ H' (as : List Addr), Ex H1 H' → H' D = some (.lst (as.map V.ref)) → as.Nodup → (∀ a ∈ as, H1 a = none ∧ a ≠ D) → All2 (fun i a => ∃ o, H' a = some o ∧ R i o) (kept n keep) as → Qd H') :
    ∃ W : Nat → Nat → Hp → Prop, (∃ m, W 0 m (upd H1 D (.lst []))) ∧ ∀ i m H, W i m H →
      (J.stop i H ∧ Qd H) ∨ (J.go i H ∧ ∃ Nx : Hp → Prop, (∀ H', Nx H' → ∃ m', m' < m ∧ W (i + 1) m' H') ∧ ∀ x H', J.yld i H x H' → gName j x (wipe σ vs) H' fun σ2 H2 => wipe σ2 vs = wipe σ vs ∧ tt σ2 H2 fun b H3 =>
        if b = true then te σ2 H3 fun y H4 => ∃ acc, H4 D = some (.lst acc) ∧ acc.length < sizeLine ∧ Nx (upd H4 D (.lst (acc ++ [y]))) else Nx H3) := by
  refine lc_it w (fun i H => Ex H1 H ∧ ∃ as : List Addr, H D = some (.lst (as.map V.ref)) ∧ as.Nodup ∧ (∀ a ∈ as, H1 a = none ∧ a ≠ D) ∧ All2 (fun k a => ∃ o, H a = some o ∧ R k o) (kept i keep) as)
    ⟨Evl.Ex.new hD, [], upd_same, List.nodup_nil, fun a m => by simp at m, All2.nil⟩ (fun i H _ p => hG H p.1) ?_ ?_
  · rintro i x H H' hi ⟨ex, as, hacc, nd, fr, hall⟩ y
    obtain ⟨rfl, xr⟩ := hY _ _ _ _ y
    refine ⟨hw x, ht i x H' hi xr ex _ fun H3 e3 => ?_⟩
    have hall3 : All2 (fun k a => ∃ o, H3 a = some o ∧ R k o) (kept i keep) as := hall.mono fun k y ⟨o, a, b⟩ => ⟨o, e3 _ _ a, b⟩
    have hD3 := e3 _ _ hacc
    refine iteB (fun hk => ?_) (fun hk => ?_)
    · refine he i x H3 hi xr hk (ex.trans e3) ⟨_, hD3⟩ _ fun a H4 o n3 e4 ha r => ?_
      have hl : (as.map V.ref).length < sizeLine := by
        rw [List.length_map, ← hall.len]
        exact Nat.lt_of_le_of_lt (kept_len i keep) (Nat.lt_of_lt_of_le hi (Nat.le_trans hn (by decide)))
      have naD : a ≠ D := fun z => by
        rw [z, hD3] at n3
        cases n3
      refine ⟨_, e4 _ _ hD3, hl, Evl.Ex.mut ((ex.trans e3).trans e4) hD, as ++ [a], by rw [List.map_append]; exact upd_same, ?_, fun b m => ?_, ?_⟩
      · refine List.nodup_append.mpr ⟨nd, List.nodup_cons.mpr ⟨by simp, List.nodup_nil⟩, fun b m c mc => ?_⟩
        rw [List.mem_singleton.mp mc]
        rintro rfl
        obtain ⟨k, _, o2, z, _⟩ : ∃ k, True ∧ ∃ o2, H3 b = some o2 ∧ True := by
          obtain ⟨j2, hj, ej⟩ := List.mem_iff_getElem.mp m
          obtain ⟨k, _, o2, z, _⟩ := hall3.right (i := j2) (y := b) (by rw [List.getElem?_eq_getElem hj, ej])
          exact ⟨k, trivial, o2, z, trivial⟩
        rw [z] at n3
        cases n3
      · rcases List.mem_append.mp m with m | m
        · exact fr b m
        · rw [List.mem_singleton.mp m]
          exact ⟨Evl.fresh_back (ex.trans e3) n3, naD⟩
      · rw [kept_yes hk]
        refine All2.snoc (hall3.monoM fun k b _ m ⟨o2, z, r2⟩ => ⟨o2, by rw [upd_ne (fr b m).2]; exact e4 _ _ z, r2⟩) ⟨o, by rw [upd_ne naD]; exact ha, r⟩
    · refine ⟨ex.trans e3, as, hD3, nd, fr, ?_⟩
      rw [kept_no hk]
      exact hall3
  · rintro H ⟨ex, as, hacc, nd, fr, hall⟩
    exact q H as ex hacc nd fr hall
end
theorem rep_none (n : Nat) : (List.replicate n [V.non]).flatten = (List.replicate n (none : Option Nat)).map oV := by
  induction n with
  | zero => rfl
  | succ n ih =>
    rw [List.replicate_succ, List.replicate_succ, List.flatten_cons, ih]
    rfl
theorem Tr.new_wf {seats stops : Nat} (h1 : 1 ≤ seats) (h2 : seats ≤ 60) (h3 : 2 ≤ stops) (h4 : stops ≤ 60) : (Tr.new seats stops).Wf where
  s1 := by show 1 ≤ (List.replicate _ _).length; rw [List.length_replicate]; exact h1
  s2 := by show (List.replicate _ _).length ≤ 60; rw [List.length_replicate]; exact h2
  t1 := h3
  t2 := h4
  legs := fun row m => by
    rw [List.eq_of_mem_replicate m, List.length_replicate]
    rfl
  rising := List.Pairwise.nil
theorem all_rows {as : List Addr} {H : Hp} {n : Nat} {row : List (Option Nat)} (h : All2 (fun (i : Nat) a => ∃ o, H a = some o ∧ o = .lst (row.map oV)) (List.range n) as) : All2 (RowAt H) as (List.replicate n row) := by
  refine ⟨by rw [List.length_replicate, ← h.len, List.length_range], fun i a r ha hr => ?_⟩
  obtain ⟨k, _, o, e, eo⟩ := h.right ha
  rw [List.getElem?_replicate] at hr
  split at hr
  · cases hr
    unfold RowAt
    rw [e, eo]
  · cases hr
theorem fresh_upd {H : Hp} {a b : Addr} {o : HO} (h : upd H a o b = none) : b ≠ a ∧ H b = none := by
  have hne : b ≠ a := fun z => by
    rw [z, upd_same] at h
    cases h
  refine ⟨hne, ?_⟩
  rw [upd_ne hne] at h
  exact h
end Lg
namespace Lg
open PySem PySem.Spec PyProof.Rows L2
theorem putF_len (f : Str) (v : V) : ∀ fs : List (Str × V), (putF f v fs).length ≤ fs.length + 1
  | [] => Nat.le_refl _
  | (g, u) :: r => by
    unfold putF
    split
    · rw [List.length_cons, List.length_cons]
      omega
    · rw [List.length_cons, List.length_cons]
      have := putF_len f v r
      omega
end Lg
namespace Lg
open PySem PySem.Spec PyProof.Rows L2
/-! ### promises of the laws' small helpers -/
def cellAt (ns : List Int) (k : Nat) : Int := (ns[k]?).getD 0
def spCellAt (K : PySem.W.Frag) : Sp := fun vs H Q _ => ∃ (a : Addr) (ns : List Int) (k : Nat), vs = [.ref a, .int k] ∧ SqL K H a (ns.map V.int) ∧ Q (.int (cellAt ns k)) H
def isI : V → Bool
  | .int _ => true
  | _ => false
/-- a value whose kind is known -/
def Plain (H : Hp) (x : V) : Prop := x = .non ∨ (∃ b, x = .bl b) ∨ (∃ i, x = .int i) ∨ (∃ z, x = .str z) ∨ (∃ a xs, x = .ref a ∧ H a = some (.lst xs)) ∨ ∃ a xs, x = .ref a ∧ H a = some (.tup xs)
def spWhole : Sp := fun vs H Q _ => ∃ x, vs = [x] ∧ Plain H x ∧ Q (.bl (isI x)) H
def spNumbers (K : PySem.W.Frag) : Sp := fun vs H Q _ => ∃ (f d : Addr) (ns ms : List Int), vs = [.ref f, .ref d] ∧ H f = some (.lst (ns.map V.int)) ∧ H d = some (.lst (ms.map V.int)) ∧ ns.length ≤ 1000000 ∧ ms.length ≤ 1000000 ∧ Q (.bl (decide (ns = ms))) H
def spAnyInt : Sp := fun vs H Q _ => ∃ c : Int, vs = [.int c] ∧ ∀ (v : Int) H', Ex H H' → Q (.int v) H'
end Lg
namespace Lg
open PySem PySem.Spec PyProof.Rows L2
section
variable {s c : Nat} {r d : Addr}
theorem nf_sell : (trF s r d c).lookup ("sell" : Str) = none := trF_no (by decide +kernel) (by decide +kernel) (by decide +kernel) (by decide +kernel)
theorem nf_back : (trF s r d c).lookup ("back" : Str) = none := trF_no (by decide +kernel) (by decide +kernel) (by decide +kernel) (by decide +kernel)
theorem nf_leave : (trF s r d c).lookup ("leave" : Str) = none := trF_no (by decide +kernel) (by decide +kernel) (by decide +kernel) (by decide +kernel)
theorem nf_reseat : (trF s r d c).lookup ("reseat" : Str) = none := trF_no (by decide +kernel) (by decide +kernel) (by decide +kernel) (by decide +kernel)
theorem nf_parts : (trF s r d c).lookup ("parts" : Str) = none := trF_no (by decide +kernel) (by decide +kernel) (by decide +kernel) (by decide +kernel)
theorem nf_tickets : (trF s r d c).lookup ("tickets" : Str) = none := trF_no (by decide +kernel) (by decide +kernel) (by decide +kernel) (by decide +kernel)
theorem nf_row : (trF s r d c).lookup ("row" : Str) = none := trF_no (by decide +kernel) (by decide +kernel) (by decide +kernel) (by decide +kernel)
theorem nf_blocked : (trF s r d c).lookup ("blocked" : Str) = none := trF_no (by decide +kernel) (by decide +kernel) (by decide +kernel) (by decide +kernel)
theorem nf_farthest : (trF s r d c).lookup ("farthest" : Str) = none := trF_no (by decide +kernel) (by decide +kernel) (by decide +kernel) (by decide +kernel)
theorem nf_holder : (trF s r d c).lookup ("holder" : Str) = none := trF_no (by decide +kernel) (by decide +kernel) (by decide +kernel) (by decide +kernel)
theorem nf_load : (trF s r d c).lookup ("load" : Str) = none := trF_no (by decide +kernel) (by decide +kernel) (by decide +kernel) (by decide +kernel)
theorem nf_size : (trF s r d c).lookup ("size" : Str) = none := trF_no (by decide +kernel) (by decide +kernel) (by decide +kernel) (by decide +kernel)
theorem nf_mark : (trF s r d c).lookup ("mark" : Str) = none := trF_no (by decide +kernel) (by decide +kernel) (by decide +kernel) (by decide +kernel)
theorem nf_take : (trF s r d c).lookup ("take" : Str) = none := trF_no (by decide +kernel) (by decide +kernel) (by decide +kernel) (by decide +kernel)
theorem nf_need_stretch : (trF s r d c).lookup ("need_stretch" : Str) = none := trF_no (by decide +kernel) (by decide +kernel) (by decide +kernel) (by decide +kernel)
theorem nf_need_seat : (trF s r d c).lookup ("need_seat" : Str) = none := trF_no (by decide +kernel) (by decide +kernel) (by decide +kernel) (by decide +kernel)
theorem nf_need_leg : (trF s r d c).lookup ("need_leg" : Str) = none := trF_no (by decide +kernel) (by decide +kernel) (by decide +kernel) (by decide +kernel)
end
theorem rg_seats : ∀ s : _root_.Fin 61, 1 ≤ s.val → Builtin.Range.small 0 (s.val : Int) (1 + (s.val : Int) / 8) = true ∧ Builtin.Range.rangeSize 0 (s.val : Int) (1 + (s.val : Int) / 8) = ((Builtin.Range.rangeSize 0 (s.val : Int) (1 + (s.val : Int) / 8)).toNat : Int) ∧
    ∀ i : _root_.Fin 61, i.val < (Builtin.Range.rangeSize 0 (s.val : Int) (1 + (s.val : Int) / 8)).toNat → (i.val : Int) * (1 + (s.val : Int) / 8) < (s.val : Int) := by decide +kernel
theorem rg_le : ∀ s : _root_.Fin 61, (Builtin.Range.rangeSize 0 (s.val : Int) (1 + (s.val : Int) / 8)).toNat ≤ 60 := by decide +kernel
def spEmpty (K : PySem.W.Frag) : Sp := fun vs H Q _ => ∃ (S : Addr → Prop) (p : Addr) (seats stops : Nat), vs = [.ref p, .int seats, .int stops] ∧ TrainAt K H S p (Tr.new seats stops) ∧ ∀ H', Ex H H' → Q (.bl true) H'
theorem new_row {seats stops i : Nat} {row : List (Option Nat)} (h : (Tr.new seats stops).rows[i]? = some row) : row = List.replicate (stops - 1) none := by
  have h2 : (List.replicate seats (List.replicate (stops - 1) (none : Option Nat)))[i]? = some row := h
  rw [List.getElem?_replicate] at h2
  split at h2
  · exact (Option.some.inj h2).symm
  · cases h2
theorem reach_new {n t : Nat} (h : t ≤ n) : reach (List.replicate n none) t = n := by
  unfold reach
  rw [List.drop_replicate]
  have e : ∀ m, ((List.replicate m (none : Option Nat)).takeWhile Option.isNone).length = m := by
    intro m
    induction m with
    | zero => rfl
    | succ m ih => rw [List.replicate_succ, List.takeWhile_cons]; simp [ih]
  rw [e]
  omega
theorem held_new {n l : Nat} : held (List.replicate n none) l = false := by
  unfold held
  rw [List.getElem?_replicate]
  split <;> rfl
theorem load_new {seats stops l : Nat} : load (Tr.new seats stops).rows l = 0 := by
  show (List.filter _ (List.replicate seats (List.replicate (stops - 1) none))).length = 0
  rw [List.filter_replicate, held_new]
  rfl
theorem full_new {seats stops l : Nat} (h : 1 ≤ seats) : fullLeg (Tr.new seats stops).rows l = false := by
  show List.all (List.replicate seats (List.replicate (stops - 1) none)) _ = false
  rw [List.all_replicate, held_new]
  rw [if_neg (by omega)]
theorem ff_new {seats stops b e : Nat} (h : 1 ≤ seats) : firstFull (Tr.new seats stops).rows b e = none := by
  unfold firstFull
  refine List.find?_eq_none.mpr fun x _ => ?_
  rw [full_new h]
  exact Bool.false_ne_true
end Lg
namespace Lg
open PySem PySem.Spec PyProof.Rows L2
def spLaw (K : PySem.W.Frag) : Sp := fun vs H Q _ => ∃ (a : Addr) (ns : List Int), vs = [.ref a] ∧ SqL K H a (ns.map V.int) ∧ ns.length ≤ 63 ∧ ∀ H', Q (.bl true) H'
end Lg
namespace Lg
open PySem PySem.Spec PyProof.Rows L2
theorem fn_zero {P : Program} {w : World} {K : PySem.W.Frag} {mg : Str → Option Value} {base : Heap} {k : Nat} {f : Addr} {fd : FuncData} {ps : List Str} {sp : Sp} (F : FnOk P w K mg base (L2.CX P w) k f fd ps sp) :
    FnOk P w K mg base CX0 k f fd ps (fun vs H Q _ => sp vs H Q E0) := by
  refine ⟨fun vs H Q E h => F.len vs H Q E0 h, fun A outer s H args us vs Q E hr he hb hv hs => ?_⟩
  refine codeAny_mono (F.run A outer s H args us vs Q E0 hr he hb hv hs) fun r s' q => ?_
  cases r with
  | ok fl => cases fl <;> exact q
  | error e =>
    obtain ⟨_, _, _, _, _, _, _, _, _, _, _, _, z⟩ := q
    exact z.elim
end Lg

namespace Lg
open PySem PySem.Spec PyProof.Rows L2

/-! ### the tickets as a table -/
def getS (sold : List (Nat × List P3)) (t : Int) : Option (List P3) := (sold.find? fun x => decide ((x.1 : Int) = t)).map (·.2)
def putS (sold : List (Nat × List P3)) (t : Nat) (ps : List P3) : List (Nat × List P3) := if (sold.any fun x => decide (x.1 = t)) = true then sold.map (fun x => if x.1 = t then (t, ps) else x) else sold ++ [(t, ps)]
def dropS (sold : List (Nat × List P3)) (t : Nat) : List (Nat × List P3) := sold.filter fun x => decide (x.1 ≠ t)
def entPut (ent : List Ent) (t : Nat) (l : Addr) (ps : List P3) : List Ent := if (ent.any fun x => decide (x.1 = t)) = true then ent.map (fun x => if x.1 = t then (t, l, ps) else x) else ent ++ [(t, l, ps)]
theorem inl_iff {a b : Nat} : ((Sum.inl (a : Int) : Key) = Sum.inl (b : Int)) ↔ a = b := by
  refine ⟨fun h => ?_, fun h => by rw [h]⟩
  have h2 : (a : Int) = (b : Int) := Sum.inl.inj h
  exact Int.ofNat_inj.mp h2
theorem inl_iff' {a : Nat} {b : Int} : ((Sum.inl (a : Int) : Key) = Sum.inl b) ↔ (a : Int) = b := ⟨fun h => Sum.inl.inj h, fun h => by rw [h]⟩
theorem ent_any (ent : List Ent) (t : Nat) : ((entS ent).any fun x => decide (x.1 = t)) = ent.any fun x => decide (x.1 = t) := by
  unfold entS
  rw [List.any_map]
  rfl
theorem entS_put (ent : List Ent) (t : Nat) (l : Addr) (ps : List P3) : entS (entPut ent t l ps) = putS (entS ent) t ps := by
  unfold entPut putS
  rw [ent_any]
  split
  · unfold entS
    rw [List.map_map, List.map_map]
    apply List.map_congr_left
    intro x _
    show ((if x.1 = t then ((t, l, ps) : Ent) else x).1, (if x.1 = t then ((t, l, ps) : Ent) else x).2.2) = if x.1 = t then (t, ps) else (x.1, x.2.2)
    split <;> rfl
  · unfold entS
    rw [List.map_append]
    rfl
theorem entD_put (ent : List Ent) (t : Nat) (l : Addr) (ps : List P3) : entD (entPut ent t l ps) = putK (entD ent) (Sum.inl (t : Int)) (.ref l) := by
  have ha : ((entD ent).any fun kv => decide (kv.1 = (Sum.inl (t : Int) : Key))) = ent.any fun x => decide (x.1 = t) := by
    unfold entD
    rw [List.any_map]
    congr 1
    funext x
    show decide ((Sum.inl (x.1 : Int) : Key) = Sum.inl (t : Int)) = decide (x.1 = t)
    exact decide_eq_decide.mpr inl_iff
  unfold entPut putK
  rw [ha]
  split
  · unfold entD
    rw [List.map_map, List.map_map]
    apply List.map_congr_left
    intro x _
    show ((Sum.inl ((if x.1 = t then ((t, l, ps) : Ent) else x).1 : Int) : Key), V.ref (if x.1 = t then ((t, l, ps) : Ent) else x).2.1) =
      if (Sum.inl (x.1 : Int) : Key) = Sum.inl (t : Int) then (Sum.inl (x.1 : Int), V.ref l) else (Sum.inl (x.1 : Int), V.ref x.2.1)
    by_cases h : x.1 = t
    · rw [if_pos h, if_pos (inl_iff.mpr h), h]
    · rw [if_neg h, if_neg (fun z => h (inl_iff.mp z))]
  · unfold entD
    rw [List.map_append]
    rfl
theorem entD_drop (ent : List Ent) (t : Nat) : entD (ent.filter fun x => decide (x.1 ≠ t)) = dropK (entD ent) (Sum.inl (t : Int)) := by
  unfold entD dropK
  rw [List.filter_map]
  congr 1
  apply List.filter_congr
  intro x _
  show decide (x.1 ≠ t) = decide ((Sum.inl (x.1 : Int) : Key) ≠ Sum.inl (t : Int))
  exact decide_eq_decide.mpr (not_congr inl_iff.symm)
theorem entS_drop (ent : List Ent) (t : Nat) : entS (ent.filter fun x => decide (x.1 ≠ t)) = dropS (entS ent) t := by
  unfold entS dropS
  rw [List.filter_map]
  rfl
/-- what the dict tells of a number -/
theorem entD_get (ent : List Ent) (t : Int) : valV (entD ent) (Sum.inl t) = (ent.find? fun x => decide ((x.1 : Int) = t)).map fun x => V.ref x.2.1 := by
  unfold valV entD
  rw [List.find?_map, Option.map_map]
  have e : ((fun kv : Key × V => decide (kv.1 = (Sum.inl t : Key))) ∘ fun x : Ent => ((Sum.inl (x.1 : Int) : Key), V.ref x.2.1)) = fun x : Ent => decide ((x.1 : Int) = t) := by
    funext x
    exact decide_eq_decide.mpr inl_iff'
  rw [e]
  rfl
theorem entS_get (ent : List Ent) (t : Int) : getS (entS ent) t = (ent.find? fun x => decide ((x.1 : Int) = t)).map fun x => x.2.2 := by
  unfold getS entS
  rw [List.find?_map, Option.map_map]
  rfl
theorem find_some {ent : List Ent} {t : Int} {x : Ent} (h : ent.find? (fun x => decide ((x.1 : Int) = t)) = some x) : x ∈ ent ∧ (x.1 : Int) = t := by
  refine ⟨List.mem_of_find?_eq_some h, ?_⟩
  have := List.find?_some h
  exact of_decide_eq_true this

/-! ### cells -/
theorem setCell_len (g : Grid) (seat leg : Nat) (h : Option Nat) : (setCell g seat leg h).length = g.length := by
  unfold setCell
  rw [List.length_set]
theorem setCell_row {g : Grid} {seat leg n : Nat} {h : Option Nat} (hg : ∀ row ∈ g, row.length = n) : ∀ row ∈ setCell g seat leg h, row.length = n := by
  intro row m
  unfold setCell at m
  by_cases hs : seat < g.length
  · rcases List.mem_or_eq_of_mem_set m with m | e
    · exact hg row m
    · rw [e, List.length_set, List.getElem?_eq_getElem hs, Option.getD_some]
      exact hg _ (List.getElem_mem hs)
  · rw [List.set_eq_of_length_le (by omega)] at m
    exact hg row m
def Tr.mark (T : Tr) (ps : List P3) (h : Option Nat) : Tr := { T with rows := markAll T.rows ps h }
def Tr.take (T : Tr) (t : Nat) (ps : List P3) : Tr := { T with rows := markAll T.rows ps (some t), sold := putS T.sold t ps }
def Tr.sell (T : Tr) (b e : Nat) : Tr := { T with rows := markAll T.rows (found T.rows b e) (some T.coming), sold := putS T.sold T.coming (found T.rows b e), coming := T.coming + 1 }
def Valid (T : Tr) (ps : List P3) : Prop := ∀ q ∈ ps, q.1 < T.rows.length ∧ q.2.1 < q.2.2 ∧ q.2.2 ≤ T.stops - 1
theorem markPart_len (h : Option Nat) (p : P3) (g : Grid) : (markPart g h p).length = g.length := by
  unfold markPart
  generalize List.range' p.2.1 (p.2.2 - p.2.1) = ls
  induction ls generalizing g with
  | nil => rfl
  | cons l r ih =>
    rw [List.foldl_cons, ih, setCell_len]
theorem markAll_len (h : Option Nat) : ∀ (ps : List P3) (g : Grid), (markAll g ps h).length = g.length
  | [], _ => rfl
  | p :: r, g => by
    show (markAll (markPart g h p) r h).length = _
    rw [markAll_len h r, markPart_len]
theorem markPart_row {n : Nat} (h : Option Nat) (p : P3) (g : Grid) (hg : ∀ row ∈ g, row.length = n) : ∀ row ∈ markPart g h p, row.length = n := by
  unfold markPart
  generalize List.range' p.2.1 (p.2.2 - p.2.1) = ls
  induction ls generalizing g with
  | nil => exact hg
  | cons l r ih => exact ih _ (setCell_row hg)
theorem markAll_row {n : Nat} (h : Option Nat) : ∀ (ps : List P3) (g : Grid), (∀ row ∈ g, row.length = n) → ∀ row ∈ markAll g ps h, row.length = n
  | [], _, hg => hg
  | p :: r, g, hg => markAll_row h r _ (markPart_row h p g hg)
/-- rows of the same form: the train's good form stays -/
theorem Tr.Wf.rows {T : Tr} (w : T.Wf) {g : Grid} (h1 : g.length = T.rows.length) (h2 : ∀ row ∈ g, row.length = T.stops - 1) : ({ T with rows := g } : Tr).Wf where
  s1 := by show 1 ≤ g.length; rw [h1]; exact w.s1
  s2 := by show g.length ≤ 60; rw [h1]; exact w.s2
  t1 := w.t1
  t2 := w.t2
  legs := h2
  rising := w.rising
theorem row_ne {ts : List Addr} {row : List (Option Nat)} {H : Hp} {a l : Addr} (hr : RowAt H a row) (hlen : 1 ≤ row.length) (hl : H l = some (.lst (ts.map V.ref))) : l ≠ a := by
  intro z
  rw [z, hr] at hl
  have e : row.map oV = ts.map V.ref := HO.lst.inj (Option.some.inj hl)
  cases row with
  | nil => simp at hlen
  | cons x r =>
    cases ts with
    | nil => simp at e
    | cons t u =>
      have e2 : oV x = V.ref t := by
        have := congrArg List.head? e
        simpa using this
      cases x with
      | none => cases e2
      | some y => cases e2
/-- a cell is stored: the row at a -/
theorem TrRaw.cell {K : PySem.W.Frag} {H : Hp} {p : Addr} {T : Tr} {r d : Addr} {as : List Addr} {ent : List Ent} (R : TrRaw K H p T r d as ent) {seat leg : Nat} {a : Addr} {row : List (Option Nat)} (h : Option Nat) (ha : as[seat]? = some a) (hr : T.rows[seat]? = some row) :
    TrRaw K (upd H a (.lst ((row.set leg h).map oV))) p { T with rows := setCell T.rows seat leg h } r d as ent := by
  have ra : RowAt H a row := R.grid.row.at_ _ _ _ ha hr
  have ma := List.mem_of_getElem? ha
  obtain ⟨dx, hp⟩ := R.ins
  have npa : p ≠ a := ne_of hp ra (fun z => by cases z)
  have nda : d ≠ a := ne_of R.dict ra (fun z => by cases z)
  have nra : r ≠ a := fun z => R.ra (z ▸ ma)
  have hsl : seat < T.rows.length := lt_of_get hr
  have hset : setCell T.rows seat leg h = T.rows.set seat (row.set leg h) := by
    unfold setCell
    rw [hr]
    rfl
  refine ⟨R.wf.rows (setCell_len _ _ _ _) (setCell_row R.wf.legs), ⟨dx, by rw [upd_ne npa]; exact hp⟩, ⟨by rw [upd_ne nra]; exact R.grid.top, ?_⟩, R.nd, R.ra, R.sold, by rw [upd_ne nda]; exact R.dict, fun x m => ?_, R.la⟩
  · show All2 _ as (setCell T.rows seat leg h)
    rw [hset]
    refine ⟨by rw [List.length_set]; exact R.grid.row.len, fun i b rw' hb hrw => ?_⟩
    rw [List.getElem?_set] at hrw
    by_cases e : seat = i
    · rw [if_pos e, if_pos hsl] at hrw
      cases hrw
      rw [← e, ha] at hb
      cases hb
      exact upd_same
    · rw [if_neg e] at hrw
      have nba : b ≠ a := fun z => by
        rw [z] at hb
        exact e (nd_ix R.nd ha hb)
      show upd H a _ b = _
      rw [upd_ne nba]
      exact R.grid.row.at_ _ _ _ hb hrw
  · obtain ⟨ts, q1, q2⟩ := R.prt x m
    refine ⟨ts, by rw [upd_ne (fun z : x.2.1 = a => R.la x m (by rw [z]; exact ma))]; exact q1, q2.mono fun t y z => ?_⟩
    show upd H a _ t = _
    rw [upd_ne (ne_of z ra (fun z => by cases z))]
    exact z
theorem TrainAt.cell {K : PySem.W.Frag} {H : Hp} {S : Addr → Prop} {p : Addr} {T : Tr} (A : TrainAt K H S p T) {seat leg : Nat} (h : Option Nat) (hs : seat < T.rows.length) (hl : leg < T.stops - 1) :
    ∃ dx r d as a row, H p = some (.ins (He.ga K "Train") dx (trF T.stops r d T.coming)) ∧ H r = some (.lst ((as : List Addr).map V.ref)) ∧ as[seat]? = some a ∧ RowAt H a row ∧ leg < row.length ∧
      Mv H (upd H a (.lst ((row.set leg h).map oV))) S S ∧ TrainAt K (upd H a (.lst ((row.set leg h).map oV))) S p { T with rows := setCell T.rows seat leg h } := by
  obtain ⟨r, d, as, ent, R, sp, sr, sd, sa, sl⟩ := A
  obtain ⟨dx, hp⟩ := R.ins
  have hr := List.getElem?_eq_getElem hs
  obtain ⟨a, ha, ra⟩ := R.grid.row.right hr
  have hlen : T.rows[seat].length = T.stops - 1 := R.wf.legs _ (List.getElem_mem hs)
  have ma := List.mem_of_getElem? ha
  refine ⟨dx, r, d, as, a, _, hp, R.grid.top, ha, ra, by omega, ⟨fun b o nb hb => ?_, fun b xs hb => ?_, fun b hb => .inl hb⟩, r, d, as, ent, R.cell h ha hr, sp, sr, sd, sa, sl⟩
  · rw [upd_ne (fun z : b = a => nb (by rw [z]; exact sa a ma))]
    exact hb
  · rw [upd_ne (ne_of hb ra (fun z => by cases z))]
    exact hb

/-! ### the best seat -/
theorem bestFrom_prop (s e : Nat) : ∀ (g : Grid) (k best far : Nat), bestFrom s e g k best far = (best, far) ∨
    ∃ i row, g[i]? = some row ∧ bestFrom s e g k best far = (k + i, min (reach row s) e) ∧ far < min (reach row s) e
  | [], _, _, _ => .inl rfl
  | row :: g, k, best, far => by
    unfold bestFrom
    split
    · rename_i h
      rcases bestFrom_prop s e g (k + 1) k (min (reach row s) e) with q | ⟨i, r2, h1, h2, h3⟩
      · exact .inr ⟨0, row, rfl, by rw [q, Nat.add_zero], h⟩
      · refine .inr ⟨i + 1, r2, h1, ?_, by omega⟩
        rw [h2, Nat.add_assoc, Nat.add_comm 1 i]
    · rcases bestFrom_prop s e g (k + 1) best far with q | ⟨i, r2, h1, h2, h3⟩
      · exact .inl q
      · refine .inr ⟨i + 1, r2, h1, ?_, h3⟩
        rw [h2, Nat.add_assoc, Nat.add_comm 1 i]
theorem best_prop (g : Grid) (s e : Nat) : bestSeat g s e = (0, s) ∨ ∃ i row, g[i]? = some row ∧ bestSeat g s e = (i, min (reach row s) e) ∧ s < min (reach row s) e := by
  rcases bestFrom_prop s e g 0 0 s with q | ⟨i, row, h1, h2, h3⟩
  · exact .inl q
  · exact .inr ⟨i, row, h1, by unfold bestSeat; rw [h2, Nat.zero_add], h3⟩
theorem best_ge (g : Grid) (s e : Nat) : s ≤ (bestSeat g s e).2 := by
  rcases best_prop g s e with q | ⟨i, row, h1, h2, h3⟩
  · rw [q]
    exact Nat.le_refl _
  · rw [h2]
    exact Nat.le_of_lt h3
theorem best_on {g : Grid} {s e : Nat} (h : (bestSeat g s e).2 ≠ s) : (bestSeat g s e).1 < g.length ∧ s < (bestSeat g s e).2 ∧ (bestSeat g s e).2 ≤ e := by
  rcases best_prop g s e with q | ⟨i, row, h1, h2, h3⟩
  · rw [q] at h
    exact absurd rfl h
  · rw [h2]
    exact ⟨lt_of_get h1, h3, Nat.min_le_right _ _⟩
/-- enough turns -/
theorem foundN_more (g : Grid) (e : Nat) : ∀ (n m s : Nat), e - s ≤ n → e - s ≤ m → foundN g e n s = foundN g e m s
  | 0, 0, _, _, _ => rfl
  | 0, m + 1, s, h, _ => by
    unfold foundN
    rw [if_neg (by omega)]
  | n + 1, 0, s, _, h => by
    unfold foundN
    rw [if_neg (by omega)]
  | n + 1, m + 1, s, h1, h2 => by
    unfold foundN
    split
    · split
      · rfl
      · rename_i hs hb
        have := best_on hb
        rw [foundN_more g e n m _ (by omega) (by omega)]
    · rfl
theorem found_stop {g : Grid} {s e : Nat} (h : ¬ s < e) : found g s e = [] := by
  unfold found
  rw [show e - s = 0 by omega]
  rfl
theorem found_none {g : Grid} {s e : Nat} (h : (bestSeat g s e).2 = s) : found g s e = [] := by
  unfold found
  cases e - s with
  | zero => rfl
  | succ n =>
    unfold foundN
    rw [if_pos h]
    split <;> rfl
theorem found_on {g : Grid} {s e : Nat} (h : s < e) (hb : (bestSeat g s e).2 ≠ s) : found g s e = ((bestSeat g s e).1, s, (bestSeat g s e).2) :: found g (bestSeat g s e).2 e := by
  have hn : e - s = (e - s - 1) + 1 := by omega
  unfold found
  rw [hn]
  conv => lhs; unfold foundN
  rw [if_pos h, if_neg hb]
  have := best_on hb
  rw [foundN_more g e _ (e - (bestSeat g s e).2) _ (by omega) (Nat.le_refl _)]
theorem found_valid {g : Grid} {e : Nat} : ∀ (n s : Nat), e - s ≤ n → ∀ q ∈ found g s e, q.1 < g.length ∧ q.2.1 < q.2.2 ∧ q.2.2 ≤ e
  | 0, s, h => by
    rw [found_stop (by omega)]
    intro q m
    cases m
  | n + 1, s, h => by
    intro q m
    by_cases hs : s < e
    · by_cases hb : (bestSeat g s e).2 = s
      · rw [found_none hb] at m
        cases m
      · rw [found_on hs hb] at m
        have := best_on hb
        rcases List.mem_cons.mp m with rfl | m
        · exact this
        · exact found_valid n _ (by omega) q m
    · rw [found_stop hs] at m
      cases m

/-! ### promises -/
def spBest : Sp := fun vs H Q _ => ∃ (r : Addr) (as : List Addr) (g : Grid) (s e : Nat), vs = [.ref r, .int s, .int e] ∧ GridAt H r as g ∧
  ∀ H' t, Ex H H' → H' t = some (.tup [.int (bestSeat g s e).1, .int (bestSeat g s e).2]) → Q (.ref t) H'
def spFound : Sp := fun vs H Q _ => ∃ (r : Addr) (as : List Addr) (g : Grid) (b e : Nat), vs = [.ref r, .int b, .int e] ∧ GridAt H r as g ∧ e ≤ 1000 ∧
  ∀ H' l, Ex H H' → H l = none → PartsAt H' l (found g b e) → Q (.ref l) H'
def spRow (K : PySem.W.Frag) : Sp := fun vs H Q E => ∃ (S : Addr → Prop) (p : Addr) (T : Tr) (b e : Int), vs = [.ref p, .int b, .int e] ∧ TrainAt K H S p T ∧
  (Str3 T b e → firstFull T.rows b.toNat e.toNat = none → ∀ H' l, Ex H H' → H l = none → PartsAt H' l (found T.rows b.toNat e.toNat) → Q (.ref l) H') ∧
  (Str3 T b e → firstFull T.rows b.toNat e.toNat ≠ none → ∀ H', Ex H H' → E (cls K "Full") none H') ∧ (¬ Str3 T b e → E (cls K "NoStretch") none H)
def spParts (K : PySem.W.Frag) : Sp := fun vs H Q E => ∃ (S : Addr → Prop) (p : Addr) (T : Tr) (t : Int), vs = [.ref p, .int t] ∧ TrainAt K H S p T ∧
  (∀ ps, getS T.sold t = some ps → ∀ H' l, Ex H H' → H l = none → PartsAt H' l ps → Q (.ref l) H') ∧ (getS T.sold t = none → E (cls K "NoTicket") none H)
def spMark (K : PySem.W.Frag) : Sp := fun vs H Q _ => ∃ (S : Addr → Prop) (p : Addr) (T : Tr) (l : Addr) (ps : List P3) (h : Option Nat), vs = [.ref p, .ref l, oV h] ∧ TrainAt K H S p T ∧ PartsAt H l ps ∧ Valid T ps ∧
  ∀ H', Mv H H' S S → H' l = H l → TrainAt K H' S p (T.mark ps h) → Q .non H'
def spTake (K : PySem.W.Frag) : Sp := fun vs H Q _ => ∃ (S : Addr → Prop) (p : Addr) (T : Tr) (t : Nat) (l : Addr) (ps : List P3), vs = [.ref p, .int t, .ref l] ∧ TrainAt K H S p T ∧ PartsAt H l ps ∧ ¬ S l ∧ Valid T ps ∧ T.sold.length < 1000000 ∧
  ((∃ x ∈ T.sold, x.1 = t) ∨ ∀ x ∈ T.sold, x.1 < t) ∧
  ∀ H', (∀ a o, ¬ S a → H a = some o → H' a = some o) → (∀ a xs, H a = some (.tup xs) → H' a = some (.tup xs)) → TrainAt K H' (fun a => S a ∨ a = l) p (T.take t ps) → Q .non H'
def spSell (K : PySem.W.Frag) : Sp := fun vs H Q E => ∃ (S : Addr → Prop) (p : Addr) (T : Tr) (b e : Int), vs = [.ref p, .int b, .int e] ∧ TrainAt K H S p T ∧ (∀ x ∈ T.sold, x.1 < T.coming) ∧ T.sold.length < 1000000 ∧
  (Str3 T b e → firstFull T.rows b.toNat e.toNat = none → ∀ H' S', Mv H H' S S' → TrainAt K H' S' p (T.sell b.toNat e.toNat) → Q (.int T.coming) H') ∧
  (Str3 T b e → firstFull T.rows b.toNat e.toNat ≠ none → ∀ H', Ex H H' → E (cls K "Full") none H') ∧ (¬ Str3 T b e → E (cls K "NoStretch") none H)
end Lg

namespace Lg
open PySem PySem.Spec PyProof.Rows L2
theorem foldl_len (seat : Nat) (h : Option Nat) : ∀ (ls : List Nat) (g : Grid), (ls.foldl (fun g leg => setCell g seat leg h) g).length = g.length
  | [], _ => rfl
  | l :: r, g => by
    rw [List.foldl_cons, foldl_len seat h r, setCell_len]
theorem ixN_nat {n j : Nat} (h : j < n) : ixN n (j : Int) = some j := by
  unfold ixN
  rw [if_pos (by omega), if_pos (by omega)]
  rfl
theorem putS_keys {sold : List (Nat × List P3)} {t : Nat} {ps : List P3} : (putS sold t ps).map (·.1) = if (sold.any fun x => decide (x.1 = t)) = true then sold.map (·.1) else sold.map (·.1) ++ [t] := by
  unfold putS
  split
  · rw [List.map_map]
    apply List.map_congr_left
    intro x _
    show (if x.1 = t then (t, ps) else x).1 = x.1
    split
    · rename_i h
      exact h.symm
    · rfl
  · rw [List.map_append]
    rfl
theorem putS_rising {sold : List (Nat × List P3)} {t : Nat} {ps : List P3} (h : (sold.map (·.1)).Pairwise (· < ·)) (hk : (∃ x ∈ sold, x.1 = t) ∨ ∀ x ∈ sold, x.1 < t) : ((putS sold t ps).map (·.1)).Pairwise (· < ·) := by
  rw [putS_keys]
  split
  · exact h
  · rename_i hn
    refine List.pairwise_append.mpr ⟨h, List.pairwise_singleton _ _, fun a m b mb => ?_⟩
    rw [List.mem_singleton.mp mb]
    obtain ⟨x, mx, rfl⟩ := List.mem_map.mp m
    rcases hk with ⟨y, my, ey⟩ | hk
    · exact absurd (List.any_eq_true.mpr ⟨y, my, decide_eq_true ey⟩) hn
    · exact hk x mx
theorem ent_in {ent : List Ent} {t : Nat} {l : Addr} {ps : List P3} {x : Ent} {Z : Addr → Prop} (m : x ∈ entPut ent t l ps) (h : ∀ y ∈ ent, Z y.2.1) (hl : Z l) : Z x.2.1 := by
  unfold entPut at m
  split at m
  · obtain ⟨y, my, e⟩ := List.mem_map.mp m
    split at e
    · rw [← e]
      exact hl
    · rw [← e]
      exact h y my
  · rcases List.mem_append.mp m with m | m
    · exact h x m
    · rw [List.mem_singleton.mp m]
      exact hl
theorem ent_in2 {ent : List Ent} {t : Nat} {l : Addr} {ps : List P3} {x : Ent} {Z : Addr → List P3 → Prop} (m : x ∈ entPut ent t l ps) (h : ∀ y ∈ ent, Z y.2.1 y.2.2) (hl : Z l ps) : Z x.2.1 x.2.2 := by
  unfold entPut at m
  split at m
  · obtain ⟨y, my, e⟩ := List.mem_map.mp m
    split at e
    · rw [← e]
      exact hl
    · rw [← e]
      exact h y my
  · rcases List.mem_append.mp m with m | m
    · exact h x m
    · rw [List.mem_singleton.mp m]
      exact hl
/-- a ticket put into the table -/
theorem TrRaw.put {K : PySem.W.Frag} {H : Hp} {S : Addr → Prop} {p : Addr} {T : Tr} {r d : Addr} {as : List Addr} {ent : List Ent} {ts : List Addr} (R : TrRaw K H p T r d as ent) (t : Nat) (l : Addr) (ps : List P3) (hS : ¬ S l) (hd : S d) (ha : l ∈ as → S l)
    (hk : (∃ x ∈ T.sold, x.1 = t) ∨ ∀ x ∈ T.sold, x.1 < t) (hl : H l = some (.lst (ts.map V.ref))) (hP : All2 (PartAt H) ts ps) :
    TrRaw K (upd H d (.dK (putK (entD ent) (Sum.inl (t : Int)) (.ref l)))) p { T with sold := putS T.sold t ps } r d as (entPut ent t l ps) := by
  obtain ⟨dx, hp⟩ := R.ins
  have hpd : p ≠ d := ne_of hp R.dict (fun z => by cases z)
  have hrd : r ≠ d := ne_of R.grid.top R.dict (fun z => by cases z)
  have tup : ∀ (q : Addr) (xs : List V), H q = some (.tup xs) → upd H d (.dK (putK (entD ent) (Sum.inl (t : Int)) (.ref l))) q = some (.tup xs) := fun q xs h => by
    rw [upd_ne (ne_of h R.dict (fun z => by cases z))]
    exact h
  have lst : ∀ (q : Addr) (xs : List V), H q = some (.lst xs) → upd H d (.dK (putK (entD ent) (Sum.inl (t : Int)) (.ref l))) q = some (.lst xs) := fun q xs h => by
    rw [upd_ne (ne_of h R.dict (fun z => by cases z))]
    exact h
  refine ⟨⟨R.wf.s1, R.wf.s2, R.wf.t1, R.wf.t2, R.wf.legs, putS_rising R.wf.rising hk⟩, ⟨dx, by rw [upd_ne hpd]; exact hp⟩, ⟨lst _ _ R.grid.top, R.grid.row.mono fun a row z => lst _ _ z⟩, R.nd, R.ra, ?_, ?_, fun x m => ?_, fun x m => ?_⟩
  · rw [entS_put, ← R.sold]
  · rw [upd_same, entD_put]
  · refine ent_in2 (Z := fun a q => PartsAt _ a q) m (fun y my => ?_) ⟨ts, lst _ _ hl, hP.mono fun u q z => tup _ _ z⟩
    obtain ⟨us, q1, q2⟩ := R.prt y my
    exact ⟨us, lst _ _ q1, q2.mono fun u q z => tup _ _ z⟩
  · exact ent_in (Z := fun a => a ∉ as) m R.la (fun z => hS (ha z))
/-- the next number changed -/
theorem TrainAt.next {K : PySem.W.Frag} {H : Hp} {S : Addr → Prop} {p : Addr} {T : Tr} (A : TrainAt K H S p T) : ∃ dx r d, H p = some (.ins (He.ga K "Train") dx (trF T.stops r d T.coming)) ∧
    ∀ c : Nat, Mv H (upd H p (.ins (He.ga K "Train") dx (trF T.stops r d c))) S S ∧ TrainAt K (upd H p (.ins (He.ga K "Train") dx (trF T.stops r d c))) S p { T with coming := c } := by
  obtain ⟨r, d, as, ent, R, sp, sr, sd, sa, sl⟩ := A
  obtain ⟨dx, hp⟩ := R.ins
  refine ⟨dx, r, d, hp, fun c => ?_⟩
  have lst : ∀ (q : Addr) (xs : List V), H q = some (.lst xs) → upd H p (.ins (He.ga K "Train") dx (trF T.stops r d c)) q = some (.lst xs) := fun q xs h => by
    rw [upd_ne (ne_of h hp (fun z => by cases z))]
    exact h
  have tup : ∀ (q : Addr) (xs : List V), H q = some (.tup xs) → upd H p (.ins (He.ga K "Train") dx (trF T.stops r d c)) q = some (.tup xs) := fun q xs h => by
    rw [upd_ne (ne_of h hp (fun z => by cases z))]
    exact h
  refine ⟨⟨fun a o na ha => ?_, tup, fun a h => .inl h⟩, r, d, as, ent, ⟨⟨R.wf.s1, R.wf.s2, R.wf.t1, R.wf.t2, R.wf.legs, R.wf.rising⟩, ⟨dx, upd_same⟩, ⟨lst _ _ R.grid.top, R.grid.row.mono fun a row z => lst _ _ z⟩, R.nd, R.ra, R.sold, ?_, fun x m => ?_, R.la⟩, sp, sr, sd, sa, sl⟩
  · rw [upd_ne (fun z : a = p => na (by rw [z]; exact sp))]
    exact ha
  · rw [upd_ne (ne_of R.dict hp (fun z => by cases z))]
    exact R.dict
  · obtain ⟨us, q1, q2⟩ := R.prt x m
    exact ⟨us, lst _ _ q1, q2.mono fun u q z => tup _ _ z⟩
end Lg

namespace Lg
open PySem PySem.Spec PyProof.Rows L2
/-! ### data compared as a whole -/
structure Enc {α : Type} [DecidableEq α] (e : α → PyData) (n : Nat) : Prop where
  eq : ∀ x y, PyData.eqv (e x) (e y) = decide (x = y)
  lay : ∀ x, PyData.canLay0 (e x) = true
  dep : ∀ x, PyData.depth (e x) ≤ n
theorem enc_int : Enc PyData.int 0 := ⟨fun x y => by rw [PyData.eqv]; by_cases h : x = y <;> simp [h], fun _ => rfl, fun _ => Nat.le_refl _⟩
theorem eqvAll_map {α : Type} [DecidableEq α] {e : α → PyData} (h : ∀ x y, PyData.eqv (e x) (e y) = decide (x = y)) : ∀ xs ys : List α, PyData.eqvAll (xs.map e) (ys.map e) = decide (xs = ys)
  | [], [] => by rw [List.map_nil, PyData.eqvAll]; rfl
  | [], y :: ys => by
    rw [List.map_nil, List.map_cons, PyData.eqvAll]
    exact (decide_eq_false (fun z => by cases z)).symm
  | x :: xs, [] => by
    rw [List.map_nil, List.map_cons, PyData.eqvAll]
    exact (decide_eq_false (fun z => by cases z)).symm
  | x :: xs, y :: ys => by
    rw [List.map_cons, List.map_cons, PyData.eqvAll, h x y, eqvAll_map h xs ys]
    by_cases h1 : x = y
    · by_cases h2 : xs = ys
      · simp [h1, h2]
      · simp [h1, h2]
    · simp [h1]
theorem layAll_map {α : Type} {e : α → PyData} (h : ∀ x, PyData.canLay0 (e x) = true) : ∀ xs : List α, PyData.canLayAll0 (xs.map e) = true
  | [] => rfl
  | x :: xs => by
    show (PyData.canLay0 (e x) && PyData.canLayAll0 (xs.map e)) = true
    rw [h x, layAll_map h xs]
    rfl
theorem depAll_map {α : Type} {e : α → PyData} {n : Nat} (h : ∀ x, PyData.depth (e x) ≤ n) : ∀ xs : List α, PyData.depthAll (xs.map e) ≤ n
  | [] => Nat.zero_le _
  | x :: xs => by
    show max (PyData.depth (e x)) (PyData.depthAll (xs.map e)) ≤ n
    exact Nat.max_le.mpr ⟨h x, depAll_map h xs⟩
theorem Enc.list {α : Type} [DecidableEq α] {e : α → PyData} {n : Nat} (E : Enc e n) : Enc (fun xs : List α => PyData.list (xs.map e)) (n + 1) :=
  ⟨fun x y => by rw [PyData.eqv]; exact eqvAll_map E.eq x y, fun x => layAll_map E.lay x, fun x => Nat.succ_le_succ (depAll_map E.dep x)⟩
theorem Enc.tup {α : Type} [DecidableEq α] {e : α → PyData} {n : Nat} (E : Enc e n) : Enc (fun xs : List α => PyData.tuple (xs.map e)) (n + 1) :=
  ⟨fun x y => by rw [PyData.eqv]; exact eqvAll_map E.eq x y, fun x => layAll_map E.lay x, fun x => Nat.succ_le_succ (depAll_map E.dep x)⟩
def oD : Option Nat → PyData
  | none => .none
  | some t => .int (t : Int)
theorem enc_opt : Enc oD 0 := by
  refine ⟨fun x y => ?_, fun x => by cases x <;> rfl, fun x => by cases x <;> exact Nat.le_refl _⟩
  cases x with
  | none => cases y with
    | none => rfl
    | some u => exact (decide_eq_false (fun z => by cases z)).symm
  | some t => cases y with
    | none => exact (decide_eq_false (fun z => by cases z)).symm
    | some u =>
      show ((t : Int) == (u : Int)) = _
      by_cases h : t = u
      · simp [h]
      · have h2 : ¬ (t : Int) = (u : Int) := fun z => h (Int.ofNat_inj.mp z)
        have h3 : ¬ some t = some u := fun z => h (Option.some.inj z)
        rw [decide_eq_false h3]
        exact beq_eq_false_iff_ne.mpr h2
section
variable {K : PySem.W.Frag} {H : Hp}
theorem dpAll : ∀ {xs : List V} {ds : List PyData}, All2 (Dp K H) xs ds → DpAll K H xs ds
  | [], [], _ => .nil
  | [], d :: ds, h => by have := h.len; simp at this
  | x :: xs, [], h => by have := h.len; simp at this
  | x :: xs, d :: ds, h => .cons h.tail.1 (dpAll h.tail.2)
theorem dp_ints {a : Addr} {xs : List Int} (h : H a = some (.lst (xs.map V.int))) : Dp K H (.ref a) (.list (xs.map PyData.int)) :=
  .lst (SqL.of h) (dpAll ⟨by rw [List.length_map, List.length_map], fun i x y hx hy => by
    obtain ⟨u, hu, rfl⟩ := map_back hx
    obtain ⟨v, hv, rfl⟩ := map_back hy
    rw [hu] at hv
    cases hv
    exact .int u⟩)
theorem dp_tup {a : Addr} {xs : List Int} (h : H a = some (.tup (xs.map V.int))) : Dp K H (.ref a) (.tuple (xs.map PyData.int)) :=
  .tup (SqT.of h) (dpAll ⟨by rw [List.length_map, List.length_map], fun i x y hx hy => by
    obtain ⟨u, hu, rfl⟩ := map_back hx
    obtain ⟨v, hv, rfl⟩ := map_back hy
    rw [hu] at hv
    cases hv
    exact .int u⟩)
theorem shaped_of {α : Type} [DecidableEq α] {e : α → PyData} {n : Nat} (E : Enc e n) (hn : n ≤ 64) (x : α) : SeqAt.shaped (e x) = true := by
  unfold SeqAt.shaped
  rw [E.lay x, decide_eq_true (Nat.le_trans (E.dep x) hn)]
  rfl
theorem rne_of {α : Type} [DecidableEq α] {e : α → PyData} {n : Nat} (E : Enc e n) (hn : n ≤ 64) {x y : V} {a b : α} {Q : VK} (h1 : Dp K H x (e a)) (h2 : Dp K H y (e b)) (q : Q (.bl (!decide (a = b))) H) : rNeD K x y H Q := by
  refine ⟨_, _, h1, h2, shaped_of E hn a, shaped_of E hn b, ?_⟩
  rw [E.eq]
  exact q
theorem req_of {α : Type} [DecidableEq α] {e : α → PyData} {n : Nat} (E : Enc e n) (hn : n ≤ 64) {x y : V} {a b : α} {Q : VK} (h1 : Dp K H x (e a)) (h2 : Dp K H y (e b)) (q : Q (.bl (decide (a = b))) H) : rEqD K x y H Q := by
  refine ⟨_, _, h1, h2, shaped_of E hn a, shaped_of E hn b, ?_⟩
  rw [E.eq]
  exact q
end
/-- a list of tuples of ints -/
def TupsAt (H : Hp) (l : Addr) (xss : List (List Int)) : Prop := ∃ ts : List Addr, H l = some (.lst (ts.map V.ref)) ∧ All2 (fun t xs => H t = some (.tup (xs.map V.int))) ts xss
def p3I (p : P3) : List Int := [p.1, p.2.1, p.2.2]
theorem p3I_inj {p q : P3} (h : p3I p = p3I q) : p = q := by
  obtain ⟨a, b, c⟩ := p
  obtain ⟨d, e, f⟩ := q
  have h1 : (a : Int) = d ∧ (b : Int) = e ∧ (c : Int) = f := by simpa [p3I] using h
  obtain ⟨h1, h2, h3⟩ := h1
  rw [Int.ofNat_inj.mp h1, Int.ofNat_inj.mp h2, Int.ofNat_inj.mp h3]
theorem p3s_inj {ps qs : List P3} : ps.map p3I = qs.map p3I ↔ ps = qs := by
  refine ⟨fun h => ?_, fun h => by rw [h]⟩
  induction ps generalizing qs with
  | nil => cases qs with
    | nil => rfl
    | cons q r => cases h
  | cons p r ih => cases qs with
    | nil => cases h
    | cons q s =>
      rw [List.map_cons, List.map_cons] at h
      injection h with h1 h2
      rw [p3I_inj h1, ih h2]
theorem PartsAt.tups {H : Hp} {l : Addr} {ps : List P3} (h : PartsAt H l ps) : TupsAt H l (ps.map p3I) := by
  obtain ⟨ts, a, b⟩ := h
  refine ⟨ts, a, by rw [b.len, List.length_map], fun i t xs ht hx => ?_⟩
  obtain ⟨p, hp, rfl⟩ := map_back hx
  exact b.at_ i t p ht hp
theorem TupsAt.mono {H H' : Hp} {l : Addr} {ps : List (List Int)} (e : Ex H H') (h : TupsAt H l ps) : TupsAt H' l ps := by
  obtain ⟨ts, a, b⟩ := h
  exact ⟨ts, e _ _ a, b.mono fun _ _ r => e _ _ r⟩

/-! ### what stands in a cell -/
def cellOf (g : Grid) (s l : Nat) : Option Nat := (((g[s]?).getD [])[l]?).getD none
theorem cell_is {g : Grid} {s l : Nat} {row : List (Option Nat)} {h : Option Nat} (hr : g[s]? = some row) (hh : row[l]? = some h) : cellOf g s l = h := by
  unfold cellOf
  rw [hr, Option.getD_some, hh]
  rfl
theorem setCell_cell {g : Grid} {n seat leg s l : Nat} {h : Option Nat} (hg : ∀ row ∈ g, row.length = n) (hs : seat < g.length) (hl : leg < n) : cellOf (setCell g seat leg h) s l = if s = seat ∧ l = leg then h else cellOf g s l := by
  have hlen : g[seat].length = n := hg _ (List.getElem_mem hs)
  unfold cellOf setCell
  rw [List.getElem?_eq_getElem hs, Option.getD_some, List.getElem?_set]
  by_cases e1 : seat = s
  · subst e1
    rw [if_pos rfl, if_pos hs, Option.getD_some, List.getElem?_set, List.getElem?_eq_getElem hs, Option.getD_some]
    by_cases e2 : leg = l
    · subst e2
      rw [if_pos rfl, if_pos (by omega), if_pos ⟨rfl, rfl⟩]
      rfl
    · rw [if_neg e2, if_neg (fun z => e2 z.2.symm)]
  · rw [if_neg e1, if_neg (fun z => e1 z.1.symm)]
theorem foldl_cell {n seat : Nat} {h : Option Nat} {s l : Nat} : ∀ (ls : List Nat) (g : Grid), (∀ row ∈ g, row.length = n) → seat < g.length → (∀ x ∈ ls, x < n) →
    cellOf (ls.foldl (fun g leg => setCell g seat leg h) g) s l = if s = seat ∧ l ∈ ls then h else cellOf g s l
  | [], g, _, _, _ => by
    rw [if_neg (fun z => by cases z.2)]
    rfl
  | x :: r, g, hg, hs, hb => by
    rw [List.foldl_cons, foldl_cell r _ (setCell_row hg) (by rw [setCell_len]; exact hs) (fun y m => hb y (List.mem_cons_of_mem _ m)), setCell_cell hg hs (hb x List.mem_cons_self)]
    by_cases e1 : s = seat
    · by_cases e2 : l ∈ r
      · rw [if_pos ⟨e1, e2⟩, if_pos ⟨e1, List.mem_cons_of_mem _ e2⟩]
      · rw [if_neg (fun z => e2 z.2)]
        by_cases e3 : l = x
        · rw [if_pos ⟨e1, e3⟩, if_pos ⟨e1, by rw [e3]; exact List.mem_cons_self⟩]
        · rw [if_neg (fun z => e3 z.2), if_neg (fun z => (List.mem_cons.mp z.2).elim e3 e2)]
    · rw [if_neg (fun z => e1 z.1), if_neg (fun z => e1 z.1), if_neg (fun z => e1 z.1)]
theorem markPart_cell {g : Grid} {n : Nat} {h : Option Nat} {p : P3} {s l : Nat} (hg : ∀ row ∈ g, row.length = n) (hs : p.1 < g.length) (hl : p.2.2 ≤ n) :
    cellOf (markPart g h p) s l = if s = p.1 ∧ p.2.1 ≤ l ∧ l < p.2.2 then h else cellOf g s l := by
  unfold markPart
  rw [foldl_cell _ g hg hs (fun x m => by have := List.mem_range'_1.mp m; omega)]
  have e : l ∈ List.range' p.2.1 (p.2.2 - p.2.1) ↔ p.2.1 ≤ l ∧ l < p.2.2 := by
    rw [List.mem_range'_1]
    omega
  by_cases c : s = p.1 ∧ p.2.1 ≤ l ∧ l < p.2.2
  · rw [if_pos c, if_pos ⟨c.1, e.mpr c.2⟩]
  · rw [if_neg c, if_neg (fun z => c ⟨z.1, e.mp z.2⟩)]
def covers (ps : List P3) (s l : Nat) : Prop := ∃ q ∈ ps, s = q.1 ∧ q.2.1 ≤ l ∧ l < q.2.2
instance (ps : List P3) (s l : Nat) : Decidable (covers ps s l) := by unfold covers; infer_instance
theorem markAll_cell {n : Nat} {h : Option Nat} {s l : Nat} : ∀ (ps : List P3) (g : Grid), (∀ row ∈ g, row.length = n) → (∀ q ∈ ps, q.1 < g.length ∧ q.2.2 ≤ n) → cellOf (markAll g ps h) s l = if covers ps s l then h else cellOf g s l
  | [], g, _, _ => by
    rw [if_neg (fun ⟨q, m, _⟩ => by cases m)]
    rfl
  | p :: r, g, hg, hv => by
    have hp := hv p List.mem_cons_self
    show cellOf (markAll (markPart g h p) r h) s l = _
    rw [markAll_cell r _ (markPart_row h p g hg) (fun q m => by rw [markPart_len]; exact hv q (List.mem_cons_of_mem _ m)), markPart_cell hg hp.1 hp.2]
    by_cases c1 : covers r s l
    · obtain ⟨q, m, c⟩ := id c1
      rw [if_pos c1, if_pos ⟨q, List.mem_cons_of_mem _ m, c⟩]
    · rw [if_neg c1]
      by_cases c2 : s = p.1 ∧ p.2.1 ≤ l ∧ l < p.2.2
      · rw [if_pos c2, if_pos ⟨p, List.mem_cons_self, c2⟩]
      · rw [if_neg c2, if_neg (fun ⟨q, m, c⟩ => (List.mem_cons.mp m).elim (fun z => c2 (z ▸ c)) fun m => c1 ⟨q, m, c⟩)]
/-- grids of one form are one, if their cells are -/
theorem grid_ext {g g' : Grid} {n : Nat} (hl : g.length = g'.length) (h1 : ∀ row ∈ g, row.length = n) (h2 : ∀ row ∈ g', row.length = n) (h : ∀ s l, s < g.length → l < n → cellOf g s l = cellOf g' s l) : g = g' := by
  apply List.ext_getElem hl
  intro s hs hs'
  have e1 := h1 _ (List.getElem_mem hs)
  have e2 := h2 _ (List.getElem_mem hs')
  apply List.ext_getElem (by rw [e1, e2])
  intro l hl1 hl2
  have := h s l hs (by omega)
  rw [cell_is (List.getElem?_eq_getElem hs) (List.getElem?_eq_getElem hl1), cell_is (List.getElem?_eq_getElem hs') (List.getElem?_eq_getElem hl2)] at this
  exact this
theorem cell_new {seats stops s l : Nat} : cellOf (Tr.new seats stops).rows s l = none := by
  unfold cellOf
  cases e : (Tr.new seats stops).rows[s]? with
  | none => rfl
  | some row =>
    rw [Option.getD_some, new_row e, List.getElem?_replicate]
    split <;> rfl
theorem best_all {n : Nat} {row : List (Option Nat)} {s e f : Nat} (hr : min (reach row s) e = f) (h : s < f) : bestSeat (List.replicate (n + 1) row) s e = (0, f) := by
  unfold bestSeat
  rw [List.replicate_succ]
  unfold bestFrom
  rw [hr, if_pos h]
  have : ∀ m k, bestFrom s e (List.replicate m row) k 0 f = (0, f) := by
    intro m
    induction m with
    | zero => intro k; rfl
    | succ m ih =>
      intro k
      rw [List.replicate_succ]
      unfold bestFrom
      rw [hr, if_neg (by omega)]
      exact ih _
  exact this n 1
theorem found_new {seats stops b e : Nat} (h1 : 1 ≤ seats) (h2 : b < e) (h3 : e < stops) : found (Tr.new seats stops).rows b e = [(0, b, e)] := by
  have hb : bestSeat (Tr.new seats stops).rows b e = (0, e) := by
    show bestSeat (List.replicate seats (List.replicate (stops - 1) none)) b e = _
    obtain ⟨n, rfl⟩ : ∃ n, seats = n + 1 := ⟨seats - 1, by omega⟩
    exact best_all (by rw [reach_new (by omega)]; omega) h2
  rw [found_on h2 (by rw [hb]; show e ≠ b; omega), hb]
  show (0, b, e) :: found _ e e = _
  rw [found_stop (by omega)]

/-! ### promises of the laws' helpers -/
def spMixed : Sp := fun vs H Q _ => ∃ (c k m : Int), vs = [.int c, .int k, .int m] ∧ 0 < m ∧ ∀ (v : Nat) H', (v : Int) < m → Ex H H' → Q (.int v) H'
def spSeats : Sp := fun vs H Q _ => ∃ c : Int, vs = [.int c] ∧ ∀ n : Nat, 1 ≤ n → n ≤ 60 → Q (.int n) H
def spStops : Sp := fun vs H Q _ => ∃ c : Int, vs = [.int c] ∧ ∀ n : Nat, 2 ≤ n → n ≤ 60 → Q (.int n) H
def spRowsEq (K : PySem.W.Frag) : Sp := fun vs H Q _ => ∃ (f d : Addr) (xs ys : List (List Int)), vs = [.ref f, .ref d] ∧ TupsAt H f xs ∧ TupsAt H d ys ∧ xs.length ≤ 100000 ∧ ys.length ≤ 100000 ∧ (∀ x ∈ xs, x.length ≤ 100) ∧ ∀ H', Ex H H' → Q (.bl (decide (xs = ys))) H'
def spHeld (K : PySem.W.Frag) : Sp := fun vs H Q _ => ∃ (S : Addr → Prop) (p : Addr) (T : Tr) (b e : Nat), vs = [.ref p, .int T.rows.length, .int b, .int e, .int T.stops] ∧ TrainAt K H S p T ∧
  (∀ s l, s < T.rows.length → l < T.stops - 1 → cellOf T.rows s l = if s = 0 ∧ b ≤ l ∧ l < e then some 0 else none) ∧ Q (.bl true) H
def spWord2 (K : PySem.W.Frag) : Sp := fun vs H Q _ => ∃ (S : Addr → Prop) (p : Addr) (T : Tr) (b e w : Int), vs = [.ref p, .int b, .int e, .int w] ∧ TrainAt K H S p T ∧ T.sold = [] ∧ ¬ Str3 T b e ∧ ∀ H', Ex H H' → Q (.str "stretch") H'
end Lg

namespace Lg
open PySem PySem.Spec PyProof.Rows L2
/-! ### ways of parts -/
/-- parts that go on from b to e, on unlike seats one behind the other -/
def Way (seats : Nat) : Nat → Nat → List P3 → Prop
  | b, e, [] => b = e
  | b, e, q :: r => q.2.1 = b ∧ b < q.2.2 ∧ q.1 < seats ∧ (∀ q', r.head? = some q' → q'.1 ≠ q.1) ∧ Way seats q.2.2 e r
theorem Way.le {n e : Nat} : ∀ {ps : List P3} {b : Nat}, Way n b e ps → b ≤ e
  | [], _, h => Nat.le_of_eq h
  | q :: r, b, h => by
    obtain ⟨_, h2, _, _, h5⟩ := h
    have := Way.le h5
    omega
theorem Way.mem {n e : Nat} : ∀ {ps : List P3} {b : Nat}, Way n b e ps → ∀ q ∈ ps, q.1 < n ∧ b ≤ q.2.1 ∧ q.2.1 < q.2.2 ∧ q.2.2 ≤ e
  | [], _, _, q, m => by cases m
  | p :: r, b, h, q, m => by
    obtain ⟨h1, h2, h3, _, h5⟩ := h
    rcases List.mem_cons.mp m with rfl | m
    · have := Way.le h5
      exact ⟨h3, by omega, by omega, by omega⟩
    · have := Way.mem h5 q m
      exact ⟨this.1, by omega, this.2.2.1, this.2.2.2⟩
theorem Way.lastE {n e : Nat} : ∀ {ps : List P3} {b : Nat} {q : P3}, Way n b e ps → ps.getLast? = some q → q.2.2 = e
  | [], _, _, _, h => by cases h
  | [p], b, q, w, h => by
    obtain ⟨_, _, _, _, h5⟩ := w
    cases h
    exact h5
  | p :: p2 :: r, b, q, w, h => by
    obtain ⟨_, _, _, _, h5⟩ := w
    rw [List.getLast?_cons_cons] at h
    exact Way.lastE h5 h
theorem Way.headB {n b e : Nat} {ps : List P3} {q : P3} (w : Way n b e ps) (h : ps.head? = some q) : q.2.1 = b := by
  cases ps with
  | nil => cases h
  | cons p r =>
    cases h
    exact w.1
theorem Way.ne {n b e : Nat} {ps : List P3} (w : Way n b e ps) (h : b < e) : ps ≠ [] := by
  rintro rfl
  exact absurd w (by show ¬ b = e; omega)
theorem Way.lt {n b e : Nat} {ps : List P3} (w : Way n b e ps) (h : ps ≠ []) : b < e := by
  cases ps with
  | nil => exact absurd rfl h
  | cons p r =>
    have := Way.le w.2.2.2.2
    have := w.2.1
    omega
theorem covers_cons {p : P3} {r : List P3} {s l : Nat} : covers (p :: r) s l ↔ (s = p.1 ∧ p.2.1 ≤ l ∧ l < p.2.2) ∨ covers r s l := by
  refine ⟨fun ⟨q, m, h⟩ => ?_, fun h => ?_⟩
  · rcases List.mem_cons.mp m with rfl | m
    · exact .inl h
    · exact .inr ⟨q, m, h⟩
  · rcases h with h | ⟨q, m, h⟩
    · exact ⟨p, List.mem_cons_self, h⟩
    · exact ⟨q, List.mem_cons_of_mem _ m, h⟩
theorem Way.all {n e l : Nat} : ∀ {ps : List P3} {b : Nat}, Way n b e ps → b ≤ l → l < e → ∃ s, covers ps s l
  | [], b, w, h1, h2 => absurd w (by show ¬ b = e; omega)
  | p :: r, b, w, h1, h2 => by
    by_cases h : l < p.2.2
    · exact ⟨p.1, covers_cons.mpr (.inl ⟨rfl, by have := w.1; omega, h⟩)⟩
    · obtain ⟨s, hs⟩ := Way.all w.2.2.2.2 (by omega) h2
      exact ⟨s, covers_cons.mpr (.inr hs)⟩
theorem Way.in {n b e s l : Nat} {ps : List P3} (w : Way n b e ps) (h : covers ps s l) : s < n ∧ b ≤ l ∧ l < e := by
  obtain ⟨q, m, h1, h2, h3⟩ := h
  have := w.mem q m
  omega
/-- kept, and free again, behind leaving at a stop -/
def keptP (ps : List P3) (s : Nat) : List P3 := (ps.filter fun q => decide (q.2.1 < s)).map fun q => (q.1, q.2.1, min q.2.2 s)
def goneP (ps : List P3) (s : Nat) : List P3 := (ps.filter fun q => decide (s < q.2.2)).map fun q => (q.1, max q.2.1 s, q.2.2)
theorem kept_none {n e s : Nat} : ∀ {ps : List P3} {b : Nat}, Way n b e ps → s ≤ b → keptP ps s = []
  | [], _, _, _ => rfl
  | p :: r, b, w, h => by
    unfold keptP
    rw [List.filter_cons, if_neg (by have := w.1; simp; omega)]
    exact kept_none w.2.2.2.2 (by have := w.2.1; omega)
theorem gone_all {n e s : Nat} : ∀ {ps : List P3} {b : Nat}, Way n b e ps → s ≤ b → goneP ps s = ps
  | [], _, _, _ => rfl
  | p :: r, b, w, h => by
    unfold goneP
    have h1 := w.1
    have h2 := w.2.1
    rw [List.filter_cons, if_pos (by simp; omega), List.map_cons]
    have := gone_all w.2.2.2.2 (s := s) (by omega)
    unfold goneP at this
    rw [this, Nat.max_eq_left (by omega)]
theorem kept_way {n e s : Nat} : ∀ {ps : List P3} {b : Nat}, Way n b e ps → b < s → s < e → Way n b s (keptP ps s)
  | [], b, w, h1, h2 => absurd w (by show ¬ b = e; omega)
  | p :: r, b, w, h1, h2 => by
    obtain ⟨w1, w2, w3, w4, w5⟩ := w
    have e1 : keptP (p :: r) s = (p.1, p.2.1, min p.2.2 s) :: keptP r s := by
      unfold keptP
      rw [List.filter_cons, if_pos (by simp; omega), List.map_cons]
    rw [e1]
    by_cases h : p.2.2 < s
    · have ih := kept_way w5 h h2
      refine ⟨w1, by show b < min _ _; omega, w3, fun q' hq => ?_, ?_⟩
      · cases r with
        | nil => cases hq
        | cons p2 r2 =>
          have e2 : keptP (p2 :: r2) s = (p2.1, p2.2.1, min p2.2.2 s) :: keptP r2 s := by
            unfold keptP
            rw [List.filter_cons, if_pos (by have := w5.1; simp; omega), List.map_cons]
          rw [e2] at hq
          cases hq
          exact w4 p2 rfl
      · show Way n (min p.2.2 s) s _
        rw [Nat.min_eq_left (by omega)]
        exact ih
    · rw [kept_none w5 (by omega)]
      refine ⟨w1, by show b < min _ _; omega, w3, fun q' hq => (by cases hq), ?_⟩
      show min p.2.2 s = s
      omega
theorem gone_way {n e s : Nat} : ∀ {ps : List P3} {b : Nat}, Way n b e ps → b ≤ s → s < e → Way n s e (goneP ps s)
  | [], b, w, h1, h2 => absurd w (by show ¬ b = e; omega)
  | p :: r, b, w, h1, h2 => by
    obtain ⟨w1, w2, w3, w4, w5⟩ := w
    by_cases h : s < p.2.2
    · have e1 : goneP (p :: r) s = (p.1, max p.2.1 s, p.2.2) :: goneP r s := by
        unfold goneP
        rw [List.filter_cons, if_pos (by simp; omega), List.map_cons]
      rw [e1, gone_all w5 (by omega)]
      exact ⟨by show max _ _ = s; omega, h, w3, w4, w5⟩
    · have e1 : goneP (p :: r) s = goneP r s := by
        unfold goneP
        rw [List.filter_cons, if_neg (by simp; omega)]
      rw [e1]
      exact gone_way w5 (by omega) h2
theorem covers_kept {ps : List P3} {c s l : Nat} : covers (keptP ps c) s l ↔ covers ps s l ∧ l < c := by
  unfold covers keptP
  refine ⟨fun ⟨q, m, h⟩ => ?_, fun ⟨⟨q, m, h⟩, hc⟩ => ?_⟩
  · obtain ⟨p, mp, rfl⟩ := List.mem_map.mp m
    have := List.mem_filter.mp mp
    dsimp only at h
    exact ⟨⟨p, this.1, h.1, h.2.1, by omega⟩, by omega⟩
  · refine ⟨_, List.mem_map.mpr ⟨q, List.mem_filter.mpr ⟨m, by simp; omega⟩, rfl⟩, h.1, h.2.1, ?_⟩
    show l < min _ _
    omega
theorem covers_gone {ps : List P3} {c s l : Nat} : covers (goneP ps c) s l ↔ covers ps s l ∧ c ≤ l := by
  unfold covers goneP
  refine ⟨fun ⟨q, m, h⟩ => ?_, fun ⟨⟨q, m, h⟩, hc⟩ => ?_⟩
  · obtain ⟨p, mp, rfl⟩ := List.mem_map.mp m
    have := List.mem_filter.mp mp
    dsimp only at h
    exact ⟨⟨p, this.1, h.1, by omega, h.2.2⟩, by omega⟩
  · refine ⟨_, List.mem_map.mpr ⟨q, List.mem_filter.mpr ⟨m, by simp; omega⟩, rfl⟩, h.1, ?_, h.2.2⟩
    show max _ _ ≤ l
    omega

/-! ### how far a row is free -/
theorem reach_free {row : List (Option Nat)} : ∀ (n s l : Nat), l - s ≤ n → s ≤ l → l < reach row s → row[l]? = some none := by
  intro n
  induction n with
  | zero =>
    intro s l h1 h2 h3
    obtain rfl : l = s := by omega
    cases e : row[l]? with
    | none =>
      rw [reach_out (List.getElem?_eq_none_iff.mp e)] at h3
      omega
    | some h => cases h with
      | none => rfl
      | some t =>
        rw [reach_no e] at h3
        omega
  | succ n ih =>
    intro s l h1 h2 h3
    by_cases hs : s = l
    · exact ih s l (by omega) h2 h3
    · cases e : row[s]? with
      | none =>
        rw [reach_out (List.getElem?_eq_none_iff.mp e)] at h3
        omega
      | some h => cases h with
        | none =>
          rw [reach_yes e] at h3
          exact ih (s + 1) l (by omega) (by omega) h3
        | some t =>
          rw [reach_no e] at h3
          omega
theorem reach_held {row : List (Option Nat)} : ∀ (n s : Nat), row.length - s ≤ n → reach row s < row.length → ∃ t, row[reach row s]? = some (some t) := by
  intro n
  induction n with
  | zero =>
    intro s h1 h2
    rw [reach_out (by omega)] at h2
    omega
  | succ n ih =>
    intro s h1 h2
    cases e : row[s]? with
    | none =>
      have := List.getElem?_eq_none_iff.mp e
      rw [reach_out this] at h2
      omega
    | some h => cases h with
      | none =>
        rw [reach_yes e] at h2
        rw [reach_yes e]
        exact ih (s + 1) (by omega) h2
      | some t =>
        rw [reach_no e]
        exact ⟨t, e⟩
theorem reach_far {row : List (Option Nat)} : ∀ (n s l : Nat), l - s ≤ n → s ≤ l → (∀ k, s ≤ k → k < l → row[k]? = some none) → l ≤ reach row s := by
  intro n
  induction n with
  | zero =>
    intro s l h1 h2 _
    have := reach_ge row s
    omega
  | succ n ih =>
    intro s l h1 h2 h
    by_cases hs : s = l
    · have := reach_ge row s
      omega
    · rw [reach_yes (h s (Nat.le_refl _) (by omega))]
      exact ih (s + 1) l (by omega) (by omega) fun k k1 k2 => h k (by omega) k2
theorem bestFrom_spec (s e : Nat) : ∀ (g : Grid) (k best far : Nat), (∀ row ∈ g, min (reach row s) e ≤ (bestFrom s e g k best far).2) ∧ far ≤ (bestFrom s e g k best far).2 ∧
    (bestFrom s e g k best far = (best, far) ∨ ∃ i row, g[i]? = some row ∧ bestFrom s e g k best far = (k + i, min (reach row s) e) ∧ far < min (reach row s) e ∧ ∀ j row', j < i → g[j]? = some row' → min (reach row' s) e < min (reach row s) e)
  | [], _, _, _ => ⟨fun row m => (by cases m), Nat.le_refl _, .inl rfl⟩
  | row :: g, k, best, far => by
    unfold bestFrom
    split
    · rename_i h
      obtain ⟨h1, h2, h3⟩ := bestFrom_spec s e g (k + 1) k (min (reach row s) e)
      refine ⟨fun r m => ?_, by omega, ?_⟩
      · rcases List.mem_cons.mp m with rfl | m
        · exact h2
        · exact h1 r m
      · rcases h3 with q | ⟨i, r2, g1, g2, g3, g4⟩
        · refine .inr ⟨0, row, rfl, by rw [q, Nat.add_zero], h, fun j row' hj => absurd hj (by omega)⟩
        · refine .inr ⟨i + 1, r2, g1, by rw [g2, Nat.add_assoc, Nat.add_comm 1 i], by omega, fun j row' hj hr => ?_⟩
          cases j with
          | zero =>
            cases hr
            exact g3
          | succ j => exact g4 j row' (by omega) hr
    · rename_i h
      obtain ⟨h1, h2, h3⟩ := bestFrom_spec s e g (k + 1) best far
      refine ⟨fun r m => ?_, h2, ?_⟩
      · rcases List.mem_cons.mp m with rfl | m
        · omega
        · exact h1 r m
      · rcases h3 with q | ⟨i, r2, g1, g2, g3, g4⟩
        · exact .inl q
        · refine .inr ⟨i + 1, r2, g1, by rw [g2, Nat.add_assoc, Nat.add_comm 1 i], g3, fun j row' hj hr => ?_⟩
          cases j with
          | zero =>
            cases hr
            omega
          | succ j => exact g4 j row' (by omega) hr
/-- the best seat, as said -/
theorem best_spec {g : Grid} {s e : Nat} (h : ∃ row ∈ g, s < min (reach row s) e) : ∃ i row, g[i]? = some row ∧ bestSeat g s e = (i, min (reach row s) e) ∧ s < min (reach row s) e ∧
    (∀ row' ∈ g, min (reach row' s) e ≤ min (reach row s) e) ∧ ∀ j row', j < i → g[j]? = some row' → min (reach row' s) e < min (reach row s) e := by
  obtain ⟨h1, h2, h3⟩ := bestFrom_spec s e g 0 0 s
  obtain ⟨row0, m0, h0⟩ := h
  have h10 := h1 row0 m0
  rcases h3 with q | ⟨i, row, g1, g2, g3, g4⟩
  · rw [q] at h10
    dsimp only at h10
    omega
  · refine ⟨i, row, g1, by unfold bestSeat; rw [g2, Nat.zero_add], g3, fun row' m => ?_, g4⟩
    have := h1 row' m
    rw [g2] at this
    exact this
theorem free_at {g : Grid} {n l : Nat} (hg : ∀ row ∈ g, row.length = n) (hl : l < n) (h : fullLeg g l = false) : ∃ row ∈ g, row[l]? = some none := by
  unfold fullLeg at h
  obtain ⟨row, m, hr⟩ : ∃ row ∈ g, held row l = false := by
    have := List.all_eq_false.mp h
    obtain ⟨row, m, hr⟩ := this
    exact ⟨row, m, by simpa using hr⟩
  refine ⟨row, m, ?_⟩
  have hlen := hg row m
  unfold held at hr
  have e := List.getElem?_eq_getElem (l := row) (i := l) (by omega)
  rw [e] at hr
  rw [e]
  cases hx : row[l] with
  | none => rfl
  | some t =>
    rw [hx] at hr
    cases hr
theorem leads_on {g : Grid} {n s e : Nat} (hg : ∀ row ∈ g, row.length = n) (hs : s < e) (he : e ≤ n) (h : fullLeg g s = false) : ∃ row ∈ g, s < min (reach row s) e := by
  obtain ⟨row, m, hr⟩ := free_at hg (by omega) h
  refine ⟨row, m, ?_⟩
  rw [reach_yes hr]
  have := reach_ge row (s + 1)
  omega
theorem found_way {g : Grid} {n e : Nat} (hg : ∀ row ∈ g, row.length = n) (he : e ≤ n) : ∀ (m s : Nat), e - s ≤ m → s ≤ e → (∀ l, s ≤ l → l < e → fullLeg g l = false) →
    Way g.length s e (found g s e) ∧ ∀ q ∈ found g s e, ∀ l, q.2.1 ≤ l → l < q.2.2 → cellOf g q.1 l = none := by
  intro m
  induction m with
  | zero =>
    intro s h1 h2 _
    rw [found_stop (by omega)]
    exact ⟨by show s = e; omega, fun q m => by cases m⟩
  | succ m ih =>
    intro s h1 h2 hf
    by_cases hs : s < e
    · obtain ⟨i, row, g1, g2, g3, g4, g5⟩ := best_spec (leads_on hg hs he (hf s (Nat.le_refl _) hs))
      have hb : (bestSeat g s e).2 ≠ s := by
        rw [g2]
        show min _ _ ≠ s
        omega
      rw [found_on hs hb, g2]
      dsimp only
      obtain ⟨w, fr⟩ := ih (min (reach row s) e) (by omega) (by omega) (fun l l1 l2 => hf l (by omega) l2)
      refine ⟨⟨rfl, g3, lt_of_get g1, fun q' hq => ?_, w⟩, fun q mq l l1 l2 => ?_⟩
      · by_cases hs2 : min (reach row s) e < e
        · obtain ⟨i2, row2, k1, k2, k3, k4, k5⟩ := best_spec (leads_on hg hs2 he (hf _ (by omega) hs2))
          have hb2 : (bestSeat g (min (reach row s) e) e).2 ≠ min (reach row s) e := by
            rw [k2]
            show min _ _ ≠ min _ _
            omega
          rw [found_on hs2 hb2, k2] at hq
          cases hq
          show i2 ≠ i
          rintro rfl
          rw [g1] at k1
          cases k1
          have hlen := hg row (List.mem_of_getElem? g1)
          have e1 : min (reach row s) e = reach row s := by omega
          rw [e1] at k3
          obtain ⟨t, ht⟩ := reach_held (row := row) _ s (Nat.le_refl _) (by omega)
          rw [reach_no ht] at k3
          omega
        · rw [found_stop hs2] at hq
          cases hq
      · rcases List.mem_cons.mp mq with rfl | mq
        · dsimp only at l1 l2
          exact cell_is g1 (reach_free _ s l (Nat.le_refl _) l1 (by omega))
        · exact fr q mq l l1 l2
    · rw [found_stop hs]
      exact ⟨by show s = e; omega, fun q m => by cases m⟩
theorem full_none {g : Grid} {b e : Nat} : firstFull g b e = none ↔ ∀ l, b ≤ l → l < e → fullLeg g l = false := by
  unfold firstFull
  rw [List.find?_eq_none]
  refine ⟨fun h l l1 l2 => ?_, fun h x m => ?_⟩
  · have := h l (List.mem_range'_1.mpr (by omega))
    simpa using this
  · have := List.mem_range'_1.mp m
    rw [h x this.1 (by omega)]
    exact Bool.false_ne_true
end Lg

namespace Lg
open PySem PySem.Spec PyProof.Rows L2
/-! ### the tickets' table -/
theorem mem_putS {sold : List (Nat × List P3)} {t : Nat} {ps : List P3} {y : Nat × List P3} : y ∈ putS sold t ps ↔ y = (t, ps) ∨ (y ∈ sold ∧ y.1 ≠ t) := by
  unfold putS
  by_cases h : (sold.any fun x => decide (x.1 = t)) = true
  · rw [if_pos h]
    obtain ⟨x0, m0, h0⟩ := List.any_eq_true.mp h
    have h0 := of_decide_eq_true h0
    refine ⟨fun m => ?_, fun c => ?_⟩
    · obtain ⟨x, mx, ex⟩ := List.mem_map.mp m
      by_cases hx : x.1 = t
      · rw [if_pos hx] at ex
        exact .inl ex.symm
      · rw [if_neg hx] at ex
        cases ex
        exact .inr ⟨mx, hx⟩
    · rcases c with rfl | ⟨m, hy⟩
      · exact List.mem_map.mpr ⟨x0, m0, by rw [if_pos h0]⟩
      · exact List.mem_map.mpr ⟨y, m, by rw [if_neg hy]⟩
  · rw [if_neg h]
    have hn : ∀ x ∈ sold, x.1 ≠ t := fun x m hx => h (List.any_eq_true.mpr ⟨x, m, decide_eq_true hx⟩)
    refine ⟨fun m => ?_, fun c => ?_⟩
    · rcases List.mem_append.mp m with m | m
      · exact .inr ⟨m, hn y m⟩
      · exact .inl (List.mem_singleton.mp m)
    · rcases c with rfl | ⟨m, _⟩
      · exact List.mem_append_right _ (List.mem_singleton.mpr rfl)
      · exact List.mem_append_left _ m
theorem mem_dropS {sold : List (Nat × List P3)} {t : Nat} {y : Nat × List P3} : y ∈ dropS sold t ↔ y ∈ sold ∧ y.1 ≠ t := by
  unfold dropS
  rw [List.mem_filter]
  refine and_congr_right fun _ => ?_
  simp
theorem getS_mem {sold : List (Nat × List P3)} {t : Int} {ps : List P3} (h : getS sold t = some ps) : ∃ n : Nat, t = (n : Int) ∧ (n, ps) ∈ sold := by
  unfold getS at h
  cases e : sold.find? fun x => decide ((x.1 : Int) = t) with
  | none =>
    rw [e] at h
    cases h
  | some x =>
    rw [e] at h
    cases h
    have h1 := List.find?_some e
    have h2 := List.mem_of_find?_eq_some e
    exact ⟨x.1, (of_decide_eq_true h1).symm, h2⟩
theorem getS_none {sold : List (Nat × List P3)} {t : Int} : getS sold t = none ↔ ∀ x ∈ sold, (x.1 : Int) ≠ t := by
  unfold getS
  rw [Option.map_eq_none_iff, List.find?_eq_none]
  refine ⟨fun h x m => ?_, fun h x m => ?_⟩
  · have := h x m
    simpa using this
  · simpa using h x m
theorem rising_one {sold : List (Nat × List P3)} (h : (sold.map (·.1)).Pairwise (· < ·)) {x y : Nat × List P3} (mx : x ∈ sold) (my : y ∈ sold) (e : x.1 = y.1) : x = y := by
  obtain ⟨i, hi, ei⟩ := List.mem_iff_getElem.mp mx
  obtain ⟨j, hj, ej⟩ := List.mem_iff_getElem.mp my
  have hp := List.pairwise_map.mp h
  have hq := List.pairwise_iff_getElem.mp hp
  rcases Nat.lt_trichotomy i j with c | c | c
  · have := hq i j hi hj c
    rw [ei, ej] at this
    omega
  · subst c
    rw [← ei, ← ej]
  · have := hq j i hj hi c
    rw [ei, ej] at this
    omega
theorem getS_of {sold : List (Nat × List P3)} (h : (sold.map (·.1)).Pairwise (· < ·)) {n : Nat} {ps : List P3} (m : (n, ps) ∈ sold) : getS sold (n : Int) = some ps := by
  cases e : getS sold (n : Int) with
  | none => exact absurd rfl (getS_none.mp e _ m)
  | some qs =>
    obtain ⟨k, ek, mk⟩ := getS_mem e
    have ek : n = k := Int.ofNat_inj.mp ek
    have := rising_one h mk m ek.symm
    cases this
    rfl
theorem drop_rising {sold : List (Nat × List P3)} {t : Nat} (h : (sold.map (·.1)).Pairwise (· < ·)) : ((dropS sold t).map (·.1)).Pairwise (· < ·) := by
  have := List.pairwise_map.mp h
  exact List.pairwise_map.mpr (this.filter _)

/-! ### deeds -/
instance (T : Tr) (b e : Int) : Decidable (Str3 T b e) := by unfold Str3; infer_instance
inductive Kind where
  | sell
  | back
  | leave
  | reseat
structure Deed where
  k : Kind
  a : Int
  b : Int
inductive Res where
  | non
  | num (n : Nat)
  | parts (ps : List P3)
structure Out where
  word : Str
  res : Res
  tr : Tr
def hdP (ps : List P3) : P3 := ps.head?.getD (0, 0, 0)
def ltP (ps : List P3) : P3 := ps.getLast?.getD (0, 0, 0)
def Tr.back (T : Tr) (t : Nat) (ps : List P3) : Tr := { T with rows := markAll T.rows ps none, sold := dropS T.sold t }
def Tr.leave (T : Tr) (t : Nat) (s : Nat) (ps : List P3) : Tr := { T with rows := markAll T.rows (goneP ps s) none, sold := putS T.sold t (keptP ps s) }
def newP (T : Tr) (ps : List P3) : List P3 := found (markAll T.rows ps none) (hdP ps).2.1 (ltP ps).2.2
def Tr.reseat (T : Tr) (t : Nat) (ps : List P3) : Tr := { T with rows := markAll (markAll T.rows ps none) (newP T ps) (some t), sold := putS T.sold t (newP T ps) }
def runSell (T : Tr) (a b : Int) : Out := if Str3 T a b then (if firstFull T.rows a.toNat b.toNat = none then ⟨"", .num T.coming, T.sell a.toNat b.toNat⟩ else ⟨"full", .non, T⟩) else ⟨"stretch", .non, T⟩
def runBack (T : Tr) (a : Int) : Out := match getS T.sold a with
  | none => ⟨"ticket", .non, T⟩
  | some ps => ⟨"", .parts ps, T.back a.toNat ps⟩
def runLeave (T : Tr) (a b : Int) : Out := match getS T.sold a with
  | none => ⟨"ticket", .non, T⟩
  | some ps => if ((hdP ps).2.1 : Int) < b ∧ b < ((ltP ps).2.2 : Int) then ⟨"", .parts (goneP ps b.toNat), T.leave a.toNat b.toNat ps⟩ else ⟨"stop", .non, T⟩
def runReseat (T : Tr) (a : Int) : Out := match getS T.sold a with
  | none => ⟨"ticket", .non, T⟩
  | some ps => ⟨"", .parts (newP T ps), T.reseat a.toNat ps⟩
def Tr.run (T : Tr) (d : Deed) : Out := match d.k with
  | .sell => runSell T d.a d.b
  | .back => runBack T d.a
  | .leave => runLeave T d.a d.b
  | .reseat => runReseat T d.a
/-- what always holds of a train -/
structure Good (T : Tr) : Prop where
  wf : T.Wf
  low : ∀ x ∈ T.sold, x.1 < T.coming
  way : ∀ x ∈ T.sold, ∃ b e, b < e ∧ e ≤ T.stops - 1 ∧ Way T.rows.length b e x.2
  cell : ∀ s l t, s < T.rows.length → l < T.stops - 1 → (cellOf T.rows s l = some t ↔ ∃ x ∈ T.sold, x.1 = t ∧ covers x.2 s l)
theorem Good.new {seats stops : Nat} (h1 : 1 ≤ seats) (h2 : seats ≤ 60) (h3 : 2 ≤ stops) (h4 : stops ≤ 60) : Good (Tr.new seats stops) where
  wf := Tr.new_wf h1 h2 h3 h4
  low := fun x m => by cases m
  way := fun x m => by cases m
  cell := fun s l t _ _ => by
    rw [cell_new]
    refine ⟨fun z => (by cases z), fun ⟨x, m, _⟩ => by cases m⟩
theorem Way.hd {n b e : Nat} {ps : List P3} (w : Way n b e ps) (h : b < e) : (hdP ps).2.1 = b ∧ (ltP ps).2.2 = e := by
  have hne := w.ne h
  cases ps with
  | nil => exact absurd rfl hne
  | cons p r =>
    refine ⟨w.1, ?_⟩
    unfold ltP
    rw [List.getLast?_eq_some_getLast hne, Option.getD_some]
    exact w.lastE (List.getLast?_eq_some_getLast hne)
theorem Way.valid {T : Tr} {b e : Nat} {ps : List P3} (w : Way T.rows.length b e ps) (he : e ≤ T.stops - 1) : Valid T ps := fun q m => by
  have := w.mem q m
  exact ⟨this.1, this.2.2.1, by omega⟩
theorem cells_step {T : Tr} (G : Good T) {t : Nat} {old new : List P3} {rows' : Grid} {sold' : List (Nat × List P3)}
    (hold : ∀ s l, covers old s l ↔ ∃ x ∈ T.sold, x.1 = t ∧ covers x.2 s l)
    (hfree : ∀ s l, s < T.rows.length → l < T.stops - 1 → covers new s l → cellOf T.rows s l = none ∨ covers old s l)
    (hrows : ∀ s l, s < T.rows.length → l < T.stops - 1 → cellOf rows' s l = if covers new s l then some t else if covers old s l then none else cellOf T.rows s l)
    (hs : ∀ y : Nat × List P3, y.1 ≠ t → (y ∈ sold' ↔ y ∈ T.sold)) (ht : ∀ s l, (∃ y ∈ sold', y.1 = t ∧ covers y.2 s l) ↔ covers new s l) :
    ∀ s l u, s < T.rows.length → l < T.stops - 1 → (cellOf rows' s l = some u ↔ ∃ x ∈ sold', x.1 = u ∧ covers x.2 s l) := by
  intro s l u h1 h2
  rw [hrows s l h1 h2]
  by_cases hu : u = t
  · subst hu
    rw [ht s l]
    by_cases c1 : covers new s l
    · rw [if_pos c1]
      exact ⟨fun _ => c1, fun _ => rfl⟩
    · rw [if_neg c1]
      by_cases c2 : covers old s l
      · rw [if_pos c2]
        exact ⟨fun z => (by cases z), fun z => absurd z c1⟩
      · rw [if_neg c2]
        refine ⟨fun z => absurd ((hold s l).mpr ((G.cell s l u h1 h2).mp z)) c2, fun z => absurd z c1⟩
  · have e1 : (∃ x ∈ sold', x.1 = u ∧ covers x.2 s l) ↔ ∃ x ∈ T.sold, x.1 = u ∧ covers x.2 s l := by
      refine ⟨fun ⟨x, m, ex, c⟩ => ⟨x, (hs x (by omega)).mp m, ex, c⟩, fun ⟨x, m, ex, c⟩ => ⟨x, (hs x (by omega)).mpr m, ex, c⟩⟩
    rw [e1, ← G.cell s l u h1 h2]
    have other : covers old s l → cellOf T.rows s l = some t := fun c => (G.cell s l t h1 h2).mpr ((hold s l).mp c)
    by_cases c1 : covers new s l
    · rw [if_pos c1]
      refine ⟨fun z => absurd (Option.some.inj z).symm hu, fun z => ?_⟩
      rcases hfree s l h1 h2 c1 with q | q
      · rw [q] at z
        cases z
      · rw [other q] at z
        exact absurd (Option.some.inj z).symm hu
    · rw [if_neg c1]
      by_cases c2 : covers old s l
      · rw [if_pos c2, other c2]
        exact ⟨fun z => (by cases z), fun z => absurd (Option.some.inj z).symm hu⟩
      · rw [if_neg c2]
theorem Good.mem_old {T : Tr} (G : Good T) {t : Nat} {ps : List P3} (m : (t, ps) ∈ T.sold) : ∀ s l, covers ps s l ↔ ∃ x ∈ T.sold, x.1 = t ∧ covers x.2 s l := fun s l =>
  ⟨fun c => ⟨_, m, rfl, c⟩, fun ⟨x, mx, ex, c⟩ => by
    have := rising_one G.wf.rising mx m ex
    rw [this] at c
    exact c⟩
theorem mark_cell {T : Tr} (w : T.Wf) {ps : List P3} (v : Valid T ps) {h : Option Nat} {s l : Nat} : cellOf (markAll T.rows ps h) s l = if covers ps s l then h else cellOf T.rows s l :=
  markAll_cell ps T.rows w.legs fun q m => ⟨(v q m).1, (v q m).2.2⟩
theorem mark_wf {T : Tr} (w : T.Wf) (ps : List P3) (h : Option Nat) : (T.mark ps h).Wf := w.rows (markAll_len _ _ _) (markAll_row _ _ _ w.legs)
theorem sell_wf {T : Tr} (w : T.Wf) {rows' : Grid} (h1 : rows'.length = T.rows.length) (h2 : ∀ row ∈ rows', row.length = T.stops - 1) {sold' : List (Nat × List P3)} (h3 : (sold'.map (·.1)).Pairwise (· < ·)) {c : Nat} : (Tr.mk T.stops rows' sold' c).Wf :=
  ⟨by show 1 ≤ rows'.length; rw [h1]; exact w.s1, by show rows'.length ≤ 60; rw [h1]; exact w.s2, w.t1, w.t2, h2, h3⟩
theorem Good.sell {T : Tr} (G : Good T) {b e : Nat} (hb : b < e) (he : e ≤ T.stops - 1) (hf : firstFull T.rows b e = none) : Good (T.sell b e) := by
  obtain ⟨w, fr⟩ := found_way G.wf.legs he _ b (Nat.le_refl _) (Nat.le_of_lt hb) (full_none.mp hf)
  have nin : ∀ x ∈ T.sold, x.1 ≠ T.coming := fun x m => Nat.ne_of_lt (G.low x m)
  refine ⟨sell_wf G.wf (markAll_len _ _ _) (markAll_row _ _ _ G.wf.legs) (putS_rising G.wf.rising (.inr G.low)), fun x m => ?_, fun x m => ?_, ?_⟩
  · rcases mem_putS.mp m with rfl | ⟨m, _⟩
    · exact Nat.lt_succ_self _
    · exact Nat.lt_succ_of_lt (G.low x m)
  · show ∃ b' e', b' < e' ∧ e' ≤ T.stops - 1 ∧ Way (markAll _ _ _).length b' e' x.2
    rw [markAll_len]
    rcases mem_putS.mp m with rfl | ⟨m, _⟩
    · exact ⟨b, e, hb, he, w⟩
    · exact G.way x m
  · intro s l u h1 h2
    rw [show (T.sell b e).rows.length = T.rows.length from markAll_len _ _ _] at h1
    refine cells_step G (t := T.coming) (old := []) (new := found T.rows b e) (fun s l => ⟨fun ⟨q, m, _⟩ => (by cases m), fun ⟨x, m, ex, _⟩ => absurd ex (nin x m)⟩) (fun s l _ _ ⟨q, m, c1, c2, c3⟩ => .inl (by rw [c1]; exact fr q m l c2 c3)) (fun s l _ _ => ?_)
      (fun y hy => ?_) (fun s l => ?_) s l u h1 h2
    · rw [if_neg (c := covers [] s l) (fun ⟨q, m, _⟩ => by cases m)]
      exact mark_cell G.wf (w.valid he)
    · show y ∈ putS _ _ _ ↔ _
      rw [mem_putS]
      refine ⟨fun c => ?_, fun m => .inr ⟨m, hy⟩⟩
      rcases c with rfl | c
      · exact absurd rfl hy
      · exact c.1
    · refine ⟨fun ⟨y, m, ey, c⟩ => ?_, fun c => ⟨_, mem_putS.mpr (.inl rfl), rfl, c⟩⟩
      rcases mem_putS.mp m with rfl | ⟨_, hy⟩
      · exact c
      · exact absurd ey hy
theorem Good.back {T : Tr} (G : Good T) {t : Nat} {ps : List P3} (m : (t, ps) ∈ T.sold) : Good (T.back t ps) := by
  obtain ⟨b, e, hb, he, w⟩ := G.way _ m
  refine ⟨sell_wf G.wf (markAll_len _ _ _) (markAll_row _ _ _ G.wf.legs) (drop_rising G.wf.rising), fun x mx => G.low x (mem_dropS.mp mx).1, fun x mx => ?_, ?_⟩
  · show ∃ b' e', b' < e' ∧ e' ≤ T.stops - 1 ∧ Way (markAll _ _ _).length b' e' x.2
    rw [markAll_len]
    exact G.way x (mem_dropS.mp mx).1
  · intro s l u h1 h2
    rw [show (T.back t ps).rows.length = T.rows.length from markAll_len _ _ _] at h1
    refine cells_step G (t := t) (old := ps) (new := []) (G.mem_old m) (fun s l _ _ ⟨q, mq, _⟩ => (by cases mq)) (fun s l _ _ => ?_) (fun y hy => ?_) (fun s l => ?_) s l u h1 h2
    · rw [if_neg (c := covers [] s l) (fun ⟨q, m, _⟩ => by cases m)]
      exact mark_cell G.wf (w.valid he)
    · show y ∈ dropS _ _ ↔ _
      rw [mem_dropS]
      exact ⟨fun c => c.1, fun c => ⟨c, hy⟩⟩
    · refine ⟨fun ⟨y, my, ey, c⟩ => absurd ey (mem_dropS.mp my).2, fun z => ?_⟩
      obtain ⟨q, mq, _⟩ := z
      cases mq
theorem Good.leave {T : Tr} (G : Good T) {t c : Nat} {ps : List P3} (m : (t, ps) ∈ T.sold) (h1 : (hdP ps).2.1 < c) (h2 : c < (ltP ps).2.2) : Good (T.leave t c ps) := by
  obtain ⟨b, e, hb, he, w⟩ := G.way _ m
  obtain ⟨eb, ee⟩ := w.hd hb
  dsimp only at w eb ee
  rw [eb] at h1
  rw [ee] at h2
  have wk := kept_way w h1 h2
  have wg := gone_way w (by omega) h2
  refine ⟨sell_wf G.wf (markAll_len _ _ _) (markAll_row _ _ _ G.wf.legs) (putS_rising G.wf.rising (.inl ⟨_, m, rfl⟩)), fun x mx => ?_, fun x mx => ?_, ?_⟩
  · rcases mem_putS.mp mx with rfl | ⟨mx, _⟩
    · exact G.low (t, ps) m
    · exact G.low x mx
  · show ∃ b' e', b' < e' ∧ e' ≤ T.stops - 1 ∧ Way (markAll _ _ _).length b' e' x.2
    rw [markAll_len]
    rcases mem_putS.mp mx with rfl | ⟨mx, _⟩
    · exact ⟨b, c, h1, by omega, wk⟩
    · exact G.way x mx
  · intro s l u h1 h2
    rw [show (T.leave t c ps).rows.length = T.rows.length from markAll_len _ _ _] at h1
    refine cells_step G (t := t) (old := ps) (new := keptP ps c) (G.mem_old m) (fun s l _ _ z => .inr (covers_kept.mp z).1) (fun s l g1 g2 => ?_) (fun y hy => ?_) (fun s l => ?_) s l u h1 h2
    · show cellOf (markAll T.rows (goneP ps c) none) s l = _
      rw [mark_cell G.wf (wg.valid he)]
      by_cases c1 : covers ps s l
      · have c0 := (G.cell s l t g1 g2).mpr ⟨_, m, rfl, c1⟩
        by_cases c2 : l < c
        · rw [if_neg (fun z => by have := (covers_gone.mp z).2; omega), if_pos (covers_kept.mpr ⟨c1, c2⟩)]
          exact c0
        · rw [if_pos (covers_gone.mpr ⟨c1, by omega⟩), if_neg (fun z => c2 (covers_kept.mp z).2), if_pos c1]
      · rw [if_neg (fun z => c1 (covers_gone.mp z).1), if_neg (fun z => c1 (covers_kept.mp z).1), if_neg c1]
    · show y ∈ putS _ _ _ ↔ _
      rw [mem_putS]
      refine ⟨fun c => ?_, fun m => .inr ⟨m, hy⟩⟩
      rcases c with rfl | c
      · exact absurd rfl hy
      · exact c.1
    · refine ⟨fun ⟨y, m, ey, c⟩ => ?_, fun c => ⟨_, mem_putS.mpr (.inl rfl), rfl, c⟩⟩
      rcases mem_putS.mp m with rfl | ⟨_, hy⟩
      · exact c
      · exact absurd ey hy
/-- own legs given back: each leg of the stretch has a free seat -/
theorem own_free {T : Tr} (w : T.Wf) {b e : Nat} {ps : List P3} (p : Way T.rows.length b e ps) (he : e ≤ T.stops - 1) : ∀ l, b ≤ l → l < e → fullLeg (markAll T.rows ps none) l = false := by
  intro l h1 h2
  obtain ⟨s, c⟩ := p.all h1 h2
  have hs := (p.in c).1
  have hc := mark_cell w (p.valid he) (h := none) (s := s) (l := l)
  rw [if_pos c] at hc
  have hlen := markAll_len none ps T.rows
  unfold fullLeg
  rw [List.all_eq_false]
  have hs' : s < (markAll T.rows ps none).length := by omega
  refine ⟨(markAll T.rows ps none)[s], List.getElem_mem hs', ?_⟩
  have hr := markAll_row none ps _ w.legs _ (List.getElem_mem hs')
  unfold cellOf at hc
  rw [List.getElem?_eq_getElem hs', Option.getD_some] at hc
  unfold held
  rw [hc]
  exact Bool.false_ne_true
theorem newP_way {T : Tr} (w : T.Wf) {b e : Nat} {ps : List P3} (p : Way T.rows.length b e ps) (hb : b < e) (he : e ≤ T.stops - 1) : newP T ps = found (markAll T.rows ps none) b e ∧ Way T.rows.length b e (newP T ps) ∧
    ∀ q ∈ newP T ps, ∀ l, q.2.1 ≤ l → l < q.2.2 → cellOf (markAll T.rows ps none) q.1 l = none := by
  have e1 : newP T ps = found (markAll T.rows ps none) b e := by
    unfold newP
    rw [(p.hd hb).1, (p.hd hb).2]
  have := found_way (markAll_row none ps _ w.legs) he _ b (Nat.le_refl _) (Nat.le_of_lt hb) (own_free w p he)
  rw [markAll_len] at this
  rw [e1]
  exact ⟨rfl, this⟩
theorem Good.reseat {T : Tr} (G : Good T) {t : Nat} {ps : List P3} (m : (t, ps) ∈ T.sold) : Good (T.reseat t ps) := by
  obtain ⟨b, e, hb, he, w⟩ := G.way _ m
  dsimp only at w
  obtain ⟨e1, wn, fr⟩ := newP_way G.wf w hb he
  have vn := wn.valid he
  have hlen : (T.reseat t ps).rows.length = T.rows.length := by
    show (markAll (markAll _ _ _) _ _).length = _
    rw [markAll_len, markAll_len]
  refine ⟨sell_wf G.wf hlen (markAll_row _ _ _ (markAll_row _ _ _ G.wf.legs)) (putS_rising G.wf.rising (.inl ⟨_, m, rfl⟩)), fun x mx => ?_, fun x mx => ?_, ?_⟩
  · rcases mem_putS.mp mx with rfl | ⟨mx, _⟩
    · exact G.low (t, ps) m
    · exact G.low x mx
  · rw [hlen]
    show ∃ b' e', b' < e' ∧ e' ≤ T.stops - 1 ∧ Way _ b' e' x.2
    rcases mem_putS.mp mx with rfl | ⟨mx, _⟩
    · exact ⟨b, e, hb, he, wn⟩
    · exact G.way x mx
  · intro s l u h1 h2
    rw [hlen] at h1
    refine cells_step G (t := t) (old := ps) (new := newP T ps) (G.mem_old m) (fun s l g1 g2 ⟨q, mq, c1, c2, c3⟩ => ?_) (fun s l g1 g2 => ?_) (fun y hy => ?_) (fun s l => ?_) s l u h1 h2
    · have := fr q mq l c2 c3
      rw [← c1, mark_cell G.wf (w.valid he)] at this
      by_cases c : covers ps s l
      · exact .inr c
      · rw [if_neg c] at this
        exact .inl this
    · show cellOf (markAll (T.mark ps none).rows (newP T ps) (some t)) s l = _
      rw [mark_cell (T := T.mark ps none) (mark_wf G.wf ps none) (fun q mq => ?_)]
      · show (if covers _ s l then _ else cellOf (markAll T.rows ps none) s l) = _
        rw [mark_cell G.wf (w.valid he)]
      · have := vn q mq
        refine ⟨?_, this.2⟩
        show _ < (markAll _ _ _).length
        rw [markAll_len]
        exact this.1
    · show y ∈ putS _ _ _ ↔ _
      rw [mem_putS]
      refine ⟨fun c => ?_, fun m => .inr ⟨m, hy⟩⟩
      rcases c with rfl | c
      · exact absurd rfl hy
      · exact c.1
    · refine ⟨fun ⟨y, m, ey, c⟩ => ?_, fun c => ⟨_, mem_putS.mpr (.inl rfl), rfl, c⟩⟩
      rcases mem_putS.mp m with rfl | ⟨_, hy⟩
      · exact c
      · exact absurd ey hy
theorem Good.run {T : Tr} (G : Good T) (d : Deed) : Good (T.run d).tr ∧ (T.run d).tr.stops = T.stops ∧ (T.run d).tr.rows.length = T.rows.length ∧ T.coming ≤ (T.run d).tr.coming ∧ (T.run d).tr.coming ≤ T.coming + 1 := by
  obtain ⟨k, a, b⟩ := d
  cases k with
  | sell =>
    show Good (runSell T a b).tr ∧ (runSell T a b).tr.stops = _ ∧ (runSell T a b).tr.rows.length = _ ∧ _ ≤ (runSell T a b).tr.coming ∧ (runSell T a b).tr.coming ≤ _
    unfold runSell
    split
    · rename_i hs
      split
      · rename_i hf
        exact ⟨G.sell (by have := hs.2.1; have := hs.1; omega) (by have := hs.2.2; have := hs.1; omega) hf, rfl, markAll_len _ _ _, Nat.le_succ _, Nat.le_refl _⟩
      · exact ⟨G, rfl, rfl, Nat.le_refl _, Nat.le_succ _⟩
    · exact ⟨G, rfl, rfl, Nat.le_refl _, Nat.le_succ _⟩
  | back =>
    show Good (runBack T a).tr ∧ (runBack T a).tr.stops = _ ∧ (runBack T a).tr.rows.length = _ ∧ _ ≤ (runBack T a).tr.coming ∧ (runBack T a).tr.coming ≤ _
    unfold runBack
    cases h : getS T.sold a with
    | none => exact ⟨G, rfl, rfl, Nat.le_refl _, Nat.le_succ _⟩
    | some ps =>
      obtain ⟨n, rfl, m⟩ := getS_mem h
      exact ⟨G.back m, rfl, markAll_len _ _ _, Nat.le_refl _, Nat.le_succ _⟩
  | leave =>
    show Good (runLeave T a b).tr ∧ (runLeave T a b).tr.stops = _ ∧ (runLeave T a b).tr.rows.length = _ ∧ _ ≤ (runLeave T a b).tr.coming ∧ (runLeave T a b).tr.coming ≤ _
    unfold runLeave
    cases h : getS T.sold a with
    | none => exact ⟨G, rfl, rfl, Nat.le_refl _, Nat.le_succ _⟩
    | some ps =>
      obtain ⟨n, rfl, m⟩ := getS_mem h
      dsimp only
      split
      · exact ⟨G.leave m (by omega) (by omega), rfl, markAll_len _ _ _, Nat.le_refl _, Nat.le_succ _⟩
      · exact ⟨G, rfl, rfl, Nat.le_refl _, Nat.le_succ _⟩
  | reseat =>
    show Good (runReseat T a).tr ∧ (runReseat T a).tr.stops = _ ∧ (runReseat T a).tr.rows.length = _ ∧ _ ≤ (runReseat T a).tr.coming ∧ (runReseat T a).tr.coming ≤ _
    unfold runReseat
    cases h : getS T.sold a with
    | none => exact ⟨G, rfl, rfl, Nat.le_refl _, Nat.le_succ _⟩
    | some ps =>
      obtain ⟨n, rfl, m⟩ := getS_mem h
      refine ⟨G.reseat m, rfl, ?_, Nat.le_refl _, Nat.le_succ _⟩
      show (markAll (markAll _ _ _) _ _).length = _
      rw [markAll_len, markAll_len]
/-- not more tickets than were sold -/
theorem Good.many {T : Tr} (G : Good T) : T.sold.length ≤ T.coming := by
  have h : ∀ (l : List Nat) (n : Nat), l.Pairwise (· < ·) → (∀ x ∈ l, x < n) → l.length ≤ n := by
    intro l
    induction l with
    | nil => exact fun _ _ _ => Nat.zero_le _
    | cons a r ih =>
      intro n hp hn
      have h1 := List.pairwise_cons.mp hp
      have h2 := ih (n - (a + 1) + (a + 1)) h1.2 (fun x m => by have := hn x (List.mem_cons_of_mem _ m); omega)
      have h3 : ∀ (l : List Nat) (k n : Nat), l.Pairwise (· < ·) → (∀ x ∈ l, k ≤ x ∧ x < n) → l.length ≤ n - k := by
        intro l
        induction l with
        | nil => exact fun _ _ _ _ => Nat.zero_le _
        | cons a r ih =>
          intro k n hp hn
          have h1 := List.pairwise_cons.mp hp
          have h2 := ih (k + 1) n h1.2 (fun x m => ⟨by have := h1.1 x m; have := (hn a List.mem_cons_self).1; omega, (hn x (List.mem_cons_of_mem _ m)).2⟩)
          have := hn a List.mem_cons_self
          rw [List.length_cons]
          omega
      have := h3 (a :: r) 0 n hp (fun x m => ⟨Nat.zero_le _, hn x m⟩)
      omega
  have := h (T.sold.map (·.1)) T.coming G.wf.rising (fun x m => by
    obtain ⟨y, my, rfl⟩ := List.mem_map.mp m
    exact G.low y my)
  rw [List.length_map] at this
  exact this
end Lg

namespace Lg
open PySem PySem.Spec PyProof.Rows L2
/-- a ticket taken out of the table -/
theorem TrainAt.drop {K : PySem.W.Frag} {H : Hp} {S : Addr → Prop} {p : Addr} {T : Tr} (A : TrainAt K H S p T) : ∃ dx r d ent, H p = some (.ins (He.ga K "Train") dx (trF T.stops r d T.coming)) ∧ H d = some (.dK (entD ent)) ∧ T.sold = entS ent ∧
    ∀ t : Nat, Mv H (upd H d (.dK (dropK (entD ent) (Sum.inl (t : Int))))) S S ∧ TrainAt K (upd H d (.dK (dropK (entD ent) (Sum.inl (t : Int))))) S p { T with sold := dropS T.sold t } := by
  obtain ⟨r, d, as, ent, R, sp, sr, sd, sa, sl⟩ := A
  obtain ⟨dx, hp⟩ := R.ins
  refine ⟨dx, r, d, ent, hp, R.dict, R.sold, fun t => ?_⟩
  have lst : ∀ (q : Addr) (xs : List V), H q = some (.lst xs) → upd H d (.dK (dropK (entD ent) (Sum.inl (t : Int)))) q = some (.lst xs) := fun q xs h => by
    rw [upd_ne (ne_of h R.dict (fun z => by cases z))]
    exact h
  have tup : ∀ (q : Addr) (xs : List V), H q = some (.tup xs) → upd H d (.dK (dropK (entD ent) (Sum.inl (t : Int)))) q = some (.tup xs) := fun q xs h => by
    rw [upd_ne (ne_of h R.dict (fun z => by cases z))]
    exact h
  refine ⟨⟨fun a o na ha => ?_, tup, fun a h => .inl h⟩, r, d, as, ent.filter fun x => decide (x.1 ≠ t), ⟨⟨R.wf.s1, R.wf.s2, R.wf.t1, R.wf.t2, R.wf.legs, drop_rising R.wf.rising⟩, ⟨dx, ?_⟩, ⟨lst _ _ R.grid.top, R.grid.row.mono fun a row z => lst _ _ z⟩, R.nd, R.ra, ?_, ?_, fun x m => ?_, fun x m => R.la x (List.mem_filter.mp m).1⟩, sp, sr, sd, sa, fun x m => sl x (List.mem_filter.mp m).1⟩
  · rw [upd_ne (fun z : a = d => na (by rw [z]; exact sd))]
    exact ha
  · rw [upd_ne (ne_of hp R.dict (fun z => by cases z))]
    exact hp
  · show dropS T.sold t = _
    rw [R.sold, entS_drop]
  · rw [upd_same, entD_drop]
  · obtain ⟨us, q1, q2⟩ := R.prt x (List.mem_filter.mp m).1
    exact ⟨us, lst _ _ q1, q2.mono fun u q z => tup _ _ z⟩
/-- the kept places of a list are its filter -/
theorem kept_map {α : Type} (l : List α) (f : α → Bool) (keep : Nat → Bool) (d : α) (h : ∀ i x, l[i]? = some x → keep i = f x) : (kept l.length keep).map (fun i => (l[i]?).getD d) = l.filter f := by
  have main : ∀ n, n ≤ l.length → (kept n keep).map (fun i => (l[i]?).getD d) = (l.take n).filter f := by
    intro n
    induction n with
    | zero => intro _; rfl
    | succ n ih =>
      intro hn
      have hl : n < l.length := hn
      have e := List.getElem?_eq_getElem hl
      have et : l.take (n + 1) = l.take n ++ [l[n]] := by rw [List.take_succ_eq_append_getElem hl]
      have hk := h n _ e
      rw [et, List.filter_append, ← ih (by omega)]
      cases hf : f l[n] with
      | true =>
        rw [hf] at hk
        rw [kept_yes hk, List.map_append, List.filter_cons, if_pos hf]
        show _ ++ [(l[n]?).getD d] = _ ++ [l[n]]
        rw [e]
        rfl
      | false =>
        rw [hf] at hk
        rw [kept_no hk, List.filter_cons, if_neg (by rw [hf]; exact Bool.false_ne_true), List.filter_nil, List.append_nil]
  have := main l.length (Nat.le_refl _)
  rw [List.take_length] at this
  exact this
theorem all2_kept {α β : Type} {l : List α} {f : α → Bool} {keep : Nat → Bool} {ys : List β} {R : Nat → β → Prop} {R' : α → β → Prop} (h : All2 R (kept l.length keep) ys) (hk : ∀ i x, l[i]? = some x → keep i = f x) (hR : ∀ i x y, l[i]? = some x → R i y → R' x y) : All2 R' (l.filter f) ys := by
  cases l with
  | nil =>
    refine ⟨?_, fun i x y hx => by simp at hx⟩
    rw [← h.len]
    rfl
  | cons a r =>
    rw [← kept_map (a :: r) f keep a hk]
    refine ⟨by rw [List.length_map, h.len], fun i x y hx hy => ?_⟩
    obtain ⟨k, hk2, rfl⟩ := map_back hx
    have m := List.mem_of_getElem? hk2
    have hlt : k < (a :: r).length := List.mem_range.mp (List.mem_filter.mp m).1
    have e := List.getElem?_eq_getElem hlt
    rw [e]
    exact hR k _ y e (h.at_ i k y hk2 hy)
theorem all2_map {α β γ : Type} {f : γ → α} {xs : List γ} {ys : List β} {R : α → β → Prop} (h : All2 (fun x y => R (f x) y) xs ys) : All2 R (xs.map f) ys := by
  refine ⟨by rw [List.length_map, h.len], fun i x y hx hy => ?_⟩
  obtain ⟨u, hu, rfl⟩ := map_back hx
  exact h.at_ i u y hu hy
theorem All2.symm {α β : Type} {R : α → β → Prop} {xs : List α} {ys : List β} (h : All2 R xs ys) : All2 (fun y x => R x y) ys xs := ⟨h.len.symm, fun i y x hy hx => h.at_ i x y hx hy⟩
/-- a list whose elements are tuples told one by one -/
theorem parts_made {H : Hp} {l : Addr} {ys : List V} {ps : List P3} (h : H l = some (.lst ys)) (ha : All2 (fun (p : P3) y => ∃ a, y = V.ref a ∧ H a = some (.tup (pV p))) ps ys) : PartsAt H l ps := by
  have : ∀ (ps : List P3) (ys : List V), All2 (fun (p : P3) y => ∃ a, y = V.ref a ∧ H a = some (.tup (pV p))) ps ys → ∃ ts : List Addr, ys = ts.map V.ref ∧ All2 (PartAt H) ts ps := by
    intro ps
    induction ps with
    | nil =>
      intro ys h
      have := h.len
      cases ys with
      | nil => exact ⟨[], rfl, All2.nil⟩
      | cons y r => simp at this
    | cons p r ih =>
      intro ys h
      cases ys with
      | nil => have := h.len; simp at this
      | cons y ys =>
        obtain ⟨⟨a, rfl, ea⟩, ht⟩ := h.tail
        obtain ⟨ts, rfl, hts⟩ := ih ys ht
        exact ⟨a :: ts, rfl, All2.cons ea hts⟩
  obtain ⟨ts, rfl, hts⟩ := this ps ys ha
  exact ⟨ts, h, hts⟩
theorem hd_is {ps : List P3} {q : P3} (h : ps.head? = some q) : hdP ps = q := by
  unfold hdP
  rw [h]
  rfl
theorem lt_is {ps : List P3} {q : P3} (h : ps.getLast? = some q) : ltP ps = q := by
  unfold ltP
  rw [h]
  rfl
/-- what a ticket's list tells of its first and its last part -/
theorem parts_ends {H : Hp} {l : Addr} {ps : List P3} {ts : List Addr} (hl : H l = some (.lst (ts.map V.ref))) (hP : All2 (PartAt H) ts ps) (hne : ps ≠ []) : ∃ t0 t1, atI (ts.map V.ref) 0 = some (.ref t0) ∧ atI (ts.map V.ref) (-1) = some (.ref t1) ∧
    H t0 = some (.tup (pV (hdP ps))) ∧ H t1 = some (.tup (pV (ltP ps))) := by
  have hlen := hP.len
  have hpos : 0 < ps.length := List.length_pos_iff.mpr hne
  have g0 := List.getElem?_eq_getElem (l := ts) (i := 0) (by omega)
  have g1 := List.getElem?_eq_getElem (l := ts) (i := ts.length - 1) (by omega)
  obtain ⟨p0, k0, r0⟩ := hP.left g0
  obtain ⟨p1, k1, r1⟩ := hP.left g1
  refine ⟨ts[0]'(by omega), ts[ts.length - 1]'(by omega), at_of (j := 0) rfl (map_get g0), ?_, ?_, ?_⟩
  · have := map_get (f := V.ref) g1
    show atI _ _ = _
    unfold atI ixN
    rw [if_neg (by decide), if_pos (by rw [List.length_map]; omega)]
    show (ts.map V.ref)[((((ts.map V.ref).length : Nat) : Int) + -1).toNat]? = _
    rw [← this, List.length_map]
    congr 1
    omega
  · rw [hd_is (q := p0) (by rw [List.head?_eq_getElem?]; exact k0)]
    exact r0
  · rw [lt_is (q := p1) (by rw [List.getLast?_eq_getElem?, ← hlen]; exact k1)]
    exact r1
theorem Way.len {n e : Nat} : ∀ {ps : List P3} {b : Nat}, Way n b e ps → ps.length ≤ e - b
  | [], _, _ => Nat.zero_le _
  | q :: r, b, w => by
    have h1 := Way.len w.2.2.2.2
    have h2 := w.2.1
    have h3 := Way.le w.2.2.2.2
    rw [List.length_cons]
    omega
/-- parts made of parts -/
theorem lc_parts {K : PySem.W.Frag} {j : Nat} {tt : TT} {te : TE} {vs : List Nat} {σ : L2.St} {H1 : Hp} {D l : Addr} {ts : List Addr} {ps : List P3} {Qd : Hp → Prop} (hD : H1 D = none) (hl : H1 l = some (.lst (ts.map V.ref))) (hP : All2 (PartAt H1) ts ps)
    (hn : ps.length ≤ 100000) (f : P3 → Bool) (m : P3 → P3) (hw : ∀ x, wipe ((wipe σ vs).set j (some x)) vs = wipe σ vs)
    (ht : ∀ q t H, q ∈ ps → Ex H1 H → H t = some (.tup (pV q)) → ∀ Q : Bool → Hp → Prop, Q (f q) H → tt ((wipe σ vs).set j (some (.ref t))) H Q)
    (he : ∀ q t H, q ∈ ps → f q = true → Ex H1 H → H t = some (.tup (pV q)) → ∀ Q : VK, (∀ a, H a = none → Q (.ref a) (upd H a (.tup (pV (m q))))) → te ((wipe σ vs).set j (some (.ref t))) H Q)
    (q : ∀ H', Ex H1 H' → PartsAt H' D ((ps.filter f).map m) → Qd H') :
    ∃ W : Nat → Nat → Hp → Prop, (∃ m, W 0 m (upd H1 D (.lst []))) ∧ ∀ i m H, W i m H →
      ((Itl K l).stop i H ∧ Qd H) ∨ ((Itl K l).go i H ∧ ∃ Nx : Hp → Prop, (∀ H', Nx H' → ∃ m', m' < m ∧ W (i + 1) m' H') ∧ ∀ x H', (Itl K l).yld i H x H' → gName j x (wipe σ vs) H' fun σ2 H2 => wipe σ2 vs = wipe σ vs ∧ tt σ2 H2 fun b H3 =>
        if b = true then te σ2 H3 fun y H4 => ∃ acc, H4 D = some (.lst acc) ∧ acc.length < sizeLine ∧ Nx (upd H4 D (.lst (acc ++ [y]))) else Nx H3) := by
  have hlen : (ts.map V.ref).length = ps.length := by rw [List.length_map, hP.len]
  have key : ∀ (i : Nat) (x : V), (ts.map V.ref)[i]? = some x → ∃ t q, x = V.ref t ∧ ps[i]? = some q ∧ q ∈ ps ∧ H1 t = some (.tup (pV q)) := fun i x hx => by
    obtain ⟨t, ht, rfl⟩ := map_back hx
    obtain ⟨q, hq, r⟩ := hP.left ht
    exact ⟨t, q, rfl, hq, List.mem_of_getElem? hq, r⟩
  refine lc_ex (walk_list (K := K) (a := l) (xs := ts.map V.ref)) y_list hD (fun H2 e2 => sqL_of hl e2) (by rw [hlen]; exact hn) (fun i => ((ps[i]?).map f).getD false)
    (fun H i y => ∃ q a, ps[i]? = some q ∧ y = V.ref a ∧ H a = some (.tup (pV (m q)))) (fun H H' i v e ⟨q, a, h1, h2, h3⟩ => ⟨q, a, h1, h2, e _ _ h3⟩) hw ?_ ?_ ?_
  · intro i x H hi hx e Q k
    obtain ⟨t, q, rfl, hq, mq, r⟩ := key i x hx
    have k2 := k H (Evl.Ex.refl H)
    rw [hq] at k2
    exact ht q t H mq e (e _ _ r) Q k2
  · intro i x H hi hx hk e hd Q k
    obtain ⟨t, q, rfl, hq, mq, r⟩ := key i x hx
    rw [hq] at hk
    refine he q t H mq hk e (e _ _ r) Q fun a ha => ?_
    obtain ⟨o, ho⟩ := hd
    refine k (.ref a) _ (upd H1 a (.tup (pV (m q)))) (Evl.Ex.new ha) (fun c o2 hc => ?_) ?_ ⟨q, a, hq, rfl, upd_same⟩
    · by_cases ca : c = a
      · subst ca
        rw [upd_same] at hc
        rw [upd_same]
        exact hc
      · rw [upd_ne ca] at hc
        rw [upd_ne ca]
        exact e _ _ hc
    · have : D ≠ a := ne_of_none ho ha
      rw [upd_ne this]
      exact hD
  · intro H' ys e hd hall
    refine q H' e (parts_made hd ?_)
    rw [hlen] at hall
    refine all2_map (all2_kept hall (fun i x hx => by rw [hx]; rfl) fun i x y hx ⟨q, a, h1, h2, h3⟩ => ?_)
    rw [hx] at h1
    cases h1
    exact ⟨a, h2, h3⟩
theorem getS_putS {sold : List (Nat × List P3)} {t : Nat} {ps : List P3} (h : ((putS sold t ps).map (·.1)).Pairwise (· < ·)) : getS (putS sold t ps) (t : Int) = some ps := getS_of h (mem_putS.mpr (.inl rfl))
/-! ### promises of the deeds -/
def ResV (H H' : Hp) (S S' : Addr → Prop) : Res → V → Prop
  | .non, v => v = .non
  | .num n, v => v = .int n
  | .parts ps, v => ∃ l, v = .ref l ∧ (S l ∨ H l = none) ∧ ¬ S' l ∧ PartsAt H' l ps
structure DeedSp (K : PySem.W.Frag) (H : Hp) (S : Addr → Prop) (p : Addr) (o : Out) (Q : VK) (E : XK) : Prop where
  ok : o.word = "" → ∀ H' S' v, Mv H H' S S' → TrainAt K H' S' p o.tr → ResV H H' S S' o.res v → Q v H'
  ticket : o.word = "ticket" → ∀ H', Ex H H' → E (cls K "NoTicket") none H'
  stop : o.word = "stop" → ∀ H', Ex H H' → E (cls K "NoStop") none H'
  stretch : o.word = "stretch" → ∀ H', Ex H H' → E (cls K "NoStretch") none H'
  full : o.word = "full" → ∀ H', Ex H H' → E (cls K "Full") none H'
def spBack (K : PySem.W.Frag) : Sp := fun vs H Q E => ∃ (S : Addr → Prop) (p : Addr) (T : Tr) (t : Int), vs = [.ref p, .int t] ∧ TrainAt K H S p T ∧ Good T ∧ DeedSp K H S p (runBack T t) Q E
def spLeave (K : PySem.W.Frag) : Sp := fun vs H Q E => ∃ (S : Addr → Prop) (p : Addr) (T : Tr) (t s : Int), vs = [.ref p, .int t, .int s] ∧ TrainAt K H S p T ∧ Good T ∧ T.coming < 1000000 ∧ DeedSp K H S p (runLeave T t s) Q E
def spReseat (K : PySem.W.Frag) : Sp := fun vs H Q E => ∃ (S : Addr → Prop) (p : Addr) (T : Tr) (t : Int), vs = [.ref p, .int t] ∧ TrainAt K H S p T ∧ Good T ∧ T.coming < 1000000 ∧ DeedSp K H S p (runReseat T t) Q E
end Lg

namespace Lg
open PySem PySem.Spec PyProof.Rows L2
section
variable {X : Cx} {K : PySem.W.Frag}
end
theorem range_map {α β : Type} (l : List α) (f : α → β) (d : β) : (List.range l.length).map (fun k => ((l[k]?).map f).getD d) = l.map f := by
  apply List.ext_getElem?
  intro i
  rw [List.getElem?_map, List.getElem?_map]
  by_cases hi : i < l.length
  · have h1 := List.getElem?_eq_getElem hi
    rw [List.getElem?_range hi, h1, Option.map_some, h1]
    rfl
  · rw [List.getElem?_eq_none (by rw [List.length_range]; omega), List.getElem?_eq_none (by omega)]
    rfl
theorem flat_ints (ns : List Int) : (ns.map V.int).all flatV = true := by
  rw [List.all_map]
  exact List.all_eq_true.mpr fun _ _ => rfl
/-! ### a grid, cell by cell -/
theorem GridAt.cell {H : Hp} {r : Addr} {as : List Addr} {g : Grid} (G : GridAt H r as g) (nd : as.Nodup) (nr : r ∉ as) {seat leg : Nat} {a : Addr} {row : List (Option Nat)} (h : Option Nat) (ha : as[seat]? = some a) (hr : g[seat]? = some row) :
    GridAt (upd H a (.lst ((row.set leg h).map oV))) r as (setCell g seat leg h) := by
  have ma := List.mem_of_getElem? ha
  have hset : setCell g seat leg h = g.set seat (row.set leg h) := by
    unfold setCell
    rw [hr]
    rfl
  have hsl := lt_of_get hr
  refine ⟨by rw [upd_ne (fun z : r = a => nr (z ▸ ma))]; exact G.top, ?_⟩
  rw [hset]
  refine ⟨by rw [List.length_set]; exact G.row.len, fun i b rw' hb hrw => ?_⟩
  rw [List.getElem?_set] at hrw
  by_cases e : seat = i
  · rw [if_pos e, if_pos hsl] at hrw
    cases hrw
    rw [← e, ha] at hb
    cases hb
    exact upd_same
  · rw [if_neg e] at hrw
    have nba : b ≠ a := fun z => by
      rw [z] at hb
      exact e (nd_ix nd ha hb)
    show upd H a _ b = _
    rw [upd_ne nba]
    exact G.row.at_ _ _ _ hb hrw
/-! ### the world that the laws reckon by -/
structure WRaw (H : Hp) (w r so pa : Addr) (as ls : List Addr) (T : Tr) : Prop where
  hw : H w = some (.lst [.ref r, .ref so, .ref pa, .int T.coming])
  grid : GridAt H r as T.rows
  hso : H so = some (.lst ((T.sold.map fun x => (x.1 : Int)).map V.int))
  hpa : H pa = some (.lst (ls.map V.ref))
  prt : All2 (PartsAt H) ls (T.sold.map (·.2))
  nd : ([w, r, so, pa] ++ as).Nodup
  lf : ∀ l ∈ ls, l ∉ [w, r, so, pa] ++ as
def WorldAt (H : Hp) (S : Addr → Prop) (w : Addr) (T : Tr) : Prop := ∃ r so pa as ls, WRaw H w r so pa as ls T ∧ ∀ a, a ∈ [w, r, so, pa] ++ as ++ ls → S a
structure WNe (w r so pa : Addr) (as : List Addr) : Prop where
  wr : w ≠ r
  ws : w ≠ so
  wp : w ≠ pa
  rs : r ≠ so
  rp : r ≠ pa
  sp : so ≠ pa
  wa : w ∉ as
  ra : r ∉ as
  sa : so ∉ as
  pa_ : pa ∉ as
  nd : as.Nodup
theorem wne {w r so pa : Addr} {as : List Addr} (h : ([w, r, so, pa] ++ as).Nodup) : WNe w r so pa as := by
  have h2 := h
  simp only [List.cons_append, List.nil_append, List.nodup_cons, List.mem_cons, not_or] at h2
  obtain ⟨⟨a1, a2, a3, a4⟩, ⟨b1, b2, b3⟩, ⟨c1, c2⟩, d1, e1⟩ := h2
  exact ⟨a1, a2, a3, b1, b2, c1, a4, b3, c2, d1, e1⟩
theorem lne {w r so pa l : Addr} {as : List Addr} (h : l ∉ [w, r, so, pa] ++ as) : l ≠ w ∧ l ≠ r ∧ l ≠ so ∧ l ≠ pa ∧ l ∉ as := by
  simp only [List.cons_append, List.nil_append, List.mem_cons, not_or] at h
  exact ⟨h.1, h.2.1, h.2.2.1, h.2.2.2.1, h.2.2.2.2⟩
theorem parts_keep {H H' : Hp} {ls : List Addr} {pss : List (List P3)} (h : All2 (PartsAt H) ls pss) (k : ∀ a ∈ ls, ∀ o, H a = some o → H' a = some o) (kt : ∀ a xs, H a = some (.tup xs) → H' a = some (.tup xs)) : All2 (PartsAt H') ls pss :=
  h.monoM fun l ps m _ ⟨ts, q1, q2⟩ => ⟨ts, k l m _ q1, q2.mono fun t y z => kt _ _ z⟩
theorem WorldAt.mono {H H' : Hp} {S : Addr → Prop} {w : Addr} {T : Tr} (h : WorldAt H S w T) (k : ∀ a o, S a → H a = some o → H' a = some o) (kt : ∀ a xs, H a = some (.tup xs) → H' a = some (.tup xs)) : WorldAt H' S w T := by
  obtain ⟨r, so, pa, as, ls, R, hS⟩ := h
  have sw : S w := hS w (by simp)
  have sr : S r := hS r (by simp)
  have ss : S so := hS so (by simp)
  have sp : S pa := hS pa (by simp)
  exact ⟨r, so, pa, as, ls, ⟨k _ _ sw R.hw, ⟨k _ _ sr R.grid.top, R.grid.row.monoM fun a _ m _ q => k _ _ (hS a (by simp [m])) q⟩, k _ _ ss R.hso, k _ _ sp R.hpa, parts_keep R.prt (fun a m o => k a o (hS a (by simp [m]))) kt, R.nd, R.lf⟩, hS⟩
theorem WorldAt.ex {H H' : Hp} {S : Addr → Prop} {w : Addr} {T : Tr} (h : WorldAt H S w T) (e : Ex H H') : WorldAt H' S w T := h.mono (fun a o _ q => e a o q) fun a xs q => e a _ q
theorem WorldAt.there {H : Hp} {S : Addr → Prop} {w : Addr} {T : Tr} (h : WorldAt H S w T) : ∃ S', (∀ a, S' a → S a ∧ ∃ o, H a = some o) ∧ WorldAt H S' w T := by
  obtain ⟨r, so, pa, as, ls, R, hS⟩ := h
  refine ⟨fun a => a ∈ [w, r, so, pa] ++ as ++ ls, fun a m => ⟨hS a m, ?_⟩, r, so, pa, as, ls, R, fun a m => m⟩
  rcases List.mem_append.mp m with m | m
  · rcases List.mem_append.mp m with m | m
    · simp only [List.mem_cons, List.not_mem_nil, or_false] at m
      rcases m with rfl | rfl | rfl | rfl
      · exact ⟨_, R.hw⟩
      · exact ⟨_, R.grid.top⟩
      · exact ⟨_, R.hso⟩
      · exact ⟨_, R.hpa⟩
    · obtain ⟨y, _, q⟩ := R.grid.row.mem_left m
      exact ⟨_, q⟩
  · obtain ⟨y, _, ts, q, _⟩ := R.prt.mem_left m
    exact ⟨_, q⟩
/-- a train and a world beside one another -/
structure Two (K : PySem.W.Frag) (H : Hp) (p w : Addr) (T1 T2 : Tr) (S U : Addr → Prop) : Prop where
  tr : TrainAt K H S p T1
  wo : WorldAt H U w T2
  dj : ∀ a, S a → ¬ U a
  aS : ∀ a, S a → ∃ o, H a = some o
  aU : ∀ a, U a → ∃ o, H a = some o
theorem Two.ex {K : PySem.W.Frag} {H H' : Hp} {p w : Addr} {T1 T2 : Tr} {S U : Addr → Prop} (h : Two K H p w T1 T2 S U) (e : Ex H H') : Two K H' p w T1 T2 S U :=
  ⟨h.tr.ex e, h.wo.ex e, h.dj, fun a q => by obtain ⟨o, ho⟩ := h.aS a q; exact ⟨o, e _ _ ho⟩, fun a q => by obtain ⟨o, ho⟩ := h.aU a q; exact ⟨o, e _ _ ho⟩⟩
theorem Two.train {K : PySem.W.Frag} {H H' : Hp} {p w : Addr} {T1 T2 T1' : Tr} {S S' U : Addr → Prop} (h : Two K H p w T1 T2 S U) (m : Mv H H' S S') (t : TrainAt K H' S' p T1') : ∃ S2, Two K H' p w T1' T2 S2 U ∧ ∀ a, S2 a → S' a ∧ (S a ∨ H a = none) := by
  obtain ⟨S2, h2, t2⟩ := t.there
  have nU : ∀ a, U a → ¬ S a := fun a u s => h.dj a s u
  refine ⟨S2, ⟨t2, h.wo.mono (fun a o u q => m.keep a o (nU a u) q) m.tups, fun a s u => ?_, fun a s => (h2 a s).2, fun a u => ?_⟩, fun a s => ⟨(h2 a s).1, m.new a (h2 a s).1⟩⟩
  · obtain ⟨o, ho⟩ := h.aU a u
    rcases m.new a (h2 a s).1 with z | z
    · exact nU a u z
    · rw [ho] at z
      cases z
  · obtain ⟨o, ho⟩ := h.aU a u
    exact ⟨o, m.keep a o (nU a u) ho⟩
theorem Two.world {K : PySem.W.Frag} {H H' : Hp} {p w : Addr} {T1 T2 T2' : Tr} {S U U' : Addr → Prop} (h : Two K H p w T1 T2 S U) (m : Mv H H' U U') (t : WorldAt H' U' w T2') : ∃ U2, Two K H' p w T1 T2' S U2 ∧ ∀ a, U2 a → U' a ∧ (U a ∨ H a = none) := by
  obtain ⟨U2, h2, t2⟩ := t.there
  refine ⟨U2, ⟨h.tr.mono (fun a o s q => m.keep a o (h.dj a s) q) m.tups, t2, fun a s u => ?_, fun a s => ?_, fun a u => (h2 a u).2⟩, fun a s => ⟨(h2 a s).1, m.new a (h2 a s).1⟩⟩
  · obtain ⟨o, ho⟩ := h.aS a s
    rcases m.new a (h2 a u).1 with z | z
    · exact h.dj a s z
    · rw [ho] at z
      cases z
  · obtain ⟨o, ho⟩ := h.aS a s
    exact ⟨o, m.keep a o (h.dj a s) ho⟩
/-! ### deeds as tuples -/
def Kind.str : Kind → Str
  | .sell => "sell"
  | .back => "back"
  | .leave => "leave"
  | .reseat => "reseat"
def DeedAt (H : Hp) (d : Addr) (x : Deed) : Prop := H d = some (.tup [.str x.k.str, .int x.a, .int x.b])
def WordAt (H : Hp) (t : Addr) (word : Str) (v : V) : Prop := H t = some (.tup [.str word, v])
def ResW (H H' : Hp) (U : Addr → Prop) : Res → V → Prop
  | .non, v => v = .non
  | .num n, v => v = .int n
  | .parts ps, v => ∃ l, v = .ref l ∧ (U l ∨ H l = none) ∧ PartsAt H' l ps
/-- a cell of the deeds: a number, or a deed laid -/
def IsCell (H : Hp) (v : V) : Prop := (∃ i, v = .int i) ∨ ∃ d x, v = .ref d ∧ DeedAt H d x
theorem IsCell.mono {H H' : Hp} {v : V} (h : IsCell H v) (kt : ∀ a xs, H a = some (.tup xs) → H' a = some (.tup xs)) : IsCell H' v := by
  rcases h with h | ⟨d, x, e, q⟩
  · exact .inl h
  · exact .inr ⟨d, x, e, kt _ _ q⟩
def CellsAt (H : Hp) (l : Addr) (vs : List V) : Prop := H l = some (.lst vs) ∧ vs.length ≤ 600 ∧ ∀ v ∈ vs, IsCell H v
theorem CellsAt.mono {H H' : Hp} {l : Addr} {vs : List V} (h : CellsAt H l vs) (k : ∀ o, H l = some o → H' l = some o) (kt : ∀ a xs, H a = some (.tup xs) → H' a = some (.tup xs)) : CellsAt H' l vs := ⟨k _ h.1, h.2.1, fun v m => (h.2.2 v m).mono kt⟩
/-! ### promises -/
def spTold (K : PySem.W.Frag) : Sp := fun vs H Q E => ∃ (S : Addr → Prop) (p : Addr) (T : Tr) (d : Addr) (x : Deed), vs = [.ref p, .ref d] ∧ TrainAt K H S p T ∧ Good T ∧ T.coming < 1000000 ∧ DeedAt H d x ∧ DeedSp K H S p (T.run x) Q E
def spWord (K : PySem.W.Frag) : Sp := fun vs H Q _ => ∃ (S : Addr → Prop) (p : Addr) (T : Tr) (d : Addr) (x : Deed), vs = [.ref p, .ref d] ∧ TrainAt K H S p T ∧ Good T ∧ T.coming < 1000000 ∧ DeedAt H d x ∧
  ∀ H' S' t v, Mv H H' S S' → TrainAt K H' S' p (T.run x).tr → WordAt H' t (T.run x).word v → ResV H H' S S' (T.run x).res v → Q (.ref t) H'
def spMarkW (K : PySem.W.Frag) : Sp := fun vs H Q _ => ∃ (r : Addr) (as : List Addr) (g : Grid) (n : Nat) (l : Addr) (ps : List P3) (h : Option Nat), vs = [.ref r, .ref l, oV h] ∧ GridAt H r as g ∧ as.Nodup ∧ r ∉ as ∧ l ∉ as ∧ (∀ row ∈ g, row.length = n) ∧ PartsAt H l ps ∧
  (∀ q ∈ ps, q.1 < g.length ∧ q.2.1 < q.2.2 ∧ q.2.2 ≤ n) ∧ n ≤ 1000 ∧ ∀ H', (∀ a o, a ∉ as → H a = some o → H' a = some o) → GridAt H' r as (markAll g ps h) → Q .non H'
def spFoundL (K : PySem.W.Frag) : Sp := fun vs H Q _ => ∃ (r : Addr) (as : List Addr) (g : Grid) (n b e : Nat), vs = [.ref r, .int b, .int e] ∧ GridAt H r as g ∧ (∀ row ∈ g, row.length = n) ∧ b ≤ e ∧ e ≤ n ∧ n ≤ 1000 ∧ g.length ≤ 1000 ∧ (∀ l, b ≤ l → l < e → fullLeg g l = false) ∧
  ∀ H' l, Ex H H' → H l = none → PartsAt H' l (found g b e) → Q (.ref l) H'
def spWorldNew : Sp := fun vs H Q _ => ∃ (seats stops : Nat), vs = [.int seats, .int stops] ∧ 1 ≤ seats ∧ seats ≤ 60 ∧ 2 ≤ stops ∧ stops ≤ 60 ∧ ∀ H' U w, Ex H H' → WorldAt H' U w (Tr.new seats stops) → (∀ a, U a → H a = none ∧ ∃ o, H' a = some o) → Q (.ref w) H'
def spLeft (K : PySem.W.Frag) : Sp := fun vs H Q _ => ∃ (l : Addr) (ps : List P3) (c : Nat), vs = [.ref l, .int c] ∧ PartsAt H l ps ∧ ps.length ≤ 100000 ∧ ∀ H' t k g, Ex H H' → H' t = some (.tup [.ref k, .ref g]) → H k = none → H g = none → PartsAt H' k (keptP ps c) → PartsAt H' g (goneP ps c) → Q (.ref t) H'
def DoneSp (H : Hp) (U : Addr → Prop) (w : Addr) (o : Out) (Q : VK) : Prop := ∀ H' U' t v, Mv H H' U U' → WorldAt H' U' w o.tr → WordAt H' t o.word v → ResW H H' U o.res v → Q (.ref t) H'
def spSoldBy (K : PySem.W.Frag) : Sp := fun vs H Q _ => ∃ (U : Addr → Prop) (w : Addr) (T : Tr) (a b : Int), vs = [.ref w, .int a, .int b] ∧ WorldAt H U w T ∧ Good T ∧ T.coming < 1000000 ∧ DoneSp H U w (runSell T a b) Q
def spDoneBy (K : PySem.W.Frag) : Sp := fun vs H Q _ => ∃ (U : Addr → Prop) (w : Addr) (T : Tr) (d : Addr) (x : Deed), vs = [.ref w, .ref d] ∧ WorldAt H U w T ∧ Good T ∧ T.coming < 1000000 ∧ DeedAt H d x ∧ DoneSp H U w (T.run x) Q
def spStretchBy : Sp := fun vs H Q _ => ∃ (c : Int) (n : Nat), vs = [.int c, .int n] ∧ 2 ≤ n ∧ ∀ H' t (b e : Nat), Ex H H' → H' t = some (.tup [.int b, .int e]) → b < e → e < n → Q (.ref t) H'
def spDeedBy (K : PySem.W.Frag) : Sp := fun vs H Q _ => ∃ (v : V) (so : Addr) (ks : List Int) (n : Nat), vs = [v, .ref so, .int n] ∧ IsCell H v ∧ H so = some (.lst (ks.map V.int)) ∧ ks.length ≤ 1000000 ∧ 2 ≤ n ∧ n ≤ 1000 ∧ ∀ H' d x, Ex H H' → DeedAt H' d x → Q (.ref d) H'
def spLaid (K : PySem.W.Frag) : Sp := fun vs H Q _ => ∃ (seats stops : Nat) (far : Int), vs = [.int seats, .int stops, .int far] ∧ 1 ≤ seats ∧ 2 ≤ stops ∧ seats ≤ 60 ∧ stops ≤ 60 ∧ seats * stops < 240 ∧ ∀ H' l xs, Ex H H' → H l = none → H' l = some (.lst xs) → xs.length ≤ 400 → (∀ v ∈ xs, IsCell H' v) → Q (.ref l) H'
def spCells (K : PySem.W.Frag) : Sp := fun vs H Q _ => ∃ (a : Addr) (ns : List Int), vs = [.ref a] ∧ SqL K H a (ns.map V.int) ∧ ns.length ≤ 63 ∧ ∀ H' l xs, Ex H H' → H l = none → CellsAt H' l xs → Q (.ref l) H'
def spBuilt (K : PySem.W.Frag) : Sp := fun vs H Q _ => ∃ (a : Addr) (ns : List Int), vs = [.ref a] ∧ SqL K H a (ns.map V.int) ∧ ∀ (n1 n2 : Nat), 1 ≤ n1 → n1 ≤ 60 → 2 ≤ n2 → n2 ≤ 60 → ∀ H' S U p w l, Ex H H' → Two K H' p w (Tr.new n1 n2) (Tr.new n1 n2) S U → (∀ a, S a ∨ U a → H a = none) → H' l = some (.lst [.ref p, .ref w]) → Q (.ref l) H'
theorem putS_new {sold : List (Nat × List P3)} {t : Nat} {ps : List P3} (h : ∀ x ∈ sold, x.1 < t) : putS sold t ps = sold ++ [(t, ps)] := by
  unfold putS
  rw [if_neg]
  intro z
  obtain ⟨x, m, e⟩ := List.any_eq_true.mp z
  have := h x m
  have e := of_decide_eq_true e
  omega
theorem run_refused (T : Tr) (d : Deed) (h : (T.run d).word ≠ "") : (T.run d).res = .non ∧ (T.run d).tr = T := by
  obtain ⟨k, a, b⟩ := d
  cases k with
  | sell =>
    revert h
    show (runSell T a b).word ≠ "" → (runSell T a b).res = .non ∧ (runSell T a b).tr = T
    unfold runSell
    split
    · split
      · exact fun h => absurd rfl h
      · exact fun _ => ⟨rfl, rfl⟩
    · exact fun _ => ⟨rfl, rfl⟩
  | back =>
    revert h
    show (runBack T a).word ≠ "" → (runBack T a).res = .non ∧ (runBack T a).tr = T
    unfold runBack
    cases getS T.sold a with
    | none => exact fun _ => ⟨rfl, rfl⟩
    | some ps => exact fun h => absurd rfl h
  | leave =>
    revert h
    show (runLeave T a b).word ≠ "" → (runLeave T a b).res = .non ∧ (runLeave T a b).tr = T
    unfold runLeave
    cases getS T.sold a with
    | none => exact fun _ => ⟨rfl, rfl⟩
    | some ps =>
      dsimp only
      split
      · exact fun h => absurd rfl h
      · exact fun _ => ⟨rfl, rfl⟩
  | reseat =>
    revert h
    show (runReseat T a).word ≠ "" → (runReseat T a).res = .non ∧ (runReseat T a).tr = T
    unfold runReseat
    cases getS T.sold a with
    | none => exact fun _ => ⟨rfl, rfl⟩
    | some ps => exact fun h => absurd rfl h
theorem ResV.ex {H H' H2 : Hp} {S S' : Addr → Prop} {r : Res} {v : V} (h : ResV H H' S S' r v) (e : Ex H' H2) : ResV H H2 S S' r v := by
  cases r with
  | non => exact h
  | num n => exact h
  | parts ps =>
    obtain ⟨l, a, b, c, d⟩ := h
    exact ⟨l, a, b, c, d.mono e⟩
/-! ### places in the table of tickets -/
theorem in_sold (sold : List (Nat × List P3)) (t : Int) : inV (.int t) ((sold.map fun x => (x.1 : Int)).map V.int) = (getS sold t).isSome := by
  unfold inV
  rw [List.any_map, List.any_map]
  cases h : getS sold t with
  | none =>
    have := getS_none.mp h
    rw [Option.isSome_none, List.any_eq_false]
    intro x m
    show ¬ ((x.1 : Int) == t) = true
    rw [beq_iff_eq]
    exact this x m
  | some ps =>
    obtain ⟨n, rfl, m⟩ := getS_mem h
    rw [Option.isSome_some, List.any_eq_true]
    exact ⟨_, m, beq_self_eq_true _⟩
theorem getS_ix {sold : List (Nat × List P3)} {t : Int} {ps : List P3} (h : getS sold t = some ps) (hr : (sold.map (·.1)).Pairwise (· < ·)) : ∃ i n, t = ((n : Nat) : Int) ∧ sold[i]? = some (n, ps) ∧ ∀ (j : Nat) (y : Nat × List P3), sold[j]? = some y → j ≠ i → y.1 ≠ n := by
  obtain ⟨n, rfl, m⟩ := getS_mem h
  obtain ⟨i, hi⟩ := List.mem_iff_getElem?.mp m
  refine ⟨i, n, rfl, hi, fun j y hj hne e => hne ?_⟩
  have hp := List.pairwise_iff_getElem.mp (List.pairwise_map.mp hr)
  have h1 := lt_of_get hi
  have h2 := lt_of_get hj
  have e1 := Option.some.inj ((List.getElem?_eq_getElem h1).symm.trans hi)
  have e2 := Option.some.inj ((List.getElem?_eq_getElem h2).symm.trans hj)
  rcases Nat.lt_trichotomy i j with c | c | c
  · have := hp i j h1 h2 c
    rw [e1, e2] at this
    dsimp only at this
    omega
  · exact c.symm
  · have := hp j i h2 h1 c
    rw [e1, e2] at this
    dsimp only at this
    omega
theorem putS_ix {sold : List (Nat × List P3)} {i n : Nat} {ps qs : List P3} (h : sold[i]? = some (n, ps)) (ho : ∀ (j : Nat) (y : Nat × List P3), sold[j]? = some y → j ≠ i → y.1 ≠ n) : putS sold n qs = sold.set i (n, qs) := by
  unfold putS
  rw [if_pos (List.any_eq_true.mpr ⟨_, List.mem_of_getElem? h, decide_eq_true rfl⟩)]
  apply List.ext_getElem?
  intro j
  rw [List.getElem?_map, List.getElem?_set]
  by_cases e : i = j
  · subst e
    rw [h, if_pos rfl, if_pos (lt_of_get h)]
    show some (if n = n then (n, qs) else (n, ps)) = _
    rw [if_pos rfl]
  · rw [if_neg e]
    cases hj : sold[j]? with
    | none => rfl
    | some y =>
      show some (if y.1 = n then (n, qs) else y) = _
      rw [if_neg (ho j y hj (fun z => e z.symm))]
theorem dropS_ix {n : Nat} {ps : List P3} : ∀ {sold : List (Nat × List P3)} {i : Nat}, sold[i]? = some (n, ps) → (∀ (j : Nat) (y : Nat × List P3), sold[j]? = some y → j ≠ i → y.1 ≠ n) → dropS sold n = sold.eraseIdx i
  | [], _, h, _ => by cases h
  | x :: r, 0, h, ho => by
    cases h
    unfold dropS
    rw [List.filter_cons, if_neg (by simp), List.eraseIdx_cons_zero]
    exact List.filter_eq_self.mpr fun y m => by
      obtain ⟨j, hj⟩ := List.mem_iff_getElem?.mp m
      exact decide_eq_true (ho (j + 1) y hj (by omega))
  | x :: r, i + 1, h, ho => by
    have hx := ho 0 x rfl (by omega)
    unfold dropS
    rw [List.filter_cons, if_pos (decide_eq_true hx), List.eraseIdx_cons_succ]
    have := dropS_ix (sold := r) (i := i) h (fun j y hj hne => ho (j + 1) y hj (by omega))
    unfold dropS at this
    rw [this]
theorem erase_map {α β : Type} (f : α → β) : ∀ (l : List α) (i : Nat), (l.map f).eraseIdx i = (l.eraseIdx i).map f
  | [], _ => rfl
  | x :: r, 0 => rfl
  | x :: r, i + 1 => by
    rw [List.map_cons, List.eraseIdx_cons_succ, List.eraseIdx_cons_succ, List.map_cons, erase_map f r i]
/-! ### the world's changes -/
theorem nas_tup {H : Hp} {r : Addr} {as : List Addr} {g : Grid} (G : GridAt H r as g) {x : Addr} {xs : List V} (h : H x = some (.tup xs)) : x ∉ as := fun m => by
  obtain ⟨y, _, z⟩ := G.row.mem_left m
  rw [show H x = _ from z] at h
  cases h
theorem parts_at {H H' : Hp} {l : Addr} {ps : List P3} (h : PartsAt H l ps) (k : ∀ o, H l = some o → H' l = some o) (kt : ∀ a xs, H a = some (.tup xs) → H' a = some (.tup xs)) : PartsAt H' l ps := by
  obtain ⟨ts, q1, q2⟩ := h
  exact ⟨ts, k _ q1, q2.mono fun _ _ z => kt _ _ z⟩
theorem WRaw.ex {H H' : Hp} {w r so pa : Addr} {as ls : List Addr} {T : Tr} (R : WRaw H w r so pa as ls T) (e : Ex H H') : WRaw H' w r so pa as ls T :=
  ⟨e _ _ R.hw, R.grid.mono e, e _ _ R.hso, e _ _ R.hpa, parts_keep R.prt (fun a _ o => e a o) (fun a xs => e a _), R.nd, R.lf⟩
theorem WRaw.rows {H H' : Hp} {w r so pa : Addr} {as ls : List Addr} {T : Tr} (R : WRaw H w r so pa as ls T) {g : Grid} (k : ∀ a o, a ∉ as → H a = some o → H' a = some o) (G : GridAt H' r as g) : WRaw H' w r so pa as ls { T with rows := g } := by
  have N := wne R.nd
  exact ⟨k _ _ N.wa R.hw, G, k _ _ N.sa R.hso, k _ _ N.pa_ R.hpa, parts_keep R.prt (fun a m o => k a o (lne (R.lf a m)).2.2.2.2) (fun a xs h => k a _ (nas_tup R.grid h) h), R.nd, R.lf⟩
theorem WRaw.setp {H : Hp} {w r so pa : Addr} {as ls : List Addr} {T : Tr} (R : WRaw H w r so pa as ls T) {i n l : Nat} {ps : List P3} (hl : PartsAt H l ps) (hne : l ∉ [w, r, so, pa] ++ as) {x : Nat × List P3} (hi : T.sold[i]? = some x) (hx : x.1 = n) :
    WRaw (upd H pa (.lst ((ls.set i l).map V.ref))) w r so pa as (ls.set i l) { T with sold := T.sold.set i (n, ps) } := by
  have N := wne R.nd
  have kt : ∀ a xs, H a = some (.tup xs) → upd H pa (.lst ((ls.set i l).map V.ref)) a = some (.tup xs) := fun a xs h => by
    rw [upd_ne (ne_of h R.hpa (fun z => by cases z))]
    exact h
  have inl : ∀ c ∈ ls.set i l, c ∈ ls ∨ c = l := fun c m => by
    rcases List.mem_or_eq_of_mem_set m with m | m
    · exact .inl m
    · exact .inr m
  have kl : ∀ c, c ∉ [w, r, so, pa] ++ as → ∀ o, H c = some o → upd H pa (.lst ((ls.set i l).map V.ref)) c = some o := fun c hc o h => by
    rw [upd_ne (lne hc).2.2.2.1]
    exact h
  refine ⟨by rw [upd_ne N.wp]; exact R.hw, ⟨by rw [upd_ne N.rp]; exact R.grid.top, R.grid.row.monoM fun c row m _ z => ?_⟩, ?_, upd_same, ?_, R.nd, fun c m => ?_⟩
  · show upd H pa _ c = _
    rw [upd_ne (fun z : c = pa => N.pa_ (z ▸ m))]
    exact z
  · rw [upd_ne N.sp]
    have e : (T.sold.set i (n, ps)).map (fun x => (x.1 : Int)) = T.sold.map fun x => (x.1 : Int) := by
      apply List.ext_getElem?
      intro j
      rw [List.getElem?_map, List.getElem?_map, List.getElem?_set]
      by_cases e : i = j
      · subst e
        rw [if_pos rfl, if_pos (lt_of_get hi), hi]
        show some (n : Int) = some (x.1 : Int)
        rw [hx]
      · rw [if_neg e]
    show H so = some (.lst (((T.sold.set i (n, ps)).map fun x => (x.1 : Int)).map V.int))
    rw [e]
    exact R.hso
  · show All2 _ (ls.set i l) ((T.sold.set i (n, ps)).map (·.2))
    rw [show (T.sold.set i (n, ps)).map (·.2) = (T.sold.map (·.2)).set i ps from List.map_set]
    exact (R.prt.monoM fun c qs m _ q => parts_at q (kl c (R.lf c m)) kt).set (parts_at hl (kl l hne) kt)
  · rcases inl c m with m | rfl
    · exact R.lf c m
    · exact hne
theorem WRaw.pop {H : Hp} {w r so pa : Addr} {as ls : List Addr} {T : Tr} (R : WRaw H w r so pa as ls T) (i : Nat) :
    WRaw (upd (upd H so (.lst (((T.sold.map fun x => (x.1 : Int)).map V.int).eraseIdx i))) pa (.lst ((ls.map V.ref).eraseIdx i))) w r so pa as (ls.eraseIdx i) { T with sold := T.sold.eraseIdx i } := by
  have N := wne R.nd
  have n2 : ∀ c, c ≠ so → c ≠ pa → upd (upd H so (.lst (((T.sold.map fun x => (x.1 : Int)).map V.int).eraseIdx i))) pa (.lst ((ls.map V.ref).eraseIdx i)) c = H c := fun c h1 h2 => by rw [upd_ne h2, upd_ne h1]
  refine ⟨by rw [n2 _ N.ws N.wp]; exact R.hw, ⟨by rw [n2 _ N.rs N.rp]; exact R.grid.top, R.grid.row.monoM fun c row m _ z => ?_⟩, ?_, ?_, ?_, R.nd, fun c m => R.lf c (List.mem_of_mem_eraseIdx m)⟩
  · show upd _ pa _ c = _
    rw [n2 c (fun z => N.sa (z ▸ m)) (fun z => N.pa_ (z ▸ m))]
    exact z
  · rw [upd_ne N.sp, upd_same, erase_map, erase_map]
  · rw [upd_same, erase_map]
  · show All2 _ _ ((T.sold.eraseIdx i).map (·.2))
    rw [← erase_map (fun x : Nat × List P3 => x.2)]
    refine (R.prt.monoM fun c qs m _ ⟨vs, q1, q2⟩ => ?_).erase i
    obtain ⟨z1, z2, z3, z4, z5⟩ := lne (R.lf c m)
    refine ⟨vs, by rw [n2 c z3 z4]; exact q1, q2.mono fun x y z => ?_⟩
    show upd _ pa _ x = _
    have z' : H x = some (.tup (pV y)) := z
    rw [n2 x (ne_of z' R.hso (fun z => by cases z)) (ne_of z' R.hpa (fun z => by cases z))]
    exact z
theorem at_mod {xs : List V} {P : V → Prop} (h : ∀ x ∈ xs, P x) {m c : Int} (hm : m = xs.length) (hpos : 0 < xs.length) : ∃ x, atI xs (c % m) = some x ∧ P x := by
  have h1 := Int.emod_nonneg c (b := m) (by omega)
  have h2 := Int.emod_lt_of_pos c (b := m) (by omega)
  have hj : (c % m).toNat < xs.length := by omega
  exact ⟨xs[(c % m).toNat], at_of (j := (c % m).toNat) (by omega) (List.getElem?_eq_getElem hj), h _ (List.getElem_mem hj)⟩
theorem cut_mem {xs : List V} {lo hi : Option Int} {v : V} (h : v ∈ cutV xs lo hi) : v ∈ xs := by
  unfold cutV at h
  exact List.mem_of_mem_drop (List.mem_of_mem_take h)
theorem cut_len (xs : List V) (lo hi : Option Int) : (cutV xs lo hi).length ≤ xs.length := by
  unfold cutV
  rw [List.length_take, List.length_drop]
  omega
end Lg

namespace Lg
open PySem PySem.Spec PyProof.Rows L2
theorem Mv.orL {H H' : Hp} {S S' U : Addr → Prop} (m : Mv H H' S S') : Mv H H' (fun a => S a ∨ U a) (fun a => S' a ∨ U a) :=
  ⟨fun a o na h => m.keep a o (fun z => na (.inl z)) h, m.tups, fun a h => h.elim (fun z => (m.new a z).imp .inl id) (fun z => .inl (.inr z))⟩
theorem Mv.orR {H H' : Hp} {S U U' : Addr → Prop} (m : Mv H H' U U') : Mv H H' (fun a => S a ∨ U a) (fun a => S a ∨ U' a) :=
  ⟨fun a o na h => m.keep a o (fun z => na (.inr z)) h, m.tups, fun a h => h.elim (fun z => .inl (.inl z)) (fun z => (m.new a z).imp .inr id)⟩
theorem sqL_keep {K : PySem.W.Frag} {H H' : Hp} {a : Addr} {xs : List V} (h : SqL K H a xs) (k : ∀ o, H a = some o → H' a = some o) : SqL K H' a xs := by
  rcases h with (h | ⟨o, h⟩) | h
  · exact .inl (.inl (k _ h))
  · exact .inl (.inr ⟨o, k _ h⟩)
  · exact .inr h
/-- an object beside the footprint -/
structure Off (H : Hp) (S : Addr → Prop) (a : Addr) : Prop where
  live : ∃ o, H a = some o
  off : ¬ S a
theorem Off.mv {H H' : Hp} {S S' S2 : Addr → Prop} {a : Addr} (h : Off H S a) (m : Mv H H' S S') (h2 : ∀ a, S2 a → S' a) : Off H' S2 a ∧ ∀ o, H a = some o → H' a = some o := by
  obtain ⟨o, ho⟩ := h.live
  refine ⟨⟨⟨o, m.keep a o h.off ho⟩, fun z => ?_⟩, fun o ho => m.keep a o h.off ho⟩
  rcases m.new a (h2 a z) with z | z
  · exact h.off z
  · rw [ho] at z
    cases z
theorem Off.ex {H H' : Hp} {S : Addr → Prop} {a : Addr} (h : Off H S a) (e : Ex H H') : Off H' S a := by
  obtain ⟨o, ho⟩ := h.live
  exact ⟨⟨o, e _ _ ho⟩, h.off⟩
theorem Off.new {H H' : Hp} {S : Addr → Prop} {a : Addr} (aS : ∀ a, S a → ∃ o, H a = some o) (h : H a = none) {o : HO} (h' : H' a = some o) : Off H' S a := ⟨⟨o, h'⟩, fun z => by
  obtain ⟨o, ho⟩ := aS a z
  rw [ho] at h
  cases h⟩
/-- the script, read at any time -/
structure ScrAt (K : PySem.W.Frag) (H : Hp) (S : Addr → Prop) (sa : Addr) (ns : List Int) : Prop where
  sq : SqL K H sa (ns.map V.int)
  fix : (∀ H, SqL K H sa (ns.map V.int)) ∨ Off H S sa
theorem ScrAt.mv {K : PySem.W.Frag} {H H' : Hp} {S S' S2 : Addr → Prop} {sa : Addr} {ns : List Int} (h : ScrAt K H S sa ns) (m : Mv H H' S S') (h2 : ∀ a, S2 a → S' a) : ScrAt K H' S2 sa ns := by
  rcases h.fix with f | f
  · exact ⟨f H', .inl f⟩
  · obtain ⟨f2, k⟩ := f.mv m h2
    exact ⟨sqL_keep h.sq k, .inr f2⟩
theorem ScrAt.ex {K : PySem.W.Frag} {H H' : Hp} {S : Addr → Prop} {sa : Addr} {ns : List Int} (h : ScrAt K H S sa ns) (e : Ex H H') : ScrAt K H' S sa ns := ⟨sqL_ex h.sq e, h.fix.imp id fun f => f.ex e⟩
theorem ScrAt.start {K : PySem.W.Frag} {H H' : Hp} {S : Addr → Prop} {sa : Addr} {ns : List Int} (h : SqL K H sa (ns.map V.int)) (e : Ex H H') (hS : ∀ a, S a → H a = none) : ScrAt K H' S sa ns := by
  refine ⟨sqL_ex h e, ?_⟩
  rcases h with h | h
  · refine .inr ?_
    have : ∃ o, H sa = some o := by
      rcases h with h | ⟨o, h⟩
      · exact ⟨_, h⟩
      · exact ⟨_, h⟩
    obtain ⟨o, ho⟩ := this
    exact ⟨⟨o, e _ _ ho⟩, fun z => by
      rw [hS _ z] at ho
      cases ho⟩
  · exact .inl fun H => .inr h
/-- the rows of a grid on which a leg is held -/
theorem lc_load {K : PySem.W.Frag} {j : Nat} {tt : TT} {te : TE} {vs : List Nat} {σ : L2.St} {H1 : Hp} {D r : Addr} {as : List Addr} {g : Grid} {Qd : Hp → Prop} (hD : H1 D = none) (G : GridAt H1 r as g) (hn : g.length ≤ 1000) (l : Nat) (hl : ∀ row ∈ g, l < row.length)
    (hw : ∀ x, wipe ((wipe σ vs).set j (some x)) vs = wipe σ vs)
    (ht : ∀ a row h H, RowAt H a row → row[l]? = some h → ∀ Q : Bool → Hp → Prop, Q h.isSome H → tt ((wipe σ vs).set j (some (.ref a))) H Q)
    (he : ∀ a H, ∀ Q : VK, Q (.ref a) H → te ((wipe σ vs).set j (some (.ref a))) H Q)
    (q : ∀ H' ys, Ex H1 H' → H' D = some (.lst ys) → ys.length = load g l → Qd H') :
    ∃ W : Nat → Nat → Hp → Prop, (∃ m, W 0 m (upd H1 D (.lst []))) ∧ ∀ i m H, W i m H →
      ((Itl K r).stop i H ∧ Qd H) ∨ ((Itl K r).go i H ∧ ∃ Nx : Hp → Prop, (∀ H', Nx H' → ∃ m', m' < m ∧ W (i + 1) m' H') ∧ ∀ x H', (Itl K r).yld i H x H' → gName j x (wipe σ vs) H' fun σ2 H2 => wipe σ2 vs = wipe σ vs ∧ tt σ2 H2 fun b H3 =>
        if b = true then te σ2 H3 fun y H4 => ∃ acc, H4 D = some (.lst acc) ∧ acc.length < sizeLine ∧ Nx (upd H4 D (.lst (acc ++ [y]))) else Nx H3) := by
  have hglen : (as.map V.ref).length = g.length := by rw [List.length_map, G.row.len]
  refine lc_ex (walk_list (K := K) (a := r) (xs := as.map V.ref)) y_list hD (fun H2 e2 => sqL_of G.top e2) (by rw [hglen]; omega) (fun k => ((g[k]?).map fun row => held row l).getD false)
    (fun _ _ _ => True) (fun _ _ _ _ _ _ => trivial) hw ?_ ?_ ?_
  · intro k x H2 hk hx e2 Q2 q3
    obtain ⟨a, ha, rfl⟩ := map_back hx
    obtain ⟨row, hrow, hr2⟩ := G.row.left ha
    have hlr := hl row (List.mem_of_getElem? hrow)
    have hc := List.getElem?_eq_getElem hlr
    have q4 := q3 H2 (Evl.Ex.refl H2)
    rw [hrow, Option.map_some, Option.getD_some, held_at hc] at q4
    exact ht a row _ H2 (e2 _ _ hr2) hc Q2 q4
  · intro k x H2 hk hx hkeep e2 hD2 Q2 q3
    obtain ⟨a, ha, rfl⟩ := map_back hx
    exact he a H2 Q2 (q3 _ H2 H1 (Evl.Ex.refl H2) e2 hD trivial)
  · intro H2 ys e2 hD2 hall
    refine q H2 ys e2 hD2 ?_
    rw [← hall.len, hglen]
    exact kept_filter g _ _ fun k row hk => by rw [hk]; rfl
theorem at_lt {xs : List V} {P : V → Prop} (h : ∀ x ∈ xs, P x) {v : Nat} (hv : v < xs.length) : ∃ x, xs[v]? = some x ∧ P x := ⟨xs[v], List.getElem?_eq_getElem hv, h _ (List.getElem_mem hv)⟩
/-! ### k03 -/
def dueS (T : Tr) (seat at_ way : Int) : Str :=
  if way < 2 ∧ (seat < 0 ∨ (T.rows.length : Int) ≤ seat) then "seat" else if way = 0 ∧ (at_ < 0 ∨ (T.stops : Int) - 1 < at_) then "stop" else if 0 < way ∧ (at_ < 0 ∨ (T.stops : Int) - 1 ≤ at_) then "leg" else ""
def spAsked3 (K : PySem.W.Frag) : Sp := fun vs H Q _ => ∃ (S : Addr → Prop) (p : Addr) (T : Tr) (seat at_ way : Int), vs = [.ref p, .int seat, .int at_, .int way] ∧ TrainAt K H S p T ∧ 0 ≤ way ∧ ∀ H', Ex H H' → Q (.str (dueS T seat at_ way)) H'
def spDue3 (K : PySem.W.Frag) : Sp := fun vs H Q _ => ∃ (U : Addr → Prop) (w : Addr) (T : Tr) (seat at_ way : Int), vs = [.ref w, .int seat, .int at_, .int way] ∧ WorldAt H U w T ∧ T.Wf ∧ 0 ≤ way ∧ Q (.str (dueS T seat at_ way)) H
def spLeads (K : PySem.W.Frag) : Sp := fun vs H Q _ => ∃ (S U : Addr → Prop) (p w : Addr) (T : Tr) (seat at_ : Nat), vs = [.ref p, .ref w, .int seat, .int at_] ∧ TrainAt K H S p T ∧ WorldAt H U w T ∧ seat < T.rows.length ∧ at_ < T.stops ∧ ∀ H', Ex H H' → Q (.bl true) H'
end Lg

namespace Lg
open PySem PySem.Spec PyProof.Rows L2
/-- a comprehension within a comprehension -/
theorem blkOk_in {X : Cx} {s : Shared} {H : Hp} {C : Addr} {cl : List (Str × Addr)} {fp : List Addr} {N : List Str} {scope0 scope : Scope} {own : List (Str × Nat)} (h : blkC N (relS scope0 X.env.scope) scope own = true) : BlkOk N (X.blk s H scope0 (compEnvC scope0 cl C X.env) fp).env.scope scope own := blkOk_by h
/-! ### k04 -/
def spLike (K : PySem.W.Frag) : Sp := fun vs H Q _ => ∃ (S U : Addr → Prop) (p w : Addr) (T : Tr), vs = [.ref p, .ref w] ∧ TrainAt K H S p T ∧ WorldAt H U w T ∧ Good T ∧ T.coming < 90000 ∧ ∀ H', Ex H H' → Q (.bl true) H'
def spOffered (K : PySem.W.Frag) : Sp := fun vs H Q _ => ∃ (S : Addr → Prop) (p : Addr) (T : Tr) (b e : Nat), vs = [.ref p, .int b, .int e] ∧ TrainAt K H S p T ∧ b < e ∧ e < T.stops ∧
  (firstFull T.rows b e = none → ∀ H' t l, Ex H H' → H' t = some (.lst [.str "", .ref l]) → PartsAt H' l (found T.rows b e) → Q (.ref t) H') ∧
  (firstFull T.rows b e ≠ none → ∀ H' t, Ex H H' → H' t = some (.lst [.str "full", .non]) → Q (.ref t) H')
def spOffers (K : PySem.W.Frag) : Sp := fun vs H Q _ => ∃ (S : Addr → Prop) (p : Addr) (T : Tr) (r : Addr) (as : List Addr) (b e : Nat), vs = [.ref p, .ref r, .int b, .int e] ∧ TrainAt K H S p T ∧ GridAt H r as T.rows ∧ b < e ∧ e < T.stops ∧ ∀ H', Ex H H' → Q (.bl true) H'
def spToldOf (K : PySem.W.Frag) : Sp := fun vs H Q _ => ∃ (S : Addr → Prop) (p : Addr) (T : Tr) (r : Addr) (as : List Addr) (c way : Int), vs = [.ref p, .ref r, .int c, .int way] ∧ TrainAt K H S p T ∧ GridAt H r as T.rows ∧ ∀ H', Ex H H' → Q (.bl true) H'
def spTells (K : PySem.W.Frag) : Sp := fun vs H Q _ => ∃ (S U : Addr → Prop) (p w : Addr) (T : Tr) (c : Int), vs = [.ref p, .ref w, .int c] ∧ TrainAt K H S p T ∧ WorldAt H U w T ∧ ∀ H', Ex H H' → Q (.bl true) H'
def spPartsWord (K : PySem.W.Frag) : Sp := fun vs H Q _ => ∃ (S : Addr → Prop) (p : Addr) (T : Tr) (t : Int), vs = [.ref p, .int t] ∧ TrainAt K H S p T ∧ getS T.sold t = none ∧ ∀ H', Ex H H' → Q (.str "ticket") H'
theorem run_num {T : Tr} {x : Deed} (hk : x.k = .sell) (h : (T.run x).word = "") : ∃ n, (T.run x).res = .num n := by
  obtain ⟨k, a, b⟩ := x
  dsimp only at hk
  subst hk
  revert h
  show (runSell T a b).word = "" → ∃ n, (runSell T a b).res = .num n
  unfold runSell
  split
  · split
    · exact fun _ => ⟨_, rfl⟩
    · exact fun h => absurd (show ("full" : Str) = "" from h) (by decide +kernel)
  · exact fun h => absurd (show ("stretch" : Str) = "" from h) (by decide +kernel)
theorem run_parts {T : Tr} {x : Deed} (hk : x.k ≠ .sell) (h : (T.run x).word = "") : ∃ ps, (T.run x).res = .parts ps := by
  obtain ⟨k, a, b⟩ := x
  cases k with
  | sell => exact absurd rfl hk
  | back =>
    revert h
    show (runBack T a).word = "" → ∃ ps, (runBack T a).res = .parts ps
    unfold runBack
    cases getS T.sold a with
    | none => exact fun h => absurd (show ("ticket" : Str) = "" from h) (by decide +kernel)
    | some ps => exact fun _ => ⟨_, rfl⟩
  | leave =>
    revert h
    show (runLeave T a b).word = "" → ∃ ps, (runLeave T a b).res = .parts ps
    unfold runLeave
    cases getS T.sold a with
    | none => exact fun h => absurd (show ("ticket" : Str) = "" from h) (by decide +kernel)
    | some ps =>
      dsimp only
      split
      · exact fun _ => ⟨_, rfl⟩
      · exact fun h => absurd (show ("stop" : Str) = "" from h) (by decide +kernel)
  | reseat =>
    revert h
    show (runReseat T a).word = "" → ∃ ps, (runReseat T a).res = .parts ps
    unfold runReseat
    cases getS T.sold a with
    | none => exact fun h => absurd (show ("ticket" : Str) = "" from h) (by decide +kernel)
    | some ps => exact fun _ => ⟨_, rfl⟩
/-- the parts that a deed gives are few -/
theorem Good.len {T : Tr} (G : Good T) {x : Nat × List P3} (m : x ∈ T.sold) : x.2.length ≤ 60 := by
  obtain ⟨b, e, h1, h2, w⟩ := G.way x m
  have := w.len
  have := G.wf.t2
  omega
theorem filter_map_len {α β : Type} (f : α → Bool) (g : α → β) (l : List α) : ((l.filter f).map g).length ≤ l.length := by
  rw [List.length_map]
  exact List.length_filter_le _ _
theorem run_len {T : Tr} (G : Good T) {x : Deed} {ps : List P3} (h : (T.run x).res = .parts ps) : ps.length ≤ 60 := by
  obtain ⟨k, a, b⟩ := x
  cases k with
  | sell =>
    revert h
    show (runSell T a b).res = .parts ps → _
    unfold runSell
    split
    · split <;> exact fun h => by cases h
    · exact fun h => by cases h
  | back =>
    revert h
    show (runBack T a).res = .parts ps → _
    unfold runBack
    cases hg : getS T.sold a with
    | none => exact fun h => by cases h
    | some qs =>
      intro h
      cases h
      obtain ⟨n, rfl, m⟩ := getS_mem hg
      exact G.len m
  | leave =>
    revert h
    show (runLeave T a b).res = .parts ps → _
    unfold runLeave
    cases hg : getS T.sold a with
    | none => exact fun h => by cases h
    | some qs =>
      dsimp only
      obtain ⟨n, rfl, m⟩ := getS_mem hg
      split
      · intro h
        cases h
        exact Nat.le_trans (filter_map_len _ _ _) (G.len m)
      · exact fun h => by cases h
  | reseat =>
    revert h
    show (runReseat T a).res = .parts ps → _
    unfold runReseat
    cases hg : getS T.sold a with
    | none => exact fun h => by cases h
    | some qs =>
      intro h
      cases h
      obtain ⟨n, rfl, m⟩ := getS_mem hg
      exact (G.reseat m).len (x := (n, newP T qs)) (mem_putS.mpr (.inl rfl))
end Lg

namespace Lg
open PySem PySem.Spec PyProof.Rows L2
/-! ### the grid as the tickets' parts tell it -/
theorem Way.order {n e : Nat} : ∀ {ps : List P3} {b : Nat}, Way n b e ps → ∀ (i j : Nat) (p q : P3), i < j → ps[i]? = some p → ps[j]? = some q → p.2.2 ≤ q.2.1
  | [], _, _, i, j, p, q, _, h, _ => by cases h
  | x :: r, b, w, 0, j + 1, p, q, _, h1, h2 => by
    cases h1
    have h3 : r[j]? = some q := h2
    exact (w.2.2.2.2.mem q (List.mem_of_getElem? h3)).2.1
  | x :: r, b, w, i + 1, j + 1, p, q, h, h1, h2 => Way.order w.2.2.2.2 i j p q (by omega) h1 h2
/-- what is told of a grid by who covers what -/
def Painted (g : Grid) (n m : Nat) (C : Nat → Nat → Nat → Prop) : Prop := ∀ s l u, s < n → l < m → (cellOf g s l = some u ↔ C u s l)
theorem Painted.step {g : Grid} {n m : Nat} {C : Nat → Nat → Nat → Prop} (h : Painted g n m C) (hl : g.length = n) (hr : ∀ row ∈ g, row.length = m) {c1 leg t : Nat} (h1 : c1 < n) (h2 : leg < m) (hf : ∀ u, ¬ C u c1 leg) :
    Painted (setCell g c1 leg (some t)) n m (fun u s l => C u s l ∨ (u = t ∧ s = c1 ∧ l = leg)) := by
  intro s l u hs hl2
  rw [setCell_cell hr (by omega) h2]
  by_cases c : s = c1 ∧ l = leg
  · rw [if_pos c]
    obtain ⟨rfl, rfl⟩ := c
    refine ⟨fun z => .inr ⟨(Option.some.inj z).symm, rfl, rfl⟩, fun z => ?_⟩
    rcases z with z | ⟨z, _⟩
    · exact absurd z (hf u)
    · rw [z]
  · rw [if_neg c, h s l u hs hl2]
    exact ⟨.inl, fun z => z.elim id fun z => absurd ⟨z.2.1, z.2.2⟩ c⟩
theorem Painted.iff {g : Grid} {n m : Nat} {C C' : Nat → Nat → Nat → Prop} (h : Painted g n m C) (e : ∀ u s l, C u s l ↔ C' u s l) : Painted g n m C' := fun s l u hs hl => (h s l u hs hl).trans (e u s l)
def coverS (sold : List (Nat × List P3)) (u s l : Nat) : Prop := ∃ x ∈ sold, x.1 = u ∧ covers x.2 s l
theorem Good.painted {T : Tr} (G : Good T) {g : Grid} (hl : g.length = T.rows.length) (hr : ∀ row ∈ g, row.length = T.stops - 1) (h : Painted g T.rows.length (T.stops - 1) (coverS T.sold)) : g = T.rows := by
  refine grid_ext hl hr G.wf.legs fun s l hs hl2 => ?_
  have e : ∀ u, cellOf g s l = some u ↔ cellOf T.rows s l = some u := fun u => (h s l u (by omega) hl2).trans (G.cell s l u (by omega) hl2).symm
  cases h1 : cellOf g s l with
  | none =>
    cases h2 : cellOf T.rows s l with
    | none => rfl
    | some u =>
      have := (e u).mpr h2
      rw [h1] at this
      cases this
  | some u => exact ((e u).mp h1).symm
theorem covers_take {ps : List P3} {j s l : Nat} {q : P3} (h : ps[j]? = some q) : covers (ps.take (j + 1)) s l ↔ covers (ps.take j) s l ∨ (s = q.1 ∧ q.2.1 ≤ l ∧ l < q.2.2) := by
  have hl := lt_of_get h
  rw [List.take_succ_eq_append_getElem hl]
  have e : ps[j] = q := Option.some.inj ((List.getElem?_eq_getElem hl).symm.trans h)
  rw [e]
  refine ⟨fun ⟨x, m, c⟩ => ?_, fun c => ?_⟩
  · rcases List.mem_append.mp m with m | m
    · exact .inl ⟨x, m, c⟩
    · rw [List.mem_singleton.mp m] at c
      exact .inr c
  · rcases c with ⟨x, m, c⟩ | c
    · exact ⟨x, List.mem_append_left _ m, c⟩
    · exact ⟨q, List.mem_append_right _ (List.mem_singleton.mpr rfl), c⟩
/-- the next cell of the next part is not yet painted -/
theorem Good.fresh_cell {T : Tr} (G : Good T) {i j t c1 c2 c3 leg : Nat} {ps : List P3} (hi : T.sold[i]? = some (t, ps)) (hj : ps[j]? = some (c1, c2, c3)) (h1 : c2 ≤ leg) (h2 : leg < c3) :
    ∀ u, ¬ (coverS (T.sold.take i) u c1 leg ∨ (u = t ∧ (covers (ps.take j) c1 leg ∨ (c1 = c1 ∧ c2 ≤ leg ∧ leg < leg)))) := by
  have mt := List.mem_of_getElem? hi
  obtain ⟨b, e, hb, he, w⟩ := G.way _ mt
  dsimp only at w
  have mq := w.mem _ (List.mem_of_getElem? hj)
  dsimp only at mq
  intro u z
  rcases z with ⟨x, m, ex, c⟩ | ⟨_, z | z⟩
  · have mx := List.mem_of_mem_take m
    have k1 := (G.cell c1 leg u (by omega) (by omega)).mpr ⟨x, mx, ex, c⟩
    have k2 := (G.cell c1 leg t (by omega) (by omega)).mpr ⟨_, mt, rfl, ⟨_, List.mem_of_getElem? hj, rfl, h1, h2⟩⟩
    rw [k1] at k2
    have ut := Option.some.inj k2
    obtain ⟨k, hk⟩ := List.mem_iff_getElem?.mp m
    have hk2 := lt_of_get hk
    rw [List.length_take] at hk2
    rw [List.getElem?_take_of_lt (by omega)] at hk
    have hp := List.pairwise_iff_getElem.mp (List.pairwise_map.mp G.wf.rising) k i (lt_of_get hk) (lt_of_get hi) (by omega)
    rw [Option.some.inj ((List.getElem?_eq_getElem (lt_of_get hk)).symm.trans hk), Option.some.inj ((List.getElem?_eq_getElem (lt_of_get hi)).symm.trans hi)] at hp
    dsimp only at hp
    omega
  · obtain ⟨q, m, e1, e2, e3⟩ := z
    obtain ⟨k, hk⟩ := List.mem_iff_getElem?.mp m
    have hk2 := lt_of_get hk
    rw [List.length_take] at hk2
    rw [List.getElem?_take_of_lt (by omega)] at hk
    have := w.order k j q _ (by omega) hk hj
    dsimp only at this
    omega
  · omega
def spGrid (K : PySem.W.Frag) : Sp := fun vs H Q _ => ∃ (S : Addr → Prop) (p : Addr) (T : Tr), vs = [.ref p, .int T.rows.length, .int T.stops] ∧ TrainAt K H S p T ∧ Good T ∧ T.coming < 90000 ∧
  ∀ H' r as, Ex H H' → GridAt H' r as T.rows → as.Nodup → r ∉ as → H r = none → (∀ a ∈ as, H a = none) → Q (.ref r) H'
end Lg

namespace Lg
open PySem PySem.Spec PyProof.Rows L2
def keys (T : Tr) : List Int := T.sold.map fun x => (x.1 : Int)
theorem keys_len (T : Tr) : (keys T).length = T.sold.length := List.length_map _
theorem keys_nodup {T : Tr} (w : T.Wf) : (keys T).Nodup := by
  unfold keys
  have h := List.pairwise_map.mp w.rising
  exact List.pairwise_map.mpr (h.imp fun {a b} z => by omega)
theorem mem_keys {T : Tr} {t : Int} : t ∈ keys T ↔ ∃ ps, getS T.sold t = some ps := by
  unfold keys
  refine ⟨fun h => ?_, fun ⟨ps, h⟩ => ?_⟩
  · cases hg : getS T.sold t with
    | some ps => exact ⟨ps, rfl⟩
    | none =>
      obtain ⟨x, m, e⟩ := List.mem_map.mp h
      exact absurd e (getS_none.mp hg x m)
  · obtain ⟨n, rfl, m⟩ := getS_mem h
    exact List.mem_map.mpr ⟨_, m, rfl⟩
theorem keys_put {T : Tr} {t : Nat} {ps : List P3} (h : ∃ x ∈ T.sold, x.1 = t) : (putS T.sold t ps).map (fun x => (x.1 : Int)) = keys T := by
  have e := putS_keys (sold := T.sold) (t := t) (ps := ps)
  obtain ⟨x, m, ex⟩ := h
  rw [if_pos (List.any_eq_true.mpr ⟨x, m, decide_eq_true ex⟩)] at e
  have e2 := congrArg (List.map fun n : Nat => (n : Int)) e
  rw [List.map_map, List.map_map] at e2
  exact e2
theorem keys_drop {T : Tr} (w : T.Wf) {t : Nat} : (dropS T.sold t).map (fun x => (x.1 : Int)) = (keys T).erase (t : Int) := by
  rw [List.Nodup.erase_eq_filter (keys_nodup w)]
  unfold dropS keys
  rw [List.filter_map]
  congr 1
  apply List.filter_congr
  intro x _
  show decide (x.1 ≠ t) = ((x.1 : Int) != (t : Int))
  by_cases h : x.1 = t
  · rw [h]
    simp
  · have h2 : (x.1 : Int) ≠ (t : Int) := fun z => h (Int.ofNat_inj.mp z)
    rw [decide_eq_true h]
    exact (bne_iff_ne.mpr h2).symm
structure KeysRun (T : Tr) (d : Deed) (o : Out) : Prop where
  no : o.word ≠ "" → o.tr = T
  sell : o.word = "" → d.k = .sell → keys o.tr = keys T ++ [(T.coming : Int)] ∧ o.res = .num T.coming
  back : o.word = "" → d.k = .back → d.a ∈ keys T ∧ keys o.tr = (keys T).erase d.a
  other : o.word = "" → d.k ≠ .sell → d.k ≠ .back → d.a ∈ keys T ∧ keys o.tr = keys T
theorem Good.keysRun {T : Tr} (G : Good T) (d : Deed) : KeysRun T d (T.run d) := by
  refine ⟨fun h => (run_refused T d h).2, ?_, ?_, ?_⟩
  · obtain ⟨k, a, b⟩ := d
    intro hw hk
    dsimp only at hk
    subst hk
    revert hw
    show (runSell T a b).word = "" → keys (runSell T a b).tr = _ ∧ (runSell T a b).res = _
    unfold runSell
    split
    · split
      · refine fun _ => ⟨?_, rfl⟩
        show (putS T.sold T.coming _).map (fun x => (x.1 : Int)) = _
        rw [putS_new G.low, List.map_append]
        rfl
      · exact fun h => absurd (show ("full" : Str) = "" from h) (by decide +kernel)
    · exact fun h => absurd (show ("stretch" : Str) = "" from h) (by decide +kernel)
  · obtain ⟨k, a, b⟩ := d
    intro hw hk
    dsimp only at hk
    subst hk
    revert hw
    show (runBack T a).word = "" → a ∈ keys T ∧ keys (runBack T a).tr = (keys T).erase a
    unfold runBack
    cases hg : getS T.sold a with
    | none => exact fun h => absurd (show ("ticket" : Str) = "" from h) (by decide +kernel)
    | some ps =>
      obtain ⟨n, rfl, m⟩ := getS_mem hg
      exact fun _ => ⟨mem_keys.mpr ⟨_, hg⟩, keys_drop G.wf⟩
  · obtain ⟨k, a, b⟩ := d
    intro hw h1 h2
    cases k with
    | sell => exact absurd rfl h1
    | back => exact absurd rfl h2
    | leave =>
      revert hw
      show (runLeave T a b).word = "" → a ∈ keys T ∧ keys (runLeave T a b).tr = keys T
      unfold runLeave
      cases hg : getS T.sold a with
      | none => exact fun h => absurd (show ("ticket" : Str) = "" from h) (by decide +kernel)
      | some ps =>
        obtain ⟨n, rfl, m⟩ := getS_mem hg
        dsimp only
        split
        · exact fun _ => ⟨mem_keys.mpr ⟨_, hg⟩, keys_put ⟨_, m, rfl⟩⟩
        · exact fun h => absurd (show ("stop" : Str) = "" from h) (by decide +kernel)
    | reseat =>
      revert hw
      show (runReseat T a).word = "" → a ∈ keys T ∧ keys (runReseat T a).tr = keys T
      unfold runReseat
      cases hg : getS T.sold a with
      | none => exact fun h => absurd (show ("ticket" : Str) = "" from h) (by decide +kernel)
      | some ps =>
        obtain ⟨n, rfl, m⟩ := getS_mem hg
        exact fun _ => ⟨mem_keys.mpr ⟨_, hg⟩, keys_put ⟨_, m, rfl⟩⟩
/-- a train made behind H, all that it leans on made behind H too -/
structure Play (K : PySem.W.Frag) (H0 H : Hp) (p : Addr) (T : Tr) (S : Addr → Prop) : Prop where
  ex : Ex H0 H
  tr : TrainAt K H S p T
  good : Good T
  fresh : ∀ a, S a → H0 a = none
  live : ∀ a, S a → ∃ o, H a = some o
theorem Play.more {K : PySem.W.Frag} {H0 H H' : Hp} {p : Addr} {T : Tr} {S : Addr → Prop} (h : Play K H0 H p T S) (e : Ex H H') : Play K H0 H' p T S :=
  ⟨h.ex.trans e, h.tr.ex e, h.good, h.fresh, fun a s => by obtain ⟨o, ho⟩ := h.live a s; exact ⟨o, e _ _ ho⟩⟩
theorem Play.run {K : PySem.W.Frag} {H0 H H' : Hp} {p : Addr} {T T' : Tr} {S S' : Addr → Prop} (h : Play K H0 H p T S) (m : Mv H H' S S') (t : TrainAt K H' S' p T') (g : Good T') : ∃ S2, Play K H0 H' p T' S2 ∧ ∀ a, S2 a → S' a := by
  obtain ⟨S2, h2, t2⟩ := t.there
  refine ⟨S2, ⟨fun a o ha => m.keep a o (fun z => ?_) (h.ex _ _ ha), t2, g, fun a s => ?_, fun a s => (h2 a s).2⟩, fun a s => (h2 a s).1⟩
  · rw [h.fresh a z] at ha
    cases ha
  · rcases m.new a (h2 a s).1 with z | z
    · exact h.fresh a z
    · exact Evl.fresh_back h.ex z
/-- an own list, made behind H0, changed -/
theorem Play.set {K : PySem.W.Frag} {H0 H : Hp} {p : Addr} {T : Tr} {S : Addr → Prop} (h : Play K H0 H p T S) {l : Addr} {xs ys : List V} (hn : H0 l = none) (hl : H l = some (.lst xs)) (off : ¬ S l) : Play K H0 (upd H l (.lst ys)) p T S := by
  refine ⟨Evl.Ex.mut h.ex hn, h.tr.mono (fun a o s ha => ?_) (fun a us ha => ?_), h.good, h.fresh, fun a s => ?_⟩
  · rw [upd_ne (fun z : a = l => off (z ▸ s))]
    exact ha
  · rw [upd_ne (ne_of ha hl (fun z => by cases z))]
    exact ha
  · obtain ⟨o, ho⟩ := h.live a s
    exact ⟨o, by rw [upd_ne (fun z : a = l => off (z ▸ s))]; exact ho⟩
def spRun (K : PySem.W.Frag) : Sp := fun vs H Q _ => ∃ (a : Addr) (ns : List Int), vs = [.ref a] ∧ SqL K H a (ns.map V.int) ∧ ns.length ≤ 63 ∧
  ∀ H' S p so l T, Play K H H' p T S → T.coming ≤ 600 → H so = none → H' so = some (.lst ((keys T).map V.int)) → ¬ S so → H l = none → H' l = some (.lst [.ref p, .ref so]) → ¬ S l → Q (.ref l) H'
end Lg

namespace Lg
open PySem PySem.Spec PyProof.Rows L2
/-! ### grids compared -/
theorem enc_grid : Enc (fun g : Grid => PyData.list (g.map fun row => PyData.list (row.map oD))) 2 := Enc.list (Enc.list enc_opt)
theorem dp_opts {K : PySem.W.Frag} {H : Hp} {a : Addr} {row : List (Option Nat)} (h : RowAt H a row) : Dp K H (.ref a) (.list (row.map oD)) :=
  .lst (SqL.of h) (dpAll ⟨by rw [List.length_map, List.length_map], fun i x y hx hy => by
    obtain ⟨u, hu, rfl⟩ := map_back hx
    obtain ⟨v, hv, rfl⟩ := map_back hy
    rw [hu] at hv
    cases hv
    cases u with
    | none => exact .non
    | some n => exact .int n⟩)
theorem dp_grid {K : PySem.W.Frag} {H : Hp} {r : Addr} {as : List Addr} {g : Grid} (h : GridAt H r as g) : Dp K H (.ref r) (.list (g.map fun row => PyData.list (row.map oD))) :=
  .lst (SqL.of h.top) (dpAll ⟨by rw [List.length_map, List.length_map, h.row.len], fun i x y hx hy => by
    obtain ⟨a, ha, rfl⟩ := map_back hx
    obtain ⟨row, hr, rfl⟩ := map_back hy
    exact dp_opts (h.row.at_ _ _ _ ha hr)⟩)
/-! ### k07 -/
def spAsked7 (K : PySem.W.Frag) : Sp := fun vs H Q _ => ∃ (S : Addr → Prop) (p : Addr) (T : Tr) (t : Addr) (b e way : Int), vs = [.ref p, .ref t, .int way] ∧ TrainAt K H S p T ∧ Good T ∧ T.coming < 1000000 ∧ H t = some (.tup [.int b, .int e]) ∧
  (¬ Str3 T b e → ∀ H', Ex H H' → Q (.str "stretch") H') ∧
  (Str3 T b e → way = 0 → firstFull T.rows b.toNat e.toNat = none → ∀ H', Ex H H' → Q (.str "") H') ∧
  (Str3 T b e → way ≠ 2 → firstFull T.rows b.toNat e.toNat ≠ none → ∀ H', Ex H H' → Q (.str "full") H') ∧
  (Str3 T b e → way = 2 → ∀ H', Ex H H' → Q (.str "") H') ∧
  (Str3 T b e → way = 1 → firstFull T.rows b.toNat e.toNat = none → ∀ H' S', Mv H H' S S' → TrainAt K H' S' p (T.sell b.toNat e.toNat) → Q (.int T.coming) H') ∧ (way = 0 ∨ way = 1 ∨ way = 2)
end Lg

namespace Lg
open PySem PySem.Spec PyProof.Rows L2
/-! ### k09 -/
def spFreed (K : PySem.W.Frag) : Sp := fun vs H Q _ => ∃ (r l : Addr) (as : List Addr) (g : Grid) (n : Nat) (ps : List P3), vs = [.ref r, .ref l] ∧ GridAt H r as g ∧ g.length ≤ 1000 ∧ n ≤ 1000 ∧ (∀ row ∈ g, row.length = n) ∧ PartsAt H l ps ∧
  (∀ q ∈ ps, q.1 < g.length ∧ q.2.1 < q.2.2 ∧ q.2.2 ≤ n) ∧ ∀ H' r' as', Ex H H' → GridAt H' r' as' (markAll g ps none) → Q (.ref r') H'
def spDue9 (K : PySem.W.Frag) : Sp := fun vs H Q _ => ∃ (l d : Addr) (ps : List P3) (x : Deed), vs = [.ref l, .ref d] ∧ PartsAt H l ps ∧ ps.length ≤ 1000 ∧ DeedAt H d x ∧
  (x.k = .back → ∀ H' t e, Ex H H' → H' t = some (.tup [.ref l, .ref e]) → Q (.ref t) H') ∧
  (x.k ≠ .back → ∃ c : Nat, x.b = (c : Int) ∧ ∀ H' t g k, Ex H H' → H' t = some (.tup [.ref g, .ref k]) → H g = none → H k = none → PartsAt H' g (goneP ps c) → PartsAt H' k (keptP ps c) → Q (.ref t) H')
def spToldNone (K : PySem.W.Frag) : Sp := fun vs H Q _ => ∃ (S : Addr → Prop) (p : Addr) (T : Tr) (t : Int), vs = [.ref p, .int t] ∧ TrainAt K H S p T ∧ getS T.sold t = none ∧ ∀ H', Ex H H' → Q (.bl true) H'
/-- what a law's turn keeps beside the train and its own list -/
def Kept (H H' : Hp) (S S' : Addr → Prop) (so : Addr) : Prop := ∀ c o, c ≠ so → ¬ S c → H c = some o → H' c = some o ∧ ¬ S' c
def spTurn9 (K : PySem.W.Frag) : Sp := fun vs H Q _ => ∃ (H0 : Hp) (S : Addr → Prop) (p so d ts : Addr) (T : Tr) (x : Deed), vs = [.ref p, .ref so, .ref d, .ref ts] ∧ Play K H0 H p T S ∧ T.coming < 90000 ∧ H0 so = none ∧ H so = some (.lst ((keys T).map V.int)) ∧ ¬ S so ∧ DeedAt H d x ∧ H ts = some (.tup [.int T.rows.length, .int T.stops]) ∧ (x.k = .back ∨ x.k = .leave) ∧
  ∀ H' S' T', Play K H0 H' p T' S' → T'.coming = T.coming → T'.stops = T.stops → T'.rows.length = T.rows.length → H' so = some (.lst ((keys T').map V.int)) → ¬ S' so → Kept H H' S S' so → Q (.bl true) H'
end Lg

namespace Lg
open PySem PySem.Spec PyProof.Rows L2
/-! ### readings, step by step -/
section
variable {K : PySem.W.Frag} {σ : L2.St} {H H' : Hp} {Q : VK} {nx bk ct : L2.St → Hp → Prop} {rt : VK} {te ta tb : TE} {a l p q : Addr} {x y v w : V}
theorem s_seq {t u : TS} (h : t ⟨u ⟨nx, rt, bk, ct⟩, rt, bk, ct⟩ σ H) : tSeq t u ⟨nx, rt, bk, ct⟩ σ H := h
theorem s_drop (h : te σ H fun _ H1 => nx σ H1) : tDrop te ⟨nx, rt, bk, ct⟩ σ H := h
theorem s_ret (h : te σ H rt) : tRet te ⟨nx, rt, bk, ct⟩ σ H := h
theorem s_retN (h : rt .non H) : tRetN ⟨nx, rt, bk, ct⟩ σ H := h
theorem s_next (h : nx σ H) : tNext ⟨nx, rt, bk, ct⟩ σ H := h
theorem s_if {c : TT} {t u : TS} (h : c σ H fun b H1 => if b = true then t ⟨nx, rt, bk, ct⟩ σ H1 else u ⟨nx, rt, bk, ct⟩ σ H1) : tIfS c t u ⟨nx, rt, bk, ct⟩ σ H := h
theorem s_asg {g : TG} (h : te σ H fun x H1 => g x σ H1 nx) : tAsg te g ⟨nx, rt, bk, ct⟩ σ H := h
theorem s_gname {i : Nat} {N : L2.St → Hp → Prop} (h : N (σ.set i (some v)) H) : gName i v σ H N := h
/- tests -/
variable {B : Bool → Hp → Prop} {b : Bool}
theorem s_tB (h : te σ H fun x H1 => ∃ c, x = .bl c ∧ B c H1) : L2.tB te σ H B := h
theorem s_tTest (h : te σ H fun x H1 => ∃ c, x = .bl c ∧ B c H1) : tTest te σ H B := h
theorem s_bl {P : Bool → Prop} (h : P b) : ∃ c, V.bl b = .bl c ∧ P c := ⟨b, rfl, h⟩
theorem s_tAnd {t u : TT} (h : t σ H fun c H1 => if c = true then u σ H1 B else B false H1) : tAnd t u σ H B := h
theorem s_tOr {t u : TT} (h : t σ H fun c H1 => if c = true then B true H1 else u σ H1 B) : tOr t u σ H B := h
theorem s_tNot {t : TT} (h : t σ H fun c H1 => B (!c) H1) : tNot t σ H B := h
theorem s_tAndV (h : ta σ H fun x H1 => ∃ c, x = .bl c ∧ if c = true then tb σ H1 Q else Q (.bl false) H1) : tAndV ta tb σ H Q := h
theorem s_tOrV (h : ta σ H fun x H1 => ∃ c, x = .bl c ∧ if c = true then Q (.bl true) H1 else tb σ H1 Q) : tOrV ta tb σ H Q := h
theorem s_tNotV (h : ta σ H fun x H1 => ∃ c, x = .bl c ∧ Q (.bl (!c)) H1) : tNotV ta σ H Q := h
/- expressions -/
theorem s_var {i : Nat} (e : σ[i]? = some (some v)) (h : Q v H) : tVar i σ H Q := ⟨v, e, h⟩
theorem s_c (h : Q v H) : tC v σ H Q := h
theorem s_op {r : R2} (h : ta σ H fun x H1 => tb σ H1 fun y H2 => r x y H2 Q) : tOp r ta tb σ H Q := h
theorem s_un {r : V → Hp → VK → Prop} (h : ta σ H fun x H1 => r x H1 Q) : tUn r ta σ H Q := h
theorem s_chain {r r' : R2} {tc : TE} (h : ta σ H fun x H1 => tb σ H1 fun y H2 => r x y H2 fun z H3 => ∃ k, z = .bl k ∧ (if k = true then tc σ H3 fun w' H4 => r' y w' H4 Q else Q (.bl false) H3)) : tChain r r' ta tb tc σ H Q := h
theorem s_cb {r : List V → Hp → VK → Prop} {t : TA} (h : t σ H fun vs H1 => r vs H1 Q) : tCB r t σ H Q := h
variable {A : List V → Hp → Prop}
theorem s_nil (h : A [] H) : tNil σ H A := h
theorem s_cons {tr : TA} (h : ta σ H fun x H1 => tr σ H1 fun xs H2 => A (x :: xs) H2) : tCons ta tr σ H A := h
theorem s_calls {sp : Sp} {E : L2.St → XK} {t : TA} (h : t σ H fun vs H1 => sp vs H1 Q (E σ)) : tCallS sp E t σ H Q := h
def MethR (C : Addr) (m : Str) (sp : Sp) (E : L2.St → XK) (t : TA) (σ : L2.St) (Q : VK) (x : V) (H1 : Hp) : Prop := ∃ a dx fs, x = .ref a ∧ H1 a = some (.ins C dx fs) ∧ fs.lookup m = none ∧ t σ H1 fun vs H2 => sp (x :: vs) H2 Q (E σ)
theorem s_meth {C : Addr} {m : Str} {sp : Sp} {E : L2.St → XK} {t : TA} (h : ta σ H fun x H1 => MethR C m sp E t σ Q x H1) : tMethS C m sp E ta t σ H Q := h
theorem s_methT {m : Str} {sp : Sp} {E : L2.St → XK} {t : TA} {S : Addr → Prop} {T : Tr} (h : TrainAt K H S p T) (hm : ∀ s r d c, (trF s r d c).lookup m = none) (k : t σ H fun vs H2 => sp (.ref p :: vs) H2 Q (E σ)) : MethR (He.ga K "Train") m sp E t σ Q (.ref p) H := by
  obtain ⟨dx, r, d, e⟩ := h.ins
  exact ⟨p, dx, _, rfl, e, hm _ _ _ _, k⟩
def NwT (xs : List V) (H1 : Hp) (Q : VK) : Prop := xs.length ≤ sizeLine ∧ ∀ p, H1 p = none → Q (.ref p) (upd H1 p (.tup xs))
def NwL (xs : List V) (H1 : Hp) (Q : VK) : Prop := xs.length ≤ sizeLine ∧ ∀ p, H1 p = none → Q (.ref p) (upd H1 p (.lst xs))
theorem s_tup {t : TA} (h : t σ H fun xs H1 => NwT xs H1 Q) : tTup t σ H Q := h
theorem s_lst {t : TA} (h : t σ H fun xs H1 => NwL xs H1 Q) : tLst t σ H Q := h
theorem nw_t {xs : List V} (hz : xs.length ≤ sizeLine) (h : ∀ p H2, H p = none → Ex H H2 → H2 p = some (.tup xs) → Q (.ref p) H2) : NwT xs H Q := ⟨hz, fun p hp => h p _ hp (Evl.Ex.new hp) upd_same⟩
theorem nw_l {xs : List V} (hz : xs.length ≤ sizeLine) (h : ∀ p H2, H p = none → Ex H H2 → H2 p = some (.lst xs) → Q (.ref p) H2) : NwL xs H Q := ⟨hz, fun p hp => h p _ hp (Evl.Ex.new hp) upd_same⟩
/- values -/
variable {i j : Int}
theorem v_I0 {g : Int → Int → V} (h : Q (g i j) H) : rI0 g (.int i) (.int j) H Q := ⟨i, j, rfl, rfl, h⟩
theorem v_I {C : Int → Int → Prop} {g : Int → Int → V} (c : C i j) (h : Q (g i j) H) : rI C g (.int i) (.int j) H Q := ⟨i, j, rfl, rfl, c, h⟩
theorem v_U {g : Int → V} (h : Q (g i) H) : rU g (.int i) H Q := ⟨i, rfl, h⟩
theorem v_eqI (h : Q (.bl (decide (i = j))) H) : rEq (.int i) (.int j) H Q := ⟨rfl, by
  have e : decide (V.int i = V.int j) = decide (i = j) := decide_eq_decide.mpr ⟨V.int.inj, congrArg _⟩
  rw [e]
  exact h⟩
theorem v_neI (h : Q (.bl (!decide (i = j))) H) : rNe (.int i) (.int j) H Q := ⟨rfl, by
  have e : decide (V.int i = V.int j) = decide (i = j) := decide_eq_decide.mpr ⟨V.int.inj, congrArg _⟩
  rw [e]
  exact h⟩
theorem v_eqS {s t : Str} (h : Q (.bl (decide (s = t))) H) : rEq (.str s) (.str t) H Q := ⟨rfl, by
  have e : decide (V.str s = V.str t) = decide (s = t) := decide_eq_decide.mpr ⟨V.str.inj, congrArg _⟩
  rw [e]
  exact h⟩
theorem v_neS {s t : Str} (h : Q (.bl (!decide (s = t))) H) : rNe (.str s) (.str t) H Q := ⟨rfl, by
  have e : decide (V.str s = V.str t) = decide (s = t) := decide_eq_decide.mpr ⟨V.str.inj, congrArg _⟩
  rw [e]
  exact h⟩
theorem v_eqO {s t : Option Nat} (h : Q (.bl (decide (s = t))) H) : rEq (oV s) (oV t) H Q := ⟨oV_scal _ _, by
  have e : decide (oV s = oV t) = decide (s = t) := decide_eq_decide.mpr oV_inj
  rw [e]
  exact h⟩
theorem v_neO {s t : Option Nat} (h : Q (.bl (!decide (s = t))) H) : rNe (oV s) (oV t) H Q := ⟨oV_scal _ _, by
  have e : decide (oV s = oV t) = decide (s = t) := decide_eq_decide.mpr oV_inj
  rw [e]
  exact h⟩
theorem v_isO {s : Option Nat} (h : Q (.bl s.isNone) H) : rIsN (oV s) .non H Q := ⟨rfl, by rw [oV_none]; exact h⟩
theorem v_notO {s : Option Nat} (h : Q (.bl s.isSome) H) : rNotN (oV s) .non H Q := ⟨rfl, by rw [oV_some]; exact h⟩
theorem v_isN (h : Q (.bl true) H) : rIsN .non .non H Q := ⟨rfl, h⟩
theorem v_isI (h : Q (.bl false) H) : rIsN (.int i) .non H Q := ⟨rfl, h⟩
theorem v_notN (h : Q (.bl false) H) : rNotN .non .non H Q := ⟨rfl, h⟩
theorem v_notI (h : Q (.bl true) H) : rNotN (.int i) .non H Q := ⟨rfl, h⟩
theorem v_notR (h : Q (.bl true) H) : rNotN (.ref a) .non H Q := ⟨rfl, h⟩
theorem v_isR (h : Q (.bl false) H) : rIsN (.ref a) .non H Q := ⟨rfl, h⟩
theorem v_ixT {xs : List V} (h : H p = some (.tup xs)) (e : atI xs i = some v) (k : Q v H) : rIxT K (.ref p) (.int i) H Q := ⟨p, xs, i, v, rfl, rfl, SqT.of h, e, k⟩
theorem p_ix0 {x1 x2 : V} (h : H p = some (.tup [v, x1, x2])) (k : Q v H) : rIxT K (.ref p) (.int 0) H Q := ⟨p, _, 0, v, rfl, rfl, SqT.of h, rfl, k⟩
theorem v_ixL {xs : List V} (h : SqL K H p xs) (e : atI xs i = some v) (k : Q v H) : rIxL K (.ref p) (.int i) H Q := ⟨p, xs, i, v, rfl, rfl, h, e, k⟩
theorem v_lenL {xs : List V} (h : SqL K H p xs) (k : Q (.int xs.length) H) : rLenK K [.ref p] H Q := ⟨p, xs, rfl, .inl h, k⟩
theorem v_lenT {xs : List V} (h : H p = some (.tup xs)) (k : Q (.int xs.length) H) : rLenK K [.ref p] H Q := ⟨p, xs, rfl, .inr (SqT.of h), k⟩
theorem inV_int (i : Int) (ns : List Int) : inV (.int i) (ns.map V.int) = decide (i ∈ ns) := by
  unfold inV
  rw [List.any_map]
  by_cases m : i ∈ ns
  · rw [decide_eq_true m]
    exact List.any_eq_true.mpr ⟨i, m, beq_self_eq_true i⟩
  · rw [decide_eq_false m, List.any_eq_false]
    intro z mz
    show ¬ (z == i) = true
    rw [beq_iff_eq]
    exact fun e => m (e ▸ mz)
theorem v_inI {ns : List Int} (h : SqL K H p (ns.map V.int)) (k : Q (.bl (decide (i ∈ ns))) H) : rIn K false (.int i) (.ref p) H Q := ⟨p, _, rfl, .inl h, rfl, flat_ints _, by
  rw [inV_int]
  exact k⟩
theorem v_ninI {ns : List Int} (h : SqL K H p (ns.map V.int)) (k : Q (.bl (!decide (i ∈ ns))) H) : rIn K true (.int i) (.ref p) H Q := ⟨p, _, rfl, .inl h, rfl, flat_ints _, by
  rw [inV_int]
  exact k⟩
theorem v_eqG {as bs : List Addr} {g g' : Grid} (h : GridAt H p as g) (h2 : GridAt H q bs g') (k : Q (.bl (decide (g = g'))) H) : rEqD K (.ref p) (.ref q) H Q := req_of enc_grid (by decide) (dp_grid h) (dp_grid h2) k
theorem v_neG {as bs : List Addr} {g g' : Grid} (h : GridAt H p as g) (h2 : GridAt H q bs g') (k : Q (.bl (!decide (g = g'))) H) : rNeD K (.ref p) (.ref q) H Q := rne_of enc_grid (by decide) (dp_grid h) (dp_grid h2) k
theorem v_cat {xs ys : List V} (h : H p = some (.lst xs)) (h2 : H q = some (.lst ys)) (hz : xs.length + ys.length ≤ sizeLine) (k : ∀ l H2, H l = none → Ex H H2 → H2 l = some (.lst (xs ++ ys)) → Q (.ref l) H2) : rCat (.ref p) (.ref q) H Q :=
  ⟨p, q, xs, ys, rfl, rfl, h, h2, hz, fun l hl => k l _ hl (Evl.Ex.new hl) upd_same⟩
theorem v_list {xs : List V} (h : SqL K H p xs) (k : ∀ l H2, H l = none → Ex H H2 → H2 l = some (.lst xs) → Q (.ref l) H2) : rListK K [.ref p] H Q := ⟨p, xs, rfl, .inl h, fun l hl => k l _ hl (Evl.Ex.new hl) upd_same⟩
theorem v_all {bs : List Bool} (h : SqL K H p (bs.map V.bl)) (k : Q (.bl (bs.all id)) H) : rAll K [.ref p] H Q := ⟨p, bs, rfl, h, k⟩
/- an own list changed -/
structure Ch (H H' : Hp) (l : Addr) : Prop where
  was : ∃ xs, H l = some (.lst xs)
  keep : ∀ a o, a ≠ l → H a = some o → H' a = some o
theorem Ch.upd {xs ys : List V} (h : H l = some (.lst xs)) : Ch H (upd H l (.lst ys)) l := ⟨⟨_, h⟩, fun a o n e => by rw [upd_ne n]; exact e⟩
theorem ch_tup {xs : List V} (c : Ch H H' l) (h : H a = some (.tup xs)) : H' a = some (.tup xs) := by
  obtain ⟨ys, e⟩ := c.was
  exact c.keep _ _ (ne_of h e (fun z => by cases z)) h
theorem ch_lst {xs : List V} (c : Ch H H' l) (n : a ≠ l) (h : H a = some (.lst xs)) : H' a = some (.lst xs) := c.keep _ _ n h
theorem Ch.ex {H0 : Hp} (c : Ch H H' l) (e : Ex H0 H) (hn : H0 l = none) : Ex H0 H' := fun a o h => c.keep a o (fun z => by rw [z, hn] at h; cases h) (e a o h)
theorem Play.ch {H0 : Hp} {S : Addr → Prop} {T : Tr} (h : Play K H0 H p T S) (c : Ch H H' l) (hn : H0 l = none) (off : ¬ S l) : Play K H0 H' p T S :=
  ⟨c.ex h.ex hn, h.tr.mono (fun a o s ha => c.keep a o (fun z : a = l => off (z ▸ s)) ha) (fun a us ha => ch_tup c ha), h.good, h.fresh, fun a s => by
    obtain ⟨o, ho⟩ := h.live a s
    exact ⟨o, c.keep a o (fun z : a = l => off (z ▸ s)) ho⟩⟩
theorem s_bm {r : V → List V → Hp → VK → Prop} {T : String} {to : TE} {t : TA} (h : to σ H fun x H1 => tyV K T x H1 ∧ t σ H1 fun xs H2 => r x xs H2 Q) : tBM K T r to t σ H Q := h
theorem s_tyL {xs : List V} {P : Prop} (h : SqL K H l xs) (k : P) : tyV K "list" (.ref l) H ∧ P := ⟨.inl ⟨rfl, _, h⟩, k⟩
theorem v_append {xs : List V} (h : H l = some (.lst xs)) (hz : xs.length < sizeLine) (k : ∀ H2, Ch H H2 l → H2 l = some (.lst (xs ++ [y])) → Q .non H2) : rAppend (.ref l) [y] H Q := ⟨l, xs, y, rfl, rfl, h, hz, k _ (Ch.upd h) upd_same⟩
theorem v_setL {xs : List V} {N : Hp → Prop} {k : Nat} (h : H l = some (.lst xs)) (e : ixN xs.length i = some k) (n : ∀ H2, Ch H H2 l → H2 l = some (.lst (xs.set k y)) → N H2) : rSetL (.ref l) (.int i) y H N := ⟨l, xs, i, k, rfl, rfl, h, e, n _ (Ch.upd h) upd_same⟩
theorem s_gSub {to ti : TE} {t : TSet} {N : L2.St → Hp → Prop} (h : to σ H fun o H1 => ti σ H1 fun i H2 => t o i v H2 fun H3 => N σ H3) : gSub to ti t v σ H N := h
/- loops -/
def ForR (g : TG) (tb : TS) (D : Ends) (σ : L2.St) (J : It) (H1 : Hp) : Prop := ∃ W : Nat → Nat → L2.St → Hp → Prop, (∃ m, W 0 m σ H1) ∧ ∀ i m σ H, W i m σ H →
  (J.stop i H ∧ D.nx σ H) ∨ (J.go i H ∧ ∃ N : L2.St → Hp → Prop, (∀ σ' H', N σ' H' → ∃ m', m' < m ∧ W (i + 1) m' σ' H') ∧ ∀ x H', J.yld i H x H' → g x σ H' fun σ2 H2 => tb { D with nx := N, ct := N, bk := D.nx } σ2 H2)
theorem s_for {wi : TI} {g : TG} {tb : TS} (h : wi σ H (ForR g tb ⟨nx, rt, bk, ct⟩ σ)) : tFor wi g tb ⟨nx, rt, bk, ct⟩ σ H := h
def IL (K : PySem.W.Frag) (R : It → Hp → Prop) (x : V) (H1 : Hp) : Prop := ∃ a, x = .ref a ∧ (∃ xs, SqL K H1 a xs) ∧ R (Itl K a) H1
def IT (K : PySem.W.Frag) (R : It → Hp → Prop) (x : V) (H1 : Hp) : Prop := ∃ a, x = .ref a ∧ (∃ xs, SqT K H1 a xs) ∧ R (Itt K a) H1
variable {R : It → Hp → Prop}
theorem s_iL (h : ta σ H fun x H1 => IL K R x H1) : iList K ta σ H R := h
theorem s_iT (h : ta σ H fun x H1 => IT K R x H1) : iTup K ta σ H R := h
theorem v_iL {xs : List V} (h : SqL K H a xs) (k : R (Itl K a) H) : IL K R (.ref a) H := ⟨a, rfl, ⟨_, h⟩, k⟩
theorem v_iT {xs : List V} (h : H a = some (.tup xs)) (k : R (Itt K a) H) : IT K R (.ref a) H := ⟨a, rfl, ⟨_, SqT.of h⟩, k⟩
def IR1 (R : It → Hp → Prop) (vs : List V) (H1 : Hp) : Prop := ∃ j : Int, vs = [.int j] ∧ -(2 ^ 62) ≤ j ∧ j < 2 ^ 62 ∧ R (Itr 0 j.toNat) H1
def IR2 (R : It → Hp → Prop) (vs : List V) (H1 : Hp) : Prop := ∃ i j : Int, vs = [.int i, .int j] ∧ (-(2 ^ 62) ≤ i ∧ i < 2 ^ 62 ∧ -(2 ^ 62) ≤ j ∧ j < 2 ^ 62) ∧ R (Itr i (j - i).toNat) H1
theorem s_iR1 {t : TA} (h : t σ H fun vs H1 => IR1 R vs H1) : iRng1 t σ H R := h
theorem s_iR2 {t : TA} (h : t σ H fun vs H1 => IR2 R vs H1) : iRng2 t σ H R := h
theorem v_iR1 {n : Nat} (hn : n ≤ 1000000) (k : R (Itr 0 n) H) : IR1 R [.int (n : Int)] H := ⟨n, rfl, by omega, by omega, k⟩
theorem v_iR1' {n : Int} (hn : 0 ≤ n ∧ n ≤ 1000000) (k : R (Itr 0 n.toNat) H) : IR1 R [.int n] H := ⟨n, rfl, by omega, by omega, k⟩
theorem v_iR2 {b e : Nat} (hb : b ≤ 1000000) (he : e ≤ 1000000) (k : R (Itr b (e - b)) H) : IR2 R [.int (b : Int), .int (e : Int)] H := ⟨b, e, rfl, ⟨by omega, by omega, by omega, by omega⟩, by
  rw [show ((e : Int) - b).toNat = e - b by omega]
  exact k⟩
theorem fr_list {xs : List V} {g : TG} {tb : TS} (Pv : Nat → L2.St → Hp → Prop) (h0 : Pv 0 σ H) (hl : ∀ i σ H, i ≤ xs.length → Pv i σ H → SqL K H a xs)
    (hs : ∀ i x σ H, xs[i]? = some x → Pv i σ H → g x σ H fun σ2 H2 => tb ⟨Pv (i + 1), rt, nx, Pv (i + 1)⟩ σ2 H2) (hd : ∀ σ H, Pv xs.length σ H → nx σ H) : ForR g tb ⟨nx, rt, bk, ct⟩ σ (Itl K a) H := for_list Pv h0 hl hs hd
theorem fr_tup {xs : List V} {g : TG} {tb : TS} (Pv : Nat → L2.St → Hp → Prop) (h0 : Pv 0 σ H) (hl : ∀ i σ H, i ≤ xs.length → Pv i σ H → SqT K H a xs)
    (hs : ∀ i x σ H, xs[i]? = some x → Pv i σ H → g x σ H fun σ2 H2 => tb ⟨Pv (i + 1), rt, nx, Pv (i + 1)⟩ σ2 H2) (hd : ∀ σ H, Pv xs.length σ H → nx σ H) : ForR g tb ⟨nx, rt, bk, ct⟩ σ (Itt K a) H := for_tup Pv h0 hl hs hd
theorem fr_range {n : Nat} {g : TG} {tb : TS} (Pv : Nat → L2.St → Hp → Prop) (h0 : Pv 0 σ H)
    (hs : ∀ (i : Nat) σ H, i < n → Pv i σ H → g (.int (i : Int)) σ H fun σ2 H2 => tb ⟨Pv (i + 1), rt, nx, Pv (i + 1)⟩ σ2 H2) (hd : ∀ σ H, Pv n σ H → nx σ H) : ForR g tb ⟨nx, rt, bk, ct⟩ σ (Itr 0 n) H :=
  for_range Pv h0 (fun i σ H hi p => by
    rw [show (0 : Int) + (i : Int) = (i : Int) by omega]
    exact hs i σ H hi p) hd
theorem fr_range2 {b n : Nat} {g : TG} {tb : TS} (Pv : Nat → L2.St → Hp → Prop) (h0 : Pv 0 σ H)
    (hs : ∀ (i : Nat) σ H, i < n → Pv i σ H → g (.int ((b + i : Nat) : Int)) σ H fun σ2 H2 => tb ⟨Pv (i + 1), rt, nx, Pv (i + 1)⟩ σ2 H2) (hd : ∀ σ H, Pv n σ H → nx σ H) : ForR g tb ⟨nx, rt, bk, ct⟩ σ (Itr (b : Int) n) H :=
  for_range Pv h0 (fun i σ H hi p => by
    rw [show (b : Int) + (i : Int) = ((b + i : Nat) : Int) by omega]
    exact hs i σ H hi p) hd
theorem v_iP {ps : List P3} (h : PartsAt H a ps) (k : R (Itl K a) H) : IL K R (.ref a) H := by
  obtain ⟨ts, h1, _⟩ := h
  exact ⟨a, rfl, ⟨_, SqL.of h1⟩, k⟩
theorem v_lenP {ps : List P3} (h : PartsAt H p ps) (k : Q (.int ps.length) H) : rLenK K [.ref p] H Q := by
  obtain ⟨ts, h1, h2⟩ := h
  refine ⟨p, _, rfl, .inl (SqL.of h1), ?_⟩
  rw [List.length_map, h2.len]
  exact k
/-- what a walk over parts leans on stays -/
def KeepP (H H' : Hp) (a : Addr) : Prop := (∀ o, H a = some o → H' a = some o) ∧ ∀ b xs, H b = some (.tup xs) → H' b = some (.tup xs)
theorem KeepP.ex (e : Ex H H') : KeepP H H' a := ⟨fun o h => e _ _ h, fun b xs h => e _ _ h⟩
theorem fr_parts {ps : List P3} {g : TG} {tb : TS} (Pv : Nat → L2.St → Hp → Prop) {Hb : Hp} (h : PartsAt Hb a ps) (h0 : Pv 0 σ H) (hl : ∀ i σ H', i ≤ ps.length → Pv i σ H' → KeepP Hb H' a)
    (hs : ∀ i t c1 c2 c3 σ H', ps[i]? = some (c1, c2, c3) → H' t = some (.tup [.int (c1 : Int), .int (c2 : Int), .int (c3 : Int)]) → Pv i σ H' → g (.ref t) σ H' fun σ2 H2 => tb ⟨Pv (i + 1), rt, nx, Pv (i + 1)⟩ σ2 H2) (hd : ∀ σ H', Pv ps.length σ H' → nx σ H') :
    ForR g tb ⟨nx, rt, bk, ct⟩ σ (Itl K a) H := by
  obtain ⟨ts, h1, h2⟩ := h
  have e : (ts.map V.ref).length = ps.length := by rw [List.length_map, h2.len]
  refine fr_list (xs := ts.map V.ref) Pv h0 (fun i σ H' hi p => SqL.of ((hl i σ H' (by omega) p).1 _ h1)) (fun i x σ H' hi p => ?_) (by rw [e]; exact hd)
  obtain ⟨t, ht, rfl⟩ := map_back hi
  obtain ⟨⟨c1, c2, c3⟩, hc, hp⟩ := h2.left ht
  exact hs i t c1 c2 c3 σ H' hc ((hl i σ H' (by have := lt_of_get hc; omega) p).2 _ _ hp) p
def LcR (g : TG) (tt : TT) (te : TE) (vs : List Nat) (σ : L2.St) (Q : VK) (J : It) (H1 : Hp) : Prop := ∀ D, H1 D = none → ∃ W : Nat → Nat → Hp → Prop, (∃ m, W 0 m (upd H1 D (.lst []))) ∧ ∀ i m H, W i m H →
  (J.stop i H ∧ Q (.ref D) H) ∨ (J.go i H ∧ ∃ Nx : Hp → Prop, (∀ H', Nx H' → ∃ m', m' < m ∧ W (i + 1) m' H') ∧ ∀ x H', J.yld i H x H' → g x (wipe σ vs) H' fun σ2 H2 => wipe σ2 vs = wipe σ vs ∧ tt σ2 H2 fun b H3 =>
    if b = true then te σ2 H3 fun y H4 => ∃ acc, H4 D = some (.lst acc) ∧ acc.length < sizeLine ∧ Nx (upd H4 D (.lst (acc ++ [y]))) else Nx H3)
theorem s_lc {wi : TI} {g : TG} {tt : TT} {te : TE} {vs : List Nat} (h : wi σ H (LcR g tt te vs σ Q)) : tLc wi g tt te vs σ H Q := h
theorem v_iG {as : List Addr} {g : Grid} (h : GridAt H a as g) (k : R (Itl K a) H) : IL K R (.ref a) H := ⟨a, rfl, ⟨_, SqL.of h.top⟩, k⟩
theorem v_lenG {as : List Addr} {g : Grid} (h : GridAt H p as g) (k : Q (.int g.length) H) : rLenK K [.ref p] H Q := by
  refine ⟨p, _, rfl, .inl (SqL.of h.top), ?_⟩
  rw [List.length_map, h.row.len]
  exact k
/-- a list copied, item by item -/
theorem lc_copy {xs : List V} {j m : Nat} {vs : List Nat} (h : SqL K H a xs) (hn : xs.length ≤ 100000) (k : ∀ D H2, H D = none → Ex H H2 → H2 D = some (.lst xs) → Q (.ref D) H2)
    (hw : ∀ x, wipe ((wipe σ vs).set j (some x)) vs = wipe σ vs) (hv : ∀ x, ((wipe σ vs).set j (some x))[m]? = some (some x)) : LcR (gName j) tYes (tVar m) vs σ Q (Itl K a) H := by
  intro D hD
  refine lc_v (walk_list (K := K) (a := a) (xs := xs)) y_list hD (fun H2 e2 => sqL_ex h e2) hn (fun _ => true) (fun i => (xs[i]?).getD .non) hw lc_yes (fun i x H2 hi hx _ e2 Q2 q2 => ?_) fun H2 e2 h2 => ?_
  · refine ⟨x, hv x, ?_⟩
    have := q2 H2 (Evl.Ex.refl H2)
    rw [hx] at this
    exact this
  · refine k D H2 hD e2 ?_
    rw [h2, kept_all]
    have := range_map xs (fun x => x) V.non
    simp only [Option.map_id', List.map_id'] at this
    rw [this]
/-- a grid copied, row by row -/
theorem lc_grid {as : List Addr} {g : Grid} {j : Nat} {vs : List Nat} (G : GridAt H a as g) (hn : g.length ≤ 100000) (hw : ∀ x, wipe ((wipe σ vs).set j (some x)) vs = wipe σ vs)
    (he : ∀ b row H' (Q' : VK), row ∈ g → RowAt H' b row → (∀ l H2, H' l = none → Ex H' H2 → H2 l = some (.lst (row.map oV)) → Q' (.ref l) H2) → te ((wipe σ vs).set j (some (.ref b))) H' Q')
    (k : ∀ D as' H2, Ex H H2 → GridAt H2 D as' g → as'.Nodup → D ∉ as' → H D = none → (∀ b ∈ as', H b = none) → Q (.ref D) H2) : LcR (gName j) tYes te vs σ Q (Itl K a) H := by
  intro D hD
  have hasl : (as.map V.ref).length = g.length := by rw [List.length_map, G.row.len]
  refine lc_new (walk_list (K := K) (a := a) (xs := as.map V.ref)) y_list hD (fun H2 e2 => sqL_of G.top e2) (by rw [hasl]; omega) (fun _ => true) (fun i o => ∃ row, g[i]? = some row ∧ o = .lst (row.map oV)) hw lc_yes ?_ ?_
  · intro i x H2 hi hx _ e2 hD2 Q2 q3
    obtain ⟨b, hb, rfl⟩ := map_back hx
    obtain ⟨row, hrow, hr2⟩ := G.row.left hb
    exact he b row H2 Q2 (List.mem_of_getElem? hrow) (e2 _ _ hr2) fun l H3 n3 e3 h3 => q3 l H3 _ n3 e3 h3 ⟨row, hrow, rfl⟩
  · intro H3 as' e3 hD3 nd fr hall
    rw [kept_all, hasl] at hall
    have G3 : GridAt H3 D as' g := ⟨hD3, by
      refine ⟨by rw [← hall.len, List.length_range], fun i b row hb hr => ?_⟩
      obtain ⟨k, hk, o, ho, row2, hr2, eo⟩ := hall.right hb
      have hi := lt_of_get hk
      rw [List.length_range] at hi
      rw [List.getElem?_range hi] at hk
      cases hk
      rw [hr] at hr2
      cases hr2
      unfold RowAt
      rw [ho, eo]⟩
    exact k D as' H3 e3 G3 nd (fun m => (fr D m).2 rfl) hD fun b m => (fr b m).1
theorem v_iRow {row : List (Option Nat)} (h : RowAt H a row) (k : R (Itl K a) H) : IL K R (.ref a) H := ⟨a, rfl, ⟨_, SqL.of h⟩, k⟩
/- while -/
theorem s_while {c : TT} {tb : TS} (W : Nat → L2.St → Hp → Prop) (m0 : Nat) (h0 : W m0 σ H) (ht : ∀ m σ H, W m σ H → c σ H fun b H1 => if b = true then ∃ N : L2.St → Hp → Prop, (∀ σ' H', N σ' H' → ∃ m', m' < m ∧ W m' σ' H') ∧ tb ⟨N, rt, nx, N⟩ σ H1 else nx σ H1) : tWhile c tb ⟨nx, rt, bk, ct⟩ σ H := ⟨W, ⟨m0, h0⟩, ht⟩
theorem s_wbody {tb : TS} {m : Nat} {W : Nat → L2.St → Hp → Prop} (h : tb ⟨fun σ' H' => ∃ m', m' < m ∧ W m' σ' H', rt, nx, fun σ' H' => ∃ m', m' < m ∧ W m' σ' H'⟩ σ H) : ∃ N : L2.St → Hp → Prop, (∀ σ' H', N σ' H' → ∃ m', m' < m ∧ W m' σ' H') ∧ tb ⟨N, rt, nx, N⟩ σ H := ⟨_, fun _ _ z => z, h⟩
/- slices -/
theorem s_sl {r : V → Option Int → Option Int → Hp → VK → Prop} {tl th : TO} (h : te σ H fun x H1 => tl σ H1 fun l H2 => th σ H2 fun u H3 => r x l u H3 Q) : tSl r te tl th σ H Q := h
variable {O : Option Int → Hp → Prop}
theorem s_noPart (h : O none H) : tNoPart σ H O := h
def PtR (O : Option Int → Hp → Prop) (x : V) (H1 : Hp) : Prop := ∃ i, x = .int i ∧ O (some i) H1
theorem s_part (h : te σ H fun x H1 => PtR O x H1) : tPart te σ H O := h
theorem v_part (h : O (some i) H) : PtR O (.int i) H := ⟨i, rfl, h⟩
theorem v_slL {xs : List V} {lo hi : Option Int} (h : SqL K H p xs) (k : ∀ l H2, H l = none → Ex H H2 → H2 l = some (.lst (cutV xs lo hi)) → Q (.ref l) H2) : rSlL K (.ref p) lo hi H Q := ⟨p, xs, rfl, h, fun l hl => k l _ hl (Evl.Ex.new hl) upd_same⟩
theorem v_ixP0 {ps : List P3} (h : PartsAt H p ps) (n : ps ≠ []) (k : ∀ t, H t = some (.tup [.int (hdP ps).1, .int (hdP ps).2.1, .int (hdP ps).2.2]) → Q (.ref t) H) : rIxL K (.ref p) (.int 0) H Q := by
  obtain ⟨ts, h1, h2⟩ := h
  obtain ⟨t0, t1, a0, a1, g0, g1⟩ := parts_ends h1 h2 n
  exact ⟨p, _, 0, .ref t0, rfl, rfl, SqL.of h1, a0, k t0 g0⟩
theorem v_ixPl {ps : List P3} (h : PartsAt H p ps) (n : ps ≠ []) (k : ∀ t, H t = some (.tup [.int (ltP ps).1, .int (ltP ps).2.1, .int (ltP ps).2.2]) → Q (.ref t) H) : rIxL K (.ref p) (.int (-1)) H Q := by
  obtain ⟨ts, h1, h2⟩ := h
  obtain ⟨t0, t1, a0, a1, g0, g1⟩ := parts_ends h1 h2 n
  exact ⟨p, _, -1, .ref t1, rfl, rfl, SqL.of h1, a1, k t1 g1⟩
/- grids -/
theorem v_ixG {as : List Addr} {g : Grid} {m : Nat} (G : GridAt H p as g) (hs : m < g.length) (k : ∀ b row, as[m]? = some b → RowAt H b row → g[m]? = some row → row ∈ g → Q (.ref b) H) : rIxL K (.ref p) (.int (m : Int)) H Q := by
  have hr := List.getElem?_eq_getElem hs
  obtain ⟨b, hb, rb⟩ := G.row.right hr
  exact ⟨p, _, m, .ref b, rfl, rfl, SqL.of G.top, at_of rfl (map_get hb), k b _ hb rb hr (List.getElem_mem hs)⟩
theorem v_ixR {row : List (Option Nat)} {m : Nat} (h : RowAt H p row) (hs : m < row.length) (k : ∀ c, row[m]? = some c → Q (oV c) H) : rIxL K (.ref p) (.int (m : Int)) H Q := by
  have hr := List.getElem?_eq_getElem hs
  exact ⟨p, _, m, oV row[m], rfl, rfl, SqL.of h, at_of rfl (map_get hr), k _ hr⟩
/-- beside the rows all stays -/
def Beside (as : List Addr) (H H' : Hp) : Prop := ∀ a o, a ∉ as → H a = some o → H' a = some o
theorem Beside.refl (as : List Addr) (H : Hp) : Beside as H H := fun _ _ _ h => h
theorem Beside.trans {as : List Addr} {H1 H2 H3 : Hp} (e1 : Beside as H1 H2) (e2 : Beside as H2 H3) : Beside as H1 H3 := fun a o n h => e2 a o n (e1 a o n h)
theorem v_setG {r : Addr} {as : List Addr} {g : Grid} {m leg : Nat} {b : Addr} {row : List (Option Nat)} {h : Option Nat} {N : Hp → Prop} (G : GridAt H r as g) (nd : as.Nodup) (nr : r ∉ as) (hb : as[m]? = some b) (hr : g[m]? = some row) (hl : leg < row.length)
    (k : ∀ H2, Beside as H H2 → GridAt H2 r as (setCell g m leg h) → N H2) : rSetL (.ref b) (.int (leg : Int)) (oV h) H N := by
  have rb := G.row.at_ _ _ _ hb hr
  refine ⟨b, row.map oV, leg, leg, rfl, rfl, rb, by rw [List.length_map]; exact ixN_nat hl, ?_⟩
  rw [← List.map_set]
  refine k _ (fun a o na ha => ?_) (G.cell nd nr h hb hr)
  rw [upd_ne (fun z : a = b => na (z ▸ List.mem_of_getElem? hb))]
  exact ha
theorem set_same {σ : L2.St} {j : Nat} {v0 : Option V} (h : σ[j]? = some v0) : σ.set j v0 = σ := by
  apply List.ext_getElem?
  intro i
  rw [List.getElem?_set]
  by_cases e : j = i
  · subst e
    rw [if_pos rfl, if_pos (lt_of_get h), h]
  · rw [if_neg e]
/-- for leg in range(one[1], one[2]): grid[one[0]][leg] = h -/
theorem fr_paint {jl jr jo n c1 c2 c3 : Nat} {r o : Addr} {as : List Addr} {g : Grid} {h : Option Nat} {v0 : Option V} (h0 : σ[jl]? = some v0) (h1 : ∀ v, (σ.set jl v)[jr]? = some (some (.ref r))) (h2 : ∀ v, (σ.set jl v)[jo]? = some (some (.ref o)))
    (hl : ∀ v, (σ.set jl (some v))[jl]? = some (some v)) (hte : ∀ v H' Q', Q' (oV h) H' → te (σ.set jl v) H' Q') (ho : H o = some (.tup [.int (c1 : Int), .int (c2 : Int), .int (c3 : Int)])) (G : GridAt H r as g) (nd : as.Nodup) (nr : r ∉ as)
    (hrow : ∀ row ∈ g, row.length = n) (hc1 : c1 < g.length) (hc3 : c3 ≤ n) (k : ∀ v H2, Beside as H H2 → GridAt H2 r as (markPart g h (c1, c2, c3)) → nx (σ.set jl v) H2) :
    ForR (gName jl) (tAsg te (gSub (tOp (rIxL K) (tVar jr) (tOp (rIxT K) (tVar jo) (tC (.int 0)))) (tVar jl) rSetL)) ⟨nx, rt, bk, ct⟩ σ (Itr (c2 : Int) (c3 - c2)) H := by
  have noas : o ∉ as := nas_tup G ho
  refine fr_range2 (fun j σ' H2 => ∃ v, σ' = σ.set jl v ∧ Beside as H H2 ∧ GridAt H2 r as ((List.range' c2 j).foldl (fun g leg => setCell g c1 leg h) g)) ⟨v0, (set_same h0).symm, Beside.refl _ _, G⟩ ?_ ?_
  · rintro j σ' H2 hj ⟨v, rfl, b2, G2⟩
    have e0 : (σ.set jl v).set jl (some (V.int ((c2 + j : Nat) : Int))) = σ.set jl (some (V.int ((c2 + j : Nat) : Int))) := List.set_set _
    show tAsg te _ _ ((σ.set jl v).set jl (some (V.int ((c2 + j : Nat) : Int)))) H2
    rw [e0]
    refine hte _ _ _ ?_
    have hln : ((List.range' c2 j).foldl (fun g leg => setCell g c1 leg h) g).length = g.length := foldl_len c1 h (List.range' c2 j) g
    have hrows : ∀ row ∈ ((List.range' c2 j).foldl (fun g leg => setCell g c1 leg h) g), row.length = n := by
      have key : ∀ (ls : List Nat) (g : Grid), (∀ row ∈ g, row.length = n) → ∀ row ∈ ls.foldl (fun g leg => setCell g c1 leg h) g, row.length = n := by
        intro ls
        induction ls with
        | nil => exact fun g h => h
        | cons y r ih => exact fun g h => ih _ (setCell_row h)
      exact key _ _ hrow
    refine s_gSub (s_op (s_var (h1 _) (s_op (s_var (h2 _) (s_c (p_ix0 (b2 _ _ noas ho) ?_))))))
    refine v_ixG G2 (by rw [hln]; exact hc1) fun b row hb rb hr mr => ?_
    refine s_var (hl _) ?_
    refine v_setG G2 nd nr hb hr (by rw [hrows _ mr]; omega) fun H3 b3 G3 => ?_
    refine ⟨_, rfl, b2.trans b3, ?_⟩
    have e1 : List.range' c2 (j + 1) = List.range' c2 j ++ [c2 + j] := List.range'_1_concat
    rw [e1, List.foldl_append]
    exact G3
  · rintro σ' H2 ⟨v, rfl, b2, G2⟩
    exact k v H2 b2 G2
/-- the same, each leg looked at first -/
theorem fr_paintC {jl jr jo n c1 c2 c3 : Nat} {r o : Addr} {as : List Addr} {g : Grid} {t : Nat} {v0 : Option V} {Z : TS} (h0 : σ[jl]? = some v0) (h1 : ∀ v, (σ.set jl v)[jr]? = some (some (.ref r))) (h2 : ∀ v, (σ.set jl v)[jo]? = some (some (.ref o)))
    (hl : ∀ v, (σ.set jl (some v))[jl]? = some (some v)) (hte : ∀ v H' Q', Beside as H H' → Q' (oV (some t)) H' → te (σ.set jl v) H' Q') (ho : H o = some (.tup [.int (c1 : Int), .int (c2 : Int), .int (c3 : Int)])) (G : GridAt H r as g) (nd : as.Nodup) (nr : r ∉ as)
    (hrow : ∀ row ∈ g, row.length = n) (hc1 : c1 < g.length) (hc3 : c3 ≤ n) (hfree : ∀ l, c2 ≤ l → l < c3 → cellOf g c1 l = none) (k : ∀ v H2, Beside as H H2 → GridAt H2 r as (markPart g (some t) (c1, c2, c3)) → nx (σ.set jl v) H2) :
    ForR (gName jl) (tSeq (tIfS (tTest (tOp rNotN (tOp (rIxL K) (tOp (rIxL K) (tVar jr) (tOp (rIxT K) (tVar jo) (tC (.int 0)))) (tVar jl)) (tC .non))) Z tNext) (tAsg te (gSub (tOp (rIxL K) (tVar jr) (tOp (rIxT K) (tVar jo) (tC (.int 0)))) (tVar jl) rSetL))) ⟨nx, rt, bk, ct⟩ σ (Itr (c2 : Int) (c3 - c2)) H := by
  have noas : o ∉ as := nas_tup G ho
  refine fr_range2 (fun j σ' H2 => ∃ v, σ' = σ.set jl v ∧ Beside as H H2 ∧ GridAt H2 r as ((List.range' c2 j).foldl (fun g leg => setCell g c1 leg (some t)) g)) ⟨v0, (set_same h0).symm, Beside.refl _ _, G⟩ ?_ ?_
  · rintro j σ' H2 hj ⟨v, rfl, b2, G2⟩
    have e0 : (σ.set jl v).set jl (some (V.int ((c2 + j : Nat) : Int))) = σ.set jl (some (V.int ((c2 + j : Nat) : Int))) := List.set_set _
    show tSeq _ _ _ ((σ.set jl v).set jl (some (V.int ((c2 + j : Nat) : Int)))) H2
    rw [e0]
    have hln : ((List.range' c2 j).foldl (fun g leg => setCell g c1 leg (some t)) g).length = g.length := foldl_len c1 (some t) (List.range' c2 j) g
    have hrows : ∀ row ∈ ((List.range' c2 j).foldl (fun g leg => setCell g c1 leg (some t)) g), row.length = n := by
      have key : ∀ (ls : List Nat) (g : Grid), (∀ row ∈ g, row.length = n) → ∀ row ∈ ls.foldl (fun g leg => setCell g c1 leg (some t)) g, row.length = n := by
        intro ls
        induction ls with
        | nil => exact fun g h => h
        | cons y r ih => exact fun g h => ih _ (setCell_row h)
      exact key _ _ hrow
    refine s_seq (s_if (s_tTest (s_op (s_op (s_op (s_var (h1 _) (s_op (s_var (h2 _) (s_c (p_ix0 (b2 _ _ noas ho) ?_))))))))))
    refine v_ixG G2 (by rw [hln]; exact hc1) fun b row hb rb hr mr => ?_
    refine s_var (hl _) ?_
    refine v_ixR rb (by rw [hrows _ mr]; omega) fun c hc => ?_
    have hcell := cell_is hr hc
    rw [foldl_cell _ g hrow hc1 (fun x m => by have := List.mem_range'_1.mp m; omega), if_neg (fun z => by have := List.mem_range'_1.mp z.2; omega), hfree _ (by omega) (by omega)] at hcell
    subst hcell
    refine s_c (v_notO (s_bl (iteF (s_next (s_asg (hte _ _ _ b2 ?_))))))
    refine s_gSub (s_op (s_var (h1 _) (s_op (s_var (h2 _) (s_c (p_ix0 (b2 _ _ noas ho) ?_))))))
    refine v_ixG G2 (by rw [hln]; exact hc1) fun b row hb rb hr mr => ?_
    refine s_var (hl _) ?_
    refine v_setG G2 nd nr hb hr (by rw [hrows _ mr]; omega) fun H3 b3 G3 => ?_
    refine ⟨_, rfl, b2.trans b3, ?_⟩
    have e1 : List.range' c2 (j + 1) = List.range' c2 j ++ [c2 + j] := List.range'_1_concat
    rw [e1, List.foldl_append]
    exact G3
  · rintro σ' H2 ⟨v, rfl, b2, G2⟩
    exact k v H2 b2 G2
/-- for one in parts: for leg in range(one[1], one[2]): grid[one[0]][leg] = h -/
theorem fr_paintAll {jl jr jo n : Nat} {r : Addr} {as : List Addr} {g : Grid} {h : Option Nat} {ps : List P3} {v0 w0 : Option V} (hjl : σ[jl]? = some v0) (hjo : σ[jo]? = some w0) (hne : jl ≠ jo) (h1 : ∀ v w, ((σ.set jo w).set jl v)[jr]? = some (some (.ref r)))
    (hte : ∀ v w H' Q', Q' (oV h) H' → te ((σ.set jo w).set jl v) H' Q') (hp : PartsAt H a ps) (na : a ∉ as) (G : GridAt H r as g) (nd : as.Nodup) (nr : r ∉ as)
    (hrow : ∀ row ∈ g, row.length = n) (hn : n ≤ 1000000) (hv : ∀ q ∈ ps, q.1 < g.length ∧ q.2.2 ≤ n ∧ q.2.1 < q.2.2) (k : ∀ v w H2, Beside as H H2 → GridAt H2 r as (markAll g ps h) → nx ((σ.set jo w).set jl v) H2) :
    ForR (gName jo) (tFor (iRng2 (tCons (tOp (rIxT K) (tVar jo) (tC (.int 1))) (tCons (tOp (rIxT K) (tVar jo) (tC (.int 2))) tNil))) (gName jl) (tAsg te (gSub (tOp (rIxL K) (tVar jr) (tOp (rIxT K) (tVar jo) (tC (.int 0)))) (tVar jl) rSetL))) ⟨nx, rt, bk, ct⟩ σ (Itl K a) H := by
  have ljl := lt_of_get hjl
  have ljo := lt_of_get hjo
  have kp : ∀ H2, Beside as H H2 → KeepP H H2 a := fun H2 b => ⟨fun o z => b _ _ na z, fun c xs z => b _ _ (nas_tup G z) z⟩
  refine fr_parts (fun i σ' H2 => ∃ v w, σ' = (σ.set jo w).set jl v ∧ Beside as H H2 ∧ GridAt H2 r as (markAll g (ps.take i) h)) hp
    ⟨v0, w0, by rw [set_same hjo, set_same hjl], Beside.refl _ _, G⟩ (fun i σ' H2 _ ⟨_, _, _, b, _⟩ => kp H2 b) ?_ ?_
  · rintro i t c1 c2 c3 σ' H2 hi ht ⟨v, w, rfl, b2, G2⟩
    have e0 : ((σ.set jo w).set jl v).set jo (some (V.ref t)) = (σ.set jo (some (V.ref t))).set jl v := by
      rw [List.set_comm _ _ hne, List.set_set]
    show tFor _ _ _ _ (((σ.set jo w).set jl v).set jo (some (V.ref t))) H2
    rw [e0]
    have hval := hv _ (List.mem_of_getElem? hi)
    dsimp only at hval
    have g1 : ((σ.set jo (some (V.ref t))).set jl v)[jo]? = some (some (.ref t)) := by
      rw [List.getElem?_set_ne hne, List.getElem?_set, if_pos rfl, if_pos ljo]
    have htake : ps.take (i + 1) = ps.take i ++ [(c1, c2, c3)] := by
      have hl3 := lt_of_get hi
      rw [List.take_succ_eq_append_getElem hl3]
      rw [List.getElem?_eq_getElem hl3] at hi
      rw [Option.some.inj hi]
    refine s_for (s_iR2 (s_cons (s_op (s_var g1 (s_c (v_ixT ht rfl (s_cons (s_op (s_var g1 (s_c (v_ixT ht rfl (s_nil (v_iR2 (by omega) (by omega) ?_)))))))))))))
    refine fr_paint (jr := jr) (n := n) (v0 := v) (by rw [List.getElem?_set, if_pos rfl, if_pos (by rw [List.length_set]; exact ljl)]) (fun v => by rw [List.set_set]; exact h1 _ _) (fun v => by rw [List.set_set, List.getElem?_set_ne hne, List.getElem?_set, if_pos rfl, if_pos ljo])
      (fun v => by rw [List.set_set, List.getElem?_set, if_pos rfl, if_pos (by rw [List.length_set]; exact ljl)]) (fun v H' Q' z => by rw [List.set_set]; exact hte _ _ _ _ z) ht G2 nd nr (markAll_row _ _ _ hrow) (by rw [markAll_len]; exact hval.1) hval.2.1 fun v2 H3 b3 G3 => ?_
    refine ⟨v2, _, List.set_set _, b2.trans b3, ?_⟩
    rw [htake]
    have e2 : markAll g (ps.take i ++ [(c1, c2, c3)]) h = markPart (markAll g (ps.take i) h) h (c1, c2, c3) := by
      unfold markAll
      rw [List.foldl_append]
      rfl
    rw [e2]
    exact G3
  · rintro σ' H2 ⟨v, w, rfl, b2, G2⟩
    rw [List.take_length] at G2
    exact k v w H2 b2 G2
/- what stands, at a later heap -/
theorem e_at {o : HO} (e : Ex H H') (h : H a = some o) : H' a = some o := e _ _ h
theorem e_sq {xs : List V} (h : H a = some (.lst xs)) : SqL K H a xs := SqL.of h
theorem e_sqL {xs : List V} (e : Ex H H') (h : SqL K H a xs) : SqL K H' a xs := sqL_ex h e
theorem e_tr {S : Addr → Prop} {T : Tr} (e : Ex H H') (h : TrainAt K H S p T) : TrainAt K H' S p T := h.ex e
theorem e_play {H0 : Hp} {S : Addr → Prop} {T : Tr} (h : Play K H0 H p T S) : TrainAt K H S p T := h.tr
theorem e_playE {H0 : Hp} {S : Addr → Prop} {T : Tr} (e : Ex H H') (h : Play K H0 H p T S) : Play K H0 H' p T S := h.more e
theorem e_grid {as : List Addr} {g : Grid} (e : Ex H H') (h : GridAt H a as g) : GridAt H' a as g := h.mono e
theorem e_parts {ps : List P3} (e : Ex H H') (h : PartsAt H a ps) : PartsAt H' a ps := h.mono e
theorem e_world {S : Addr → Prop} {T : Tr} (e : Ex H H') (h : WorldAt H S a T) : WorldAt H' S a T := h.ex e
theorem e_row {row : List (Option Nat)} (e : Ex H H') (h : RowAt H a row) : RowAt H' a row := e _ _ h
theorem e_deed {d : Deed} (e : Ex H H') (h : DeedAt H a d) : DeedAt H' a d := e _ _ h
theorem e_mvT {S S' : Addr → Prop} {xs : List V} (m : Mv H H' S S') (h : H a = some (.tup xs)) : H' a = some (.tup xs) := m.tups _ _ h
theorem e_mvD {S S' : Addr → Prop} {d : Deed} (m : Mv H H' S S') (h : DeedAt H a d) : DeedAt H' a d := m.tups _ _ h
theorem e_mv {S S' : Addr → Prop} {o : HO} (m : Mv H H' S S') (n : ¬ S a) (h : H a = some o) : H' a = some o := m.keep _ _ n h
theorem e_mvG {S S' : Addr → Prop} {as : List Addr} {g : Grid} (m : Mv H H' S S') (n : ¬ S a) (na : ∀ b ∈ as, ¬ S b) (h : GridAt H a as g) : GridAt H' a as g := ⟨m.keep _ _ n h.top, h.row.monoM fun b row mb _ z => m.keep _ _ (na b mb) z⟩
theorem e_mvP {S S' : Addr → Prop} {ps : List P3} (m : Mv H H' S S') (n : ¬ S a) (h : PartsAt H a ps) : PartsAt H' a ps := parts_at h (fun o z => m.keep _ _ n z) m.tups
theorem ch_parts {ps : List P3} (c : Ch H H' l) (n : a ≠ l) (h : PartsAt H a ps) : PartsAt H' a ps := parts_at h (fun o z => c.keep _ _ n z) fun b xs z => ch_tup c z
theorem Play.offN {H0 : Hp} {S : Addr → Prop} {T : Tr} (P : Play K H0 H p T S) (h : H a = none) : ¬ S a := fun z => by
  obtain ⟨o, ho⟩ := P.live a z
  rw [h] at ho
  cases ho
theorem e_bsT {as : List Addr} {g : Grid} {r : Addr} {xs : List V} (b : Beside as H H') (G : GridAt H r as g) (h : H a = some (.tup xs)) : H' a = some (.tup xs) := b _ _ (nas_tup G h) h
theorem e_bs {as : List Addr} {o : HO} (b : Beside as H H') (n : a ∉ as) (h : H a = some o) : H' a = some o := b _ _ n h
theorem e_bsP {as : List Addr} {g : Grid} {r : Addr} {ps : List P3} (b : Beside as H H') (G : GridAt H r as g) (n : a ∉ as) (h : PartsAt H a ps) : PartsAt H' a ps := parts_at h (fun o z => b _ _ n z) fun c xs z => b _ _ (nas_tup G z) z
theorem Beside.ex {H0 : Hp} {as : List Addr} (b : Beside as H H') (e : Ex H0 H) (n : ∀ x ∈ as, H0 x = none) : Ex H0 H' := fun c o h => b c o (fun m => by rw [n c m] at h; cases h) (e c o h)
theorem Play.bs {H0 : Hp} {S : Addr → Prop} {T : Tr} {as : List Addr} (P : Play K H0 H p T S) (b : Beside as H H') (n : ∀ x ∈ as, H0 x = none) (off : ∀ x ∈ as, ¬ S x) (kt : ∀ c xs, H c = some (.tup xs) → H' c = some (.tup xs)) : Play K H0 H' p T S :=
  ⟨b.ex P.ex n, P.tr.mono (fun c o s h => b c o (fun m => off c m s) h) kt, P.good, P.fresh, fun c s => by
    obtain ⟨o, ho⟩ := P.live c s
    exact ⟨o, b c o (fun m => off c m s) ho⟩⟩
theorem parts_old {as : List Addr} {ps : List P3} (h : PartsAt H a ps) (n : ∀ b ∈ as, H b = none) : a ∉ as := fun m => by
  obtain ⟨ts, h1, _⟩ := h
  rw [n a m] at h1
  cases h1
theorem at_old {as : List Addr} {o : HO} (h : H a = some o) (n : ∀ b ∈ as, H b = none) : a ∉ as := fun m => by
  rw [n a m] at h
  cases h
theorem e_chD {d : Deed} (c : Ch H H' l) (h : DeedAt H a d) : DeedAt H' a d := ch_tup c h
/- a cut -/
theorem join {G : Prop} {R : L2.St → Hp → Prop} (Mid : L2.St → Hp → Prop) (h1 : (∀ σ' H', Mid σ' H' → R σ' H') → G) (h2 : ∀ σ' H', Mid σ' H' → R σ' H') : G := h1 h2
theorem s_cut {t u : TS} (Mid : L2.St → Hp → Prop) (h1 : t ⟨Mid, rt, bk, ct⟩ σ H) (h2 : ∀ σ' H', Mid σ' H' → u ⟨nx, rt, bk, ct⟩ σ' H') : Evl.tCut t u ⟨nx, rt, bk, ct⟩ σ H := ⟨Mid, h1, h2⟩
theorem iteEq {α : Type} {x : α} {_ : Decidable (x = x)} {A B : Prop} (h : A) : if decide (x = x) = true then A else B := by
  rw [if_pos (decide_eq_true rfl)]
  exact h
theorem iteEqN {α : Type} {x : α} {_ : Decidable (x = x)} {A B : Prop} (h : B) : if (!decide (x = x)) = true then A else B := by
  rw [if_neg (by rw [decide_eq_true rfl]; decide)]
  exact h
theorem iteLit {s t : Str} {_ : Decidable (s = t)} {A B : Prop} (n : s ≠ t) (h : B) : if decide (s = t) = true then A else B := by
  rw [if_neg (by rw [decide_eq_false n]; decide)]
  exact h
theorem iteLitN {s t : Str} {_ : Decidable (s = t)} {A B : Prop} (n : s ≠ t) (h : A) : if (!decide (s = t)) = true then A else B := by
  rw [if_pos (by rw [decide_eq_false n]; decide)]
  exact h
theorem iteDno {p : Prop} {_ : Decidable p} {A B : Prop} (n : ¬ p) (h : B) : if decide p = true then A else B := by
  rw [if_neg (by rw [decide_eq_false n]; decide)]
  exact h
theorem iteDyes {p : Prop} {_ : Decidable p} {A B : Prop} (n : p) (h : A) : if decide p = true then A else B := by
  rw [if_pos (decide_eq_true n)]
  exact h
theorem iteNno {p : Prop} {_ : Decidable p} {A B : Prop} (n : ¬ p) (h : A) : if (!decide p) = true then A else B := by
  rw [if_pos (by rw [decide_eq_false n]; decide)]
  exact h
theorem iteNyes {p : Prop} {_ : Decidable p} {A B : Prop} (n : p) (h : B) : if (!decide p) = true then A else B := by
  rw [if_neg (by rw [decide_eq_true n]; decide)]
  exact h
theorem iteNone1 {A B : Prop} (h : A) : if (none : Option Nat).isNone = true then A else B := iteT (A := A) (B := B) h
theorem iteNone2 {t : Nat} {A B : Prop} (h : B) : if (some t : Option Nat).isNone = true then A else B := iteF (A := A) (B := B) h
theorem iteSome1 {t : Nat} {A B : Prop} (h : A) : if (some t : Option Nat).isSome = true then A else B := iteT (A := A) (B := B) h
theorem iteSome2 {A B : Prop} (h : B) : if (none : Option Nat).isSome = true then A else B := iteF (A := A) (B := B) h
theorem iteNT {A B : Prop} (h : B) : if (!true) = true then A else B := by
  rw [if_neg (by decide)]
  exact h
theorem iteNF {A B : Prop} (h : A) : if (!false) = true then A else B := by
  rw [if_pos (by decide)]
  exact h
theorem ne_ints {ns : List Int} {xs : List V} (h : H a = some (.lst (ns.map V.int))) (h2 : H p = some (.lst (.ref q :: xs))) : p ≠ a := fun z => by
  rw [z, h] at h2
  have e := HO.lst.inj (Option.some.inj h2)
  cases ns with
  | nil => cases e
  | cons n r => cases e
theorem iteI {i j : Int} {A B : Prop} (h1 : i = j → A) (h2 : i ≠ j → B) : if decide (i = j) = true then A else B := iteD h1 h2
theorem map_cut (ns : List Int) (lo hi : Option Int) : ∃ ms : List Int, cutV (ns.map V.int) lo hi = ms.map V.int ∧ ms.length ≤ ns.length := by
  refine ⟨(ns.drop (HT.sIx (ns.map V.int).length 0 lo)).take (HT.sIx (ns.map V.int).length (ns.map V.int).length hi - HT.sIx (ns.map V.int).length 0 lo), ?_, ?_⟩
  · unfold cutV
    rw [List.map_take, List.map_drop]
  · rw [List.length_take, List.length_drop]
    omega
theorem v_slI {zs : List Int} {lo hi : Option Int} (h : H p = some (.lst (zs.map V.int))) (k : ∀ l H2 (ms : List Int), H l = none → Ex H H2 → H2 l = some (.lst (ms.map V.int)) → ms.length ≤ zs.length → Q (.ref l) H2) : rSlL K (.ref p) lo hi H Q := by
  obtain ⟨ms, e, z⟩ := map_cut zs lo hi
  exact ⟨p, _, rfl, SqL.of h, fun l hl => k l _ ms hl (Evl.Ex.new hl) (by rw [upd_same, e]) z⟩
theorem v_ixI {zs : List Int} {v : Nat} (h : H p = some (.lst (zs.map V.int))) (hv : v < zs.length) (k : ∀ z, z ∈ zs → Q (.int z) H) : rIxL K (.ref p) (.int (v : Int)) H Q :=
  ⟨p, _, v, .int zs[v], rfl, rfl, SqL.of h, at_of rfl (map_get (List.getElem?_eq_getElem hv)), k _ (List.getElem_mem hv)⟩
/- calls -/
variable {E : XK} {S : Addr → Prop} {T : Tr}
theorem c_size (h : TrainAt K H S p T) (k : ∀ t H2, H t = none → Ex H H2 → H2 t = some (.tup [.int T.rows.length, .int T.stops]) → Q (.ref t) H2) : spSize K [.ref p] H Q E := ⟨S, p, T, rfl, h, fun t ht => k t _ ht (Evl.Ex.new ht) upd_same⟩
theorem keys_V (T : Tr) : (T.sold.map fun x => V.int (x.1 : Int)) = (keys T).map V.int := by
  unfold keys
  rw [List.map_map]
  rfl
theorem c_tickets (h : TrainAt K H S p T) (k : ∀ t H2, H t = none → Ex H H2 → H2 t = some (.lst ((keys T).map V.int)) → Q (.ref t) H2) : spTickets K [.ref p] H Q E := ⟨S, p, T, rfl, h, fun t ht => k t _ ht (Evl.Ex.new ht) (by rw [upd_same, keys_V])⟩
theorem c_mixed {c k m : Int} (hm : 0 < m) (n : ∀ (v : Nat) H2, (v : Int) < m → Ex H H2 → Q (.int v) H2) : spMixed [.int c, .int k, .int m] H Q E := ⟨c, k, m, rfl, hm, n⟩
theorem c_cellAt {ns : List Int} (h : SqL K H a (ns.map V.int)) (hi : 0 ≤ i) (n : Q (.int (cellAt ns i.toNat)) H) : spCellAt K [.ref a, .int i] H Q E := ⟨a, ns, i.toNat, by rw [Int.toNat_of_nonneg hi], h, n⟩
theorem c_seats {c : Int} (n : ∀ n : Nat, 1 ≤ n → n ≤ 60 → Q (.int n) H) : spSeats [.int c] H Q E := ⟨c, rfl, n⟩
theorem c_stops {c : Int} (n : ∀ n : Nat, 2 ≤ n → n ≤ 60 → Q (.int n) H) : spStops [.int c] H Q E := ⟨c, rfl, n⟩
theorem c_wholeI (n : Q (.bl true) H) : spWhole [.int i] H Q E := ⟨_, rfl, .inr (.inr (.inl ⟨_, rfl⟩)), n⟩
theorem c_wholeN (n : Q (.bl false) H) : spWhole [.non] H Q E := ⟨_, rfl, .inl rfl, n⟩
theorem c_numbers {ns ms : List Int} (h : H p = some (.lst (ns.map V.int))) (h2 : H q = some (.lst (ms.map V.int))) (z : ns.length ≤ 1000000) (z2 : ms.length ≤ 1000000) (k : Q (.bl (decide (ns = ms))) H) : spNumbers K [.ref p, .ref q] H Q E := ⟨p, q, ns, ms, rfl, h, h2, z, z2, k⟩
theorem c_rows {ps qs : List P3} (h : PartsAt H p ps) (h2 : PartsAt H q qs) (z : ps.length ≤ 1000) (z2 : qs.length ≤ 1000) (k : ∀ H2, Ex H H2 → Q (.bl (decide (ps = qs))) H2) : spRowsEq K [.ref p, .ref q] H Q E :=
  ⟨p, q, ps.map p3I, qs.map p3I, rfl, h.tups, h2.tups, by rw [List.length_map]; omega, by rw [List.length_map]; omega, fun x m => by
    obtain ⟨y, _, rfl⟩ := List.mem_map.mp m
    show 3 ≤ 100
    decide, fun H2 e => by
    rw [show decide (ps.map p3I = qs.map p3I) = decide (ps = qs) from decide_eq_decide.mpr p3s_inj]
    exact k H2 e⟩
theorem c_grid (h : TrainAt K H S p T) (g : Good T) (few : T.coming < 90000) {n1 n2 : Int} (e1 : n1 = T.rows.length) (e2 : n2 = T.stops) (k : ∀ H2 r as, Ex H H2 → GridAt H2 r as T.rows → as.Nodup → r ∉ as → H r = none → (∀ a ∈ as, H a = none) → Q (.ref r) H2) : spGrid K [.ref p, .int n1, .int n2] H Q E :=
  ⟨S, p, T, by rw [e1, e2], h, g, few, k⟩
theorem c_parts {t : Int} (h : TrainAt K H S p T) {ps : List P3} (g : getS T.sold t = some ps) (k : ∀ l H2, H l = none → Ex H H2 → PartsAt H2 l ps → Q (.ref l) H2) : spParts K [.ref p, .int t] H Q E :=
  ⟨S, p, T, t, rfl, h, fun ps' h' H2 l e n P => by
    rw [g] at h'
    cases h'
    exact k l H2 n e P, fun z => by rw [g] at z; cases z⟩
theorem c_holder {s l : Int} (h : TrainAt K H S p T) (hs : 0 ≤ s ∧ s < T.rows.length) (hl : 0 ≤ l ∧ l < (T.stops : Int) - 1) (k : Q (oV (cellOf T.rows s.toNat l.toNat)) H) : spHolder K [.ref p, .int s, .int l] H Q E :=
  ⟨S, p, T, s, l, rfl, h, fun row c h1 h2 => by
    rw [← cell_is h1.2 h2.2]
    exact k, fun z => absurd hs z, fun _ z => absurd hl z⟩
end
end Lg

namespace Lg
open PySem PySem.Spec PyProof.Rows L2
/-! ### the greedy way is the shortest -/
theorem cell_free {g : Grid} {n s l : Nat} (hg : ∀ row ∈ g, row.length = n) (hs : s < g.length) (hl : l < n) (h : cellOf g s l = none) : (g[s]'hs)[l]? = some none := by
  have hlen := hg _ (List.getElem_mem hs)
  have e := List.getElem?_eq_getElem (l := g[s]) (i := l) (by omega)
  rw [e]
  have := cell_is (List.getElem?_eq_getElem hs) e
  rw [h] at this
  exact congrArg some this.symm
theorem best_most {g : Grid} {s e : Nat} {row : List (Option Nat)} (m : row ∈ g) : min (reach row s) e ≤ (bestSeat g s e).2 := (bestFrom_spec s e g 0 0 s).1 row m
theorem found_short {g : Grid} {n e k : Nat} (hg : ∀ row ∈ g, row.length = n) (he : e ≤ n) : ∀ (ps : List P3) (s s' : Nat), s ≤ s' → Way k s e ps → k ≤ g.length → (∀ q ∈ ps, ∀ l, q.2.1 ≤ l → l < q.2.2 → cellOf g q.1 l = none) → (found g s' e).length ≤ ps.length
  | [], s, s', hs, w, _, _ => by
    have w : s = e := w
    rw [found_stop (by omega)]
    exact Nat.le_refl _
  | q :: r, s, s', hs, w, hk, hf => by
    obtain ⟨w1, w2, w3, _, w5⟩ := w
    by_cases h1 : s' < e
    · by_cases h2 : (bestSeat g s' e).2 = s'
      · rw [found_none h2]
        exact Nat.zero_le _
      · rw [found_on h1 h2, List.length_cons, List.length_cons]
        refine Nat.succ_le_succ (found_short hg he r q.2.2 _ ?_ w5 hk fun p m => hf p (List.mem_cons_of_mem _ m))
        have hm := w5.le
        by_cases h3 : s' ≤ q.2.2
        · have hq : q.1 < g.length := by omega
          have h4 := reach_far (row := g[q.1]) (q.2.2 - s') s' q.2.2 (Nat.le_refl _) h3 fun l l1 l2 => cell_free hg hq (by omega) (hf q List.mem_cons_self l (by omega) l2)
          have h5 := best_most (s := s') (e := e) (List.getElem_mem hq)
          omega
        · have := best_ge g s' e
          omega
    · rw [found_stop h1]
      exact Nat.zero_le _
theorem cells_off {g : Grid} {ps : List P3} {n : Nat} (hg : ∀ row ∈ g, row.length = n) (hv : ∀ q ∈ ps, q.1 < g.length ∧ q.2.2 ≤ n) {s l : Nat} (h : covers ps s l) : cellOf (markAll g ps none) s l = none := by
  rw [markAll_cell ps g hg hv, if_pos h]
theorem newP_short {T : Tr} (w : T.Wf) {b e : Nat} {ps : List P3} (p : Way T.rows.length b e ps) (hb : b < e) (he : e ≤ T.stops - 1) : (newP T ps).length ≤ ps.length := by
  rw [(newP_way w p hb he).1]
  refine found_short (k := T.rows.length) (markAll_row none ps _ w.legs) he ps b b (Nat.le_refl _) p (by rw [markAll_len]; exact Nat.le_refl _) fun q m l l1 l2 => ?_
  exact cells_off w.legs (fun q m => ⟨(p.mem q m).1, by have := (p.mem q m).2.2.2; omega⟩) ⟨q, m, rfl, l1, l2⟩
theorem newP_again {T : Tr} (w : T.Wf) {t b e : Nat} {ps : List P3} (p : Way T.rows.length b e ps) (hb : b < e) (he : e ≤ T.stops - 1) : newP (T.reseat t ps) (newP T ps) = newP T ps := by
  obtain ⟨e1, wn, fr⟩ := newP_way w p hb he
  have vn := wn.valid he
  have hr := markAll_row none ps _ w.legs
  have hl0 : (markAll T.rows ps none).length = T.rows.length := markAll_len _ _ _
  have hv : ∀ q ∈ newP T ps, q.1 < (markAll T.rows ps none).length ∧ q.2.2 ≤ T.stops - 1 := fun q m => ⟨by rw [hl0]; exact (vn q m).1, (vn q m).2.2⟩
  have hl1 : (T.reseat t ps).rows.length = T.rows.length := by
    show (markAll (markAll _ _ _) _ _).length = _
    rw [markAll_len, markAll_len]
  have hrT : ∀ row ∈ (T.reseat t ps).rows, row.length = T.stops - 1 := markAll_row _ _ _ hr
  have eg : markAll (T.reseat t ps).rows (newP T ps) none = markAll T.rows ps none := by
    refine grid_ext (n := T.stops - 1) (by rw [markAll_len, hl1, hl0]) (markAll_row _ _ _ hrT) hr fun s l hs hl => ?_
    rw [markAll_cell _ _ hrT (fun q m => by rw [hl1]; exact ⟨(vn q m).1, (vn q m).2.2⟩)]
    by_cases c : covers (newP T ps) s l
    · rw [if_pos c]
      obtain ⟨q, m, rfl, c1, c2⟩ := c
      exact (fr q m l c1 c2).symm
    · rw [if_neg c]
      show cellOf (markAll (markAll T.rows ps none) (newP T ps) (some t)) s l = _
      rw [markAll_cell _ _ hr hv, if_neg c]
  have h1 : newP (T.reseat t ps) (newP T ps) = found (markAll (T.reseat t ps).rows (newP T ps) none) (hdP (newP T ps)).2.1 (ltP (newP T ps)).2.2 := rfl
  rw [h1, eg, (wn.hd hb).1, (wn.hd hb).2, ← e1]
/-! ### k10 -/
def spTurn10 (K : PySem.W.Frag) : Sp := fun vs H Q _ => ∃ (H0 : Hp) (S : Addr → Prop) (p so ts : Addr) (T : Tr) (t : Int), vs = [.ref p, .ref so, .int t, .ref ts] ∧ Play K H0 H p T S ∧ T.coming < 80000 ∧ H so = some (.lst ((keys T).map V.int)) ∧ ¬ S so ∧ H ts = some (.tup [.int T.rows.length, .int T.stops]) ∧
  ∀ H' S' T', Play K H0 H' p T' S' → T'.coming = T.coming → T'.stops = T.stops → T'.rows.length = T.rows.length → keys T' = keys T → (∀ c o, ¬ S c → H c = some o → H' c = some o ∧ ¬ S' c) → Q (.bl true) H'
theorem run_reseat_no {T : Tr} {t b : Int} (h : getS T.sold t = none) : T.run ⟨.reseat, t, b⟩ = ⟨"ticket", .non, T⟩ := by
  show runReseat T t = _
  unfold runReseat
  rw [h]
theorem run_reseat {T : Tr} {n : Nat} {b : Int} {ps : List P3} (h : getS T.sold (n : Int) = some ps) : T.run ⟨.reseat, (n : Int), b⟩ = ⟨"", .parts (newP T ps), T.reseat n ps⟩ := by
  show runReseat T (n : Int) = _
  unfold runReseat
  rw [h]
  rfl
/-- a deed told: what stands beside stays -/
theorem c_word {K : PySem.W.Frag} {H0 H : Hp} {p d : Addr} {T : Tr} {S : Addr → Prop} {x : Deed} {Q : VK} {E : XK} (P : Play K H0 H p T S) (few : T.coming < 1000000) (hd : DeedAt H d x)
    (k : ∀ H' S' t v, Play K H0 H' p (T.run x).tr S' → Mv H H' S S' → (∀ a o, ¬ S a → H a = some o → ¬ S' a) → H' t = some (.tup [.str (T.run x).word, v]) → ResV H H' S S' (T.run x).res v → Q (.ref t) H') : spWord K [.ref p, .ref d] H Q E := by
  refine ⟨S, p, T, d, x, rfl, P.tr, P.good, few, hd, fun H' S' t v m A w r => ?_⟩
  obtain ⟨S2, P2, h2⟩ := P.run m A (P.good.run x).1
  refine k H' S2 t v P2 ⟨m.keep, m.tups, fun a s => m.new a (h2 a s)⟩ (fun a o n ho s => ?_) w ?_
  · rcases m.new a (h2 a s) with z | z
    · exact n z
    · rw [ho] at z
      cases z
  · revert r
    cases (T.run x).res with
    | non => exact id
    | num n => exact id
    | parts ps =>
      rintro ⟨l, a, b, c, d⟩
      exact ⟨l, a, b, fun z => c (h2 _ z), d⟩
/-! ### k08 -/
theorem best_full {g : Grid} {n s e : Nat} (hg : ∀ row ∈ g, row.length = n) (hs : s < e) (he : e ≤ n) (h : (bestSeat g s e).2 = s) : fullLeg g s = true := by
  cases hf : fullLeg g s with
  | true => rfl
  | false =>
    obtain ⟨row, m, hr⟩ := leads_on hg hs he hf
    have := best_most (s := s) (e := e) m
    omega
theorem full_row {g : Grid} {row : List (Option Nat)} {l : Nat} (m : row ∈ g) (h : row[l]? = some none) : fullLeg g l = false := by
  unfold fullLeg
  rw [List.all_eq_false]
  refine ⟨row, m, ?_⟩
  rw [held_at h]
  exact Bool.false_ne_true
theorem reach_best {g : Grid} {row : List (Option Nat)} {s F e : Nat} (m : row ∈ g) (h1 : s ≤ F) : min (reach row s) e ≤ max F (bestSeat g F e).2 := by
  by_cases h : reach row s ≤ F
  · omega
  · have h2 : reach row s ≤ reach row F := reach_far _ F (reach row s) (Nat.le_refl _) (by omega) fun k k1 k2 => reach_free _ s k (Nat.le_refl _) (by omega) k2
    have := best_most (s := F) (e := e) m
    omega
theorem free_best {g : Grid} {F e l : Nat} (h1 : F ≤ l) (h2 : l < (bestSeat g F e).2) : fullLeg g l = false := by
  rcases best_prop g F e with h | ⟨i, row, hr, h, h3⟩
  · rw [h] at h2
    dsimp only at h2
    omega
  · rw [h] at h2
    dsimp only at h2
    exact full_row (List.mem_of_getElem? hr) (reach_free _ F l (Nat.le_refl _) h1 (by omega))
theorem nodup_few {F : Nat} : ∀ (n : Nat) (zs : List Int), zs.Nodup → (∀ x ∈ zs, (F : Int) < x ∧ x ≤ (F + n : Nat)) → zs.length ≤ n
  | 0, zs, _, h => by
    cases zs with
    | nil => exact Nat.le_refl _
    | cons a r =>
      have := h a List.mem_cons_self
      omega
  | n + 1, zs, nd, h => by
    by_cases m : ((F + (n + 1) : Nat) : Int) ∈ zs
    · have h1 := nodup_few (F := F) n (zs.erase ((F + (n + 1) : Nat) : Int)) (nd.erase _) fun x mx => by
        have := (List.Nodup.mem_erase_iff nd).mp mx
        have := h x this.2
        omega
      rw [List.length_erase_of_mem m] at h1
      omega
    · exact Nat.le_succ_of_le (nodup_few (F := F) n zs nd fun x mx => by
        have h1 := h x mx
        have h2 : x ≠ ((F + (n + 1) : Nat) : Int) := fun z => m (z ▸ mx)
        omega)
def dueV (g : Grid) (b e : Nat) : V := if firstFull g b e = none then .int ((found g b e).length : Int) else .non
def spFewest (K : PySem.W.Frag) : Sp := fun vs H Q _ => ∃ (r : Addr) (as : List Addr) (g : Grid) (n b e : Nat), vs = [.ref r, .int b, .int e] ∧ GridAt H r as g ∧ (∀ row ∈ g, row.length = n) ∧ g.length ≤ 1000 ∧ b < e ∧ e ≤ n ∧ n ≤ 1000 ∧ ∀ H', Ex H H' → Q (dueV g b e) H'
def spRowOf8 (K : PySem.W.Frag) : Sp := fun vs H Q _ => ∃ (S : Addr → Prop) (p : Addr) (T : Tr) (t : Addr) (b e : Nat), vs = [.ref p, .ref t] ∧ TrainAt K H S p T ∧ H t = some (.tup [.int (b : Int), .int (e : Int)]) ∧ b < e ∧ e < T.stops ∧
  (firstFull T.rows b e = none → ∀ H', Ex H H' → Q (.int (found T.rows b e).length) H') ∧ (firstFull T.rows b e ≠ none → ∀ H', Ex H H' → Q (.str "full") H')
end Lg

namespace Lg
open PySem PySem.Spec PyProof.Rows L2
/-! ### sorted: tuples of a pair of ints and an int -/
abbrev I3 := Int × Int × Int
def lex3 (p q : I3) : Bool := decide (p.1 < q.1 ∨ (p.1 = q.1 ∧ (p.2.1 < q.2.1 ∨ (p.2.1 = q.2.1 ∧ p.2.2 < q.2.2))))
theorem lex3_swo {α : Type} (k : α → I3) : SrtO.Swo fun v u => lex3 (k v) (k u) := by
  refine ⟨fun x y h => ?_, fun x y z h1 h2 => ?_⟩
  · have a := of_decide_eq_true h
    exact decide_eq_false (by omega)
  · have a := of_decide_eq_false h1
    have b := of_decide_eq_false h2
    exact decide_eq_false (by omega)
def IsNest (h : Heap) (v : Value) (k : I3) : Prop := ∃ a o b t n ob tx ty m, v = .ref a ∧ h.get? a = some o ∧ o.cls = .type "tuple" ∧ o.data = .seq #[.ref b, .int k.2.2 t] n ∧ h.get? b = some ob ∧ ob.cls = .type "tuple" ∧ ob.data = .seq #[.int k.1 tx, .int k.2.1 ty] m
theorem IsNest.keeps {h h' : Heap} {v : Value} {k : I3} (p : IsNest h v k) (kk : ∀ b o, h.get? b = some o → o.cls = .type "tuple" → h'.get? b = some o) : IsNest h' v k := by
  obtain ⟨a, o, b, t, n, ob, tx, ty, m, h1, h2, h3, h4, h5, h6, h7⟩ := p
  exact ⟨a, o, b, t, n, ob, tx, ty, m, h1, kk _ _ h2 h3, h3, h4, kk _ _ h5 h6, h6, h7⟩
section
variable {prog : Program} {w : World} {A : Around} {E : Value → Shared → Prop} {s : Shared}
theorem nest_cmp {vs : List Value} {k : Value → I3} (hu : A.units < cLine) (hp : ∀ v ∈ vs, IsNest s.heap v (k v)) : SrtO.Cmp prog w A s (tuples' false) (fun p => p.1 ∈ vs) (SrtO.lt2 fun v u => lex3 (k v) (k u)) := by
  intro p q hm hm'
  have h1 := hp _ hm
  have h2 := hp _ hm'
  show wpAny (model prog w) A (keyLt' (tuples' false) p.1 q.1) (fun r s' => s' = s ∧ r = lex3 (k p.1) (k q.1)) (fun _ _ => False) s
  generalize k p.1 = k1 at h1 ⊢
  generalize k q.1 = k2 at h2 ⊢
  obtain ⟨x, y, z⟩ := k1
  obtain ⟨x', y', z'⟩ := k2
  obtain ⟨a, o, b, t, n, ob, tx, ty, m, e, ho, hc, hd, hob, hbc, hbd⟩ := h1
  obtain ⟨a', o', b', t', n', ob', tx', ty', m', e', ho', hc', hd', hob', hbc', hbd'⟩ := h2
  rw [e, e']
  have tb : s.heap.IsTuple b #[.int x tx, .int y ty] := ⟨ob, hob, hbc, m, hbd⟩
  have tb' : s.heap.IsTuple b' #[.int x' tx', .int y' ty'] := ⟨ob', hob', hbc', m', hbd'⟩
  have heq : SeqAt.EqAt A s (.ref b) (.ref b') (decide (x = x') && decide (y = y')) := by
    by_cases hb : b = b'
    · subst hb
      rw [hob] at hob'
      cases hob'
      rw [hbd] at hbd'
      have e1 : #[Value.int x tx, Value.int y ty] = #[Value.int x' tx', Value.int y' ty'] := by
        injection hbd'
      have e2 : x = x' ∧ y = y' := by
        have := congrArg Array.toList e1
        simp at this
        exact ⟨this.1.1, this.2.1⟩
      rw [decide_eq_true e2.1, decide_eq_true e2.2]
      exact SeqAt.EqAt.same _
    · refine SeqAt.EqAt.of_refs hb ?_
      have := SeqAt.RcAt.tuples (e := fun j => if j = 0 then decide (x = x') else decide (y = y')) tb tb' hu (fun j h1 h2 => ?_)
      · have e3 : ((List.range (min (#[Value.int x tx, Value.int y ty] : Array Value).size (#[Value.int x' tx', Value.int y' ty'] : Array Value).size)).all (fun j => if j = 0 then decide (x = x') else decide (y = y')) && (#[Value.int x tx, Value.int y ty] : Array Value).size == (#[Value.int x' tx', Value.int y' ty'] : Array Value).size) = (decide (x = x') && decide (y = y')) := by
          show ((List.range 2).all _ && _) = _
          cases decide (x = x') <;> cases decide (y = y') <;> rfl
        rw [e3] at this
        exact this
      · match j, h1, h2 with
        | 0, _, _ =>
          have := SeqAt.EqAt.int_int x tx x' tx' (A := A.in1) (s := s)
          rw [show (x == x') = decide (x = x') from rfl] at this
          exact this
        | 1, _, _ =>
          have := SeqAt.EqAt.int_int y ty y' ty' (A := A.in1) (s := s)
          rw [show (y == y') = decide (y = y') from rfl] at this
          exact this
        | j + 2, h1, _ => exact absurd h1 (by show ¬ j + 2 < 2; omega)
  refine PySem.W.kat_lt ho hd ho' hd' ?_
  show PySem.W.KatLex prog w A false (decide (2 < 2)) _ [(.ref b, .ref b'), (.int z t, .int z' t')] 0 s
  refine PySem.W.kat_cons (heq prog w _ _ ?_)
  refine PySem.W.kat_go (fun e1 => ?_) (fun e1 => ?_)
  · have ex : x = x' ∧ y = y' := by
      have := Bool.and_eq_true_iff.mp e1
      exact ⟨of_decide_eq_true this.1, of_decide_eq_true this.2⟩
    refine PySem.W.kat_yes (PySem.W.kat_cons (SeqAt.EqAt.int_int z t z' t' prog w _ _ ?_))
    refine PySem.W.kat_go (fun e2 => ?_) (fun e2 => ?_)
    · have ez : z = z' := by simpa using e2
      refine PySem.W.kat_yes (PySem.W.kat_nil ⟨rfl, ?_⟩)
      refine (decide_eq_false ?_).symm
      dsimp only
      omega
    · refine PySem.W.kat_no (PySem.W.kat_one _ _ (PyProof.Rows.lt_int ?_))
      have e3 : decide (z < z') = lex3 (x, y, z) (x', y', z') := by
        refine decide_eq_decide.mpr ?_
        dsimp only
        omega
      exact (show s = s ∧ decide (z < z') = lex3 (x, y, z) (x', y', z') from ⟨rfl, e3⟩)
  · have ex : ¬ (x = x' ∧ y = y') := fun z => by
      rw [decide_eq_true z.1, decide_eq_true z.2] at e1
      cases e1
    refine PySem.W.kat_no (PySem.W.kat_one _ _ (HT.lt_tupInts (ns := [x, y]) (ms := [x', y']) tb tb' ?_ ?_ hu ?_))
    · exact L2.intsAre_of (show Vals ([x, y].map V.int) [.int x tx, .int y ty] from .cons ⟨tx, rfl⟩ (.cons ⟨ty, rfl⟩ .nil))
    · exact L2.intsAre_of (show Vals ([x', y'].map V.int) [.int x' tx', .int y' ty'] from .cons ⟨tx', rfl⟩ (.cons ⟨ty', rfl⟩ .nil))
    · refine (show s = s ∧ HT.lexLt [x, y] [x', y'] = lex3 (x, y, z) (x', y', z') from ⟨rfl, ?_⟩)
      rw [HT.lexLt_cons, HT.lexLt_cons, HT.lexLt_nil_nil]
      unfold lex3
      dsimp only
      by_cases h1 : x = x'
      · rw [if_pos h1]
        by_cases h2 : y = y'
        · exact absurd ⟨h1, h2⟩ ex
        · rw [if_neg h2]
          exact decide_eq_decide.mpr (by omega)
      · rw [if_neg h1]
        exact decide_eq_decide.mpr (by omega)
theorem nest_firsts {h : Heap} : ∀ {vs : List Value}, (∀ v ∈ vs, ∃ k, IsNest h v k) → ∃ fs : List Value, PySem.W.KatTups h vs fs ∧ fs.length = vs.length ∧ ∀ f ∈ fs, ∃ b ob, f = Value.ref b ∧ h.get? b = some ob ∧ ob.cls = .type "tuple"
  | [], _ => ⟨[], PySem.W.KatTups.nil, rfl, fun f hf => absurd hf (by simp)⟩
  | v :: vs, h => by
    obtain ⟨fs, h1, h2, h3⟩ := nest_firsts fun u hu => h u (List.mem_cons_of_mem _ hu)
    obtain ⟨k, a, o, b, t, n, ob, tx, ty, m, e, ho, hc, hd, hob, hbc, hbd⟩ := h v List.mem_cons_self
    refine ⟨.ref b :: fs, by rw [e]; exact PySem.W.KatTups.cons ho hc hd rfl h1, by rw [List.length_cons, List.length_cons, h2], fun f hf => ?_⟩
    rcases List.mem_cons.mp hf with rfl | hf
    · exact ⟨b, ob, rfl, hob, hbc⟩
    · exact h3 f hf
theorem nest_sortable {a : Addr} {vs : List Value} {k : Value → I3} (hu : A.units < cLine) (h0 : 0 < vs.length) (hp : ∀ v ∈ vs, IsNest s.heap v (k v)) (ha : ∀ o, s.heap.get? a = some o → o.cls ≠ .type "tuple") : SrtO.SortableO prog w A s a vs fun v u => lex3 (k v) (k u) := by
  intro h' keep
  have hp' : ∀ v ∈ vs, IsNest h' v (k v) := fun v hm => (hp v hm).keeps fun b o e c => keep b o (fun z => by subst z; exact ha o e c) e
  obtain ⟨fs, h1, h2, h3⟩ := nest_firsts fun v hm => ⟨_, hp' v hm⟩
  refine ⟨tuples' false, fun Q E hq => ?_, nest_cmp (s := { s with heap := h' }) hu hp'⟩
  refine PySem.W.kat_kind (T := .type "tuple") h1 (by omega) (fun f hm => ?_) (by rfl) ?_
  · obtain ⟨b, ob, rfl, hob, hbc⟩ := h3 f hm
    rw [← hbc]
    exact (PySem.W.Looks.ld hob).andThen .now
  · have e : (Value.type "tuple" != Value.type "tuple") = false := by first | decide +kernel | rfl | decide
    rw [e]
    exact hq
end
/-- sorted(xs), xs a list of tuples of a pair of ints and an int -/
def rSortedN (K : PySem.W.Frag) : List V → Hp → VK → Prop := fun vs H Q => ∃ (a : Addr) (xs : List V) (k : V → I3), vs = [V.ref a] ∧ SqL K H a xs ∧ (∀ x ∈ xs, ∃ t u, x = V.ref t ∧ H t = some (.tup [.ref u, .int (k x).2.2]) ∧ H u = some (.tup [.int (k x).1, .int (k x).2.1])) ∧
  ∀ ys p, SrtO.Srtd (fun x y => lex3 (k x) (k y)) ys → ys.Perm xs → H p = none → Q (.ref p) (upd H p (.lst ys))
theorem cr_sortedN {X : Cx} (K : PySem.W.Frag) (hu : X.A.units + 64 < cLine) (h : X.K = K := by rfl) : CallR X (.builtin "sorted") (rSortedN K) := by
  subst h
  intro pins s σ H vs us Q I r h
  obtain ⟨a, xs, k, rfl, hs, hx, q⟩ := h
  obtain ⟨its, rv, hl, hz⟩ := I.list hs
  obtain ⟨u, rfl, ru⟩ := vals1 r
  obtain rfl : u = Value.ref a := ru
  obtain ⟨e1, e2⟩ := refs_back rv fun x m => by
    obtain ⟨t, u, e, _⟩ := hx x m
    exact ⟨t, e⟩
  have nest : ∀ v ∈ its, IsNest s.heap v (k (backV v)) := fun v hv => by
    obtain ⟨t, rfl⟩ := e2 v hv
    have hm : V.ref t ∈ xs := by rw [e1]; exact List.mem_map.mpr ⟨_, hv, rfl⟩
    obtain ⟨t', u, e, ht, hu'⟩ := hx _ hm
    cases e
    obtain ⟨_, its2, r2, o, ho, hc, n, hd⟩ := I.hok _ _ ht
    obtain ⟨_, its3, r3, o3, ho3, hc3, n3, hd3⟩ := I.hok _ _ hu'
    obtain ⟨u1, u2, rfl, ri, rj⟩ := vals2 r2
    obtain ⟨u3, u4, rfl, rk, rl⟩ := vals2 r3
    cases ri
    obtain ⟨t2, rfl⟩ := rj
    obtain ⟨t3, rfl⟩ := rk
    obtain ⟨t4, rfl⟩ := rl
    exact ⟨t, o, u, t2, n, o3, t3, t4, n3, rfl, ho, hc, hd, ho3, hc3, hd3⟩
  refine SrtO.sorted_ord (lex3_swo fun u => k (backV u)) hl.isList (by rw [← rv.length]; exact hz) (fun h2 h₁ a' ha kk => ?_) fun out h1 h2 => ?_
  · refine nest_sortable (s := { s with heap := h₁ }) (by rw [Around.in1_units, Around.in1_units]; omega) (by omega) (fun v hm => (nest v hm).keeps fun b o e _ => (kk b o e).2) fun o e => ?_
    have e' : some o = some (seqObj "list" its.toArray 0) := e.symm.trans ha
    cases e'
    intro c
    exact absurd (Value.type.inj c) (by decide)
  · have h3 : ∀ u ∈ out, ∃ a, u = Value.ref a := fun u hu => e2 u (h2.perm.mem_iff.mp hu)
    obtain ⟨n, hn⟩ := PyProof.Rows.sortedAll_at s.heap its out.toArray
    have hb : (out.map backV).Perm xs := by
      rw [e1]
      exact h2.perm.map backV
    refine ⟨.ref _, upd H (s.heap.objs.size + 1) (.lst (out.map backV)), I.laid (t' := s.toks) (fun _ _ => PyProof.Rows.sortedAll_old) (Nat.le_succ _) ⟨?_, out, n, vals_back h3, hn⟩, rfl, q _ _ (SrtO.srtd_map h1) hb (I.hok.fresh (Nat.le_succ _))⟩
    rw [hb.length_eq]
    exact hz
/-! ### a packing, plainly -/
theorem nodup_sub {α : Type} [DecidableEq α] : ∀ {l m : List α}, l.Nodup → (∀ x ∈ l, x ∈ m) → l.length ≤ m.length
  | [], _, _, _ => Nat.zero_le _
  | a :: r, m, nd, h => by
    have h1 := List.nodup_cons.mp nd
    have ma := h a List.mem_cons_self
    have := nodup_sub (l := r) (m := m.erase a) h1.2 fun x mx => (List.mem_erase_of_ne (fun e : x = a => h1.1 (by rw [← e]; exact mx))).mpr (h x (List.mem_cons_of_mem _ mx))
    rw [List.length_erase_of_mem ma] at this
    have := List.length_pos_of_mem ma
    rw [List.length_cons]
    omega
theorem load_cells (g : Grid) (leg : Nat) : load g leg = ((List.range g.length).filter fun s => (cellOf g s leg).isSome).length := by
  unfold load
  refine (kept_filter g (fun row => held row leg) (fun s => (cellOf g s leg).isSome) fun i row hi => ?_).symm
  unfold cellOf held
  rw [hi]
  rfl
theorem Good.load_ge {T : Tr} (G : Good T) {leg : Nat} (hl : leg < T.stops - 1) : ∀ (L : List Nat), L.Nodup → (∀ t ∈ L, ∃ x ∈ T.sold, x.1 = t ∧ ∃ s, covers x.2 s leg) → L.length ≤ load T.rows leg := by
  intro L nd h
  have key : ∀ L : List Nat, L.Nodup → (∀ t ∈ L, ∃ x ∈ T.sold, x.1 = t ∧ ∃ s, covers x.2 s leg) → ∃ R : List Nat, R.length = L.length ∧ R.Nodup ∧ ∀ r ∈ R, r < T.rows.length ∧ ∃ t ∈ L, cellOf T.rows r leg = some t := by
    intro L
    induction L with
    | nil => exact fun _ _ => ⟨[], rfl, List.nodup_nil, fun r m => by cases m⟩
    | cons t L ih =>
      intro nd h
      have nd' := List.nodup_cons.mp nd
      obtain ⟨R, h1, h2, h3⟩ := ih nd'.2 fun t m => h t (List.mem_cons_of_mem _ m)
      obtain ⟨x, mx, ex, s, c⟩ := h t List.mem_cons_self
      obtain ⟨b, e, hb, he, w⟩ := G.way x mx
      have hs := (w.in c).1
      have hc := (G.cell s leg t hs hl).mpr ⟨x, mx, ex, c⟩
      refine ⟨s :: R, by rw [List.length_cons, List.length_cons, h1], List.nodup_cons.mpr ⟨fun m => ?_, h2⟩, fun r m => ?_⟩
      · obtain ⟨_, t', m', e'⟩ := h3 s m
        rw [hc] at e'
        exact nd'.1 (Option.some.inj e' ▸ m')
      · rcases List.mem_cons.mp m with rfl | m
        · exact ⟨hs, t, List.mem_cons_self, hc⟩
        · obtain ⟨h4, t', m', e'⟩ := h3 r m
          exact ⟨h4, t', List.mem_cons_of_mem _ m', e'⟩
  obtain ⟨R, h1, h2, h3⟩ := key L nd h
  rw [← h1, load_cells]
  refine nodup_sub h2 fun r m => ?_
  obtain ⟨h4, t, _, e⟩ := h3 r m
  rw [List.mem_filter]
  exact ⟨List.mem_range.mpr h4, by rw [e]; rfl⟩
/-- begin, end, number -/
abbrev J3 := Nat × Nat × Nat
def jOf (x : Nat × List P3) : J3 := ((hdP x.2).2.1, (ltP x.2).2.2, x.1)
def setF (f : Nat → Nat) (t s : Nat) : Nat → Nat := fun u => if u = t then s else f u
structure PackInv (done : List J3) (ends : List Nat) (f : Nat → Nat) (most : Nat) : Prop where
  on : ∀ j ∈ done, ∃ e, ends[f j.2.2]? = some e ∧ j.2.1 ≤ e
  by_ : ∀ (s e : Nat), ends[s]? = some e → ∃ j ∈ done, f j.2.2 = s ∧ j.2.1 = e
  dj : ∀ j ∈ done, ∀ j' ∈ done, j.2.2 ≠ j'.2.2 → f j.2.2 = f j'.2.2 → j.2.1 ≤ j'.1 ∨ j'.2.1 ≤ j.1
  few : ∀ j ∈ done, f j.2.2 < most
theorem PackInv.nil (f : Nat → Nat) (most : Nat) : PackInv [] [] f most := ⟨fun j m => (by cases m), fun s e h => by simp at h, fun j m => (by cases m), fun j m => by cases m⟩
/-- seats whose journeys all go on over b: as many tickets over this leg -/
theorem PackInv.many {done : List J3} {ends : List Nat} {f : Nat → Nat} {most b : Nat} (P : PackInv done ends f most) (hb : ∀ j ∈ done, j.1 ≤ b) (hf : ∀ (s e : Nat), ends[s]? = some e → b < e) : ∀ n, n ≤ ends.length → ∃ L : List J3, L.length = n ∧ (L.map (·.2.2)).Nodup ∧ ∀ j ∈ L, j ∈ done ∧ j.1 ≤ b ∧ b < j.2.1 ∧ f j.2.2 < n := by
  intro n
  induction n with
  | zero => exact fun _ => ⟨[], rfl, List.nodup_nil, fun j m => by cases m⟩
  | succ n ih =>
    intro hn
    obtain ⟨L, h1, h2, h3⟩ := ih (by omega)
    have he := List.getElem?_eq_getElem (l := ends) (i := n) (by omega)
    obtain ⟨j, mj, ej, ee⟩ := P.by_ n _ he
    have := hf n _ he
    refine ⟨j :: L, by rw [List.length_cons, h1], ?_, fun k m => ?_⟩
    · rw [List.map_cons]
      refine List.nodup_cons.mpr ⟨fun m => ?_, h2⟩
      obtain ⟨k, mk, ek⟩ := List.mem_map.mp m
      have := (h3 k mk).2.2.2
      rw [ek] at this
      omega
    · rcases List.mem_cons.mp m with rfl | m
      · exact ⟨mj, hb _ mj, by omega, by omega⟩
      · have := h3 k m
        exact ⟨this.1, this.2.1, this.2.2.1, by omega⟩
theorem PackInv.step {done : List J3} {ends ends' : List Nat} {f : Nat → Nat} {most b e t s : Nat} (P : PackInv done ends f most) (hb : ∀ j ∈ done, j.1 ≤ b) (hbe : b < e) (ht : ∀ j ∈ done, j.2.2 ≠ t)
    (h : (∃ e0, ends[s]? = some e0 ∧ e0 ≤ b ∧ ends' = ends.set s e) ∨ (s = ends.length ∧ ends' = ends ++ [e] ∧ s < most)) : PackInv (done ++ [(b, e, t)]) ends' (setF f t s) most := by
  have fo : ∀ j ∈ done, setF f t s j.2.2 = f j.2.2 := fun j m => if_neg (ht j m)
  have ft : setF f t s t = s := if_pos rfl
  have en : ∀ u, ends'[u]? = if u = s then some e else ends[u]? := fun u => by
    rcases h with ⟨e0, h1, h2, rfl⟩ | ⟨rfl, rfl, _⟩
    · rw [List.getElem?_set]
      by_cases hu : s = u
      · rw [if_pos hu, if_pos hu.symm, if_pos (lt_of_get h1)]
      · rw [if_neg hu, if_neg (fun z => hu z.symm)]
    · by_cases hu : u = ends.length
      · rw [if_pos hu, hu, List.getElem?_append_right (Nat.le_refl _)]
        simp
      · rw [if_neg hu]
        by_cases hl : u < ends.length
        · rw [List.getElem?_append_left hl]
        · rw [List.getElem?_eq_none (by rw [List.length_append, List.length_singleton]; omega), List.getElem?_eq_none (by omega)]
  have old : ∀ j ∈ done, f j.2.2 = s → j.2.1 ≤ b := fun j m hs => by
    obtain ⟨e1, h1, h2⟩ := P.on j m
    rw [hs] at h1
    rcases h with ⟨e0, h3, h4, _⟩ | ⟨rfl, _, _⟩
    · rw [h3] at h1
      cases h1
      omega
    · have := lt_of_get h1
      omega
  refine ⟨fun j m => ?_, fun u e1 h1 => ?_, fun j m j' m' hne hf => ?_, fun j m => ?_⟩
  · rcases List.mem_append.mp m with m | m
    · rw [fo j m, en]
      by_cases hu : f j.2.2 = s
      · rw [if_pos hu]
        exact ⟨e, rfl, by have := old j m hu; omega⟩
      · rw [if_neg hu]
        exact P.on j m
    · rw [List.mem_singleton.mp m, en]
      dsimp only
      rw [if_pos ft]
      exact ⟨e, rfl, Nat.le_refl _⟩
  · rw [en] at h1
    by_cases hu : u = s
    · rw [if_pos hu] at h1
      exact ⟨(b, e, t), List.mem_append_right _ (List.mem_singleton.mpr rfl), by dsimp only; rw [ft, hu], Option.some.inj h1⟩
    · rw [if_neg hu] at h1
      obtain ⟨j, m, h2, h3⟩ := P.by_ u e1 h1
      exact ⟨j, List.mem_append_left _ m, by rw [fo j m]; exact h2, h3⟩
  · rcases List.mem_append.mp m with m | m
    · rcases List.mem_append.mp m' with m' | m'
      · rw [fo j m, fo j' m'] at hf
        exact P.dj j m j' m' hne hf
      · rw [List.mem_singleton.mp m'] at hf ⊢
        dsimp only at hf ⊢
        rw [fo j m, ft] at hf
        exact .inl (old j m hf)
    · rw [List.mem_singleton.mp m] at hne hf ⊢
      dsimp only at hne hf ⊢
      rcases List.mem_append.mp m' with m' | m'
      · rw [fo j' m', ft] at hf
        exact .inr (old j' m' hf.symm)
      · rw [List.mem_singleton.mp m'] at hne
        exact absurd rfl hne
  · rcases List.mem_append.mp m with m | m
    · rw [fo j m]
      exact P.few j m
    · rw [List.mem_singleton.mp m]
      dsimp only
      rw [ft]
      rcases h with ⟨e0, h1, h2, _⟩ | ⟨_, _, h⟩
      · obtain ⟨j, m, h3, _⟩ := P.by_ s e0 h1
        rw [← h3]
        exact P.few j m
      · exact h
def PackOk (T : Tr) (f : Nat → Nat) : Prop := (∀ m, (∀ leg, leg < T.stops - 1 → load T.rows leg ≤ m) → ∀ x ∈ T.sold, f x.1 < m) ∧
  ∀ x ∈ T.sold, ∀ y ∈ T.sold, x.1 ≠ y.1 → f x.1 = f y.1 → (jOf x).2.1 ≤ (jOf y).1 ∨ (jOf y).2.1 ≤ (jOf x).1
/-- a new seat is wanted: there are so many over this leg -/
theorem PackInv.new_seat {T : Tr} (G : Good T) {done : List J3} {ends : List Nat} {f : Nat → Nat} {most b e t : Nat} (P : PackInv done ends f most) (hm : ∀ leg, leg < T.stops - 1 → load T.rows leg ≤ most) (hd : ∀ j ∈ done, ∃ x ∈ T.sold, j = jOf x) (hb : ∀ j ∈ done, j.1 ≤ b)
    (hf : ∀ (s e : Nat), ends[s]? = some e → b < e) (ht : ∀ j ∈ done, j.2.2 ≠ t) {x : Nat × List P3} (mx : x ∈ T.sold) (hx : (b, e, t) = jOf x) : ends.length < most := by
  have cov : ∀ y ∈ T.sold, (jOf y).1 ≤ b → b < (jOf y).2.1 → ∃ s, covers y.2 s b := fun y my h1 h2 => by
    obtain ⟨b1, e1, hb1, he1, w⟩ := G.way y my
    have := w.hd hb1
    exact w.all (by rw [← this.1]; exact h1) (by rw [← this.2]; exact h2)
  obtain ⟨b1, e1, hb1, he1, w⟩ := G.way x mx
  have hh := w.hd hb1
  have hxb : b = b1 := (congrArg (·.1) hx).trans hh.1
  have hxe : e = e1 := (congrArg (·.2.1) hx).trans hh.2
  have hxt : t = x.1 := congrArg (·.2.2) hx
  obtain ⟨L, h1, h2, h3⟩ := P.many hb hf ends.length (Nat.le_refl _)
  have := G.load_ge (leg := b) (by omega) (t :: L.map (·.2.2)) (List.nodup_cons.mpr ⟨fun m => ?_, h2⟩) fun u m => ?_
  · rw [List.length_cons, List.length_map, h1] at this
    have := hm b (by omega)
    omega
  · obtain ⟨j, mj, ej⟩ := List.mem_map.mp m
    exact ht j (h3 j mj).1 ej
  · rcases List.mem_cons.mp m with rfl | m
    · exact ⟨x, mx, hxt.symm, cov x mx (by rw [← hx]; exact Nat.le_refl _) (by rw [← hx]; dsimp only; omega)⟩
    · obtain ⟨j, mj, rfl⟩ := List.mem_map.mp m
      obtain ⟨k1, k2, k3, _⟩ := h3 j mj
      obtain ⟨y, my, rfl⟩ := hd j k1
      exact ⟨y, my, rfl, cov y my k2 k3⟩
theorem PackInv.ok {T : Tr} {done : List J3} {ends : List Nat} {f : Nat → Nat} (P : ∀ most, (∀ leg, leg < T.stops - 1 → load T.rows leg ≤ most) → PackInv done ends f most) (hd : ∀ x ∈ T.sold, jOf x ∈ done) : PackOk T f :=
  ⟨fun m hm x mx => (P m hm).few _ (hd x mx), fun x mx y my h1 h2 => by
    have hm : ∀ leg, leg < T.stops - 1 → load T.rows leg ≤ T.rows.length := fun leg _ => List.length_filter_le _ _
    exact (P _ hm).dj _ (hd x mx) _ (hd y my) h1 h2⟩
/-! ### dicts, step by step -/
section
variable {K : PySem.W.Frag} {σ : L2.St} {H H' : Hp} {Q : VK} {nx bk ct : L2.St → Hp → Prop} {rt : VK} {te ta tb : TE} {a l p q : Addr} {x y v w : V} {i : Int}
theorem s_dnew (h : ∀ p H2, H p = none → Ex H H2 → H2 p = some (.dK []) → Q (.ref p) H2) : tDNewK σ H Q := fun p hp => h p _ hp (Evl.Ex.new hp) upd_same
def DpR (nx : L2.St → Hp → Prop) (σ : L2.St) (v x y : V) (H3 : Hp) : Prop := ∃ a H4, x = .ref a ∧ DPut H3 a y v H4 ∧ nx σ H4
theorem s_dput {td ty tv : TE} (h : tv σ H fun v H1 => td σ H1 fun x H2 => ty σ H2 fun y H3 => DpR nx σ v x y H3) : sDPut td ty tv ⟨nx, rt, bk, ct⟩ σ H := h
def DgR (Q : VK) (x y : V) (H2 : Hp) : Prop := ∃ a v, x = .ref a ∧ DGet H2 a y (some v) ∧ Q v H2
theorem s_dget {td ty : TE} (h : td σ H fun x H1 => ty σ H1 fun y H2 => DgR Q x y H2) : tDGet td ty σ H Q := h
theorem v_dget {kvs : List (Key × V)} (h : H a = some (.dK kvs)) (e : valV kvs (Sum.inl i) = some v) (k : Q v H) : DgR Q (.ref a) (.int i) H := ⟨a, v, rfl, by rw [← e]; exact DGet.k (k := Sum.inl i) h, k⟩
/-- an own dict changed -/
structure ChD (H H' : Hp) (l : Addr) : Prop where
  was : ∃ xs, H l = some (.dK xs)
  keep : ∀ a o, a ≠ l → H a = some o → H' a = some o
theorem v_dput {kvs : List (Key × V)} (h : H a = some (.dK kvs)) (hz : kvs.length < sizeLine) (k : ∀ H2, ChD H H2 a → H2 a = some (.dK (putK kvs (Sum.inl i) v)) → nx σ H2) : DpR nx σ v (.ref a) (.int i) H :=
  ⟨a, _, rfl, DPut.k (k := Sum.inl i) h hz, k _ ⟨⟨_, h⟩, fun b o n e => by rw [upd_ne n]; exact e⟩ upd_same⟩
theorem putK_le (c : List (Key × V)) (k : Key) (x : V) : (putK c k x).length ≤ c.length + 1 := by
  unfold putK
  split
  · rw [List.length_map]
    omega
  · rw [List.length_append]
    exact Nat.le_refl _
theorem chd_tup {xs : List V} (c : ChD H H' l) (h : H a = some (.tup xs)) : H' a = some (.tup xs) := by
  obtain ⟨ys, e⟩ := c.was
  exact c.keep _ _ (ne_of h e (fun z => by cases z)) h
theorem chd_lst {xs : List V} (c : ChD H H' l) (h : H a = some (.lst xs)) : H' a = some (.lst xs) := by
  obtain ⟨ys, e⟩ := c.was
  exact c.keep _ _ (ne_of h e (fun z => by cases z)) h
theorem ch_dic {xs : List (Key × V)} (c : Ch H H' l) (h : H a = some (.dK xs)) : H' a = some (.dK xs) := by
  obtain ⟨ys, e⟩ := c.was
  exact c.keep _ _ (ne_of h e (fun z => by cases z)) h
theorem ChD.ex {H0 : Hp} (c : ChD H H' l) (e : Ex H0 H) (hn : H0 l = none) : Ex H0 H' := fun a o h => c.keep a o (fun z => by rw [z, hn] at h; cases h) (e a o h)
end
/-- a comprehension whose elements lean on tuples alone -/
theorem lc_tupR {J : It} {n : Nat} {G : Hp → Prop} {Y : Nat → Hp → V → Hp → Prop} (w : Walk J n G Y) {Xr : Nat → V → Prop} (hY : ∀ i H x H', Y i H x H' → H' = H ∧ Xr i x) {j : Nat} {tt : TT} {te : TE} {vs : List Nat} {σ : L2.St} {H1 : Hp} {Q : VK}
    (hG : ∀ H, Ex H1 H → G H) (hn : n ≤ 100000) (keep : Nat → Bool) (R : Hp → Nat → V → Prop) (mono : ∀ H H' i v, (∀ c xs, H c = some (.tup xs) → H' c = some (.tup xs)) → R H i v → R H' i v)
    (hw : ∀ x, wipe ((wipe σ vs).set j (some x)) vs = wipe σ vs)
    (ht : ∀ i x H, i < n → Xr i x → Ex H1 H → ∀ Q : Bool → Hp → Prop, (∀ H', Ex H H' → Q (keep i) H') → tt ((wipe σ vs).set j (some x)) H Q)
    (he : ∀ i x H, i < n → Xr i x → keep i = true → Ex H1 H → ∀ Q : VK, (∀ y H', Ex H H' → R H' i y → Q y H') → te ((wipe σ vs).set j (some x)) H Q)
    (q : ∀ D H' ys, H1 D = none → Ex H1 H' → H' D = some (.lst ys) → All2 (R H') (kept n keep) ys → Q (.ref D) H') : LcR (gName j) tt te vs σ Q J H1 := by
  intro D hD
  refine lc_it w (fun i H => Ex H1 H ∧ ∃ acc, H D = some (.lst acc) ∧ All2 (R H) (kept i keep) acc)
    ⟨Evl.Ex.new hD, [], upd_same, All2.nil⟩ (fun i H _ p => hG H p.1) ?_ ?_
  · rintro i x H H' hi ⟨ex, acc, hacc, hall⟩ y
    obtain ⟨rfl, xr⟩ := hY _ _ _ _ y
    refine ⟨hw x, ht i x H' hi xr ex _ fun H3 e3 => ?_⟩
    have hall3 : All2 (R H3) (kept i keep) acc := hall.mono fun k y r => mono _ _ _ _ (fun c xs z => e3 _ _ z) r
    have ha3 := e3 _ _ hacc
    refine iteB (fun hk => ?_) (fun hk => ?_)
    · refine he i x H3 hi xr hk (ex.trans e3) _ fun y H4 e4 r => ?_
      have ha4 := e4 _ _ ha3
      have hl : acc.length < sizeLine := by
        rw [← hall.len]
        exact Nat.lt_of_le_of_lt (kept_len i keep) (Nat.lt_of_lt_of_le hi (Nat.le_trans hn (by decide)))
      have kt : ∀ c xs, H4 c = some (.tup xs) → upd H4 D (.lst (acc ++ [y])) c = some (.tup xs) := fun c xs z => by
        rw [upd_ne (ne_of z ha4 (fun z => by cases z))]
        exact z
      refine ⟨acc, ha4, hl, Evl.Ex.mut ((ex.trans e3).trans e4) hD, _, upd_same, ?_⟩
      rw [kept_yes hk]
      exact All2.snoc (hall3.mono fun k y r => mono _ _ _ _ (fun c xs z => kt c xs (e4 _ _ z)) r) (mono _ _ _ _ kt r)
    · refine ⟨ex.trans e3, acc, ha3, ?_⟩
      rw [kept_no hk]
      exact hall3
  · rintro H ⟨ex, acc, hacc, hall⟩
    exact q D H acc hD ex hacc hall
theorem v_ixE {K : PySem.W.Frag} {H : Hp} {Q : VK} {p : Addr} {zs : List Int} {v : Nat} {z : Int} (h : H p = some (.lst (zs.map V.int))) (e : zs[v]? = some z) (k : Q (.int z) H) : rIxL K (.ref p) (.int (v : Int)) H Q :=
  ⟨p, _, v, .int z, rfl, rfl, SqL.of h, at_of rfl (map_get e), k⟩
theorem v_ixN {K : PySem.W.Frag} {H : Hp} {Q : VK} {p : Addr} {ms : List Nat} {v : Nat} (h : H p = some (.lst (ms.map fun n : Nat => V.int (n : Int)))) (hv : v < ms.length) (k : ∀ n, ms[v]? = some n → Q (.int (n : Int)) H) : rIxL K (.ref p) (.int (v : Int)) H Q :=
  ⟨p, _, v, .int (ms[v] : Int), rfl, rfl, SqL.of h, at_of rfl (by rw [List.getElem?_map, List.getElem?_eq_getElem hv]; rfl), k _ (List.getElem?_eq_getElem hv)⟩
section
variable {K : PySem.W.Frag} {σ : L2.St} {H : Hp} {Q : VK} {te : TE} {l p a : Addr}
theorem c_isL {xs : List V} (h : H l = some (.lst xs)) (k : Q (.bl true) H) : rIsi K [.ref l, .ty "list"] H Q := ⟨.ref l, .ty "list", _, _, true, rfl, .ty _, .base (.lst h), kit_ty (by decide +kernel), k⟩
theorem c_isT {xs : List V} (h : H l = some (.tup xs)) (k : Q (.bl true) H) : rIsi K [.ref l, .ty "tuple"] H Q := ⟨.ref l, .ty "tuple", _, _, true, rfl, .ty _, .base (.tup h), kit_ty (by decide +kernel), k⟩
/-- values over a range -/
theorem lc_vR {n j : Nat} {vs : List Nat} (hn : n ≤ 100000) (v : Nat → V) (hw : ∀ x, wipe ((wipe σ vs).set j (some x)) vs = wipe σ vs)
    (he : ∀ i H' (Q' : VK), i < n → Ex H H' → (∀ H2, Ex H' H2 → Q' (v i) H2) → te ((wipe σ vs).set j (some (.int (i : Int)))) H' Q')
    (k : ∀ D H2, H D = none → Ex H H2 → H2 D = some (.lst ((List.range n).map v)) → Q (.ref D) H2) : LcR (gName j) tYes te vs σ Q (Itr 0 n) H := by
  intro D hD
  refine lc_v walk_range y_range hD (fun _ _ => trivial) hn (fun _ => true) v hw lc_yes (fun i x H2 hi hx _ e2 Q2 q2 => ?_) fun H2 e2 h2 => k D H2 hD e2 (by rw [h2, kept_all])
  rw [hx, show (0 : Int) + (i : Int) = (i : Int) by omega]
  exact he i H2 Q2 hi e2 q2
/-- values over a list -/
theorem lc_vL {xs : List V} {j : Nat} {vs : List Nat} (h : SqL K H a xs) (hn : xs.length ≤ 100000) (v : V → V) (hw : ∀ x, wipe ((wipe σ vs).set j (some x)) vs = wipe σ vs)
    (he : ∀ (i : Nat) (x : V) H' (Q' : VK), xs[i]? = some x → Ex H H' → (∀ H2, Ex H' H2 → Q' (v x) H2) → te ((wipe σ vs).set j (some x)) H' Q')
    (k : ∀ D H2, H D = none → Ex H H2 → H2 D = some (.lst (xs.map v)) → Q (.ref D) H2) : LcR (gName j) tYes te vs σ Q (Itl K a) H := by
  intro D hD
  refine lc_v (walk_list (K := K) (a := a) (xs := xs)) y_list hD (fun H2 e2 => sqL_ex h e2) hn (fun _ => true) (fun i => ((xs[i]?).map v).getD .non) hw lc_yes (fun i x H2 hi hx _ e2 Q2 q2 => ?_) fun H2 e2 h2 => k D H2 hD e2 (by rw [h2, kept_all, range_map])
  rw [hx] at q2
  exact he i x H2 Q2 hx e2 q2
/-- new lists over a range, alike -/
theorem lc_newR {n j : Nat} {vs : List Nat} {o : HO} (hn : n ≤ 100000) (hw : ∀ x, wipe ((wipe σ vs).set j (some x)) vs = wipe σ vs)
    (he : ∀ i H' (Q' : VK), i < n → Ex H H' → (∀ b H2, H' b = none → Ex H' H2 → H2 b = some o → Q' (.ref b) H2) → te ((wipe σ vs).set j (some (.int (i : Int)))) H' Q')
    (k : ∀ D (as : List Addr) H2, H D = none → Ex H H2 → H2 D = some (.lst (as.map V.ref)) → as.length = n → as.Nodup → D ∉ as → (∀ b ∈ as, H b = none ∧ H2 b = some o) → Q (.ref D) H2) : LcR (gName j) tYes te vs σ Q (Itr 0 n) H := by
  intro D hD
  refine lc_new walk_range y_range hD (fun _ _ => trivial) hn (fun _ => true) (fun _ o' => o' = o) hw lc_yes (fun i x H2 hi hx _ e2 hD2 Q2 q2 => ?_) fun H2 as e2 h2 nd fr hall => ?_
  · rw [hx, show (0 : Int) + (i : Int) = (i : Int) by omega]
    exact he i H2 Q2 hi e2 fun b H3 nb e3 hb => q2 b H3 o nb e3 hb rfl
  · rw [kept_all] at hall
    refine k D as H2 hD e2 h2 (by rw [← hall.len, List.length_range]) nd (fun m => (fr D m).2 rfl) fun b m => ⟨(fr b m).1, ?_⟩
    obtain ⟨i, hi⟩ := List.mem_iff_getElem?.mp m
    obtain ⟨_, _, o', h1, rfl⟩ := hall.right hi
    exact h1
theorem v_rep {xs : List V} {m : Int} (h : H p = some (.lst xs)) (hm : 0 ≤ m ∧ m ≤ 100000) (hx : xs.length ≤ 10) (k : ∀ b H2, H b = none → Ex H H2 → H2 b = some (.lst (List.replicate m.toNat xs).flatten) → Q (.ref b) H2) : rRep (.ref p) (.int m) H Q := by
  refine ⟨p, m, xs, rfl, rfl, h, by omega, by omega, ?_, fun b hb => k b _ hb (Evl.Ex.new hb) upd_same⟩
  have h1 : xs.length * m.toNat ≤ 10 * 100000 := Nat.mul_le_mul hx (by omega)
  exact Nat.le_trans h1 (by decide)
theorem v_max {ns : List Int} (h : SqL K H a (ns.map V.int)) (hn : 0 < ns.length) (k : ∀ m, m ∈ ns → (∀ y, y ∈ ns → y ≤ m) → Q (.int m) H) : rMax K [.ref a] H Q := ⟨a, ns, rfl, h, hn, k⟩
end
theorem rep_flat {α : Type} (x : α) : ∀ n : Nat, (List.replicate n [x]).flatten = List.replicate n x
  | 0 => rfl
  | n + 1 => by
    rw [List.replicate_succ, List.replicate_succ, List.flatten_cons, rep_flat x n]
    rfl
/-- rows of bools -/
structure BoolG (H : Hp) (r : Addr) (as : List Addr) (n : Nat) (F : Nat → Nat → Bool) : Prop where
  top : H r = some (.lst (as.map V.ref))
  nd : as.Nodup
  nr : r ∉ as
  row : ∀ (s : Nat) (a : Addr), as[s]? = some a → H a = some (.lst ((List.range n).map fun l => V.bl (F s l)))
theorem BoolG.set {H H' : Hp} {r b : Addr} {as : List Addr} {n s l : Nat} {F : Nat → Nat → Bool} {v : Bool} (G : BoolG H r as n F) (hb : as[s]? = some b) (c : Ch H H' b) (hl : l < n) (h : H' b = some (.lst (((List.range n).map fun l => V.bl (F s l)).set l (.bl v)))) :
    BoolG H' r as n (fun s' l' => if s' = s ∧ l' = l then v else F s' l') := by
  have mb := List.mem_of_getElem? hb
  refine ⟨c.keep _ _ (fun z => G.nr (z ▸ mb)) G.top, G.nd, G.nr, fun s' a ha => ?_⟩
  by_cases hs : s' = s
  · subst hs
    rw [hb] at ha
    cases ha
    rw [h]
    congr 2
    apply List.ext_getElem?
    intro i
    rw [List.getElem?_set, List.getElem?_map, List.getElem?_map]
    by_cases hi : l = i
    · subst hi
      rw [if_pos rfl, List.length_map, List.length_range, if_pos hl, List.getElem?_range hl]
      show _ = some (V.bl (if s' = s' ∧ l = l then v else F s' l))
      rw [if_pos ⟨rfl, rfl⟩]
    · rw [if_neg hi]
      cases hr : (List.range n)[i]? with
      | none => rfl
      | some k =>
        have hk : k = i := by
          have h1 := lt_of_get hr
          rw [List.length_range] at h1
          rw [List.getElem?_range h1] at hr
          exact (Option.some.inj hr).symm
        subst hk
        show some (V.bl (F s' k)) = some (V.bl (if s' = s' ∧ k = l then v else F s' k))
        rw [if_neg (fun z => hi z.2.symm)]
  · have hne : a ≠ b := fun z => by
      rw [z] at ha
      exact hs (nd_ix G.nd hb ha).symm
    rw [c.keep _ _ hne (G.row s' a ha)]
    congr 2
    apply List.map_congr_left
    intro i _
    show V.bl (F s' i) = V.bl (if s' = s ∧ i = l then v else F s' i)
    rw [if_neg (fun z => hs z.1)]
theorem ch_grid {H H' : Hp} {l a : Addr} {as : List Addr} {g : Grid} (c : Ch H H' l) (n : a ≠ l) (m : l ∉ as) (h : GridAt H a as g) : GridAt H' a as g := ⟨c.keep _ _ n h.top, h.row.monoM fun b row mb _ z => c.keep _ _ (fun e => m (e ▸ mb)) z⟩
theorem grid_new {H : Hp} {l a : Addr} {as : List Addr} {g : Grid} (h : GridAt H a as g) (n : H l = none) : a ≠ l ∧ l ∉ as := by
  refine ⟨fun z => ?_, fun m => ?_⟩
  · have := h.top
    rw [z, n] at this
    cases this
  · obtain ⟨row, _, z⟩ := h.row.mem_left m
    rw [show H l = _ from z] at n
    cases n
def RemR (W : WX) (σ : L2.St) (Q : VK) (x y : V) (H2 : Hp) : Prop := ∃ (l : Addr) (ns : List Int) (k : Int), x = .ref l ∧ y = .int k ∧ H2 l = some (.lst (ns.map V.int)) ∧ (k ∈ ns → Q .non (upd H2 l (.lst ((ns.erase k).map V.int)))) ∧ (k ∉ ns → ∀ d, W (.type "ValueError") d σ H2)
theorem s_rem {K : PySem.W.Frag} {W : WX} {σ : L2.St} {H : Hp} {Q : VK} {to te : TE} (h : to σ H fun x H1 => tyV K "list" x H1 ∧ te σ H1 fun y H2 => RemR W σ Q x y H2) : tRemX K W to te σ H Q := h
theorem v_rem {W : WX} {σ : L2.St} {H : Hp} {Q : VK} {l : Addr} {ns : List Int} {k : Int} (h : H l = some (.lst (ns.map V.int))) (m : k ∈ ns) (n : ∀ H2, Ch H H2 l → H2 l = some (.lst ((ns.erase k).map V.int)) → Q .non H2) : RemR W σ Q (.ref l) (.int k) H :=
  ⟨l, ns, k, rfl, rfl, h, fun _ => n _ (Ch.upd h) upd_same, fun z => absurd m z⟩
theorem c_deedBy {K : PySem.W.Frag} {H : Hp} {Q : VK} {E : XK} {v : V} {so : Addr} {ks : List Int} {n : Nat} (hc : IsCell H v) (h : H so = some (.lst (ks.map V.int))) (hk : ks.length ≤ 1000000) (h1 : 2 ≤ n) (h2 : n ≤ 1000) (k : ∀ H' d x, Ex H H' → DeedAt H' d x → Q (.ref d) H') : spDeedBy K [v, .ref so, .int (n : Int)] H Q E :=
  ⟨v, so, ks, n, rfl, hc, h, hk, h1, h2, k⟩
theorem v_eqTs {K : PySem.W.Frag} {H : Hp} {Q : VK} {f c : Addr} {xss : List (List Int)} (h1 : TupsAt H f xss) (h2 : TupsAt H c xss) (k : Q (.bl true) H) : rEqD K (.ref f) (.ref c) H Q := by
  have dp : ∀ l, TupsAt H l xss → Dp K H (.ref l) (.list (xss.map fun xs => PyData.tuple (xs.map PyData.int))) := fun l ⟨ts, a, b⟩ => .lst (SqL.of a) (dpAll ⟨by rw [List.length_map, List.length_map, b.len], fun i x y hx hy => by
    obtain ⟨t, ht, rfl⟩ := map_back hx
    obtain ⟨xs, hxs, rfl⟩ := map_back hy
    exact dp_tup (b.at_ i t xs ht hxs)⟩)
  refine req_of (a := xss) (b := xss) (Enc.list (Enc.tup enc_int)) (by decide) (dp f h1) (dp c h2) ?_
  rw [decide_eq_true rfl]
  exact k
/-! ### packing.py -/
def keyH (H : Hp) : V → I3
  | .ref t => match H t with
    | some (.tup [.ref u, .int c]) => match H u with
      | some (.tup [.int a, .int b]) => (a, b, c)
      | _ => (0, 0, 0)
    | _ => (0, 0, 0)
  | _ => (0, 0, 0)
theorem keyH_of {H : Hp} {t u : Addr} {a b c : Int} (h1 : H t = some (.tup [.ref u, .int c])) (h2 : H u = some (.tup [.int a, .int b])) : keyH H (.ref t) = (a, b, c) := by
  simp only [keyH, h1, h2]
/-- the journeys' list, and what it tells -/
def NestAt (sold : List (Nat × List P3)) (H : Hp) (i : Nat) (v : V) : Prop := ∃ a u x, sold[i]? = some x ∧ v = .ref a ∧ H a = some (.tup [.ref u, .int (x.1 : Int)]) ∧ H u = some (.tup [.int ((jOf x).1 : Int), .int ((jOf x).2.1 : Int)])
def jI (j : J3) : I3 := (j.1, j.2.1, j.2.2)
def jN (k : I3) : J3 := (k.1.toNat, k.2.1.toNat, k.2.2.toNat)
theorem jN_jI (j : J3) : jN (jI j) = j := rfl
/-- sorted journeys, told plainly -/
theorem nest_sorted {sold : List (Nat × List P3)} {H : Hp} {xs ys : List V} (ha : All2 (NestAt sold H) (List.range sold.length) xs) (hp : ys.Perm xs) (hs : SrtO.Srtd (fun x y => lex3 (keyH H x) (keyH H y)) ys) :
    ∃ js : List J3, js.Perm (sold.map jOf) ∧ js.Pairwise (fun x y => x.1 ≤ y.1) ∧ All2 (fun v j => ∃ a u, v = V.ref a ∧ H a = some (.tup [.ref u, .int (j.2.2 : Int)]) ∧ H u = some (.tup [.int (j.1 : Int), .int (j.2.1 : Int)])) ys js := by
  have hx : xs.map (fun v => jN (keyH H v)) = sold.map jOf := by
    apply List.ext_getElem?
    intro i
    rw [List.getElem?_map, List.getElem?_map]
    by_cases hi : i < sold.length
    · obtain ⟨v, hv, a, u, x, e1, e2, e3, e4⟩ := ha.left (List.getElem?_range hi)
      rw [hv, e1, e2]
      show some (jN (keyH H (.ref a))) = some (jOf x)
      rw [keyH_of e3 e4]
      rfl
    · have h1 : xs.length ≤ i := by
        rw [← ha.len, List.length_range]
        omega
      rw [List.getElem?_eq_none h1, List.getElem?_eq_none (by omega)]
      rfl
  have hy : ∀ v ∈ ys, ∃ a u j, v = V.ref a ∧ jN (keyH H v) = j ∧ keyH H v = jI j ∧ H a = some (.tup [.ref u, .int (j.2.2 : Int)]) ∧ H u = some (.tup [.int (j.1 : Int), .int (j.2.1 : Int)]) := fun v m => by
    obtain ⟨i, hi⟩ := List.mem_iff_getElem?.mp (hp.mem_iff.mp m)
    obtain ⟨k, hk, a, u, x, e1, e2, e3, e4⟩ := ha.right hi
    refine ⟨a, u, jOf x, e2, ?_, ?_, e3, e4⟩
    · rw [e2, keyH_of e3 e4]
      rfl
    · rw [e2, keyH_of e3 e4]
      rfl
  refine ⟨ys.map fun v => jN (keyH H v), by rw [← hx]; exact hp.map _, List.pairwise_map.mpr ?_, ?_⟩
  · refine List.Pairwise.imp_of_mem (fun {v u} mv mu h => ?_) hs
    obtain ⟨_, _, j, _, e1, e2, _⟩ := hy v mv
    obtain ⟨_, _, k, _, e3, e4, _⟩ := hy u mu
    rw [e1, e3]
    dsimp only at h
    rw [e2, e4] at h
    have := of_decide_eq_false h
    unfold jI at this
    dsimp only at this
    omega
  · refine ⟨by rw [List.length_map], fun i v j hv hj => ?_⟩
    rw [List.getElem?_map, hv] at hj
    obtain ⟨a, u, k, e0, e1, _, e3, e4⟩ := hy v (List.mem_of_getElem? hv)
    have hj2 : j = k := (Option.some.inj hj).symm.trans e1
    rw [hj2]
    exact ⟨a, u, e0, e3, e4⟩
def spStretchOf (K : PySem.W.Frag) : Sp := fun vs H Q _ => ∃ (S : Addr → Prop) (p : Addr) (T : Tr) (t : Int) (ps : List P3), vs = [.ref p, .int t] ∧ TrainAt K H S p T ∧ getS T.sold t = some ps ∧ ps ≠ [] ∧
  ∀ u H', H u = none → Ex H H' → H' u = some (.tup [.int ((hdP ps).2.1 : Int), .int ((ltP ps).2.2 : Int)]) → Q (.ref u) H'
/-- a packing that was told, and the list that was made of it -/
def KeptAt (H : Hp) (S : Addr → Prop) (so kp k : Addr) : Prop := ∃ f c xss, H k = some (.lst [.ref f, .ref c]) ∧ TupsAt H f xss ∧ TupsAt H c xss ∧ ∀ a, a = k ∨ a = f ∨ a = c → ¬ S a ∧ a ≠ so ∧ a ≠ kp
theorem KeptAt.to {H H' : Hp} {S S' : Addr → Prop} {so kp k : Addr} (h : KeptAt H S so kp k) (keep : ∀ a o, ¬ S a → a ≠ so → a ≠ kp → H a = some o → H' a = some o) (kt : ∀ a xs, H a = some (.tup xs) → H' a = some (.tup xs)) (off : ∀ a o, ¬ S a → H a = some o → ¬ S' a) : KeptAt H' S' so kp k := by
  obtain ⟨f, c, xss, h1, ⟨ts, h2, h3⟩, ⟨us, h4, h5⟩, h6⟩ := h
  obtain ⟨k1, k2, k3⟩ := h6 k (.inl rfl)
  obtain ⟨f1, f2, f3⟩ := h6 f (.inr (.inl rfl))
  obtain ⟨c1, c2, c3⟩ := h6 c (.inr (.inr rfl))
  refine ⟨f, c, xss, keep _ _ k1 k2 k3 h1, ⟨ts, keep _ _ f1 f2 f3 h2, h3.mono fun t xs z => kt _ _ z⟩, ⟨us, keep _ _ c1 c2 c3 h4, h5.mono fun t xs z => kt _ _ z⟩, fun a ha => ?_⟩
  rcases ha with rfl | rfl | rfl
  · exact ⟨off _ _ k1 h1, k2, k3⟩
  · exact ⟨off _ _ f1 h2, f2, f3⟩
  · exact ⟨off _ _ c1 h4, c2, c3⟩
def spRight (K : PySem.W.Frag) : Sp := fun vs H Q _ => ∃ (H0 : Hp) (S : Addr → Prop) (p so kp : Addr) (T : Tr) (ks : List Addr), vs = [.ref p, .ref so, .ref kp] ∧ Play K H0 H p T S ∧ T.coming < 80000 ∧ H so = some (.lst ((keys T).map V.int)) ∧ ¬ S so ∧ H kp = some (.lst (ks.map V.ref)) ∧ ks.length ≤ 1000 ∧ ¬ S kp ∧ H0 kp = none ∧ so ≠ kp ∧ (∀ k ∈ ks, KeptAt H S so kp k) ∧
  ∀ H' (ks' : List Addr), Play K H0 H' p T S → H' so = some (.lst ((keys T).map V.int)) → H' kp = some (.lst (ks'.map V.ref)) → ks'.length ≤ ks.length + 1 → (∀ k ∈ ks', KeptAt H' S so kp k) → (∀ c o, c ≠ kp → H c = some o → H' c = some o) → Q (.bl true) H'
def spPacked (K : PySem.W.Frag) : Sp := fun vs H Q _ => ∃ (S : Addr → Prop) (p : Addr) (T : Tr), vs = [.ref p] ∧ TrainAt K H S p T ∧ Good T ∧ T.coming < 90000 ∧
  ∀ (H' : Hp) (l : Addr) (f : Nat → Nat), Ex H H' → H l = none → TupsAt H' l (T.sold.map fun x => [(x.1 : Int), (f x.1 : Int)]) → PackOk T f → Q (.ref l) H'
end Lg

namespace Lg
open PySem PySem.Spec PyProof.Rows L2
/-! ### who holds is no bool -/
def rIsOB : R2 := fun x y H Q => (∃ (h : Option Nat) (b : Bool), x = oV h ∧ y = .bl b) ∧ Q (.bl false) H
theorem op_isB1 {X : Cx} : OpR X (compareOp .Is) rIsOB := by
  intro pins s σ H x y v u Q I rx ry h
  obtain ⟨⟨h, b, rfl, rfl⟩, q⟩ := h
  cases (show u = Value.bool b from ry)
  cases h with
  | none =>
    cases (show v = Value.none from rx)
    exact wpAny_is_other rfl (fun z => nomatch z) ⟨.bl false, H, I, rfl, q⟩
  | some t =>
    obtain ⟨k, rfl⟩ := (show ∃ k, v = Value.int (t : Int) k from rx)
    exact wpAny_is_other rfl (fun z => nomatch z) ⟨.bl false, H, I, rfl, q⟩
section
variable {K : PySem.W.Frag} {σ : L2.St} {H : Hp} {Q : VK} {te : TE} {l p a : Addr}
theorem v_isOB {h : Option Nat} {b : Bool} (k : Q (.bl false) H) : rIsOB (oV h) (.bl b) H Q := ⟨⟨h, b, rfl, rfl⟩, k⟩
theorem lc_vT {xs : List V} {j : Nat} {vs : List Nat} (h : H a = some (.tup xs)) (hn : xs.length ≤ 100000) (v : V → V) (hw : ∀ x, wipe ((wipe σ vs).set j (some x)) vs = wipe σ vs)
    (he : ∀ (i : Nat) (x : V) H' (Q' : VK), xs[i]? = some x → Ex H H' → (∀ H2, Ex H' H2 → Q' (v x) H2) → te ((wipe σ vs).set j (some x)) H' Q')
    (k : ∀ D H2, H D = none → Ex H H2 → H2 D = some (.lst (xs.map v)) → Q (.ref D) H2) : LcR (gName j) tYes te vs σ Q (Itt K a) H := by
  intro D hD
  refine lc_v (walk_tup (K := K) (a := a) (xs := xs)) y_list hD (fun H2 e2 => SqT.of (e2 _ _ h)) hn (fun _ => true) (fun i => ((xs[i]?).map v).getD .non) hw lc_yes (fun i x H2 hi hx _ e2 Q2 q2 => ?_) fun H2 e2 h2 => k D H2 hD e2 (by rw [h2, kept_all, range_map])
  rw [hx] at q2
  exact he i x H2 Q2 hx e2 q2
theorem v_ixA {as : List Addr} {b : Addr} {j : Nat} (h : H p = some (.lst (as.map V.ref))) (e : as[j]? = some b) (k : Q (.ref b) H) : rIxL K (.ref p) (.int (j : Int)) H Q := ⟨p, _, j, .ref b, rfl, rfl, SqL.of h, at_of rfl (map_get e), k⟩
theorem v_index {zs : List Int} {z : Int} {j : Nat} (h : H p = some (.lst (zs.map V.int))) (nd : zs.Nodup) (hj : zs[j]? = some z) (k : Q (.int (j : Int)) H) : rIndex K (.ref p) [.int z] H Q := by
  refine ⟨p, _, .int z, j, .int z, rfl, rfl, SqL.of h, rfl, flat_ints _, map_get hj, by show (z == z) = true; exact beq_self_eq_true z, fun m z' hm hz => ?_, k⟩
  obtain ⟨y, hy, rfl⟩ := map_back hz
  show (y == z) = false
  rw [beq_eq_false_iff_ne]
  intro e
  subst e
  have h1 := lt_of_get hy
  have h2 := lt_of_get hj
  have := (List.pairwise_iff_getElem.mp nd) m j h1 h2 hm
  rw [Option.some.inj ((List.getElem?_eq_getElem h1).symm.trans hy), Option.some.inj ((List.getElem?_eq_getElem h2).symm.trans hj)] at this
  exact this rfl
theorem v_popAt {xs : List V} {j : Nat} (h : H l = some (.lst xs)) (hj : j < xs.length) (hx : xs.length ≤ 1000000) (k : ∀ y H2, Ch H H2 l → H2 l = some (.lst (xs.eraseIdx j)) → Q y H2) : rPopAt (.ref l) [.int (j : Int)] H Q := by
  refine ⟨l, xs, (j : Int), j, xs[j], rfl, rfl, h, by omega, by omega, ?_, List.getElem?_eq_getElem hj, k _ _ (Ch.upd h) upd_same⟩
  have h0 : ¬ ((j : Int) < 0) := by omega
  have h1 : (decide (0 ≤ (j : Int)) && decide ((j : Int) < xs.length)) = true := by
    rw [decide_eq_true (by omega : 0 ≤ (j : Int)), decide_eq_true (by omega : (j : Int) < xs.length)]
    rfl
  simp only [seqIndex?, if_neg h0, if_pos h1]
  rfl
end
/-! ### the grid as painted, ticket by ticket -/
def paintS (sold : List (Nat × List P3)) (g : Grid) : Grid := sold.foldl (fun g x => markAll g x.2 (some x.1)) g
theorem paintS_snoc (sold : List (Nat × List P3)) (x : Nat × List P3) (g : Grid) : paintS (sold ++ [x]) g = markAll (paintS sold g) x.2 (some x.1) := by
  unfold paintS
  rw [List.foldl_append]
  rfl
theorem paintS_len : ∀ (sold : List (Nat × List P3)) (g : Grid), (paintS sold g).length = g.length
  | [], _ => rfl
  | x :: r, g => by
    show (paintS r (markAll g x.2 (some x.1))).length = _
    rw [paintS_len r, markAll_len]
theorem paintS_row {n : Nat} : ∀ (sold : List (Nat × List P3)) (g : Grid), (∀ row ∈ g, row.length = n) → ∀ row ∈ paintS sold g, row.length = n
  | [], _, h => h
  | x :: r, g, h => paintS_row r _ (markAll_row _ _ _ h)
theorem take_snoc {α : Type} {l : List α} {i : Nat} {x : α} (h : l[i]? = some x) : l.take (i + 1) = l.take i ++ [x] := by
  rw [List.take_succ, h]
  rfl
/-- what of a train's tickets is painted -/
theorem Good.paint {T : Tr} (G : Good T) {g : Grid} (hl : g.length = T.rows.length) (hr : ∀ row ∈ g, row.length = T.stops - 1) (h0 : ∀ s l, cellOf g s l = none) : ∀ i, i ≤ T.sold.length → Painted (paintS (T.sold.take i) g) T.rows.length (T.stops - 1) (coverS (T.sold.take i)) := by
  intro i
  induction i with
  | zero =>
    intro _ s l u hs hl2
    rw [List.take_zero]
    show cellOf g s l = some u ↔ _
    rw [h0]
    exact ⟨fun z => (by cases z), fun ⟨x, m, _⟩ => by cases m⟩
  | succ i ih =>
    intro hi s l u hs hl2
    have hx := List.getElem?_eq_getElem (l := T.sold) (i := i) (by omega)
    obtain ⟨x, hxd⟩ : ∃ x, x = T.sold[i] := ⟨_, rfl⟩
    rw [← hxd] at hx
    have mx := List.mem_of_getElem? hx
    obtain ⟨b, e, hb, he, w⟩ := G.way x mx
    rw [take_snoc hx, paintS_snoc, markAll_cell _ _ (paintS_row _ _ hr) (fun q m => by rw [paintS_len, hl]; have := w.mem q m; exact ⟨this.1, by omega⟩)]
    have hcs : coverS (T.sold.take i ++ [x]) u s l ↔ coverS (T.sold.take i) u s l ∨ (x.1 = u ∧ covers x.2 s l) := by
      refine ⟨fun ⟨y, m, h⟩ => ?_, fun h => ?_⟩
      · rcases List.mem_append.mp m with m | m
        · exact .inl ⟨y, m, h⟩
        · rw [List.mem_singleton.mp m] at h
          exact .inr h
      · rcases h with ⟨y, m, h⟩ | h
        · exact ⟨y, List.mem_append_left _ m, h⟩
        · exact ⟨x, List.mem_append_right _ (List.mem_singleton.mpr rfl), h⟩
    rw [hcs]
    by_cases c : covers x.2 s l
    · rw [if_pos c]
      refine ⟨fun z => .inr ⟨Option.some.inj z, c⟩, fun z => ?_⟩
      rcases z with ⟨y, m, ey, cy⟩ | ⟨z, _⟩
      · have h1 := (G.cell s l u hs hl2).mpr ⟨y, List.mem_of_mem_take m, ey, cy⟩
        have h2 := (G.cell s l x.1 hs hl2).mpr ⟨x, mx, rfl, c⟩
        rw [h1] at h2
        exact h2.symm
      · rw [z]
    · rw [if_neg c, ih (by omega) s l u hs hl2]
      exact ⟨.inl, fun z => z.elim id fun z => absurd z.2 c⟩
theorem Good.paint_all {T : Tr} (G : Good T) {g : Grid} (hl : g.length = T.rows.length) (hr : ∀ row ∈ g, row.length = T.stops - 1) (h0 : ∀ s l, cellOf g s l = none) : paintS T.sold g = T.rows := by
  refine G.painted (by rw [paintS_len]; exact hl) (paintS_row _ _ hr) ?_
  have := G.paint hl hr h0 T.sold.length (Nat.le_refl _)
  rw [List.take_length] at this
  exact this
/-- the next part's legs are not painted yet -/
theorem Good.paint_free {T : Tr} (G : Good T) {g : Grid} (hl : g.length = T.rows.length) (hr : ∀ row ∈ g, row.length = T.stops - 1) (h0 : ∀ s l, cellOf g s l = none) {i j c1 c2 c3 : Nat} {x : Nat × List P3} (hi : T.sold[i]? = some x) (hj : x.2[j]? = some (c1, c2, c3)) :
    ∀ l, c2 ≤ l → l < c3 → cellOf (markAll (paintS (T.sold.take i) g) (x.2.take j) (some x.1)) c1 l = none := by
  intro l h1 h2
  have mx := List.mem_of_getElem? hi
  obtain ⟨b, e, hb, he, w⟩ := G.way x mx
  have mq := w.mem _ (List.mem_of_getElem? hj)
  dsimp only at mq
  rw [markAll_cell _ _ (paintS_row _ _ hr) (fun q m => by rw [paintS_len, hl]; have := w.mem q (List.mem_of_mem_take m); exact ⟨this.1, by omega⟩)]
  have hf := G.fresh_cell (i := i) (j := j) (t := x.1) (ps := x.2) hi hj h1 h2
  rw [if_neg (fun z => hf x.1 (.inr ⟨rfl, .inl z⟩))]
  cases hc : cellOf (paintS (T.sold.take i) g) c1 l with
  | none => rfl
  | some u => exact absurd (.inl ((G.paint hl hr h0 i (by have := lt_of_get hi; omega) c1 l u mq.1 (by omega)).mp hc)) (hf u)
theorem Way.unlike {n e : Nat} : ∀ {ps : List P3} {b : Nat}, Way n b e ps → ∀ (i : Nat) (p q : P3), ps[i]? = some p → ps[i + 1]? = some q → q.1 ≠ p.1
  | [], _, _, i, p, q, h, _ => by cases h
  | x :: r, b, w, 0, p, q, h1, h2 => by
    cases h1
    refine w.2.2.2.1 q ?_
    rw [List.head?_eq_getElem?]
    exact h2
  | x :: r, b, w, i + 1, p, q, h1, h2 => Way.unlike w.2.2.2.2 i p q h1 h2
theorem grid_of_new {H : Hp} {D : Addr} {as : List Addr} {n stops : Nat} (h : H D = some (.lst (as.map V.ref))) (hl : as.length = n) (hr : ∀ b ∈ as, H b = some (.lst ((List.replicate (stops - 1) (none : Option Nat)).map oV))) : GridAt H D as (Tr.new n stops).rows := by
  refine ⟨h, ?_, fun i a row ha hrw => ?_⟩
  · show as.length = (List.replicate n _).length
    rw [List.length_replicate, hl]
  · rw [new_row hrw]
    exact hr a (List.mem_of_getElem? ha)
/-! ### k05 -/
def spGoesOn (K : PySem.W.Frag) : Sp := fun vs H Q _ => ∃ (l t : Addr) (ps : List P3) (seats b e : Nat), vs = [.ref l, .int seats, .ref t] ∧ PartsAt H l ps ∧ Way seats b e ps ∧ b < e ∧ ps.length ≤ 1000 ∧ H t = some (.tup [.int b, .int e]) ∧ ∀ H', Ex H H' → Q (.bl true) H'
/-- a ticket's stretch -/
def StrAt (H : Hp) (u : Addr) (x : Nat × List P3) : Prop := H u = some (.tup [.int ((hdP x.2).2.1 : Int), .int ((ltP x.2).2.2 : Int)])
def spStands (K : PySem.W.Frag) : Sp := fun vs H Q _ => ∃ (S : Addr → Prop) (p so sl : Addr) (us : List Addr) (T : Tr), vs = [.ref p, .ref so, .ref sl, .int T.rows.length, .int T.stops] ∧ TrainAt K H S p T ∧ Good T ∧ T.coming < 90000 ∧ H so = some (.lst ((keys T).map V.int)) ∧ H sl = some (.lst (us.map V.ref)) ∧ All2 (StrAt H) us T.sold ∧
  ∀ H', Ex H H' → Q (.bl true) H'
/-! ### a train made -/
theorem Play.base {K : PySem.W.Frag} {H0 H1 H : Hp} {p : Addr} {T : Tr} {S : Addr → Prop} (e : Ex H0 H1) (P : Play K H1 H p T S) : Play K H0 H p T S := ⟨e.trans P.ex, P.tr, P.good, fun a s => Evl.fresh_back e (P.fresh a s), P.live⟩
def MkR (C : Addr) (sp : Sp) (E : L2.St → XK) (σ : L2.St) (Q : VK) (vs : List V) (H1 : Hp) : Prop := ∀ x dx, H1 x = none → H1 dx = none → dx ≠ x → sp (.ref x :: vs) (upd (upd H1 dx (.own x)) x (.ins C dx [])) (fun v H2 => v = .non ∧ Q (.ref x) H2) (E σ)
theorem s_make {C : Addr} {sp : Sp} {E : L2.St → XK} {t : TA} {σ : L2.St} {H : Hp} {Q : VK} (h : t σ H fun vs H1 => MkR C sp E σ Q vs H1) : tMakeS C sp E t σ H Q := h
theorem v_make {K : PySem.W.Frag} {C : Addr} {E : L2.St → XK} {σ : L2.St} {Q : VK} {H : Hp} {n1 n2 : Nat} (hn1 : 1 ≤ n1) (hn2 : n1 ≤ 60) (hn3 : 2 ≤ n2) (hn4 : n2 ≤ 60) (hC : C = He.ga K "Train") (k : ∀ p S H2, Play K H H2 p (Tr.new n1 n2) S → Q (.ref p) H2) : MkR C (spInit K) E σ Q [.int (n1 : Int), .int (n2 : Int)] H := by
  subst hC
  intro p dx np ndx nex
  refine ⟨p, dx, n1, n2, rfl, upd_same, fun hok H1 S keep new A1 => ⟨rfl, ?_⟩, fun hbad => absurd (by omega) hbad⟩
  have A1' : TrainAt K H1 S p (Tr.new n1 n2) := A1
  have e1 : Ex H H1 := fun a o h => keep a o (ne_of_none h np) (by rw [upd_ne (ne_of_none h np), upd_ne (ne_of_none h ndx)]; exact h)
  obtain ⟨S0, hS0, A0⟩ := A1'.there
  exact k p S0 H1 ⟨e1, A0, Good.new hn1 hn2 hn3 hn4, fun a s => (by
    rcases new a (hS0 a s).1 with y | y
    · rw [y]
      exact np
    · exact (fresh_upd (fresh_upd y).2).2), fun a s => (hS0 a s).2⟩
theorem c_cells {K : PySem.W.Frag} {H : Hp} {Q : VK} {E : XK} {a : Addr} {ns : List Int} (h : SqL K H a (ns.map V.int)) (hn : ns.length ≤ 63) (k : ∀ H' l xs, Ex H H' → H l = none → CellsAt H' l xs → Q (.ref l) H') : spCells K [.ref a] H Q E := ⟨a, ns, rfl, h, hn, k⟩
theorem kind_cases (k : Kind) : k = .sell ∨ k = .back ∨ k = .leave ∨ k = .reseat := by
  cases k with
  | sell => exact .inl rfl
  | back => exact .inr (.inl rfl)
  | leave => exact .inr (.inr (.inl rfl))
  | reseat => exact .inr (.inr (.inr rfl))
theorem keys_set {T T' : Tr} {i n : Nat} {ps qs : List P3} (hi : T.sold[i]? = some (n, ps)) (h : T'.sold = T.sold.set i (n, qs)) : keys T' = keys T := by
  unfold keys
  rw [h]
  apply List.ext_getElem?
  intro j
  rw [List.getElem?_map, List.getElem?_map, List.getElem?_set]
  by_cases e : i = j
  · subst e
    rw [if_pos rfl, if_pos (lt_of_get hi), hi]
    rfl
  · rw [if_neg e]
/-! ### what a deed makes of the tickets and their stretches -/
structure StrRun (T : Tr) (x : Deed) (o : Out) : Prop where
  sell : o.word = "" → x.k = .sell → ∃ ps, o.tr.sold = T.sold ++ [(T.coming, ps)] ∧ ((hdP ps).2.1 : Int) = x.a ∧ ((ltP ps).2.2 : Int) = x.b
  back : o.word = "" → x.k = .back → ∃ i n ps, x.a = ((n : Nat) : Int) ∧ T.sold[i]? = some (n, ps) ∧ o.tr.sold = T.sold.eraseIdx i
  leave : o.word = "" → x.k = .leave → ∃ i n ps qs, x.a = ((n : Nat) : Int) ∧ T.sold[i]? = some (n, ps) ∧ o.tr.sold = T.sold.set i (n, qs) ∧ (hdP qs).2.1 = (hdP ps).2.1 ∧ ((ltP qs).2.2 : Int) = x.b
  reseat : o.word = "" → x.k = .reseat → ∃ i n ps qs, x.a = ((n : Nat) : Int) ∧ T.sold[i]? = some (n, ps) ∧ o.tr.sold = T.sold.set i (n, qs) ∧ (hdP qs).2.1 = (hdP ps).2.1 ∧ (ltP qs).2.2 = (ltP ps).2.2
theorem Good.strRun {T : Tr} (G : Good T) (x : Deed) : StrRun T x (T.run x) := by
  obtain ⟨k, a, b⟩ := x
  refine ⟨fun hw hk => ?_, fun hw hk => ?_, fun hw hk => ?_, fun hw hk => ?_⟩ <;> dsimp only at hk <;> subst hk
  · revert hw
    show (runSell T a b).word = "" → ∃ ps, (runSell T a b).tr.sold = _ ∧ _
    unfold runSell
    split
    · rename_i hs
      split
      · rename_i hf
        intro _
        have hab : a.toNat < b.toNat := by have := hs.1; have := hs.2.1; omega
        have hbs : b.toNat ≤ T.stops - 1 := by have := hs.2.2; have := hs.1; have := hs.2.1; omega
        obtain ⟨w, _⟩ := found_way G.wf.legs hbs _ a.toNat (Nat.le_refl _) (Nat.le_of_lt hab) (full_none.mp hf)
        obtain ⟨h1, h2⟩ := w.hd hab
        refine ⟨found T.rows a.toNat b.toNat, ?_, ?_, ?_⟩
        · show putS T.sold T.coming _ = _
          rw [putS_new G.low]
        · have := hs.1
          show ((hdP _).2.1 : Int) = a
          rw [h1]
          omega
        · have := hs.1
          have := hs.2.1
          show ((ltP _).2.2 : Int) = b
          rw [h2]
          omega
      · exact fun h => absurd (show ("full" : Str) = "" from h) (by decide +kernel)
    · exact fun h => absurd (show ("stretch" : Str) = "" from h) (by decide +kernel)
  · revert hw
    show (runBack T a).word = "" → ∃ i n ps, _ ∧ _ ∧ (runBack T a).tr.sold = _
    unfold runBack
    cases hg : getS T.sold a with
    | none => exact fun h => absurd (show ("ticket" : Str) = "" from h) (by decide +kernel)
    | some ps =>
      obtain ⟨i, n, hn, hi, ho⟩ := getS_ix hg G.wf.rising
      intro _
      refine ⟨i, n, ps, hn, hi, ?_⟩
      show dropS T.sold a.toNat = _
      have : a.toNat = n := by omega
      rw [this]
      exact dropS_ix hi ho
  · revert hw
    show (runLeave T a b).word = "" → ∃ i n ps qs, _ ∧ _ ∧ (runLeave T a b).tr.sold = _ ∧ _
    unfold runLeave
    cases hg : getS T.sold a with
    | none => exact fun h => absurd (show ("ticket" : Str) = "" from h) (by decide +kernel)
    | some ps =>
      dsimp only
      split
      · rename_i hc
        obtain ⟨i, n, hn, hi, ho⟩ := getS_ix hg G.wf.rising
        intro _
        obtain ⟨b0, e0, hb0, he0, w⟩ := G.way _ (List.mem_of_getElem? hi)
        dsimp only at w
        obtain ⟨h1, h2⟩ := w.hd hb0
        have wk := kept_way w (s := b.toNat) (by omega) (by omega)
        obtain ⟨h3, h4⟩ := wk.hd (by omega)
        refine ⟨i, n, ps, keptP ps b.toNat, hn, hi, ?_, ?_, ?_⟩
        · show putS T.sold a.toNat _ = _
          have : a.toNat = n := by omega
          rw [this]
          exact putS_ix hi ho
        · rw [h3, h1]
        · show ((ltP _).2.2 : Int) = b
          rw [h4]
          omega
      · exact fun h => absurd (show ("stop" : Str) = "" from h) (by decide +kernel)
  · revert hw
    show (runReseat T a).word = "" → ∃ i n ps qs, _ ∧ _ ∧ (runReseat T a).tr.sold = _ ∧ _
    unfold runReseat
    cases hg : getS T.sold a with
    | none => exact fun h => absurd (show ("ticket" : Str) = "" from h) (by decide +kernel)
    | some ps =>
      obtain ⟨i, n, hn, hi, ho⟩ := getS_ix hg G.wf.rising
      intro _
      obtain ⟨b0, e0, hb0, he0, w⟩ := G.way _ (List.mem_of_getElem? hi)
      dsimp only at w
      obtain ⟨h1, h2⟩ := w.hd hb0
      obtain ⟨_, wn, _⟩ := newP_way G.wf w hb0 he0
      obtain ⟨h3, h4⟩ := wn.hd hb0
      refine ⟨i, n, ps, newP T ps, hn, hi, ?_, by rw [h3, h1], by rw [h4, h2]⟩
      show putS T.sold a.toNat _ = _
      have : a.toNat = n := by omega
      rw [this]
      exact putS_ix hi ho
end Lg

namespace Lg
open PySem PySem.Spec PyProof.Rows L2
/-! ### k06 -/
theorem enc_strU {s : Str} (h : (PyData.str s).canLay0 = true) : Enc (fun _ : Unit => PyData.str s) 0 := ⟨fun x y => by rw [PyData.eqv]; simp, fun _ => h, fun _ => Nat.le_refl _⟩
section
variable {K : PySem.W.Frag} {σ : L2.St} {H : Hp} {Q : VK} {te : TE} {l p q a : Addr}
theorem dp_strU {s : Str} (h : H a = some (.lst [.str s])) : Dp K H (.ref a) (.list ([()].map fun _ => PyData.str s)) :=
  .lst (SqL.of h) (dpAll ⟨rfl, fun i x y hx hy => by
    match i with
    | 0 => cases hx; cases hy; exact .str s
    | i + 1 => cases hx⟩)
theorem v_eqS1 {s : Str} (hs : (PyData.str s).canLay0 = true) (h : H p = some (.lst [.str s])) (h2 : H q = some (.lst [.str s])) (k : Q (.bl true) H) : rEqD K (.ref p) (.ref q) H Q := by
  refine req_of (a := [()]) (b := [()]) (Enc.list (enc_strU hs)) (by decide) (dp_strU h) (dp_strU h2) ?_
  rw [decide_eq_true rfl]
  exact k
theorem v_neS1 {s : Str} (hs : (PyData.str s).canLay0 = true) (h : H p = some (.lst [.str s])) (h2 : H q = some (.lst [.str s])) (k : Q (.bl false) H) : rNeD K (.ref p) (.ref q) H Q := by
  refine rne_of (a := [()]) (b := [()]) (Enc.list (enc_strU hs)) (by decide) (dp_strU h) (dp_strU h2) ?_
  rw [decide_eq_true rfl]
  exact k
theorem v_slTake {xs : List V} {c : Nat} (h : H p = some (.lst xs)) (hc : c ≤ xs.length) (k : ∀ l H2, H l = none → Ex H H2 → H2 l = some (.lst (xs.take c)) → Q (.ref l) H2) : rSlL K (.ref p) none (some (c : Int)) H Q := by
  refine ⟨p, _, rfl, SqL.of h, fun l hl => k l _ hl (Evl.Ex.new hl) ?_⟩
  rw [upd_same]
  unfold cutV
  rw [HT.sIx_none, HT.sIx_nat, List.drop_zero, Nat.min_eq_left hc, Nat.sub_zero]
/-- values over a grid's rows -/
theorem lc_gridV {as : List Addr} {g : Grid} {j : Nat} {vs : List Nat} (G : GridAt H a as g) (hn : g.length ≤ 100000) (f : List (Option Nat) → V) (hw : ∀ x, wipe ((wipe σ vs).set j (some x)) vs = wipe σ vs)
    (he : ∀ (b : Addr) (row : List (Option Nat)) H' (Q' : VK), row ∈ g → RowAt H' b row → Ex H H' → (∀ H2, Ex H' H2 → Q' (f row) H2) → te ((wipe σ vs).set j (some (.ref b))) H' Q')
    (k : ∀ D H2, H D = none → Ex H H2 → H2 D = some (.lst (g.map f)) → Q (.ref D) H2) : LcR (gName j) tYes te vs σ Q (Itl K a) H := by
  intro D hD
  have hl : (as.map V.ref).length = g.length := by rw [List.length_map, G.row.len]
  refine lc_v (walk_list (K := K) (a := a) (xs := as.map V.ref)) y_list hD (fun H2 e2 => sqL_of G.top e2) (by rw [hl]; exact hn) (fun _ => true) (fun i => ((g[i]?).map f).getD .non) hw lc_yes (fun i x H2 hi hx _ e2 Q2 q2 => ?_) fun H2 e2 h2 => k D H2 hD e2 (by rw [h2, kept_all, hl, range_map])
  obtain ⟨b, hb, rfl⟩ := map_back hx
  obtain ⟨row, hrow, hr2⟩ := G.row.left hb
  rw [hrow] at q2
  exact he b row H2 Q2 (List.mem_of_getElem? hrow) (e2 _ _ hr2) e2 q2
/-- those of a range that pass -/
theorem lc_keepR {b n j : Nat} {vs : List Nat} {tt : TT} (hn : n ≤ 100000) (keep : Nat → Bool) (hw : ∀ x, wipe ((wipe σ vs).set j (some x)) vs = wipe σ vs)
    (ht : ∀ i H' (Q' : Bool → Hp → Prop), i < n → Ex H H' → (∀ H2, Ex H' H2 → Q' (keep i) H2) → tt ((wipe σ vs).set j (some (.int ((b : Int) + (i : Int))))) H' Q')
    (he : ∀ i H' (Q' : VK), i < n → keep i = true → Ex H H' → (∀ H2, Ex H' H2 → Q' (.int ((b : Int) + (i : Int))) H2) → te ((wipe σ vs).set j (some (.int ((b : Int) + (i : Int))))) H' Q')
    (k : ∀ D H2, H D = none → Ex H H2 → H2 D = some (.lst (((kept n keep).map fun i : Nat => (b : Int) + (i : Int)).map V.int)) → Q (.ref D) H2) : LcR (gName j) tt te vs σ Q (Itr (b : Int) n) H := by
  intro D hD
  refine lc_v walk_range y_range hD (fun _ _ => trivial) hn keep (fun i : Nat => .int ((b : Int) + (i : Int))) hw (fun i x H2 hi hx e2 Q2 q2 => ?_) (fun i x H2 hi hx hk e2 Q2 q2 => ?_) fun H2 e2 h2 => k D H2 hD e2 (by rw [h2, List.map_map]; rfl)
  · rw [hx]
    exact ht i H2 Q2 hi e2 q2
  · rw [hx]
    exact he i H2 Q2 hi hk e2 q2
end
theorem kept_first {g : Grid} {b n : Nat} : firstFull g b (b + n) = ((kept n fun i => fullLeg g (b + i)).map fun i => b + i).head? := by
  unfold firstFull kept
  rw [show b + n - b = n by omega, List.range'_eq_map_range, List.find?_map, List.head?_map, List.head?_filter]
  have e : (fun i => fullLeg g (b + i)) = (fullLeg g ∘ fun x => b + x) := rfl
  rw [e]
theorem keptP_valid {seats n c : Nat} {ps : List P3} (h : ∀ q ∈ ps, q.1 < seats ∧ q.2.1 < q.2.2 ∧ q.2.2 ≤ n) : ∀ q ∈ keptP ps c, q.1 < seats ∧ q.2.1 < q.2.2 ∧ q.2.2 ≤ n := by
  intro q m
  unfold keptP at m
  obtain ⟨x, mx, rfl⟩ := List.mem_map.mp m
  obtain ⟨m1, m2⟩ := List.mem_filter.mp mx
  have := h x m1
  have m3 := of_decide_eq_true m2
  dsimp only
  omega
theorem goneP_valid {seats n c : Nat} {ps : List P3} (h : ∀ q ∈ ps, q.1 < seats ∧ q.2.1 < q.2.2 ∧ q.2.2 ≤ n) : ∀ q ∈ goneP ps c, q.1 < seats ∧ q.2.1 < q.2.2 ∧ q.2.2 ≤ n := by
  intro q m
  unfold goneP at m
  obtain ⟨x, mx, rfl⟩ := List.mem_map.mp m
  obtain ⟨m1, m2⟩ := List.mem_filter.mp mx
  have := h x m1
  have m3 := of_decide_eq_true m2
  dsimp only
  omega
theorem covers_in {ps : List P3} {seats n s l : Nat} (h : ∀ q ∈ ps, q.1 < seats ∧ q.2.1 < q.2.2 ∧ q.2.2 ≤ n) (c : covers ps s l) : s < seats ∧ l < n := by
  obtain ⟨q, m, h1, h2, h3⟩ := c
  have := h q m
  omega
theorem Good.leave_rows {T : Tr} (G : Good T) {t c : Nat} {ps : List P3} (m : (t, ps) ∈ T.sold) : markAll (markAll T.rows ps none) (keptP ps c) (some t) = markAll T.rows (goneP ps c) none := by
  obtain ⟨b, e, hb, he, w⟩ := G.way _ m
  have hv : ∀ q ∈ ps, q.1 < T.rows.length ∧ q.2.1 < q.2.2 ∧ q.2.2 ≤ T.stops - 1 := w.valid he
  have hk := keptP_valid (c := c) hv
  have hg := goneP_valid (c := c) hv
  have r1 := markAll_row none ps T.rows G.wf.legs
  refine grid_ext (n := T.stops - 1) (by rw [markAll_len, markAll_len, markAll_len]) (markAll_row _ _ _ r1) (markAll_row _ _ _ G.wf.legs) fun s l _ _ => ?_
  rw [markAll_cell (n := T.stops - 1) _ _ r1 fun q m => by rw [markAll_len]; exact ⟨(hk q m).1, (hk q m).2.2⟩, markAll_cell (n := T.stops - 1) _ _ G.wf.legs fun q m => ⟨(hv q m).1, (hv q m).2.2⟩, markAll_cell (n := T.stops - 1) _ _ G.wf.legs fun q m => ⟨(hg q m).1, (hg q m).2.2⟩]
  by_cases hc : covers ps s l
  · obtain ⟨i1, i2⟩ := covers_in hv hc
    by_cases hl : l < c
    · rw [if_pos (covers_kept.mpr ⟨hc, hl⟩), if_neg (fun z => by have := (covers_gone.mp z).2; omega)]
      exact ((G.cell s l t i1 i2).mpr ⟨_, m, rfl, hc⟩).symm
    · rw [if_neg (fun z => by have := (covers_kept.mp z).2; omega), if_pos hc, if_pos (covers_gone.mpr ⟨hc, by omega⟩)]
  · rw [if_neg (fun z => hc (covers_kept.mp z).1), if_neg hc, if_neg (fun z => hc (covers_gone.mp z).1)]
theorem run_sell_yes {T : Tr} {a b : Int} (h : (T.run ⟨.sell, a, b⟩).word = "") : ∃ b' e' : Nat, a = (b' : Int) ∧ b = (e' : Int) ∧ b' < e' ∧ e' < T.stops ∧ firstFull T.rows b' e' = none ∧ T.run ⟨.sell, a, b⟩ = ⟨"", .num T.coming, T.sell b' e'⟩ := by
  have e0 : T.run ⟨.sell, a, b⟩ = runSell T a b := rfl
  rw [e0] at h ⊢
  unfold runSell at h ⊢
  split at h
  · rename_i hs
    rw [if_pos hs]
    split at h
    · rename_i hf
      rw [if_pos hf]
      obtain ⟨h1, h2, h3⟩ := hs
      exact ⟨a.toNat, b.toNat, by omega, by omega, by omega, by omega, hf, rfl⟩
    · exact absurd (show ("full" : Str) = "" from h) (by decide +kernel)
  · exact absurd (show ("stretch" : Str) = "" from h) (by decide +kernel)
theorem run_none {T : Tr} {k : Kind} {t b : Int} (hk : k ≠ .sell) (h : getS T.sold t = none) : T.run ⟨k, t, b⟩ = ⟨"ticket", .non, T⟩ := by
  cases k with
  | sell => exact absurd rfl hk
  | back =>
    show runBack T t = _
    unfold runBack
    rw [h]
  | leave =>
    show runLeave T t b = _
    unfold runLeave
    rw [h]
  | reseat => exact run_reseat_no h
theorem run_back {T : Tr} {n : Nat} {b : Int} {ps : List P3} (h : getS T.sold (n : Int) = some ps) : T.run ⟨.back, (n : Int), b⟩ = ⟨"", .parts ps, T.back n ps⟩ := by
  show runBack T (n : Int) = _
  unfold runBack
  rw [h]
  rfl
theorem run_leave {T : Tr} {n : Nat} {b : Int} {ps : List P3} (h : getS T.sold (n : Int) = some ps) (hb : ((hdP ps).2.1 : Int) < b ∧ b < ((ltP ps).2.2 : Int)) : T.run ⟨.leave, (n : Int), b⟩ = ⟨"", .parts (goneP ps b.toNat), T.leave n b.toNat ps⟩ := by
  show runLeave T (n : Int) b = _
  unfold runLeave
  rw [h]
  dsimp only
  rw [if_pos hb]
  rfl
theorem run_leave_no {T : Tr} {n : Nat} {b : Int} {ps : List P3} (h : getS T.sold (n : Int) = some ps) (hb : ¬ (((hdP ps).2.1 : Int) < b ∧ b < ((ltP ps).2.2 : Int))) : T.run ⟨.leave, (n : Int), b⟩ = ⟨"stop", .non, T⟩ := by
  show runLeave T (n : Int) b = _
  unfold runLeave
  rw [h]
  dsimp only
  rw [if_neg hb]
theorem run_sell_no {T : Tr} {a b : Int} (h : (T.run ⟨.sell, a, b⟩).word ≠ "") : ∃ w : Str, w ≠ "" ∧ (PyData.str w).canLay0 = true ∧ T.run ⟨.sell, a, b⟩ = ⟨w, .non, T⟩ := by
  have e0 : T.run ⟨.sell, a, b⟩ = runSell T a b := rfl
  rw [e0] at h ⊢
  unfold runSell at h ⊢
  split at h
  · rename_i hs
    rw [if_pos hs]
    split at h
    · exact absurd rfl h
    · rename_i hf
      rw [if_neg hf]
      exact ⟨_, by decide +kernel, by decide +kernel, rfl⟩
  · rename_i hs
    rw [if_neg hs]
    exact ⟨_, by decide +kernel, by decide +kernel, rfl⟩
def spFF (K : PySem.W.Frag) : Sp := fun vs H Q _ => ∃ (r l t : Addr) (as : List Addr) (g : Grid) (n b e : Nat), vs = [.ref r, .ref l, .ref t] ∧ GridAt H r as g ∧ (∀ row ∈ g, row.length = n) ∧ g.length ≤ 1000 ∧ n ≤ 1000 ∧ b < e ∧ e ≤ n ∧ (∀ l, b ≤ l → l < e → fullLeg g l = false) ∧ PartsAt H l (found g b e) ∧ H t = some (.tup [.int (b : Int), .int (e : Int)]) ∧ ∀ H', Ex H H' → Q (.bl true) H'
def spRowOf6 (K : PySem.W.Frag) : Sp := fun vs H Q _ => ∃ (S : Addr → Prop) (p d : Addr) (T : Tr) (a b : Int), vs = [.ref p, .ref d] ∧ TrainAt K H S p T ∧ DeedAt H d ⟨.sell, a, b⟩ ∧
  ((T.run ⟨.sell, a, b⟩).word = "" → ∀ H' l, Ex H H' → H l = none → PartsAt H' l (found T.rows a.toNat b.toNat) → Q (.ref l) H') ∧ ((T.run ⟨.sell, a, b⟩).word ≠ "" → ∀ H' l, Ex H H' → H l = none → H' l = some (.lst [.str (T.run ⟨.sell, a, b⟩).word]) → Q (.ref l) H')
def spOffer6 (K : PySem.W.Frag) : Sp := fun vs H Q _ => ∃ (S : Addr → Prop) (p r t : Addr) (as : List Addr) (T : Tr) (b e : Nat), vs = [.ref p, .ref r, .ref t] ∧ TrainAt K H S p T ∧ GridAt H r as T.rows ∧ H t = some (.tup [.int (b : Int), .int (e : Int)]) ∧ b < e ∧ e < T.stops ∧ ∀ H', Ex H H' → Q (.bl true) H'
def spSoldAnew (K : PySem.W.Frag) : Sp := fun vs H Q _ => ∃ (S : Addr → Prop) (p r c st : Addr) (as : List Addr) (T : Tr) (t : Nat) (g : Grid) (n b e : Nat), vs = [.ref p, .ref r, .ref c, .int (t : Int), .ref st] ∧ TrainAt K H S p T ∧ getS T.sold (t : Int) = some (found g b e) ∧ GridAt H r as g ∧ as.Nodup ∧ r ∉ as ∧ (∀ row ∈ g, row.length = n) ∧ g.length ≤ 1000 ∧ n ≤ 1000 ∧ b < e ∧ e ≤ n ∧ (∀ l, b ≤ l → l < e → fullLeg g l = false) ∧ PartsAt H c (found g b e) ∧ H st = some (.tup [.int (b : Int), .int (e : Int)]) ∧ ∀ H', Beside as H H' → GridAt H' r as (markAll g (found g b e) (some t)) → Q (.bl true) H'
end Lg

namespace Lg
open PySem PySem.Spec PyProof.Rows L2
/-! ### k14: two trains, two worlds, and what was handed out -/
def Own (S U : Nat → Addr → Prop) (a : Addr) : Prop := ∃ j, j < 2 ∧ (S j a ∨ U j a)
def setN {α : Type} (f : Nat → α) (j : Nat) (x : α) : Nat → α := fun i => if i = j then x else f i
theorem setN_same {α : Type} (f : Nat → α) (j : Nat) (x : α) : setN f j x j = x := if_pos rfl
theorem setN_ne {α : Type} {f : Nat → α} {i j : Nat} {x : α} (h : i ≠ j) : setN f j x i = f i := if_neg h
structure Duo (K : PySem.W.Frag) (H0 H : Hp) (p w : Nat → Addr) (T : Nat → Tr) (S U : Nat → Addr → Prop) : Prop where
  ex : Ex H0 H
  two : ∀ j, j < 2 → Two K H (p j) (w j) (T j) (T j) (S j) (U j)
  fresh : ∀ a, Own S U a → H0 a = none
  dj : ∀ i j, i < 2 → j < 2 → i ≠ j → ∀ a, S i a ∨ U i a → ¬ (S j a ∨ U j a)
section
variable {K : PySem.W.Frag} {H0 H H' : Hp} {p w : Nat → Addr} {T : Nat → Tr} {S U : Nat → Addr → Prop}
theorem Duo.live (D : Duo K H0 H p w T S U) {a : Addr} (h : Own S U a) : ∃ o, H a = some o := by
  obtain ⟨j, hj, h⟩ := h
  rcases h with h | h
  · exact (D.two j hj).aS a h
  · exact (D.two j hj).aU a h
theorem Duo.keep (D : Duo K H0 H p w T S U) (e : Ex H0 H') (k : ∀ a o, Own S U a → H a = some o → H' a = some o) (kt : ∀ a xs, H a = some (.tup xs) → H' a = some (.tup xs)) : Duo K H0 H' p w T S U where
  ex := e
  two j hj := by
    have t := D.two j hj
    refine ⟨t.tr.mono (fun a o s h => k a o ⟨j, hj, .inl s⟩ h) kt, t.wo.mono (fun a o s h => k a o ⟨j, hj, .inr s⟩ h) kt, t.dj, fun a s => ?_, fun a s => ?_⟩
    · obtain ⟨o, h⟩ := t.aS a s
      exact ⟨o, k a o ⟨j, hj, .inl s⟩ h⟩
    · obtain ⟨o, h⟩ := t.aU a s
      exact ⟨o, k a o ⟨j, hj, .inr s⟩ h⟩
  fresh := D.fresh
  dj := D.dj
theorem Duo.more (D : Duo K H0 H p w T S U) (e : Ex H H') : Duo K H0 H' p w T S U := D.keep (D.ex.trans e) (fun a o _ h => e a o h) fun a xs h => e a _ h
theorem own_new {j : Nat} {S' U' : Addr → Prop} (hj : j < 2) (m : Mv H H' (fun a => S j a ∨ U j a) (fun a => S' a ∨ U' a)) {a : Addr} (h : Own (setN S j S') (setN U j U') a) : Own S U a ∨ H a = none := by
  obtain ⟨i, hi, h⟩ := h
  by_cases e : i = j
  · subst e
    rw [setN_same, setN_same] at h
    rcases m.new a h with z | z
    · exact .inl ⟨i, hi, z⟩
    · exact .inr z
  · rw [setN_ne e, setN_ne e] at h
    exact .inl ⟨i, hi, h⟩
theorem Duo.step (D : Duo K H0 H p w T S U) {j : Nat} (hj : j < 2) {T' : Tr} {S' U' : Addr → Prop} (m : Mv H H' (fun a => S j a ∨ U j a) (fun a => S' a ∨ U' a)) (t : Two K H' (p j) (w j) T' T' S' U') : Duo K H0 H' p w (setN T j T') (setN S j S') (setN U j U') := by
  have live : ∀ i, i < 2 → ∀ a, S i a ∨ U i a → H a ≠ none := fun i hi a h z => by
    obtain ⟨o, ho⟩ := D.live ⟨i, hi, h⟩
    rw [z] at ho
    cases ho
  refine ⟨fun a o h => m.keep a o (fun z => ?_) (D.ex a o h), fun i hi => ?_, fun a h => ?_, fun i k hi hk hik a h1 h2 => ?_⟩
  · rw [D.fresh a ⟨j, hj, z⟩] at h
    cases h
  · by_cases e : i = j
    · subst e
      rw [setN_same, setN_same, setN_same]
      exact t
    · rw [setN_ne e, setN_ne e, setN_ne e]
      have q := D.two i hi
      have off := D.dj i j hi hj e
      refine ⟨q.tr.mono (fun a o s h => m.keep a o (off a (.inl s)) h) m.tups, q.wo.mono (fun a o s h => m.keep a o (off a (.inr s)) h) m.tups, q.dj, fun a s => ?_, fun a s => ?_⟩
      · obtain ⟨o, h⟩ := q.aS a s
        exact ⟨o, m.keep a o (off a (.inl s)) h⟩
      · obtain ⟨o, h⟩ := q.aU a s
        exact ⟨o, m.keep a o (off a (.inr s)) h⟩
  · rcases own_new hj m h with z | z
    · exact D.fresh a z
    · exact Evl.fresh_back D.ex z
  · by_cases e : i = j
    · subst e
      rw [setN_same, setN_same] at h1
      rw [setN_ne (fun z => hik z.symm), setN_ne (fun z => hik z.symm)] at h2
      rcases m.new a h1 with z | z
      · exact D.dj i k hi hk hik a z h2
      · exact live k hk a h2 z
    · rw [setN_ne e, setN_ne e] at h1
      by_cases e2 : k = j
      · subst e2
        rw [setN_same, setN_same] at h2
        rcases m.new a h2 with z | z
        · exact D.dj i k hi hk hik a h1 z
        · exact live i hi a h1 z
      · rw [setN_ne e2, setN_ne e2] at h2
        exact D.dj i k hi hk hik a h1 h2
/-- all that the law holds -/
structure St (K : PySem.W.Frag) (H0 H : Hp) (p w : Nat → Addr) (T : Nat → Tr) (S U : Nat → Addr → Prop) (X : Addr → Prop) (lt lw lc kp : Addr) (vs : List V) (ks : List Addr) : Prop where
  duo : Duo K H0 H p w T S U
  hlt : H lt = some (.lst [.ref (p 0), .ref (p 1)])
  hlw : H lw = some (.lst [.ref (w 0), .ref (w 1)])
  cel : CellsAt H lc vs
  hkp : H kp = some (.lst (ks.map V.ref))
  off : ∀ a, a = lt ∨ a = lw ∨ a = lc ∨ a = kp → ¬ (Own S U a ∨ X a)
  kept : ∀ k ∈ ks, KeptAt H (fun a => Own S U a ∨ X a) kp kp k
  nk : H0 kp = none ∧ lt ≠ kp ∧ lw ≠ kp ∧ lc ≠ kp
variable {X X' : Addr → Prop} {lt lw lc kp : Addr} {vs : List V} {ks : List Addr}
theorem St.at_ (Z : St K H0 H p w T S U X lt lw lc kp vs ks) {a : Addr} (h : a = lt ∨ a = lw ∨ a = lc ∨ a = kp) : ∃ o, H a = some o := by
  rcases h with rfl | rfl | rfl | rfl
  · exact ⟨_, Z.hlt⟩
  · exact ⟨_, Z.hlw⟩
  · exact ⟨_, Z.cel.1⟩
  · exact ⟨_, Z.hkp⟩
theorem St.more (Z : St K H0 H p w T S U X lt lw lc kp vs ks) (e : Ex H H') (hX : ∀ a, X' a → X a ∨ H a = none) : St K H0 H' p w T S U X' lt lw lc kp vs ks := by
  have key : ∀ a o, ¬ (Own S U a ∨ X a) → H a = some o → ¬ (Own S U a ∨ X' a) := fun a o n h z => by
    rcases z with z | z
    · exact n (.inl z)
    · rcases hX a z with z | z
      · exact n (.inr z)
      · rw [h] at z
        cases z
  refine ⟨Z.duo.more e, e _ _ Z.hlt, e _ _ Z.hlw, Z.cel.mono (fun o h => e _ _ h) (fun a xs h => e _ _ h), e _ _ Z.hkp, fun a h => ?_, fun k m => (Z.kept k m).to (fun a o _ _ _ h => e a o h) (fun a xs h => e a _ h) key, Z.nk⟩
  obtain ⟨o, ho⟩ := Z.at_ h
  exact key a o (Z.off a h) ho
theorem St.step (Z : St K H0 H p w T S U X lt lw lc kp vs ks) {j : Nat} (hj : j < 2) {T' : Tr} {S' U' : Addr → Prop} (m : Mv H H' (fun a => S j a ∨ U j a) (fun a => S' a ∨ U' a)) (t : Two K H' (p j) (w j) T' T' S' U') (hX : ∀ a, X' a → Own S U a ∨ H a = none) :
    St K H0 H' p w (setN T j T') (setN S j S') (setN U j U') X' lt lw lc kp vs ks := by
  have key : ∀ a o, ¬ (Own S U a ∨ X a) → H a = some o → ¬ (Own (setN S j S') (setN U j U') a ∨ X' a) := fun a o n h z => by
    have z2 : Own S U a ∨ H a = none := z.elim (own_new hj m) (hX a)
    rcases z2 with z | z
    · exact n (.inl z)
    · rw [h] at z
      cases z
  have kp' : ∀ a o, ¬ (Own S U a ∨ X a) → H a = some o → H' a = some o := fun a o n h => m.keep a o (fun z => n (.inl ⟨j, hj, z⟩)) h
  refine ⟨Z.duo.step hj m t, kp' _ _ (Z.off _ (.inl rfl)) Z.hlt, kp' _ _ (Z.off _ (.inr (.inl rfl))) Z.hlw, Z.cel.mono (fun o h => kp' _ _ (Z.off _ (.inr (.inr (.inl rfl)))) h) m.tups, kp' _ _ (Z.off _ (.inr (.inr (.inr rfl)))) Z.hkp, fun a h => ?_, fun k mk => (Z.kept k mk).to (fun a o n _ _ h => kp' a o n h) m.tups key, Z.nk⟩
  obtain ⟨o, ho⟩ := Z.at_ h
  exact key a o (Z.off a h) ho
theorem St.grow {l k c : Addr} {xs : List V} {xss : List (List Int)} (Z : St K H0 H p w T S U (fun a => a = l) lt lw lc kp vs ks) (nl : ¬ Own S U l) (l0 : H0 l = none) (hl : H l = some (.lst xs)) (fr : ∀ a o, a ≠ l → a ≠ kp → H a = some o → H' a = some o) (h1 : H' kp = some (.lst ((ks ++ [k]).map V.ref))) (h2 : H' k = some (.lst [.ref l, .ref c])) (t1 : TupsAt H' l xss) (t2 : TupsAt H' c xss) (nk : H k = none) (nc : H c = none) : St K H0 H' p w T S U (fun _ => False) lt lw lc kp vs (ks ++ [k]) := by
  have okp := Z.off kp (.inr (.inr (.inr rfl)))
  have kt : ∀ a xs, H a = some (.tup xs) → H' a = some (.tup xs) := fun a xs h => fr a _ (ne_of h hl (fun z => by cases z)) (ne_of h Z.hkp (fun z => by cases z)) h
  have nlk : l ≠ kp := fun z => okp (.inr z.symm)
  have D : Duo K H0 H' p w T S U := by
    refine Z.duo.keep (fun a o h => fr a o (fun z => ?_) (fun z => ?_) (Z.duo.ex a o h)) (fun a o s h => fr a o (fun z => nl (z ▸ s)) (fun z => okp (.inl (z ▸ s))) h) kt
    · rw [z, l0] at h
      cases h
    · rw [z, Z.nk.1] at h
      cases h
  have fo : ∀ a, H a = none → ¬ (Own S U a ∨ False) ∧ a ≠ kp := fun a h => ⟨fun z => by
    rcases z with z | z
    · obtain ⟨o, ho⟩ := Z.duo.live z
      rw [h] at ho
      cases ho
    · exact z, fun z => by
    rw [z, Z.hkp] at h
    cases h⟩
  have ne : ∀ a, a = lt ∨ a = lw ∨ a = lc ∨ a = kp → a ≠ l := fun a h z => Z.off a h (.inr z)
  refine ⟨D, fr _ _ (ne _ (.inl rfl)) Z.nk.2.1 Z.hlt, fr _ _ (ne _ (.inr (.inl rfl))) Z.nk.2.2.1 Z.hlw, Z.cel.mono (fun o h => fr _ _ (ne _ (.inr (.inr (.inl rfl)))) Z.nk.2.2.2 h) kt, h1, fun a h z => Z.off a h (z.elim .inl (fun z => z.elim)), fun k' m => ?_, Z.nk⟩
  rcases List.mem_append.mp m with m | m
  · exact (Z.kept k' m).to (fun a o n _ n2 h => fr a o (fun z => n (.inr z)) n2 h) kt fun a o n _ z => n (z.elim .inl (fun z => z.elim))
  · rw [List.mem_singleton.mp m]
    refine ⟨l, c, xss, h2, t1, t2, fun a ha => ?_⟩
    rcases ha with rfl | rfl | rfl
    · exact ⟨(fo _ nk).1, (fo _ nk).2, (fo _ nk).2⟩
    · exact ⟨fun z => z.elim nl id, nlk, nlk⟩
    · exact ⟨(fo _ nc).1, (fo _ nc).2, (fo _ nc).2⟩
end
def spChanged (K : PySem.W.Frag) : Sp := fun vs H Q _ => ∃ (v : V) (kp : Addr) (ks : List Addr), vs = [v, .ref kp] ∧ H kp = some (.lst (ks.map V.ref)) ∧ ks.length ≤ 100000 ∧
  ((v = .non ∧ Q .non H) ∨ ∃ (l : Addr) (xs : List V), v = .ref l ∧ l ≠ kp ∧ H l = some (.lst xs) ∧ xs.length ≤ 100000 ∧
    ∀ H' k c xss, (∀ a o, a ≠ l → a ≠ kp → H a = some o → H' a = some o) → H' kp = some (.lst ((ks ++ [k]).map V.ref)) → H' k = some (.lst [.ref l, .ref c]) → TupsAt H' l xss → TupsAt H' c xss → H k = none → H c = none → Q .non H')
theorem c_changedX {K : PySem.W.Frag} {H0 H : Hp} {p w : Nat → Addr} {T : Nat → Tr} {S U : Nat → Addr → Prop} {lt lw lc kp l : Addr} {vs xs : List V} {ks : List Addr} {Q : VK} {E : XK}
    (Z : St K H0 H p w T S U (fun a => a = l) lt lw lc kp vs ks) (nl : ¬ Own S U l) (l0 : H0 l = none) (hl : H l = some (.lst xs)) (hx : xs.length ≤ 100000) (hks : ks.length ≤ 100000)
    (k : ∀ H2 ks', ks'.length = ks.length + 1 → (∀ a o, a ≠ kp → a ≠ l → H a = some o → H2 a = some o) → St K H0 H2 p w T S U (fun _ => False) lt lw lc kp vs ks' → Q .non H2) : spChanged K [.ref l, .ref kp] H Q E := by
  refine ⟨_, kp, ks, rfl, Z.hkp, hks, .inr ⟨l, xs, rfl, fun z => Z.off kp (.inr (.inr (.inr rfl))) (.inr z.symm), hl, hx, fun H' kk c xss fr h1 h2 t1 t2 nk nc => ?_⟩⟩
  exact k H' (ks ++ [kk]) (by rw [List.length_append]; rfl) (fun a o n n2 h => fr a o n2 n h) (Z.grow nl l0 hl fr h1 h2 t1 t2 nk nc)
theorem c_changed {K : PySem.W.Frag} {H0 H H1 : Hp} {p w : Nat → Addr} {T : Nat → Tr} {S U : Nat → Addr → Prop} {X : Addr → Prop} {lt lw lc kp l : Addr} {vs xs : List V} {ks : List Addr} {Q : VK} {E : XK}
    (Z : St K H0 H p w T S U X lt lw lc kp vs ks) (n : H l = none) (e : Ex H H1) (hl : H1 l = some (.lst xs)) (hx : xs.length ≤ 100000) (hks : ks.length ≤ 100000)
    (k : ∀ H2 ks', ks'.length = ks.length + 1 → (∀ a o, a ≠ kp → H a = some o → H2 a = some o) → St K H0 H2 p w T S U (fun _ => False) lt lw lc kp vs ks' → Q .non H2) : spChanged K [.ref l, .ref kp] H1 Q E := by
  refine c_changedX (Z.more e (X' := fun a => a = l) (fun a z => .inr (by rw [z]; exact n))) (fun z => ?_) (Evl.fresh_back Z.duo.ex n) hl hx hks fun H2 ks' h1 fr Z2 => k H2 ks' h1 (fun a o na h => fr a o na (fun z => ?_) (e _ _ h)) Z2
  · obtain ⟨o, ho⟩ := Z.duo.live z
    rw [n] at ho
    cases ho
  · rw [z, n] at h
    cases h
theorem c_changedN {K : PySem.W.Frag} {H : Hp} {kp : Addr} {ks : List Addr} {Q : VK} {E : XK} (h : H kp = some (.lst (ks.map V.ref))) (hks : ks.length ≤ 100000) (k : Q .non H) : spChanged K [.non, .ref kp] H Q E := ⟨_, kp, ks, rfl, h, hks, .inl ⟨rfl, k⟩⟩
def duo {α : Type} (x y : α) : Nat → α := fun j => if j = 0 then x else y
theorem duo_at {f : Nat → Addr} {j : Nat} (h : j < 2) : [f 0, f 1][j]? = some (f j) := by
  match j, h with
  | 0, _ => rfl
  | 1, _ => rfl
theorem Duo.start {K : PySem.W.Frag} {H H1 H2 H3 H4 H5 : Hp} {p0 p1 w0 w1 : Addr} {T : Tr} {S0 S1 U0 U1 : Addr → Prop} (P0 : Play K H H1 p0 T S0) (P1 : Play K H1 H2 p1 T S1) (e3 : Ex H2 H3) (e4 : Ex H3 H4) (W0 : WorldAt H4 U0 w0 T) (u0 : ∀ a, U0 a → H3 a = none ∧ ∃ o, H4 a = some o) (e5 : Ex H4 H5) (W1 : WorldAt H5 U1 w1 T) (u1 : ∀ a, U1 a → H4 a = none ∧ ∃ o, H5 a = some o) :
    Duo K H H5 (duo p0 p1) (duo w0 w1) (fun _ => T) (duo S0 S1) (duo U0 U1) := by
  have no : ∀ {h h' : Hp} {a : Addr}, (∃ o, h a = some o) → Ex h h' → h' a = none → False := fun ⟨o, ho⟩ e n => by
    have := e _ _ ho
    rw [n] at this
    cases this
  have nx : ∀ {h h' : Hp} {a : Addr}, (∃ o, h a = some o) → Ex h h' → ∃ o, h' a = some o := fun ⟨o, ho⟩ e => ⟨o, e _ _ ho⟩
  have x1 := P0.ex
  have x2 := P1.ex
  have s01 : ∀ a, S0 a → ¬ S1 a := fun a h z => no (P0.live a h) (Evl.Ex.refl _) (P1.fresh a z)
  have s0u0 : ∀ a, S0 a → ¬ U0 a := fun a h z => no (P0.live a h) (x2.trans e3) (u0 a z).1
  have s0u1 : ∀ a, S0 a → ¬ U1 a := fun a h z => no (P0.live a h) ((x2.trans e3).trans e4) (u1 a z).1
  have s1u0 : ∀ a, S1 a → ¬ U0 a := fun a h z => no (P1.live a h) e3 (u0 a z).1
  have s1u1 : ∀ a, S1 a → ¬ U1 a := fun a h z => no (P1.live a h) (e3.trans e4) (u1 a z).1
  have u01 : ∀ a, U0 a → ¬ U1 a := fun a h z => no (u0 a h).2 (Evl.Ex.refl _) (u1 a z).1
  have cs : ∀ j, j < 2 → j = 0 ∨ j = 1 := fun j h => by omega
  refine ⟨x1.trans (x2.trans (e3.trans (e4.trans e5))), fun j hj => ?_, fun a ⟨j, hj, h⟩ => ?_, fun i j hi hj hij a h z => ?_⟩
  · rcases cs j hj with rfl | rfl
    · exact ⟨P0.tr.ex (x2.trans (e3.trans (e4.trans e5))), W0.ex e5, s0u0, fun a h => nx (P0.live a h) (x2.trans (e3.trans (e4.trans e5))), fun a h => nx (u0 a h).2 e5⟩
    · exact ⟨P1.tr.ex (e3.trans (e4.trans e5)), W1, s1u1, fun a h => nx (P1.live a h) (e3.trans (e4.trans e5)), fun a h => (u1 a h).2⟩
  · rcases cs j hj with rfl | rfl
    · rcases h with h | h
      · exact P0.fresh a h
      · exact Evl.fresh_back (x1.trans (x2.trans e3)) (u0 a h).1
    · rcases h with h | h
      · exact Evl.fresh_back x1 (P1.fresh a h)
      · exact Evl.fresh_back (x1.trans (x2.trans (e3.trans e4))) (u1 a h).1
  · rcases cs i hi with rfl | rfl
    · rcases cs j hj with rfl | rfl
      · exact hij rfl
      · rcases h with h | h
        · rcases z with z | z
          · exact s01 a h z
          · exact s0u1 a h z
        · rcases z with z | z
          · exact s1u0 a z h
          · exact u01 a h z
    · rcases cs j hj with rfl | rfl
      · rcases h with h | h
        · rcases z with z | z
          · exact s01 a z h
          · exact s1u0 a h z
        · rcases z with z | z
          · exact s0u1 a z h
          · exact u01 a z h
      · exact hij rfl
theorem v_slTop2 {K : PySem.W.Frag} {H : Hp} {Q : VK} {p : Addr} {xs : List V} (h : H p = some (.lst xs)) (k : ∀ l H2, H l = none → Ex H H2 → H2 l = some (.lst (xs.take 2)) → Q (.ref l) H2) : rSlL K (.ref p) none (some 2) H Q := by
  refine ⟨p, _, rfl, SqL.of h, fun l hl => k l _ hl (Evl.Ex.new hl) ?_⟩
  rw [upd_same]
  unfold cutV
  rw [HT.sIx_none, show (2 : Int) = ((2 : Nat) : Int) from rfl, HT.sIx_nat, List.drop_zero, Nat.sub_zero]
  by_cases hc : 2 ≤ xs.length
  · rw [Nat.min_eq_left hc]
  · rw [Nat.min_eq_right (by omega), List.take_of_length_le (Nat.le_refl _), List.take_of_length_le (by omega)]
theorem run_kind {T : Tr} {x : Deed} (h : x.k ≠ .sell) : (T.run x).res = .non ∨ ∃ ps, (T.run x).res = .parts ps := by
  obtain ⟨k, a, b⟩ := x
  cases k with
  | sell => exact absurd rfl h
  | back =>
    show (runBack T a).res = .non ∨ ∃ ps, (runBack T a).res = .parts ps
    unfold runBack
    split
    · exact .inl rfl
    · exact .inr ⟨_, rfl⟩
  | leave =>
    show (runLeave T a b).res = .non ∨ ∃ ps, (runLeave T a b).res = .parts ps
    unfold runLeave
    split
    · exact .inl rfl
    · split
      · exact .inr ⟨_, rfl⟩
      · exact .inl rfl
  | reseat =>
    show (runReseat T a).res = .non ∨ ∃ ps, (runReseat T a).res = .parts ps
    unfold runReseat
    split
    · exact .inl rfl
    · exact .inr ⟨_, rfl⟩
def Fit (n1 n2 i : Nat) (T : Tr) : Prop := Good T ∧ T.stops = n2 ∧ T.rows.length = n1 ∧ T.coming ≤ i
/-- a deed, done by a train and by its world -/
theorem St.deed {K : PySem.W.Frag} {H0 H H1 H2 : Hp} {p w : Nat → Addr} {T : Nat → Tr} {S U : Nat → Addr → Prop} {X : Addr → Prop} {lt lw lc kp : Addr} {vs : List V} {ks : List Addr} {j : Nat} {x : Deed} {S' U' : Addr → Prop} {v : V} {n1 n2 i : Nat}
    (Z : St K H0 H p w T S U X lt lw lc kp vs ks) (hj : j < 2) (F : ∀ j, j < 2 → Fit n1 n2 i (T j)) (mv : Mv H H1 (S j) S') (A : TrainAt K H1 S' (p j) ((T j).run x).tr) (rv : ResV H H1 (S j) S' ((T j).run x).res v) (mv2 : Mv H1 H2 (U j) U') (W : WorldAt H2 U' (w j) ((T j).run x).tr) :
    ∃ (T2 : Nat → Tr) (S2 U2 : Nat → Addr → Prop), St K H0 H2 p w T2 S2 U2 (fun a => v = .ref a) lt lw lc kp vs ks ∧ (∀ j, j < 2 → Fit n1 n2 (i + 1) (T2 j)) ∧
      ∀ l, v = .ref l → ¬ Own S2 U2 l ∧ H0 l = none ∧ ∀ ps, ((T j).run x).res = .parts ps → PartsAt H2 l ps := by
  have D := Z.duo
  obtain ⟨S2, two2, hS2⟩ := (D.two j hj).train mv A
  obtain ⟨U2, two3, hU2⟩ := two2.world mv2 W
  obtain ⟨G', hst', hrl', hco1, hco2⟩ := (F j hj).1.run x
  have m1 : Mv H H1 (fun a => S j a ∨ U j a) (fun a => S2 a ∨ U j a) := ⟨mv.orL.keep, mv.tups, fun a h => mv.orL.new a (h.imp (fun z => (hS2 a z).1) id)⟩
  have m2 : Mv H1 H2 (fun a => S2 a ∨ U j a) (fun a => S2 a ∨ U2 a) := ⟨fun a o n h => mv2.keep a o (fun z => n (.inr z)) h, mv2.tups, fun a h => h.elim (fun z => .inl (.inl z)) (fun z => (hU2 a z).2.imp .inr id)⟩
  have live : ∀ {a}, Own S U a → H a ≠ none := fun h z => by
    obtain ⟨o, ho⟩ := D.live h
    rw [z] at ho
    cases ho
  have told : ∀ l, v = .ref l → ∃ ps, ((T j).run x).res = .parts ps ∧ (S j l ∨ H l = none) ∧ ¬ S' l ∧ PartsAt H1 l ps := fun l hl => by
    revert rv
    cases ((T j).run x).res with
    | non =>
      intro rv
      have rv : v = .non := rv
      rw [rv] at hl
      cases hl
    | num n =>
      intro rv
      have rv : v = .int n := rv
      rw [rv] at hl
      cases hl
    | parts ps =>
      rintro ⟨l', h1, h2, h3, h4⟩
      rw [h1] at hl
      cases hl
      exact ⟨ps, rfl, h2, h3, h4⟩
  refine ⟨_, _, _, Z.step hj (m1.trans m2) two3 (X' := fun a => v = .ref a) fun a h => ?_, fun k hk => ?_, fun l hl => ?_⟩
  · obtain ⟨ps, _, h2, _⟩ := told a h
    exact h2.imp (fun z => ⟨j, hj, .inl z⟩) id
  · by_cases e : k = j
    · subst e
      rw [setN_same]
      obtain ⟨f1, f2, f3, f4⟩ := F k hk
      exact ⟨G', by omega, by omega, by omega⟩
    · rw [setN_ne e]
      obtain ⟨f1, f2, f3, f4⟩ := F k hk
      exact ⟨f1, f2, f3, by omega⟩
  · obtain ⟨ps, hr, h2, h3, h4⟩ := told l hl
    have nU : ¬ U j l := fun z => by
      rcases h2 with h | h
      · exact (D.two j hj).dj l h z
      · exact live ⟨j, hj, .inr z⟩ h
    have nH1 : H1 l ≠ none := fun z => by
      obtain ⟨ts, h, _⟩ := h4
      rw [z] at h
      cases h
    refine ⟨fun ⟨k, hk, h⟩ => ?_, ?_, fun ps' hp => ?_⟩
    · by_cases e : k = j
      · subst e
        rw [setN_same, setN_same] at h
        rcases h with h | h
        · exact h3 (hS2 l h).1
        · rcases (hU2 l h).2 with z | z
          · exact nU z
          · exact nH1 z
      · rw [setN_ne e, setN_ne e] at h
        rcases h2 with z | z
        · exact D.dj k j hk hj e l h (.inl z)
        · exact live ⟨k, hk, h⟩ z
    · rcases h2 with z | z
      · exact D.fresh l ⟨j, hj, .inl z⟩
      · exact Evl.fresh_back D.ex z
    · rw [hr] at hp
      cases hp
      exact parts_at h4 (fun o z => mv2.keep _ _ nU z) mv2.tups
end Lg

namespace Lg
open PySem PySem.Spec PyProof.Rows L2 TL
/-! ### texts: the plain side -/
def isNum (l : List Nat) : Bool := l.all (fun c => decide (48 ≤ c) && decide (c ≤ 57)) && !l.isEmpty && decide (l.length ≤ 9) && (decide (l.length = 1) || decide (l.head? ≠ some 48))
def numOf (z : Str) : Option Nat := if isNum (tl z) = true then some (NumText.digitsVal (tl z)) else none
def numbersOf (z w : Str) : Option (List Nat) := match Txt.split z " " with
  | [] => none
  | a :: r => if a = w then r.mapM numOf else none
def goesBad (acc : List P3) (a b : Nat) : Bool := match acc.getLast? with
  | some q => decide (q.2.2 ≠ b) || decide (q.1 = a)
  | none => false
def partsGo (T : Tr) : List P3 → List Nat → Str × List P3
  | acc, a :: b :: c :: r => if ¬ a < T.rows.length then ("seat", acc) else if ¬ (b < c ∧ c < T.stops) then ("stretch", acc) else if goesBad acc a b = true then ("stretch", acc)
    else if reach (T.rows[a]?.getD []) b < c then ("shared", acc) else partsGo T (acc ++ [(a, b, c)]) r
  | acc, _ => ("", acc)
def Tr.put (T : Tr) (t : Nat) (ps : List P3) : Tr := { T with rows := markAll T.rows ps (some t), sold := putS T.sold t ps, coming := t + 1 }
def readGo (c : Nat) : Tr → List (List Nat) → Str × Tr
  | T, (t :: ns) :: r => if c ≤ t ∨ t < T.coming then ("ticket", T) else if (partsGo T [] ns).1 = "" then readGo c (T.put t (partsGo T [] ns).2) r else ((partsGo T [] ns).1, T)
  | T, _ => ("", T)
def headOk (h : List Nat) (ts : List (List Nat)) : Bool := decide (h.length = 3) && ts.all fun t => decide (3 < t.length) && decide (t.length % 3 = 1)
def readH (h : List Nat) (ts : List (List Nat)) : Str × Tr := match h with
  | [a, b, c] => if 1 ≤ a ∧ a ≤ 60 ∧ 2 ≤ b ∧ b ≤ 60 then ((readGo c (Tr.new a b) ts).1, { (readGo c (Tr.new a b) ts).2 with coming := c }) else ("train", Tr.new 1 2)
  | _ => ("text", Tr.new 1 2)
def readT (z : Str) : Str × Tr := match Txt.split z "\n" with
  | [] => ("text", Tr.new 1 2)
  | a :: r => match numbersOf a "train", r.mapM (fun x => numbersOf x "ticket") with
    | some h, some ts => if headOk h ts = true then readH h ts else ("text", Tr.new 1 2)
    | _, _ => ("text", Tr.new 1 2)
/-- a number's text -/
def nT (n : Nat) : Str := Str.ofString (toString ((n : Nat) : Int))
def partW (q : P3) : List Str := [nT q.1, nT q.2.1, nT q.2.2]
def wordsT (x : Nat × List P3) : List Str := "ticket" :: nT x.1 :: (x.2.map partW).flatten
def headW (T : Tr) : List Str := ["train", nT T.rows.length, nT T.stops, nT T.coming]
def textT (T : Tr) : Str := Txt.join "\n" (Txt.join " " (headW T) :: T.sold.map fun x => Txt.join " " (wordsT x))
theorem log_ok {n : Nat} (h : n < 1000000000) : ((n : Int)).natAbs.log2 < 1920 := by
  rw [Int.natAbs_natCast]
  by_cases h0 : n = 0
  · rw [h0]
    decide
  · exact Nat.lt_of_lt_of_le ((Nat.log2_lt h0 (k := 30)).mpr (Nat.lt_of_lt_of_le h (by decide))) (by decide)
section
variable {K : PySem.W.Frag} {σ : L2.St} {H : Hp} {Q : VK} {nx bk ct : L2.St → Hp → Prop} {rt : VK}
theorem fr_str {z : Str} {g : TG} {tb : TS} (Pv : Nat → L2.St → Hp → Prop) (h0 : Pv 0 σ H)
    (hs : ∀ (i c : Nat) σ H, (tl z)[i]? = some c → Pv i σ H → g (.str ⟨#[c]⟩) σ H fun σ2 H2 => tb ⟨Pv (i + 1), rt, nx, Pv (i + 1)⟩ σ2 H2) (hd : ∀ σ H, Pv (tl z).length σ H → nx σ H) : ForR g tb ⟨nx, rt, bk, ct⟩ σ (Its z) H := by
  have hsz : (tl z).length = z.cps.size := by unfold tl; rw [Array.length_toList]
  refine ⟨fun i m σ H => m = (tl z).length - i ∧ i ≤ (tl z).length ∧ Pv i σ H, ⟨_, rfl, Nat.zero_le _, h0⟩, ?_⟩
  rintro i m σ H ⟨rfl, hi, p⟩
  by_cases hlt : i < (tl z).length
  · refine .inr ⟨show i < z.cps.size by rw [← hsz]; exact hlt, Pv (i + 1), fun σ' H' p' => ⟨_, by omega, rfl, hlt, p'⟩, fun x H' y => ?_⟩
    obtain ⟨rfl, c, hc, rfl⟩ := y
    exact hs i c σ _ (by rw [← hc]; unfold tl; rw [Array.getElem?_toList]) p
  · have e : i = (tl z).length := by omega
    subst e
    exact .inl ⟨show z.cps.size ≤ (tl z).length by rw [hsz]; exact Nat.le_refl _, hd σ H p⟩
theorem fr_range3 {lo c : Int} {n : Nat} {g : TG} {tb : TS} (Pv : Nat → L2.St → Hp → Prop) (h0 : Pv 0 σ H)
    (hs : ∀ (i : Nat) σ H, i < n → Pv i σ H → g (.int (lo + (i : Int) * c)) σ H fun σ2 H2 => tb ⟨Pv (i + 1), rt, nx, Pv (i + 1)⟩ σ2 H2) (hd : ∀ σ H, Pv n σ H → nx σ H) : ForR g tb ⟨nx, rt, bk, ct⟩ σ (Itc lo c n) H := by
  refine ⟨fun i m σ H => m = n - i ∧ i ≤ n ∧ Pv i σ H, ⟨_, rfl, Nat.zero_le _, h0⟩, ?_⟩
  rintro i m σ H ⟨rfl, hi, p⟩
  by_cases hlt : i < n
  · refine .inr ⟨hlt, Pv (i + 1), fun σ' H' p' => ⟨_, by omega, rfl, hlt, p'⟩, fun x H' y => ?_⟩
    obtain ⟨rfl, rfl⟩ := y
    exact hs i σ _ hlt p
  · have e : i = n := by omega
    subst e
    exact .inl ⟨Nat.le_refl _, hd σ H p⟩
theorem s_tM1 {r : V → List V → Hp → VK → Prop} {to te : TE} (h : to σ H fun x H1 => (∃ a, x = .str a) ∧ te σ H1 fun y H2 => r x [y] H2 Q) : tM1 r to te σ H Q := h
theorem s_strAnd {a : Str} {P : Prop} (k : P) : (∃ b, V.str a = .str b) ∧ P := ⟨⟨a, rfl⟩, k⟩
theorem v_split {a b : Str} (hb : (b.length == 0) = false) (hz : a.length + 2 ≤ sizeLine) (k : ∀ l H2, H l = none → Ex H H2 → H2 l = some (.lst ((Txt.split a b).map V.str)) → Q (.ref l) H2) :
    ∃ a' b', V.str a = .str a' ∧ [V.str b] = [.str b'] ∧ (b'.length == 0) = false ∧ a'.length + 2 ≤ sizeLine ∧ rNewStrs (Txt.split a' b') H Q :=
  ⟨a, b, rfl, rfl, hb, hz, fun l hl => k l _ hl (Evl.Ex.new hl) upd_same⟩
end
theorem figs {c : Nat} : c ∈ (("0123456789" : Str)).cps.toList ↔ 48 ≤ c ∧ c ≤ 57 := by
  rw [show (("0123456789" : Str)).cps.toList = [48, 49, 50, 51, 52, 53, 54, 55, 56, 57] by decide +kernel]
  simp only [List.mem_cons, List.not_mem_nil, or_false]
  omega
theorem nT_tl (n : Nat) : tl (nT n) = numL n := tl_num n
theorem nT_len {n : Nat} (h : n < 1000000000) : (nT n).length ≤ 9 := by
  rw [len_tl, nT_tl]
  exact numL_len (k := 9) (by decide) h
theorem joinL_len (S : List Nat) : ∀ ps : List (List Nat), (joinL S ps).length ≤ (ps.map List.length).sum + ps.length * S.length
  | [] => Nat.zero_le _
  | [p] => by simp [joinL]
  | p :: q :: r => by
    have ih := joinL_len S (q :: r)
    simp only [joinL, List.length_append, List.map_cons, List.sum_cons, List.length_cons] at ih ⊢
    have e : (r.length + 1 + 1) * S.length = (r.length + 1) * S.length + S.length := by rw [Nat.add_mul, Nat.one_mul]
    omega
theorem join_len (y : Str) (ps : List Str) : (Txt.join y ps).length ≤ (ps.map (·.length)).sum + ps.length * y.length := by
  rw [len_tl, join_eq, tl_join]
  have h := joinL_len (tl y) (ps.map tl)
  rw [List.map_map, List.length_map, ← len_tl] at h
  have e : (List.length ∘ tl) = fun x : Str => x.length := by
    funext x
    exact (len_tl x).symm
  rw [e] at h
  exact h
theorem sum_le {b : Nat} : ∀ {l : List Nat}, (∀ x ∈ l, x ≤ b) → l.sum ≤ l.length * b
  | [], _ => Nat.zero_le _
  | x :: r, h => by
    have h1 := h x List.mem_cons_self
    have h2 := sum_le (l := r) fun y m => h y (List.mem_cons_of_mem _ m)
    rw [List.sum_cons, List.length_cons, Nat.add_mul, Nat.one_mul]
    omega
theorem sum_len {b : Nat} {ps : List Str} (h : ∀ x ∈ ps, x.length ≤ b) : (ps.map (·.length)).sum ≤ ps.length * b := by
  have := sum_le (l := ps.map (·.length)) (b := b) fun n m => by
    obtain ⟨x, mx, rfl⟩ := List.mem_map.mp m
    exact h x mx
  rwa [List.length_map] at this
theorem head_text (x y z : Str) : (("train " : Str) ++ x ++ " " ++ y ++ " " ++ z) = Txt.join " " ["train", x, y, z] := by
  apply ext_tl
  rw [join_eq, tl_join]
  simp only [tl_append, List.map_cons, List.map_nil, joinL]
  rw [show tl ("train " : Str) = tl ("train" : Str) ++ tl (" " : Str) by decide +kernel]
  simp only [List.append_assoc]
theorem words_len {x : Nat × List P3} {seats e b : Nat} (h : x.1 < 1000000000) (w : Way seats b e x.2) (hs : seats ≤ 60) (he : e ≤ 60) : (∀ y ∈ wordsT x, y.length ≤ 9) ∧ (wordsT x).length = 2 + 3 * x.2.length := by
  refine ⟨fun y m => ?_, ?_⟩
  · unfold wordsT at m
    rcases List.mem_cons.mp m with rfl | m
    · decide +kernel
    rcases List.mem_cons.mp m with rfl | m
    · exact nT_len h
    obtain ⟨l, ml, my⟩ := List.mem_flatten.mp m
    obtain ⟨q, mq, rfl⟩ := List.mem_map.mp ml
    have := w.mem q mq
    unfold partW at my
    simp only [List.mem_cons, List.not_mem_nil, or_false] at my
    rcases my with rfl | rfl | rfl
    · exact nT_len (by omega)
    · exact nT_len (by omega)
    · exact nT_len (by omega)
  · unfold wordsT
    rw [List.length_cons, List.length_cons, List.length_flatten, List.map_map]
    have e : (List.length ∘ partW) = fun _ => 3 := by
      funext q
      rfl
    rw [e, List.map_const', List.sum_replicate_nat]
    omega
theorem flat_len (ps : List P3) : ((ps.map partW).flatten).length = 3 * ps.length := by
  rw [List.length_flatten, List.map_map]
  have e : (List.length ∘ partW) = fun _ => 3 := by
    funext q
    rfl
  rw [e, List.map_const', List.sum_replicate_nat]
  omega
theorem flat_snoc {ps : List P3} {j : Nat} {q : P3} (h : ps[j]? = some q) : ((ps.take (j + 1)).map partW).flatten = ((ps.take j).map partW).flatten ++ partW q := by
  rw [take_snoc h, List.map_append, List.flatten_append]
  simp
theorem joinL_snoc (S q : List Nat) : ∀ {ps : List (List Nat)}, ps ≠ [] → joinL S (ps ++ [q]) = joinL S ps ++ (S ++ q)
  | [], h => absurd rfl h
  | [p], _ => rfl
  | p :: p2 :: r, _ => by
    have ih := joinL_snoc S q (ps := p2 :: r) (by simp)
    show p ++ (S ++ joinL S ((p2 :: r) ++ [q])) = p ++ (S ++ joinL S (p2 :: r)) ++ (S ++ q)
    rw [ih]
    simp only [List.append_assoc]
theorem join_snoc {y : Str} {ws : List Str} (h : ws ≠ []) (a : Str) : Txt.join y (ws ++ [a]) = Txt.join y ws ++ y ++ a := by
  apply ext_tl
  rw [join_eq, join_eq, tl_join, tl_append, tl_append, tl_join, List.map_append, List.map_cons, List.map_nil, joinL_snoc _ _ (by simpa using h), List.append_assoc]
theorem row_snoc {n j : Nat} {ps : List P3} {q : P3} (h : ps[j]? = some q) : Txt.join " " (wordsT (n, ps.take (j + 1))) = Txt.join " " (wordsT (n, ps.take j)) ++ " " ++ nT q.1 ++ " " ++ nT q.2.1 ++ " " ++ nT q.2.2 := by
  have e : wordsT (n, ps.take (j + 1)) = ((wordsT (n, ps.take j) ++ [nT q.1]) ++ [nT q.2.1]) ++ [nT q.2.2] := by
    unfold wordsT
    dsimp only
    rw [flat_snoc h]
    unfold partW
    simp only [List.cons_append, List.append_assoc, List.nil_append]
  have ne : wordsT (n, ps.take j) ≠ [] := by
    unfold wordsT
    simp
  rw [e, join_snoc (by simp), join_snoc (by simp), join_snoc ne]
theorem row_len {n : Nat} {ps : List P3} (h : n < 1000000000) (hq : ∀ q ∈ ps, q.1 < 1000 ∧ q.2.1 < 1000 ∧ q.2.2 < 1000) : (Txt.join " " (wordsT (n, ps))).length ≤ 30 * ps.length + 20 := by
  have hl : (wordsT (n, ps)).length = 2 + 3 * ps.length := by
    unfold wordsT
    rw [List.length_cons, List.length_cons, flat_len]
    dsimp only
    omega
  have hy : ∀ y ∈ wordsT (n, ps), y.length ≤ 9 := fun y m => by
    unfold wordsT at m
    rcases List.mem_cons.mp m with rfl | m
    · decide +kernel
    rcases List.mem_cons.mp m with rfl | m
    · exact nT_len h
    obtain ⟨l, ml, my⟩ := List.mem_flatten.mp m
    obtain ⟨q, mq, rfl⟩ := List.mem_map.mp ml
    have := hq q mq
    unfold partW at my
    simp only [List.mem_cons, List.not_mem_nil, or_false] at my
    rcases my with rfl | rfl | rfl
    · exact nT_len (by omega)
    · exact nT_len (by omega)
    · exact nT_len (by omega)
  have h1 := join_len " " (wordsT (n, ps))
  have h2 := sum_len hy
  rw [show (" " : Str).length = 1 by decide +kernel, hl] at h1
  rw [hl] at h2
  omega
theorem ticket_text (n : Nat) : (("ticket " : Str) ++ nT n) = Txt.join " " (wordsT (n, [])) := by
  apply ext_tl
  rw [join_eq, tl_join, tl_append]
  show _ = joinL _ [tl ("ticket" : Str), tl (nT n)]
  rw [show tl ("ticket " : Str) = tl ("ticket" : Str) ++ tl (" " : Str) by decide +kernel]
  show _ = tl ("ticket" : Str) ++ (tl (" " : Str) ++ tl (nT n))
  rw [List.append_assoc]
theorem text_sum {T0 : Tr} (G : Good T0) (hco : T0.coming < 2000) : ((Txt.join " " (headW T0) :: T0.sold.map fun x => Txt.join " " (wordsT x)).map (·.length)).sum + (Txt.join " " (headW T0) :: T0.sold.map fun x => Txt.join " " (wordsT x)).length * ("\n" : Str).length ≤ 16777216 := by
  have wf := G.wf
  have w1 := wf.s1
  have w2 := wf.s2
  have w3 := wf.t1
  have w4 := wf.t2
  have hmany := G.many
  have ls : (" " : Str).length = 1 := by decide +kernel
  have h1 : ∀ y ∈ (Txt.join " " (headW T0) :: T0.sold.map fun x => Txt.join " " (wordsT x)), y.length ≤ 3000 := fun y m => by
    rcases List.mem_cons.mp m with rfl | m
    · have := join_len " " (headW T0)
      have e : ((headW T0).map (·.length)).sum ≤ 40 := by
        have h5 : ("train" : Str).length = 5 := by decide +kernel
        show ("train" : Str).length + ((nT T0.rows.length).length + ((nT T0.stops).length + ((nT T0.coming).length + 0))) ≤ 40
        have := nT_len (n := T0.rows.length) (by omega)
        have := nT_len (n := T0.stops) (by omega)
        have := nT_len (n := T0.coming) (by omega)
        omega
      rw [ls] at this
      have : (headW T0).length = 4 := rfl
      omega
    · obtain ⟨x, mx, rfl⟩ := List.mem_map.mp m
      obtain ⟨b, e, hb, he, w⟩ := G.way x mx
      have hlow := G.low x mx
      have hlen := w.len
      have wl := words_len (x := x) (by omega) w w2 (by omega)
      have h2 := join_len " " (wordsT x)
      have h3 := sum_len wl.1
      rw [ls, wl.2] at h2
      rw [wl.2] at h3
      omega
  have h2 := sum_len h1
  have ln : ("\n" : Str).length = 1 := by decide +kernel
  rw [ln]
  rw [List.length_cons, List.length_map] at *
  omega
theorem mapM_some {α β : Type} {f : α → Option β} (d : β) : ∀ {r : List α} {ns : List β}, r.mapM f = some ns → r.map (fun z => (f z).getD d) = ns ∧ ∀ z ∈ r, ∃ n, f z = some n
  | [], ns, h => by
    rw [List.mapM_nil] at h
    cases h
    exact ⟨rfl, fun z m => by cases m⟩
  | a :: r, ns, h => by
    rw [List.mapM_cons] at h
    cases ha : f a with
    | none =>
      rw [ha] at h
      cases h
    | some n =>
      cases hr : r.mapM f with
      | none =>
        rw [ha, hr] at h
        cases h
      | some ms =>
        rw [ha, hr] at h
        cases h
        obtain ⟨h1, h2⟩ := mapM_some d hr
        refine ⟨by rw [List.map_cons, ha, h1]; rfl, fun z m => ?_⟩
        rcases List.mem_cons.mp m with rfl | m
        · exact ⟨n, ha⟩
        · exact h2 z m
theorem mapM_of {α β : Type} {f : α → Option β} {g : α → β} : ∀ {r : List α}, (∀ z ∈ r, f z = some (g z)) → r.mapM f = some (r.map g)
  | [], _ => rfl
  | a :: r, h => by
    rw [List.mapM_cons, h a List.mem_cons_self, mapM_of (r := r) fun z m => h z (List.mem_cons_of_mem _ m)]
    rfl
theorem numOf_len {z : Str} {n : Nat} (h : numOf z = some n) : z.length ≤ 9 := by
  unfold numOf at h
  split at h
  · rename_i h1
    unfold isNum at h1
    simp only [Bool.and_eq_true, decide_eq_true_eq] at h1
    rw [len_tl]
    exact h1.1.2
  · cases h
theorem v_slDrop1 {K : PySem.W.Frag} {H : Hp} {Q : VK} {p : Addr} {x : V} {xs : List V} (h : H p = some (.lst (x :: xs))) (k : ∀ l H2, H l = none → Ex H H2 → H2 l = some (.lst xs) → Q (.ref l) H2) : rSlL K (.ref p) (some 1) none H Q := by
  refine ⟨p, _, rfl, SqL.of h, fun l hl => k l _ hl (Evl.Ex.new hl) ?_⟩
  rw [upd_same]
  unfold cutV
  rw [HT.sIx_none, show (1 : Int) = ((1 : Nat) : Int) from rfl, HT.sIx_nat, List.length_cons, Nat.min_eq_left (by omega), List.drop_one, List.tail_cons, List.take_of_length_le (by omega)]
theorem rg3 {m : Nat} (hm : m % 3 = 0) (hb : m ≤ 1000000) : RgC 1 ((m + 1 : Nat) : Int) 3 (m / 3) := by
  have e : Builtin.Range.rangeSize 1 ((m + 1 : Nat) : Int) 3 = ((m / 3 : Nat) : Int) := by
    unfold Builtin.Range.rangeSize
    rw [if_pos (by decide)]
    split <;> omega
  refine ⟨by decide, by decide, ?_, e⟩
  obtain ⟨j, hj⟩ : ∃ j : Int, j = ((m + 1 : Nat) : Int) := ⟨_, rfl⟩
  obtain ⟨k, hk⟩ : ∃ k : Int, k = ((m / 3 : Nat) : Int) := ⟨_, rfl⟩
  have h1 : 1 ≤ j ∧ j ≤ 1000001 := by omega
  have h2 : 0 ≤ k ∧ k ≤ 1000000 ∧ 3 * k + 1 = j := by omega
  rw [← hj, ← hk] at e
  rw [← hj]
  clear hj hk
  have f : ∀ i : Int, -9000000 ≤ i → i ≤ 9000000 → Builtin.Range.rangeFitsLong i = true := fun i a b => by
    unfold Builtin.Range.rangeFitsLong
    rw [decide_eq_true (show -(2 ^ 63) ≤ i by omega), decide_eq_true (show i < 2 ^ 63 by omega)]
    rfl
  unfold Builtin.Range.small
  rw [e]
  rw [f 1 (by omega) (by omega), f j (by omega) (by omega), f 3 (by omega) (by omega), f k (by omega) (by omega), if_pos (by decide), f (j + (3 - 1)) (by omega) (by omega), Bool.or_true]
  rfl
theorem drop3 {ns : List Nat} {i : Nat} (h : 3 * i + 2 < ns.length) : ∃ a b c, ns[3 * i]? = some a ∧ ns[3 * i + 1]? = some b ∧ ns[3 * i + 2]? = some c ∧ ns.drop (3 * i) = a :: b :: c :: ns.drop (3 * (i + 1)) := by
  refine ⟨ns[3 * i], ns[3 * i + 1], ns[3 * i + 2], List.getElem?_eq_getElem (by omega), List.getElem?_eq_getElem (by omega), List.getElem?_eq_getElem (by omega), ?_⟩
  rw [List.drop_eq_getElem_cons (by omega), List.drop_eq_getElem_cons (i := 3 * i + 1) (by omega), List.drop_eq_getElem_cons (i := 3 * i + 1 + 1) (by omega)]
  rfl
theorem partsGo_cons (T : Tr) (acc : List P3) (a b c : Nat) (r : List Nat) : partsGo T acc (a :: b :: c :: r) = (if ¬ a < T.rows.length then (("seat" : Str), acc) else if ¬ (b < c ∧ c < T.stops) then (("stretch" : Str), acc) else if goesBad acc a b = true then (("stretch" : Str), acc)
    else if reach (T.rows[a]?.getD []) b < c then (("shared" : Str), acc) else partsGo T (acc ++ [(a, b, c)]) r) := by rw [partsGo]
theorem PartsAt.snoc {H H' : Hp} {l t : Addr} {ps : List P3} {a b c : Nat} (h : PartsAt H l ps) (nt : l ≠ t) (ht : H t = some (.tup [.int (a : Int), .int (b : Int), .int (c : Int)])) (ch : Ch H H' l) (ts : List Addr) (hl : H l = some (.lst (ts.map V.ref))) (h' : H' l = some (.lst (ts.map V.ref ++ [.ref t]))) : PartsAt H' l (ps ++ [(a, b, c)]) := by
  obtain ⟨us, h1, h2⟩ := h
  have e : us = ts := by
    rw [hl] at h1
    have h3 : ts.map V.ref = us.map V.ref := by injection h1 with z; injection z
    have inj : ∀ {x y : List Addr}, x.map V.ref = y.map V.ref → x = y := fun {x} => by
      induction x with
      | nil =>
        intro y h
        cases y with
        | nil => rfl
        | cons y r => cases h
      | cons x r ih =>
        intro y h
        cases y with
        | nil => cases h
        | cons y q =>
          injection h with h4 h5
          injection h4 with h4
          rw [h4, ih h5]
    exact (inj h3).symm
  subst e
  refine ⟨us ++ [t], by rw [h', List.map_append]; rfl, (h2.mono fun x y z => ?_).snoc ?_⟩
  · exact ch_tup ch z
  · exact ch_tup ch ht
theorem readGo_cons (c : Nat) (T : Tr) (t : Nat) (ns : List Nat) (r : List (List Nat)) : readGo c T ((t :: ns) :: r) = (if c ≤ t ∨ t < T.coming then (("ticket" : Str), T) else if (partsGo T [] ns).1 = "" then readGo c (T.put t (partsGo T [] ns).2) r else ((partsGo T [] ns).1, T)) := by rw [readGo]
theorem partsGo_valid (T : Tr) : ∀ (ns : List Nat) (acc : List P3), (∀ q ∈ acc, q.1 < T.rows.length ∧ q.2.1 < q.2.2 ∧ q.2.2 < T.stops) → ∀ q ∈ (partsGo T acc ns).2, q.1 < T.rows.length ∧ q.2.1 < q.2.2 ∧ q.2.2 < T.stops
  | [], acc, h => by rw [partsGo]; exact h; exact fun _ _ _ _ z => by cases z
  | [a], acc, h => by rw [partsGo]; exact h; exact fun _ _ _ _ z => by cases z
  | [a, b], acc, h => by rw [partsGo]; exact h; exact fun _ _ _ _ z => by cases z
  | a :: b :: c :: r, acc, h => by
    rw [partsGo_cons]
    split
    · exact h
    · split
      · exact h
      · split
        · exact h
        · split
          · exact h
          · refine partsGo_valid T r _ fun q m => ?_
            rcases List.mem_append.mp m with m | m
            · exact h q m
            · rw [List.mem_singleton.mp m]
              dsimp only
              omega
def FlR (K : PySem.W.Frag) (f : Str) (nx : L2.St → Hp → Prop) (σ : L2.St) (y x : V) (H2 : Hp) : Prop := ∃ a C dx fs, x = .ref a ∧ H2 a = some (.ins C dx fs) ∧ Cls K C ∧ NoAttr K C f ∧ fs.length < 1000 ∧ nx σ (upd H2 a (.ins C dx (putF f y fs)))
theorem s_sFld {K : PySem.W.Frag} {σ : L2.St} {H : Hp} {nx bk ct : L2.St → Hp → Prop} {rt : VK} {ta tv : TE} {f : Str} (h : tv σ H fun y H1 => ta σ H1 fun x H2 => FlR K f nx σ y x H2) : sFld K ta tv f ⟨nx, rt, bk, ct⟩ σ H := h
theorem v_fldC {K : PySem.W.Frag} {σ : L2.St} {H : Hp} {nx : L2.St → Hp → Prop} {S : Addr → Prop} {p : Addr} {T : Tr} {c : Nat} (A : TrainAt K H S p T) (hc : Cls K (He.ga K "Train")) (hn : NoAttr K (He.ga K "Train") "coming") (k : ∀ H2, Mv H H2 S S → TrainAt K H2 S p { T with coming := c } → nx σ H2) : FlR K "coming" nx σ (.int (c : Int)) (.ref p) H := by
  obtain ⟨dx, r, d, hp, nx'⟩ := A.next
  obtain ⟨mv, A'⟩ := nx' c
  refine ⟨p, _, dx, _, rfl, hp, hc, hn, (by show 4 < 1000; decide), ?_⟩
  rw [put_coming]
  exact k _ mv A'
/-! ### promises -/
def spNumber (K : PySem.W.Frag) : Sp := fun vs H Q E => ∃ z : Str, vs = [.str z] ∧ z.length ≤ 90000 ∧ (∀ n, numOf z = some n → Q (.int (n : Int)) H) ∧ (numOf z = none → E (cls K "NoText") none H)
def spNumbersOf (K : PySem.W.Frag) : Sp := fun vs H Q _ => ∃ (z w : Str) (ns : List Nat), vs = [.str z, .str w] ∧ z.length ≤ 90000 ∧ ns.length ≤ 90000 ∧ numbersOf z w = some ns ∧
  ∀ H' l, Ex H H' → H l = none → H' l = some (.lst ((ns.map fun n : Nat => (n : Int)).map V.int)) → Q (.ref l) H'
structure WordX (K : PySem.W.Frag) (H : Hp) (word : Str) (E : XK) : Prop where
  seat : word = "seat" → ∀ H', Ex H H' → E (cls K "NoSeat") none H'
  stretch : word = "stretch" → ∀ H', Ex H H' → E (cls K "NoStretch") none H'
  shared : word = "shared" → ∀ H', Ex H H' → E (cls K "Shared") none H'
  ticket : word = "ticket" → ∀ H', Ex H H' → E (cls K "NoTicket") none H'
  train : word = "train" → ∀ H', Ex H H' → E (cls K "NoTrain") none H'
  text : word = "text" → ∀ H', Ex H H' → E (cls K "NoText") none H'
def spPartsOf (K : PySem.W.Frag) : Sp := fun vs H Q E => ∃ (S : Addr → Prop) (p l : Addr) (T : Tr) (t : Nat) (ns : List Nat), vs = [.ref p, .ref l] ∧ TrainAt K H S p T ∧ H l = some (.lst (((t :: ns).map fun n : Nat => (n : Int)).map V.int)) ∧ ns.length % 3 = 0 ∧ ns.length ≤ 90000 ∧
  ((partsGo T [] ns).1 = "" → ∀ H' r, Ex H H' → H r = none → PartsAt H' r (partsGo T [] ns).2 → Q (.ref r) H') ∧ WordX K H (partsGo T [] ns).1 E
def spRead (K : PySem.W.Frag) : Sp := fun vs H Q _ => ∃ (z a : Str) (r : List Str) (h0 h1 h2 : Nat) (ts : List (List Nat)) (T : Tr), vs = [.str z] ∧ z.length ≤ 16700000 ∧ Txt.split z "\n" = a :: r ∧ r.length ≤ 3000 ∧ (∀ x ∈ a :: r, x.length ≤ 90000) ∧
  numbersOf a "train" = some [h0, h1, h2] ∧ r.mapM (fun x => numbersOf x "ticket") = some ts ∧ (∀ t ∈ ts, 3 < t.length ∧ t.length % 3 = 1 ∧ t.length ≤ 90000) ∧ 1 ≤ h0 ∧ h0 ≤ 60 ∧ 2 ≤ h1 ∧ h1 ≤ 60 ∧ readGo h2 (Tr.new h0 h1) ts = (("" : Str), T) ∧ Good { T with coming := h2 } ∧
  ∀ H' S p, Play K H H' p { T with coming := h2 } S → Q (.ref p) H'
def spWritten (K : PySem.W.Frag) : Sp := fun vs H Q _ => ∃ (S : Addr → Prop) (p : Addr) (T : Tr), vs = [.ref p] ∧ TrainAt K H S p T ∧ Good T ∧ T.coming < 2000 ∧ ∀ H', Ex H H' → Q (.str (textT T)) H'
def spTextOf (K : PySem.W.Frag) : Sp := fun vs H Q _ => ∃ (U : Addr → Prop) (w : Addr) (T : Tr), vs = [.ref w] ∧ WorldAt H U w T ∧ Good T ∧ T.coming < 2000 ∧ ∀ H', Ex H H' → Q (.str (textT T)) H'
end Lg

namespace Lg
open PySem PySem.Spec PyProof.Rows L2 TL
/-! ### a written text, read -/
theorem numL_head : ∀ n : Nat, 0 < n → (numL n).head? ≠ some 48 := by
  intro n
  induction n using Nat.strongRecOn with
  | ind n ih =>
    intro h
    by_cases h10 : n < 10
    · rw [numL_lt h10, List.head?_cons]
      intro z
      have := Option.some.inj z
      omega
    · rw [numL_step (by omega), List.head?_append]
      have h1 := ih (n / 10) (by omega) (by omega)
      cases hd : (numL (n / 10)).head? with
      | none => exact absurd (List.head?_eq_none_iff.mp hd) (numL_ne _)
      | some c =>
        rw [hd] at h1
        exact h1
theorem numOf_nT {n : Nat} (h : n < 1000000000) : numOf (nT n) = some n := by
  have e : tl (nT n) = numL n := nT_tl n
  have hi : isNum (numL n) = true := by
    have h1 : (numL n).all (fun c => decide (48 ≤ c) && decide (c ≤ 57)) = true := by
      rw [List.all_eq_true]
      intro c m
      have := numL_digits n c m
      simp only [Bool.and_eq_true, decide_eq_true_eq]
      exact this
    have h2 : (numL n).isEmpty = false := by
      cases hn : numL n with
      | nil => exact absurd hn (numL_ne n)
      | cons x y => rfl
    unfold isNum
    rw [h1, h2, decide_eq_true (numL_len (k := 9) (by decide) h)]
    by_cases h0 : n = 0
    · rw [h0, decide_eq_true (show (numL 0).length = 1 by rw [numL_lt (by decide)]; rfl)]
      rfl
    · rw [decide_eq_true (numL_head n (by omega)), Bool.or_true]
      rfl
  unfold numOf
  rw [e, if_pos hi, numL_val]
theorem mapM_nT : ∀ {ns : List Nat}, (∀ n ∈ ns, n < 1000000000) → (ns.map nT).mapM numOf = some ns
  | [], _ => rfl
  | n :: r, h => by
    rw [List.map_cons, List.mapM_cons, numOf_nT (h n List.mem_cons_self), mapM_nT (ns := r) fun m z => h m (List.mem_cons_of_mem _ z)]
    rfl
theorem nT_free {n s : Nat} (h : s < 48 ∨ 57 < s) : s ∉ tl (nT n) := by
  rw [nT_tl]
  exact numL_free h
theorem numbersOf_join {w : Str} {ns : List Nat} (hw : 32 ∉ tl w) (h : ∀ n ∈ ns, n < 1000000000) : numbersOf (Txt.join " " (w :: ns.map nT)) w = some ns := by
  unfold numbersOf
  rw [split_join (y := " ") (s := 32) (S := []) (by decide +kernel) (by decide +kernel) (by simp) fun p m => ?_]
  · dsimp only
    rw [if_pos rfl, mapM_nT h]
  · rcases List.mem_cons.mp m with rfl | m
    · exact hw
    · obtain ⟨n, _, rfl⟩ := List.mem_map.mp m
      exact nT_free (by omega)
def numsT (x : Nat × List P3) : List Nat := x.1 :: (x.2.map fun q => [q.1, q.2.1, q.2.2]).flatten
theorem wordsT_eq (x : Nat × List P3) : wordsT x = ("ticket" : Str) :: (numsT x).map nT := by
  unfold wordsT numsT
  rw [List.map_cons, List.map_flatten, List.map_map]
  rfl
theorem partsGo_ok {T : Tr} {n e : Nat} (hn : n = T.rows.length) (he : e < T.stops) : ∀ (ps acc : List P3) (b : Nat), Way n b e ps → (∀ q, acc.getLast? = some q → q.2.2 = b ∧ ∀ p, ps.head? = some p → p.1 ≠ q.1) →
    (∀ p ∈ ps, ∀ row, T.rows[p.1]? = some row → p.2.2 ≤ reach row p.2.1) → partsGo T acc (ps.map fun q => [q.1, q.2.1, q.2.2]).flatten = (("" : Str), acc ++ ps)
  | [], acc, b, w, hl, hr => by
    rw [List.map_nil, List.flatten_nil, partsGo, List.append_nil]
    exact fun _ _ _ _ z => by cases z
  | p :: r, acc, b, w, hl, hr => by
    obtain ⟨w1, w2, w3, w4, w5⟩ := w
    have hle := w5.le
    have hb : goesBad acc p.1 p.2.1 = false := by
      unfold goesBad
      cases hla : acc.getLast? with
      | none => rfl
      | some q =>
        obtain ⟨h1, h2⟩ := hl q hla
        have h3 := h2 p rfl
        dsimp only
        rw [decide_eq_false (show ¬ q.2.2 ≠ p.2.1 by omega), decide_eq_false (show ¬ q.1 = p.1 from fun z => h3 z.symm)]
        rfl
    have hp : p.1 < T.rows.length := by omega
    have hrow := List.getElem?_eq_getElem hp
    have hre := hr p List.mem_cons_self _ hrow
    show partsGo T acc (p.1 :: p.2.1 :: p.2.2 :: (r.map fun q => [q.1, q.2.1, q.2.2]).flatten) = _
    rw [partsGo_cons, if_neg (fun z => z hp), if_neg (fun z => z ⟨by omega, by omega⟩), if_neg (by rw [hb]; exact Bool.false_ne_true), hrow, Option.getD_some, if_neg (by omega)]
    rw [partsGo_ok hn he r (acc ++ [(p.1, p.2.1, p.2.2)]) p.2.2 w5 (fun q hq => ?_) fun q m => hr q (List.mem_cons_of_mem _ m)]
    · rw [List.append_assoc]
      rfl
    · rw [List.getLast?_append, List.getLast?_singleton] at hq
      cases hq
      exact ⟨rfl, fun q hq => w4 q hq⟩
theorem readGo_ok {T : Tr} (G : Good T) : ∀ (rest done : List (Nat × List P3)) (cm : Nat), T.sold = done ++ rest → (∀ x ∈ rest, cm ≤ x.1) →
    ∃ TF, readGo T.coming ⟨T.stops, paintS done (Tr.new T.rows.length T.stops).rows, done, cm⟩ (rest.map numsT) = (("" : Str), TF) ∧ TF.rows = paintS T.sold (Tr.new T.rows.length T.stops).rows ∧ TF.sold = T.sold ∧ TF.stops = T.stops
  | [], done, cm, hs, hc => by
    rw [List.append_nil] at hs
    refine ⟨⟨T.stops, paintS done (Tr.new T.rows.length T.stops).rows, done, cm⟩, ?_, by rw [hs], hs.symm, rfl⟩
    rw [List.map_nil, readGo]
    exact fun _ _ _ z => by cases z
  | x :: rest, done, cm, hs, hc => by
    have wf := G.wf
    have w3 := wf.t1
    have wn := Tr.new_wf (seats := T.rows.length) (stops := T.stops) wf.s1 wf.s2 wf.t1 wf.t2
    have hg0l : (Tr.new T.rows.length T.stops).rows.length = T.rows.length := List.length_replicate
    have hg0r : ∀ row ∈ (Tr.new T.rows.length T.stops).rows, row.length = T.stops - 1 := wn.legs
    have hg0c : ∀ s l, cellOf (Tr.new T.rows.length T.stops).rows s l = none := fun _ _ => cell_new
    have hxi : T.sold[done.length]? = some x := by
      rw [hs, List.getElem?_append_right (Nat.le_refl _), Nat.sub_self]
      rfl
    have htk : T.sold.take done.length = done := by rw [hs, List.take_left']; rfl
    have mx := List.mem_of_getElem? hxi
    obtain ⟨b, e, hb, he, w⟩ := G.way x mx
    have hlow := G.low x mx
    have hcx := hc x List.mem_cons_self
    have hpr : T.rows.length = (paintS done (Tr.new T.rows.length T.stops).rows).length := by rw [paintS_len, hg0l]
    have hri : ∀ y ∈ rest, x.1 < y.1 := fun y my => by
      have hp := wf.rising
      rw [hs, List.map_append, List.map_cons] at hp
      have := (List.pairwise_append.mp hp).2.1
      exact (List.pairwise_cons.mp this).1 y.1 (List.mem_map.mpr ⟨y, my, rfl⟩)
    have hdo : ∀ y ∈ done, y.1 < x.1 := fun y my => by
      have hp := wf.rising
      rw [hs, List.map_append, List.map_cons] at hp
      exact (List.pairwise_append.mp hp).2.2 y.1 (List.mem_map.mpr ⟨y, my, rfl⟩) x.1 List.mem_cons_self
    have hpo := partsGo_ok (T := ⟨T.stops, paintS done (Tr.new T.rows.length T.stops).rows, done, cm⟩) hpr (show e < T.stops by omega) x.2 [] b w (fun q z => by cases z) fun q mq row hrow => by
      obtain ⟨j, hj⟩ := List.mem_iff_getElem?.mp mq
      have hq := w.mem q mq
      have hfree := G.paint_free hg0l hg0r hg0c hxi (c1 := q.1) (c2 := q.2.1) (c3 := q.2.2) hj
      rw [htk] at hfree
      have hr2 := paintS_row (n := T.stops - 1) done _ hg0r
      refine reach_far (q.2.2 - q.2.1) q.2.1 q.2.2 (Nat.le_refl _) (by omega) fun l l1 l2 => ?_
      have hf := hfree l l1 l2
      rw [markAll_cell (n := T.stops - 1) _ _ hr2 (fun q' m => by
        have := w.mem q' (List.mem_of_mem_take m)
        exact ⟨by omega, by omega⟩)] at hf
      have hf2 : cellOf (paintS done (Tr.new T.rows.length T.stops).rows) q.1 l = none := by
        split at hf
        · cases hf
        · exact hf
      have hrow : (paintS done (Tr.new T.rows.length T.stops).rows)[q.1]? = some row := hrow
      have h1 := cell_free hr2 (s := q.1) (l := l) (by omega) (by omega) hf2
      obtain ⟨h2, h3⟩ := List.getElem?_eq_some_iff.mp hrow
      rw [← h3]
      exact h1
    rw [List.nil_append] at hpo
    obtain ⟨TF, h1, h2, h3, h4⟩ := readGo_ok G rest (done ++ [x]) (x.1 + 1) (by rw [hs, List.append_assoc]; rfl) fun y my => hri y my
    refine ⟨TF, ?_, h2, h3, h4⟩
    rw [List.map_cons]
    show readGo T.coming _ ((x.1 :: (x.2.map fun q => [q.1, q.2.1, q.2.2]).flatten) :: rest.map numsT) = _
    rw [readGo_cons, if_neg (fun z => z.elim (fun z => by omega) (fun z => by
      have z : x.1 < cm := z
      omega)), hpo, if_pos rfl, ← h1]
    have e1 : putS done x.1 x.2 = done ++ [x] := putS_new hdo
    have e2 : markAll (paintS done (Tr.new T.rows.length T.stops).rows) x.2 (some x.1) = paintS (done ++ [x]) (Tr.new T.rows.length T.stops).rows := (paintS_snoc done x _).symm
    unfold Tr.put
    dsimp only
    rw [e1, e2]
theorem numsT_len (x : Nat × List P3) : (numsT x).length = 1 + 3 * x.2.length := by
  unfold numsT
  rw [List.length_cons, List.length_flatten, List.map_map]
  have e : (List.length ∘ fun q : P3 => [q.1, q.2.1, q.2.2]) = fun _ => 3 := by
    funext q
    rfl
  rw [e, List.map_const', List.sum_replicate_nat]
  omega
theorem joinL_mem {S : List Nat} {c : Nat} : ∀ {ps : List (List Nat)}, c ∈ joinL S ps → c ∈ S ∨ ∃ p ∈ ps, c ∈ p
  | [], h => by cases h
  | [p], h => .inr ⟨p, List.mem_singleton.mpr rfl, h⟩
  | p :: q :: r, h => by
    have h : c ∈ p ++ (S ++ joinL S (q :: r)) := h
    rcases List.mem_append.mp h with h | h
    · exact .inr ⟨p, List.mem_cons_self, h⟩
    · rcases List.mem_append.mp h with h | h
      · exact .inl h
      · rcases joinL_mem h with h | ⟨p', m, h⟩
        · exact .inl h
        · exact .inr ⟨p', List.mem_cons_of_mem _ m, h⟩
theorem line_free {w : Str} {ns : List Nat} (hw : 10 ∉ tl w) : 10 ∉ tl (Txt.join " " (w :: ns.map nT)) := fun h => by
  rw [join_eq, tl_join] at h
  rcases joinL_mem h with h3 | ⟨p, m, h3⟩
  · exact absurd h3 (by decide +kernel)
  · obtain ⟨z, mz, rfl⟩ := List.mem_map.mp m
    rcases List.mem_cons.mp mz with rfl | mz
    · exact hw h3
    · obtain ⟨n, _, rfl⟩ := List.mem_map.mp mz
      exact nT_free (by omega) h3
theorem Good.nums_lt {T : Tr} (G : Good T) (hc : T.coming < 2000) {x : Nat × List P3} (mx : x ∈ T.sold) : (∀ n ∈ numsT x, n < 1000000000) ∧ 0 < x.2.length ∧ x.2.length ≤ 60 := by
  have wf := G.wf
  have w2 := wf.s2
  have w4 := wf.t2
  obtain ⟨b, e, hb, he, w⟩ := G.way x mx
  have hlow := G.low x mx
  have hlen := w.len
  refine ⟨fun n m => ?_, List.length_pos_iff.mpr (w.ne hb), by omega⟩
  unfold numsT at m
  rcases List.mem_cons.mp m with rfl | m
  · omega
  obtain ⟨l, ml, my⟩ := List.mem_flatten.mp m
  obtain ⟨q, mq, rfl⟩ := List.mem_map.mp ml
  have := w.mem q mq
  simp only [List.mem_cons, List.not_mem_nil, or_false] at my
  rcases my with rfl | rfl | rfl <;> omega
theorem c_read {K : PySem.W.Frag} {H : Hp} {Q : VK} {E : XK} {T : Tr} (G : Good T) (hc : T.coming < 2000) (k : ∀ H' S p, Play K H H' p T S → Q (.ref p) H') : spRead K [.str (textT T)] H Q E := by
  have wf := G.wf
  have w1 := wf.s1
  have w2 := wf.s2
  have w3 := wf.t1
  have w4 := wf.t2
  have hmany := G.many
  have hh : headW T = ("train" : Str) :: [T.rows.length, T.stops, T.coming].map nT := rfl
  have ht10 : 10 ∉ tl ("ticket" : Str) := by decide +kernel
  have hr10 : 10 ∉ tl ("train" : Str) := by decide +kernel
  have ht32 : 32 ∉ tl ("ticket" : Str) := by decide +kernel
  have hr32 : 32 ∉ tl ("train" : Str) := by decide +kernel
  have hsp : Txt.split (textT T) "\n" = Txt.join " " (headW T) :: T.sold.map fun x => Txt.join " " (wordsT x) := by
    unfold textT
    refine split_join (s := 10) (S := []) (by decide +kernel) (by decide +kernel) (by simp) fun p m => ?_
    rcases List.mem_cons.mp m with rfl | m
    · rw [hh]
      exact line_free hr10
    · obtain ⟨x, _, rfl⟩ := List.mem_map.mp m
      rw [wordsT_eq]
      exact line_free ht10
  have hrl : ∀ x ∈ T.sold, (Txt.join " " (wordsT x)).length ≤ 3000 := fun x mx => by
    obtain ⟨b, e, hb, he, w⟩ := G.way x mx
    have hlow := G.low x mx
    have hl := w.len
    have := row_len (n := x.1) (ps := x.2) (by omega) fun q m => by
      have := w.mem q m
      omega
    exact Nat.le_trans this (by omega)
  have hhl : (Txt.join " " (headW T)).length ≤ 3000 := by
    have := join_len " " (headW T)
    have e : ((headW T).map (·.length)).sum ≤ 40 := by
      have h5 : ("train" : Str).length = 5 := by decide +kernel
      show ("train" : Str).length + ((nT T.rows.length).length + ((nT T.stops).length + ((nT T.coming).length + 0))) ≤ 40
      have := nT_len (n := T.rows.length) (by omega)
      have := nT_len (n := T.stops) (by omega)
      have := nT_len (n := T.coming) (by omega)
      omega
    rw [show (" " : Str).length = 1 by decide +kernel] at this
    have : (headW T).length = 4 := rfl
    omega
  have hlen : (textT T).length ≤ 16700000 := by
    have h1 := join_len "\n" (Txt.join " " (headW T) :: T.sold.map fun x => Txt.join " " (wordsT x))
    have h2 := sum_len (b := 3000) (ps := Txt.join " " (headW T) :: T.sold.map fun x => Txt.join " " (wordsT x)) fun y m => by
      rcases List.mem_cons.mp m with rfl | m
      · exact hhl
      · obtain ⟨x, mx, rfl⟩ := List.mem_map.mp m
        exact hrl x mx
    rw [show ("\n" : Str).length = 1 by decide +kernel] at h1
    rw [List.length_cons, List.length_map] at h1 h2
    show (Txt.join "\n" (Txt.join " " (headW T) :: T.sold.map fun x => Txt.join " " (wordsT x))).length ≤ _
    omega
  obtain ⟨TF, g1, g2, g3, g4⟩ := readGo_ok G T.sold [] 0 rfl fun x _ => Nat.zero_le _
  have hg0l : (Tr.new T.rows.length T.stops).rows.length = T.rows.length := List.length_replicate
  have wn := Tr.new_wf (seats := T.rows.length) (stops := T.stops) w1 w2 w3 w4
  rw [G.paint_all hg0l wn.legs fun _ _ => cell_new] at g2
  have hTF : ({ TF with coming := T.coming } : Tr) = T := by
    obtain ⟨a, b, c, d⟩ := TF
    obtain ⟨a', b', c', d'⟩ := T
    dsimp only at g2 g3 g4
    subst g2 g3 g4
    rfl
  refine ⟨textT T, _, _, T.rows.length, T.stops, T.coming, T.sold.map numsT, TF, rfl, hlen, hsp, by rw [List.length_map]; omega, fun x m => ?_, ?_, ?_, fun t m => ?_, w1, w2, w3, w4, g1, by rw [hTF]; exact G, fun H' S p P => k H' S p (by rw [hTF] at P; exact P)⟩
  · rcases List.mem_cons.mp m with rfl | m
    · exact Nat.le_trans hhl (by decide)
    · obtain ⟨y, my, rfl⟩ := List.mem_map.mp m
      exact Nat.le_trans (hrl y my) (by decide)
  · rw [hh]
    exact numbersOf_join hr32 fun n m => by
      simp only [List.mem_cons, List.not_mem_nil, or_false] at m
      rcases m with rfl | rfl | rfl <;> omega
  · have key : ∀ l : List (Nat × List P3), (∀ x ∈ l, x ∈ T.sold) → (l.map fun x => Txt.join " " (wordsT x)).mapM (fun x => numbersOf x "ticket") = some (l.map numsT) := by
      intro l
      induction l with
      | nil => exact fun _ => rfl
      | cons x r ih =>
        intro hl
        rw [List.map_cons, List.mapM_cons, wordsT_eq, numbersOf_join ht32 (G.nums_lt hc (hl x List.mem_cons_self)).1, ih fun y my => hl y (List.mem_cons_of_mem _ my)]
        rfl
    exact key T.sold fun _ h => h
  · obtain ⟨x, mx, rfl⟩ := List.mem_map.mp m
    have h1 := G.nums_lt hc mx
    have h2 := numsT_len x
    omega
def spPacks12 (K : PySem.W.Frag) : Sp := fun vs H Q _ => ∃ (S U : Addr → Prop) (p w : Addr) (T : Tr), vs = [.ref p, .ref w] ∧ TrainAt K H S p T ∧ WorldAt H U w T ∧ Good T ∧ T.coming < 90000 ∧ ∀ H', Ex H H' → Q (.bl true) H'
end Lg

namespace Lg
open PySem PySem.Spec PyProof.Rows L2
/-! ### what a deed told, compared -/
def p3D (q : P3) : PyData := .tuple [.int (q.1 : Int), .int (q.2.1 : Int), .int (q.2.2 : Int)]
def resD : Res → PyData
  | .non => .none
  | .num n => .int (n : Int)
  | .parts ps => .list ((ps.map p3I).map fun xs => PyData.tuple (xs.map PyData.int))
def outD (o : Out) : PyData := .tuple [.str o.word, resD o.res]
/-- a value that tells a deed's result -/
def ResAt (H : Hp) : Res → V → Prop
  | .non, v => v = .non
  | .num n, v => v = .int (n : Int)
  | .parts ps, v => ∃ l, v = .ref l ∧ PartsAt H l ps
theorem v_neR {K : PySem.W.Frag} {H : Hp} {Q : VK} {x y : V} {d : PyData} (h1 : Dp K H x d) (h2 : Dp K H y d) (hl : d.canLay0 = true) (he : PyData.eqv d d = true) (hd : d.depth ≤ 64) (k : Q (.bl false) H) : rNeD K x y H Q := by
  have E : Enc (fun _ : Unit => d) 64 := ⟨fun x y => by rw [he]; exact (decide_eq_true rfl).symm, fun _ => hl, fun _ => hd⟩
  refine rne_of (a := ()) (b := ()) E (Nat.le_refl _) h1 h2 ?_
  rw [decide_eq_true rfl]
  exact k
theorem dp_res {K : PySem.W.Frag} {H : Hp} {v : V} : ∀ {r : Res}, ResAt H r v → Dp K H v (resD r)
  | .non, h => by
    rw [show v = .non from h]
    exact .non
  | .num n, h => by
    rw [show v = .int (n : Int) from h]
    exact .int n
  | .parts ps, h => by
    obtain ⟨l, rfl, hP⟩ := h
    obtain ⟨ts, h1, h2⟩ := hP.tups
    exact .lst (SqL.of h1) (dpAll ⟨by rw [List.length_map, List.length_map, h2.len], fun i x y hx hy => by
      obtain ⟨a, ha, rfl⟩ := map_back hx
      obtain ⟨xs, hxs, rfl⟩ := map_back hy
      exact dp_tup (h2.at_ _ _ _ ha hxs)⟩)
theorem dp_out {K : PySem.W.Frag} {H : Hp} {t : Addr} {v : V} {o : Out} (h : H t = some (.tup [.str o.word, v])) (hr : ResAt H o.res v) : Dp K H (.ref t) (outD o) :=
  .tup (SqT.of h) (dpAll ⟨rfl, fun i x y hx hy => by
    match i with
    | 0 => cases hx; cases hy; exact .str _
    | 1 => cases hx; cases hy; exact dp_res hr
    | i + 2 => cases hx⟩)
theorem resD_ok : ∀ r : Res, (resD r).canLay0 = true ∧ (resD r).depth ≤ 2
  | .non => ⟨rfl, Nat.zero_le _⟩
  | .num n => ⟨rfl, Nat.zero_le _⟩
  | .parts ps => ⟨(Enc.list (Enc.tup enc_int)).lay (ps.map p3I), (Enc.list (Enc.tup enc_int)).dep (ps.map p3I)⟩
theorem outD_ok {o : Out} (hw : (PyData.str o.word).canLay0 = true) : (outD o).canLay0 = true ∧ (outD o).depth ≤ 64 := by
  obtain ⟨h1, h2⟩ := resD_ok o.res
  unfold outD
  constructor
  · simp only [PyData.canLay0, PyData.canLayAll0, Bool.and_eq_true] at hw ⊢
    exact ⟨hw, h1, trivial⟩
  · simp only [PyData.depth, PyData.depthAll]
    omega
theorem run_word_lay (T : Tr) (x : Deed) : (PyData.str (T.run x).word).canLay0 = true := by
  obtain ⟨k, a, b⟩ := x
  cases k with
  | sell =>
    show (PyData.str (runSell T a b).word).canLay0 = true
    unfold runSell
    split
    · split <;> (dsimp only; decide +kernel)
    · dsimp only
      decide +kernel
  | back =>
    show (PyData.str (runBack T a).word).canLay0 = true
    unfold runBack
    split <;> (dsimp only; decide +kernel)
  | leave =>
    show (PyData.str (runLeave T a b).word).canLay0 = true
    unfold runLeave
    split
    · dsimp only
      decide +kernel
    · split <;> (dsimp only; decide +kernel)
  | reseat =>
    show (PyData.str (runReseat T a).word).canLay0 = true
    unfold runReseat
    split <;> (dsimp only; decide +kernel)
theorem v_neOut {K : PySem.W.Frag} {H : Hp} {Q : VK} {t u : Addr} {v v' : V} {T : Tr} {x : Deed} (h1 : H t = some (.tup [.str (T.run x).word, v])) (r1 : ResAt H (T.run x).res v) (h2 : H u = some (.tup [.str (T.run x).word, v'])) (r2 : ResAt H (T.run x).res v') (k : Q (.bl false) H) : rNeD K (.ref t) (.ref u) H Q := by
  obtain ⟨e1, e2⟩ := outD_ok (run_word_lay T x)
  exact v_neR (dp_out h1 r1) (dp_out h2 r2) e1 (PySem.SeqAt.eqv_refl _ e1) e2 k
/-- two trains and a world -/
structure Tri (K : PySem.W.Frag) (H0 H : Hp) (p o w : Addr) (T1 T2 T3 : Tr) (S R U : Addr → Prop) : Prop where
  ex : Ex H0 H
  tr : TrainAt K H S p T1
  ot : TrainAt K H R o T2
  wo : WorldAt H U w T3
  fresh : ∀ a, S a ∨ R a ∨ U a → H0 a = none
  live : ∀ a, S a ∨ R a ∨ U a → ∃ x, H a = some x
  d1 : ∀ a, S a → ¬ R a
  d2 : ∀ a, S a → ¬ U a
  d3 : ∀ a, R a → ¬ U a
section
variable {K : PySem.W.Frag} {H0 H H' : Hp} {p o w : Addr} {T1 T2 T3 : Tr} {S R U : Addr → Prop}
theorem Tri.more (D : Tri K H0 H p o w T1 T2 T3 S R U) (e : Ex H H') : Tri K H0 H' p o w T1 T2 T3 S R U :=
  ⟨D.ex.trans e, D.tr.ex e, D.ot.ex e, D.wo.ex e, D.fresh, fun a h => by
    obtain ⟨x, hx⟩ := D.live a h
    exact ⟨x, e _ _ hx⟩, D.d1, D.d2, D.d3⟩
theorem Tri.swap (D : Tri K H0 H p o w T1 T2 T3 S R U) : Tri K H0 H o p w T2 T1 T3 R S U :=
  ⟨D.ex, D.ot, D.tr, D.wo, fun a h => D.fresh a (by rcases h with h | h | h <;> simp [h]), fun a h => D.live a (by rcases h with h | h | h <;> simp [h]), fun a h z => D.d1 a z h, D.d3, D.d2⟩
theorem Tri.train {T1' : Tr} {S' : Addr → Prop} (D : Tri K H0 H p o w T1 T2 T3 S R U) (m : Mv H H' S S') (A : TrainAt K H' S' p T1') : ∃ S2, Tri K H0 H' p o w T1' T2 T3 S2 R U ∧ ∀ a, S2 a → S' a ∧ (S a ∨ H a = none) := by
  obtain ⟨S2, h2, t2⟩ := A.there
  have new : ∀ a, S2 a → S a ∨ H a = none := fun a h => m.new a (h2 a h).1
  have k : ∀ a x, ¬ S a → H a = some x → H' a = some x := m.keep
  have nn : ∀ a, R a ∨ U a → ¬ S a := fun a h z => h.elim (D.d1 a z) (D.d2 a z)
  have no : ∀ a, R a ∨ U a → ¬ S2 a := fun a h z => by
    rcases new a z with y | y
    · exact nn a h y
    · obtain ⟨x, hx⟩ := D.live a (.inr h)
      rw [y] at hx
      cases hx
  refine ⟨S2, ⟨fun a x h => k a x (fun z => ?_) (D.ex a x h), t2, D.ot.mono (fun a x s h => k a x (nn a (.inl s)) h) m.tups, D.wo.mono (fun a x s h => k a x (nn a (.inr s)) h) m.tups, fun a h => ?_, fun a h => ?_, fun a s z => no a (.inl z) s, fun a s z => no a (.inr z) s, D.d3⟩, fun a s => ⟨(h2 a s).1, new a s⟩⟩
  · rw [D.fresh a (.inl z)] at h
    cases h
  · rcases h with h | h
    · rcases new a h with y | y
      · exact D.fresh a (.inl y)
      · exact Evl.fresh_back D.ex y
    · exact D.fresh a (.inr h)
  · rcases h with h | h
    · exact (h2 a h).2
    · obtain ⟨x, hx⟩ := D.live a (.inr h)
      exact ⟨x, k a x (nn a h) hx⟩
theorem Tri.world {T3' : Tr} {U' : Addr → Prop} (D : Tri K H0 H p o w T1 T2 T3 S R U) (m : Mv H H' U U') (W : WorldAt H' U' w T3') : ∃ U2, Tri K H0 H' p o w T1 T2 T3' S R U2 ∧ ∀ a, U2 a → U' a ∧ (U a ∨ H a = none) := by
  obtain ⟨U2, h2, t2⟩ := W.there
  have new : ∀ a, U2 a → U a ∨ H a = none := fun a h => m.new a (h2 a h).1
  have k : ∀ a x, ¬ U a → H a = some x → H' a = some x := m.keep
  have nn : ∀ a, S a ∨ R a → ¬ U a := fun a h => h.elim (D.d2 a) (D.d3 a)
  have lv : ∀ a, S a ∨ R a → ∃ x, H a = some x := fun a h => D.live a (h.imp id .inl)
  have no : ∀ a, S a ∨ R a → ¬ U2 a := fun a h z => by
    rcases new a z with y | y
    · exact nn a h y
    · obtain ⟨x, hx⟩ := lv a h
      rw [y] at hx
      cases hx
  refine ⟨U2, ⟨fun a x h => k a x (fun z => ?_) (D.ex a x h), D.tr.mono (fun a x s h => k a x (nn a (.inl s)) h) m.tups, D.ot.mono (fun a x s h => k a x (nn a (.inr s)) h) m.tups, t2, fun a h => ?_, fun a h => ?_, D.d1, fun a s => no a (.inl s), fun a s => no a (.inr s)⟩, fun a s => ⟨(h2 a s).1, new a s⟩⟩
  · rw [D.fresh a (.inr (.inr z))] at h
    cases h
  · rcases h with h | h | h
    · exact D.fresh a (.inl h)
    · exact D.fresh a (.inr (.inl h))
    · rcases new a h with y | y
      · exact D.fresh a (.inr (.inr y))
      · exact Evl.fresh_back D.ex y
  · rcases h with h | h | h
    · obtain ⟨x, hx⟩ := lv a (.inl h)
      exact ⟨x, k a x (nn a (.inl h)) hx⟩
    · obtain ⟨x, hx⟩ := lv a (.inr h)
      exact ⟨x, k a x (nn a (.inr h)) hx⟩
    · exact (h2 a h).2
/-- a train that was just read stands beside the train and its world -/
theorem Tri.start (ex : Ex H0 H) (two : Two K H p w T1 T3 S U) (fr : ∀ a, S a ∨ U a → H0 a = none) (P : Play K H H' o T2 R) : Tri K H0 H' p o w T1 T2 T3 S R U := by
  have lv : ∀ a, S a ∨ U a → ∃ x, H a = some x := fun a h => h.elim (two.aS a) (two.aU a)
  have no : ∀ a, S a ∨ U a → ¬ R a := fun a h z => by
    obtain ⟨x, hx⟩ := lv a h
    rw [P.fresh a z] at hx
    cases hx
  refine ⟨ex.trans P.ex, two.tr.ex P.ex, P.tr, two.wo.ex P.ex, fun a h => ?_, fun a h => ?_, fun a s => no a (.inl s), two.dj, fun a r u => no a (.inr u) r⟩
  · rcases h with h | h | h
    · exact fr a (.inl h)
    · exact Evl.fresh_back ex (P.fresh a h)
    · exact fr a (.inr h)
  · rcases h with h | h | h
    · obtain ⟨x, hx⟩ := lv a (.inl h)
      exact ⟨x, P.ex _ _ hx⟩
    · exact P.live a h
    · obtain ⟨x, hx⟩ := lv a (.inr h)
      exact ⟨x, P.ex _ _ hx⟩
end
theorem ResAt.keep {H H' : Hp} {v : V} : ∀ {r : Res}, ResAt H r v → (∀ l, v = .ref l → ∀ o, H l = some o → H' l = some o) → (∀ a xs, H a = some (.tup xs) → H' a = some (.tup xs)) → ResAt H' r v
  | .non, h, _, _ => h
  | .num n, h, _, _ => h
  | .parts ps, h, k, kt => by
    obtain ⟨l, rfl, hP⟩ := h
    exact ⟨l, rfl, parts_at hP (fun o z => k l rfl o z) kt⟩
theorem ResW.at_ {H H' : Hp} {U : Addr → Prop} {v : V} : ∀ {r : Res}, ResW H H' U r v → ResAt H' r v ∧ ∀ l, v = .ref l → U l ∨ H l = none
  | .non, h => ⟨h, fun l e => by
    rw [show v = .non from h] at e
    cases e⟩
  | .num n, h => ⟨h, fun l e => by
    rw [show v = .int n from h] at e
    cases e⟩
  | .parts ps, h => by
    obtain ⟨l, rfl, h1, h2⟩ := h
    exact ⟨⟨l, rfl, h2⟩, fun l' e => by
      cases e
      exact h1⟩
theorem ResV.at_ {H H' : Hp} {S S' : Addr → Prop} {v : V} : ∀ {r : Res}, ResV H H' S S' r v → ResAt H' r v ∧ ∀ l, v = .ref l → S l ∨ H l = none
  | .non, h => ⟨h, fun l e => by
    rw [show v = .non from h] at e
    cases e⟩
  | .num n, h => ⟨h, fun l e => by
    rw [show v = .int n from h] at e
    cases e⟩
  | .parts ps, h => by
    obtain ⟨l, rfl, h1, _, h2⟩ := h
    exact ⟨⟨l, rfl, h2⟩, fun l' e => by
      cases e
      exact h1⟩
end Lg

namespace Lg
open PySem PySem.Spec PyProof.Rows L2
/-! ### a list comprehension whose element may raise (by a call) -/
abbrev xeB (X : Cx) (cenv : Env) : Value → Shared → Prop := notedBy (model X.prog X.w) X.A cenv (CompFails (model X.prog X.w) X.A X.xe cenv)
/-- a comprehension's block, with a way out -/
abbrev blkX (X : Cx) (s : Shared) (H : Hp) (scope : Scope) (cl : List (Str × Addr)) (C : Addr) (fp : List Addr) : Cx := (X.blk s H scope (compEnvC scope cl C X.env) fp).wish (xeB X (compEnvC scope cl C X.env))
/-- where a block begins -/
structure BlkIn (X : Cx) (s : Shared) (H : Hp) (C : Addr) (fp : List Addr) : Prop where
  at_ : C = s.heap.objs.size
  inv : ∃ pins σ, Inv X pins σ H s ∧ ∀ b ∈ fp, FpOk X pins H b ∧ b < s.heap.objs.size
theorem tracedBut {h h' B B' : Heap} {a C : Addr} {Z : Obj → Prop} {fl : Value} {m : Str → Option Value} (hn : h.Ns C m) (hs : Heap.SameBut C h h') (hB : ∀ b, B.get? b = none → B'.get? b = none) (t : HandSPX.TracedZ h B a Z fl) : HandSPX.TracedZ h' B' a Z fl := by
  obtain ⟨oe, vs, T, oT, ts, he, hz, hd, h1, hnT, hTe, hT, hdT, h3⟩ := t
  obtain ⟨oC, es, ep, hC, hdC, _⟩ := hn
  have ne : ∀ b o vs, h.get? b = some o → o.data = .fields vs → b ≠ C := fun b o vs e d z => by
    rw [z, hC] at e
    cases e
    rw [hdC] at d
    cases d
  exact ⟨oe, vs, T, oT, ts, (hs.2 a (ne _ _ _ he hd)).trans he, hz, hd, h1, hB _ hnT, hTe, (hs.2 T (ne _ _ _ hT hdT)).trans hT, hdT, h3⟩
section
variable {X : Cx} {s : Shared} {H : Hp} {scope : Scope} {cl : List (Str × Addr)} {C : Addr} {fp : List Addr} {E : XK}
theorem pB (tk : Takes X fun c d _ H => E c d H) (hs : X.stack = X.env :: X.outer) (hf : X.env.frame = some X.env.locals) (b : BlkIn X s H C fp) :
    ∀ σ, PassesAt (L2.CX (blkX X s H scope cl C fp).prog (blkX X s H scope cl C fp).w) (blkX X s H scope cl C fp) σ E := by
  intro σ pins H1 s1 e s' IB c
  obtain ⟨hC, pins3, σ3, I3, f3⟩ := b
  obtain ⟨a, B, H', kind, dict, rfl, fl, hok, ub, na, os, ag, hE⟩ := c
  have hfr : X.A.frames = some (X.env :: X.outer) := by rw [I3.ok.frames, hs]
  have fl : HandSPX.FlyingZ B (X.env :: X.outer) a (Zc kind dict) s'.heap := by rw [← hs]; exact fl
  have bs : ∀ b o, s.heap.get? b = some o → b ≠ C := fun b o h z => by
    rw [z, hC] at h
    exact absurd (Heap.lt_size h) (Nat.lt_irrefl _)
  have IBb : Un (frs X.stack) fp H H1 s.heap s1.heap := IB.base
  have nfC : C ∉ frs X.stack := fun hm => by
    obtain ⟨_, o, ho, _⟩ := I3.stack.mem hm
    exact bs C o ho rfl
  have hC1 : H1 C = none := IB.free
  obtain ⟨mC, hnC1, _⟩ := id IB.loc
  have hnC1 : s1.heap.Ns C mC := hnC1
  obtain ⟨oC, esC, epC, hoC, hdC, hkC⟩ := hnC1
  have hBC : B.get? C = some oC := ub.keep C oC hoC hC1 nfC
  have hC' : H' C = none := ub.free C oC hoC hC1
  have funs1 : s1.heap.FunFrames X.base X.stack := IB.funs
  -- noted
  show wpAny (model X.prog X.w) X.A (noteFrame (.ref a) (compEnvC scope cl C X.env)) _ _ s'
  rw [noteFrame_env _ (show (compEnvC scope cl C X.env).frame = X.env.frame from rfl)]
  refine HandSPX.looks_onZ Zc.steady hfr hf fl fun h1 hh1 up1 => ?_
  obtain ⟨st1, nb1, ff1, tr1⟩ := hh1
  have hn1 : h1.Ns C mC := ⟨oC, esC, epC, st1 _ _ hBC, hdC, hkC⟩
  refine ⟨mC, hn1, fun h2 m2 hn2 hs2 => ?_⟩
  obtain ⟨B2, b2y, b2n⟩ := restrict h2 fun b => (B.get? b).isSome
  have hn2 : h2.Ns C m2 := hn2
  have hs2 : Heap.SameBut C h1 h2 := hs2
  have dom : ∀ b, B.get? b = none → B2.get? b = none := fun b h => b2n b (by rw [h]; rfl)
  have tr2 : HandSPX.TracedZ h2 B2 a (Zc kind dict) (rawInt X.env.locals) := tracedBut hn1 hs2 dom tr1
  have st2 : B2.StaysIn h2 := fun b o h => by
    cases q : B.get? b with
    | none =>
      rw [dom b q] at h
      cases h
    | some o' => rw [← b2y b (by rw [q]; rfl)]; exact h
  have ff2 : h2.FunFrames B2 (X.env :: X.outer) := funFrames_none (Heap.FunFrames.sameBut hs2 hn2 ff1) fun L hL => dom L (ff1.mem hL).1
  have keep2 : ∀ b o, B.get? b = some o → b ≠ C → h2.get? b = some o := fun b o h ne => (hs2.2 b ne).trans (st1 b o h)
  have held2 : HandSPX.HeldZ B2 (X.env :: X.outer) a (Zc kind dict) X.env.locals h2 := ⟨st2, dom a nb1, ff2, tr2⟩
  obtain ⟨oe, vs, T, oT, ts, he, hz, hd, h1', hnT, hTe, hT, hdT, h3'⟩ := id tr2
  show wpAny (model X.prog X.w) X.A (PySem.passOn _ (.ref a) (compEnvC scope cl C X.env)) _ _ _
  unfold PySem.passOn
  refine wpAny_bind (wpAny_field he hd h1' ?_)
  rw [if_neg (by simp)]
  rw [show (compEnvC scope cl C X.env).frame = some X.env.locals from hf]
  refine wpAny_bind (HandSPX.setFlight_onZ (L := X.env.locals) held2 fun h3 hh3 up3 => wpAny_throw (tk _ _ ?_))
  obtain ⟨st3, nb3, ff3, tr3⟩ := hh3
  obtain ⟨G, gy, gn⟩ := restrict h3 fun b => (B.get? b).isSome || decide (b ∈ frs X.stack)
  have inB2 : ∀ b o, B.get? b = some o → ∃ o2, B2.get? b = some o2 := fun b o h => by
    rw [b2y b (by rw [h]; rfl)]
    by_cases ne : b = C
    · obtain ⟨o2, _, _, q, _⟩ := hn2
      exact ⟨o2, by rw [ne]; exact q⟩
    · exact ⟨o, keep2 b o h ne⟩
  have gB : ∀ b o, B.get? b = some o → b ≠ C → G.get? b = some o := fun b o h ne => by
    rw [gy b (by simp [h])]
    refine st3 b o ?_
    rw [b2y b (by rw [h]; rfl)]
    exact keep2 b o h ne
  have gF : ∀ b, b ∈ frs X.stack → G.get? b = h3.get? b := fun b hb => gy b (by simp [hb])
  have og : ∀ b o, G.get? b = some o → h3.get? b = some o ∧ ((B.get? b).isSome = true ∨ b ∈ frs X.stack) := fun b o h => by
    cases isIn : ((B.get? b).isSome || decide (b ∈ frs X.stack)) with
    | false =>
      rw [gn b isIn] at h
      cases h
    | true =>
      rw [gy b isIn] at h
      exact ⟨h, by simpa [Bool.or_eq_true] using isIn⟩
  -- a frame's object, from the block's begin on
  have frame : ∀ b o, s.heap.get? b = some o → b ∈ frs X.stack → ∀ sl, s1.heap.get? b = some { o with slots := sl } → ∃ sl', G.get? b = some { o with slots := sl' } := fun b o h hb sl h1b => by
    obtain ⟨_, o', ho', hnf⟩ := funs1.mem hb
    rw [h1b] at ho'
    cases ho'
    obtain ⟨sl2, q2⟩ := ub.slot b _ h1b hb
    obtain ⟨sl3, q3⟩ := up1 b _ q2 hnf
    have q4 := (hs2.2 b (bs b o h)).trans q3
    obtain ⟨sl5, q5⟩ := up3 b _ q4 hnf
    exact ⟨sl5, by rw [gF b hb]; exact q5⟩
  refine ⟨a, B2, { s with heap := G, gens := s'.gens, drawn := s'.drawn, toks := s'.toks }, pins3, σ3, H', kind, dict, rfl, ?_, fun b o e hb => ?_, Heap.UpToSlots.of_keeps fun b o e => (og b o e).1, .inr (.inr (by rw [hs]; exact ⟨st3, nb3, ff3, tr3⟩)), na, os.trans IB.os, ag, hE⟩
  · refine I3.call (ch := fp) ⟨fun b o e n hb hx => ?_, fun b o e n hb hx => ?_, fun b o e n hx => ?_, fun b o e hx => ?_, fun b xs e => ub.tups b xs (IBb.tups b xs e), fun b o xs e => ub.frzs b o xs (IBb.frzs b o xs e), fun b ps e => ?_⟩ (fun b u q => ?_) ag fun b hb => ⟨(f3 b hb).1.2.2.2.1, (f3 b hb).1.2.1, (f3 b hb).1.2.2.2.2.1, (f3 b hb).1.2.2.2.2.2⟩
    · exact gB b o (ub.keep b o (IBb.keep b o e n hb hx) (IBb.free b o e n hx) hb) (bs b o e)
    · obtain ⟨sl, q⟩ := IBb.slot b o e n hb hx
      exact frame b o e hb sl q
    · obtain ⟨o', q⟩ := IBb.there b o e hx
      exact ub.free b o' q (IBb.free b o e n hx)
    · by_cases inF : b ∈ frs X.stack
      · obtain ⟨sl, q⟩ := IBb.slot b o e (I3.stkFree b inF) inF hx
        obtain ⟨sl', q'⟩ := frame b o e inF sl q
        exact ⟨_, q'⟩
      · obtain ⟨o', q⟩ := IBb.there b o e hx
        obtain ⟨o2, q2⟩ := ub.there b o' q inF
        exact ⟨o2, gB b o2 q2 (bs b o e)⟩
    · obtain ⟨some1, was1⟩ := IBb.tbls b ps e
      obtain ⟨some2, was2⟩ := ub.tbls b _ was1
      exact ⟨some1 ++ some2, was2.trans (by rw [Array.append_assoc])⟩
    · have nC : ∀ b u, H' b = some u → b ≠ C := fun b u e z => by
        rw [z, hC'] at e
        cases e
      exact (hok b u q).stay (fun c v hc r => gB c v r (by
        rcases hc with z | z
        · rw [z]
          exact nC b u q
        · exact nC c _ z)) (fun _ q => q) fun _ _ q => q
  · obtain ⟨e3, hh⟩ := og b o e
    rcases hh with hh | hh
    · obtain ⟨o', q⟩ := Option.isSome_iff_exists.mp hh
      obtain ⟨o2, q2⟩ := inB2 b o' q
      have z := st3 b o2 q2
      rw [e3] at z
      cases z
      exact q2
    · exact absurd hh hb
end
/-! ### the block's loop, over any context whose iterator's objects are its own -/
/-- what holds at the head of a turn: m turns are left by W, the slots are Σ, the iterator stands at some i -/
structure Loop (B : Cx) (fp : List Addr) (tn : Nat → Heap → Prop) (W : Nat → Nat → Hp → Prop) (Sg : L2.St) (m : Nat) (st : Shared) : Prop where
  ex : ∃ (i : Nat) (G : Hp), Inv B [] Sg G st ∧ tn i st.heap ∧ (∀ b ∈ fp, G b = none) ∧ W i m G
theorem own_fp {B : Cx} {fp : List Addr} {Sg : L2.St} {G : Hp} {st : Shared} (he : B.ex = fp) (hp : B.pn = []) (J : Inv B [] Sg G st) (no : ∀ b ∈ fp, G b = none) (b : Addr) (m : b ∈ fp) : FpOk B [] G b := by
  have mb : b ∈ B.ex := he ▸ m
  refine ⟨no b m, (J.ok.exf b mb).1, J.ok.exfs b mb, .inl mb, (J.ok.exf b mb).2, fun p h => ?_⟩
  rw [hp] at h
  cases h
theorem block_loop {B : Cx} {tg elt iter : Expr} {ifs : List Expr} {scope : Scope} {pos : Pos} {J : It} {fp : List Addr} {it D : Addr} {tn : Nat → Heap → Prop} {g : TG} {tt : TT} {te : TE} {vs : List Nat} {σ0 : L2.St} {W : Nat → Nat → Hp → Prop} {R : Result → Shared → Prop} {Fin : Hp → Prop}
    (calm : B.calm = true) (T : Turn B.prog B.w B.K tg J fp it tn) (he : B.ex = fp) (hp : B.pn = []) (target : PG B tg g) (tests : PTs B ifs tt) (elem : PE B elt te)
    (out : ∀ x st, B.xe x st → notedBy (model B.prog B.w) B.A B.env (fun y st' => R (.error y) st') x st)
    (turns : ∀ i m G, W i m G → (J.stop i G ∧ Fin G) ∨ (J.go i G ∧ ∃ Nx : Hp → Prop, (∀ G', Nx G' → ∃ k, k < m ∧ W (i + 1) k G') ∧ ∀ x G1, J.yld i G x G1 → g x (wipe σ0 vs) G1 fun τ G2 => wipe τ vs = wipe σ0 vs ∧
      tt τ G2 fun b G3 => if b = true then te τ G3 fun y G4 => ∃ acc, G4 D = some (.lst acc) ∧ acc.length < sizeLine ∧ Nx (upd G4 D (.lst (acc ++ [y]))) else Nx G3))
    (fin : ∀ G st, Inv B [] (wipe σ0 vs) G st → Fin G → R (.ok .next) st) {m0 : Nat} {st0 : Shared} (start : Loop B fp tn W (wipe σ0 vs) m0 st0) :
    codeAny (model B.prog B.w) B.A (.compLoop (.ListComp elt [⟨tg, iter, ifs, 0⟩] scope pos) 0 (.ref it) (.ref D) B.env) R st0 := by
  refine compLoop_any (Loop B fp tn W (wipe σ0 vs)) (fun m st head => ?_) m0 start
  obtain ⟨i, G, Ja, at_i, free, w⟩ := head.ex
  have okA := own_fp he hp Ja free
  rcases turns i m G w with ⟨h, last⟩ | ⟨h, Nx, less, step⟩
  · refine thnF (T.done B rfl rfl rfl calm i [] st _ G (fun _ _ => False) Ja okA at_i h) fun r st1 end_ => ?_
    rw [end_.1]
    exact fin G st1 end_.2 last
  · refine thnF (T.item B rfl rfl rfl calm i [] st _ G (fun _ _ => False) Ja okA at_i h) fun r st1 ⟨u, some_, item⟩ => ?_
    rw [some_]
    refine thnF item fun _ st2 ⟨x, G1, Jb, ru, yx, at_i1, free1⟩ => ?_
    have Jp := Jb.pinned (own_fp he hp Jb free1) (T.obj _ _ at_i1)
    -- to the next head
    have again : ∀ {τ : L2.St} {G' : Hp} {st' : Shared}, wipe τ vs = wipe σ0 vs → Inv B ([] ++ pinsAt fp st2.heap) τ G' st' → Nx G' → ∃ k, k < m ∧ Loop B fp tn W (wipe σ0 vs) k st' := by
      intro τ G' st' same Jq nx
      obtain ⟨k, lt, w'⟩ := less G' nx
      have stood : ∀ b ∈ fp, ∀ o, st2.heap.get? b = some o → st'.heap.get? b = some o ∧ G' b = none := fun b mb o e => by
        have P := Jq.pin (b, o) (List.mem_append_right _ (List.mem_append_right [] (mem_pinsAt mb e)))
        exact ⟨P.1, P.2.1⟩
      refine ⟨k, lt, ⟨i + 1, G', ?_, T.keep (i + 1) st2.heap st'.heap at_i1 fun b mb o e => (stood b mb o e).1, fun b mb => ?_, w'⟩⟩
      · refine (Inv.unpinned (pins := []) Jq).weak (by rw [← same, wipe_length]) fun j v e => ?_
        rw [← same] at e
        exact (wipe_some e).1
      · obtain ⟨o, e, _⟩ := T.obj (i + 1) st2.heap at_i1 b mb
        exact (stood b mb o e).2
    refine wpAny_mono (target.run _ st2 _ G1 x u _ Jp ru (step x G1 yx)) (fun _ st3 ⟨τ, G2, J3, same, t3⟩ => ?_) out
    refine wpAny_mono (tests.run _ st3 τ G2 _ J3 t3) (fun ok st4 ⟨G3, J4, e4⟩ => ?_) out
    cases ok
    · exact iteF (again same J4 ((if_neg Bool.false_ne_true).mp e4))
    · refine iteT (wpAny_mono (elem.run _ st4 τ G3 _ J4 ((if_pos rfl).mp e4)) (fun y st5 ⟨yv, G4, J5, ry, acc, stands, room, nx⟩ => ?_) out)
      exact app_ok J5 stands room ry fun st6 J6 => again same J6 nx
section
variable {X : Cx} {pins : List (Addr × Obj)} {σ : L2.St} {H : Hp} {s : Shared}
/-- a state with a new empty list; one with a block's names laid -/
abbrev nilS (s : Shared) : Shared := { s with heap := s.heap.push { cls := .type "list", data := .seq ([] : List Value).toArray } }
abbrev namesS (s : Shared) (scope : Scope) : Shared := { s with heap := pushCells (s.heap.push { cls := .type "dict", data := .dict #[] }) scope.names }
abbrev nilH (H : Hp) (s : Shared) : Hp := upd H s.heap.objs.size (.lst [])
theorem nil_inv (I : Inv X pins σ H s) : Inv X pins σ (nilH H s) (nilS s) := I.laid (t' := s.toks) (fun _ _ e => Heap.get?_push_of_some _ e) (Nat.le_refl _) ⟨Nat.zero_le _, [], 0, .nil, Heap.get?_push_size _ rfl⟩
theorem nil_fp {fp : List Addr} (old : ∀ b ∈ fp, ∃ o, s.heap.get? b = some o) (f : ∀ b ∈ fp, FpOk X pins H b) : ∀ b ∈ fp, FpOk X pins (nilH H s) b ∧ b < (nilS s).heap.objs.size := fun b m => by
  obtain ⟨o, e⟩ := old b m
  have lt := Heap.lt_size e
  refine ⟨⟨?_, (f b m).2⟩, ?_⟩
  · rw [nilH, upd_ne (Nat.ne_of_lt lt)]
    exact (f b m).1
  · rw [Heap.size_push]
    exact Nat.lt_succ_of_lt lt
/-- behind the block the def's own state stands again, and the block's names are beside it -/
theorem blk_back {scope : Scope} {cl : List (Str × Addr)} {fp : List Addr} {Sg : L2.St} {G : Hp} {st : Shared} (I : Inv X pins σ H s) (f : ∀ b ∈ fp, FpOk X pins H b ∧ b < s.heap.objs.size) (J : Inv (blkX X s H scope cl s.heap.objs.size fp) [] Sg G st) :
    Inv X pins σ G st ∧ FpOk X pins G s.heap.objs.size ∧ ∃ m, st.heap.Ns s.heap.objs.size m := by
  refine ⟨?_, I.fpOk (Nat.le_refl _) J.free, ?_⟩
  · refine Inv.call' (ch := fp) I J.os J.base J.hok J.bare fun b m => ?_
    obtain ⟨⟨_, a2, _, a4, a5, a6⟩, _⟩ := f b m
    exact ⟨a4, a2, a5, a6⟩
  · obtain ⟨m, n, _⟩ := J.loc
    exact ⟨m, n⟩
end
section
variable {X : Cx} {elt tg iter : Expr} {ifs : List Expr} {scope : Scope} {own : List (Str × Nat)} {wi : TI} {g : TG} {tt : TT} {te : TE}
/-- a comprehension's parts, read in its block -/
structure LcParts (X : Cx) (elt tg iter : Expr) (ifs : List Expr) (scope : Scope) (own : List (Str × Nat)) (wi : TI) (g : TG) (tt : TT) (te : TE) : Prop where
  calm : X.calm = true
  nd : X.N.Nodup
  first : PI X tg iter wi
  blk : BlkOk X.N X.env.scope scope own
  target : ∀ (s : Shared) (H : Hp) (C : Addr) (cl : List (Str × Addr)) (fp : List Addr), PG (blkX X s H scope cl C fp) tg g
  tests : ∀ (s : Shared) (H : Hp) (C : Addr) (cl : List (Str × Addr)) (fp : List Addr), PTs (blkX X s H scope cl C fp) ifs tt
  elem : ∀ (s : Shared) (H : Hp) (C : Addr) (cl : List (Str × Addr)) (fp : List Addr), BlkIn X s H C fp → PE (blkX X s H scope cl C fp) elt te
  plain : ∀ x, foldedSetIterable iter X.env x = pure x
theorem lc_runs {pins : List (Addr × Obj)} {s : Shared} {σ : L2.St} {H : Hp} {Q : VK} {pos pos' : Pos} {use : Option (Value → Sem Unit)} {Qf : Value → Shared → Prop} (L : LcParts X elt tg iter ifs scope own wi g tt te) (I : Inv X pins σ H s) (wish : tLc wi g tt te (own.map (·.2)) σ H Q)
    (ends : ∀ D (ce : Env) st m G, Inv X pins σ G st → Q (.ref D) G → st.heap.Ns ce.locals m → FpOk X pins G ce.locals → compEnds (model X.prog X.w) X.A X.xe use Qf (.ref D) ce (.ok .next) st) :
    wpAny (model X.prog X.w) X.A (comprehension (.ListComp elt [⟨tg, iter, ifs, 0⟩] scope pos) scope X.env pos' (newList []) false (eval iter X.env) use) Qf X.xe s := by
  have closed : closureFor scope X.env = pure (cloFrom X.env.cells scope.names []) := closure_ok fun y m e => I.ok.has _ (L.blk.free y m e)
  refine comprehension_at (use := use) rfl L.plain closed L.blk.kind (fun y m e => (L.blk.uniq y m).trans (congrArg some e)) ?_
  refine thn (L.first.run pins s σ H _ I wish) fun _ _ made => thn made fun itv st ⟨it, fp, tn, J, G, isIt, I2, T, at0, f2, q⟩ => ?_
  rw [isIt]
  refine wpAny_newObj_type (newEnv_comp ?_) (show 0 ≤ sizeLine by decide)
  obtain ⟨W, ⟨m0, w0⟩, turns⟩ := q st.heap.objs.size (I2.hok.fresh (Nat.le_refl _))
  have I3 := nil_inv I2
  have f3 := nil_fp (fun b m => (T.obj 0 st.heap at0 b m).imp fun _ z => z.1) f2
  have keep : ∀ b o, st.heap.get? b = some o → (namesS (nilS st) scope).heap.get? b = some o := fun b o e => pushCells_keeps _ _ _ _ (Heap.get?_push_of_some _ (Heap.get?_push_of_some _ e))
  have begins := (block_start I3 L.blk L.nd f3).wish (xeB X (compEnvC scope (cellsFrom ((nilS st).heap.objs.size + 1) scope.names (cloFrom X.env.cells scope.names [])) (nilS st).heap.objs.size X.env))
  generalize cellsFrom ((nilS st).heap.objs.size + 1) scope.names (cloFrom X.env.cells scope.names []) = cl at begins
  have at1 : tn 0 (namesS (nilS st) scope).heap := T.keep 0 st.heap _ at0 fun b _ o e => keep b o e
  refine codeAny_compStart_list ?_ (T.self X.A 0 _ _ _ at1 ?_)
  all_goals
    exact block_loop (B := blkX X (nilS st) (nilH G st) scope _ (nilS st).heap.objs.size fp) (R := compEnds (model X.prog X.w) X.A X.xe use Qf (.ref st.heap.objs.size) (compEnvC scope _ (nilS st).heap.objs.size X.env)) L.calm T rfl rfl (L.target ..) (L.tests ..) (L.elem _ _ _ _ _ ⟨rfl, pins, σ, I3, f3⟩)
      (fun x st' z => wpAny_mono z (fun _ _ z => by cases use <;> exact z) fun _ _ z => by cases use <;> exact z) turns (fun G' st' J' last => by
        obtain ⟨K1, K2, m, K3⟩ := blk_back I3 f3 J'
        exact ends _ _ st' m G' K1 last K3 K2) ⟨0, _, begins, at1, fun b m => (f3 b m).1.1, w0⟩
/-- as a value -/
theorem pe_lcX {pos : Pos} (hc : X.calm = true) (hN : X.N.Nodup) (hi : PI X tg iter wi) (ok : BlkOk X.N X.env.scope scope own)
    (hg : ∀ (s : Shared) (H : Hp) (C : Addr) (cl : List (Str × Addr)) (fp : List Addr), PG (blkX X s H scope cl C fp) tg g) (ht : ∀ (s : Shared) (H : Hp) (C : Addr) (cl : List (Str × Addr)) (fp : List Addr), PTs (blkX X s H scope cl C fp) ifs tt)
    (he : ∀ (s : Shared) (H : Hp) (C : Addr) (cl : List (Str × Addr)) (fp : List Addr), BlkIn X s H C fp → PE (blkX X s H scope cl C fp) elt te) (hs : ∀ x, foldedSetIterable iter X.env x = pure x := by intro _; rfl) :
    PE X (.ListComp elt [⟨tg, iter, ifs, 0⟩] scope pos) (tLc wi g tt te (own.map (·.2))) := by
  constructor
  intro pins s σ H Q I wish
  rw [eval_ListComp]
  refine lc_runs ⟨hc, hN, hi, ok, hg, ht, he, hs⟩ I wish fun D ce st m G K last names ⟨a0, a1, _, a3, a4, a5⟩ => ⟨m, names, fun h' but => ?_⟩
  exact ⟨.ref D, G, Inv.turned (t' := st.toks) K (fun b o ne e => (but.2 b ne).trans e) a0 a1 a3 a4 a5, rfl, last⟩
/-- the same, stored in a local on the same line -/
theorem ps_setLcX {i : Nat} {y : Str} {py pos spos : Pos} (hc : X.calm = true) (hN : X.N.Nodup) (hy : X.N[i]? = some y) (hyl : X.env.scope.names.lookup y = some .local)
    (hsw : swapsWith (.ListComp elt [⟨tg, iter, ifs, 0⟩] scope pos) (some (.Name y py)) spos.line X.env = pure true) (hi : PI X tg iter wi) (ok : BlkOk X.N X.env.scope scope own)
    (hg : ∀ (s : Shared) (H : Hp) (C : Addr) (cl : List (Str × Addr)) (fp : List Addr), PG (blkX X s H scope cl C fp) tg g) (ht : ∀ (s : Shared) (H : Hp) (C : Addr) (cl : List (Str × Addr)) (fp : List Addr), PTs (blkX X s H scope cl C fp) ifs tt)
    (he : ∀ (s : Shared) (H : Hp) (C : Addr) (cl : List (Str × Addr)) (fp : List Addr), BlkIn X s H C fp → PE (blkX X s H scope cl C fp) elt te) (hs : ∀ x, foldedSetIterable iter X.env x = pure x := by intro _; rfl) :
    PS X (.Assign [.Name y py] (.ListComp elt [⟨tg, iter, ifs, 0⟩] scope pos) spos) (tAsg (tLc wi g tt te (own.map (·.2))) (gName i)) := by
  constructor
  intro pins s σ H D I wish
  refine (exec_Assign_Name_used _ _ _ _ hsw).symm ▸ wpAny_bind (wpAny_standAt (wpAny_bind (wpAny_bind (thn (lc_runs (use := some (assign (.Name y py) X.env)) (Qf := fun _ st => SP X pins D .next st) ⟨hc, hN, hi, ok, hg, ht, he, hs⟩ I (Q := fun x G => gName i x σ G D.nx) wish fun L ce st m G K last names fpk => ?_) fun _ st done => wpAny_pure (wpAny_pure done)))))
  obtain ⟨a0, a1, _, a3, a4, a5⟩ := fpk
  refine wpAny_assign_Name (store_ok2 (v := V.ref L) K hN hy (.inl hyl) rfl (fun st2 K2 ⟨at_, but, which⟩ => ⟨m, names.sameBut but fun z => ?_, fun h' but' => ?_⟩) (.inr hyl))
  · rcases which with w | w
    · exact a1 (z.trans w)
    · exact a4 y at_ w z.symm
  · exact ⟨_, G, Inv.turned (t' := st2.toks) K2 (fun b o ne e => (but'.2 b ne).trans e) a0 a1 a3 a4 a5, last⟩
end
end Lg

namespace Lg
open PySem PySem.Spec PyProof.Rows L2 TL
/-! ### texts read and written again: the plain law -/
theorem joinL_length (S : List Nat) : ∀ {ps : List (List Nat)}, ps ≠ [] → (joinL S ps).length + S.length = (ps.map List.length).sum + ps.length * S.length
  | [], h => absurd rfl h
  | [p], _ => by simp [joinL]
  | p :: q :: r, _ => by
    have ih := joinL_length S (ps := q :: r) (by simp)
    simp only [joinL, List.length_append, List.map_cons, List.sum_cons, List.length_cons] at ih ⊢
    have e : (r.length + 1 + 1) * S.length = (r.length + 1) * S.length + S.length := by rw [Nat.add_mul (r.length + 1), Nat.one_mul]
    omega
theorem join_length {y : Str} {ps : List Str} (h : ps ≠ []) : (Txt.join y ps).length + y.length = (ps.map (·.length)).sum + ps.length * y.length := by
  have h1 := joinL_length (tl y) (ps := ps.map tl) (by simpa using h)
  rw [len_tl, join_eq, tl_join, len_tl y, h1, List.map_map, List.length_map]
  have e : (List.length ∘ tl) = fun x : Str => x.length := by
    funext x
    exact (len_tl x).symm
  rw [e]
theorem join_split (z y : Str) : Txt.join y (Txt.split z y) = z := by
  rw [join_eq]
  exact PySem.StrLaws.join_split z y
theorem split_ne {z y : Str} (hy : tl y ≠ []) (hk : ¬ Builtin.Str.strKind z < Builtin.Str.strKind y) : Txt.split z y ≠ [] := fun h => by
  have h1 := split_spl z y hy hk
  rw [h] at h1
  have key : ∀ (S l : List Nat) (k : Nat) (acc : List Nat), spl S k acc l ≠ [] := by
    intro S l
    induction l with
    | nil =>
      intro k acc
      rw [spl_nil]
      simp
    | cons c r ih =>
      intro k acc
      cases k with
      | zero =>
        unfold spl
        split
        · simp
        · exact ih _ _
      | succ k => exact ih _ _
  exact key _ _ _ _ h1.symm
theorem sp_ne (z : Str) : Txt.split z " " ≠ [] := split_ne (by decide +kernel) (kind_ok (by decide +kernel))
theorem nl_ne (z : Str) : Txt.split z "\n" ≠ [] := split_ne (by decide +kernel) (kind_ok (by decide +kernel))
theorem sp_sum (z : Str) : ((Txt.split z " ").map (·.length)).sum + (Txt.split z " ").length = z.length + 1 := by
  have h := join_length (y := " ") (sp_ne z)
  rw [join_split, show (" " : Str).length = 1 by decide +kernel, Nat.mul_one] at h
  exact h.symm
theorem nl_sum (z : Str) : ((Txt.split z "\n").map (·.length)).sum + (Txt.split z "\n").length = z.length + 1 := by
  have h := join_length (y := "\n") (nl_ne z)
  rw [join_split, show ("\n" : Str).length = 1 by decide +kernel, Nat.mul_one] at h
  exact h.symm
theorem le_sum : ∀ {l : List Nat} {x : Nat}, x ∈ l → x ≤ l.sum
  | y :: r, x, m => by
    rw [List.sum_cons]
    rcases List.mem_cons.mp m with rfl | m
    · omega
    · have := le_sum m
      omega
theorem sp_mem {z x : Str} (m : x ∈ Txt.split z " ") : x.length ≤ z.length := by
  have h := sp_sum z
  have h2 := le_sum (List.mem_map.mpr ⟨x, m, rfl⟩ : x.length ∈ (Txt.split z " ").map (·.length))
  have h3 := List.length_pos_iff.mpr (sp_ne z)
  omega
theorem nl_mem {z x : Str} (m : x ∈ Txt.split z "\n") : x.length ≤ z.length := by
  have h := nl_sum z
  have h2 := le_sum (List.mem_map.mpr ⟨x, m, rfl⟩ : x.length ∈ (Txt.split z "\n").map (·.length))
  have h3 := List.length_pos_iff.mpr (nl_ne z)
  omega
theorem dv_snoc (cs : List Nat) (c : Nat) : NumText.digitsVal (cs ++ [c]) = NumText.digitsVal cs * 10 + (c - 48) := by
  unfold NumText.digitsVal
  rw [List.foldl_append]
  rfl
theorem dv_pos : ∀ (n : Nat) (cs : List Nat), cs.length = n → (∀ c ∈ cs, 48 ≤ c ∧ c ≤ 57) → cs ≠ [] → cs.head? ≠ some 48 → 0 < NumText.digitsVal cs := by
  intro n
  induction n with
  | zero =>
    intro cs h _ h2
    exact absurd (List.length_eq_zero_iff.mp h) h2
  | succ n ih =>
    intro cs h hd hne hh
    rcases List.eq_nil_or_concat cs with e | ⟨r, c, e⟩
    · exact absurd e hne
    · rw [List.concat_eq_append] at e
      rw [e, dv_snoc]
      by_cases hr : r = []
      · rw [hr] at e
        have e : cs = [c] := e
        rw [e] at hh
        have := hd c (by rw [e]; exact List.mem_singleton.mpr rfl)
        have : c ≠ 48 := fun z => hh (by rw [z]; rfl)
        omega
      · have := ih r (by rw [e, List.length_append] at h; exact Nat.succ.inj h) (fun x m => hd x (by rw [e]; exact List.mem_append_left _ m)) hr (by
          rw [e, List.head?_append] at hh
          cases hr2 : r.head? with
          | none => exact absurd (List.head?_eq_none_iff.mp hr2) hr
          | some x =>
            rw [hr2] at hh
            exact hh)
        omega
theorem numL_back : ∀ (n : Nat) (cs : List Nat), cs.length = n → (∀ c ∈ cs, 48 ≤ c ∧ c ≤ 57) → cs ≠ [] → (cs.length = 1 ∨ cs.head? ≠ some 48) → numL (NumText.digitsVal cs) = cs := by
  intro n
  induction n with
  | zero =>
    intro cs h _ h2
    exact absurd (List.length_eq_zero_iff.mp h) h2
  | succ n ih =>
    intro cs h hd hne hh
    rcases List.eq_nil_or_concat cs with e | ⟨r, c, e⟩
    · exact absurd e hne
    · rw [List.concat_eq_append] at e
      have hc := hd c (by rw [e]; exact List.mem_append_right _ (List.mem_singleton.mpr rfl))
      rw [e, dv_snoc]
      by_cases hr : r = []
      · rw [hr]
        show numL (0 * 10 + (c - 48)) = [c]
        rw [numL_lt (by omega)]
        congr 1
        omega
      · have hr2 : r.head? ≠ some 48 := by
          rcases hh with hh | hh
          · rw [e, List.length_append] at hh
            have := List.length_pos_iff.mpr hr
            simp at hh
            exact absurd hh hr
          · rw [e, List.head?_append] at hh
            cases hr2 : r.head? with
            | none => exact absurd (List.head?_eq_none_iff.mp hr2) hr
            | some x =>
              rw [hr2] at hh
              exact hh
        have hd2 : ∀ c ∈ r, 48 ≤ c ∧ c ≤ 57 := fun x m => hd x (by rw [e]; exact List.mem_append_left _ m)
        have hl : r.length = n := by rw [e, List.length_append] at h; exact Nat.succ.inj h
        have h1 := dv_pos n r hl hd2 hr hr2
        rw [numL_step (by omega), show (NumText.digitsVal r * 10 + (c - 48)) / 10 = NumText.digitsVal r by omega, ih r hl hd2 hr (.inr hr2)]
        congr 2
        omega
theorem dv_lt : ∀ (n : Nat) (cs : List Nat), cs.length = n → (∀ c ∈ cs, 48 ≤ c ∧ c ≤ 57) → NumText.digitsVal cs < 10 ^ n := by
  intro n
  induction n with
  | zero =>
    intro cs h _
    rw [List.length_eq_zero_iff.mp h]
    decide
  | succ n ih =>
    intro cs h hd
    rcases List.eq_nil_or_concat cs with e | ⟨r, c, e⟩
    · rw [e] at h
      cases h
    · rw [List.concat_eq_append] at e
      have hc := hd c (by rw [e]; exact List.mem_append_right _ (List.mem_singleton.mpr rfl))
      have := ih r (by rw [e, List.length_append] at h; exact Nat.succ.inj h) fun x m => hd x (by rw [e]; exact List.mem_append_left _ m)
      rw [e, dv_snoc, Nat.pow_succ]
      omega
theorem isNum_ok {l : List Nat} (h : isNum l = true) : (∀ c ∈ l, 48 ≤ c ∧ c ≤ 57) ∧ l ≠ [] ∧ l.length ≤ 9 ∧ (l.length = 1 ∨ l.head? ≠ some 48) := by
  unfold isNum at h
  simp only [Bool.and_eq_true, Bool.or_eq_true, decide_eq_true_eq, List.all_eq_true, Bool.not_eq_true', List.isEmpty_eq_false_iff] at h
  exact ⟨h.1.1.1, h.1.1.2, h.1.2, h.2⟩
theorem numOf_back {z : Str} {n : Nat} (h : numOf z = some n) : z = nT n ∧ n < 1000000000 := by
  unfold numOf at h
  split at h
  · rename_i hi
    cases h
    obtain ⟨h1, h2, h3, h4⟩ := isNum_ok hi
    refine ⟨ext_tl ?_, Nat.lt_of_lt_of_le (dv_lt _ _ rfl h1) (Nat.pow_le_pow_right (by decide) h3)⟩
    rw [nT_tl, numL_back _ _ rfl h1 h2 h4]
  · cases h
theorem mapM_cons_some {α β : Type} {f : α → Option β} {a : α} {r : List α} {ns : List β} (h : (a :: r).mapM f = some ns) : ∃ n ms, f a = some n ∧ r.mapM f = some ms ∧ ns = n :: ms := by
  rw [List.mapM_cons] at h
  cases ha : f a with
  | none =>
    rw [ha] at h
    cases h
  | some n =>
    cases hr : r.mapM f with
    | none =>
      rw [ha, hr] at h
      cases h
    | some ms =>
      rw [ha, hr] at h
      cases h
      exact ⟨n, ms, rfl, rfl, rfl⟩
theorem nums_back : ∀ {r : List Str} {ns : List Nat}, r.mapM numOf = some ns → r = ns.map nT ∧ ∀ n ∈ ns, n < 1000000000
  | [], ns, h => by
    rw [List.mapM_nil] at h
    cases h
    exact ⟨rfl, fun n m => by cases m⟩
  | a :: r, ns, h => by
    obtain ⟨n, ms, h1, h2, rfl⟩ := mapM_cons_some h
    obtain ⟨h3, h4⟩ := nums_back h2
    obtain ⟨h5, h6⟩ := numOf_back h1
    refine ⟨by rw [h5, h3]; rfl, fun x m => ?_⟩
    rcases List.mem_cons.mp m with rfl | m
    · exact h6
    · exact h4 x m
theorem numbersOf_back {z w : Str} {ns : List Nat} (h : numbersOf z w = some ns) : z = Txt.join " " (w :: ns.map nT) ∧ (∀ n ∈ ns, n < 1000000000) ∧ ns.length ≤ z.length ∧ (w.length + 2 * ns.length ≤ z.length) := by
  have hs := join_split z " "
  have hu := sp_sum z
  unfold numbersOf at h
  cases e : Txt.split z " " with
  | nil => exact absurd e (sp_ne z)
  | cons a r =>
    rw [e] at h hs hu
    dsimp only at h
    split at h
    · rename_i ew
      obtain ⟨h1, h2⟩ := nums_back h
      have hl : r.length = ns.length := by rw [h1, List.length_map]
      have hsum : ns.length ≤ (r.map (·.length)).sum := by
        rw [h1]
        clear h h1 h2 hl hs hu e
        induction ns with
        | nil => exact Nat.zero_le _
        | cons n ns ih =>
          rw [List.map_cons, List.map_cons, List.sum_cons, List.length_cons]
          have : 0 < (nT n).length := by
            rw [len_tl, nT_tl]
            exact List.length_pos_iff.mpr (numL_ne n)
          omega
      rw [List.map_cons, List.sum_cons, List.length_cons] at hu
      refine ⟨by rw [← hs, ew, h1], h2, by omega, by rw [← ew]; omega⟩
    · cases h
end Lg

namespace Lg
open PySem PySem.Spec PyProof.Rows L2 TL
/-! ### what was read is good, and writes the text again -/
theorem free_cell {g : Grid} {a b c : Nat} (h : ¬ reach (g[a]?.getD []) b < c) : ∀ l, b ≤ l → l < c → cellOf g a l = none := fun l h1 h2 => by
  unfold cellOf
  rw [reach_free _ _ _ (Nat.le_refl _) h1 (by omega)]
  rfl
abbrev flatP (qs : List P3) : List Nat := (qs.map fun q => [q.1, q.2.1, q.2.2]).flatten
theorem flatP_len (qs : List P3) : (flatP qs).length = 3 * qs.length := by
  unfold flatP
  rw [List.length_flatten, List.map_map]
  have e : (List.length ∘ fun q : P3 => [q.1, q.2.1, q.2.2]) = fun _ => 3 := by
    funext q
    rfl
  rw [e, List.map_const', List.sum_replicate_nat]
  omega
theorem partsGo_tail {T : Tr} : ∀ (n : Nat) (ns : List Nat) (acc ps : List P3) (q0 : P3), ns.length = n → acc.getLast? = some q0 → ns.length % 3 = 0 → partsGo T acc ns = (("" : Str), ps) →
    ∃ qs e, ps = acc ++ qs ∧ flatP qs = ns ∧ Way T.rows.length q0.2.2 e qs ∧ (∀ p, qs.head? = some p → p.1 ≠ q0.1) ∧ (e = q0.2.2 ∨ e < T.stops) ∧ ∀ q ∈ qs, ∀ l, q.2.1 ≤ l → l < q.2.2 → cellOf T.rows q.1 l = none := by
  intro n
  induction n using Nat.strongRecOn with
  | ind n ih =>
    intro ns acc ps q0 hn hla hm h
    match ns, hn, hm, h with
    | [], _, _, h =>
      rw [partsGo] at h
      · have e := congrArg Prod.snd h
        dsimp only at e
        subst e
        exact ⟨[], q0.2.2, by simp, rfl, rfl, fun p z => (by cases z), .inl rfl, fun q m => by cases m⟩
      · exact fun _ _ _ _ z => by cases z
    | [a], _, hm, _ => exact absurd (show 1 % 3 = 0 from hm) (by decide)
    | [a, b], _, hm, _ => exact absurd (show 2 % 3 = 0 from hm) (by decide)
    | a :: b :: c :: r, hn, hm, h =>
      rw [partsGo_cons] at h
      have ne : ∀ (w : Str) (P : List P3), w ≠ "" → (w, P) = (("" : Str), ps) → False := fun w P hw z => hw (congrArg Prod.fst z)
      split at h
      · exact (ne _ _ (by decide +kernel) h).elim
      rename_i k1
      split at h
      · exact (ne _ _ (by decide +kernel) h).elim
      rename_i k2
      split at h
      · exact (ne _ _ (by decide +kernel) h).elim
      rename_i k3
      split at h
      · exact (ne _ _ (by decide +kernel) h).elim
      rename_i k4
      have k1 : a < T.rows.length := by omega
      have k2 : b < c ∧ c < T.stops := by omega
      have k3 : q0.2.2 = b ∧ q0.1 ≠ a := by
        unfold goesBad at k3
        rw [hla] at k3
        simp only [Bool.or_eq_true, decide_eq_true_eq, not_or] at k3
        exact ⟨Classical.not_not.mp k3.1, k3.2⟩
      rw [List.length_cons, List.length_cons, List.length_cons] at hn hm
      obtain ⟨qs, e, e1, e2, w, hh, he, fr⟩ := ih r.length (by omega) r (acc ++ [(a, b, c)]) ps (a, b, c) rfl (by rw [List.getLast?_append, List.getLast?_singleton]; rfl) (by omega) h
      have hle := w.le
      refine ⟨(a, b, c) :: qs, e, by rw [e1, List.append_assoc]; rfl, ?_, ⟨k3.1.symm, ?_, k1, hh, w⟩, fun p z => ?_, .inr ?_, fun q m => ?_⟩
      · show a :: b :: c :: flatP qs = _
        rw [e2]
      · show q0.2.2 < c
        omega
      · cases z
        exact fun z => k3.2 z.symm
      · rcases he with he | he
        · rw [he]
          exact k2.2
        · exact he
      · rcases List.mem_cons.mp m with rfl | m
        · exact free_cell k4
        · exact fr q m
theorem partsGo_back {T : Tr} {ns : List Nat} {ps : List P3} (hne : ns ≠ []) (hm : ns.length % 3 = 0) (h : partsGo T [] ns = (("" : Str), ps)) :
    ∃ b e, flatP ps = ns ∧ b < e ∧ e < T.stops ∧ Way T.rows.length b e ps ∧ ∀ q ∈ ps, ∀ l, q.2.1 ≤ l → l < q.2.2 → cellOf T.rows q.1 l = none := by
  match ns, hne, hm, h with
  | [], hne, _, _ => exact absurd rfl hne
  | [a], _, hm, _ => exact absurd (show 1 % 3 = 0 from hm) (by decide)
  | [a, b], _, hm, _ => exact absurd (show 2 % 3 = 0 from hm) (by decide)
  | a :: b :: c :: r, _, hm, h =>
    rw [partsGo_cons] at h
    have ne : ∀ (w : Str) (P : List P3), w ≠ "" → (w, P) = (("" : Str), ps) → False := fun w P hw z => hw (congrArg Prod.fst z)
    split at h
    · exact (ne _ _ (by decide +kernel) h).elim
    rename_i k1
    split at h
    · exact (ne _ _ (by decide +kernel) h).elim
    rename_i k2
    split at h
    · exact (ne _ _ (by decide +kernel) h).elim
    split at h
    · exact (ne _ _ (by decide +kernel) h).elim
    rename_i k4
    have k1 : a < T.rows.length := by omega
    have k2 : b < c ∧ c < T.stops := by omega
    rw [List.length_cons, List.length_cons, List.length_cons] at hm
    obtain ⟨qs, e, e1, e2, w, hh, he, fr⟩ := partsGo_tail r.length r ([] ++ [(a, b, c)]) ps (a, b, c) rfl rfl (by omega) h
    have hle := w.le
    have e1 : ps = (a, b, c) :: qs := e1
    have hle : c ≤ e := hle
    refine ⟨b, e, ?_, by omega, ?_, ?_, fun q m => ?_⟩
    · rw [e1, ← e2]
      rfl
    · rcases he with he | he
      · rw [he]
        exact k2.2
      · exact he
    · rw [e1]
      exact ⟨rfl, k2.1, k1, hh, w⟩
    · rw [e1] at m
      rcases List.mem_cons.mp m with rfl | m
      · exact free_cell k4
      · exact fr q m
theorem Good.put {T : Tr} (G : Good T) {t b e : Nat} {ps : List P3} (ht : T.coming ≤ t) (w : Way T.rows.length b e ps) (hb : b < e) (he : e ≤ T.stops - 1) (fr : ∀ q ∈ ps, ∀ l, q.2.1 ≤ l → l < q.2.2 → cellOf T.rows q.1 l = none) : Good (T.put t ps) := by
  have low : ∀ x ∈ T.sold, x.1 < t := fun x m => Nat.lt_of_lt_of_le (G.low x m) ht
  have nin : ∀ x ∈ T.sold, x.1 ≠ t := fun x m => Nat.ne_of_lt (low x m)
  refine ⟨sell_wf G.wf (markAll_len _ _ _) (markAll_row _ _ _ G.wf.legs) (putS_rising G.wf.rising (.inr low)), fun x m => ?_, fun x m => ?_, ?_⟩
  · rcases mem_putS.mp m with rfl | ⟨m, _⟩
    · exact Nat.lt_succ_self _
    · exact Nat.lt_succ_of_lt (low x m)
  · show ∃ b' e', b' < e' ∧ e' ≤ T.stops - 1 ∧ Way (markAll _ _ _).length b' e' x.2
    rw [markAll_len]
    rcases mem_putS.mp m with rfl | ⟨m, _⟩
    · exact ⟨b, e, hb, he, w⟩
    · exact G.way x m
  · intro s l u h1 h2
    rw [show (T.put t ps).rows.length = T.rows.length from markAll_len _ _ _] at h1
    refine cells_step G (t := t) (old := []) (new := ps) (fun s l => ⟨fun ⟨q, m, _⟩ => (by cases m), fun ⟨x, m, ex, _⟩ => absurd ex (nin x m)⟩) (fun s l _ _ ⟨q, m, c1, c2, c3⟩ => .inl (by rw [c1]; exact fr q m l c2 c3)) (fun s l _ _ => ?_)
      (fun y hy => ?_) (fun s l => ?_) s l u h1 h2
    · rw [if_neg (c := covers [] s l) (fun ⟨q, m, _⟩ => by cases m)]
      exact mark_cell G.wf (w.valid he)
    · show y ∈ putS _ _ _ ↔ _
      rw [mem_putS]
      refine ⟨fun c => ?_, fun m => .inr ⟨m, hy⟩⟩
      rcases c with rfl | c
      · exact absurd rfl hy
      · exact c.1
    · refine ⟨fun ⟨y, m, ey, c⟩ => ?_, fun c => ⟨_, mem_putS.mpr (.inl rfl), rfl, c⟩⟩
      rcases mem_putS.mp m with rfl | ⟨_, hy⟩
      · exact c
      · exact absurd ey hy
/-- the numbers of tickets, as a text tells them -/
def TicksOk (ts : List (List Nat)) : Prop := ∀ t ∈ ts, 3 < t.length ∧ t.length % 3 = 1
theorem readGo_back {c : Nat} : ∀ (ts : List (List Nat)) (T TF : Tr), Good T → TicksOk ts → (∀ x ∈ T.sold, x.1 < c) → readGo c T ts = (("" : Str), TF) →
    Good TF ∧ TF.rows.length = T.rows.length ∧ TF.stops = T.stops ∧ TF.sold.map numsT = T.sold.map numsT ++ ts ∧ ∀ x ∈ TF.sold, x.1 < c
  | [], T, TF, G, _, hl, h => by
    rw [readGo] at h
    · have e : T = TF := congrArg Prod.snd h
      subst e
      exact ⟨G, rfl, rfl, by simp, hl⟩
    · exact fun _ _ _ z => by cases z
  | t :: r, T, TF, G, hok, hl, h => by
    obtain ⟨o1, o2⟩ := hok t List.mem_cons_self
    match t, o1, o2, h with
    | [], o1, _, _ => exact absurd o1 (by decide)
    | t0 :: ns, o1, o2, h =>
      rw [List.length_cons] at o1 o2
      rw [readGo_cons] at h
      split at h
      · exact absurd (congrArg Prod.fst h) (show ¬ ("ticket" : Str) = "" by decide +kernel)
      rename_i k1
      split at h
      · rename_i k2
        obtain ⟨b, e, e1, hb, he, w, fr⟩ := partsGo_back (T := T) (ns := ns) (ps := (partsGo T [] ns).2) (fun z => by rw [z] at o1; exact absurd o1 (by decide)) (by omega) (by rw [← k2])
        have w4 := G.wf.t1
        have G2 := G.put (t := t0) (by omega) w hb (by omega) fr
        have low : ∀ x ∈ T.sold, x.1 < t0 := fun x m => Nat.lt_of_lt_of_le (G.low x m) (by omega)
        have es : (T.put t0 (partsGo T [] ns).2).sold = T.sold ++ [(t0, (partsGo T [] ns).2)] := putS_new low
        obtain ⟨g1, g2, g3, g4, g5⟩ := readGo_back r _ TF G2 (fun t m => hok t (List.mem_cons_of_mem _ m)) (fun x m => by
          rw [es] at m
          rcases List.mem_append.mp m with m | m
          · exact hl x m
          · rw [List.mem_singleton.mp m]
            show t0 < c
            omega) h
        refine ⟨g1, g2.trans (markAll_len _ _ _), g3, ?_, g5⟩
        rw [g4, es, List.map_append, List.append_assoc]
        show _ = T.sold.map numsT ++ ([t0 :: ns] ++ r)
        have : numsT (t0, (partsGo T [] ns).2) = t0 :: ns := by
          show t0 :: flatP (partsGo T [] ns).2 = _
          rw [e1]
        rw [List.map_singleton, this]
      · rename_i k2
        exact absurd (congrArg Prod.fst h) k2
theorem headOk_ok {h : List Nat} {ts : List (List Nat)} (k : headOk h ts = true) : (∃ a b c, h = [a, b, c]) ∧ TicksOk ts := by
  unfold headOk at k
  simp only [Bool.and_eq_true, decide_eq_true_eq, List.all_eq_true] at k
  obtain ⟨k1, k2⟩ := k
  refine ⟨?_, fun t m => k2 t m⟩
  match h, k1 with
  | [a, b, c], _ => exact ⟨a, b, c, rfl⟩
theorem rows_back : ∀ {r : List Str} {ts : List (List Nat)}, r.mapM (fun x => numbersOf x "ticket") = some ts → r = ts.map (fun t => Txt.join " " (("ticket" : Str) :: t.map nT)) ∧ ∀ t ∈ ts, ∀ n ∈ t, n < 1000000000
  | [], ts, h => by
    rw [List.mapM_nil] at h
    cases h
    exact ⟨rfl, fun t m => by cases m⟩
  | a :: r, ts, h => by
    obtain ⟨n, ms, h1, h2, rfl⟩ := mapM_cons_some h
    obtain ⟨h3, h4⟩ := rows_back h2
    obtain ⟨h5, h6, _⟩ := numbersOf_back h1
    refine ⟨by rw [h3]; show a :: _ = _ :: _; rw [h5], fun x m => ?_⟩
    rcases List.mem_cons.mp m with rfl | m
    · exact h6
    · exact h4 x m
theorem rows_few : ∀ {r : List Str} {ts : List (List Nat)}, r.mapM (fun x => numbersOf x "ticket") = some ts → TicksOk ts → 13 * r.length ≤ (r.map (·.length)).sum
  | [], ts, _, _ => Nat.zero_le _
  | a :: r, ts, h, ok => by
    obtain ⟨n, ms, h1, h2, rfl⟩ := mapM_cons_some h
    have h3 := rows_few h2 fun t m => ok t (List.mem_cons_of_mem _ m)
    obtain ⟨_, _, _, h6⟩ := numbersOf_back h1
    have h7 := (ok n List.mem_cons_self).1
    rw [show ("ticket" : Str).length = 6 by decide +kernel] at h6
    rw [List.map_cons, List.sum_cons, List.length_cons]
    omega
/-- all that an accepted text tells -/
structure ReadOk (z : Str) (T : Tr) (h0 h1 h2 : Nat) (ts : List (List Nat)) : Prop where
  good : Good T
  text : textT T = z
  seats : T.rows.length = h0
  stops : T.stops = h1
  com : T.coming = h2
  lt : T.coming < 1000000000
  nums : T.sold.map numsT = ts
theorem readT_ok {z : Str} (h : (readT z).1 = "") : ∃ a r h0 h1 h2 ts, Txt.split z "\n" = a :: r ∧ numbersOf a "train" = some [h0, h1, h2] ∧ r.mapM (fun x => numbersOf x "ticket") = some ts ∧ TicksOk ts ∧ 1 ≤ h0 ∧ h0 ≤ 60 ∧ 2 ≤ h1 ∧ h1 ≤ 60 ∧
    (readGo h2 (Tr.new h0 h1) ts).1 = "" ∧ (readT z).2 = { (readGo h2 (Tr.new h0 h1) ts).2 with coming := h2 } ∧ ReadOk z (readT z).2 h0 h1 h2 ts := by
  have hj := join_split z "\n"
  unfold readT at h ⊢
  have ne : ∀ (w : Str), w ≠ "" → w = "" → False := fun w hw z => hw z
  cases e : Txt.split z "\n" with
  | nil => exact absurd e (nl_ne z)
  | cons a r =>
    rw [e] at h hj
    dsimp only at h ⊢
    cases ea : numbersOf a "train" with
    | none =>
      rw [ea] at h
      exact absurd (show ("text" : Str) = "" from h) (by decide +kernel)
    | some hd =>
      cases er : r.mapM (fun x => numbersOf x "ticket") with
      | none =>
        rw [ea, er] at h
        exact absurd (show ("text" : Str) = "" from h) (by decide +kernel)
      | some ts =>
        rw [ea, er] at h
        dsimp only at h ⊢
        split at h
        · rename_i ho
          rw [if_pos ho]
          obtain ⟨⟨h0, h1, h2, rfl⟩, ok⟩ := headOk_ok ho
          unfold readH at h ⊢
          dsimp only at h ⊢
          split at h
          · rename_i hb
            rw [if_pos hb]
            have hg : readGo h2 (Tr.new h0 h1) ts = (("" : Str), (readGo h2 (Tr.new h0 h1) ts).2) := by
              have h : (readGo h2 (Tr.new h0 h1) ts).1 = "" := h
              rw [← h]
            obtain ⟨g1, g2, g3, g4, g5⟩ := readGo_back ts _ _ (Good.new hb.1 hb.2.1 hb.2.2.1 hb.2.2.2) ok (fun x m => by cases m) hg
            obtain ⟨n1, n2, _⟩ := numbersOf_back ea
            obtain ⟨r1, r2⟩ := rows_back er
            have g2 : (readGo h2 (Tr.new h0 h1) ts).2.rows.length = h0 := g2.trans List.length_replicate
            have g3 : (readGo h2 (Tr.new h0 h1) ts).2.stops = h1 := g3
            have g4 : (readGo h2 (Tr.new h0 h1) ts).2.sold.map numsT = ts := g4
            refine ⟨a, r, h0, h1, h2, ts, rfl, ea, er, ok, hb.1, hb.2.1, hb.2.2.1, hb.2.2.2, h, rfl, ⟨⟨g1.wf.s1, g1.wf.s2, g1.wf.t1, g1.wf.t2, g1.wf.legs, g1.wf.rising⟩, g5, g1.way, g1.cell⟩, ?_, g2, g3, rfl, n2 h2 (by simp), g4⟩
            rw [← hj, n1, r1]
            unfold textT
            have e2 : Txt.join " " (headW { (readGo h2 (Tr.new h0 h1) ts).2 with coming := h2 }) = Txt.join " " (("train" : Str) :: [h0, h1, h2].map nT) := by
              unfold headW
              dsimp only
              rw [g2, g3]
              rfl
            have e3 : ((readGo h2 (Tr.new h0 h1) ts).2.sold.map fun x => Txt.join " " (wordsT x)) = ts.map (fun t => Txt.join " " (("ticket" : Str) :: t.map nT)) := by
              rw [show ts.map (fun t => Txt.join " " (("ticket" : Str) :: t.map nT)) = ((readGo h2 (Tr.new h0 h1) ts).2.sold.map numsT).map (fun t => Txt.join " " (("ticket" : Str) :: t.map nT)) by rw [g4], List.map_map]
              refine List.map_congr_left fun x _ => ?_
              show _ = Txt.join " " (("ticket" : Str) :: (numsT x).map nT)
              rw [wordsT_eq]
            exact congrArg (Txt.join "\n") (by rw [← e2, ← e3])
          · exact absurd (show ("train" : Str) = "" from h) (by decide +kernel)
        · exact absurd (show ("text" : Str) = "" from h) (by decide +kernel)
/-! ### promises -/
def spNumber13 (K : PySem.W.Frag) : Sp := fun vs H Q E => ∃ z : Str, vs = [.str z] ∧ z.length ≤ 9000000 ∧ (∀ n, numOf z = some n → Q (.int (n : Int)) H) ∧ (numOf z = none → E (cls K "NoText") none H)
abbrev natsV (ns : List Nat) : List V := (ns.map fun n : Nat => (n : Int)).map V.int
def spNumbersOf13 (K : PySem.W.Frag) : Sp := fun vs H Q E => ∃ z w : Str, vs = [.str z, .str w] ∧ z.length ≤ 9000000 ∧
  (∀ ns, numbersOf z w = some ns → ∀ H' l, Ex H H' → H l = none → H' l = some (.lst (natsV ns)) → Q (.ref l) H') ∧ (numbersOf z w = none → ∀ H', Ex H H' → E (cls K "NoText") none H')
def spPartsOf13 (K : PySem.W.Frag) : Sp := fun vs H Q E => ∃ (S : Addr → Prop) (p l : Addr) (T : Tr) (t : Nat) (ns : List Nat), vs = [.ref p, .ref l] ∧ TrainAt K H S p T ∧ H l = some (.lst (((t :: ns).map fun n : Nat => (n : Int)).map V.int)) ∧ ns.length % 3 = 0 ∧ ns.length ≤ 9000000 ∧
  ((partsGo T [] ns).1 = "" → ∀ H' r, Ex H H' → H r = none → PartsAt H' r (partsGo T [] ns).2 → Q (.ref r) H') ∧ WordX K H (partsGo T [] ns).1 E
def spRead13 (K : PySem.W.Frag) : Sp := fun vs H Q E => ∃ z : Str, vs = [.str z] ∧ z.length ≤ 9000000 ∧ ((readT z).1 = "" → ∀ H' S p, Play K H H' p (readT z).2 S → Q (.ref p) H') ∧ WordX K H (readT z).1 E
def spWritten13 (K : PySem.W.Frag) : Sp := fun vs H Q _ => ∃ (S : Addr → Prop) (p : Addr) (T : Tr), vs = [.ref p] ∧ TrainAt K H S p T ∧ Good T ∧ T.coming < 1000000000 ∧ T.sold.length < 1000000 ∧ (textT T).length ≤ 9000000 ∧ ∀ H', Ex H H' → Q (.str (textT T)) H'
/-! ### a comprehension whose elements each tell a fact -/
theorem rg3_13 {m : Nat} (hm : m % 3 = 0) (hb : m ≤ 9000000) : RgC 1 ((m + 1 : Nat) : Int) 3 (m / 3) := by
  have e : Builtin.Range.rangeSize 1 ((m + 1 : Nat) : Int) 3 = ((m / 3 : Nat) : Int) := by
    unfold Builtin.Range.rangeSize
    rw [if_pos (by decide)]
    split <;> omega
  refine ⟨by decide, by decide, ?_, e⟩
  obtain ⟨j, hj⟩ : ∃ j : Int, j = ((m + 1 : Nat) : Int) := ⟨_, rfl⟩
  obtain ⟨k, hk⟩ : ∃ k : Int, k = ((m / 3 : Nat) : Int) := ⟨_, rfl⟩
  have h1 : 1 ≤ j ∧ j ≤ 9000001 := by omega
  have h2 : 0 ≤ k ∧ k ≤ 9000000 ∧ 3 * k + 1 = j := by omega
  rw [← hj, ← hk] at e
  rw [← hj]
  clear hj hk
  have f : ∀ i : Int, -90000000 ≤ i → i ≤ 90000000 → Builtin.Range.rangeFitsLong i = true := fun i a b => by
    unfold Builtin.Range.rangeFitsLong
    rw [decide_eq_true (show -(2 ^ 63) ≤ i by omega), decide_eq_true (show i < 2 ^ 63 by omega)]
    rfl
  unfold Builtin.Range.small
  rw [e]
  rw [f 1 (by omega) (by omega), f j (by omega) (by omega), f 3 (by omega) (by omega), f k (by omega) (by omega), if_pos (by decide), f (j + (3 - 1)) (by omega) (by omega), Bool.or_true]
  rfl
end Lg

namespace Lg
open PySem PySem.Spec PyProof.Rows L2 TL
/-! ### comprehensions over many -/
section
variable {J : It} {n : Nat} {G : Hp → Prop} {Y : Nat → Hp → V → Hp → Prop}
theorem lc_exB (w : Walk J n G Y) {Xr : Nat → V → Prop} (hY : ∀ i H x H', Y i H x H' → H' = H ∧ Xr i x) {j : Nat} {tt : TT} {te : TE} {vs : List Nat} {σ : L2.St} {H1 : Hp} {D : Addr} {Qd : Hp → Prop} (hD : H1 D = none)
    (hG : ∀ H, Ex H1 H → G H) (hn : n ≤ 9000001) (keep : Nat → Bool) (R : Hp → Nat → V → Prop) (mono : ∀ H H' i v, Ex H H' → R H i v → R H' i v)
    (hw : ∀ x, wipe ((wipe σ vs).set j (some x)) vs = wipe σ vs)
    (ht : ∀ i x H, i < n → Xr i x → Ex H1 H → ∀ Q : Bool → Hp → Prop, (∀ H', Ex H H' → Q (keep i) H') → tt ((wipe σ vs).set j (some x)) H Q)
    (he : ∀ i x H, i < n → Xr i x → keep i = true → Ex H1 H → (∃ o, H D = some o) → ∀ Q : VK, (∀ y H' Hn, Ex H H' → Ex Hn H' → Hn D = none → R Hn i y → Q y H') → te ((wipe σ vs).set j (some x)) H Q)
    (q : ∀ H' ys, Ex H1 H' → H' D = some (.lst ys) → All2 (R H') (kept n keep) ys → Qd H') :
    ∃ W : Nat → Nat → Hp → Prop, (∃ m, W 0 m (upd H1 D (.lst []))) ∧ ∀ i m H, W i m H →
      (J.stop i H ∧ Qd H) ∨ (J.go i H ∧ ∃ Nx : Hp → Prop, (∀ H', Nx H' → ∃ m', m' < m ∧ W (i + 1) m' H') ∧ ∀ x H', J.yld i H x H' → gName j x (wipe σ vs) H' fun σ2 H2 => wipe σ2 vs = wipe σ vs ∧ tt σ2 H2 fun b H3 =>
        if b = true then te σ2 H3 fun y H4 => ∃ acc, H4 D = some (.lst acc) ∧ acc.length < sizeLine ∧ Nx (upd H4 D (.lst (acc ++ [y]))) else Nx H3) := by
  refine lc_it w (fun i H => Ex H1 H ∧ ∃ acc, H D = some (.lst acc) ∧ All2 (fun k y => ∃ Hn, Hn D = none ∧ Ex Hn H ∧ R Hn k y) (kept i keep) acc)
    ⟨Evl.Ex.new hD, [], upd_same, All2.nil⟩ (fun i H _ p => hG H p.1) ?_ ?_
  · rintro i x H H' hi ⟨ex, acc, hacc, hall⟩ y
    obtain ⟨rfl, xr⟩ := hY _ _ _ _ y
    refine ⟨hw x, ht i x H' hi xr ex _ fun H3 e3 => ?_⟩
    have hall3 : All2 (fun k y => ∃ Hn, Hn D = none ∧ Ex Hn H3 ∧ R Hn k y) (kept i keep) acc := hall.mono fun k y ⟨Hn, a, b, c⟩ => ⟨Hn, a, b.trans e3, c⟩
    refine iteB (fun hk => ?_) (fun hk => ?_)
    · refine he i x H3 hi xr hk (ex.trans e3) ⟨_, e3 _ _ hacc⟩ _ fun y H4 Hn e4 en nD r => ?_
      have hl : acc.length < sizeLine := by
        rw [← hall.len]
        exact Nat.lt_of_le_of_lt (kept_len i keep) (Nat.lt_of_lt_of_le hi (Nat.le_trans hn (show 9000001 ≤ sizeLine by decide)))
      refine ⟨acc, e4 _ _ (e3 _ _ hacc), hl, Evl.Ex.mut ((ex.trans e3).trans e4) hD, _, upd_same, ?_⟩
      rw [kept_yes hk]
      refine All2.snoc (hall3.mono fun k y ⟨Hn, a, b, c⟩ => ⟨Hn, a, Evl.Ex.mut (b.trans e4) a, c⟩) ⟨Hn, nD, Evl.Ex.mut en nD, r⟩
    · refine ⟨ex.trans e3, acc, e3 _ _ hacc, ?_⟩
      rw [kept_no hk]
      exact hall3
  · rintro H ⟨ex, acc, hacc, hall⟩
    exact q H acc ex hacc (hall.mono fun k y ⟨Hn, a, b, c⟩ => mono _ _ _ _ b c)
theorem lc_newB (w : Walk J n G Y) {Xr : Nat → V → Prop} (hY : ∀ i H x H', Y i H x H' → H' = H ∧ Xr i x) {j : Nat} {tt : TT} {te : TE} {vs : List Nat} {σ : L2.St} {H1 : Hp} {D : Addr} {Qd : Hp → Prop} (hD : H1 D = none)
    (hG : ∀ H, Ex H1 H → G H) (hn : n ≤ 9000001) (keep : Nat → Bool) (R : Nat → HO → Prop)
    (hw : ∀ x, wipe ((wipe σ vs).set j (some x)) vs = wipe σ vs)
    (ht : ∀ i x H, i < n → Xr i x → Ex H1 H → ∀ Q : Bool → Hp → Prop, (∀ H', Ex H H' → Q (keep i) H') → tt ((wipe σ vs).set j (some x)) H Q)
    (he : ∀ i x H, i < n → Xr i x → keep i = true → Ex H1 H → (∃ o, H D = some o) → ∀ Q : VK, (∀ a H' o, H a = none → Ex H H' → H' a = some o → R i o → Q (.ref a) H') → te ((wipe σ vs).set j (some x)) H Q)
    (q : ∀ H' (as : List Addr), Ex H1 H' → H' D = some (.lst (as.map V.ref)) → as.Nodup → (∀ a ∈ as, H1 a = none ∧ a ≠ D) → All2 (fun i a => ∃ o, H' a = some o ∧ R i o) (kept n keep) as → Qd H') :
    ∃ W : Nat → Nat → Hp → Prop, (∃ m, W 0 m (upd H1 D (.lst []))) ∧ ∀ i m H, W i m H →
      (J.stop i H ∧ Qd H) ∨ (J.go i H ∧ ∃ Nx : Hp → Prop, (∀ H', Nx H' → ∃ m', m' < m ∧ W (i + 1) m' H') ∧ ∀ x H', J.yld i H x H' → gName j x (wipe σ vs) H' fun σ2 H2 => wipe σ2 vs = wipe σ vs ∧ tt σ2 H2 fun b H3 =>
        if b = true then te σ2 H3 fun y H4 => ∃ acc, H4 D = some (.lst acc) ∧ acc.length < sizeLine ∧ Nx (upd H4 D (.lst (acc ++ [y]))) else Nx H3) := by
  refine lc_it w (fun i H => Ex H1 H ∧ ∃ as : List Addr, H D = some (.lst (as.map V.ref)) ∧ as.Nodup ∧ (∀ a ∈ as, H1 a = none ∧ a ≠ D) ∧ All2 (fun k a => ∃ o, H a = some o ∧ R k o) (kept i keep) as)
    ⟨Evl.Ex.new hD, [], upd_same, List.nodup_nil, fun a m => by simp at m, All2.nil⟩ (fun i H _ p => hG H p.1) ?_ ?_
  · rintro i x H H' hi ⟨ex, as, hacc, nd, fr, hall⟩ y
    obtain ⟨rfl, xr⟩ := hY _ _ _ _ y
    refine ⟨hw x, ht i x H' hi xr ex _ fun H3 e3 => ?_⟩
    have hall3 : All2 (fun k a => ∃ o, H3 a = some o ∧ R k o) (kept i keep) as := hall.mono fun k y ⟨o, a, b⟩ => ⟨o, e3 _ _ a, b⟩
    have hD3 := e3 _ _ hacc
    refine iteB (fun hk => ?_) (fun hk => ?_)
    · refine he i x H3 hi xr hk (ex.trans e3) ⟨_, hD3⟩ _ fun a H4 o n3 e4 ha r => ?_
      have hl : (as.map V.ref).length < sizeLine := by
        rw [List.length_map, ← hall.len]
        exact Nat.lt_of_le_of_lt (kept_len i keep) (Nat.lt_of_lt_of_le hi (Nat.le_trans hn (show 9000001 ≤ sizeLine by decide)))
      have naD : a ≠ D := fun z => by
        rw [z, hD3] at n3
        cases n3
      refine ⟨_, e4 _ _ hD3, hl, Evl.Ex.mut ((ex.trans e3).trans e4) hD, as ++ [a], by rw [List.map_append]; exact upd_same, ?_, fun b m => ?_, ?_⟩
      · refine List.nodup_append.mpr ⟨nd, List.nodup_cons.mpr ⟨by simp, List.nodup_nil⟩, fun b m c mc => ?_⟩
        rw [List.mem_singleton.mp mc]
        rintro rfl
        obtain ⟨k, _, o2, z, _⟩ : ∃ k, True ∧ ∃ o2, H3 b = some o2 ∧ True := by
          obtain ⟨j2, hj, ej⟩ := List.mem_iff_getElem.mp m
          obtain ⟨k, _, o2, z, _⟩ := hall3.right (i := j2) (y := b) (by rw [List.getElem?_eq_getElem hj, ej])
          exact ⟨k, trivial, o2, z, trivial⟩
        rw [z] at n3
        cases n3
      · rcases List.mem_append.mp m with m | m
        · exact fr b m
        · rw [List.mem_singleton.mp m]
          exact ⟨Evl.fresh_back (ex.trans e3) n3, naD⟩
      · rw [kept_yes hk]
        refine All2.snoc (hall3.monoM fun k b _ m ⟨o2, z, r2⟩ => ⟨o2, by rw [upd_ne (fr b m).2]; exact e4 _ _ z, r2⟩) ⟨o, by rw [upd_ne naD]; exact ha, r⟩
    · refine ⟨ex.trans e3, as, hD3, nd, fr, ?_⟩
      rw [kept_no hk]
      exact hall3
  · rintro H ⟨ex, as, hacc, nd, fr, hall⟩
    exact q H as ex hacc nd fr hall
end
theorem all_mapM {β : Type} {f : Str → Option β} {g : β → V} : ∀ {r : List Str} {ys : List V}, r.length = ys.length → (∀ (i : Nat) (s : Str) (y : V), r[i]? = some s → ys[i]? = some y → ∃ n, f s = some n ∧ y = g n) → ∃ ns, r.mapM f = some ns ∧ ys = ns.map g
  | [], [], _, _ => ⟨[], rfl, rfl⟩
  | [], y :: ys, h, _ => by cases h
  | a :: r, [], h, _ => by cases h
  | a :: r, y :: ys, hl, h => by
    obtain ⟨n, h1, h2⟩ := h 0 a y rfl rfl
    obtain ⟨ns, h3, h4⟩ := all_mapM (r := r) (ys := ys) (Nat.succ.inj hl) fun i s z hs hz => h (i + 1) s z hs hz
    refine ⟨n :: ns, ?_, by rw [h2, h4]; rfl⟩
    rw [List.mapM_cons, h1, h3]
    rfl
theorem mapM_none {α β : Type} {f : α → Option β} : ∀ {r : List α} {a : α}, a ∈ r → f a = none → r.mapM f = none
  | b :: r, a, m, h => by
    rw [List.mapM_cons]
    rcases List.mem_cons.mp m with rfl | m
    · rw [h]
      rfl
    · rw [mapM_none m h]
      cases f b <;> rfl
/-- numbers that words write, each looked at -/
theorem lc_nums {K : PySem.W.Frag} {te : TE} {H : Hp} {Q : VK} {σ : L2.St} {a : Addr} {r : List Str} {j : Nat} {vs : List Nat} (h : SqL K H a (r.map V.str)) (hn : r.length ≤ 9000001) (hw : ∀ x, wipe ((wipe σ vs).set j (some x)) vs = wipe σ vs)
    (he : ∀ (z : Str) H' (Q' : VK), z ∈ r → Ex H H' → (∀ n, numOf z = some n → Q' (.int (n : Int)) H') → te ((wipe σ vs).set j (some (.str z))) H' Q')
    (k : ∀ D H2 ns, H D = none → Ex H H2 → r.mapM numOf = some ns → H2 D = some (.lst (natsV ns)) → Q (.ref D) H2) : LcR (gName j) tYes te vs σ Q (Itl K a) H := by
  intro D hD
  refine lc_exB (walk_list (K := K) (a := a) (xs := r.map V.str)) y_list hD (fun H2 e2 => sqL_ex h e2) (by rw [List.length_map]; exact hn) (fun _ => true) (fun _ i y => ∃ z n, r[i]? = some z ∧ numOf z = some n ∧ y = .int (n : Int)) (fun _ _ _ _ _ h => h) hw lc_yes (fun i x H2 hi hx _ e2 _ Q2 q2 => ?_) fun H2 ys e2 h2 hall => ?_
  · obtain ⟨z, hz, rfl⟩ := map_back hx
    exact he z H2 Q2 (List.mem_of_getElem? hz) e2 fun n hn => q2 _ H2 H (Evl.Ex.refl H2) e2 hD ⟨z, n, hz, hn, rfl⟩
  · rw [kept_all, List.length_map] at hall
    have hl : r.length = ys.length := by rw [← hall.len, List.length_range]
    obtain ⟨ns, h3, h4⟩ := all_mapM (f := numOf) (g := fun n => V.int (n : Int)) hl fun i s y hs hy => by
      obtain ⟨k, hk, z, n, hz, hn, e⟩ := hall.right hy
      have hi := lt_of_get hs
      rw [List.getElem?_range hi] at hk
      cases hk
      rw [hs] at hz
      cases hz
      exact ⟨n, hn, e⟩
    refine k D H2 ns hD e2 h3 ?_
    rw [h2, h4]
    unfold natsV
    rw [List.map_map]
    rfl
/-- rows of numbers, each looked at -/
theorem lc_numRows {K : PySem.W.Frag} {te : TE} {H : Hp} {Q : VK} {σ : L2.St} {a : Addr} {r : List Str} {j : Nat} {vs : List Nat} {f : Str → Option (List Nat)} (h : SqL K H a (r.map V.str)) (hn : r.length ≤ 9000001) (hw : ∀ x, wipe ((wipe σ vs).set j (some x)) vs = wipe σ vs)
    (he : ∀ (z : Str) H' (Q' : VK), z ∈ r → Ex H H' → (∀ t H2 l, f z = some t → Ex H' H2 → H' l = none → H2 l = some (.lst (natsV t)) → Q' (.ref l) H2) → te ((wipe σ vs).set j (some (.str z))) H' Q')
    (k : ∀ D H2 (as : List Addr) ts, H D = none → Ex H H2 → r.mapM f = some ts → H2 D = some (.lst (as.map V.ref)) → as.length = ts.length → (∀ (i : Nat) (b : Addr) (t : List Nat), as[i]? = some b → ts[i]? = some t → H2 b = some (.lst (natsV t))) → Q (.ref D) H2) : LcR (gName j) tYes te vs σ Q (Itl K a) H := by
  intro D hD
  refine lc_newB (walk_list (K := K) (a := a) (xs := r.map V.str)) y_list hD (fun H2 e2 => sqL_ex h e2) (by rw [List.length_map]; exact hn) (fun _ => true) (fun i o => ∃ z t, r[i]? = some z ∧ f z = some t ∧ o = .lst (natsV t)) hw lc_yes (fun i x H2 hi hx _ e2 _ Q2 q2 => ?_) fun H2 as e2 h2 _ _ hall => ?_
  · obtain ⟨z, hz, rfl⟩ := map_back hx
    exact he z H2 Q2 (List.mem_of_getElem? hz) e2 fun t H3 l ht e3 nl hl => q2 l H3 _ nl e3 hl ⟨z, t, hz, ht, rfl⟩
  · rw [kept_all, List.length_map] at hall
    have hl : r.length = (as.map V.ref).length := by rw [List.length_map, ← hall.len, List.length_range]
    have hb : ∀ (i : Nat) (s : Str) (b : Addr), r[i]? = some s → as[i]? = some b → ∃ t, f s = some t ∧ H2 b = some (.lst (natsV t)) := fun i s b hs hb => by
      obtain ⟨k, hk, o, ho, z, t, hz, ht, eo⟩ := hall.right hb
      have hi := lt_of_get hs
      rw [List.getElem?_range hi] at hk
      cases hk
      rw [hs] at hz
      cases hz
      exact ⟨t, ht, by rw [ho, eo]⟩
    have key : ∀ (r : List Str) (as : List Addr), r.length = as.length → (∀ (i : Nat) (s : Str) (b : Addr), r[i]? = some s → as[i]? = some b → ∃ t, f s = some t ∧ H2 b = some (.lst (natsV t))) → ∃ ts, r.mapM f = some ts ∧ as.length = ts.length ∧ ∀ (i : Nat) (b : Addr) (t : List Nat), as[i]? = some b → ts[i]? = some t → H2 b = some (.lst (natsV t)) := by
      intro r
      induction r with
      | nil =>
        intro as hl _
        cases as with
        | nil => exact ⟨[], rfl, rfl, fun i b t h => by cases h⟩
        | cons x y => cases hl
      | cons s r ih =>
        intro as hl h
        cases as with
        | nil => cases hl
        | cons b as =>
          obtain ⟨t, h1, h2⟩ := h 0 s b rfl rfl
          obtain ⟨ts, h3, h4, h5⟩ := ih as (Nat.succ.inj hl) fun i s b hs hb => h (i + 1) s b hs hb
          refine ⟨t :: ts, ?_, by rw [List.length_cons, List.length_cons, h4], fun i b' t' hb ht => ?_⟩
          · rw [List.mapM_cons, h1, h3]
            rfl
          · cases i with
            | zero =>
              cases hb
              cases ht
              exact h2
            | succ i => exact h5 i b' t' hb ht
    rw [List.length_map] at hl
    obtain ⟨ts, h3, h4, h5⟩ := key r as hl hb
    exact k D H2 as ts hD e2 h3 h2 h4 h5
/-- a bool a list, told by its length -/
theorem lc_bools {K : PySem.W.Frag} {te : TE} {H : Hp} {Q : VK} {σ : L2.St} {a : Addr} {as : List Addr} {ts : List (List Nat)} {f : List Nat → Bool} {j : Nat} {vs : List Nat} (h : H a = some (.lst (as.map V.ref))) (hl : as.length = ts.length) (hat : ∀ (i : Nat) (b : Addr) (t : List Nat), as[i]? = some b → ts[i]? = some t → H b = some (.lst (natsV t))) (hn : as.length ≤ 9000001) (hw : ∀ x, wipe ((wipe σ vs).set j (some x)) vs = wipe σ vs)
    (he : ∀ (b : Addr) (t : List Nat) H' (Q' : VK), t ∈ ts → Ex H H' → H' b = some (.lst (natsV t)) → Q' (.bl (f t)) H' → te ((wipe σ vs).set j (some (.ref b))) H' Q')
    (k : ∀ D H2, H D = none → Ex H H2 → H2 D = some (.lst ((ts.map f).map V.bl)) → Q (.ref D) H2) : LcR (gName j) tYes te vs σ Q (Itl K a) H := by
  intro D hD
  refine lc_exB (walk_list (K := K) (a := a) (xs := as.map V.ref)) y_list hD (fun H2 e2 => sqL_of h e2) (by rw [List.length_map]; exact hn) (fun _ => true) (fun _ i y => ∃ t, ts[i]? = some t ∧ y = .bl (f t)) (fun _ _ _ _ _ h => h) hw lc_yes (fun i x H2 hi hx _ e2 _ Q2 q2 => ?_) fun H2 ys e2 h2 hall => ?_
  · obtain ⟨b, hb, rfl⟩ := map_back hx
    have hib := lt_of_get hb
    have ht := List.getElem?_eq_getElem (l := ts) (i := i) (by omega)
    exact he b _ H2 Q2 (List.mem_of_getElem? ht) e2 (e2 _ _ (hat i b _ hb ht)) (q2 _ H2 H (Evl.Ex.refl H2) e2 hD ⟨_, ht, rfl⟩)
  · rw [kept_all, List.length_map] at hall
    refine k D H2 hD e2 ?_
    rw [h2]
    congr 2
    have hlen : ys.length = ts.length := by rw [← hall.len, List.length_range, hl]
    apply List.ext_getElem?
    intro i
    rw [List.getElem?_map, List.getElem?_map]
    by_cases hi : i < ts.length
    · obtain ⟨k, hk, t, ht, e⟩ := hall.right (List.getElem?_eq_getElem (l := ys) (i := i) (by omega))
      rw [List.getElem?_range (by omega)] at hk
      cases hk
      rw [ht, List.getElem?_eq_getElem (by omega), e]
      rfl
    · rw [List.getElem?_eq_none (by omega), List.getElem?_eq_none (by omega)]
      rfl
theorem natsV_len (ns : List Nat) : (natsV ns).length = ns.length := by
  unfold natsV
  rw [List.length_map, List.length_map]
theorem natsV_get {ns : List Nat} {i n : Nat} (h : ns[i]? = some n) : (natsV ns)[i]? = some (.int (n : Int)) := by
  unfold natsV
  rw [List.getElem?_map, List.getElem?_map, h]
  rfl
/-- promises of the deeds, a train with a great number that comes -/
def Few13 (T : Tr) (x : Deed) : Prop := T.sold.length < 1000000 ∧ (x.k ≠ .sell → T.coming < 1000000)
def spTold13 (K : PySem.W.Frag) : Sp := fun vs H Q E => ∃ (S : Addr → Prop) (p : Addr) (T : Tr) (d : Addr) (x : Deed), vs = [.ref p, .ref d] ∧ TrainAt K H S p T ∧ Good T ∧ Few13 T x ∧ DeedAt H d x ∧ DeedSp K H S p (T.run x) Q E
def spWord13 (K : PySem.W.Frag) : Sp := fun vs H Q _ => ∃ (S : Addr → Prop) (p : Addr) (T : Tr) (d : Addr) (x : Deed), vs = [.ref p, .ref d] ∧ TrainAt K H S p T ∧ Good T ∧ Few13 T x ∧ DeedAt H d x ∧
  ∀ H' S' t v, Mv H H' S S' → TrainAt K H' S' p (T.run x).tr → WordAt H' t (T.run x).word v → ResV H H' S S' (T.run x).res v → Q (.ref t) H'
theorem v_makeX {K : PySem.W.Frag} {C : Addr} {E : L2.St → XK} {σ : L2.St} {Q : VK} {H : Hp} {n1 n2 : Nat} (hC : C = He.ga K "Train") (k1 : (1 ≤ n1 ∧ n1 ≤ 60 ∧ 2 ≤ n2 ∧ n2 ≤ 60) → ∀ p S H2, Play K H H2 p (Tr.new n1 n2) S → Q (.ref p) H2)
    (k2 : ¬ (1 ≤ n1 ∧ n1 ≤ 60 ∧ 2 ≤ n2 ∧ n2 ≤ 60) → ∀ H2, Ex H H2 → E σ (cls K "NoTrain") none H2) : MkR C (spInit K) E σ Q [.int (n1 : Int), .int (n2 : Int)] H := by
  subst hC
  intro p dx np ndx nex
  refine ⟨p, dx, n1, n2, rfl, upd_same, fun hok H1 S keep new A1 => ⟨rfl, ?_⟩, fun hbad => k2 (fun z => hbad (by omega)) _ fun a o h => by
    rw [upd_ne (ne_of_none h np), upd_ne (ne_of_none h ndx)]
    exact h⟩
  have A1' : TrainAt K H1 S p (Tr.new n1 n2) := A1
  have e1 : Ex H H1 := fun a o h => keep a o (ne_of_none h np) (by rw [upd_ne (ne_of_none h np), upd_ne (ne_of_none h ndx)]; exact h)
  obtain ⟨S0, hS0, A0⟩ := A1'.there
  exact k1 (by omega) p S0 H1 ⟨e1, A0, Good.new (by omega) (by omega) (by omega) (by omega), fun a s => (by
    rcases new a (hS0 a s).1 with y | y
    · rw [y]
      exact np
    · exact (fresh_upd (fresh_upd y).2).2), fun a s => (hS0 a s).2⟩
theorem WordX.of {K : PySem.W.Frag} {H H' : Hp} {w w' : Str} {E : XK} (h : WordX K H w E) (e : Ex H H') (hw : w' ≠ "" → w = w') : WordX K H' w' E where
  seat := fun z H2 e2 => h.seat ((hw (by rw [z]; decide +kernel)).trans z) H2 (e.trans e2)
  stretch := fun z H2 e2 => h.stretch ((hw (by rw [z]; decide +kernel)).trans z) H2 (e.trans e2)
  shared := fun z H2 e2 => h.shared ((hw (by rw [z]; decide +kernel)).trans z) H2 (e.trans e2)
  ticket := fun z H2 e2 => h.ticket ((hw (by rw [z]; decide +kernel)).trans z) H2 (e.trans e2)
  train := fun z H2 e2 => h.train ((hw (by rw [z]; decide +kernel)).trans z) H2 (e.trans e2)
  text := fun z H2 e2 => h.text ((hw (by rw [z]; decide +kernel)).trans z) H2 (e.trans e2)
theorem readT_eq {z a : Str} {r : List Str} (h : Txt.split z "\n" = a :: r) : readT z = match numbersOf a "train", r.mapM (fun x => numbersOf x "ticket") with
    | some h, some ts => if headOk h ts = true then readH h ts else ("text", Tr.new 1 2)
    | _, _ => ("text", Tr.new 1 2) := by
  unfold readT
  rw [h] <;> rfl
def tickOk (t : List Nat) : Bool := decide (3 < t.length) && decide (t.length % 3 = 1)
theorem headOk_eq (h : List Nat) (ts : List (List Nat)) : headOk h ts = (decide (h.length = 3) && (ts.map tickOk).all id) := by
  unfold headOk
  rw [List.all_map]
  rfl
theorem all_bl (bs : List Bool) : bs.all id = true ∨ bs.all id = false := by cases bs.all id <;> simp
end Lg

namespace Lg
open PySem PySem.Spec PyProof.Rows L2 TL
/-! ### the law's own reading of a text -/
def figI (z : Str) : Int := match numOf z with
  | some n => (n : Int)
  | none => -1
def spFigures : Sp := fun vs H Q _ => ∃ z : Str, vs = [.str z] ∧ z.length ≤ 9000000 ∧ ∀ H', Ex H H' → Q (.int (figI z)) H'
def spNums13 : Sp := fun vs H Q _ => ∃ z w : Str, vs = [.str z, .str w] ∧ z.length ≤ 9000000 ∧ ∀ H' l, Ex H H' → H l = none → H' l = some (.lst (natsV ((numbersOf z w).getD []))) → Q (.ref l) H'
section
variable {K : PySem.W.Frag} {σ : L2.St} {H : Hp} {Q : VK} {te : TE} {nx bk ct : L2.St → Hp → Prop} {rt : VK}
theorem lc_bS {z : Str} {j : Nat} {vs : List Nat} (f : Nat → Bool) (hn : z.length ≤ 9000001) (hw : ∀ x, wipe ((wipe σ vs).set j (some x)) vs = wipe σ vs)
    (he : ∀ (c : Nat) H' (Q' : VK), c ∈ tl z → Ex H H' → Q' (.bl (f c)) H' → te ((wipe σ vs).set j (some (.str ⟨#[c]⟩))) H' Q')
    (k : ∀ D H2, H D = none → Ex H H2 → H2 D = some (.lst (((tl z).map f).map V.bl)) → Q (.ref D) H2) : LcR (gName j) tYes te vs σ Q (Its z) H := by
  have hsz : (tl z).length = z.cps.size := by unfold tl; rw [Array.length_toList]
  intro D hD
  refine lc_exB (walk_str (z := z)) (Xr := fun i v => ∃ c, z.cps[i]? = some c ∧ v = .str ⟨#[c]⟩) (fun i H x H' y => y) hD (fun _ _ => trivial) (by rw [← hsz, ← len_tl]; exact hn) (fun _ => true) (fun _ i y => ∃ c, (tl z)[i]? = some c ∧ y = .bl (f c)) (fun _ _ _ _ _ h => h) hw lc_yes (fun i x H2 hi hx _ e2 _ Q2 q2 => ?_) fun H2 ys e2 h2 hall => ?_
  · obtain ⟨c, hc, rfl⟩ := hx
    have hc2 : (tl z)[i]? = some c := by rw [← hc]; unfold tl; rw [Array.getElem?_toList]
    exact he c H2 Q2 (List.mem_of_getElem? hc2) e2 (q2 _ H2 H (Evl.Ex.refl H2) e2 hD ⟨c, hc2, rfl⟩)
  · rw [kept_all] at hall
    refine k D H2 hD e2 ?_
    rw [h2]
    congr 2
    have hlen : ys.length = (tl z).length := by rw [← hall.len, List.length_range, hsz]
    apply List.ext_getElem?
    intro i
    rw [List.getElem?_map, List.getElem?_map]
    by_cases hi : i < (tl z).length
    · obtain ⟨k, hk, c, hc, e⟩ := hall.right (List.getElem?_eq_getElem (l := ys) (i := i) (by omega))
      rw [List.getElem?_range (by omega)] at hk
      cases hk
      rw [hc, List.getElem?_eq_getElem (by omega), e]
      rfl
    · rw [List.getElem?_eq_none (by omega), List.getElem?_eq_none (by omega)]
      rfl
/-- values over a list of many -/
theorem lc_vLB {xs : List V} {a : Addr} {j : Nat} {vs : List Nat} (h : SqL K H a xs) (hn : xs.length ≤ 9000001) (v : V → V) (hw : ∀ x, wipe ((wipe σ vs).set j (some x)) vs = wipe σ vs)
    (he : ∀ (i : Nat) (x : V) H' (Q' : VK), xs[i]? = some x → Ex H H' → (∀ H2, Ex H' H2 → Q' (v x) H2) → te ((wipe σ vs).set j (some x)) H' Q')
    (k : ∀ D H2, H D = none → Ex H H2 → H2 D = some (.lst (xs.map v)) → Q (.ref D) H2) : LcR (gName j) tYes te vs σ Q (Itl K a) H := by
  intro D hD
  refine lc_exB (walk_list (K := K) (a := a) (xs := xs)) y_list hD (fun H2 e2 => sqL_ex h e2) hn (fun _ => true) (fun _ i y => ∃ x, xs[i]? = some x ∧ y = v x) (fun _ _ _ _ _ h => h) hw lc_yes (fun i x H2 hi hx _ e2 _ Q2 q2 => ?_) fun H2 ys e2 h2 hall => ?_
  · exact he i x H2 Q2 hx e2 fun H3 e3 => q2 _ H3 H e3 (e2.trans e3) hD ⟨x, hx, rfl⟩
  · rw [kept_all] at hall
    refine k D H2 hD e2 ?_
    rw [h2]
    congr 2
    have hlen : ys.length = xs.length := by rw [← hall.len, List.length_range]
    apply List.ext_getElem?
    intro i
    rw [List.getElem?_map]
    by_cases hi : i < xs.length
    · obtain ⟨k, hk, x, hx, e⟩ := hall.right (List.getElem?_eq_getElem (l := ys) (i := i) (by omega))
      rw [List.getElem?_range (by omega)] at hk
      cases hk
      rw [hx, List.getElem?_eq_getElem (by omega), e]
      rfl
    · rw [List.getElem?_eq_none (by omega), List.getElem?_eq_none (by omega)]
      rfl
/-- bools over a range -/
theorem lc_bR {b n j : Nat} {vs : List Nat} (hn : n ≤ 100000) (f : Nat → Bool) (hw : ∀ x, wipe ((wipe σ vs).set j (some x)) vs = wipe σ vs)
    (he : ∀ i H' (Q' : VK), i < n → Ex H H' → Q' (.bl (f (b + i))) H' → te ((wipe σ vs).set j (some (.int ((b + i : Nat) : Int)))) H' Q')
    (k : ∀ D H2, H D = none → Ex H H2 → H2 D = some (.lst (((List.range n).map fun i => f (b + i)).map V.bl)) → Q (.ref D) H2) : LcR (gName j) tYes te vs σ Q (Itr (b : Int) n) H := by
  intro D hD
  refine lc_v walk_range y_range hD (fun _ _ => trivial) hn (fun _ => true) (fun i => .bl (f (b + i))) hw lc_yes (fun i x H2 hi hx _ e2 Q2 q2 => ?_) fun H2 e2 h2 => k D H2 hD e2 (by rw [h2, kept_all, List.map_map]; rfl)
  rw [hx, show (b : Int) + (i : Int) = ((b + i : Nat) : Int) by omega]
  exact he i H2 Q2 hi e2 (q2 H2 (Evl.Ex.refl H2))
theorem fr_paintB {jl jr jo n c1 c2 c3 : Nat} {r o : Addr} {as : List Addr} {g : Grid} {h : Option Nat} {v0 : Option V} (h0 : σ[jl]? = some v0) (h1 : ∀ v, (σ.set jl v)[jr]? = some (some (.ref r))) (h2 : ∀ v, (σ.set jl v)[jo]? = some (some (.ref o)))
    (hl : ∀ v, (σ.set jl (some v))[jl]? = some (some v)) (hte : ∀ v H' Q', Beside as H H' → Q' (oV h) H' → te (σ.set jl v) H' Q') (ho : H o = some (.tup [.int (c1 : Int), .int (c2 : Int), .int (c3 : Int)])) (G : GridAt H r as g) (nd : as.Nodup) (nr : r ∉ as)
    (hrow : ∀ row ∈ g, row.length = n) (hc1 : c1 < g.length) (hc3 : c3 ≤ n) (k : ∀ v H2, Beside as H H2 → GridAt H2 r as (markPart g h (c1, c2, c3)) → nx (σ.set jl v) H2) :
    ForR (gName jl) (tAsg te (gSub (tOp (rIxL K) (tVar jr) (tOp (rIxT K) (tVar jo) (tC (.int 0)))) (tVar jl) rSetL)) ⟨nx, rt, bk, ct⟩ σ (Itr (c2 : Int) (c3 - c2)) H := by
  have noas : o ∉ as := nas_tup G ho
  refine fr_range2 (fun j σ' H2 => ∃ v, σ' = σ.set jl v ∧ Beside as H H2 ∧ GridAt H2 r as ((List.range' c2 j).foldl (fun g leg => setCell g c1 leg h) g)) ⟨v0, (set_same h0).symm, Beside.refl _ _, G⟩ ?_ ?_
  · rintro j σ' H2 hj ⟨v, rfl, b2, G2⟩
    have e0 : (σ.set jl v).set jl (some (V.int ((c2 + j : Nat) : Int))) = σ.set jl (some (V.int ((c2 + j : Nat) : Int))) := List.set_set _
    show tAsg te _ _ ((σ.set jl v).set jl (some (V.int ((c2 + j : Nat) : Int)))) H2
    rw [e0]
    refine hte _ _ _ b2 ?_
    have hln : ((List.range' c2 j).foldl (fun g leg => setCell g c1 leg h) g).length = g.length := foldl_len c1 h (List.range' c2 j) g
    have hrows : ∀ row ∈ ((List.range' c2 j).foldl (fun g leg => setCell g c1 leg h) g), row.length = n := by
      have key : ∀ (ls : List Nat) (g : Grid), (∀ row ∈ g, row.length = n) → ∀ row ∈ ls.foldl (fun g leg => setCell g c1 leg h) g, row.length = n := by
        intro ls
        induction ls with
        | nil => exact fun g h => h
        | cons y r ih => exact fun g h => ih _ (setCell_row h)
      exact key _ _ hrow
    refine s_gSub (s_op (s_var (h1 _) (s_op (s_var (h2 _) (s_c (p_ix0 (b2 _ _ noas ho) ?_))))))
    refine v_ixG G2 (by rw [hln]; exact hc1) fun b row hb rb hr mr => ?_
    refine s_var (hl _) ?_
    refine v_setG G2 nd nr hb hr (by rw [hrows _ mr]; omega) fun H3 b3 G3 => ?_
    refine ⟨_, rfl, b2.trans b3, ?_⟩
    have e1 : List.range' c2 (j + 1) = List.range' c2 j ++ [c2 + j] := List.range'_1_concat
    rw [e1, List.foldl_append]
    exact G3
  · rintro σ' H2 ⟨v, rfl, b2, G2⟩
    exact k v H2 b2 G2
end
theorem figI_none {ws : List Str} : (-1 : Int) ∈ ws.map figI ↔ ws.mapM numOf = none := by
  constructor
  · intro m
    obtain ⟨z, mz, e⟩ := List.mem_map.mp m
    refine mapM_none mz ?_
    unfold figI at e
    cases hz : numOf z with
    | none => rfl
    | some n =>
      rw [hz] at e
      dsimp only at e
      omega
  · intro h
    by_cases m : (-1 : Int) ∈ ws.map figI
    · exact m
    · have : ws.mapM numOf = some (ws.map fun z => (numOf z).getD 0) := mapM_of fun z mz => by
        cases hz : numOf z with
        | some n => rfl
        | none => exact absurd (List.mem_map.mpr ⟨z, mz, by unfold figI; rw [hz]⟩) m
      rw [this] at h
      cases h
theorem figI_some {ws : List Str} {ns : List Nat} (h : ws.mapM numOf = some ns) : ws.map figI = ns.map fun n : Nat => (n : Int) := by
  obtain ⟨h1, h2⟩ := mapM_some 0 h
  rw [← h1, List.map_map]
  refine List.map_congr_left fun z m => ?_
  obtain ⟨n, hn⟩ := h2 z m
  show figI z = (((numOf z).getD 0 : Nat) : Int)
  unfold figI
  rw [hn]
  rfl
/-- the word for a part -/
def partWd (g : Grid) (n : Nat) (acc : List P3) (a b c : Nat) : Str := if ¬ a < g.length then "seat" else if ¬ (b < c ∧ c ≤ n) then "stretch" else if goesBad acc a b = true then "stretch" else if reach (g[a]?.getD []) b < c then "shared" else ""
def spPartWord (K : PySem.W.Frag) : Sp := fun vs H Q _ => ∃ (r l t : Addr) (as : List Addr) (g : Grid) (n a b c : Nat) (acc : List P3), vs = [.ref r, .ref l, .ref t] ∧ GridAt H r as g ∧ 1 ≤ g.length ∧ n ≤ 1000 ∧ (∀ row ∈ g, row.length = n) ∧ PartsAt H l acc ∧ H t = some (.tup [.int (a : Int), .int (b : Int), .int (c : Int)]) ∧
  ∀ H', Ex H H' → Q (.str (partWd g n acc a b c)) H'
theorem free_iff {row : List (Option Nat)} {b c : Nat} (hc : c ≤ row.length) : (((List.range (c - b)).map fun i => ((row[b + i]?).getD none).isNone).all id = true) ↔ (b < c → ¬ reach row b < c) := by
  rw [List.all_map, List.all_eq_true]
  constructor
  · intro h hb z
    have := reach_far (row := row) (c - b) b c (Nat.le_refl _) (by omega) fun k h1 h2 => by
      have h3 := h (k - b) (List.mem_range.mpr (by omega))
      have e : b + (k - b) = k := by omega
      have hk := List.getElem?_eq_getElem (l := row) (i := k) (by omega)
      simp only [Function.comp, id, e, hk, Option.getD_some] at h3
      rw [hk]
      cases hr : row[k] with
      | none => rfl
      | some t =>
        rw [hr] at h3
        cases h3
    omega
  · intro h i hi
    have hi := List.mem_range.mp hi
    have := reach_free (row := row) _ b (b + i) (Nat.le_refl _) (by omega) (by have := h (by omega); omega)
    simp only [Function.comp, id, this, Option.getD_some, Option.isNone_none]
/-- own parts painted ahead change no word -/
structure AccOk (g : Grid) (n : Nat) (acc : List P3) : Prop where
  val : ∀ q ∈ acc, q.1 < g.length ∧ q.2.1 < q.2.2 ∧ q.2.2 ≤ n
  last : ∀ q0, acc.getLast? = some q0 → ∀ q ∈ acc, q.2.2 ≤ q0.2.2
theorem reach_paint {g : Grid} {n t a b c : Nat} {acc : List P3} (hg : ∀ row ∈ g, row.length = n) (ok : AccOk g n acc) (ha : a < g.length) (hc : c ≤ n) (hbc : b < c) (hb : goesBad acc a b = false) :
    reach ((markAll g acc (some t))[a]?.getD []) b < c ↔ reach (g[a]?.getD []) b < c := by
  have hlen := markAll_len (some t) acc g
  have h1 := List.getElem?_eq_getElem (l := g) (i := a) ha
  have h2 := List.getElem?_eq_getElem (l := markAll g acc (some t)) (i := a) (by omega)
  have l1 := hg _ (List.getElem_mem ha)
  have l2 := markAll_row (some t) acc g hg _ (List.getElem_mem (l := markAll g acc (some t)) (n := a) (by omega))
  have hcov : ∀ l, b ≤ l → ¬ covers acc a l := fun l hl ⟨q, m, e1, e2, e3⟩ => by
    cases hla : acc.getLast? with
    | none =>
      rw [List.getLast?_eq_none_iff.mp hla] at m
      cases m
    | some q0 =>
      have := ok.last q0 hla q m
      unfold goesBad at hb
      rw [hla] at hb
      simp only [Bool.or_eq_false_iff, decide_eq_false_iff_not, Classical.not_not] at hb
      omega
  have hcell : ∀ l, b ≤ l → l < n → ((markAll g acc (some t))[a]'(by omega))[l]? = (g[a]'ha)[l]? := fun l hl hln => by
    have := markAll_cell (n := n) (h := some t) (s := a) (l := l) acc g hg fun q m => ⟨(ok.val q m).1, (ok.val q m).2.2⟩
    rw [if_neg (hcov l hl)] at this
    unfold cellOf at this
    rw [h1, h2, Option.getD_some, Option.getD_some, List.getElem?_eq_getElem (by omega), List.getElem?_eq_getElem (by omega), Option.getD_some, Option.getD_some] at this
    rw [List.getElem?_eq_getElem (by omega), List.getElem?_eq_getElem (by omega), this]
  rw [h1, h2, Option.getD_some, Option.getD_some]
  constructor
  · intro h
    by_cases z : reach (g[a]'ha) b < c
    · exact z
    · exact absurd h (by
        have := reach_far (row := (markAll g acc (some t))[a]'(by omega)) (c - b) b c (Nat.le_refl _) (by omega) fun k k1 k2 => by
          rw [hcell k k1 (by omega)]
          exact reach_free _ _ _ (Nat.le_refl _) k1 (by omega)
        omega)
  · intro h
    by_cases z : reach ((markAll g acc (some t))[a]'(by omega)) b < c
    · exact z
    · exact absurd h (by
        have := reach_far (row := g[a]'ha) (c - b) b c (Nat.le_refl _) (by omega) fun k k1 k2 => by
          rw [← hcell k k1 (by omega)]
          exact reach_free _ _ _ (Nat.le_refl _) k1 (by omega)
        omega)
/-- one step of the parts, by the painted grid's word -/
theorem partsGo_step {T : Tr} {t a b c : Nat} {r : List Nat} {acc : List P3} (hg : ∀ row ∈ T.rows, row.length = T.stops - 1) (h2 : 2 ≤ T.stops) (ok : AccOk T.rows (T.stops - 1) acc) :
    (partWd (markAll T.rows acc (some t)) (T.stops - 1) acc a b c = "" → partsGo T acc (a :: b :: c :: r) = partsGo T (acc ++ [(a, b, c)]) r ∧ AccOk T.rows (T.stops - 1) (acc ++ [(a, b, c)]) ∧ a < T.rows.length ∧ b < c ∧ c ≤ T.stops - 1) ∧
    (partWd (markAll T.rows acc (some t)) (T.stops - 1) acc a b c ≠ "" → partsGo T acc (a :: b :: c :: r) = (partWd (markAll T.rows acc (some t)) (T.stops - 1) acc a b c, acc)) := by
  have hlen := markAll_len (some t) acc T.rows
  rw [partsGo_cons]
  unfold partWd
  by_cases k1 : a < T.rows.length
  · rw [if_neg (show ¬ ¬ a < (markAll T.rows acc (some t)).length by omega), if_neg (show ¬ ¬ a < T.rows.length by omega)]
    by_cases k2 : b < c ∧ c < T.stops
    · rw [if_neg (show ¬ ¬ (b < c ∧ c ≤ T.stops - 1) by omega), if_neg (show ¬ ¬ (b < c ∧ c < T.stops) by omega)]
      cases hb : goesBad acc a b with
      | true =>
        rw [if_pos rfl, if_pos rfl]
        exact ⟨fun h => absurd h (by decide +kernel), fun _ => rfl⟩
      | false =>
        rw [if_neg Bool.false_ne_true, if_neg Bool.false_ne_true]
        have hr := reach_paint (t := t) hg ok k1 (show c ≤ T.stops - 1 by omega) k2.1 hb
        by_cases k4 : reach (T.rows[a]?.getD []) b < c
        · rw [if_pos k4, if_pos (hr.mpr k4)]
          exact ⟨fun h => absurd h (by decide +kernel), fun _ => rfl⟩
        · rw [if_neg k4, if_neg (fun z => k4 (hr.mp z))]
          refine ⟨fun _ => ⟨rfl, ⟨fun q m => ?_, fun q0 h0 q m => ?_⟩, k1, k2.1, by omega⟩, fun h => absurd rfl h⟩
          · rcases List.mem_append.mp m with m | m
            · exact ok.val q m
            · rw [List.mem_singleton.mp m]
              exact ⟨k1, k2.1, by show c ≤ _; omega⟩
          · rw [List.getLast?_append, List.getLast?_singleton] at h0
            cases h0
            rcases List.mem_append.mp m with m | m
            · show q.2.2 ≤ c
              cases hla : acc.getLast? with
              | none =>
                rw [List.getLast?_eq_none_iff.mp hla] at m
                cases m
              | some q0 =>
                have := ok.last q0 hla q m
                unfold goesBad at hb
                rw [hla] at hb
                simp only [Bool.or_eq_false_iff, decide_eq_false_iff_not, Classical.not_not] at hb
                omega
            · rw [List.mem_singleton.mp m]
              exact Nat.le_refl _
    · rw [if_pos (show ¬ (b < c ∧ c ≤ T.stops - 1) by omega), if_pos k2]
      exact ⟨fun h => absurd h (by decide +kernel), fun _ => rfl⟩
  · rw [if_pos (show ¬ a < (markAll T.rows acc (some t)).length by omega), if_pos k1]
    exact ⟨fun h => absurd h (by decide +kernel), fun _ => rfl⟩
def spLookedAt (K : PySem.W.Frag) : Sp := fun vs H Q _ => ∃ (hd tk : Addr) (as : List Addr) (h0 h1 h2 : Nat) (ts : List (List Nat)), vs = [.ref hd, .ref tk] ∧ H hd = some (.lst (natsV [h0, h1, h2])) ∧ H tk = some (.lst (as.map V.ref)) ∧ as.length = ts.length ∧ as.length ≤ 9000000 ∧
  (∀ (i : Nat) (b : Addr) (t : List Nat), as[i]? = some b → ts[i]? = some t → H b = some (.lst (natsV t)) ∧ t.length ≤ 9000000) ∧ TicksOk ts ∧
  ((readH [h0, h1, h2] ts).1 ≠ "" → ∀ H' l, Ex H H' → H l = none → H' l = some (.lst [.str (readH [h0, h1, h2] ts).1]) → Q (.ref l) H') ∧
  ((readH [h0, h1, h2] ts).1 = "" → ∀ H' l f ls, Ex H H' → H l = none → H' l = some (.lst [.str "", .ref f]) → H' f = some (.lst (ls.map V.ref)) → All2 (PartsAt H') ls ((readH [h0, h1, h2] ts).2.sold.map (·.2)) → Q (.ref l) H')
def spDue13 (K : PySem.W.Frag) : Sp := fun vs H Q _ => ∃ z : Str, vs = [.str z] ∧ z.length ≤ 9000000 ∧
  ((readT z).1 ≠ "" → ∀ H' l xs, Ex H H' → H' l = some (.lst (.str (readT z).1 :: xs)) → Q (.ref l) H') ∧
  ((readT z).1 = "" → ∀ H' l f hd tk ls, Ex H H' → H' l = some (.lst [.str "", .ref f, .ref hd, .ref tk]) → H' hd = some (.lst (natsV [(readT z).2.rows.length, (readT z).2.stops, (readT z).2.coming])) → H' tk = some (.lst ((keys (readT z).2).map V.int)) →
    H' f = some (.lst (ls.map V.ref)) → All2 (PartsAt H') ls ((readT z).2.sold.map (·.2)) → Q (.ref l) H')
end Lg

namespace Lg
open PySem PySem.Spec PyProof.Rows L2 TL
/-- a grid and the lists of parts that were found, beside one another -/
structure Seen (H : Hp) (r f : Addr) (rs ls : List Addr) (g : Grid) (pss : List (List P3)) : Prop where
  grid : GridAt H r rs g
  found : H f = some (.lst (ls.map V.ref))
  prt : All2 (PartsAt H) ls pss
  nd : rs.Nodup
  rr : r ∉ rs
  fr : f ∉ rs
  rf : r ≠ f
  lr : ∀ l ∈ ls, l ∉ rs
  lf : ∀ l ∈ ls, l ≠ f
section
variable {H H' : Hp} {r f sm : Addr} {rs ls : List Addr} {g g' : Grid} {pss : List (List P3)} {ps : List P3}
theorem Seen.ex (s : Seen H r f rs ls g pss) (e : Ex H H') : Seen H' r f rs ls g pss :=
  ⟨s.grid.mono e, e _ _ s.found, s.prt.mono fun _ _ h => PartsAt.mono e h, s.nd, s.rr, s.fr, s.rf, s.lr, s.lf⟩
theorem Seen.new (s : Seen H r f rs ls g pss) (h : H sm = none) : sm ≠ r ∧ sm ∉ rs ∧ sm ≠ f ∧ sm ∉ ls := by
  refine ⟨fun z => ?_, fun m => ?_, fun z => ?_, fun m => ?_⟩
  · rw [z, s.grid.top] at h
    cases h
  · obtain ⟨y, _, q⟩ := s.grid.row.mem_left m
    rw [show H sm = _ from q] at h
    cases h
  · rw [z, s.found] at h
    cases h
  · obtain ⟨y, _, ts, q, _⟩ := s.prt.mem_left m
    rw [q] at h
    cases h
theorem Seen.ch (s : Seen H r f rs ls g pss) (c : Ch H H' sm) (n : sm ≠ r ∧ sm ∉ rs ∧ sm ≠ f ∧ sm ∉ ls) : Seen H' r f rs ls g pss :=
  ⟨⟨c.keep _ _ n.1.symm s.grid.top, s.grid.row.monoM fun a row m _ q => c.keep _ _ (fun z => n.2.1 (z ▸ m)) q⟩, c.keep _ _ n.2.2.1.symm s.found, s.prt.monoM fun l ps m _ h => ch_parts c (fun z => n.2.2.2 (z ▸ m)) h, s.nd, s.rr, s.fr, s.rf, s.lr, s.lf⟩
theorem Seen.paint (s : Seen H r f rs ls g pss) (b : Beside rs H H') (G : GridAt H' r rs g') : Seen H' r f rs ls g' pss :=
  ⟨G, b _ _ s.fr s.found, s.prt.monoM fun l ps m _ h => e_bsP b s.grid (s.lr l m) h, s.nd, s.rr, s.fr, s.rf, s.lr, s.lf⟩
theorem Seen.add (s : Seen H r f rs ls g pss) (c : Ch H H' f) (hf : H' f = some (.lst (ls.map V.ref ++ [.ref sm]))) (hp : PartsAt H sm ps) (n1 : sm ∉ rs) (n2 : sm ≠ f) : Seen H' r f rs (ls ++ [sm]) g (pss ++ [ps]) :=
  ⟨⟨c.keep _ _ s.rf s.grid.top, s.grid.row.monoM fun a row m _ q => c.keep _ _ (fun z => s.fr (z ▸ m)) q⟩, by rw [hf, List.map_append]; rfl, (s.prt.monoM fun l ps m _ h => ch_parts c (s.lf l m) h).snoc (ch_parts c n2 hp), s.nd, s.rr, s.fr, s.rf,
   fun l m => by
    rcases List.mem_append.mp m with m | m
    · exact s.lr l m
    · rw [List.mem_singleton.mp m]
      exact n1, fun l m => by
    rcases List.mem_append.mp m with m | m
    · exact s.lf l m
    · rw [List.mem_singleton.mp m]
      exact n2⟩
end
theorem markAll_snoc (g : Grid) (acc : List P3) (p : P3) (h : Option Nat) : markAll g (acc ++ [p]) h = markPart (markAll g acc h) h p := by
  unfold markAll
  rw [List.foldl_append]
  rfl
theorem grid_new13 {H : Hp} {D : Addr} {as : List Addr} {n m : Nat} (h : H D = some (.lst (as.map V.ref))) (hl : as.length = n) (hr : ∀ b ∈ as, H b = some (.lst ((List.replicate m (none : Option Nat)).map oV))) : GridAt H D as (List.replicate n (List.replicate m none)) :=
  ⟨h, by rw [List.length_replicate]; exact hl, fun i a row ha hrow => by
    rw [List.getElem?_replicate] at hrow
    split at hrow
    · cases hrow
      exact hr a (List.mem_of_getElem? ha)
    · cases hrow⟩
theorem due_yes {z a : Str} {r : List Str} (h : Txt.split z "\n" = a :: r) (k : headOk ((numbersOf a "train").getD []) (r.map fun x => (numbersOf x "ticket").getD []) = true) :
    numbersOf a "train" = some ((numbersOf a "train").getD []) ∧ r.mapM (fun x => numbersOf x "ticket") = some (r.map fun x => (numbersOf x "ticket").getD []) ∧ readT z = readH ((numbersOf a "train").getD []) (r.map fun x => (numbersOf x "ticket").getD []) := by
  obtain ⟨⟨h0, h1, h2, e⟩, ok⟩ := headOk_ok k
  have e1 : numbersOf a "train" = some ((numbersOf a "train").getD []) := by
    cases q : numbersOf a "train" with
    | some x => rfl
    | none =>
      rw [q] at e
      cases e
  have e2 : r.mapM (fun x => numbersOf x "ticket") = some (r.map fun x => (numbersOf x "ticket").getD []) := mapM_of fun x m => by
    cases q : numbersOf x "ticket" with
    | some y => rfl
    | none =>
      have := (ok _ (List.mem_map.mpr ⟨x, m, rfl⟩)).1
      rw [q] at this
      exact absurd this (by decide)
  refine ⟨e1, e2, ?_⟩
  rw [readT_eq h, e2, e1]
  dsimp only [Option.getD_some]
  rw [if_pos k]
theorem due_no {z a : Str} {r : List Str} (h : Txt.split z "\n" = a :: r) (k : headOk ((numbersOf a "train").getD []) (r.map fun x => (numbersOf x "ticket").getD []) = false) : (readT z).1 = "text" := by
  rw [readT_eq h]
  cases q : numbersOf a "train" with
  | none => rfl
  | some x =>
    cases q2 : r.mapM (fun x => numbersOf x "ticket") with
    | none => rfl
    | some ts =>
      rw [q, (mapM_some [] q2).1] at k
      dsimp only [Option.getD_some] at k ⊢
      rw [k]
      rfl
/-- a value a list, told by the list -/
theorem lc_listV {K : PySem.W.Frag} {te : TE} {H : Hp} {Q : VK} {σ : L2.St} {a : Addr} {as : List Addr} {ts : List (List Nat)} {f : List Nat → V} {j : Nat} {vs : List Nat} (h : H a = some (.lst (as.map V.ref))) (hl : as.length = ts.length) (hat : ∀ (i : Nat) (b : Addr) (t : List Nat), as[i]? = some b → ts[i]? = some t → H b = some (.lst (natsV t))) (hn : as.length ≤ 9000001) (hw : ∀ x, wipe ((wipe σ vs).set j (some x)) vs = wipe σ vs)
    (he : ∀ (b : Addr) (t : List Nat) H' (Q' : VK), t ∈ ts → Ex H H' → H' b = some (.lst (natsV t)) → Q' (f t) H' → te ((wipe σ vs).set j (some (.ref b))) H' Q')
    (k : ∀ D H2, H D = none → Ex H H2 → H2 D = some (.lst (ts.map f)) → Q (.ref D) H2) : LcR (gName j) tYes te vs σ Q (Itl K a) H := by
  intro D hD
  refine lc_exB (walk_list (K := K) (a := a) (xs := as.map V.ref)) y_list hD (fun H2 e2 => sqL_of h e2) (by rw [List.length_map]; exact hn) (fun _ => true) (fun _ i y => ∃ t, ts[i]? = some t ∧ y = f t) (fun _ _ _ _ _ h => h) hw lc_yes (fun i x H2 hi hx _ e2 _ Q2 q2 => ?_) fun H2 ys e2 h2 hall => ?_
  · obtain ⟨b, hb, rfl⟩ := map_back hx
    have hib := lt_of_get hb
    have ht := List.getElem?_eq_getElem (l := ts) (i := i) (by omega)
    exact he b _ H2 Q2 (List.mem_of_getElem? ht) e2 (e2 _ _ (hat i b _ hb ht)) (q2 _ H2 H (Evl.Ex.refl H2) e2 hD ⟨_, ht, rfl⟩)
  · rw [kept_all, List.length_map] at hall
    refine k D H2 hD e2 ?_
    rw [h2]
    congr 2
    have hlen : ys.length = ts.length := by rw [← hall.len, List.length_range, hl]
    apply List.ext_getElem?
    intro i
    rw [List.getElem?_map]
    by_cases hi : i < ts.length
    · obtain ⟨k, hk, t, ht, e⟩ := hall.right (List.getElem?_eq_getElem (l := ys) (i := i) (by omega))
      rw [List.getElem?_range (by omega)] at hk
      cases hk
      rw [ht, List.getElem?_eq_getElem (by omega), e]
      rfl
    · rw [List.getElem?_eq_none (by omega), List.getElem?_eq_none (by omega)]
      rfl
theorem nums_len {x w : Str} : ((numbersOf x w).getD []).length ≤ x.length := by
  cases q : numbersOf x w with
  | none => exact Nat.zero_le _
  | some ns => exact (numbersOf_back q).2.2.1
end Lg

namespace Lg
open PySem PySem.Spec PyProof.Rows L2 TL
/-! ### texts spoilt: how long they get -/
def sumL (ws : List Str) : Nat := (ws.map (·.length)).sum
theorem sumL_set {ws : List Str} {i : Nat} {x y : Str} : ws[i]? = some x → sumL (ws.set i y) + x.length = sumL ws + y.length := by
  induction ws generalizing i with
  | nil =>
    intro h
    cases h
  | cons w ws ih =>
    intro h
    cases i with
    | zero =>
      cases h
      unfold sumL
      rw [List.set_cons_zero, List.map_cons, List.map_cons, List.sum_cons, List.sum_cons]
      omega
    | succ i =>
      have := ih (i := i) h
      unfold sumL at this ⊢
      rw [List.set_cons_succ, List.map_cons, List.map_cons, List.sum_cons, List.sum_cons]
      omega
theorem sumL_append (a b : List Str) : sumL (a ++ b) = sumL a + sumL b := by
  unfold sumL
  rw [List.map_append, List.sum_append]
theorem sumL_insert (ws : List Str) (i : Nat) (y : Str) : sumL (ws.take i ++ [y] ++ ws.drop i) = sumL ws + y.length := by
  rw [sumL_append, sumL_append]
  have : sumL ws = sumL (ws.take i) + sumL (ws.drop i) := by rw [← sumL_append, List.take_append_drop]
  have h1 : sumL [y] = y.length := by
    unfold sumL
    simp
  omega
theorem sumL_mem {ws : List Str} {x : Str} (m : x ∈ ws) : x.length ≤ sumL ws := le_sum (List.mem_map.mpr ⟨x, m, rfl⟩)
theorem sumL_take (ws : List Str) (i : Nat) : sumL (ws.take i) ≤ sumL ws := by
  have : sumL ws = sumL (ws.take i) + sumL (ws.drop i) := by rw [← sumL_append, List.take_append_drop]
  omega
theorem sumL_drop (ws : List Str) (i : Nat) : sumL (ws.drop i) ≤ sumL ws := by
  have : sumL ws = sumL (ws.take i) + sumL (ws.drop i) := by rw [← sumL_append, List.take_append_drop]
  omega
theorem join_sp {ws : List Str} (h : ws ≠ []) : (Txt.join " " ws).length + 1 = sumL ws + ws.length := by
  have := join_length (y := " ") h
  rw [show (" " : Str).length = 1 by decide +kernel, Nat.mul_one] at this
  exact this
theorem join_nl {ws : List Str} (h : ws ≠ []) : (Txt.join "\n" ws).length + 1 = sumL ws + ws.length := by
  have := join_length (y := "\n") h
  rw [show ("\n" : Str).length = 1 by decide +kernel, Nat.mul_one] at this
  exact this
theorem join_sp_le (ws : List Str) : (Txt.join " " ws).length ≤ sumL ws + ws.length := by
  have := join_len " " ws
  rw [show (" " : Str).length = 1 by decide +kernel, Nat.mul_one] at this
  exact this
theorem strs_cut (ws : List Str) (lo hi : Option Int) : ∃ ms : List Str, cutV (ws.map V.str) lo hi = ms.map V.str ∧ ms.length ≤ ws.length ∧ sumL ms ≤ sumL ws := by
  refine ⟨(ws.drop (HT.sIx (ws.map V.str).length 0 lo)).take (HT.sIx (ws.map V.str).length (ws.map V.str).length hi - HT.sIx (ws.map V.str).length 0 lo), ?_, ?_, ?_⟩
  · unfold cutV
    rw [List.map_take, List.map_drop]
  · rw [List.length_take, List.length_drop]
    omega
  · exact Nat.le_trans (sumL_take _ _) (sumL_drop _ _)
theorem cut_pre {z : Str} {v : Nat} (h : v ≤ z.length) : (cutS z none (some (v : Int))).length = v := by
  rw [len_tl]
  show ((z.cps.toList.drop (HT.sIx z.length 0 none)).take (HT.sIx z.length z.length (some (v : Int)) - HT.sIx z.length 0 none)).length = v
  rw [HT.sIx_none, HT.sIx_nat, List.drop_zero, Nat.sub_zero, List.length_take, Array.length_toList]
  have : z.length = z.cps.size := rfl
  omega
theorem cut_suf {z : Str} {v : Nat} (h : v ≤ z.length) : (cutS z (some (v : Int)) none).length = z.length - v := by
  rw [len_tl]
  show ((z.cps.toList.drop (HT.sIx z.length 0 (some (v : Int)))).take (HT.sIx z.length z.length none - HT.sIx z.length 0 (some (v : Int)))).length = _
  rw [HT.sIx_none, HT.sIx_nat, List.length_take, List.length_drop, Array.length_toList]
  have : z.length = z.cps.size := rfl
  omega
theorem len_app (a b : Str) : (a ++ b).length = a.length + b.length := by rw [len_tl, tl_append, List.length_append, ← len_tl, ← len_tl]
section
variable {K : PySem.W.Frag} {H : Hp} {Q : VK} {p l : Addr} {i : Int}
theorem v_ixW {ws : List Str} (h : H p = some (.lst (ws.map V.str))) (hi : 0 ≤ i ∧ i < (ws.length : Int)) (k : ∀ x, ws[i.toNat]? = some x → x ∈ ws → Q (.str x) H) : rIxL K (.ref p) (.int i) H Q := by
  have hl : i.toNat < ws.length := by omega
  have hg := List.getElem?_eq_getElem hl
  exact v_ixL (SqL.of h) (at_of (j := i.toNat) (by omega) (map_get hg)) (k _ hg (List.getElem_mem hl))
theorem v_insert {xs : List V} {y : V} (h : H l = some (.lst xs)) (hz : xs.length < sizeLine) (h0 : 0 ≤ i ∧ i < 2 ^ 63) (k : ∀ H2, Ch H H2 l → H2 l = some (.lst (xs.take i.toNat ++ [y] ++ xs.drop i.toNat)) → Q .non H2) :
    ∃ (l' : Addr) (xs' : List V) (i' : Int) (y' : V), V.ref l = .ref l' ∧ [V.int i, y] = [.int i', y'] ∧ H l' = some (.lst xs') ∧ xs'.length < sizeLine ∧ 0 ≤ i' ∧ i' < 2 ^ 63 ∧ Q .non (upd H l' (.lst (xs'.take i'.toNat ++ [y'] ++ xs'.drop i'.toNat))) :=
  ⟨l, xs, i, y, rfl, rfl, h, hz, h0.1, h0.2, k _ (Ch.upd h) upd_same⟩
theorem v_setW {ws : List Str} {y : Str} {N : Hp → Prop} (h : H l = some (.lst (ws.map V.str))) (hi : 0 ≤ i ∧ i < (ws.length : Int)) (n : ∀ H2, Ch H H2 l → H2 l = some (.lst ((ws.set i.toNat y).map V.str)) → N H2) : rSetL (.ref l) (.int i) (.str y) H N := by
  refine v_setL h (k := i.toNat) ?_ fun H2 c h2 => n H2 c (by rw [h2, List.map_set])
  rw [List.length_map]
  unfold ixN
  rw [if_pos hi.1, if_pos hi.2]
end
/-! ### promises -/
def spSignBy : Sp := fun vs H Q _ => ∃ c : Int, vs = [.int c] ∧ ∀ z : Str, z.length = 1 → Q (.str z) H
def spOddRow : Sp := fun vs H Q _ => ∃ c : Int, vs = [.int c] ∧ ∀ (z : Str) H', Ex H H' → z.length ≤ 20 → Q (.str z) H'
def spChanging : Sp := fun vs H Q _ => ∃ c : Int, vs = [.int c] ∧ ∀ (z : Str) H', Ex H H' → 2 ≤ z.length → z.length ≤ 1900000 → Q (.str z) H'
def spFigSpoilt : Sp := fun vs H Q _ => ∃ (l : Addr) (ws : List Str) (c : Int), vs = [.ref l, .int c] ∧ H l = some (.lst (ws.map V.str)) ∧ 1 ≤ ws.length ∧ ws.length ≤ 9000001 ∧ sumL ws ≤ 9000000 ∧
  ∀ H' ws', (∀ a o, a ≠ l → H a = some o → H' a = some o) → H' l = some (.lst (ws'.map V.str)) → ws'.length = ws.length → sumL ws' ≤ 2 * sumL ws + 40 → (ws.length < 2 → ws' = ws) → Q (.ref l) H'
def spSpoilt : Sp := fun vs H Q _ => ∃ (z : Str) (c w : Int), vs = [.str z, .int c, .int w] ∧ 1 ≤ z.length ∧ z.length ≤ 4100000 ∧ 0 ≤ w ∧ w ≤ 5 ∧ (w = 0 → 2 ≤ z.length) ∧ ∀ (z' : Str) H', Ex H H' → 1 ≤ z'.length → z'.length ≤ 2 * z.length + 100 → Q (.str z') H'
theorem log_ok12 {n : Nat} (h : n < 1000000000000) : ((n : Int)).natAbs.log2 < 1920 := by
  rw [Int.natAbs_natCast]
  by_cases h0 : n = 0
  · rw [h0]
    decide
  · exact Nat.lt_of_lt_of_le ((Nat.log2_lt h0 (k := 40)).mpr (Nat.lt_of_lt_of_le h (by decide))) (by decide)
theorem nT_len12 {n : Nat} (h : n < 1000000000000) : (nT n).length ≤ 12 := by
  rw [len_tl, nT_tl]
  exact numL_len (k := 12) (by decide) h
theorem v_ixM {K : PySem.W.Frag} {H : Hp} {Q : VK} {p : Addr} {i : Int} {xs : List V} (h : H p = some (.lst xs)) (hi : 0 ≤ i ∧ i < (xs.length : Int)) (k : ∀ x, x ∈ xs → Q x H) : rIxL K (.ref p) (.int i) H Q := by
  have hl : i.toNat < xs.length := by omega
  exact v_ixL (SqL.of h) (at_of (j := i.toNat) (by omega) (List.getElem?_eq_getElem hl)) (k _ (List.getElem_mem hl))
theorem figI_max (z : Str) : ∃ n : Nat, (if figI z > 0 then figI z else 0) = (n : Int) ∧ n < 1000000000 := by
  unfold figI
  cases h : numOf z with
  | none => exact ⟨0, by decide, by decide⟩
  | some n => exact ⟨n, by show (if (n : Int) > 0 then (n : Int) else 0) = n; split <;> omega, (numOf_back h).2⟩
theorem max_nat {i : Int} {b : Nat} (h : i ≤ (b : Int)) : ∃ n : Nat, (if i > 0 then i else 0) = (n : Int) ∧ n ≤ b := by
  refine ⟨i.toNat, ?_, by omega⟩
  split <;> omega
theorem sumL_le {b : Nat} {ws : List Str} (h : ∀ x ∈ ws, x.length ≤ b) : sumL ws ≤ ws.length * b := sum_len h
theorem sumL_snoc (ws : List Str) (x : Str) : sumL (ws ++ [x]) = sumL ws + x.length := by
  rw [sumL_append]
  unfold sumL
  simp
/-! ### the end -/
theorem textT_len {T : Tr} (G : Good T) (hco : T.coming ≤ 600) : 2 ≤ (textT T).length ∧ (textT T).length ≤ 1900000 := by
  have wf := G.wf
  have w1 := wf.s1
  have w2 := wf.s2
  have w3 := wf.t1
  have w4 := wf.t2
  have hmany := G.many
  have h1 : ∀ y ∈ (Txt.join " " (headW T) :: T.sold.map fun x => Txt.join " " (wordsT x)), y.length ≤ 3000 := fun y m => by
    rcases List.mem_cons.mp m with rfl | m
    · have := join_sp_le (headW T)
      have e : sumL (headW T) ≤ 40 := by
        have h5 : ("train" : Str).length = 5 := by decide +kernel
        show ("train" : Str).length + ((nT T.rows.length).length + ((nT T.stops).length + ((nT T.coming).length + 0))) ≤ 40
        have := nT_len (n := T.rows.length) (by omega)
        have := nT_len (n := T.stops) (by omega)
        have := nT_len (n := T.coming) (by omega)
        omega
      have : (headW T).length = 4 := rfl
      omega
    · obtain ⟨x, mx, rfl⟩ := List.mem_map.mp m
      obtain ⟨b, e, hb, he, w⟩ := G.way x mx
      have hlow := G.low x mx
      have hl := w.len
      have := row_len (n := x.1) (ps := x.2) (by omega) fun q m => by
        have := w.mem q m
        omega
      exact Nat.le_trans this (by omega)
  have h2 := sumL_le h1
  have hj := join_nl (ws := Txt.join " " (headW T) :: T.sold.map fun x => Txt.join " " (wordsT x)) (by simp)
  have hs := sumL_mem (ws := Txt.join " " (headW T) :: T.sold.map fun x => Txt.join " " (wordsT x)) (x := Txt.join " " (headW T)) List.mem_cons_self
  have hh := join_sp (ws := headW T) (by unfold headW; simp)
  have h5 := sumL_mem (ws := headW T) (x := "train") List.mem_cons_self
  have l5 : ("train" : Str).length = 5 := by decide +kernel
  have l4 : (headW T).length = 4 := rfl
  have hl : (Txt.join " " (headW T) :: T.sold.map fun x => Txt.join " " (wordsT x)).length = T.sold.length + 1 := by rw [List.length_cons, List.length_map]
  have h3 : sumL (Txt.join " " (headW T) :: T.sold.map fun x => Txt.join " " (wordsT x)) ≤ 601 * 3000 := Nat.le_trans h2 (Nat.mul_le_mul_right _ (by omega))
  show 2 ≤ (Txt.join "\n" (Txt.join " " (headW T) :: T.sold.map fun x => Txt.join " " (wordsT x))).length ∧ (Txt.join "\n" (Txt.join " " (headW T) :: T.sold.map fun x => Txt.join " " (wordsT x))).length ≤ _
  omega
theorem readT_few {z : Str} (h : (readT z).1 = "") (hz : z.length ≤ 9000000) : (readT z).2.sold.length < 1000000 := by
  obtain ⟨a, r, h0, h1, h2, ts, g1, g2, g3, g4, g5, g6, g7, g8, g9, g10, ok⟩ := readT_ok h
  have hf := rows_few g3 g4
  have hs := nl_sum z
  rw [g1, List.length_cons, List.map_cons, List.sum_cons] at hs
  have hl : (readT z).2.sold.length = ts.length := by rw [← ok.nums, List.length_map]
  have hr : r.length = ts.length := by rw [← (mapM_some [] g3).1, List.length_map]
  omega
def spRead13L (K : PySem.W.Frag) : Sp := fun vs H Q _ => ∃ z : Str, vs = [.str z] ∧ z.length ≤ 9000000 ∧ ((readT z).1 = "" → ∀ H' S p l, Play K H H' p (readT z).2 S → H' l = some (.lst [.str "", .ref p]) → Q (.ref l) H') ∧
  ((readT z).1 ≠ "" → ∀ H' l, Ex H H' → H' l = some (.lst [.str (readT z).1]) → Q (.ref l) H')
theorem v_neTs {K : PySem.W.Frag} {H : Hp} {Q : VK} {t u : Addr} {xs ys : List Int} (h1 : H t = some (.tup (xs.map V.int))) (h2 : H u = some (.tup (ys.map V.int))) (k : Q (.bl (!decide (xs = ys))) H) : rNeD K (.ref t) (.ref u) H Q :=
  rne_of (Enc.tup enc_int) (by decide) (dp_tup h1) (dp_tup h2) k
end Lg

namespace Lg.K13
open PySem PySem.Spec PyProof.Rows L2 Lg
local macro_rules | `(tactic| fail "t") => `(tactic| first
  | assumption
  | ((with_reducible apply Lg.e_sq); (focus fail "t"))
  | ((with_reducible apply Lg.e_sqL); (focus assumption); (focus fail "t"))
  | ((with_reducible apply Lg.e_at); (focus assumption); (focus fail "t"))
  | ((with_reducible apply Lg.e_mvT); (focus assumption); (focus fail "t"))
  | ((with_reducible apply Lg.ch_tup); (focus assumption); (focus fail "t"))
  | ((with_reducible apply Lg.e_mv); (focus assumption); (focus assumption); (focus fail "t"))
  | ((with_reducible apply Lg.ch_lst); (focus assumption); (focus assumption); (focus fail "t"))
  | ((with_reducible apply Lg.e_play); (focus fail "t"))
  | ((with_reducible apply Lg.e_tr); (focus assumption); (focus fail "t"))
  | ((with_reducible apply Lg.e_playE); (focus assumption); (focus fail "t"))
  | ((with_reducible apply Lg.e_grid); (focus assumption); (focus fail "t"))
  | ((with_reducible apply Lg.e_parts); (focus assumption); (focus fail "t"))
  | ((with_reducible apply Lg.e_world); (focus assumption); (focus fail "t"))
  | ((with_reducible apply Lg.e_row); (focus assumption); (focus fail "t"))
  | ((with_reducible apply Lg.e_deed); (focus assumption); (focus fail "t"))
  | ((with_reducible apply Lg.e_mvG); (focus assumption); (focus assumption); (focus assumption); (focus fail "t"))
  | ((with_reducible apply Lg.e_mvP); (focus assumption); (focus assumption); (focus fail "t"))
  | ((with_reducible apply Lg.ch_parts); (focus assumption); (focus assumption); (focus fail "t"))
  | ((with_reducible apply Lg.e_bsT); (focus assumption); (focus assumption); (focus fail "t"))
  | ((with_reducible apply Lg.e_bs); (focus assumption); (focus assumption); (focus fail "t"))
  | ((with_reducible apply Lg.e_bsP); (focus assumption); (focus assumption); (focus assumption); (focus fail "t"))
  | ((with_reducible apply Lg.chd_tup); (focus assumption); (focus fail "t"))
  | ((with_reducible apply Lg.chd_lst); (focus assumption); (focus fail "t"))
  | ((with_reducible apply Lg.ch_dic); (focus assumption); (focus fail "t"))
  | ((with_reducible apply Lg.ch_grid); (focus assumption); (focus assumption); (focus assumption); (focus fail "t"))
  | ((with_reducible apply Lg.e_mvD); (focus assumption); (focus fail "t"))
  | ((with_reducible apply Lg.e_chD); (focus assumption); (focus fail "t")))
local macro_rules | `(tactic| fail "s") => `(tactic| first
  | ((with_reducible apply Lg.s_var); (focus exact rfl))
  | with_reducible apply Lg.s_c
  | with_reducible apply Lg.s_cons
  | with_reducible apply Lg.s_nil
  | with_reducible apply Lg.s_op
  | with_reducible apply Lg.s_calls
  | with_reducible apply Lg.s_bl
  | with_reducible apply Lg.s_tTest
  | with_reducible apply Lg.s_tB
  | with_reducible apply Lg.s_cb
  | with_reducible apply Lg.s_seq
  | with_reducible apply Lg.s_asg
  | with_reducible apply Lg.s_gname
  | with_reducible apply Lg.s_drop
  | with_reducible apply Lg.s_ret
  | with_reducible apply Lg.s_retN
  | with_reducible apply Lg.s_next
  | with_reducible apply Lg.s_if
  | with_reducible apply Lg.s_tAnd
  | with_reducible apply Lg.s_tOr
  | with_reducible apply Lg.s_tNot
  | with_reducible apply Lg.s_tAndV
  | with_reducible apply Lg.s_tOrV
  | with_reducible apply Lg.s_tNotV
  | with_reducible apply Lg.s_un
  | with_reducible apply Lg.s_meth
  | with_reducible apply Lg.s_tup
  | with_reducible apply Lg.s_lst
  | with_reducible apply Lg.s_chain
  | with_reducible apply Lg.s_bm
  | with_reducible apply Lg.s_gSub
  | with_reducible apply Lg.s_for
  | with_reducible apply Lg.s_iL
  | with_reducible apply Lg.s_iT
  | with_reducible apply Lg.s_iR1
  | with_reducible apply Lg.s_iR2
  | with_reducible apply Lg.s_lc
  | with_reducible apply Lg.s_sl
  | with_reducible apply Lg.s_noPart
  | with_reducible apply Lg.s_wbody
  | with_reducible apply Lg.s_part
  | with_reducible apply Lg.v_part
  | with_reducible apply Lg.v_eqI
  | with_reducible apply Lg.v_neI
  | with_reducible apply Lg.v_eqS
  | with_reducible apply Lg.v_neS
  | with_reducible apply Lg.v_eqO
  | with_reducible apply Lg.v_neO
  | with_reducible apply Lg.v_isO
  | with_reducible apply Lg.v_notO
  | with_reducible apply Lg.v_isN
  | with_reducible apply Lg.v_isI
  | with_reducible apply Lg.v_notN
  | with_reducible apply Lg.v_notI
  | with_reducible apply Lg.v_notR
  | with_reducible apply Lg.v_isR
  | with_reducible apply Lg.v_I0
  | with_reducible apply Lg.v_U
  | ((with_reducible apply Lg.v_I); (focus first | (show (0 : Int) < _; decide) | (exact ⟨by decide, by decide⟩) | (exact ⟨by decide, by decide, by decide⟩) | (exact .inl ⟨by decide, by decide⟩) | (exact .inr ⟨by decide, by decide⟩) | (exact .inl ⟨by omega, by omega⟩) | (exact .inr ⟨by omega, by omega⟩)))
  | ((with_reducible apply Lg.v_ixT); (focus fail "t"); (focus exact rfl))
  | ((with_reducible apply Lg.v_ixL); (focus fail "t"); (focus exact rfl))
  | ((with_reducible apply Lg.v_lenL); (focus fail "t"))
  | ((with_reducible apply Lg.v_lenT); (focus fail "t"))
  | ((with_reducible apply Lg.v_inI); (focus fail "t"))
  | ((with_reducible apply Lg.v_ninI); (focus fail "t"))
  | ((with_reducible apply Lg.v_eqG); (focus fail "t"); (focus fail "t"))
  | ((with_reducible apply Lg.v_neG); (focus fail "t"); (focus fail "t"))
  | ((with_reducible apply Lg.s_methT); (focus fail "t"); (focus first | exact fun _ _ _ _ => nf_sell | exact fun _ _ _ _ => nf_back | exact fun _ _ _ _ => nf_leave | exact fun _ _ _ _ => nf_reseat | exact fun _ _ _ _ => nf_parts | exact fun _ _ _ _ => nf_tickets | exact fun _ _ _ _ => nf_row | exact fun _ _ _ _ => nf_blocked | exact fun _ _ _ _ => nf_farthest | exact fun _ _ _ _ => nf_holder | exact fun _ _ _ _ => nf_load | exact fun _ _ _ _ => nf_size | exact fun _ _ _ _ => nf_mark | exact fun _ _ _ _ => nf_take | exact fun _ _ _ _ => nf_need_stretch | exact fun _ _ _ _ => nf_need_seat | exact fun _ _ _ _ => nf_need_leg))
  | ((with_reducible apply Lg.s_tyL); (focus fail "t"))
  | ((with_reducible apply Lg.v_iL); (focus fail "t"))
  | ((with_reducible apply Lg.v_iT); (focus fail "t"))
  | ((with_reducible apply Lg.v_iP); (focus fail "t"))
  | ((with_reducible apply Lg.v_lenP); (focus fail "t"))
  | ((with_reducible apply Lg.v_ixP0); (focus fail "t"); (focus assumption); intro _ _)
  | ((with_reducible apply Lg.v_ixPl); (focus fail "t"); (focus assumption); intro _ _)
  | ((with_reducible apply Lg.v_ixG); (focus fail "t"); (focus first | omega | (simp only [markAll_len, foldl_len, setCell_len]; omega)); intro _ _ _ _ _ _)
  | ((with_reducible apply Lg.v_ixR); (focus fail "t"); (focus omega); intro _ _)
  | ((with_reducible apply Lg.v_iRow); (focus fail "t"))
  | ((with_reducible apply Lg.v_iG); (focus fail "t"))
  | ((with_reducible apply Lg.v_lenG); (focus fail "t"))
  | (with_reducible apply iteT)
  | (with_reducible apply iteF)
  | (with_reducible apply Lg.iteNone1)
  | (with_reducible apply Lg.iteNone2)
  | (with_reducible apply Lg.iteSome1)
  | (with_reducible apply Lg.iteSome2)
  | (with_reducible apply Lg.iteNT)
  | (with_reducible apply Lg.iteNF)
  | (with_reducible apply Lg.iteEq)
  | (with_reducible apply Lg.iteEqN)
  | ((with_reducible apply Lg.iteLit); (focus decide +kernel))
  | ((with_reducible apply Lg.iteLitN); (focus decide +kernel))
  | ((with_reducible apply Lg.iteDno); (focus first | omega | assumption))
  | ((with_reducible apply Lg.iteDyes); (focus first | omega | assumption | (with_reducible exact rfl)))
  | ((with_reducible apply Lg.iteNno); (focus first | omega | assumption))
  | ((with_reducible apply Lg.iteNyes); (focus first | omega | assumption | (simp only [List.length_cons, List.length_nil]; done) | (simp only [List.length_cons, List.length_nil]; omega))))
local macro_rules | `(tactic| fail "z") => `(tactic| first
  | omega
  | (show _ ≤ sizeLine; decide)
  | (show _ < sizeLine; decide)
  | (refine Nat.le_trans (m := 3000000) ?_ (show 3000000 ≤ sizeLine by decide); (try simp only [List.length_map, keys_len, List.length_cons, List.length_nil, List.length_append, List.length_singleton]); omega)
  | (refine Nat.lt_of_le_of_lt (m := 3000000) ?_ (show 3000000 < sizeLine by decide); (try simp only [List.length_map, keys_len, List.length_cons, List.length_nil, List.length_append, List.length_singleton]); omega)
  | (simp only [List.length_map, keys_len, List.length_cons, List.length_nil, List.length_append, List.length_singleton]; omega)
  | assumption)
local macro_rules | `(tactic| fail "s") => `(tactic| first
  | with_reducible apply Lg.s_rem
  | with_reducible apply Lg.s_make
  | ((with_reducible apply Lg.c_seats); intro _ _ _)
  | ((with_reducible apply Lg.c_stops); intro _ _ _)
  | ((with_reducible apply Lg.v_make); (focus assumption); (focus assumption); (focus assumption); (focus assumption); (focus exact rfl); intro _ _ _ _)
  | ((with_reducible apply Lg.c_cells); (focus fail "t"); (focus assumption); intro _ _ _ _ _ _)
  | ((with_reducible apply Lg.v_popAt); (focus fail "t"); (focus fail "z"); (focus fail "z"); intro _ _ _ _)
  | ((with_reducible apply Lg.v_setL); (focus fail "t"); (focus assumption); intro _ _ _)
  | with_reducible apply Lg.v_isOB
  | ((with_reducible apply Lg.v_index); (focus fail "t"); (focus assumption); (focus assumption))
  | ((with_reducible apply Lg.v_rem); (focus fail "t"); (focus assumption); intro _ _ _)
  | with_reducible apply Lg.s_dput
  | with_reducible apply Lg.s_dget
  | ((with_reducible apply Lg.s_dnew); intro _ _ _ _ _)
  | ((with_reducible apply Lg.v_dput); (focus fail "t"); (focus fail "z"); intro _ _ _)
  | ((with_reducible apply Lg.v_dget); (focus fail "t"); (focus assumption))
  | ((with_reducible apply Lg.nw_t); (focus fail "z"); intro _ _ _ _ _)
  | ((with_reducible apply Lg.nw_l); (focus fail "z"); intro _ _ _ _ _)
  | ((with_reducible apply Lg.v_cat); (focus fail "t"); (focus fail "t"); (focus fail "z"); intro _ _ _ _ _)
  | ((with_reducible apply Lg.v_list); (focus fail "t"); intro _ _ _ _ _)
  | ((with_reducible apply Lg.v_slI); (focus fail "t"); intro _ _ _ _ _ _ _)
  | ((with_reducible apply Lg.v_slL); (focus fail "t"); intro _ _ _ _ _)
  | ((with_reducible apply Lg.c_size); (focus fail "t"); intro _ _ _ _ _)
  | ((with_reducible apply Lg.c_tickets); (focus fail "t"); intro _ _ _ _ _)
  | ((with_reducible apply Lg.c_mixed); (focus first | decide | fail "z"); intro _ _ _ _)
  | ((with_reducible apply Lg.c_cellAt); (focus fail "t"); (focus first | decide | omega))
  | ((with_reducible apply Lg.v_ixA); (focus fail "t"); (focus assumption))
  | ((with_reducible apply Lg.v_ixE); (focus fail "t"); (focus assumption))
  | ((with_reducible apply Lg.c_parts); (focus fail "t"); (focus assumption); intro _ _ _ _ _)
  | ((with_reducible apply Lg.v_ixI); (focus fail "t"); (focus first | omega | (simp only [List.length_map] at *; omega)); intro _ _)
  | ((with_reducible apply Lg.v_ixN); (focus fail "t"); (focus omega); intro _ _)
  | ((with_reducible apply Lg.c_isL); (focus fail "t"))
  | ((with_reducible apply Lg.c_isT); (focus fail "t"))
  | ((with_reducible apply Lg.v_rep); (focus fail "t"); (focus omega); (focus decide); intro _ _ _ _ _)
  | with_reducible apply Lg.c_wholeI
  | with_reducible apply Lg.c_wholeN
  | ((with_reducible apply Lg.c_numbers); (focus fail "t"); (focus fail "t"); (focus fail "z"); (focus fail "z"))
  | ((with_reducible apply Lg.c_rows); (focus fail "t"); (focus fail "t"); (focus fail "z"); (focus fail "z"); intro _ _)
  | ((with_reducible apply Lg.c_grid); (focus fail "t"); (focus assumption); (focus omega); (focus omega); (focus omega); intro _ _ _ _ _ _ _ _ _)
  | ((with_reducible apply Lg.c_holder); (focus fail "t"); (focus omega); (focus omega))
  | ((with_reducible apply Lg.v_append); (focus fail "t"); (focus fail "z"); intro _ _ _)
  | ((with_reducible apply Lg.v_iR1); (focus omega))
  | ((with_reducible apply Lg.v_iR1'); (focus omega))
  | ((with_reducible apply Lg.v_iR2); (focus omega); (focus omega)))
local macro_rules | `(tactic| fail "s") => `(tactic| first
  | ((with_reducible apply Lg.v_slTake); (focus fail "t"); (focus fail "z"); intro _ _ _ _ _))
local macro_rules | `(tactic| fail "s") => `(tactic| first
  | ((with_reducible apply Lg.v_slTop2); (focus fail "t"); intro _ _ _ _ _))
local macro_rules | `(tactic| fail "s") => `(tactic| first
  | with_reducible apply Lg.s_tM1
  | with_reducible apply Lg.s_strAnd)
local macro_rules | `(tactic| fail "s") => `(tactic| first
  | ((with_reducible apply Lg.v_slDrop1); (focus fail "t"); intro _ _ _ _ _))
local macro_rules | `(tactic| fail "s") => `(tactic| first
  | with_reducible apply Lg.s_sFld)
def top (i : Nat) : Stmt := PySem.Challenge.pw_legseats_k13_read_or_refused.main.body.getD i (.Pass ⟨0, 0, 0, 0⟩)
abbrev s_Train_size : Stmt := inClass (top 20) 1
abbrev s_Train_tickets : Stmt := inClass (top 20) 2
abbrev s_Train_parts : Stmt := inClass (top 20) 3
abbrev s_written : Stmt := top 24
abbrev s_law_seats : Stmt := top 33
abbrev s_law_cell_at : Stmt := top 30
abbrev s_law_stops : Stmt := top 34
abbrev s_Train_init : Stmt := inClass (top 20) 0
abbrev s_law_laid : Stmt := top 37
abbrev s_law_cells : Stmt := top 38
abbrev s_law_mixed : Stmt := top 32
abbrev s_law_stretch_by : Stmt := top 35
abbrev s_law_deed_by : Stmt := top 36
abbrev s_Train_need_stretch : Stmt := inClass (top 20) 4
abbrev s_first_full : Stmt := top 16
abbrev s_Train_blocked : Stmt := inClass (top 20) 6
abbrev s_reach : Stmt := top 13
abbrev s_best_seat : Stmt := top 14
abbrev s_found_parts : Stmt := top 15
abbrev s_Train_row : Stmt := inClass (top 20) 7
abbrev s_Train_mark : Stmt := inClass (top 20) 8
abbrev s_Train_take : Stmt := inClass (top 20) 9
abbrev s_Train_sell : Stmt := inClass (top 20) 10
abbrev s_Train_back : Stmt := inClass (top 20) 11
abbrev s_Train_leave : Stmt := inClass (top 20) 12
abbrev s_Train_reseat : Stmt := inClass (top 20) 13
abbrev s_law_told : Stmt := top 40
abbrev s_law_class : Stmt := top 39
abbrev s_law_word : Stmt := top 41
abbrev s_law_run : Stmt := top 44
abbrev s_law_changing : Stmt := top 48
abbrev s_law_sign_by : Stmt := top 45
abbrev s_law_figures : Stmt := top 47
abbrev s_law_figure_spoilt : Stmt := top 49
abbrev s_law_odd_row : Stmt := top 46
abbrev s_law_spoilt : Stmt := top 50
abbrev s_law_numbers_of : Stmt := top 51
abbrev s_law_part_word : Stmt := top 52
abbrev s_law_looked_at : Stmt := top 53
abbrev s_law_due : Stmt := top 54
abbrev s_number : Stmt := top 25
abbrev s_numbers_of : Stmt := top 26
abbrev s_Train_need_seat : Stmt := inClass (top 20) 5
abbrev s_Train_farthest : Stmt := inClass (top 20) 14
abbrev s_parts_of : Stmt := top 27
abbrev s_read : Stmt := top 28
abbrev s_law_read : Stmt := top 55
abbrev s_law_whole : Stmt := top 31
abbrev s_law_numbers : Stmt := top 43
abbrev s_law_rows : Stmt := top 42
abbrev s_law : Stmt := top 56
def fnL : List He.DefD := [⟨("Train", some "size"), "size", "Train.size", defArgs s_Train_size, defBody s_Train_size, defScope s_Train_size, [], []⟩,
  ⟨("Train", some "tickets"), "tickets", "Train.tickets", defArgs s_Train_tickets, defBody s_Train_tickets, defScope s_Train_tickets, [], []⟩,
  ⟨("Train", some "parts"), "parts", "Train.parts", defArgs s_Train_parts, defBody s_Train_parts, defScope s_Train_parts, [], []⟩,
  ⟨("written", none), "written", "written", defArgs s_written, defBody s_written, defScope s_written, [], []⟩,
  ⟨("_law_seats", none), "_law_seats", "_law_seats", defArgs s_law_seats, defBody s_law_seats, defScope s_law_seats, [], []⟩,
  ⟨("_law_cell_at", none), "_law_cell_at", "_law_cell_at", defArgs s_law_cell_at, defBody s_law_cell_at, defScope s_law_cell_at, [], []⟩,
  ⟨("_law_stops", none), "_law_stops", "_law_stops", defArgs s_law_stops, defBody s_law_stops, defScope s_law_stops, [], []⟩,
  ⟨("Train", some "__init__"), "__init__", "Train.__init__", defArgs s_Train_init, defBody s_Train_init, defScope s_Train_init, [], []⟩,
  ⟨("_law_laid", none), "_law_laid", "_law_laid", defArgs s_law_laid, defBody s_law_laid, defScope s_law_laid, [], []⟩,
  ⟨("_law_cells", none), "_law_cells", "_law_cells", defArgs s_law_cells, defBody s_law_cells, defScope s_law_cells, [], []⟩,
  ⟨("_law_mixed", none), "_law_mixed", "_law_mixed", defArgs s_law_mixed, defBody s_law_mixed, defScope s_law_mixed, [], []⟩,
  ⟨("_law_stretch_by", none), "_law_stretch_by", "_law_stretch_by", defArgs s_law_stretch_by, defBody s_law_stretch_by, defScope s_law_stretch_by, [], []⟩,
  ⟨("_law_deed_by", none), "_law_deed_by", "_law_deed_by", defArgs s_law_deed_by, defBody s_law_deed_by, defScope s_law_deed_by, [], []⟩,
  ⟨("Train", some "need_stretch"), "need_stretch", "Train.need_stretch", defArgs s_Train_need_stretch, defBody s_Train_need_stretch, defScope s_Train_need_stretch, [], []⟩,
  ⟨("first_full", none), "first_full", "first_full", defArgs s_first_full, defBody s_first_full, defScope s_first_full, [], []⟩,
  ⟨("Train", some "blocked"), "blocked", "Train.blocked", defArgs s_Train_blocked, defBody s_Train_blocked, defScope s_Train_blocked, [], []⟩,
  ⟨("reach", none), "reach", "reach", defArgs s_reach, defBody s_reach, defScope s_reach, [], []⟩,
  ⟨("best_seat", none), "best_seat", "best_seat", defArgs s_best_seat, defBody s_best_seat, defScope s_best_seat, [], []⟩,
  ⟨("found_parts", none), "found_parts", "found_parts", defArgs s_found_parts, defBody s_found_parts, defScope s_found_parts, [], []⟩,
  ⟨("Train", some "row"), "row", "Train.row", defArgs s_Train_row, defBody s_Train_row, defScope s_Train_row, [], []⟩,
  ⟨("Train", some "mark"), "mark", "Train.mark", defArgs s_Train_mark, defBody s_Train_mark, defScope s_Train_mark, [], []⟩,
  ⟨("Train", some "take"), "take", "Train.take", defArgs s_Train_take, defBody s_Train_take, defScope s_Train_take, [], []⟩,
  ⟨("Train", some "sell"), "sell", "Train.sell", defArgs s_Train_sell, defBody s_Train_sell, defScope s_Train_sell, [], []⟩,
  ⟨("Train", some "back"), "back", "Train.back", defArgs s_Train_back, defBody s_Train_back, defScope s_Train_back, [], []⟩,
  ⟨("Train", some "leave"), "leave", "Train.leave", defArgs s_Train_leave, defBody s_Train_leave, defScope s_Train_leave, [], []⟩,
  ⟨("Train", some "reseat"), "reseat", "Train.reseat", defArgs s_Train_reseat, defBody s_Train_reseat, defScope s_Train_reseat, [], []⟩,
  ⟨("_law_told", none), "_law_told", "_law_told", defArgs s_law_told, defBody s_law_told, defScope s_law_told, [], []⟩,
  ⟨("_law_class", none), "_law_class", "_law_class", defArgs s_law_class, defBody s_law_class, defScope s_law_class, [], []⟩,
  ⟨("_law_word", none), "_law_word", "_law_word", defArgs s_law_word, defBody s_law_word, defScope s_law_word, [], []⟩,
  ⟨("_law_run", none), "_law_run", "_law_run", defArgs s_law_run, defBody s_law_run, defScope s_law_run, [], []⟩,
  ⟨("_law_changing", none), "_law_changing", "_law_changing", defArgs s_law_changing, defBody s_law_changing, defScope s_law_changing, [], []⟩,
  ⟨("_law_sign_by", none), "_law_sign_by", "_law_sign_by", defArgs s_law_sign_by, defBody s_law_sign_by, defScope s_law_sign_by, [], []⟩,
  ⟨("_law_figures", none), "_law_figures", "_law_figures", defArgs s_law_figures, defBody s_law_figures, defScope s_law_figures, [], []⟩,
  ⟨("_law_figure_spoilt", none), "_law_figure_spoilt", "_law_figure_spoilt", defArgs s_law_figure_spoilt, defBody s_law_figure_spoilt, defScope s_law_figure_spoilt, [], []⟩,
  ⟨("_law_odd_row", none), "_law_odd_row", "_law_odd_row", defArgs s_law_odd_row, defBody s_law_odd_row, defScope s_law_odd_row, [], []⟩,
  ⟨("_law_spoilt", none), "_law_spoilt", "_law_spoilt", defArgs s_law_spoilt, defBody s_law_spoilt, defScope s_law_spoilt, [], []⟩,
  ⟨("_law_numbers_of", none), "_law_numbers_of", "_law_numbers_of", defArgs s_law_numbers_of, defBody s_law_numbers_of, defScope s_law_numbers_of, [], []⟩,
  ⟨("_law_part_word", none), "_law_part_word", "_law_part_word", defArgs s_law_part_word, defBody s_law_part_word, defScope s_law_part_word, [], []⟩,
  ⟨("_law_looked_at", none), "_law_looked_at", "_law_looked_at", defArgs s_law_looked_at, defBody s_law_looked_at, defScope s_law_looked_at, [], []⟩,
  ⟨("_law_due", none), "_law_due", "_law_due", defArgs s_law_due, defBody s_law_due, defScope s_law_due, [], []⟩,
  ⟨("number", none), "number", "number", defArgs s_number, defBody s_number, defScope s_number, [], []⟩,
  ⟨("numbers_of", none), "numbers_of", "numbers_of", defArgs s_numbers_of, defBody s_numbers_of, defScope s_numbers_of, [], []⟩,
  ⟨("Train", some "need_seat"), "need_seat", "Train.need_seat", defArgs s_Train_need_seat, defBody s_Train_need_seat, defScope s_Train_need_seat, [], []⟩,
  ⟨("Train", some "farthest"), "farthest", "Train.farthest", defArgs s_Train_farthest, defBody s_Train_farthest, defScope s_Train_farthest, [], []⟩,
  ⟨("parts_of", none), "parts_of", "parts_of", defArgs s_parts_of, defBody s_parts_of, defScope s_parts_of, [], []⟩,
  ⟨("read", none), "read", "read", defArgs s_read, defBody s_read, defScope s_read, [], []⟩,
  ⟨("_law_read", none), "_law_read", "_law_read", defArgs s_law_read, defBody s_law_read, defScope s_law_read, [], []⟩,
  ⟨("_law_whole", none), "_law_whole", "_law_whole", defArgs s_law_whole, defBody s_law_whole, defScope s_law_whole, [], []⟩,
  ⟨("_law_numbers", none), "_law_numbers", "_law_numbers", defArgs s_law_numbers, defBody s_law_numbers, defScope s_law_numbers, [], []⟩,
  ⟨("_law_rows", none), "_law_rows", "_law_rows", defArgs s_law_rows, defBody s_law_rows, defScope s_law_rows, [], []⟩,
  ⟨("law", none), "law", "law", defArgs s_law, defBody s_law, defScope s_law, [], []⟩]
def faL : List He.Fa := [.free "max",
  .free "len",
  .free "range",
  .free "str",
  .meth "Train" "size",
  .cls "Train",
  .noat "Train" "rows",
  .noat "Train" "stops",
  .free "sorted",
  .meth "Train" "tickets",
  .noat "Train" "sold",
  .exc "NoTicket",
  .glo "NoTicket",
  .exm "NoTicket" "SeatError" true,
  .free "list",
  .meth "Train" "parts",
  .glo "written",
  .noat "Train" "coming",
  .glo "Train",
  .glo "_law_seats",
  .glo "_law_cell_at",
  .glo "_law_stops",
  .int "MOST_STOPS" (60),
  .int "MOST_SEATS" (60),
  .exc "NoTrain",
  .glo "NoTrain",
  .exm "NoTrain" "SeatError" true,
  .mkr "Train",
  .glo "_law_laid",
  .glo "_law_cells",
  .free "isinstance",
  .free "tuple",
  .glo "_law_mixed",
  .free "min",
  .glo "_law_stretch_by",
  .glo "_law_deed_by",
  .glo "SeatError",
  .exc "Full",
  .glo "Full",
  .exm "Full" "SeatError" true,
  .exc "NoStretch",
  .glo "NoStretch",
  .exm "NoStretch" "SeatError" true,
  .meth "Train" "need_stretch",
  .free "all",
  .glo "first_full",
  .meth "Train" "blocked",
  .free "enumerate",
  .glo "reach",
  .glo "best_seat",
  .glo "found_parts",
  .meth "Train" "row",
  .meth "Train" "mark",
  .meth "Train" "take",
  .meth "Train" "sell",
  .meth "Train" "back",
  .exc "NoStop",
  .glo "NoStop",
  .exm "NoStop" "SeatError" true,
  .meth "Train" "leave",
  .meth "Train" "reseat",
  .glo "_law_told",
  .glo "NoSeat",
  .glo "NoLeg",
  .glo "Shared",
  .glo "NoText",
  .free "ValueError",
  .glo "_law_class",
  .glo "_law_word",
  .glo "_law_run",
  .glo "_law_changing",
  .glo "_law_sign_by",
  .free "int",
  .glo "_law_figures",
  .glo "_law_figure_spoilt",
  .glo "_law_odd_row",
  .glo "_law_spoilt",
  .glo "_law_numbers_of",
  .glo "_law_part_word",
  .glo "_law_looked_at",
  .glo "_law_due",
  .exc "NoText",
  .exm "NoText" "SeatError" true,
  .str "FIGURES" "0123456789",
  .int "MANY_FIGURES" (9),
  .glo "number",
  .glo "numbers_of",
  .exc "Shared",
  .exm "Shared" "SeatError" true,
  .exc "NoSeat",
  .exm "NoSeat" "SeatError" true,
  .meth "Train" "need_seat",
  .meth "Train" "farthest",
  .glo "parts_of",
  .glo "read",
  .glo "_law_read",
  .free "bool",
  .glo "_law_whole",
  .glo "_law_numbers",
  .glo "_law_rows",
  .glo "law"]
def exL : PySem.W.Frag → Bool := fun K => excAll K
abbrev Tx (K : PySem.W.Frag) (mg : Str → Option Value) : Prop := Txt faL fnL exL K mg
section
variable {P : Program} {w : World} {K : PySem.W.Frag} {mg : Str → Option Value} {base : Heap}
theorem sc_Train_size : FnScope ["self"] ["self"] (defScope s_Train_size) := ⟨rfl, rfl, rfl, by decide +kernel, rfl, by decide +kernel, by decide +kernel⟩
theorem m_Train_size (T : Tx K mg) : Met P w K mg base 1 (He.ga K "Train") "size" (spSize K) := by
  refine T.met 0 4 5 rfl rfl rfl sc_Train_size (fun _ _ _ _ _ _ us hl => match us, hl with | [_], _ => rfl) (fun vs H Q E h => ?_) fun cdv A outer s H vs Q E hr h => ?_
  · first | (obtain ⟨_, rfl, _⟩ := h; rfl) | (obtain ⟨_, _, rfl, _⟩ := h; rfl) | (obtain ⟨_, _, _, rfl, _⟩ := h; rfl) | (obtain ⟨_, _, _, _, rfl, _⟩ := h; rfl) | (obtain ⟨_, _, _, _, _, rfl, _⟩ := h; rfl) | (obtain ⟨_, _, _, _, _, _, rfl, _⟩ := h; rfl) | (obtain ⟨_, _, _, _, _, _, _, rfl, _⟩ := h; rfl) | (obtain ⟨_, _, _, _, _, _, _, _, rfl, _⟩ := h; rfl) | (obtain ⟨_, _, _, _, _, _, _, _, _, rfl, _⟩ := h; rfl) | (obtain ⟨_, _, _, _, _, _, _, _, _, _, rfl, _⟩ := h; rfl) | (obtain ⟨_, _, _, _, _, _, _, _, _, _, _, rfl, _⟩ := h; rfl) | (obtain ⟨_, _, _, _, _, _, _, _, _, _, _, _, rfl, _⟩ := h; rfl) | (obtain ⟨_, _, _, _, _, _, _, _, _, _, _, _, _, rfl, _⟩ := h; rfl) | (obtain ⟨_, _, _, _, _, _, _, _, _, _, _, _, _, _, rfl, _⟩ := h; rfl) | (obtain ⟨_, _, _, _, _, _, _, _, _, _, _, _, _, _, _, rfl, _⟩ := h; rfl)
  · refine ⟨_, (pss_one (ps_ret (pe_tup (pa_cons (pe_callB (len_k K) (by rfl) (T.free 1) PySem.boot_len (pa_cons (fld_k K (pv 0) rfl) pa_nil)) (pa_cons (fld_k K (pv 0) rfl) pa_nil))))), ?_⟩
    obtain ⟨S, p, T0, rfl, A0, q⟩ := h
    obtain ⟨r, d, as, ls, R, _⟩ := A0
    obtain ⟨dx, hp⟩ := R.ins
    refine ⟨_, rfl, p, _, dx, _, _, rfl, hp, (T.cls 5), (T.noat 6), lk_rows, r, _, rfl, .inl (SqL.of R.grid.top), _, rfl, p, _, dx, _, _, rfl, hp, (T.cls 5), (T.noat 7), lk_stops, (by show 2 ≤ sizeLine; decide), fun t ht => ?_⟩
    have hl : ((as.map V.ref).length : Int) = (T0.rows.length : Int) := by rw [List.length_map, R.grid.row.len]
    have q2 := q t ht
    rw [← hl] at q2
    exact q2
theorem sc_Train_tickets : FnScope ["self"] ["self"] (defScope s_Train_tickets) := ⟨rfl, rfl, rfl, by decide +kernel, rfl, by decide +kernel, by decide +kernel⟩
theorem m_Train_tickets (T : Tx K mg) : Met P w K mg base 1 (He.ga K "Train") "tickets" (spTickets K) := by
  refine T.met 1 9 5 rfl rfl rfl sc_Train_tickets (fun _ _ _ _ _ _ us hl => match us, hl with | [_], _ => rfl) (fun vs H Q E h => ?_) fun cdv A outer s H vs Q E hr h => ?_
  · first | (obtain ⟨_, rfl, _⟩ := h; rfl) | (obtain ⟨_, _, rfl, _⟩ := h; rfl) | (obtain ⟨_, _, _, rfl, _⟩ := h; rfl) | (obtain ⟨_, _, _, _, rfl, _⟩ := h; rfl) | (obtain ⟨_, _, _, _, _, rfl, _⟩ := h; rfl) | (obtain ⟨_, _, _, _, _, _, rfl, _⟩ := h; rfl) | (obtain ⟨_, _, _, _, _, _, _, rfl, _⟩ := h; rfl) | (obtain ⟨_, _, _, _, _, _, _, _, rfl, _⟩ := h; rfl) | (obtain ⟨_, _, _, _, _, _, _, _, _, rfl, _⟩ := h; rfl) | (obtain ⟨_, _, _, _, _, _, _, _, _, _, rfl, _⟩ := h; rfl) | (obtain ⟨_, _, _, _, _, _, _, _, _, _, _, rfl, _⟩ := h; rfl) | (obtain ⟨_, _, _, _, _, _, _, _, _, _, _, _, rfl, _⟩ := h; rfl) | (obtain ⟨_, _, _, _, _, _, _, _, _, _, _, _, _, rfl, _⟩ := h; rfl) | (obtain ⟨_, _, _, _, _, _, _, _, _, _, _, _, _, _, rfl, _⟩ := h; rfl) | (obtain ⟨_, _, _, _, _, _, _, _, _, _, _, _, _, _, _, rfl, _⟩ := h; rfl)
  · refine ⟨_, (pss_one (ps_ret (pe_callB (cr_sortedD rfl) (by rfl) (T.free 8) (by decide +kernel) (pa_cons (fld_k K (pv 0) rfl) pa_nil)))), ?_⟩
    obtain ⟨S, p, T0, rfl, A0, q⟩ := h
    obtain ⟨r, d, as, ent, R, _⟩ := A0
    obtain ⟨dx, hp⟩ := R.ins
    refine ⟨_, rfl, p, _, dx, _, _, rfl, hp, (T.cls 5), (T.noat 10), lk_sold, d, _, T0.sold.map fun x => (x.1 : Int), rfl, .inl R.dict, ?_, fun ys l hperm hsort hl => ?_⟩
    · rw [R.sold]
      exact entD_keys ent
    · have e : ys = T0.sold.map fun x => (x.1 : Int) := sorted_is hperm hsort R.wf.rising
      have q2 := q l hl
      rw [e, List.map_map]
      exact q2
theorem sc_Train_parts : FnScope ["self", "ticket"] ["self", "ticket"] (defScope s_Train_parts) := ⟨rfl, rfl, rfl, by decide +kernel, rfl, by decide +kernel, by decide +kernel⟩
theorem m_Train_parts (T : Tx K mg) : Met P w K mg base 1 (He.ga K "Train") "parts" (spParts K) := by
  refine T.met 2 15 5 rfl rfl rfl sc_Train_parts (fun _ _ _ _ _ _ us hl => match us, hl with | [_, _], _ => rfl) (fun vs H Q E h => ?_) fun cdv A outer s H vs Q E hr h => ?_
  · first | (obtain ⟨_, rfl, _⟩ := h; rfl) | (obtain ⟨_, _, rfl, _⟩ := h; rfl) | (obtain ⟨_, _, _, rfl, _⟩ := h; rfl) | (obtain ⟨_, _, _, _, rfl, _⟩ := h; rfl) | (obtain ⟨_, _, _, _, _, rfl, _⟩ := h; rfl) | (obtain ⟨_, _, _, _, _, _, rfl, _⟩ := h; rfl) | (obtain ⟨_, _, _, _, _, _, _, rfl, _⟩ := h; rfl) | (obtain ⟨_, _, _, _, _, _, _, _, rfl, _⟩ := h; rfl) | (obtain ⟨_, _, _, _, _, _, _, _, _, rfl, _⟩ := h; rfl) | (obtain ⟨_, _, _, _, _, _, _, _, _, _, rfl, _⟩ := h; rfl) | (obtain ⟨_, _, _, _, _, _, _, _, _, _, _, rfl, _⟩ := h; rfl) | (obtain ⟨_, _, _, _, _, _, _, _, _, _, _, _, rfl, _⟩ := h; rfl) | (obtain ⟨_, _, _, _, _, _, _, _, _, _, _, _, _, rfl, _⟩ := h; rfl) | (obtain ⟨_, _, _, _, _, _, _, _, _, _, _, _, _, _, rfl, _⟩ := h; rfl) | (obtain ⟨_, _, _, _, _, _, _, _, _, _, _, _, _, _, _, rfl, _⟩ := h; rfl)
  · refine ⟨_, (pss_cons (ps_if (pt_cmp (pc_dnotin (hu_of hr) (pv 1) (fld_k K (pv 0) rfl)))
        (pss_one (ps_raise rfl (takes_of rfl rfl rfl rfl) (pmk_x T 11 12 rfl rfl)))
        pss_nil)
      (pss_one (ps_ret (pe_callTy (list_k K) (by rfl) (T.free 14) (by decide +kernel) (pa_cons (pe_dget (hu_of hr) (fld_k K (pv 0) rfl) (pv 1) (fun _ _ => rfl)) pa_nil))))), ?_⟩
    obtain ⟨S, p, T0, t, rfl, A0, q1, q2⟩ := h
    obtain ⟨r, d, as, ent, R, z⟩ := id A0
    obtain ⟨dx, hp⟩ := R.ins
    have hg : getS T0.sold t = (ent.find? fun x => decide ((x.1 : Int) = t)).map fun x => x.2.2 := by rw [R.sold, entS_get]
    refine ⟨_, rfl, _, rfl, p, _, dx, _, _, rfl, hp, (T.cls 5), (T.noat 10), lk_sold, d, _, rfl, DGet.k (k := Sum.inl t) R.dict, _, rfl, ?_⟩
    rw [entD_get]
    cases ef : ent.find? fun x => decide ((x.1 : Int) = t) with
    | none =>
      rw [ef] at hg
      exact iteT (q2 hg)
    | some x =>
      rw [ef] at hg
      obtain ⟨mx, ex⟩ := find_some ef
      obtain ⟨ts, hl, hP⟩ := R.prt x mx
      refine iteF ?_
      refine ⟨_, rfl, p, _, dx, _, _, rfl, hp, (T.cls 5), (T.noat 10), lk_sold, _, rfl, d, .ref x.2.1, rfl, ?_, x.2.1, _, rfl, .inl (SqL.of hl), fun l hl2 => ?_⟩
      · have := DGet.k (k := Sum.inl t) R.dict
        rw [entD_get, ef] at this
        exact this
      · have en := Evl.Ex.new (o := .lst (ts.map V.ref)) hl2
        exact q1 _ hg _ l en hl2 ⟨ts, upd_same, hP.mono fun _ _ z => en _ _ z⟩
theorem sc_written : FnScope ["train", "size", "rows", "ticket", "words", "part"] ["train"] (defScope s_written) := ⟨rfl, rfl, rfl, by decide +kernel, rfl, by decide +kernel, by decide +kernel⟩
theorem c_written (T : Tx K mg) : Cal P w K mg base 2 "written" (spWritten13 K) := by
  refine T.cal 3 16 rfl rfl sc_written (fun _ _ _ _ _ _ us hl => match us, hl with | [_], _ => rfl) (fun vs H Q E h => ?_) fun cdv A outer s H vs Q E hr h => ?_
  · first | (obtain ⟨_, rfl, _⟩ := h; rfl) | (obtain ⟨_, _, rfl, _⟩ := h; rfl) | (obtain ⟨_, _, _, rfl, _⟩ := h; rfl) | (obtain ⟨_, _, _, _, rfl, _⟩ := h; rfl) | (obtain ⟨_, _, _, _, _, rfl, _⟩ := h; rfl) | (obtain ⟨_, _, _, _, _, _, rfl, _⟩ := h; rfl) | (obtain ⟨_, _, _, _, _, _, _, rfl, _⟩ := h; rfl) | (obtain ⟨_, _, _, _, _, _, _, _, rfl, _⟩ := h; rfl) | (obtain ⟨_, _, _, _, _, _, _, _, _, rfl, _⟩ := h; rfl) | (obtain ⟨_, _, _, _, _, _, _, _, _, _, rfl, _⟩ := h; rfl) | (obtain ⟨_, _, _, _, _, _, _, _, _, _, _, rfl, _⟩ := h; rfl) | (obtain ⟨_, _, _, _, _, _, _, _, _, _, _, _, rfl, _⟩ := h; rfl) | (obtain ⟨_, _, _, _, _, _, _, _, _, _, _, _, _, rfl, _⟩ := h; rfl) | (obtain ⟨_, _, _, _, _, _, _, _, _, _, _, _, _, _, rfl, _⟩ := h; rfl) | (obtain ⟨_, _, _, _, _, _, _, _, _, _, _, _, _, _, _, rfl, _⟩ := h; rfl)
  · refine ⟨_, (pss_cons (ps_set (i := 1) sc_written.nd rfl (Or.inl rfl) (pe_m0 (m_Train_size T) hr pz (pv 0)))
      (pss_cons (ps_set (i := 2) sc_written.nd rfl (Or.inl rfl) (pe_lst (pa_cons (pe_op op_add_str (pe_op op_add_str (pe_op op_add_str (pe_op op_add_str (pe_op op_add_str pe_str (pe_callTy call_str_int (by rfl) (T.free 3) (by decide +kernel) (pa_cons (pe_ix (ix_t K) (pv 1) pe_int (fun _ _ => rfl)) pa_nil))) pe_str) (pe_callTy call_str_int (by rfl) (T.free 3) (by decide +kernel) (pa_cons (pe_ix (ix_t K) (pv 1) pe_int (fun _ _ => rfl)) pa_nil))) pe_str) (pe_callTy call_str_int (by rfl) (T.free 3) (by decide +kernel) (pa_cons (fld_k K (pv 0) rfl) pa_nil))) pa_nil)))
      (pss_cons (ps_for (passes_of rfl) rfl (pi_l K (pe_m0 (m_Train_tickets T) hr pz (pv 0))) (pg_name (i := 3) sc_written.nd rfl (Or.inl rfl))
        (pss_cons (ps_set (i := 4) sc_written.nd rfl (Or.inl rfl) (pe_lst (pa_cons pe_str (pa_cons (pe_callTy call_str_int (by rfl) (T.free 3) (by decide +kernel) (pa_cons (pv 3) pa_nil)) pa_nil))))
        (pss_cons (ps_for (passes_of rfl) rfl (pi_l K (pe_m (m_Train_parts T) hr pz (pv 0) (pa_cons (pv 3) pa_nil))) (pg_name (i := 5) sc_written.nd rfl (Or.inl rfl))
          (pss_one (ps_set (i := 4) sc_written.nd rfl (Or.inl rfl) (pe_op op_cat (pv 4) (pe_lst (pa_cons (pe_callTy call_str_int (by rfl) (T.free 3) (by decide +kernel) (pa_cons (pe_ix (ix_t K) (pv 5) pe_int (fun _ _ => rfl)) pa_nil)) (pa_cons (pe_callTy call_str_int (by rfl) (T.free 3) (by decide +kernel) (pa_cons (pe_ix (ix_t K) (pv 5) pe_int (fun _ _ => rfl)) pa_nil)) (pa_cons (pe_callTy call_str_int (by rfl) (T.free 3) (by decide +kernel) (pa_cons (pe_ix (ix_t K) (pv 5) pe_int (fun _ _ => rfl)) pa_nil)) pa_nil))))))))
        (pss_one (ps_expr (pe_bm PySem.F.plainAttrs_list PySem.F.slot_list_append PySem.F.type_list_append mt_append (pv 2) (pa_cons (pe_join pe_str (pv 4)) pa_nil)))))))
      (pss_one (ps_ret (pe_join pe_str (pv 2))))))), ?_⟩
    obtain ⟨S, p, T0, rfl, A0, G, hco, hmany, htx, q⟩ := h
    have wf := A0.wf
    have w1 := wf.s1
    have w2 := wf.s2
    have w3 := wf.t1
    have w4 := wf.t2
    have hkl := keys_len T0
    have sl : ∀ n, n ≤ 3000000 → n ≤ sizeLine := fun n h => Nat.le_trans h (by decide)
    have l1 := nT_len (n := T0.rows.length) (by omega)
    have l2 := nT_len (n := T0.stops) (by omega)
    have l3 := nT_len (n := T0.coming) (by omega)
    have ll : ∀ a b : Str, (a ++ b).length = a.length + b.length := fun a b => by rw [TL.len_tl, TL.tl_append, List.length_append, ← TL.len_tl, ← TL.len_tl]
    have lt : ("train " : Str).length = 6 := by decide +kernel
    have ls : (" " : Str).length = 1 := by decide +kernel
    (repeat fail "s")
    rename_i ts H1 nts e1 hts
    have l1 : (Str.ofString (toString ((T0.rows.length : Nat) : Int))).length ≤ 9 := l1
    have l2 : (Str.ofString (toString ((T0.stops : Nat) : Int))).length ≤ 9 := l2
    have l3 : (Str.ofString (toString ((T0.coming : Nat) : Int))).length ≤ 9 := l3
    refine ⟨_, rfl, log_ok (by omega), ?_⟩
    refine ⟨_, _, rfl, rfl, sl _ (by simp only [ll, lt, ls]; omega), ?_⟩
    (repeat fail "s")
    refine ⟨_, _, rfl, rfl, sl _ (by simp only [ll, lt, ls]; omega), ?_⟩
    (repeat fail "s")
    refine ⟨_, rfl, log_ok (by omega), ?_⟩
    refine ⟨_, _, rfl, rfl, sl _ (by simp only [ll, lt, ls]; omega), ?_⟩
    (repeat fail "s")
    refine ⟨_, _, rfl, rfl, sl _ (by simp only [ll, lt, ls]; omega), ?_⟩
    (repeat fail "s")
    have A1 := A0.ex e1
    obtain ⟨dx, r0, d0, hp1⟩ := A1.ins
    refine ⟨_, rfl, p, _, dx, _, _, rfl, hp1, (T.cls 5), (T.noat 17), lk_coming, ?_⟩
    refine ⟨_, rfl, log_ok (by omega), ?_⟩
    refine ⟨_, _, rfl, rfl, sl _ (by simp only [ll, lt, ls]; omega), ?_⟩
    rw [show ("train " : Str) ++ Str.ofString (toString ((T0.rows.length : Nat) : Int)) ++ " " ++ Str.ofString (toString ((T0.stops : Nat) : Int)) ++ " " ++ Str.ofString (toString ((T0.coming : Nat) : Int)) = Txt.join " " (headW T0) from head_text _ _ _]
    clear hp1
    (repeat fail "s")
    rename_i rw_ H2 nrw e2 hrw tk H3 ntk e3 htk
    have hkl2 : ((keys T0).map V.int).length = T0.sold.length := by rw [List.length_map, keys_len]
    (repeat fail "s")
    have nrwH : H rw_ = none := Evl.fresh_back e1 nrw
    have nrt : rw_ ≠ tk := ne_of_none hrw ntk
    refine fr_list (xs := (keys T0).map V.int) (fun i σ H' => ∃ (v3 v4 v5 : Option V), σ = [some (.ref p), some (.ref ts), some (.ref rw_), v3, v4, v5] ∧ Ex H H' ∧ H' tk = some (.lst ((keys T0).map V.int)) ∧ H' rw_ = some (.lst ((Txt.join " " (headW T0) :: (T0.sold.take i).map fun x => Txt.join " " (wordsT x)).map V.str)))
      ⟨_, _, _, rfl, e1.trans (e2.trans e3), htk, (by fail "t")⟩ (fun i σ H' _ ⟨_, _, _, _, _, h, _⟩ => SqL.of h) ?_ ?_
    · rintro i z σ H4 hz ⟨v3, v4, v5, rfl, x4, htk4, hrw4⟩
      obtain ⟨z, hz2, rfl⟩ := map_back hz
      have hi := lt_of_get hz
      rw [hkl2] at hi
      have hxi := List.getElem?_eq_getElem hi
      have mx := List.getElem_mem hi
      obtain ⟨x, hx⟩ : ∃ x, x = T0.sold[i] := ⟨_, rfl⟩
      rw [← hx] at hxi mx
      have hki : (keys T0)[i]? = some (x.1 : Int) := map_get hxi
      rw [hki] at hz2
      cases hz2
      have hg := getS_of wf.rising mx
      obtain ⟨b, e, hb, he, w⟩ := G.way x mx
      have hlow := G.low x mx
      have hlen := w.len
      have wl := words_len (x := x) (by omega) w w2 (by omega)
      have A4 := A0.ex x4
      (repeat fail "s")
      refine ⟨_, rfl, log_ok (by omega), ?_⟩
      (repeat fail "s")
      rename_i wd H5 nwd e5 hwd l H6 nl e6 hl
      have nwr : wd ≠ rw_ := (ne_of_none hrw4 nwd).symm
      refine fr_parts (ps := x.2) (Hb := H6) (fun j σ' H' => ∃ (wd : Addr) (v5 : Option V), σ' = [some (.ref p), some (.ref ts), some (.ref rw_), some (.int (x.1 : Int)), some (.ref wd), v5] ∧ wd ≠ rw_ ∧ Ex H6 H' ∧ H' wd = some (.lst ((("ticket" : Str) :: nT x.1 :: ((x.2.take j).map partW).flatten).map V.str))) hl
        ⟨wd, _, rfl, nwr, Evl.Ex.refl _, e6 _ _ hwd⟩ (fun j σ' H' _ ⟨_, _, _, _, e, _⟩ => KeepP.ex e) ?_ ?_
      · rintro j t c1 c2 c3 σ' H7 hj ht ⟨wd', v5, rfl, _, x7, hwd7⟩
        have hmq := w.mem _ (List.mem_of_getElem? hj)
        dsimp only at hmq
        have hjl := lt_of_get hj
        (repeat fail "s")
        refine ⟨_, rfl, log_ok (by omega), ?_⟩
        (repeat fail "s")
        refine ⟨_, rfl, log_ok (by omega), ?_⟩
        (repeat fail "s")
        refine ⟨_, rfl, log_ok (by omega), ?_⟩
        (repeat fail "s")
        rename_i u H8 nu e8 hu
        have hu : H8 u = some (.lst ((partW (c1, c2, c3)).map V.str)) := hu
        refine v_cat (e8 _ _ hwd7) hu (sl _ (by
          rw [List.length_map, List.length_map, List.length_cons, List.length_cons, flat_len, List.length_take]
          show _ + 3 ≤ _
          omega)) fun wd2 H9 n9 e9 h9 => ?_
        refine ⟨wd2, _, rfl, (ne_of_none (e8 _ _ (x7 _ _ (e6 _ _ (e5 _ _ hrw4)))) n9).symm, (x7.trans e8).trans e9, ?_⟩
        rw [h9, flat_snoc hj, ← List.map_append]
        rfl
      · rintro σ' H7 ⟨wd', v5, rfl, nwr', x7, hwd7⟩
        rw [List.take_length] at hwd7
        have hrw7 := x7 _ _ (e6 _ _ (e5 _ _ hrw4))
        have htk7 := x7 _ _ (e6 _ _ (e5 _ _ htk4))
        have hwd7 : H7 wd' = some (.lst ((wordsT x).map V.str)) := hwd7
        (repeat fail "s")
        refine ⟨_, _, wordsT x, rfl, rfl, .inl (SqL.of hwd7), ?_, ?_⟩
        · have := sum_len wl.1
          rw [ls, wl.2] at *
          omega
        refine s_nil ?_
        refine v_append hrw7 ?_ fun H8 c8 h8 => ?_
        · rw [List.length_map, List.length_cons, List.length_map, List.length_take]
          exact Nat.lt_of_lt_of_le (show _ < 3000000 by omega) (by decide)
        refine ⟨_, _, _, rfl, c8.ex (x4.trans (e5.trans (e6.trans x7))) nrwH, c8.keep _ _ nrt.symm htk7, ?_⟩
        rw [h8, take_snoc hxi, List.map_append, List.map_cons, List.map_cons, List.map_append]
        rfl
    · rintro σ H4 ⟨v3, v4, v5, rfl, x4, htk4, hrw4⟩
      rw [hkl2, List.take_length] at hrw4
      (repeat fail "s")
      refine ⟨_, _, _, rfl, rfl, .inl (SqL.of hrw4), ?_, ?_⟩
      · have h1 := join_length (y := "\n") (ps := Txt.join " " (headW T0) :: T0.sold.map fun x => Txt.join " " (wordsT x)) (by simp)
        have h2 : (Txt.join "\n" (Txt.join " " (headW T0) :: T0.sold.map fun x => Txt.join " " (wordsT x))).length ≤ 9000000 := htx
        rw [show ("\n" : Str).length = 1 by decide +kernel] at h1 ⊢
        omega
      exact q H4 x4
theorem sc_law_seats : FnScope ["_law_cell"] ["_law_cell"] (defScope s_law_seats) := ⟨rfl, rfl, rfl, by decide +kernel, rfl, by decide +kernel, by decide +kernel⟩
theorem c_law_seats (T : Tx K mg) : Cal P w K mg base 1 "_law_seats" spSeats := by
  refine T.cal 4 19 rfl rfl sc_law_seats (fun _ _ _ _ _ _ us hl => match us, hl with | [_], _ => rfl) (fun vs H Q E h => ?_) fun cdv A outer s H vs Q E hr h => ?_
  · first | (obtain ⟨_, rfl, _⟩ := h; rfl) | (obtain ⟨_, _, rfl, _⟩ := h; rfl) | (obtain ⟨_, _, _, rfl, _⟩ := h; rfl) | (obtain ⟨_, _, _, _, rfl, _⟩ := h; rfl) | (obtain ⟨_, _, _, _, _, rfl, _⟩ := h; rfl) | (obtain ⟨_, _, _, _, _, _, rfl, _⟩ := h; rfl) | (obtain ⟨_, _, _, _, _, _, _, rfl, _⟩ := h; rfl) | (obtain ⟨_, _, _, _, _, _, _, _, rfl, _⟩ := h; rfl) | (obtain ⟨_, _, _, _, _, _, _, _, _, rfl, _⟩ := h; rfl) | (obtain ⟨_, _, _, _, _, _, _, _, _, _, rfl, _⟩ := h; rfl) | (obtain ⟨_, _, _, _, _, _, _, _, _, _, _, rfl, _⟩ := h; rfl) | (obtain ⟨_, _, _, _, _, _, _, _, _, _, _, _, rfl, _⟩ := h; rfl) | (obtain ⟨_, _, _, _, _, _, _, _, _, _, _, _, _, rfl, _⟩ := h; rfl) | (obtain ⟨_, _, _, _, _, _, _, _, _, _, _, _, _, _, rfl, _⟩ := h; rfl) | (obtain ⟨_, _, _, _, _, _, _, _, _, _, _, _, _, _, _, rfl, _⟩ := h; rfl)
  · refine ⟨_, (pss_cons (ps_if (pt_cmpR op_eq (pe_op op_mod (pe_op op_fdiv (pv 0) pe_int) pe_int) pe_int (nomark _))
        (pss_one (ps_ret (pe_op op_add pe_int (pe_op op_mod (pe_op op_fdiv (pv 0) pe_int) pe_int))))
        pss_nil)
      (pss_cons (ps_if (pt_cmpR op_eq (pe_op op_mod (pe_op op_fdiv (pv 0) pe_int) pe_int) pe_int (nomark _))
        (pss_one (ps_ret (pe_op op_add pe_int (pe_op op_mod (pe_op op_fdiv (pv 0) pe_int) pe_int))))
        pss_nil)
      (pss_one (ps_ret (pe_op op_add pe_int (pe_op op_mod (pv 0) pe_int)))))), ?_⟩
    obtain ⟨c, rfl, q⟩ := h
    have qi : ∀ z : Int, 1 ≤ z → z ≤ 60 → Q (.int z) H := fun z h1 h2 => by
      have := q z.toNat (by omega) (by omega)
      rw [Int.toNat_of_nonneg (by omega)] at this
      exact this
    refine ⟨_, rfl, _, _, rfl, rfl, ⟨by decide, by decide⟩, _, _, rfl, rfl, (by show (0 : Int) < 8; decide), rfl, _, rfl, ?_⟩
    refine iteD (fun _ => ?_) (fun _ => ?_)
    · refine ⟨_, rfl, _, _, rfl, rfl, ⟨by decide, by decide⟩, _, _, rfl, rfl, (by show (0 : Int) < 11; decide), _, _, rfl, rfl, ?_⟩
      have h1 := Int.emod_nonneg (c / 40) (b := 11) (by decide)
      have h2 := Int.emod_lt_of_pos (c / 40) (b := 11) (by decide)
      exact qi _ (by omega) (by omega)
    refine ⟨_, rfl, _, _, rfl, rfl, ⟨by decide, by decide⟩, _, _, rfl, rfl, (by show (0 : Int) < 8; decide), rfl, _, rfl, ?_⟩
    refine iteD (fun _ => ?_) (fun _ => ?_)
    · refine ⟨_, rfl, _, _, rfl, rfl, ⟨by decide, by decide⟩, _, _, rfl, rfl, (by show (0 : Int) < 44; decide), _, _, rfl, rfl, ?_⟩
      have h1 := Int.emod_nonneg (c / 40) (b := 44) (by decide)
      have h2 := Int.emod_lt_of_pos (c / 40) (b := 44) (by decide)
      exact qi _ (by omega) (by omega)
    refine ⟨_, rfl, _, _, rfl, rfl, (by show (0 : Int) < 5; decide), _, _, rfl, rfl, ?_⟩
    have h1 := Int.emod_nonneg c (b := 5) (by decide)
    have h2 := Int.emod_lt_of_pos c (b := 5) (by decide)
    exact qi _ (by omega) (by omega)
theorem sc_law_cell_at : FnScope ["_law_script", "_law_k"] ["_law_script", "_law_k"] (defScope s_law_cell_at) := ⟨rfl, rfl, rfl, by decide +kernel, rfl, by decide +kernel, by decide +kernel⟩
theorem c_law_cell_at (T : Tx K mg) : Cal P w K mg base 1 "_law_cell_at" (spCellAt K) := by
  refine T.cal 5 20 rfl rfl sc_law_cell_at (fun _ _ _ _ _ _ us hl => match us, hl with | [_, _], _ => rfl) (fun vs H Q E h => ?_) fun cdv A outer s H vs Q E hr h => ?_
  · first | (obtain ⟨_, rfl, _⟩ := h; rfl) | (obtain ⟨_, _, rfl, _⟩ := h; rfl) | (obtain ⟨_, _, _, rfl, _⟩ := h; rfl) | (obtain ⟨_, _, _, _, rfl, _⟩ := h; rfl) | (obtain ⟨_, _, _, _, _, rfl, _⟩ := h; rfl) | (obtain ⟨_, _, _, _, _, _, rfl, _⟩ := h; rfl) | (obtain ⟨_, _, _, _, _, _, _, rfl, _⟩ := h; rfl) | (obtain ⟨_, _, _, _, _, _, _, _, rfl, _⟩ := h; rfl) | (obtain ⟨_, _, _, _, _, _, _, _, _, rfl, _⟩ := h; rfl) | (obtain ⟨_, _, _, _, _, _, _, _, _, _, rfl, _⟩ := h; rfl) | (obtain ⟨_, _, _, _, _, _, _, _, _, _, _, rfl, _⟩ := h; rfl) | (obtain ⟨_, _, _, _, _, _, _, _, _, _, _, _, rfl, _⟩ := h; rfl) | (obtain ⟨_, _, _, _, _, _, _, _, _, _, _, _, _, rfl, _⟩ := h; rfl) | (obtain ⟨_, _, _, _, _, _, _, _, _, _, _, _, _, _, rfl, _⟩ := h; rfl) | (obtain ⟨_, _, _, _, _, _, _, _, _, _, _, _, _, _, _, rfl, _⟩ := h; rfl)
  · refine ⟨_, (pss_cons (ps_if (pt_cmpR op_lt (pv 1) (pe_callB (len_k K) (by rfl) (T.free 1) PySem.boot_len (pa_cons (pv 0) pa_nil)) (nomark _))
        (pss_one (ps_ret (pe_ix (ix_l K) (pv 0) (pv 1) (fun _ _ => rfl))))
        pss_nil)
      (pss_one (ps_ret pe_int))), ?_⟩
    obtain ⟨a, ns, k, rfl, hS, q⟩ := h
    refine ⟨_, rfl, _, rfl, a, _, rfl, .inl hS, _, _, rfl, rfl, _, rfl, ?_⟩
    rw [List.length_map]
    refine iteD (fun h1 => ?_) (fun h1 => ?_)
    · have hk : k < ns.length := by omega
      have e := List.getElem?_eq_getElem hk
      refine ⟨_, rfl, _, rfl, a, _, _, _, rfl, rfl, hS, at_of rfl (map_get e), ?_⟩
      unfold cellAt at q
      rw [e] at q
      exact q
    · have hk : ns.length ≤ k := by omega
      unfold cellAt at q
      rw [List.getElem?_eq_none hk] at q
      exact q
theorem sc_law_stops : FnScope ["_law_cell"] ["_law_cell"] (defScope s_law_stops) := ⟨rfl, rfl, rfl, by decide +kernel, rfl, by decide +kernel, by decide +kernel⟩
theorem c_law_stops (T : Tx K mg) : Cal P w K mg base 1 "_law_stops" spStops := by
  refine T.cal 6 21 rfl rfl sc_law_stops (fun _ _ _ _ _ _ us hl => match us, hl with | [_], _ => rfl) (fun vs H Q E h => ?_) fun cdv A outer s H vs Q E hr h => ?_
  · first | (obtain ⟨_, rfl, _⟩ := h; rfl) | (obtain ⟨_, _, rfl, _⟩ := h; rfl) | (obtain ⟨_, _, _, rfl, _⟩ := h; rfl) | (obtain ⟨_, _, _, _, rfl, _⟩ := h; rfl) | (obtain ⟨_, _, _, _, _, rfl, _⟩ := h; rfl) | (obtain ⟨_, _, _, _, _, _, rfl, _⟩ := h; rfl) | (obtain ⟨_, _, _, _, _, _, _, rfl, _⟩ := h; rfl) | (obtain ⟨_, _, _, _, _, _, _, _, rfl, _⟩ := h; rfl) | (obtain ⟨_, _, _, _, _, _, _, _, _, rfl, _⟩ := h; rfl) | (obtain ⟨_, _, _, _, _, _, _, _, _, _, rfl, _⟩ := h; rfl) | (obtain ⟨_, _, _, _, _, _, _, _, _, _, _, rfl, _⟩ := h; rfl) | (obtain ⟨_, _, _, _, _, _, _, _, _, _, _, _, rfl, _⟩ := h; rfl) | (obtain ⟨_, _, _, _, _, _, _, _, _, _, _, _, _, rfl, _⟩ := h; rfl) | (obtain ⟨_, _, _, _, _, _, _, _, _, _, _, _, _, _, rfl, _⟩ := h; rfl) | (obtain ⟨_, _, _, _, _, _, _, _, _, _, _, _, _, _, _, rfl, _⟩ := h; rfl)
  · refine ⟨_, (pss_cons (ps_if (pt_cmpR op_eq (pe_op op_mod (pe_op op_fdiv (pv 0) pe_int) pe_int) pe_int (nomark _))
        (pss_one (ps_ret (pe_op op_add pe_int (pe_op op_mod (pe_op op_fdiv (pv 0) pe_int) pe_int))))
        pss_nil)
      (pss_cons (ps_if (pt_cmpR op_eq (pe_op op_mod (pe_op op_fdiv (pv 0) pe_int) pe_int) pe_int (nomark _))
        (pss_one (ps_ret (pe_op op_add pe_int (pe_op op_mod (pe_op op_fdiv (pv 0) pe_int) pe_int))))
        pss_nil)
      (pss_one (ps_ret (pe_op op_add pe_int (pe_op op_mod (pv 0) pe_int)))))), ?_⟩
    obtain ⟨c, rfl, q⟩ := h
    have qi : ∀ z : Int, 2 ≤ z → z ≤ 60 → Q (.int z) H := fun z h1 h2 => by
      have := q z.toNat (by omega) (by omega)
      rw [Int.toNat_of_nonneg (by omega)] at this
      exact this
    refine ⟨_, rfl, _, _, rfl, rfl, ⟨by decide, by decide⟩, _, _, rfl, rfl, (by show (0 : Int) < 8; decide), rfl, _, rfl, ?_⟩
    refine iteD (fun _ => ?_) (fun _ => ?_)
    · refine ⟨_, rfl, _, _, rfl, rfl, ⟨by decide, by decide⟩, _, _, rfl, rfl, (by show (0 : Int) < 11; decide), _, _, rfl, rfl, ?_⟩
      have h1 := Int.emod_nonneg (c / 64) (b := 11) (by decide)
      have h2 := Int.emod_lt_of_pos (c / 64) (b := 11) (by decide)
      exact qi _ (by omega) (by omega)
    refine ⟨_, rfl, _, _, rfl, rfl, ⟨by decide, by decide⟩, _, _, rfl, rfl, (by show (0 : Int) < 8; decide), rfl, _, rfl, ?_⟩
    refine iteD (fun _ => ?_) (fun _ => ?_)
    · refine ⟨_, rfl, _, _, rfl, rfl, ⟨by decide, by decide⟩, _, _, rfl, rfl, (by show (0 : Int) < 40; decide), _, _, rfl, rfl, ?_⟩
      have h1 := Int.emod_nonneg (c / 64) (b := 40) (by decide)
      have h2 := Int.emod_lt_of_pos (c / 64) (b := 40) (by decide)
      exact qi _ (by omega) (by omega)
    refine ⟨_, rfl, _, _, rfl, rfl, (by show (0 : Int) < 8; decide), _, _, rfl, rfl, ?_⟩
    have h1 := Int.emod_nonneg c (b := 8) (by decide)
    have h2 := Int.emod_lt_of_pos c (b := 8) (by decide)
    exact qi _ (by omega) (by omega)
theorem sc_Train_init : FnScope ["self", "seats", "stops", "seat"] ["self", "seats", "stops"] (defScope s_Train_init) := ⟨rfl, rfl, rfl, by decide +kernel, rfl, by decide +kernel, by decide +kernel⟩
theorem k_Train (T : Tx K mg) : Mak P w K mg base 1 "Train" (He.ga K "Train") (spInit K) := by
  refine T.mak 7 27 18 rfl rfl rfl sc_Train_init (fun _ _ _ _ _ _ us hl => match us, hl with | [_, _, _], _ => rfl) (fun vs H Q E h => ?_) fun cdv A outer s H vs Q E hr h => ?_
  · first | (obtain ⟨_, rfl, _⟩ := h; rfl) | (obtain ⟨_, _, rfl, _⟩ := h; rfl) | (obtain ⟨_, _, _, rfl, _⟩ := h; rfl) | (obtain ⟨_, _, _, _, rfl, _⟩ := h; rfl) | (obtain ⟨_, _, _, _, _, rfl, _⟩ := h; rfl) | (obtain ⟨_, _, _, _, _, _, rfl, _⟩ := h; rfl) | (obtain ⟨_, _, _, _, _, _, _, rfl, _⟩ := h; rfl) | (obtain ⟨_, _, _, _, _, _, _, _, rfl, _⟩ := h; rfl) | (obtain ⟨_, _, _, _, _, _, _, _, _, rfl, _⟩ := h; rfl) | (obtain ⟨_, _, _, _, _, _, _, _, _, _, rfl, _⟩ := h; rfl) | (obtain ⟨_, _, _, _, _, _, _, _, _, _, _, rfl, _⟩ := h; rfl) | (obtain ⟨_, _, _, _, _, _, _, _, _, _, _, _, rfl, _⟩ := h; rfl) | (obtain ⟨_, _, _, _, _, _, _, _, _, _, _, _, _, rfl, _⟩ := h; rfl) | (obtain ⟨_, _, _, _, _, _, _, _, _, _, _, _, _, _, rfl, _⟩ := h; rfl) | (obtain ⟨_, _, _, _, _, _, _, _, _, _, _, _, _, _, _, rfl, _⟩ := h; rfl)
  · refine ⟨_, (pss_cons (ps_if (PW.pt (pw_or (pt_not (pt_chain op_le op_le pe_int (pv 1) (pe_gi rfl (T.int 23)))) (pw_or1 (pt_not (pt_chain op_le op_le pe_int (pv 2) (pe_gi rfl (T.int 22)))))))
        (pss_one (ps_raise rfl (takes_of rfl rfl rfl rfl) (pmk_x T 24 25 rfl rfl)))
        pss_nil)
      (pss_cons (ps_fld (pv 0) (pv 2) rfl)
      (pss_cons (ps_fld (pv 0) (pe_lc (own := [("seat", 3)]) (g := gName 3) rfl sc_Train_init.nd (pi_range1 (by rfl) (T.free 2) (pa_cons (pv 1) pa_nil)) (blkOk_by (N := ["self", "seats", "stops", "seat"]) (sc := defScope s_Train_init) (by decide +kernel)) (fun _ _ _ _ _ => pg_name (i := 3) sc_Train_init.nd rfl (Or.inl rfl)) (fun _ _ _ _ _ => pts_nil) (fun _ _ _ _ _ => (pe_op op_rep (pe_lst (pa_cons pe_non pa_nil)) (pe_op op_sub (pv 2) pe_int)))) rfl)
      (pss_cons (ps_fld (pv 0) pe_dnewK rfl)
      (pss_one (ps_fld (pv 0) pe_int rfl)))))), ?_⟩
    obtain ⟨p, dx, a, b, rfl, hp, q1, q2⟩ := h
    refine ⟨_, rfl, _, _, rfl, rfl, _, rfl, ?_⟩
    refine iteD (fun h1 => ?_) (fun h1 => ?_)
    rotate_left
    · exact ⟨_, rfl, iteT (iteT (q2 fun z => h1 z.1))⟩
    refine ⟨_, _, rfl, rfl, _, rfl, ?_⟩
    refine iteN (fun h2 => ?_) (fun h2 => ?_)
    · exact iteT (q2 fun z => h2 z.2.1)
    refine ⟨_, rfl, _, _, rfl, rfl, _, rfl, ?_⟩
    refine iteD (fun h3 => ?_) (fun h3 => ?_)
    rotate_left
    · exact ⟨_, rfl, iteT (q2 fun z => h3 z.2.2.1)⟩
    refine ⟨_, _, rfl, rfl, _, rfl, ?_⟩
    refine iteN (fun h4 => ?_) (fun h4 => ?_)
    · exact q2 fun z => h4 z.2.2.2
    refine ⟨_, rfl, _, rfl, p, _, dx, _, rfl, hp, (T.cls 5), (T.noat 7), (by show 0 < 1000; decide), ?_⟩
    refine ⟨_, rfl, _, rfl, by omega, by omega, fun D hD => ?_⟩
    have hpD : p ≠ D := fun z => by
      rw [z, upd_same] at hD
      cases hD
    refine lc_new walk_range y_range hD (fun _ _ => trivial) (by omega) (fun _ => true) (fun _ o => o = .lst ((List.replicate (b.toNat - 1) (none : Option Nat)).map oV)) (fun _ => rfl) lc_yes ?_ ?_
    · rintro k x H2 hk rfl _ e2 hD2 Q2 q3
      refine ⟨by show 1 ≤ sizeLine; decide, fun l0 hl0 => ?_⟩
      refine ⟨_, rfl, _, _, rfl, rfl, _, _, _, rfl, rfl, upd_same, by omega, by omega, ?_, fun l1 hl1 => ?_⟩
      · show 1 * (b - 1).toNat ≤ sizeLine
        refine Nat.le_trans (m := 100) (by omega) (by decide)
      · have hb : (b - 1).toNat = b.toNat - 1 := by omega
        obtain ⟨n1, n2⟩ := fresh_upd hl1
        refine q3 l1 _ _ n2 (fun c o hc => ?_) upd_same ?_
        · rw [upd_ne (ne_of_none hc n2), upd_ne (ne_of_none hc hl0)]
          exact hc
        · rw [hb, rep_none]
    intro H3 as e3 hD3 nd fr hall
    rw [kept_all] at hall
    have hp3 := e3 _ _ (upd_same (H := H) (a := p) (o := .ins (He.ga K "Train") dx (putF "stops" (.int b) [])))
    refine ⟨_, rfl, p, _, dx, _, rfl, hp3, (T.cls 5), (T.noat 6), (by show 1 < 1000; decide), ?_⟩
    refine fun d hd => ?_
    obtain ⟨hdp, hd3⟩ := fresh_upd hd
    refine ⟨_, rfl, p, _, dx, _, rfl, (by rw [upd_ne hdp.symm]; exact upd_same), (T.cls 5), (T.noat 10), ?_, ?_⟩
    · refine Nat.lt_of_le_of_lt (putF_len _ _ _) ?_
      show 1 + 1 < 1000
      decide
    refine ⟨_, rfl, p, _, dx, _, rfl, upd_same, (T.cls 5), (T.noat 17), ?_, ?_⟩
    · refine Nat.lt_of_le_of_lt (putF_len _ _ _) ?_
      refine Nat.lt_of_le_of_lt (Nat.add_le_add_right (putF_len _ _ _) 1) ?_
      show 1 + 1 + 1 < 1000
      decide
    have hfs : putF "coming" (.int 0) (putF "sold" (.ref d) (putF "rows" (.ref D) (putF "stops" (.int b) []))) = trF b.toNat D d 0 := by
      have hb : (b.toNat : Int) = b := by omega
      rw [← put_all, hb]
      rfl
    have hnp : ∀ c ∈ as, c ≠ p := fun c m z => by
      have := (fr c m).1
      rw [z, upd_same] at this
      cases this
    have hnd : ∀ c ∈ as, c ≠ d := fun c m z => by
      obtain ⟨i, hi, e⟩ := List.mem_iff_getElem.mp m
      obtain ⟨_, _, o, eo, _⟩ := hall.right (i := i) (y := c) (by rw [List.getElem?_eq_getElem hi, e])
      rw [z, hd3] at eo
      cases eo
    have hDd : D ≠ d := fun z => by
      rw [z, hd3] at hD3
      cases hD3
    have hDp : D ≠ p := hpD.symm
    refine q1 ⟨h1, h2, h3, h4⟩ _ (fun c => c = p ∨ c = D ∨ c = d ∨ c ∈ as) (fun c o hc ho => ?_) (fun c hc => ?_) ?_
    · have h0 : upd H p (.ins (He.ga K "Train") dx (putF "stops" (.int b) [])) c = some o := by rw [upd_ne hc]; exact ho
      have h5 := e3 _ _ h0
      rw [upd_ne hc, upd_ne hc, upd_ne (ne_of_none h5 hd3), upd_ne hc]
      exact h5
    · rcases hc with hc | hc | hc | hc
      · exact .inl hc
      · rw [hc]
        exact .inr (fresh_upd hD).2
      · rw [hc]
        exact .inr (fresh_upd (Evl.fresh_back e3 hd3)).2
      · exact .inr (fresh_upd (fr c hc).1).2
    · refine ⟨D, d, as, [], ⟨Tr.new_wf (by omega) (by omega) (by omega) (by omega), ⟨dx, ?_⟩, ⟨?_, ?_⟩, nd, fun m => (fr D m).2 rfl, rfl, ?_, fun e m => (by cases m), fun e m => (by cases m)⟩, .inl rfl, .inr (.inl rfl), .inr (.inr (.inl rfl)), fun c m => .inr (.inr (.inr m)), fun e m => (by cases m)⟩
      · rw [upd_same, hfs]
        rfl
      · rw [upd_ne hDp, upd_ne hDp, upd_ne hDd, upd_ne hDp]
        exact hD3
      · have ha : (a - 0).toNat = a.toNat := by omega
        refine (all_rows (n := a.toNat) hall).monoM fun c row m _ r => ?_
        show _ = _
        rw [upd_ne (hnp c m), upd_ne (hnp c m), upd_ne (hnd c m), upd_ne (hnp c m)]
        exact r
      · rw [upd_ne hdp, upd_ne hdp, upd_same]
        rfl
theorem sc_law_laid : FnScope ["_law_seats_here", "_law_stops_here", "_law_far", "_law_deeds", "_law_leg", "_law_seat", "_law_whole_here"] ["_law_seats_here", "_law_stops_here", "_law_far"] (defScope s_law_laid) := ⟨rfl, rfl, rfl, by decide +kernel, rfl, by decide +kernel, by decide +kernel⟩
theorem c_law_laid (T : Tx K mg) : Cal P w K mg base 1 "_law_laid" (spLaid K) := by
  refine T.cal 8 28 rfl rfl sc_law_laid (fun _ _ _ _ _ _ us hl => match us, hl with | [_, _, _], _ => rfl) (fun vs H Q E h => ?_) fun cdv A outer s H vs Q E hr h => ?_
  · first | (obtain ⟨_, rfl, _⟩ := h; rfl) | (obtain ⟨_, _, rfl, _⟩ := h; rfl) | (obtain ⟨_, _, _, rfl, _⟩ := h; rfl) | (obtain ⟨_, _, _, _, rfl, _⟩ := h; rfl) | (obtain ⟨_, _, _, _, _, rfl, _⟩ := h; rfl) | (obtain ⟨_, _, _, _, _, _, rfl, _⟩ := h; rfl) | (obtain ⟨_, _, _, _, _, _, _, rfl, _⟩ := h; rfl) | (obtain ⟨_, _, _, _, _, _, _, _, rfl, _⟩ := h; rfl) | (obtain ⟨_, _, _, _, _, _, _, _, _, rfl, _⟩ := h; rfl) | (obtain ⟨_, _, _, _, _, _, _, _, _, _, rfl, _⟩ := h; rfl) | (obtain ⟨_, _, _, _, _, _, _, _, _, _, _, rfl, _⟩ := h; rfl) | (obtain ⟨_, _, _, _, _, _, _, _, _, _, _, _, rfl, _⟩ := h; rfl) | (obtain ⟨_, _, _, _, _, _, _, _, _, _, _, _, _, rfl, _⟩ := h; rfl) | (obtain ⟨_, _, _, _, _, _, _, _, _, _, _, _, _, _, rfl, _⟩ := h; rfl) | (obtain ⟨_, _, _, _, _, _, _, _, _, _, _, _, _, _, _, rfl, _⟩ := h; rfl)
  · refine ⟨_, (pss_cons (ps_set (i := 3) sc_law_laid.nd rfl (Or.inl rfl) (pe_lst pa_nil))
      (pss_cons (ps_for (passes_of rfl) rfl (pi_range1 (by rfl) (T.free 2) (pa_cons (pe_op op_sub (pv 1) pe_int) pa_nil)) (pg_name (i := 4) sc_law_laid.nd rfl (Or.inl rfl))
        (pss_one (ps_for (passes_of rfl) rfl (pi_range1 (by rfl) (T.free 2) (pa_cons (pv 0) pa_nil)) (pg_name (i := 5) sc_law_laid.nd rfl (Or.inl rfl))
          (pss_one (ps_expr (pe_bm PySem.F.plainAttrs_list PySem.F.slot_list_append PySem.F.type_list_append mt_append (pv 3) (pa_cons (pe_tup (pa_cons pe_str (pa_cons (pv 4) (pa_cons (pe_op op_add (pv 4) pe_int) pa_nil)))) pa_nil)))))))
      (pss_cons (ps_for (passes_of rfl) rfl (pi_range1 (by rfl) (T.free 2) (pa_cons (pe_op op_sub (pv 1) pe_int) pa_nil)) (pg_name (i := 4) sc_law_laid.nd rfl (Or.inl rfl))
        (pss_one (ps_expr (pe_bm PySem.F.plainAttrs_list PySem.F.slot_list_append PySem.F.type_list_append mt_append (pv 3) (pa_cons (pe_tup (pa_cons pe_str (pa_cons (pe_op op_add (pe_op op_mul (pv 4) (pv 0)) (pe_op op_mod (pe_op op_add (pe_op op_mul (pv 4) (pe_op op_add pe_int (pe_op op_mod (pv 2) pe_int))) (pe_op op_fdiv (pv 2) pe_int)) (pv 0))) (pa_cons pe_int pa_nil)))) pa_nil)))))
      (pss_cons (ps_set (i := 6) sc_law_laid.nd rfl (Or.inl rfl) (pe_op op_mul (pv 0) (pe_op op_sub (pv 1) pe_int)))
      (pss_one (ps_ret (pe_op op_cat (pv 3) (pe_lst (pa_cons (pe_tup (pa_cons pe_str (pa_cons (pe_op op_mod (pe_op op_fdiv (pv 2) pe_int) pe_int) (pa_cons (pe_op op_sub (pv 1) pe_int) pa_nil)))) (pa_cons (pe_tup (pa_cons pe_str (pa_cons (pv 6) (pa_cons (pe_op op_mod (pe_op op_fdiv (pv 2) pe_int) (pv 1)) pa_nil)))) (pa_cons (pe_tup (pa_cons pe_str (pa_cons (pv 6) (pa_cons pe_int pa_nil)))) pa_nil))))))))))), ?_⟩
    obtain ⟨seats, stops, far, rfl, h1, h2, h3, h4, h5, q⟩ := h
    have big : (400 : Nat) < sizeLine := by decide
    have tup3 : 3 ≤ sizeLine := by decide
    have pow64 : (1000 : Int) < 2 ^ 64 ∧ (-(2 ^ 64) : Int) < 0 := by decide
    refine ⟨Nat.zero_le _, fun l hl => ?_⟩
    refine ⟨_, rfl, _, _, rfl, rfl, _, rfl, by omega, by omega, for_range (lo := 0) (n := ((stops : Int) - 1).toNat) (fun i σ H' => ∃ (xs : List V) (v1 v2 v3 : Option V), σ = [some (.int seats), some (.int stops), some (.int far), some (.ref l), v1, v2, v3] ∧ Ex H H' ∧ H' l = some (.lst xs) ∧ xs.length ≤ i * seats ∧ ∀ v ∈ xs, IsCell H' v)
      ⟨[], none, none, none, rfl, Evl.Ex.new hl, upd_same, Nat.zero_le _, fun v m => (by cases m)⟩ ?_ ?_⟩
    · rintro i σ H' hi ⟨xs, v1, v2, v3, rfl, ex, hL, hlen, hc⟩
      have hmul : (i + 1) * seats ≤ (stops - 1) * seats := Nat.mul_le_mul_right _ (by omega)
      have hmul2 : (stops - 1) * seats + seats = seats * stops := by
        have : stops = (stops - 1) + 1 := by omega
        rw [Nat.mul_comm seats, this, Nat.add_sub_cancel, Nat.succ_mul]
      rw [Nat.succ_mul] at hmul
      refine ⟨_, rfl, _, rfl, by omega, by omega, for_range (lo := 0) (n := (seats : Int).toNat) (fun j σ H2 => ∃ (xs : List V) (v2 v3 : Option V), σ = [some (.int seats), some (.int stops), some (.int far), some (.ref l), some (.int (0 + (i : Int))), v2, v3] ∧ Ex H H2 ∧ H2 l = some (.lst xs) ∧ xs.length ≤ i * seats + j ∧ ∀ v ∈ xs, IsCell H2 v)
        ⟨xs, v2, v3, rfl, ex, hL, hlen, hc⟩ ?_ ?_⟩
      · rintro j σ H2 hj ⟨xs, v2, v3, rfl, ex2, hL2, hlen2, hc2⟩
        refine ⟨_, rfl, .inl ⟨rfl, _, SqL.of hL2⟩, ?_⟩
        refine ⟨_, rfl, _, rfl, _, _, rfl, rfl, tup3, fun t ft => ?_⟩
        have hlt : l ≠ t := ne_of_none hL2 ft
        have e5 := Evl.Ex.new (o := .tup [.str "sell", .int (0 + (i : Int)), .int (0 + (i : Int) + 1)]) ft
        refine ⟨l, _, _, rfl, rfl, by rw [upd_ne hlt]; exact hL2, by omega, ?_⟩
        refine ⟨xs ++ [.ref t], _, _, rfl, Evl.Ex.mut (ex2.trans e5) hl, upd_same, by rw [List.length_append, List.length_singleton]; omega, fun v m => ?_⟩
        have kt : ∀ a us, upd H2 t (.tup [.str "sell", .int (0 + (i : Int)), .int (0 + (i : Int) + 1)]) a = some (.tup us) → upd (upd H2 t (.tup [.str "sell", .int (0 + (i : Int)), .int (0 + (i : Int) + 1)])) l (.lst (xs ++ [.ref t])) a = some (.tup us) := fun a us ha => by
          rw [upd_ne (fun z : a = l => by rw [z, upd_ne hlt, hL2] at ha; cases ha)]
          exact ha
        rcases List.mem_append.mp m with m | m
        · exact ((hc2 v m).mono fun a us ha => e5 _ _ ha).mono kt
        · rw [List.mem_singleton.mp m]
          exact .inr ⟨t, ⟨.sell, _, _⟩, rfl, kt _ _ upd_same⟩
      · rintro σ H2 ⟨xs, v2, v3, rfl, ex2, hL2, hlen2, hc2⟩
        refine ⟨xs, _, _, _, rfl, ex2, hL2, ?_, hc2⟩
        rw [Nat.succ_mul]
        omega
    · rintro σ H' ⟨xs, v1, v2, v3, rfl, ex, hL, hlen, hc⟩
      have hst : ((stops : Int) - 1).toNat = stops - 1 := by omega
      rw [hst] at hlen
      have hmul2 : (stops - 1) * seats + seats = seats * stops := by
        have : stops = (stops - 1) + 1 := by omega
        rw [Nat.mul_comm seats, this, Nat.add_sub_cancel, Nat.succ_mul]
      refine ⟨_, rfl, _, _, rfl, rfl, _, rfl, by omega, by omega, for_range (lo := 0) (n := ((stops : Int) - 1).toNat) (fun i σ H2 => ∃ (xs : List V) (v1 v2 v3 : Option V), σ = [some (.int seats), some (.int stops), some (.int far), some (.ref l), v1, v2, v3] ∧ Ex H H2 ∧ H2 l = some (.lst xs) ∧ xs.length ≤ (stops - 1) * seats + i ∧ ∀ v ∈ xs, IsCell H2 v)
        ⟨xs, v1, v2, v3, rfl, ex, hL, hlen, hc⟩ ?_ ?_⟩
      · rintro j σ H2 hj ⟨xs, v1, v2, v3, rfl, ex2, hL2, hlen2, hc2⟩
        refine ⟨_, rfl, .inl ⟨rfl, _, SqL.of hL2⟩, ?_⟩
        refine ⟨_, rfl, _, rfl, _, _, rfl, rfl, .inl ⟨by omega, by omega⟩, _, rfl, _, rfl, _, _, rfl, rfl, (by show (0 : Int) < 3; decide), _, _, rfl, rfl, _, _, rfl, rfl, .inl ⟨by omega, by omega⟩, _, rfl, _, _, rfl, rfl, ⟨by decide, by decide⟩, _, _, rfl, rfl, _, rfl, _, _, rfl, rfl, (by show (0 : Int) < (seats : Int); omega), _, _, rfl, rfl, tup3, fun t ft => ?_⟩
        show ∃ _, _
        have hlt : l ≠ t := ne_of_none hL2 ft
        generalize hz : (fun i j => V.int (i + j)) ((0 + (j : Int)) * (seats : Int)) (((0 + (j : Int)) * (1 + far % 3) + far / 3) % (seats : Int)) = zv
        obtain ⟨z, rfl⟩ : ∃ z : Int, zv = .int z := ⟨_, hz.symm⟩
        have e5 := Evl.Ex.new (o := .tup [.str "back", .int z, .int 0]) ft
        refine ⟨l, _, _, rfl, rfl, by rw [upd_ne hlt]; exact hL2, by omega, ?_⟩
        refine ⟨xs ++ [.ref t], _, _, _, rfl, Evl.Ex.mut (ex2.trans e5) hl, upd_same, by rw [List.length_append, List.length_singleton]; omega, fun v m => ?_⟩
        have kt : ∀ a us, upd H2 t (.tup [.str "back", .int z, .int 0]) a = some (.tup us) → upd (upd H2 t (.tup [.str "back", .int z, .int 0])) l (.lst (xs ++ [.ref t])) a = some (.tup us) := fun a us ha => by
          rw [upd_ne (fun z : a = l => by rw [z, upd_ne hlt, hL2] at ha; cases ha)]
          exact ha
        rcases List.mem_append.mp m with m | m
        · exact ((hc2 v m).mono fun a us ha => e5 _ _ ha).mono kt
        · rw [List.mem_singleton.mp m]
          exact .inr ⟨t, ⟨.back, _, _⟩, rfl, kt _ _ upd_same⟩
      · rintro σ H2 ⟨xs, v1, v2, v3, rfl, ex2, hL2, hlen2, hc2⟩
        refine ⟨_, rfl, _, rfl, _, _, rfl, rfl, _, _, rfl, rfl, .inl ⟨by omega, by omega⟩, ?_⟩
        refine ⟨_, rfl, ?_⟩
        refine ⟨_, rfl, _, _, rfl, rfl, ⟨by decide, by decide⟩, _, _, rfl, rfl, (by show (0 : Int) < 2; decide), _, rfl, _, _, rfl, rfl, tup3, fun t1 f1 => ?_⟩
        refine ⟨_, rfl, _, rfl, _, _, rfl, rfl, ⟨by decide, by decide⟩, _, rfl, _, _, rfl, rfl, (by show (0 : Int) < (stops : Int); omega), tup3, fun t2 f2 => ?_⟩
        refine ⟨_, rfl, tup3, fun t3 f3 => ?_⟩
        refine ⟨tup3, fun l2 fl2 => ?_⟩
        have e1 := Evl.Ex.new (o := .tup [.str "sell", .int (far / 9 % 2), .int ((stops : Int) - 1)]) f1
        have e2 := Evl.Ex.new (o := .tup [.str "leave", .int ((seats : Int) * ((stops : Int) - 1)), .int (far / 18 % (stops : Int))]) f2
        have e3 := Evl.Ex.new (o := .tup [.str "reseat", .int ((seats : Int) * ((stops : Int) - 1)), .int 0]) f3
        have e4 := Evl.Ex.new (o := .lst [.ref t1, .ref t2, .ref t3]) fl2
        have E4 := e1.trans (e2.trans (e3.trans e4))
        refine ⟨l, l2, _, _, rfl, rfl, E4 _ _ hL2, upd_same, by show _ + 3 ≤ _; omega, fun l3 fl3 => ?_⟩
        have e5 := Evl.Ex.new (o := .lst (xs ++ [.ref t1, .ref t2, .ref t3])) fl3
        refine q _ l3 _ (ex2.trans (E4.trans e5)) (Evl.fresh_back (ex2.trans E4) fl3) upd_same (by rw [List.length_append]; show _ + 3 ≤ 400; omega) fun v m => ?_
        rcases List.mem_append.mp m with m | m
        · exact (hc2 v m).mono fun a us ha => (E4.trans e5) _ _ ha
        · simp only [List.mem_cons, List.not_mem_nil, or_false] at m
          rcases m with rfl | rfl | rfl
          · exact .inr ⟨t1, ⟨.sell, _, _⟩, rfl, (e2.trans (e3.trans (e4.trans e5))) _ _ upd_same⟩
          · exact .inr ⟨t2, ⟨.leave, _, _⟩, rfl, (e3.trans (e4.trans e5)) _ _ upd_same⟩
          · exact .inr ⟨t3, ⟨.reseat, _, _⟩, rfl, (e4.trans e5) _ _ upd_same⟩
theorem sc_law_cells : FnScope ["_law_script", "_law_far", "_law_seats_here", "_law_stops_here", "_law_k"] ["_law_script"] (defScope s_law_cells) := ⟨rfl, rfl, rfl, by decide +kernel, rfl, by decide +kernel, by decide +kernel⟩
theorem c_law_cells (T : Tx K mg) : Cal P w K mg base 2 "_law_cells" (spCells K) := by
  refine T.cal 9 29 rfl rfl sc_law_cells (fun _ _ _ _ _ _ us hl => match us, hl with | [_], _ => rfl) (fun vs H Q E h => ?_) fun cdv A outer s H vs Q E hr h => ?_
  · first | (obtain ⟨_, rfl, _⟩ := h; rfl) | (obtain ⟨_, _, rfl, _⟩ := h; rfl) | (obtain ⟨_, _, _, rfl, _⟩ := h; rfl) | (obtain ⟨_, _, _, _, rfl, _⟩ := h; rfl) | (obtain ⟨_, _, _, _, _, rfl, _⟩ := h; rfl) | (obtain ⟨_, _, _, _, _, _, rfl, _⟩ := h; rfl) | (obtain ⟨_, _, _, _, _, _, _, rfl, _⟩ := h; rfl) | (obtain ⟨_, _, _, _, _, _, _, _, rfl, _⟩ := h; rfl) | (obtain ⟨_, _, _, _, _, _, _, _, _, rfl, _⟩ := h; rfl) | (obtain ⟨_, _, _, _, _, _, _, _, _, _, rfl, _⟩ := h; rfl) | (obtain ⟨_, _, _, _, _, _, _, _, _, _, _, rfl, _⟩ := h; rfl) | (obtain ⟨_, _, _, _, _, _, _, _, _, _, _, _, rfl, _⟩ := h; rfl) | (obtain ⟨_, _, _, _, _, _, _, _, _, _, _, _, _, rfl, _⟩ := h; rfl) | (obtain ⟨_, _, _, _, _, _, _, _, _, _, _, _, _, _, rfl, _⟩ := h; rfl) | (obtain ⟨_, _, _, _, _, _, _, _, _, _, _, _, _, _, _, rfl, _⟩ := h; rfl)
  · refine ⟨_, (pss_cons (ps_set (i := 1) sc_law_cells.nd rfl (Or.inr rfl) (pe_c (c_law_cell_at T) hr pz (pa_cons (pv 0) (pa_cons pe_int pa_nil))))
      (pss_cons (ps_set (i := 2) sc_law_cells.nd rfl (Or.inl rfl) (pe_c (c_law_seats T) hr pz (pa_cons (pe_c (c_law_cell_at T) hr pz (pa_cons (pv 0) (pa_cons pe_int pa_nil))) pa_nil)))
      (pss_cons (ps_set (i := 3) sc_law_cells.nd rfl (Or.inl rfl) (pe_c (c_law_stops T) hr pz (pa_cons (pe_c (c_law_cell_at T) hr pz (pa_cons (pv 0) (pa_cons pe_int pa_nil))) pa_nil)))
      (pss_cons (ps_if (PW.pt (pw_and (pt_cmpR op_eq (pe_op op_mod (pv 1) pe_int) pe_int (nomark _)) (pw_and1 (pt_cmpR op_lt (pe_op op_mul (pv 2) (pv 3)) pe_int (nomark _)))))
        (pss_one (ps_ret (pe_op op_cat (pe_c (c_law_laid T) hr pz (pa_cons (pv 2) (pa_cons (pv 3) (pa_cons (pe_op op_fdiv (pv 1) pe_int) pa_nil)))) (pe_slice (sl_k K) (pv 0) (po_some pe_int) (po_some pe_int)))))
        pss_nil)
      (pss_cons (ps_if (PW.pt (pw_and (pt_cmpR op_eq (pe_op op_mod (pv 1) pe_int) pe_int (nomark _)) (pw_and1 (pt_cmpR op_lt (pe_op op_mul (pv 2) (pv 3)) pe_int (nomark _)))))
        (pss_one (ps_ret (pe_op op_cat (pe_lc (own := [("_law_k", 4)]) (g := gName 4) rfl sc_law_cells.nd (pi_range1 (by rfl) (T.free 2) (pa_cons (pe_op op_add pe_int (pe_op op_mod (pe_op op_fdiv (pv 1) pe_int) pe_int)) pa_nil)) (blkOk_by (N := ["_law_script", "_law_far", "_law_seats_here", "_law_stops_here", "_law_k"]) (sc := defScope s_law_cells) (by decide +kernel)) (fun _ _ _ _ _ => pg_name (i := 4) sc_law_cells.nd rfl (Or.inl rfl)) (fun _ _ _ _ _ => pts_nil) (fun _ _ _ _ _ => (pe_op op_add (pe_op op_fdiv (pv 1) pe_int) (pe_op op_mul pe_int (pv 4))))) (pe_slice (sl_k K) (pv 0) (po_some pe_int) (po_some pe_int)))))
        pss_nil)
      (pss_cons (ps_if (pt_cmpR op_eq (pe_op op_mod (pv 1) pe_int) pe_int (nomark _))
        (pss_one (ps_ret (pe_op op_cat (pe_lc (own := [("_law_k", 4)]) (g := gName 4) rfl sc_law_cells.nd (pi_range1 (by rfl) (T.free 2) (pa_cons (pe_op op_add pe_int (pe_op op_mod (pe_op op_fdiv (pv 1) pe_int) pe_int)) pa_nil)) (blkOk_by (N := ["_law_script", "_law_far", "_law_seats_here", "_law_stops_here", "_law_k"]) (sc := defScope s_law_cells) (by decide +kernel)) (fun _ _ _ _ _ => pg_name (i := 4) sc_law_cells.nd rfl (Or.inl rfl)) (fun _ _ _ _ _ => pts_nil) (fun _ _ _ _ _ => (pe_op op_mul pe_int (pe_op op_add (pe_op op_fdiv (pv 1) pe_int) (pe_op op_mul pe_int (pv 4)))))) (pe_slice (sl_k K) (pv 0) (po_some pe_int) (po_some pe_int)))))
        pss_nil)
      (pss_one (ps_ret (pe_slice (sl_k K) (pv 0) (po_some pe_int) (po_some pe_int)))))))))), ?_⟩
    obtain ⟨sa, ns, rfl, hS, hlen, q⟩ := h
    have big : (400 : Nat) + 100 < sizeLine := by decide
    have cutm : ∀ lo hi, ∀ v ∈ cutV (ns.map V.int) lo hi, ∃ i, v = V.int i := fun lo hi v m => by
      obtain ⟨i, _, rfl⟩ := List.mem_map.mp (cut_mem m)
      exact ⟨i, rfl⟩
    have cutl : ∀ lo hi, (cutV (ns.map V.int) lo hi).length ≤ 63 := fun lo hi => Nat.le_trans (cut_len _ _ _) (by rw [List.length_map]; exact hlen)
    refine ⟨_, rfl, sa, ns, 2, rfl, hS, ?_⟩
    generalize cellAt ns 2 = far
    refine ⟨_, rfl, sa, ns, 0, rfl, hS, _, rfl, fun n1 hn1 hn2 => ?_⟩
    refine ⟨_, rfl, sa, ns, 1, rfl, hS, _, rfl, fun n2 hn3 hn4 => ?_⟩
    refine ⟨_, rfl, _, _, rfl, rfl, (by show (0 : Int) < 4; decide), rfl, _, rfl, ?_⟩
    refine iteD (fun _ => ?_) (fun _ => iteF ?_)
    · refine ⟨_, rfl, _, rfl, _, _, rfl, rfl, .inl ⟨by omega, by omega⟩, _, _, rfl, rfl, _, rfl, ?_⟩
      refine iteD (fun hlt => ?_) (fun _ => ?_)
      · have hprod : n1 * n2 < 240 := by
          have h : ((n1 * n2 : Nat) : Int) < 240 := by
            rw [Int.natCast_mul]
            assumption
          omega
        refine ⟨_, rfl, _, rfl, _, rfl, _, _, rfl, rfl, ⟨by decide, by decide⟩, n1, n2, _, rfl, hn1, hn3, hn2, hn4, hprod, fun H1 l1 xs e1 fl1 hl1 hx hc => ?_⟩
        refine ⟨_, rfl, _, rfl, _, rfl, sa, _, rfl, sqL_ex hS e1, fun p fp => ?_⟩
        have e3 := Evl.Ex.new (o := .lst (cutV (ns.map V.int) (some 3) (some 40))) fp
        have hc3 := cutl (some 3) (some 40)
        refine ⟨l1, p, _, _, rfl, rfl, e3 _ _ hl1, upd_same, by omega, fun l fl => ?_⟩
        have e4 := Evl.Ex.new (o := .lst (xs ++ cutV (ns.map V.int) (some 3) (some 40))) fl
        refine q _ l _ (e1.trans (e3.trans e4)) (Evl.fresh_back (e1.trans e3) fl) ⟨upd_same, by rw [List.length_append]; omega, fun v m => ?_⟩
        rcases List.mem_append.mp m with m | m
        · exact (hc v m).mono fun a us ha => (e3.trans e4) _ _ ha
        · exact .inl (cutm _ _ v m)
      · refine ⟨_, rfl, _, _, rfl, rfl, (by show (0 : Int) < 8; decide), rfl, _, rfl, ?_⟩
        refine iteD (fun _ => ?_) (fun _ => iteF ?_)
        · refine ⟨_, rfl, _, rfl, _, _, rfl, rfl, .inl ⟨by omega, by omega⟩, _, _, rfl, rfl, _, rfl, ?_⟩
          refine iteD (fun _ => ?_) (fun _ => ?_)
          · have hm1 := Int.emod_nonneg (far / 8) (b := 90) (by decide)
            have hm2 := Int.emod_lt_of_pos (far / 8) (b := 90) (by decide)
            refine ⟨_, rfl, _, _, rfl, rfl, ⟨by decide, by decide⟩, _, _, rfl, rfl, (by show (0 : Int) < 90; decide), _, _, rfl, rfl, _, rfl, by omega, by omega, fun D hD => ?_⟩
            refine lc_v walk_range y_range hD (fun _ _ => trivial) (by omega) (fun _ => true) (fun k => .int (far / 8 + 17 * (0 + (k : Int)))) (fun _ => rfl) lc_yes ?_ ?_
            · rintro k x H2 hk rfl _ e2 Q2 q2
              exact ⟨_, rfl, _, _, rfl, rfl, ⟨by decide, by decide⟩, _, rfl, _, _, rfl, rfl, .inl ⟨by decide, by decide⟩, _, _, rfl, rfl, q2 H2 (Evl.Ex.refl H2)⟩
            · intro H2 e2 hD2
              rw [kept_all] at hD2
              refine ⟨_, rfl, _, rfl, _, rfl, sa, _, rfl, sqL_ex hS e2, fun p fp => ?_⟩
              have e3 := Evl.Ex.new (o := .lst (cutV (ns.map V.int) (some 3) (some 13))) fp
              have hc3 := cutl (some 3) (some 13)
              refine ⟨D, p, _, _, rfl, rfl, e3 _ _ hD2, upd_same, ?_, fun l fl => ?_⟩
              · rw [List.length_map, List.length_range]
                omega
              · have e4 := Evl.Ex.new (o := .lst (((List.range (60 + far / 8 % 90).toNat).map fun (k : Nat) => V.int (far / 8 + 17 * (0 + (k : Int)))) ++ cutV (ns.map V.int) (some 3) (some 13))) fl
                refine q _ l _ (e2.trans (e3.trans e4)) (Evl.fresh_back (e2.trans e3) fl) ⟨upd_same, ?_, fun v m => ?_⟩
                · rw [List.length_append, List.length_map, List.length_range]
                  omega
                · rcases List.mem_append.mp m with m | m
                  · obtain ⟨k, _, rfl⟩ := List.mem_map.mp m
                    exact .inl ⟨_, rfl⟩
                  · exact .inl (cutm _ _ v m)
          · refine ⟨_, rfl, _, _, rfl, rfl, (by show (0 : Int) < 8; decide), rfl, _, rfl, ?_⟩
            refine iteD (fun _ => ?_) (fun _ => ?_)
            · have hm1 := Int.emod_nonneg (far / 8) (b := 90) (by decide)
              have hm2 := Int.emod_lt_of_pos (far / 8) (b := 90) (by decide)
              refine ⟨_, rfl, _, _, rfl, rfl, ⟨by decide, by decide⟩, _, _, rfl, rfl, (by show (0 : Int) < 90; decide), _, _, rfl, rfl, _, rfl, by omega, by omega, fun D hD => ?_⟩
              refine lc_v walk_range y_range hD (fun _ _ => trivial) (by omega) (fun _ => true) (fun k => .int (9 * (far / 8 + 5 * (0 + (k : Int))))) (fun _ => rfl) lc_yes ?_ ?_
              · rintro k x H2 hk rfl _ e2 Q2 q2
                exact ⟨_, rfl, _, _, rfl, rfl, ⟨by decide, by decide⟩, _, rfl, _, _, rfl, rfl, .inl ⟨by decide, by decide⟩, _, _, rfl, rfl, _, _, rfl, rfl, .inl ⟨by decide, by decide⟩, q2 H2 (Evl.Ex.refl H2)⟩
              · intro H2 e2 hD2
                rw [kept_all] at hD2
                refine ⟨_, rfl, _, rfl, _, rfl, sa, _, rfl, sqL_ex hS e2, fun p fp => ?_⟩
                have e3 := Evl.Ex.new (o := .lst (cutV (ns.map V.int) (some 3) (some 13))) fp
                have hc3 := cutl (some 3) (some 13)
                refine ⟨D, p, _, _, rfl, rfl, e3 _ _ hD2, upd_same, ?_, fun l fl => ?_⟩
                · rw [List.length_map, List.length_range]
                  omega
                · have e4 := Evl.Ex.new (o := .lst (((List.range (60 + far / 8 % 90).toNat).map fun (k : Nat) => V.int (9 * (far / 8 + 5 * (0 + (k : Int))))) ++ cutV (ns.map V.int) (some 3) (some 13))) fl
                  refine q _ l _ (e2.trans (e3.trans e4)) (Evl.fresh_back (e2.trans e3) fl) ⟨upd_same, ?_, fun v m => ?_⟩
                  · rw [List.length_append, List.length_map, List.length_range]
                    omega
                  · rcases List.mem_append.mp m with m | m
                    · obtain ⟨k, _, rfl⟩ := List.mem_map.mp m
                      exact .inl ⟨_, rfl⟩
                    · exact .inl (cutm _ _ v m)
            · refine ⟨_, rfl, _, rfl, _, rfl, sa, _, rfl, hS, fun l fl => ?_⟩
              exact q _ l _ (Evl.Ex.new fl) fl ⟨upd_same, Nat.le_trans (cutl _ _) (by decide), fun v m => .inl (cutm _ _ v m)⟩
        · refine ⟨_, rfl, _, _, rfl, rfl, (by show (0 : Int) < 8; decide), rfl, _, rfl, ?_⟩
          refine iteD (fun _ => ?_) (fun _ => ?_)
          · have hm1 := Int.emod_nonneg (far / 8) (b := 90) (by decide)
            have hm2 := Int.emod_lt_of_pos (far / 8) (b := 90) (by decide)
            refine ⟨_, rfl, _, _, rfl, rfl, ⟨by decide, by decide⟩, _, _, rfl, rfl, (by show (0 : Int) < 90; decide), _, _, rfl, rfl, _, rfl, by omega, by omega, fun D hD => ?_⟩
            refine lc_v walk_range y_range hD (fun _ _ => trivial) (by omega) (fun _ => true) (fun k => .int (9 * (far / 8 + 5 * (0 + (k : Int))))) (fun _ => rfl) lc_yes ?_ ?_
            · rintro k x H2 hk rfl _ e2 Q2 q2
              exact ⟨_, rfl, _, _, rfl, rfl, ⟨by decide, by decide⟩, _, rfl, _, _, rfl, rfl, .inl ⟨by decide, by decide⟩, _, _, rfl, rfl, _, _, rfl, rfl, .inl ⟨by decide, by decide⟩, q2 H2 (Evl.Ex.refl H2)⟩
            · intro H2 e2 hD2
              rw [kept_all] at hD2
              refine ⟨_, rfl, _, rfl, _, rfl, sa, _, rfl, sqL_ex hS e2, fun p fp => ?_⟩
              have e3 := Evl.Ex.new (o := .lst (cutV (ns.map V.int) (some 3) (some 13))) fp
              have hc3 := cutl (some 3) (some 13)
              refine ⟨D, p, _, _, rfl, rfl, e3 _ _ hD2, upd_same, ?_, fun l fl => ?_⟩
              · rw [List.length_map, List.length_range]
                omega
              · have e4 := Evl.Ex.new (o := .lst (((List.range (60 + far / 8 % 90).toNat).map fun (k : Nat) => V.int (9 * (far / 8 + 5 * (0 + (k : Int))))) ++ cutV (ns.map V.int) (some 3) (some 13))) fl
                refine q _ l _ (e2.trans (e3.trans e4)) (Evl.fresh_back (e2.trans e3) fl) ⟨upd_same, ?_, fun v m => ?_⟩
                · rw [List.length_append, List.length_map, List.length_range]
                  omega
                · rcases List.mem_append.mp m with m | m
                  · obtain ⟨k, _, rfl⟩ := List.mem_map.mp m
                    exact .inl ⟨_, rfl⟩
                  · exact .inl (cutm _ _ v m)
          · refine ⟨_, rfl, _, rfl, _, rfl, sa, _, rfl, hS, fun l fl => ?_⟩
            exact q _ l _ (Evl.Ex.new fl) fl ⟨upd_same, Nat.le_trans (cutl _ _) (by decide), fun v m => .inl (cutm _ _ v m)⟩
    · refine ⟨_, rfl, _, _, rfl, rfl, (by show (0 : Int) < 8; decide), rfl, _, rfl, ?_⟩
      refine iteD (fun _ => ?_) (fun _ => iteF ?_)
      · refine ⟨_, rfl, _, rfl, _, _, rfl, rfl, .inl ⟨by omega, by omega⟩, _, _, rfl, rfl, _, rfl, ?_⟩
        refine iteD (fun _ => ?_) (fun _ => ?_)
        · have hm1 := Int.emod_nonneg (far / 8) (b := 90) (by decide)
          have hm2 := Int.emod_lt_of_pos (far / 8) (b := 90) (by decide)
          refine ⟨_, rfl, _, _, rfl, rfl, ⟨by decide, by decide⟩, _, _, rfl, rfl, (by show (0 : Int) < 90; decide), _, _, rfl, rfl, _, rfl, by omega, by omega, fun D hD => ?_⟩
          refine lc_v walk_range y_range hD (fun _ _ => trivial) (by omega) (fun _ => true) (fun k => .int (far / 8 + 17 * (0 + (k : Int)))) (fun _ => rfl) lc_yes ?_ ?_
          · rintro k x H2 hk rfl _ e2 Q2 q2
            exact ⟨_, rfl, _, _, rfl, rfl, ⟨by decide, by decide⟩, _, rfl, _, _, rfl, rfl, .inl ⟨by decide, by decide⟩, _, _, rfl, rfl, q2 H2 (Evl.Ex.refl H2)⟩
          · intro H2 e2 hD2
            rw [kept_all] at hD2
            refine ⟨_, rfl, _, rfl, _, rfl, sa, _, rfl, sqL_ex hS e2, fun p fp => ?_⟩
            have e3 := Evl.Ex.new (o := .lst (cutV (ns.map V.int) (some 3) (some 13))) fp
            have hc3 := cutl (some 3) (some 13)
            refine ⟨D, p, _, _, rfl, rfl, e3 _ _ hD2, upd_same, ?_, fun l fl => ?_⟩
            · rw [List.length_map, List.length_range]
              omega
            · have e4 := Evl.Ex.new (o := .lst (((List.range (60 + far / 8 % 90).toNat).map fun (k : Nat) => V.int (far / 8 + 17 * (0 + (k : Int)))) ++ cutV (ns.map V.int) (some 3) (some 13))) fl
              refine q _ l _ (e2.trans (e3.trans e4)) (Evl.fresh_back (e2.trans e3) fl) ⟨upd_same, ?_, fun v m => ?_⟩
              · rw [List.length_append, List.length_map, List.length_range]
                omega
              · rcases List.mem_append.mp m with m | m
                · obtain ⟨k, _, rfl⟩ := List.mem_map.mp m
                  exact .inl ⟨_, rfl⟩
                · exact .inl (cutm _ _ v m)
        · refine ⟨_, rfl, _, _, rfl, rfl, (by show (0 : Int) < 8; decide), rfl, _, rfl, ?_⟩
          refine iteD (fun _ => ?_) (fun _ => ?_)
          · have hm1 := Int.emod_nonneg (far / 8) (b := 90) (by decide)
            have hm2 := Int.emod_lt_of_pos (far / 8) (b := 90) (by decide)
            refine ⟨_, rfl, _, _, rfl, rfl, ⟨by decide, by decide⟩, _, _, rfl, rfl, (by show (0 : Int) < 90; decide), _, _, rfl, rfl, _, rfl, by omega, by omega, fun D hD => ?_⟩
            refine lc_v walk_range y_range hD (fun _ _ => trivial) (by omega) (fun _ => true) (fun k => .int (9 * (far / 8 + 5 * (0 + (k : Int))))) (fun _ => rfl) lc_yes ?_ ?_
            · rintro k x H2 hk rfl _ e2 Q2 q2
              exact ⟨_, rfl, _, _, rfl, rfl, ⟨by decide, by decide⟩, _, rfl, _, _, rfl, rfl, .inl ⟨by decide, by decide⟩, _, _, rfl, rfl, _, _, rfl, rfl, .inl ⟨by decide, by decide⟩, q2 H2 (Evl.Ex.refl H2)⟩
            · intro H2 e2 hD2
              rw [kept_all] at hD2
              refine ⟨_, rfl, _, rfl, _, rfl, sa, _, rfl, sqL_ex hS e2, fun p fp => ?_⟩
              have e3 := Evl.Ex.new (o := .lst (cutV (ns.map V.int) (some 3) (some 13))) fp
              have hc3 := cutl (some 3) (some 13)
              refine ⟨D, p, _, _, rfl, rfl, e3 _ _ hD2, upd_same, ?_, fun l fl => ?_⟩
              · rw [List.length_map, List.length_range]
                omega
              · have e4 := Evl.Ex.new (o := .lst (((List.range (60 + far / 8 % 90).toNat).map fun (k : Nat) => V.int (9 * (far / 8 + 5 * (0 + (k : Int))))) ++ cutV (ns.map V.int) (some 3) (some 13))) fl
                refine q _ l _ (e2.trans (e3.trans e4)) (Evl.fresh_back (e2.trans e3) fl) ⟨upd_same, ?_, fun v m => ?_⟩
                · rw [List.length_append, List.length_map, List.length_range]
                  omega
                · rcases List.mem_append.mp m with m | m
                  · obtain ⟨k, _, rfl⟩ := List.mem_map.mp m
                    exact .inl ⟨_, rfl⟩
                  · exact .inl (cutm _ _ v m)
          · refine ⟨_, rfl, _, rfl, _, rfl, sa, _, rfl, hS, fun l fl => ?_⟩
            exact q _ l _ (Evl.Ex.new fl) fl ⟨upd_same, Nat.le_trans (cutl _ _) (by decide), fun v m => .inl (cutm _ _ v m)⟩
      · refine ⟨_, rfl, _, _, rfl, rfl, (by show (0 : Int) < 8; decide), rfl, _, rfl, ?_⟩
        refine iteD (fun _ => ?_) (fun _ => ?_)
        · have hm1 := Int.emod_nonneg (far / 8) (b := 90) (by decide)
          have hm2 := Int.emod_lt_of_pos (far / 8) (b := 90) (by decide)
          refine ⟨_, rfl, _, _, rfl, rfl, ⟨by decide, by decide⟩, _, _, rfl, rfl, (by show (0 : Int) < 90; decide), _, _, rfl, rfl, _, rfl, by omega, by omega, fun D hD => ?_⟩
          refine lc_v walk_range y_range hD (fun _ _ => trivial) (by omega) (fun _ => true) (fun k => .int (9 * (far / 8 + 5 * (0 + (k : Int))))) (fun _ => rfl) lc_yes ?_ ?_
          · rintro k x H2 hk rfl _ e2 Q2 q2
            exact ⟨_, rfl, _, _, rfl, rfl, ⟨by decide, by decide⟩, _, rfl, _, _, rfl, rfl, .inl ⟨by decide, by decide⟩, _, _, rfl, rfl, _, _, rfl, rfl, .inl ⟨by decide, by decide⟩, q2 H2 (Evl.Ex.refl H2)⟩
          · intro H2 e2 hD2
            rw [kept_all] at hD2
            refine ⟨_, rfl, _, rfl, _, rfl, sa, _, rfl, sqL_ex hS e2, fun p fp => ?_⟩
            have e3 := Evl.Ex.new (o := .lst (cutV (ns.map V.int) (some 3) (some 13))) fp
            have hc3 := cutl (some 3) (some 13)
            refine ⟨D, p, _, _, rfl, rfl, e3 _ _ hD2, upd_same, ?_, fun l fl => ?_⟩
            · rw [List.length_map, List.length_range]
              omega
            · have e4 := Evl.Ex.new (o := .lst (((List.range (60 + far / 8 % 90).toNat).map fun (k : Nat) => V.int (9 * (far / 8 + 5 * (0 + (k : Int))))) ++ cutV (ns.map V.int) (some 3) (some 13))) fl
              refine q _ l _ (e2.trans (e3.trans e4)) (Evl.fresh_back (e2.trans e3) fl) ⟨upd_same, ?_, fun v m => ?_⟩
              · rw [List.length_append, List.length_map, List.length_range]
                omega
              · rcases List.mem_append.mp m with m | m
                · obtain ⟨k, _, rfl⟩ := List.mem_map.mp m
                  exact .inl ⟨_, rfl⟩
                · exact .inl (cutm _ _ v m)
        · refine ⟨_, rfl, _, rfl, _, rfl, sa, _, rfl, hS, fun l fl => ?_⟩
          exact q _ l _ (Evl.Ex.new fl) fl ⟨upd_same, Nat.le_trans (cutl _ _) (by decide), fun v m => .inl (cutm _ _ v m)⟩
theorem sc_law_mixed : FnScope ["_law_cell", "_law_k", "_law_many", "_law_some", "_law_made"] ["_law_cell", "_law_k", "_law_many"] (defScope s_law_mixed) := ⟨rfl, rfl, rfl, by decide +kernel, rfl, by decide +kernel, by decide +kernel⟩
theorem c_law_mixed (T : Tx K mg) : Cal P w K mg base 1 "_law_mixed" spMixed := by
  refine T.cal 10 32 rfl rfl sc_law_mixed (fun _ _ _ _ _ _ us hl => match us, hl with | [_, _, _], _ => rfl) (fun vs H Q E h => ?_) fun cdv A outer s H vs Q E hr h => ?_
  · first | (obtain ⟨_, rfl, _⟩ := h; rfl) | (obtain ⟨_, _, rfl, _⟩ := h; rfl) | (obtain ⟨_, _, _, rfl, _⟩ := h; rfl) | (obtain ⟨_, _, _, _, rfl, _⟩ := h; rfl) | (obtain ⟨_, _, _, _, _, rfl, _⟩ := h; rfl) | (obtain ⟨_, _, _, _, _, _, rfl, _⟩ := h; rfl) | (obtain ⟨_, _, _, _, _, _, _, rfl, _⟩ := h; rfl) | (obtain ⟨_, _, _, _, _, _, _, _, rfl, _⟩ := h; rfl) | (obtain ⟨_, _, _, _, _, _, _, _, _, rfl, _⟩ := h; rfl) | (obtain ⟨_, _, _, _, _, _, _, _, _, _, rfl, _⟩ := h; rfl) | (obtain ⟨_, _, _, _, _, _, _, _, _, _, _, rfl, _⟩ := h; rfl) | (obtain ⟨_, _, _, _, _, _, _, _, _, _, _, _, rfl, _⟩ := h; rfl) | (obtain ⟨_, _, _, _, _, _, _, _, _, _, _, _, _, rfl, _⟩ := h; rfl) | (obtain ⟨_, _, _, _, _, _, _, _, _, _, _, _, _, _, rfl, _⟩ := h; rfl) | (obtain ⟨_, _, _, _, _, _, _, _, _, _, _, _, _, _, _, rfl, _⟩ := h; rfl)
  · refine ⟨_, (pss_cons (ps_set (i := 3) sc_law_mixed.nd rfl (Or.inl rfl) (pe_lst (pa_cons pe_int (pa_cons pe_int (pa_cons pe_int (pa_cons pe_int (pa_cons pe_int (pa_cons pe_int (pa_cons pe_int (pa_cons pe_int (pa_cons pe_int (pa_cons pe_int (pa_cons pe_int pa_nil)))))))))))))
      (pss_cons (ps_set (i := 4) sc_law_mixed.nd rfl (Or.inl rfl) (pe_op op_mod (pe_op op_mul (pe_op op_add (pv 0) (pe_op op_mul pe_int (pv 1))) pe_int) (pe_ix (ix_l K) (pv 3) (pe_op op_mod (pv 1) pe_int) (fun _ _ => rfl))))
      (pss_one (ps_ret (pe_op op_mod (pe_op op_mod (pe_op op_add (pe_op op_add (pe_op op_mul (pe_op op_mul (pv 4) (pv 4)) pe_int) (pv 4)) (pv 1)) pe_int) (pv 2)))))), ?_⟩
    obtain ⟨c, k, m, rfl, hm, q⟩ := h
    refine ⟨by show 11 ≤ sizeLine; decide, fun l hl => ?_⟩
    have hk : 0 ≤ k % 11 ∧ k % 11 < 11 := ⟨Int.emod_nonneg _ (by decide), Int.emod_lt_of_pos _ (by decide)⟩
    have key : ∀ (ms : List Int) (xs : List V), xs = ms.map V.int → ms.length = 11 → (∀ x ∈ ms, 0 < x ∧ x < 100000) → ∃ v, atI xs (k % 11) = some (.int v) ∧ 0 < v ∧ v < 100000 := fun ms xs ex hl hb => by
      have hj : (k % 11).toNat < ms.length := by omega
      exact ⟨ms[(k % 11).toNat], at_of (j := (k % 11).toNat) (by omega) (by rw [ex]; exact map_get (List.getElem?_eq_getElem hj)), hb _ (List.getElem_mem hj)⟩
    obtain ⟨v, hv, hv1, hv2⟩ := key [99991, 99989, 99971, 99961, 99929, 99923, 99907, 99901, 99881, 99877, 99871] _ rfl rfl (by decide)
    have hd : 0 ≤ (c + 7 * k) * 48271 % v ∧ (c + 7 * k) * 48271 % v < v := ⟨Int.emod_nonneg _ (by omega), Int.emod_lt_of_pos _ hv1⟩
    refine ⟨_, rfl, _, rfl, _, _, rfl, rfl, .inl ⟨by decide, by decide⟩, _, _, rfl, rfl, _, _, rfl, rfl, .inr ⟨by decide, by decide⟩, _, rfl, _, rfl, _, _, rfl, rfl, (by show (0 : Int) < 11; decide), l, _, _, _, rfl, rfl, SqL.of upd_same, hv, _, _, rfl, rfl, hv1, ?_⟩
    refine ⟨_, rfl, _, rfl, _, _, rfl, rfl, .inl ⟨?_, ?_⟩, _, _, rfl, rfl, .inr ⟨by decide, by decide⟩, _, rfl, _, _, rfl, rfl, _, rfl, _, _, rfl, rfl, _, _, rfl, rfl, (by show (0 : Int) < 1000003; decide), _, rfl, _, _, rfl, rfl, hm, ?_⟩
    · have : (-(2 ^ 64) : Int) < 0 := by decide
      omega
    · have : (100000 : Int) < 2 ^ 64 := by decide
      omega
    · have hz : ∀ z : Int, 0 ≤ z % 1000003 % m ∧ z % 1000003 % m < m := fun z => ⟨Int.emod_nonneg _ (by omega), Int.emod_lt_of_pos _ hm⟩
      have fin : ∀ z : Int, 0 ≤ z ∧ z < m → Q (.int z) (upd H l (.lst [.int 99991, .int 99989, .int 99971, .int 99961, .int 99929, .int 99923, .int 99907, .int 99901, .int 99881, .int 99877, .int 99871])) := fun z hz => by
        have := q z.toNat _ (by omega) (Evl.Ex.new (o := .lst [.int 99991, .int 99989, .int 99971, .int 99961, .int 99929, .int 99923, .int 99907, .int 99901, .int 99881, .int 99877, .int 99871]) hl)
        rw [Int.toNat_of_nonneg hz.1] at this
        exact this
      exact fin _ (hz _)
theorem sc_law_stretch_by : FnScope ["_law_cell", "_law_stops_here", "_law_begin", "_law_end"] ["_law_cell", "_law_stops_here"] (defScope s_law_stretch_by) := ⟨rfl, rfl, rfl, by decide +kernel, rfl, by decide +kernel, by decide +kernel⟩
theorem c_law_stretch_by (T : Tx K mg) : Cal P w K mg base 2 "_law_stretch_by" spStretchBy := by
  refine T.cal 11 34 rfl rfl sc_law_stretch_by (fun _ _ _ _ _ _ us hl => match us, hl with | [_, _], _ => rfl) (fun vs H Q E h => ?_) fun cdv A outer s H vs Q E hr h => ?_
  · first | (obtain ⟨_, rfl, _⟩ := h; rfl) | (obtain ⟨_, _, rfl, _⟩ := h; rfl) | (obtain ⟨_, _, _, rfl, _⟩ := h; rfl) | (obtain ⟨_, _, _, _, rfl, _⟩ := h; rfl) | (obtain ⟨_, _, _, _, _, rfl, _⟩ := h; rfl) | (obtain ⟨_, _, _, _, _, _, rfl, _⟩ := h; rfl) | (obtain ⟨_, _, _, _, _, _, _, rfl, _⟩ := h; rfl) | (obtain ⟨_, _, _, _, _, _, _, _, rfl, _⟩ := h; rfl) | (obtain ⟨_, _, _, _, _, _, _, _, _, rfl, _⟩ := h; rfl) | (obtain ⟨_, _, _, _, _, _, _, _, _, _, rfl, _⟩ := h; rfl) | (obtain ⟨_, _, _, _, _, _, _, _, _, _, _, rfl, _⟩ := h; rfl) | (obtain ⟨_, _, _, _, _, _, _, _, _, _, _, _, rfl, _⟩ := h; rfl) | (obtain ⟨_, _, _, _, _, _, _, _, _, _, _, _, _, rfl, _⟩ := h; rfl) | (obtain ⟨_, _, _, _, _, _, _, _, _, _, _, _, _, _, rfl, _⟩ := h; rfl) | (obtain ⟨_, _, _, _, _, _, _, _, _, _, _, _, _, _, _, rfl, _⟩ := h; rfl)
  · refine ⟨_, (pss_cons (ps_set (i := 2) sc_law_stretch_by.nd rfl (Or.inl rfl) (pe_c (c_law_mixed T) hr pz (pa_cons (pv 0) (pa_cons pe_int (pa_cons (pe_op op_sub (pv 1) pe_int) pa_nil)))))
      (pss_cons (ps_if (pt_cmpR op_eq (pe_op op_mod (pe_op op_fdiv (pv 0) pe_int) pe_int) pe_int (nomark _))
        (pss_one (ps_set (i := 2) sc_law_stretch_by.nd rfl (Or.inl rfl) pe_int))
        pss_nil)
      (pss_cons (ps_set (i := 3) sc_law_stretch_by.nd rfl (Or.inl rfl) (pe_op op_add (pe_op op_add (pv 2) pe_int) (pe_c (c_law_mixed T) hr pz (pa_cons (pv 0) (pa_cons pe_int (pa_cons (pe_op op_sub (pe_op op_sub (pv 1) pe_int) (pv 2)) pa_nil))))))
      (pss_cons (ps_if (pt_cmpR op_eq (pe_op op_mod (pe_op op_fdiv (pv 0) pe_int) pe_int) pe_int (nomark _))
        (pss_one (ps_set (i := 3) sc_law_stretch_by.nd rfl (Or.inl rfl) (pe_callB (call_min2 rfl) (by rfl) (T.free 33) (by decide +kernel) (pa_cons (pe_op op_add (pe_op op_add (pv 2) pe_int) (pe_op op_mod (pe_op op_fdiv (pv 0) pe_int) pe_int)) (pa_cons (pe_op op_sub (pv 1) pe_int) pa_nil)))))
        pss_nil)
      (pss_one (ps_ret (pe_tup (pa_cons (pv 2) (pa_cons (pv 3) pa_nil))))))))), ?_⟩
    obtain ⟨c, n, rfl, hn, q⟩ := h
    have fin : ∀ (z e : Int) H2, Ex H H2 → 0 ≤ z → z < e → e < n → (2 ≤ sizeLine ∧ ∀ t, H2 t = none → Q (.ref t) (upd H2 t (.tup [.int z, .int e]))) := fun z e H2 e2 h1 h2 h3 => ⟨by decide, fun t ft => by
      have e4 := Evl.Ex.new (o := .tup [.int z, .int e]) ft
      have ez : ((z.toNat : Nat) : Int) = z := by omega
      have ee : ((e.toNat : Nat) : Int) = e := by omega
      exact q _ t z.toNat e.toNat (e2.trans e4) (by rw [ez, ee]; exact upd_same) (by omega) (by omega)⟩
    have h3 := Int.emod_nonneg (c / 81) (b := 3) (by decide)
    have h4 := Int.emod_lt_of_pos (c / 81) (b := 3) (by decide)
    refine ⟨_, rfl, _, rfl, _, _, rfl, rfl, c, 1, (n : Int) - 1, rfl, by omega, fun b H1 hb e1 => ?_⟩
    refine ⟨_, rfl, _, _, rfl, rfl, ⟨by decide, by decide⟩, _, _, rfl, rfl, (by show (0 : Int) < 3; decide), rfl, _, rfl, ?_⟩
    refine iteD (fun _ => ?_) (fun _ => ?_)
    · refine ⟨_, rfl, _, _, rfl, rfl, _, rfl, _, rfl, _, _, rfl, rfl, _, rfl, _, _, rfl, rfl, c, 2, (n : Int) - 1 - 0, rfl, by omega, fun v H3 hv e3 => ⟨_, _, rfl, rfl, ?_⟩⟩
      refine ⟨_, rfl, _, _, rfl, rfl, ⟨by decide, by decide⟩, _, _, rfl, rfl, (by show (0 : Int) < 3; decide), rfl, _, rfl, ?_⟩
      refine iteD (fun _ => ?_) (fun _ => ?_)
      · refine ⟨_, rfl, _, _, rfl, rfl, _, rfl, _, _, rfl, rfl, ⟨by decide, by decide⟩, _, _, rfl, rfl, (by show (0 : Int) < 3; decide), _, _, rfl, rfl, _, rfl, _, _, rfl, rfl, _, _, rfl, ?_⟩
        exact ⟨_, rfl, _, rfl, fin _ _ H3 (e1.trans e3) (by omega) (by split <;> omega) (by split <;> omega)⟩
      · exact ⟨_, rfl, _, rfl, fin _ _ H3 (e1.trans e3) (by omega) (by omega) (by omega)⟩
    · refine ⟨_, rfl, _, _, rfl, rfl, _, rfl, _, rfl, _, _, rfl, rfl, _, rfl, _, _, rfl, rfl, c, 2, (n : Int) - 1 - b, rfl, by omega, fun v H3 hv e3 => ⟨_, _, rfl, rfl, ?_⟩⟩
      refine ⟨_, rfl, _, _, rfl, rfl, ⟨by decide, by decide⟩, _, _, rfl, rfl, (by show (0 : Int) < 3; decide), rfl, _, rfl, ?_⟩
      refine iteD (fun _ => ?_) (fun _ => ?_)
      · refine ⟨_, rfl, _, _, rfl, rfl, _, rfl, _, _, rfl, rfl, ⟨by decide, by decide⟩, _, _, rfl, rfl, (by show (0 : Int) < 3; decide), _, _, rfl, rfl, _, rfl, _, _, rfl, rfl, _, _, rfl, ?_⟩
        exact ⟨_, rfl, _, rfl, fin _ _ H3 (e1.trans e3) (by omega) (by split <;> omega) (by split <;> omega)⟩
      · exact ⟨_, rfl, _, rfl, fin _ _ H3 (e1.trans e3) (by omega) (by omega) (by omega)⟩
theorem sc_law_deed_by : FnScope ["_law_cell", "_law_sold", "_law_stops_here", "_law_way", "_law_some", "_law_ticket", "_law_kind", "_law_stretch", "_law_end"] ["_law_cell", "_law_sold", "_law_stops_here"] (defScope s_law_deed_by) := ⟨rfl, rfl, rfl, by decide +kernel, rfl, by decide +kernel, by decide +kernel⟩
theorem c_law_deed_by (T : Tx K mg) : Cal P w K mg base 3 "_law_deed_by" (spDeedBy K) := by
  refine T.cal 12 35 rfl rfl sc_law_deed_by (fun _ _ _ _ _ _ us hl => match us, hl with | [_, _, _], _ => rfl) (fun vs H Q E h => ?_) fun cdv A outer s H vs Q E hr h => ?_
  · first | (obtain ⟨_, rfl, _⟩ := h; rfl) | (obtain ⟨_, _, rfl, _⟩ := h; rfl) | (obtain ⟨_, _, _, rfl, _⟩ := h; rfl) | (obtain ⟨_, _, _, _, rfl, _⟩ := h; rfl) | (obtain ⟨_, _, _, _, _, rfl, _⟩ := h; rfl) | (obtain ⟨_, _, _, _, _, _, rfl, _⟩ := h; rfl) | (obtain ⟨_, _, _, _, _, _, _, rfl, _⟩ := h; rfl) | (obtain ⟨_, _, _, _, _, _, _, _, rfl, _⟩ := h; rfl) | (obtain ⟨_, _, _, _, _, _, _, _, _, rfl, _⟩ := h; rfl) | (obtain ⟨_, _, _, _, _, _, _, _, _, _, rfl, _⟩ := h; rfl) | (obtain ⟨_, _, _, _, _, _, _, _, _, _, _, rfl, _⟩ := h; rfl) | (obtain ⟨_, _, _, _, _, _, _, _, _, _, _, _, rfl, _⟩ := h; rfl) | (obtain ⟨_, _, _, _, _, _, _, _, _, _, _, _, _, rfl, _⟩ := h; rfl) | (obtain ⟨_, _, _, _, _, _, _, _, _, _, _, _, _, _, rfl, _⟩ := h; rfl) | (obtain ⟨_, _, _, _, _, _, _, _, _, _, _, _, _, _, _, rfl, _⟩ := h; rfl)
  · refine ⟨_, (pss_cons (ps_if (pt_val (pe_callB (isi_k K) (by rfl) (T.free 30) (by decide +kernel) (pa_cons (pv 0) (pa_cons (pe_bltn (v := .ty "tuple") rfl (T.free 31) (by decide +kernel) rfl) pa_nil))))
        (pss_one (ps_ret (pv 0)))
        pss_nil)
      (pss_cons (ps_set (i := 3) sc_law_deed_by.nd rfl (Or.inl rfl) (pe_ix (ix_l K) (pe_lst (pa_cons pe_int (pa_cons pe_int (pa_cons pe_int (pa_cons pe_int (pa_cons pe_int (pa_cons pe_int (pa_cons pe_int (pa_cons pe_int (pa_cons pe_int pa_nil)))))))))) (pe_op op_mod (pv 0) pe_int) (fun _ _ => rfl)))
      (pss_cons (ps_set (i := 4) sc_law_deed_by.nd rfl (Or.inl rfl) (pe_op op_cat (pv 1) (pe_lst (pa_cons pe_int pa_nil))))
      (pss_cons (ps_set (i := 5) sc_law_deed_by.nd rfl (Or.inl rfl) (pe_ix (ix_l K) (pv 4) (pe_c (c_law_mixed T) hr pz (pa_cons (pv 0) (pa_cons pe_int (pa_cons (pe_callB (call_max2 rfl) (by rfl) (T.free 0) (by decide +kernel) (pa_cons pe_int (pa_cons (pe_callB (len_k K) (by rfl) (T.free 1) PySem.boot_len (pa_cons (pv 1) pa_nil)) pa_nil))) pa_nil)))) (fun _ _ => rfl)))
      (pss_cons (ps_if (pt_cmpR op_eq (pv 3) pe_int (nomark _))
        (pss_one (ps_ret (pe_tup (pa_cons pe_str (pa_cons (pv 5) (pa_cons pe_int pa_nil))))))
        pss_nil)
      (pss_cons (ps_if (pt_cmpR op_eq (pv 3) pe_int (nomark _))
        (pss_one (ps_ret (pe_tup (pa_cons pe_str (pa_cons (pv 5) (pa_cons (pe_op op_sub (pe_c (c_law_mixed T) hr pz (pa_cons (pv 0) (pa_cons pe_int (pa_cons (pe_op op_add (pv 2) pe_int) pa_nil)))) pe_int) pa_nil))))))
        pss_nil)
      (pss_cons (ps_if (pt_cmpR op_eq (pv 3) pe_int (nomark _))
        (pss_one (ps_ret (pe_tup (pa_cons pe_str (pa_cons (pv 5) (pa_cons pe_int pa_nil))))))
        pss_nil)
      (pss_cons (ps_if (PW.pt (pw_and (pt_cmpR op_eq (pv 3) pe_int (nomark _)) (pw_and1 (pt_cmpR op_eq (pe_op op_mod (pe_op op_fdiv (pv 0) pe_int) pe_int) pe_int (nomark _)))))
        (pss_cons (ps_set (i := 6) sc_law_deed_by.nd rfl (Or.inl rfl) (pe_ix (ix_l K) (pe_lst (pa_cons pe_str (pa_cons pe_str (pa_cons pe_str pa_nil)))) (pe_op op_mod (pe_op op_fdiv (pv 0) pe_int) pe_int) (fun _ _ => rfl)))
        (pss_one (ps_ret (pe_tup (pa_cons (pv 6) (pa_cons (pe_ix (ix_l K) (pe_lst (pa_cons (pe_un un_neg pe_int) (pa_cons (pe_op op_add (pe_callB (len_k K) (by rfl) (T.free 1) PySem.boot_len (pa_cons (pv 1) pa_nil)) pe_int) (pa_cons (pe_op op_add (pv 5) pe_int) (pa_cons (pe_op op_pow pe_int pe_int) pa_nil))))) (pe_op op_mod (pe_op op_fdiv (pv 0) pe_int) pe_int) (fun _ _ => rfl)) (pa_cons pe_int pa_nil)))))))
        pss_nil)
      (pss_cons (ps_set (i := 7) sc_law_deed_by.nd rfl (Or.inl rfl) (pe_c (c_law_stretch_by T) hr pz (pa_cons (pv 0) (pa_cons (pv 2) pa_nil))))
      (pss_cons (ps_if (pt_cmpR op_eq (pv 3) pe_int (nomark _))
        (pss_cons (ps_set (i := 8) sc_law_deed_by.nd rfl (Or.inl rfl) (pe_ix (ix_l K) (pe_lst (pa_cons (pe_ix (ix_t K) (pv 7) pe_int (fun _ _ => rfl)) (pa_cons (pe_op op_sub (pe_ix (ix_t K) (pv 7) pe_int (fun _ _ => rfl)) pe_int) (pa_cons (pv 2) (pa_cons (pe_op op_pow pe_int pe_int) pa_nil))))) (pe_op op_mod (pe_op op_fdiv (pv 0) pe_int) pe_int) (fun _ _ => rfl)))
        (pss_one (ps_ret (pe_tup (pa_cons pe_str (pa_cons (pe_ix (ix_l K) (pe_lst (pa_cons (pe_ix (ix_t K) (pv 7) pe_int (fun _ _ => rfl)) (pa_cons (pe_un un_neg pe_int) pa_nil))) (pe_op op_mod (pe_op op_fdiv (pv 0) pe_int) pe_int) (fun _ _ => rfl)) (pa_cons (pv 8) pa_nil)))))))
        pss_nil)
      (pss_one (ps_ret (pe_tup (pa_cons pe_str (pa_cons (pe_ix (ix_t K) (pv 7) pe_int (fun _ _ => rfl)) (pa_cons (pe_ix (ix_t K) (pv 7) pe_int (fun _ _ => rfl)) pa_nil)))))))))))))))), ?_⟩
    obtain ⟨v, so, ks, n, rfl, hv, hso, hks, hn2, hn, q⟩ := h
    rcases hv with ⟨c, rfl⟩ | ⟨d, x, rfl, hd⟩
    rotate_left
    · refine ⟨_, rfl, _, .ty "tuple", _, _, true, rfl, .ty _, .base (.tup hd), kit_ty (by decide +kernel), _, rfl, iteT ?_⟩
      exact ⟨_, rfl, q H d x (Evl.Ex.refl H) hd⟩
    refine ⟨_, rfl, _, .ty "tuple", _, _, false, rfl, .ty _, .base (.int c), kit_ty (by decide +kernel), _, rfl, iteF ?_⟩
    -- a deed made
    have made : ∀ (k : Kind) (a b : Int) H2, Ex H H2 → (3 ≤ sizeLine ∧ ∀ t, H2 t = none → Q (.ref t) (upd H2 t (.tup [.str k.str, .int a, .int b]))) := fun k a b H2 e2 => ⟨by decide, fun t ft => by
      have e4 := Evl.Ex.new (o := .tup [.str k.str, .int a, .int b]) ft
      exact q _ t ⟨k, a, b⟩ (e2.trans e4) upd_same⟩
    refine ⟨by show 9 ≤ sizeLine; decide, fun l1 f1 => ?_⟩
    obtain ⟨wv, hwv, ⟨way, rfl⟩⟩ := at_mod (xs := [.int 0, .int 0, .int 0, .int 0, .int 1, .int 2, .int 3, .int 0, .int 4]) (P := fun x => ∃ i : Int, x = .int i) (c := c) (m := 9) (fun x m => by
      simp only [List.mem_cons, List.not_mem_nil, or_false] at m
      rcases m with rfl | rfl | rfl | rfl | rfl | rfl | rfl | rfl | rfl <;> exact ⟨_, rfl⟩) rfl (by decide)
    refine ⟨_, rfl, _, _, rfl, rfl, (by show (0 : Int) < 9; decide), l1, _, _, _, rfl, rfl, SqL.of upd_same, hwv, ?_⟩
    have e1 := Evl.Ex.new (o := .lst [.int 0, .int 0, .int 0, .int 0, .int 1, .int 2, .int 3, .int 0, .int 4]) f1
    clear hwv
    have hso1 := e1 _ _ hso
    refine ⟨_, rfl, by show 1 ≤ sizeLine; decide, fun l2 f2 => ?_⟩
    have e2 := Evl.Ex.new (o := .lst [.int 0]) f2
    refine ⟨so, l2, _, _, rfl, rfl, e2 _ _ hso1, upd_same, ?_, fun l3 f3 => ?_⟩
    · rw [List.length_map]
      exact Nat.le_trans (m := 1000001) (by show _ + 1 ≤ _; omega) (by decide)
    have e3 := Evl.Ex.new (o := .lst (ks.map V.int ++ [.int 0])) f3
    have E3 := e1.trans (e2.trans e3)
    have hso3 := E3 _ _ hso
    refine ⟨_, rfl, _, rfl, _, rfl, so, _, rfl, .inl (SqL.of hso3), _, _, rfl, c, 3, _, rfl, (by split <;> omega), fun v H4 hv e4 => ?_⟩
    have hl3 : H4 l3 = some (.lst (ks.map V.int ++ [.int 0])) := e4 _ _ upd_same
    obtain ⟨z, hz⟩ : ∃ z : Int, (ks.map V.int ++ [.int 0])[v]? = some (.int z) := by
      rw [List.length_map] at hv
      by_cases c1 : v < ks.length
      · exact ⟨ks[v], by rw [List.getElem?_append_left (by rw [List.length_map]; exact c1)]; exact map_get (List.getElem?_eq_getElem c1)⟩
      · have hv0 : v = ks.length := by
          split at hv <;> omega
        refine ⟨0, ?_⟩
        rw [List.getElem?_append_right (by rw [List.length_map]; omega), List.length_map, hv0, Nat.sub_self]
        rfl
    refine ⟨l3, _, _, .int z, rfl, rfl, SqL.of hl3, at_of (j := v) rfl hz, ?_⟩
    have E4 := E3.trans e4
    refine ⟨_, rfl, rfl, _, rfl, ?_⟩
    refine iteD (fun _ => ?_) (fun _ => ?_)
    · exact ⟨_, rfl, made .back z 0 H4 E4⟩
    refine ⟨_, rfl, rfl, _, rfl, ?_⟩
    refine iteD (fun _ => ?_) (fun _ => ?_)
    · exact ⟨_, rfl, _, rfl, _, rfl, _, _, rfl, rfl, c, 4, (n : Int) + 2, rfl, by omega, fun v2 H6 hv2 e6 => ⟨_, _, rfl, rfl, made .leave z _ H6 (E4.trans e6)⟩⟩
    refine ⟨_, rfl, rfl, _, rfl, ?_⟩
    refine iteD (fun _ => ?_) (fun _ => ?_)
    · exact ⟨_, rfl, made .reseat z 0 H4 E4⟩
    refine ⟨_, rfl, rfl, _, rfl, ?_⟩
    refine iteD (fun _ => ?_) (fun _ => iteF ?_)
    · refine ⟨_, rfl, _, _, rfl, rfl, ⟨by decide, by decide⟩, _, _, rfl, rfl, (by show (0 : Int) < 2; decide), rfl, _, rfl, ?_⟩
      refine iteD (fun _ => ?_) (fun _ => ?_)
      · refine ⟨by show 3 ≤ sizeLine; decide, fun l4 f4 => ?_⟩
        obtain ⟨kv, hkv, ⟨k, rfl⟩⟩ := at_mod (xs := [.str "back", .str "leave", .str "reseat"]) (P := fun x => ∃ k : Kind, x = .str k.str) (c := c / 18) (m := 3) (fun x m => by
          simp only [List.mem_cons, List.not_mem_nil, or_false] at m
          rcases m with rfl | rfl | rfl
          · exact ⟨.back, rfl⟩
          · exact ⟨.leave, rfl⟩
          · exact ⟨.reseat, rfl⟩) rfl (by decide)
        have e5 := Evl.Ex.new (o := .lst [.str "back", .str "leave", .str "reseat"]) f4
        refine ⟨_, rfl, _, _, rfl, rfl, ⟨by decide, by decide⟩, _, _, rfl, rfl, (by show (0 : Int) < 3; decide), l4, _, _, _, rfl, rfl, SqL.of upd_same, hkv, ?_⟩
        have hso5 := e5 _ _ (e4 _ _ hso3)
        refine ⟨_, rfl, _, rfl, _, rfl, so, _, rfl, .inl (SqL.of hso5), _, _, rfl, rfl, _, rfl, _, _, rfl, rfl, _, _, rfl, rfl, ⟨by decide, by decide, by decide⟩, by show 4 ≤ sizeLine; decide, fun l5 f5 => ?_⟩
        obtain ⟨iv, hiv, ⟨i, rfl⟩⟩ := at_mod (xs := [.int (-1), .int (((ks.map V.int).length : Int) + 400), .int (z + 1), .int (10 ^ 12)]) (P := fun x => ∃ i : Int, x = .int i) (c := c / 54) (m := 4) (fun x m => by
          simp only [List.mem_cons, List.not_mem_nil, or_false] at m
          rcases m with rfl | rfl | rfl | rfl <;> exact ⟨_, rfl⟩) rfl (by show 0 < 4; decide)
        refine ⟨_, rfl, _, _, rfl, rfl, ⟨by decide, by decide⟩, _, _, rfl, rfl, (by show (0 : Int) < 4; decide), l5, _, _, _, rfl, rfl, SqL.of upd_same, hiv, ?_⟩
        exact made k i 1 _ (E4.trans (e5.trans (Evl.Ex.new f5)))
      · refine ⟨_, rfl, _, rfl, c, n, rfl, hn2, fun H6 t b e e6 ht hbe hen => ?_⟩
        refine ⟨_, rfl, rfl, _, rfl, ?_⟩
        refine iteD (fun _ => ?_) (fun _ => ?_)
        · refine ⟨_, rfl, t, _, _, _, rfl, rfl, SqT.of ht, at_of (j := 0) rfl rfl, _, rfl, t, _, _, _, rfl, rfl, SqT.of ht, at_of (j := 0) rfl rfl, _, _, rfl, rfl, _, rfl, _, _, rfl, rfl, ⟨by decide, by decide, by decide⟩, by show 4 ≤ sizeLine; decide, fun l6 f6 => ?_⟩
          obtain ⟨iv, hiv, ⟨i, rfl⟩⟩ := at_mod (xs := [.int b, .int ((b : Int) - 1), .int n, .int (10 ^ 12)]) (P := fun x => ∃ i : Int, x = .int i) (c := c / 18) (m := 4) (fun x m => by
            simp only [List.mem_cons, List.not_mem_nil, or_false] at m
            rcases m with rfl | rfl | rfl | rfl <;> exact ⟨_, rfl⟩) rfl (by show 0 < 4; decide)
          refine ⟨_, rfl, _, _, rfl, rfl, ⟨by decide, by decide⟩, _, _, rfl, rfl, (by show (0 : Int) < 4; decide), l6, _, _, _, rfl, rfl, SqL.of upd_same, hiv, ?_⟩
          have e7 := Evl.Ex.new (o := .lst [.int b, .int ((b : Int) - 1), .int n, .int (10 ^ 12)]) f6
          refine ⟨_, rfl, t, _, _, _, rfl, rfl, SqT.of (e7 _ _ ht), at_of (j := 0) rfl rfl, _, rfl, by show 2 ≤ sizeLine; decide, fun l7 f7 => ?_⟩
          obtain ⟨jv, hjv, ⟨j, rfl⟩⟩ := at_mod (xs := [.int b, .int (-1)]) (P := fun x => ∃ i : Int, x = .int i) (c := c / 72) (m := 2) (fun x m => by
            simp only [List.mem_cons, List.not_mem_nil, or_false] at m
            rcases m with rfl | rfl <;> exact ⟨_, rfl⟩) rfl (by show 0 < 2; decide)
          have e8 := Evl.Ex.new (o := .lst [.int b, .int (-1)]) f7
          refine ⟨_, rfl, _, _, rfl, rfl, ⟨by decide, by decide⟩, _, _, rfl, rfl, (by show (0 : Int) < 2; decide), l7, _, _, _, rfl, rfl, SqL.of upd_same, hjv, ?_⟩
          exact ⟨_, rfl, made .sell j i _ (E4.trans (e6.trans (e7.trans e8)))⟩
        · exact ⟨_, rfl, t, _, _, _, rfl, rfl, SqT.of ht, at_of (j := 0) rfl rfl, _, rfl, t, _, _, _, rfl, rfl, SqT.of ht, at_of (j := 1) rfl rfl, made .sell b e _ (E4.trans e6)⟩
    · refine ⟨_, rfl, _, rfl, c, n, rfl, hn2, fun H6 t b e e6 ht hbe hen => ?_⟩
      refine ⟨_, rfl, rfl, _, rfl, ?_⟩
      refine iteD (fun _ => ?_) (fun _ => ?_)
      · refine ⟨_, rfl, t, _, _, _, rfl, rfl, SqT.of ht, at_of (j := 0) rfl rfl, _, rfl, t, _, _, _, rfl, rfl, SqT.of ht, at_of (j := 0) rfl rfl, _, _, rfl, rfl, _, rfl, _, _, rfl, rfl, ⟨by decide, by decide, by decide⟩, by show 4 ≤ sizeLine; decide, fun l6 f6 => ?_⟩
        obtain ⟨iv, hiv, ⟨i, rfl⟩⟩ := at_mod (xs := [.int b, .int ((b : Int) - 1), .int n, .int (10 ^ 12)]) (P := fun x => ∃ i : Int, x = .int i) (c := c / 18) (m := 4) (fun x m => by
          simp only [List.mem_cons, List.not_mem_nil, or_false] at m
          rcases m with rfl | rfl | rfl | rfl <;> exact ⟨_, rfl⟩) rfl (by show 0 < 4; decide)
        refine ⟨_, rfl, _, _, rfl, rfl, ⟨by decide, by decide⟩, _, _, rfl, rfl, (by show (0 : Int) < 4; decide), l6, _, _, _, rfl, rfl, SqL.of upd_same, hiv, ?_⟩
        have e7 := Evl.Ex.new (o := .lst [.int b, .int ((b : Int) - 1), .int n, .int (10 ^ 12)]) f6
        refine ⟨_, rfl, t, _, _, _, rfl, rfl, SqT.of (e7 _ _ ht), at_of (j := 0) rfl rfl, _, rfl, by show 2 ≤ sizeLine; decide, fun l7 f7 => ?_⟩
        obtain ⟨jv, hjv, ⟨j, rfl⟩⟩ := at_mod (xs := [.int b, .int (-1)]) (P := fun x => ∃ i : Int, x = .int i) (c := c / 72) (m := 2) (fun x m => by
          simp only [List.mem_cons, List.not_mem_nil, or_false] at m
          rcases m with rfl | rfl <;> exact ⟨_, rfl⟩) rfl (by show 0 < 2; decide)
        have e8 := Evl.Ex.new (o := .lst [.int b, .int (-1)]) f7
        refine ⟨_, rfl, _, _, rfl, rfl, ⟨by decide, by decide⟩, _, _, rfl, rfl, (by show (0 : Int) < 2; decide), l7, _, _, _, rfl, rfl, SqL.of upd_same, hjv, ?_⟩
        exact ⟨_, rfl, made .sell j i _ (E4.trans (e6.trans (e7.trans e8)))⟩
      · exact ⟨_, rfl, t, _, _, _, rfl, rfl, SqT.of ht, at_of (j := 0) rfl rfl, _, rfl, t, _, _, _, rfl, rfl, SqT.of ht, at_of (j := 1) rfl rfl, made .sell b e _ (E4.trans e6)⟩
theorem sc_Train_need_stretch : FnScope ["self", "begin", "end"] ["self", "begin", "end"] (defScope s_Train_need_stretch) := ⟨rfl, rfl, rfl, by decide +kernel, rfl, by decide +kernel, by decide +kernel⟩
theorem m_Train_need_stretch (T : Tx K mg) : Met P w K mg base 1 (He.ga K "Train") "need_stretch" (spNeedStretch K) := by
  refine T.met 13 43 5 rfl rfl rfl sc_Train_need_stretch (fun _ _ _ _ _ _ us hl => match us, hl with | [_, _, _], _ => rfl) (fun vs H Q E h => ?_) fun cdv A outer s H vs Q E hr h => ?_
  · first | (obtain ⟨_, rfl, _⟩ := h; rfl) | (obtain ⟨_, _, rfl, _⟩ := h; rfl) | (obtain ⟨_, _, _, rfl, _⟩ := h; rfl) | (obtain ⟨_, _, _, _, rfl, _⟩ := h; rfl) | (obtain ⟨_, _, _, _, _, rfl, _⟩ := h; rfl) | (obtain ⟨_, _, _, _, _, _, rfl, _⟩ := h; rfl) | (obtain ⟨_, _, _, _, _, _, _, rfl, _⟩ := h; rfl) | (obtain ⟨_, _, _, _, _, _, _, _, rfl, _⟩ := h; rfl) | (obtain ⟨_, _, _, _, _, _, _, _, _, rfl, _⟩ := h; rfl) | (obtain ⟨_, _, _, _, _, _, _, _, _, _, rfl, _⟩ := h; rfl) | (obtain ⟨_, _, _, _, _, _, _, _, _, _, _, rfl, _⟩ := h; rfl) | (obtain ⟨_, _, _, _, _, _, _, _, _, _, _, _, rfl, _⟩ := h; rfl) | (obtain ⟨_, _, _, _, _, _, _, _, _, _, _, _, _, rfl, _⟩ := h; rfl) | (obtain ⟨_, _, _, _, _, _, _, _, _, _, _, _, _, _, rfl, _⟩ := h; rfl) | (obtain ⟨_, _, _, _, _, _, _, _, _, _, _, _, _, _, _, rfl, _⟩ := h; rfl)
  · refine ⟨_, (pss_one (ps_if (pt_not (pt_chain3 op_le op_lt op_lt pe_int (pv 1) (pv 2) (fld_k K (pv 0) rfl)))
        (pss_one (ps_raise rfl (takes_of rfl rfl rfl rfl) (pmk_x T 40 41 rfl rfl)))
        pss_nil)), ?_⟩
    obtain ⟨S, p, T0, b, e, rfl, A0, q1, q2⟩ := h
    obtain ⟨dx, r, d, hp⟩ := A0.ins
    refine ⟨_, rfl, _, _, rfl, rfl, _, rfl, ?_⟩
    refine iteD (fun h1 => ?_) (fun h1 => ?_)
    · refine ⟨_, rfl, _, _, rfl, rfl, _, rfl, ?_⟩
      refine iteD (fun h2 => ?_) (fun h2 => ?_)
      · refine ⟨_, rfl, p, _, dx, _, _, rfl, hp, (T.cls 5), (T.noat 7), lk_stops, _, _, rfl, rfl, _, rfl, ?_⟩
        refine iteN (fun h3 => ?_) (fun h3 => ?_)
        · exact q2 fun z => h3 z.2.2
        · exact q1 ⟨h1, h2, h3⟩
      · exact iteT (q2 fun z => h2 z.2.1)
    · exact iteT (q2 fun z => h1 z.1)
theorem sc_first_full : FnScope ["rows", "begin", "end", "leg", "row"] ["rows", "begin", "end"] (defScope s_first_full) := ⟨rfl, rfl, rfl, by decide +kernel, rfl, by decide +kernel, by decide +kernel⟩
theorem c_first_full (T : Tx K mg) : Cal P w K mg base 1 "first_full" spFirstFull := by
  refine T.cal 14 45 rfl rfl sc_first_full (fun _ _ _ _ _ _ us hl => match us, hl with | [_, _, _], _ => rfl) (fun vs H Q E h => ?_) fun cdv A outer s H vs Q E hr h => ?_
  · first | (obtain ⟨_, rfl, _⟩ := h; rfl) | (obtain ⟨_, _, rfl, _⟩ := h; rfl) | (obtain ⟨_, _, _, rfl, _⟩ := h; rfl) | (obtain ⟨_, _, _, _, rfl, _⟩ := h; rfl) | (obtain ⟨_, _, _, _, _, rfl, _⟩ := h; rfl) | (obtain ⟨_, _, _, _, _, _, rfl, _⟩ := h; rfl) | (obtain ⟨_, _, _, _, _, _, _, rfl, _⟩ := h; rfl) | (obtain ⟨_, _, _, _, _, _, _, _, rfl, _⟩ := h; rfl) | (obtain ⟨_, _, _, _, _, _, _, _, _, rfl, _⟩ := h; rfl) | (obtain ⟨_, _, _, _, _, _, _, _, _, _, rfl, _⟩ := h; rfl) | (obtain ⟨_, _, _, _, _, _, _, _, _, _, _, rfl, _⟩ := h; rfl) | (obtain ⟨_, _, _, _, _, _, _, _, _, _, _, _, rfl, _⟩ := h; rfl) | (obtain ⟨_, _, _, _, _, _, _, _, _, _, _, _, _, rfl, _⟩ := h; rfl) | (obtain ⟨_, _, _, _, _, _, _, _, _, _, _, _, _, _, rfl, _⟩ := h; rfl) | (obtain ⟨_, _, _, _, _, _, _, _, _, _, _, _, _, _, _, rfl, _⟩ := h; rfl)
  · refine ⟨_, (pss_cons (ps_for (passes_of rfl) rfl (pi_range2 (by rfl) (T.free 2) (pa_cons (pv 1) (pa_cons (pv 2) pa_nil))) (pg_name (i := 3) sc_first_full.nd rfl (Or.inr rfl))
        (pss_one (ps_if (pt_val (pe_callB (all_k K rfl) (by rfl) (T.free 44) (by decide +kernel) (pa_cons (pe_lc (own := [("row", 4)]) (g := gName 4) rfl sc_first_full.nd (pi_l K (pv 0)) (blkOk_by (N := ["rows", "begin", "end", "leg", "row"]) (sc := defScope s_first_full) (by decide +kernel)) (fun _ _ _ _ _ => pg_name (i := 4) sc_first_full.nd rfl (Or.inl rfl)) (fun _ _ _ _ _ => pts_nil) (fun _ _ _ _ _ => (pe_cmpR op_notN1 (pe_ix (ix_l K) (pv 4) (pv 3) (fun _ _ => rfl)) pe_non (nomark _)))) pa_nil)))
          (pss_one (ps_ret (pv 3)))
          pss_nil)))
      (pss_one (ps_ret pe_non))), ?_⟩
    obtain ⟨r, as, g, b, e, rfl, G, hg, he, hb, hl, q⟩ := h
    refine ⟨_, rfl, _, rfl, _, _, rfl, ⟨by omega, by omega, by omega, by omega⟩, for_range (lo := (b : Int)) (n := ((e : Int) - b).toNat) (fun i σ H' => Ex H H' ∧ (∃ v, σ = [some (.ref r), some (.int b), some (.int e), v, none]) ∧ (List.range' b i).find? (fullLeg g) = none)
      ⟨Evl.Ex.refl H, ⟨none, rfl⟩, rfl⟩ ?_ ?_⟩
    · rintro i σ H' hi ⟨ex, ⟨v, rfl⟩, hno⟩
      have hie : b + i < e := by omega
      refine ⟨_, rfl, r, rfl, ⟨_, sqL_of G.top ex⟩, fun D hD => ?_⟩
      refine lc_v (walk_list (xs := as.map V.ref)) y_list hD (fun H2 e2 => sqL_of G.top (ex.trans e2)) (by rw [List.length_map, G.row.len]; omega) (fun _ => true)
        (fun k => .bl (((g[k]?).map fun row => held row (b + i)).getD false)) (fun _ => rfl) lc_yes ?_ ?_
      · intro k x H2 hk hx _ e2 Q2 q2
        obtain ⟨a, ha, rfl⟩ := map_back hx
        obtain ⟨row, hrow, hr2⟩ := G.row.left ha
        have hlr : b + i < row.length := Nat.lt_of_lt_of_le hie (hl row (List.mem_of_getElem? hrow))
        have hc := List.getElem?_eq_getElem hlr
        refine ⟨_, rfl, _, rfl, a, _, _, oV row[b + i], rfl, rfl, SqL.of (e2 _ _ (ex _ _ hr2)), at_of (j := b + i) (by rw [Int.natCast_add]) (map_get hc), rfl, ?_⟩
        have q3 := q2 H2 (Evl.Ex.refl H2)
        rw [hrow, Option.map_some, Option.getD_some, held_at hc] at q3
        rw [oV_some]
        exact q3
      · intro H2 e2 hD2
        rw [kept_all] at hD2
        refine ⟨D, (List.range (as.map V.ref).length).map fun k => ((g[k]?).map fun row => held row (b + i)).getD false, rfl, ?_, _, rfl, ?_⟩
        · refine SqL.of ?_
          rw [hD2, List.map_map]
          rfl
        have hb2 : ((List.range (as.map V.ref).length).map fun k => ((g[k]?).map fun row => held row (b + i)).getD false).all id = fullLeg g (b + i) := by
          rw [List.length_map, G.row.len]
          exact all_map_range g (fun row => held row (b + i)) _ fun k row hk => by rw [hk]; rfl
        rw [hb2]
        refine iteB (fun hf => ?_) (fun hf => ?_)
        · refine ⟨_, rfl, ?_⟩
          have hfind : firstFull g b e = some (b + i) := by
            unfold firstFull
            have es := range_split (b := b) (i := i) (n := e - b) (by omega)
            rw [es, List.find?_append, hno, Option.none_or, List.find?_cons, hf]
          have q3 := q H2 (ex.trans e2)
          rw [hfind] at q3
          exact q3
        · refine ⟨ex.trans e2, ⟨_, rfl⟩, ?_⟩
          rw [List.range'_1_concat, List.find?_append, hno, Option.none_or, List.find?_cons, hf]
          rfl
    · rintro σ H' ⟨ex, ⟨v, rfl⟩, hno⟩
      have q3 := q H' ex
      have hn : ((e : Int) - b).toNat = e - b := by omega
      rw [hn] at hno
      have hfind : firstFull g b e = none := hno
      rw [hfind] at q3
      exact q3
theorem sc_Train_blocked : FnScope ["self", "begin", "end"] ["self", "begin", "end"] (defScope s_Train_blocked) := ⟨rfl, rfl, rfl, by decide +kernel, rfl, by decide +kernel, by decide +kernel⟩
theorem m_Train_blocked (T : Tx K mg) : Met P w K mg base 2 (He.ga K "Train") "blocked" (spBlocked K) := by
  refine T.met 15 46 5 rfl rfl rfl sc_Train_blocked (fun _ _ _ _ _ _ us hl => match us, hl with | [_, _, _], _ => rfl) (fun vs H Q E h => ?_) fun cdv A outer s H vs Q E hr h => ?_
  · first | (obtain ⟨_, rfl, _⟩ := h; rfl) | (obtain ⟨_, _, rfl, _⟩ := h; rfl) | (obtain ⟨_, _, _, rfl, _⟩ := h; rfl) | (obtain ⟨_, _, _, _, rfl, _⟩ := h; rfl) | (obtain ⟨_, _, _, _, _, rfl, _⟩ := h; rfl) | (obtain ⟨_, _, _, _, _, _, rfl, _⟩ := h; rfl) | (obtain ⟨_, _, _, _, _, _, _, rfl, _⟩ := h; rfl) | (obtain ⟨_, _, _, _, _, _, _, _, rfl, _⟩ := h; rfl) | (obtain ⟨_, _, _, _, _, _, _, _, _, rfl, _⟩ := h; rfl) | (obtain ⟨_, _, _, _, _, _, _, _, _, _, rfl, _⟩ := h; rfl) | (obtain ⟨_, _, _, _, _, _, _, _, _, _, _, rfl, _⟩ := h; rfl) | (obtain ⟨_, _, _, _, _, _, _, _, _, _, _, _, rfl, _⟩ := h; rfl) | (obtain ⟨_, _, _, _, _, _, _, _, _, _, _, _, _, rfl, _⟩ := h; rfl) | (obtain ⟨_, _, _, _, _, _, _, _, _, _, _, _, _, _, rfl, _⟩ := h; rfl) | (obtain ⟨_, _, _, _, _, _, _, _, _, _, _, _, _, _, _, rfl, _⟩ := h; rfl)
  · refine ⟨_, (pss_cons (ps_expr (pe_m (m_Train_need_stretch T) hr (pr (takes_of rfl rfl rfl rfl)) (pv 0) (pa_cons (pv 1) (pa_cons (pv 2) pa_nil))))
      (pss_one (ps_ret (pe_c (c_first_full T) hr pz (pa_cons (fld_k K (pv 0) rfl) (pa_cons (pv 1) (pa_cons (pv 2) pa_nil))))))), ?_⟩
    obtain ⟨S, p, T0, b, e, rfl, A0, q1, q2⟩ := h
    obtain ⟨r, d, as, ls, R, z⟩ := id A0
    obtain ⟨dx, hp⟩ := R.ins
    refine ⟨_, rfl, _, _, _, rfl, hp, trF_no (by decide +kernel) (by decide +kernel) (by decide +kernel) (by decide +kernel), _, rfl, _, rfl, S, p, T0, b, e, rfl, A0, fun hs => ?_, q2⟩
    obtain ⟨h1, h2, h3⟩ := id hs
    have w2 := R.wf.s2
    have w3 := R.wf.t2
    have w1 := R.wf.t1
    refine ⟨_, rfl, p, _, dx, _, _, rfl, hp, (T.cls 5), (T.noat 6), lk_rows, _, rfl, _, rfl, r, as, T0.rows, b.toNat, e.toNat, ?_, R.grid, by omega, by omega, by omega, fun row hr => ?_, q1 hs⟩
    · show [V.ref r, V.int b, V.int e] = [V.ref r, V.int (b.toNat : Int), V.int (e.toNat : Int)]
      rw [Int.toNat_of_nonneg h1, Int.toNat_of_nonneg (by omega)]
    · rw [R.wf.legs row hr]
      omega
theorem sc_reach : FnScope ["row", "stop"] ["row", "stop"] (defScope s_reach) := ⟨rfl, rfl, rfl, by decide +kernel, rfl, by decide +kernel, by decide +kernel⟩
theorem c_reach (T : Tx K mg) : Cal P w K mg base 1 "reach" (spReach K) := by
  refine T.cal 16 48 rfl rfl sc_reach (fun _ _ _ _ _ _ us hl => match us, hl with | [_, _], _ => rfl) (fun vs H Q E h => ?_) fun cdv A outer s H vs Q E hr h => ?_
  · first | (obtain ⟨_, rfl, _⟩ := h; rfl) | (obtain ⟨_, _, rfl, _⟩ := h; rfl) | (obtain ⟨_, _, _, rfl, _⟩ := h; rfl) | (obtain ⟨_, _, _, _, rfl, _⟩ := h; rfl) | (obtain ⟨_, _, _, _, _, rfl, _⟩ := h; rfl) | (obtain ⟨_, _, _, _, _, _, rfl, _⟩ := h; rfl) | (obtain ⟨_, _, _, _, _, _, _, rfl, _⟩ := h; rfl) | (obtain ⟨_, _, _, _, _, _, _, _, rfl, _⟩ := h; rfl) | (obtain ⟨_, _, _, _, _, _, _, _, _, rfl, _⟩ := h; rfl) | (obtain ⟨_, _, _, _, _, _, _, _, _, _, rfl, _⟩ := h; rfl) | (obtain ⟨_, _, _, _, _, _, _, _, _, _, _, rfl, _⟩ := h; rfl) | (obtain ⟨_, _, _, _, _, _, _, _, _, _, _, _, rfl, _⟩ := h; rfl) | (obtain ⟨_, _, _, _, _, _, _, _, _, _, _, _, _, rfl, _⟩ := h; rfl) | (obtain ⟨_, _, _, _, _, _, _, _, _, _, _, _, _, _, rfl, _⟩ := h; rfl) | (obtain ⟨_, _, _, _, _, _, _, _, _, _, _, _, _, _, _, rfl, _⟩ := h; rfl)
  · refine ⟨_, (pss_cons (ps_while (passes_of rfl) (PW.pt (pw_and (pt_cmpR op_lt (pv 1) (pe_callB (len_k K) (by rfl) (T.free 1) PySem.boot_len (pa_cons (pv 0) pa_nil)) (nomark _)) (pw_and1 (pt_cmpR op_isN1 (pe_ix (ix_l K) (pv 0) (pv 1) (fun _ _ => rfl)) pe_non (nomark _)))))
        (pss_one (ps_set (i := 1) sc_reach.nd rfl (Or.inl rfl) (pe_op op_add (pv 1) pe_int))))
      (pss_one (ps_ret (pv 1)))), ?_⟩
    obtain ⟨a, row, s, rfl, hS, q⟩ := h
    refine ⟨fun m σ H' => ∃ s' : Nat, σ = [some (.ref a), some (.int s')] ∧ H' = H ∧ m = row.length - s' ∧ reach row s' = reach row s, ⟨_, s, rfl, rfl, rfl, rfl⟩, ?_⟩
    rintro m σ H' ⟨s', rfl, rfl, rfl, hr'⟩
    refine ⟨_, rfl, _, rfl, a, _, rfl, .inl hS, _, _, rfl, rfl, _, rfl, ?_⟩
    refine iteD (fun h1 => ?_) (fun h1 => ?_)
    · have h2 : s' < row.length := by
        rw [List.length_map] at h1
        omega
      have hc := List.getElem?_eq_getElem h2
      refine ⟨_, rfl, _, rfl, a, _, _, oV row[s'], rfl, rfl, hS, at_of rfl (map_get hc), rfl, _, rfl, ?_⟩
      rw [oV_none]
      cases ec : row[s'] with
      | none =>
        refine iteT ?_
        rw [ec] at hc
        refine ⟨fun σ' H'' => σ' = [some (.ref a), some (.int ((s' + 1 : Nat) : Int))] ∧ H'' = H', fun σ' H'' e => ⟨_, ?_, s' + 1, e.1, e.2, rfl, ?_⟩, ?_⟩
        · omega
        · rw [← reach_yes hc]
          exact hr'
        · exact ⟨_, rfl, _, _, rfl, rfl, rfl, rfl⟩
      | some t =>
        refine iteF ?_
        rw [ec] at hc
        refine ⟨_, rfl, ?_⟩
        rw [reach_no hc] at hr'
        rw [hr']
        exact q
    · have h2 : row.length ≤ s' := by
        rw [List.length_map] at h1
        omega
      refine iteF ?_
      refine ⟨_, rfl, ?_⟩
      rw [reach_out h2] at hr'
      rw [hr']
      exact q
theorem sc_best_seat : FnScope ["rows", "stop", "end", "best", "far", "seat", "row", "leads"] ["rows", "stop", "end"] (defScope s_best_seat) := ⟨rfl, rfl, rfl, by decide +kernel, rfl, by decide +kernel, by decide +kernel⟩
theorem c_best_seat (T : Tx K mg) : Cal P w K mg base 2 "best_seat" spBest := by
  refine T.cal 17 49 rfl rfl sc_best_seat (fun _ _ _ _ _ _ us hl => match us, hl with | [_, _, _], _ => rfl) (fun vs H Q E h => ?_) fun cdv A outer s H vs Q E hr h => ?_
  · first | (obtain ⟨_, rfl, _⟩ := h; rfl) | (obtain ⟨_, _, rfl, _⟩ := h; rfl) | (obtain ⟨_, _, _, rfl, _⟩ := h; rfl) | (obtain ⟨_, _, _, _, rfl, _⟩ := h; rfl) | (obtain ⟨_, _, _, _, _, rfl, _⟩ := h; rfl) | (obtain ⟨_, _, _, _, _, _, rfl, _⟩ := h; rfl) | (obtain ⟨_, _, _, _, _, _, _, rfl, _⟩ := h; rfl) | (obtain ⟨_, _, _, _, _, _, _, _, rfl, _⟩ := h; rfl) | (obtain ⟨_, _, _, _, _, _, _, _, _, rfl, _⟩ := h; rfl) | (obtain ⟨_, _, _, _, _, _, _, _, _, _, rfl, _⟩ := h; rfl) | (obtain ⟨_, _, _, _, _, _, _, _, _, _, _, rfl, _⟩ := h; rfl) | (obtain ⟨_, _, _, _, _, _, _, _, _, _, _, _, rfl, _⟩ := h; rfl) | (obtain ⟨_, _, _, _, _, _, _, _, _, _, _, _, _, rfl, _⟩ := h; rfl) | (obtain ⟨_, _, _, _, _, _, _, _, _, _, _, _, _, _, rfl, _⟩ := h; rfl) | (obtain ⟨_, _, _, _, _, _, _, _, _, _, _, _, _, _, _, rfl, _⟩ := h; rfl)
  · refine ⟨_, (pss_cons (ps_set (i := 3) sc_best_seat.nd rfl (Or.inl rfl) pe_int)
      (pss_cons (ps_set (i := 4) sc_best_seat.nd rfl (Or.inl rfl) (pv 1))
      (pss_cons (ps_for (passes_of rfl) rfl (pi_enum (by rfl) (T.free 47) (pa_cons (pv 0) pa_nil)) (pg_tup rfl (pgs_cons (pg_name (i := 5) sc_best_seat.nd rfl (Or.inl rfl)) (pgs_cons (pg_name (i := 6) sc_best_seat.nd rfl (Or.inl rfl)) pgs_nil)))
        (pss_cons (ps_set (i := 7) sc_best_seat.nd rfl (Or.inl rfl) (pe_callB (call_min2 rfl) (by rfl) (T.free 33) (by decide +kernel) (pa_cons (pe_c (c_reach T) hr pz (pa_cons (pv 6) (pa_cons (pv 1) pa_nil))) (pa_cons (pv 2) pa_nil))))
        (pss_one (ps_if (pt_cmpR op_gt (pv 7) (pv 4) (nomark _))
          (pss_cons (ps_set (i := 3) sc_best_seat.nd rfl (Or.inl rfl) (pv 5))
          (pss_one (ps_set (i := 4) sc_best_seat.nd rfl (Or.inl rfl) (pv 7))))
          pss_nil))))
      (pss_one (ps_ret (pe_tup (pa_cons (pv 3) (pa_cons (pv 4) pa_nil)))))))), ?_⟩
    obtain ⟨r, as, g, s0, e, rfl, G, q⟩ := h
    refine ⟨_, rfl, _, rfl, r, _, rfl, SqL.of G.top, ?_⟩
    refine for_it (walk_enum (xs := as.map V.ref)) (fun i σ H' => Ex H H' ∧ ∃ (best far : Nat) (v1 v2 v3 : Option V), σ = [some (.ref r), some (.int s0), some (.int e), some (.int best), some (.int far), v1, v2, v3] ∧ bestFrom s0 e (g.drop i) i best far = bestSeat g s0 e)
      ⟨Evl.Ex.refl H, 0, s0, none, none, none, rfl, rfl⟩ (fun i σ H' _ p => sqL_of G.top p.1) ?_ ?_
    · rintro i x σ H' H2 hi ⟨ex, best, far, v1, v2, v3, rfl, hb⟩ ⟨t, x1, x2, rfl, ht, rfl, e1, e2⟩
      cases Option.some.inj e1
      obtain ⟨a, ha, rfl⟩ := map_back e2
      obtain ⟨row, hrow, hr2⟩ := G.row.left ha
      have ex2 := ex.trans (Evl.Ex.new (o := .tup [.int (i : Int), .ref a]) ht)
      refine ⟨t, _, rfl, SqT.of upd_same, rfl, _, _, rfl, _, _, rfl, rfl, ?_⟩
      refine ⟨_, rfl, _, rfl, a, row, s0, rfl, SqL.of (ex2 _ _ hr2), _, rfl, _, _, rfl, ?_⟩
      have hm : (if (e : Int) < (reach row s0 : Int) then (e : Int) else (reach row s0 : Int)) = ((min (reach row s0) e : Nat) : Int) := by
        split <;> omega
      rw [hm]
      have hd : g.drop i = row :: g.drop (i + 1) := by
        have hl := lt_of_get hrow
        rw [List.drop_eq_getElem_cons hl]
        rw [List.getElem?_eq_getElem hl] at hrow
        rw [Option.some.inj hrow]
      rw [hd] at hb
      unfold bestFrom at hb
      refine ⟨_, rfl, _, rfl, _, _, rfl, rfl, _, rfl, ?_⟩
      refine iteD (fun h1 => ?_) (fun h1 => ?_)
      · rw [if_pos (by omega)] at hb
        exact ⟨_, rfl, _, rfl, ex2, i, min (reach row s0) e, _, _, _, rfl, hb⟩
      · rw [if_neg (by omega)] at hb
        exact ⟨ex2, best, far, _, _, _, rfl, hb⟩
    · rintro σ H' ⟨ex, best, far, v1, v2, v3, rfl, hb⟩
      refine ⟨_, rfl, _, rfl, by show 2 ≤ sizeLine; decide, fun t ht => ?_⟩
      have hn : g.drop (as.map V.ref).length = [] := by
        rw [List.length_map, G.row.len]
        exact List.drop_eq_nil_of_le (Nat.le_refl _)
      rw [hn] at hb
      have hb2 : (best, far) = bestSeat g s0 e := hb
      refine q _ t (ex.trans (Evl.Ex.new ht)) ?_
      rw [upd_same, ← hb2]
theorem sc_found_parts : FnScope ["rows", "begin", "end", "parts", "stop", "best"] ["rows", "begin", "end"] (defScope s_found_parts) := ⟨rfl, rfl, rfl, by decide +kernel, rfl, by decide +kernel, by decide +kernel⟩
theorem c_found_parts (T : Tx K mg) : Cal P w K mg base 3 "found_parts" spFound := by
  refine T.cal 18 50 rfl rfl sc_found_parts (fun _ _ _ _ _ _ us hl => match us, hl with | [_, _, _], _ => rfl) (fun vs H Q E h => ?_) fun cdv A outer s H vs Q E hr h => ?_
  · first | (obtain ⟨_, rfl, _⟩ := h; rfl) | (obtain ⟨_, _, rfl, _⟩ := h; rfl) | (obtain ⟨_, _, _, rfl, _⟩ := h; rfl) | (obtain ⟨_, _, _, _, rfl, _⟩ := h; rfl) | (obtain ⟨_, _, _, _, _, rfl, _⟩ := h; rfl) | (obtain ⟨_, _, _, _, _, _, rfl, _⟩ := h; rfl) | (obtain ⟨_, _, _, _, _, _, _, rfl, _⟩ := h; rfl) | (obtain ⟨_, _, _, _, _, _, _, _, rfl, _⟩ := h; rfl) | (obtain ⟨_, _, _, _, _, _, _, _, _, rfl, _⟩ := h; rfl) | (obtain ⟨_, _, _, _, _, _, _, _, _, _, rfl, _⟩ := h; rfl) | (obtain ⟨_, _, _, _, _, _, _, _, _, _, _, rfl, _⟩ := h; rfl) | (obtain ⟨_, _, _, _, _, _, _, _, _, _, _, _, rfl, _⟩ := h; rfl) | (obtain ⟨_, _, _, _, _, _, _, _, _, _, _, _, _, rfl, _⟩ := h; rfl) | (obtain ⟨_, _, _, _, _, _, _, _, _, _, _, _, _, _, rfl, _⟩ := h; rfl) | (obtain ⟨_, _, _, _, _, _, _, _, _, _, _, _, _, _, _, rfl, _⟩ := h; rfl)
  · refine ⟨_, (pss_cons (ps_set (i := 3) sc_found_parts.nd rfl (Or.inl rfl) (pe_lst pa_nil))
      (pss_cons (ps_set (i := 4) sc_found_parts.nd rfl (Or.inl rfl) (pv 1))
      (pss_cons (ps_while (passes_of rfl) (pt_cmpR op_lt (pv 4) (pv 2) (nomark _))
        (pss_cons (ps_set (i := 5) sc_found_parts.nd rfl (Or.inl rfl) (pe_c (c_best_seat T) hr pz (pa_cons (pv 0) (pa_cons (pv 4) (pa_cons (pv 2) pa_nil)))))
        (pss_cons (ps_if (pt_cmpR op_eq (pe_ix (ix_t K) (pv 5) pe_int (fun _ _ => rfl)) (pv 4) (nomark _))
          (pss_one (ps_ret (pv 3)))
          pss_nil)
        (pss_cons (ps_expr (pe_bm PySem.F.plainAttrs_list PySem.F.slot_list_append PySem.F.type_list_append mt_append (pv 3) (pa_cons (pe_tup (pa_cons (pe_ix (ix_t K) (pv 5) pe_int (fun _ _ => rfl)) (pa_cons (pv 4) (pa_cons (pe_ix (ix_t K) (pv 5) pe_int (fun _ _ => rfl)) pa_nil)))) pa_nil)))
        (pss_one (ps_set (i := 4) sc_found_parts.nd rfl (Or.inl rfl) (pe_ix (ix_t K) (pv 5) pe_int (fun _ _ => rfl))))))))
      (pss_one (ps_ret (pv 3)))))), ?_⟩
    obtain ⟨r, as, g, b, e, rfl, G, he, q⟩ := h
    refine ⟨Nat.zero_le _, fun l hl => ?_⟩
    refine ⟨_, rfl, ?_⟩
    refine ⟨fun m σ H' => ∃ (s0 : Nat) (acc : List P3) (ts : List Addr) (v : Option V), σ = [some (.ref r), some (.int b), some (.int e), some (.ref l), some (.int s0), v] ∧ m = e - s0 ∧ Ex H H' ∧ H' l = some (.lst (ts.map V.ref)) ∧ All2 (PartAt H') ts acc ∧ acc.length ≤ s0 ∧
        acc ++ found g s0 e = found g b e, ⟨_, b, [], [], none, rfl, rfl, Evl.Ex.new hl, upd_same, All2.nil, Nat.zero_le _, rfl⟩, ?_⟩
    rintro m σ H' ⟨s0, acc, ts, v, rfl, rfl, ex, hL, hP, hlen, hf⟩
    refine ⟨_, rfl, _, rfl, _, _, rfl, rfl, _, rfl, ?_⟩
    refine iteD (fun h1 => ?_) (fun h1 => ?_)
    · refine ⟨fun σ' H'' => ∃ (acc : List P3) (ts : List Addr) (v : Option V), σ' = [some (.ref r), some (.int b), some (.int e), some (.ref l), some (.int (bestSeat g s0 e).2), v] ∧ s0 < (bestSeat g s0 e).2 ∧ Ex H H'' ∧ H'' l = some (.lst (ts.map V.ref)) ∧ All2 (PartAt H'') ts acc ∧
          acc.length ≤ (bestSeat g s0 e).2 ∧ acc ++ found g (bestSeat g s0 e).2 e = found g b e, fun σ' H'' ⟨acc, ts, v, h0, h2, h3, h4, h5, h6, h7⟩ => ⟨_, by omega, _, acc, ts, v, h0, rfl, h3, h4, h5, h6, h7⟩, ?_⟩
      refine ⟨_, rfl, _, rfl, _, rfl, r, as, g, s0, e, rfl, G.mono ex, fun H2 t e2 ht => ?_⟩
      refine ⟨_, rfl, t, _, _, _, rfl, rfl, SqT.of ht, at_of (j := 1) rfl rfl, _, rfl, rfl, _, rfl, ?_⟩
      refine iteD (fun h2 => ?_) (fun h2 => ?_)
      · have h3 : (bestSeat g s0 e).2 = s0 := by
          have := V.int.inj h2
          omega
        rw [found_none h3, List.append_nil] at hf
        refine ⟨_, rfl, q H2 l (ex.trans e2) hl ⟨ts, e2 _ _ hL, ?_⟩⟩
        rw [← hf]
        exact hP.mono fun _ _ z => e2 _ _ z
      · have h3 : (bestSeat g s0 e).2 ≠ s0 := fun z => h2 (by rw [z])
        have hon := best_on h3
        rw [found_on (by omega) h3] at hf
        refine ⟨_, rfl, .inl ⟨rfl, _, SqL.of (e2 _ _ hL)⟩, ?_⟩
        refine ⟨_, rfl, t, _, _, _, rfl, rfl, SqT.of ht, at_of (j := 0) rfl rfl, _, rfl, _, rfl, t, _, _, _, rfl, rfl, SqT.of ht, at_of (j := 1) rfl rfl, by show 3 ≤ sizeLine; decide, fun u hu => ?_⟩
        have hlu : l ≠ u := ne_of_none (e2 _ _ hL) hu
        refine ⟨l, _, _, rfl, rfl, by rw [upd_ne hlu]; exact e2 _ _ hL, ?_, ?_⟩
        · rw [List.length_map, hP.len]
          exact Nat.lt_of_le_of_lt (show acc.length ≤ 1000 by omega) (by decide)
        have htl : t ≠ l := ne_of ht (e2 _ _ hL) (fun z => by cases z)
        have htu : t ≠ u := ne_of_none ht hu
        refine ⟨_, rfl, t, _, _, _, rfl, rfl, SqT.of (by rw [upd_ne htl, upd_ne htu]; exact ht), at_of (j := 1) rfl rfl, ?_⟩
        refine ⟨acc ++ [((bestSeat g s0 e).1, s0, (bestSeat g s0 e).2)], ts ++ [u], _, rfl, hon.2.1, Evl.Ex.mut ((ex.trans e2).trans (Evl.Ex.new hu)) hl, ?_, ?_, ?_, ?_⟩
        · rw [upd_same, List.map_append]
          rfl
        · refine All2.snoc (hP.mono fun x y z => ?_) ?_
          · have zx : H2 x = some (.tup (pV y)) := e2 _ _ z
            show upd (upd H2 u _) l _ x = _
            rw [upd_ne (ne_of zx (e2 _ _ hL) (fun z => by cases z)), upd_ne (ne_of_none zx hu)]
            exact zx
          · show upd (upd H2 u _) l _ u = _
            rw [upd_ne hlu.symm, upd_same]
            rfl
        · rw [List.length_append, List.length_singleton]
          omega
        · rw [List.append_assoc]
          exact hf
    · have h2 := found_stop (g := g) (s := s0) (e := e) (by omega)
      rw [h2, List.append_nil] at hf
      refine ⟨_, rfl, q H' l ex hl ⟨ts, hL, ?_⟩⟩
      rw [← hf]
      exact hP
theorem sc_Train_row : FnScope ["self", "begin", "end"] ["self", "begin", "end"] (defScope s_Train_row) := ⟨rfl, rfl, rfl, by decide +kernel, rfl, by decide +kernel, by decide +kernel⟩
theorem m_Train_row (T : Tx K mg) : Met P w K mg base 4 (He.ga K "Train") "row" (spRow K) := by
  refine T.met 19 51 5 rfl rfl rfl sc_Train_row (fun _ _ _ _ _ _ us hl => match us, hl with | [_, _, _], _ => rfl) (fun vs H Q E h => ?_) fun cdv A outer s H vs Q E hr h => ?_
  · first | (obtain ⟨_, rfl, _⟩ := h; rfl) | (obtain ⟨_, _, rfl, _⟩ := h; rfl) | (obtain ⟨_, _, _, rfl, _⟩ := h; rfl) | (obtain ⟨_, _, _, _, rfl, _⟩ := h; rfl) | (obtain ⟨_, _, _, _, _, rfl, _⟩ := h; rfl) | (obtain ⟨_, _, _, _, _, _, rfl, _⟩ := h; rfl) | (obtain ⟨_, _, _, _, _, _, _, rfl, _⟩ := h; rfl) | (obtain ⟨_, _, _, _, _, _, _, _, rfl, _⟩ := h; rfl) | (obtain ⟨_, _, _, _, _, _, _, _, _, rfl, _⟩ := h; rfl) | (obtain ⟨_, _, _, _, _, _, _, _, _, _, rfl, _⟩ := h; rfl) | (obtain ⟨_, _, _, _, _, _, _, _, _, _, _, rfl, _⟩ := h; rfl) | (obtain ⟨_, _, _, _, _, _, _, _, _, _, _, _, rfl, _⟩ := h; rfl) | (obtain ⟨_, _, _, _, _, _, _, _, _, _, _, _, _, rfl, _⟩ := h; rfl) | (obtain ⟨_, _, _, _, _, _, _, _, _, _, _, _, _, _, rfl, _⟩ := h; rfl) | (obtain ⟨_, _, _, _, _, _, _, _, _, _, _, _, _, _, _, rfl, _⟩ := h; rfl)
  · refine ⟨_, (pss_cons (ps_if (pt_cmpR op_notN1 (pe_m (m_Train_blocked T) hr (pr (takes_of rfl rfl rfl rfl)) (pv 0) (pa_cons (pv 1) (pa_cons (pv 2) pa_nil))) pe_non (nomark _))
        (pss_one (ps_raise rfl (takes_of rfl rfl rfl rfl) (pmk_x T 37 38 rfl rfl)))
        pss_nil)
      (pss_one (ps_ret (pe_c (c_found_parts T) hr pz (pa_cons (fld_k K (pv 0) rfl) (pa_cons (pv 1) (pa_cons (pv 2) pa_nil))))))), ?_⟩
    obtain ⟨S, p, T0, b, e, rfl, A0, q1, q2, q3⟩ := h
    obtain ⟨dx, r, d, hp⟩ := A0.ins
    refine ⟨_, rfl, p, _, _, rfl, hp, nf_blocked, _, rfl, _, rfl, S, p, T0, b, e, rfl, A0, fun hs H2 e2 => ?_, q3⟩
    refine ⟨rfl, _, rfl, ?_⟩
    rw [oV_some]
    refine iteB (fun h1 => ?_) (fun h1 => ?_)
    · refine q2 hs (fun z => ?_) H2 e2
      rw [z] at h1
      cases h1
    · have hn : firstFull T0.rows b.toNat e.toNat = none := Option.isSome_eq_false_iff.mp h1 |> Option.isNone_iff_eq_none.mp
      have A2 := A0.ex e2
      obtain ⟨r, d, as, ent, R, z⟩ := id A2
      obtain ⟨dx, hp2⟩ := R.ins
      obtain ⟨h1, h2, h3⟩ := id hs
      have w3 := R.wf.t2
      refine ⟨_, rfl, p, _, dx, _, _, rfl, hp2, (T.cls 5), (T.noat 6), lk_rows, _, rfl, _, rfl, r, as, T0.rows, b.toNat, e.toNat, ?_, R.grid, by omega, fun H3 l e3 hl hP => q1 hs hn H3 l (e2.trans e3) (Evl.fresh_back e2 hl) hP⟩
      show [V.ref r, V.int b, V.int e] = [V.ref r, V.int (b.toNat : Int), V.int (e.toNat : Int)]
      rw [Int.toNat_of_nonneg h1, Int.toNat_of_nonneg (by omega)]
theorem sc_Train_mark : FnScope ["self", "parts", "held", "part", "leg"] ["self", "parts", "held"] (defScope s_Train_mark) := ⟨rfl, rfl, rfl, by decide +kernel, rfl, by decide +kernel, by decide +kernel⟩
theorem m_Train_mark (T : Tx K mg) : Met P w K mg base 1 (He.ga K "Train") "mark" (spMark K) := by
  refine T.met 20 52 5 rfl rfl rfl sc_Train_mark (fun _ _ _ _ _ _ us hl => match us, hl with | [_, _, _], _ => rfl) (fun vs H Q E h => ?_) fun cdv A outer s H vs Q E hr h => ?_
  · first | (obtain ⟨_, rfl, _⟩ := h; rfl) | (obtain ⟨_, _, rfl, _⟩ := h; rfl) | (obtain ⟨_, _, _, rfl, _⟩ := h; rfl) | (obtain ⟨_, _, _, _, rfl, _⟩ := h; rfl) | (obtain ⟨_, _, _, _, _, rfl, _⟩ := h; rfl) | (obtain ⟨_, _, _, _, _, _, rfl, _⟩ := h; rfl) | (obtain ⟨_, _, _, _, _, _, _, rfl, _⟩ := h; rfl) | (obtain ⟨_, _, _, _, _, _, _, _, rfl, _⟩ := h; rfl) | (obtain ⟨_, _, _, _, _, _, _, _, _, rfl, _⟩ := h; rfl) | (obtain ⟨_, _, _, _, _, _, _, _, _, _, rfl, _⟩ := h; rfl) | (obtain ⟨_, _, _, _, _, _, _, _, _, _, _, rfl, _⟩ := h; rfl) | (obtain ⟨_, _, _, _, _, _, _, _, _, _, _, _, rfl, _⟩ := h; rfl) | (obtain ⟨_, _, _, _, _, _, _, _, _, _, _, _, _, rfl, _⟩ := h; rfl) | (obtain ⟨_, _, _, _, _, _, _, _, _, _, _, _, _, _, rfl, _⟩ := h; rfl) | (obtain ⟨_, _, _, _, _, _, _, _, _, _, _, _, _, _, _, rfl, _⟩ := h; rfl)
  · refine ⟨_, (pss_one (ps_for (passes_of rfl) rfl (pi_l K (pv 1)) (pg_name (i := 3) sc_Train_mark.nd rfl (Or.inl rfl))
        (pss_one (ps_for (passes_of rfl) rfl (pi_range2 (by rfl) (T.free 2) (pa_cons (pe_ix (ix_t K) (pv 3) pe_int (fun _ _ => rfl)) (pa_cons (pe_ix (ix_t K) (pv 3) pe_int (fun _ _ => rfl)) pa_nil))) (pg_name (i := 4) sc_Train_mark.nd rfl (Or.inl rfl))
          (pss_one (ps_asg (pv 2) (pg_sub (pe_ix (ix_l K) (fld_k K (pv 0) rfl) (pe_ix (ix_t K) (pv 3) pe_int (fun _ _ => rfl)) (fun _ _ => rfl)) (pv 4) set_list))))))), ?_⟩
    obtain ⟨S, p, T0, l, ps, hh, rfl, A0, ⟨ts, hl, hP⟩, hv, q⟩ := h
    refine ⟨_, rfl, l, rfl, ⟨_, SqL.of hl⟩, for_list (K := K) (a := l) (xs := ts.map V.ref) (fun i σ H' => ∃ v1 v2, σ = [some (.ref p), some (.ref l), some (oV hh), v1, v2] ∧ Mv H H' S S ∧ H' l = some (.lst (ts.map V.ref)) ∧ TrainAt K H' S p { T0 with rows := markAll T0.rows (ps.take i) hh })
      ⟨none, none, rfl, Mv.refl H S, hl, A0⟩ (fun i σ H' _ ⟨_, _, _, _, z, _⟩ => SqL.of z) ?_ ?_⟩
    · rintro i x σ H' hi ⟨v1, v2, rfl, mv, hl2, A⟩
      obtain ⟨t, ht, rfl⟩ := map_back hi
      obtain ⟨⟨c1, c2, c3⟩, hc, hpt⟩ := hP.left ht
      have hval := hv _ (List.mem_of_getElem? hc)
      have hpt2 : H' t = some (.tup [.int (c1 : Int), .int (c2 : Int), .int (c3 : Int)]) := mv.tups _ _ hpt
      have htake : ps.take (i + 1) = ps.take i ++ [(c1, c2, c3)] := by
        have hl3 := lt_of_get hc
        rw [List.take_succ_eq_append_getElem hl3]
        rw [List.getElem?_eq_getElem hl3] at hc
        rw [Option.some.inj hc]
      have w4 := A0.wf.t2
      dsimp only at hval
      refine ⟨_, rfl, t, _, _, _, rfl, rfl, SqT.of hpt2, at_of (j := 1) rfl rfl, _, rfl, t, _, _, _, rfl, rfl, SqT.of hpt2, at_of (j := 2) rfl rfl, _, _, rfl, ⟨by omega, by omega, by omega, by omega⟩, ?_⟩
      refine for_range (lo := (c2 : Int)) (n := ((c3 : Int) - c2).toNat) (fun j σ H2 => ∃ v2, σ = [some (.ref p), some (.ref l), some (oV hh), some (.ref t), v2] ∧ Mv H H2 S S ∧ H2 l = some (.lst (ts.map V.ref)) ∧
          TrainAt K H2 S p { T0 with rows := (List.range' c2 j).foldl (fun g leg => setCell g c1 leg hh) (markAll T0.rows (ps.take i) hh) }) ⟨v2, rfl, mv, hl2, A⟩ ?_ ?_
      · rintro j σ H2 hj ⟨v2, rfl, mv2, hl3, A2⟩
        have hpt3 : H2 t = some (.tup [.int (c1 : Int), .int (c2 : Int), .int (c3 : Int)]) := mv2.tups _ _ hpt
        have hlen : ((List.range' c2 j).foldl (fun g leg => setCell g c1 leg hh) (markAll T0.rows (ps.take i) hh)).length = T0.rows.length := by
          have h1 := foldl_len c1 hh (List.range' c2 j) (markAll T0.rows (ps.take i) hh)
          rw [h1, markAll_len]
        obtain ⟨dx, r, d, as, a, row, hp, hr, ha, hrow, hleg, mv3, A3⟩ := A2.cell (seat := c1) (leg := c2 + j) hh (by show c1 < List.length _; rw [hlen]; exact hval.1) (by show c2 + j < T0.stops - 1; omega)
        refine ⟨_, rfl, _, rfl, p, _, dx, _, _, rfl, hp, (T.cls 5), (T.noat 6), lk_rows, _, rfl, t, _, _, _, rfl, rfl, SqT.of hpt3, at_of (j := 0) rfl rfl, r, _, _, .ref a, rfl, rfl, SqL.of hr, at_of rfl (map_get ha), ?_⟩
        refine ⟨_, rfl, a, _, _, c2 + j, rfl, rfl, hrow, ?_, ?_⟩
        · rw [List.length_map, show (c2 : Int) + (j : Int) = ((c2 + j : Nat) : Int) by omega]
          exact ixN_nat hleg
        · rw [← List.map_set]
          refine ⟨_, rfl, mv2.trans mv3, ?_, ?_⟩
          · have hrl : 1 ≤ row.length := by omega
            rw [upd_ne (row_ne hrow hrl hl3)]
            exact hl3
          · have e1 : List.range' c2 (j + 1) = List.range' c2 j ++ [c2 + j] := List.range'_1_concat
            rw [e1, List.foldl_append]
            exact A3
      · rintro σ H2 ⟨v2, rfl, mv2, hl3, A2⟩
        refine ⟨_, _, rfl, mv2, hl3, ?_⟩
        rw [htake]
        have e2 : markAll T0.rows (ps.take i ++ [(c1, c2, c3)]) hh = markPart (markAll T0.rows (ps.take i) hh) hh (c1, c2, c3) := by
          unfold markAll
          rw [List.foldl_append]
          rfl
        rw [e2]
        have e3 : ((c3 : Int) - c2).toNat = c3 - c2 := by omega
        rw [e3] at A2
        exact A2
    · rintro σ H' ⟨v1, v2, rfl, mv, hl2, A⟩
      have e : ps.take (ts.map V.ref).length = ps := by rw [List.length_map, hP.len, List.take_length]
      rw [e] at A
      exact q H' mv (by rw [hl2, hl]) A
theorem sc_Train_take : FnScope ["self", "ticket", "parts"] ["self", "ticket", "parts"] (defScope s_Train_take) := ⟨rfl, rfl, rfl, by decide +kernel, rfl, by decide +kernel, by decide +kernel⟩
theorem m_Train_take (T : Tx K mg) : Met P w K mg base 2 (He.ga K "Train") "take" (spTake K) := by
  refine T.met 21 53 5 rfl rfl rfl sc_Train_take (fun _ _ _ _ _ _ us hl => match us, hl with | [_, _, _], _ => rfl) (fun vs H Q E h => ?_) fun cdv A outer s H vs Q E hr h => ?_
  · first | (obtain ⟨_, rfl, _⟩ := h; rfl) | (obtain ⟨_, _, rfl, _⟩ := h; rfl) | (obtain ⟨_, _, _, rfl, _⟩ := h; rfl) | (obtain ⟨_, _, _, _, rfl, _⟩ := h; rfl) | (obtain ⟨_, _, _, _, _, rfl, _⟩ := h; rfl) | (obtain ⟨_, _, _, _, _, _, rfl, _⟩ := h; rfl) | (obtain ⟨_, _, _, _, _, _, _, rfl, _⟩ := h; rfl) | (obtain ⟨_, _, _, _, _, _, _, _, rfl, _⟩ := h; rfl) | (obtain ⟨_, _, _, _, _, _, _, _, _, rfl, _⟩ := h; rfl) | (obtain ⟨_, _, _, _, _, _, _, _, _, _, rfl, _⟩ := h; rfl) | (obtain ⟨_, _, _, _, _, _, _, _, _, _, _, rfl, _⟩ := h; rfl) | (obtain ⟨_, _, _, _, _, _, _, _, _, _, _, _, rfl, _⟩ := h; rfl) | (obtain ⟨_, _, _, _, _, _, _, _, _, _, _, _, _, rfl, _⟩ := h; rfl) | (obtain ⟨_, _, _, _, _, _, _, _, _, _, _, _, _, _, rfl, _⟩ := h; rfl) | (obtain ⟨_, _, _, _, _, _, _, _, _, _, _, _, _, _, _, rfl, _⟩ := h; rfl)
  · refine ⟨_, (pss_cons (ps_dput (hu_of hr) (fld_k K (pv 0) rfl) (pv 1) (pv 2) rfl)
      (pss_one (ps_expr (pe_m (m_Train_mark T) hr pz (pv 0) (pa_cons (pv 2) (pa_cons (pv 1) pa_nil)))))), ?_⟩
    obtain ⟨S, p, T0, t, l, ps, rfl, A0, hP, hS, hv, hlen, hkey, q⟩ := h
    obtain ⟨r, d, as, ent, R, sp, sr, sd, sa, sl⟩ := id A0
    obtain ⟨dx, hp⟩ := R.ins
    obtain ⟨ts, hl, hP2⟩ := hP
    have hdl : d ≠ l := ne_of R.dict hl (fun z => by cases z)
    have hdp : d ≠ p := ne_of R.dict hp (fun z => by cases z)
    have hel : (entD ent).length < sizeLine := by
      have : (entD ent).length = T0.sold.length := by
        rw [R.sold]
        unfold entD entS
        rw [List.length_map, List.length_map]
      rw [this]
      exact Nat.lt_trans hlen (by decide)
    refine ⟨_, rfl, _, rfl, p, _, dx, _, _, rfl, hp, (T.cls 5), (T.noat 10), lk_sold, _, rfl, d, _, rfl, DPut.k (k := Sum.inl (t : Int)) R.dict hel, ?_⟩
    have R2 := R.put t l ps hS sd (fun m => sa l m) hkey hl hP2
    have hl2 : upd H d (.dK (putK (entD ent) (Sum.inl (t : Int)) (.ref l))) l = some (.lst (ts.map V.ref)) := by
      rw [upd_ne hdl.symm]
      exact hl
    obtain ⟨dx2, hp2⟩ := R2.ins
    have A2 : TrainAt K (upd H d (.dK (putK (entD ent) (Sum.inl (t : Int)) (.ref l)))) (fun a => S a ∨ a = l) p { T0 with sold := putS T0.sold t ps } :=
      ⟨r, d, as, _, R2, .inl sp, .inl sr, .inl sd, fun a m => .inl (sa a m), fun x m => ent_in (Z := fun a => S a ∨ a = l) m (fun y my => .inl (sl y my)) (.inr rfl)⟩
    refine ⟨_, rfl, p, _, _, rfl, hp2, nf_mark, _, rfl, _, rfl, _, p, _, l, ps, some t, rfl, A2, ⟨ts, hl2, hP2.mono fun u y z => ?_⟩, hv, fun H3 mv3 hl3 A3 => ?_⟩
    · show upd H d _ u = _
      rw [upd_ne (ne_of z R.dict (fun z => by cases z))]
      exact z
    · refine q H3 (fun a o hs ha => ?_) (fun a xs ha => ?_) A3
      · have had : a ≠ d := fun z => hs (by rw [z]; exact sd)
        by_cases hal : a = l
        · rw [hal] at ha ⊢
          rw [hl3, hl2, ← hl]
          exact ha
        · exact mv3.keep a o (fun z => z.elim hs hal) (by rw [upd_ne had]; exact ha)
      · refine mv3.tups a xs ?_
        rw [upd_ne (ne_of ha R.dict (fun z => by cases z))]
        exact ha
theorem sc_Train_sell : FnScope ["self", "begin", "end", "parts"] ["self", "begin", "end"] (defScope s_Train_sell) := ⟨rfl, rfl, rfl, by decide +kernel, rfl, by decide +kernel, by decide +kernel⟩
theorem m_Train_sell (T : Tx K mg) : Met P w K mg base 5 (He.ga K "Train") "sell" (spSell K) := by
  refine T.met 22 54 5 rfl rfl rfl sc_Train_sell (fun _ _ _ _ _ _ us hl => match us, hl with | [_, _, _], _ => rfl) (fun vs H Q E h => ?_) fun cdv A outer s H vs Q E hr h => ?_
  · first | (obtain ⟨_, rfl, _⟩ := h; rfl) | (obtain ⟨_, _, rfl, _⟩ := h; rfl) | (obtain ⟨_, _, _, rfl, _⟩ := h; rfl) | (obtain ⟨_, _, _, _, rfl, _⟩ := h; rfl) | (obtain ⟨_, _, _, _, _, rfl, _⟩ := h; rfl) | (obtain ⟨_, _, _, _, _, _, rfl, _⟩ := h; rfl) | (obtain ⟨_, _, _, _, _, _, _, rfl, _⟩ := h; rfl) | (obtain ⟨_, _, _, _, _, _, _, _, rfl, _⟩ := h; rfl) | (obtain ⟨_, _, _, _, _, _, _, _, _, rfl, _⟩ := h; rfl) | (obtain ⟨_, _, _, _, _, _, _, _, _, _, rfl, _⟩ := h; rfl) | (obtain ⟨_, _, _, _, _, _, _, _, _, _, _, rfl, _⟩ := h; rfl) | (obtain ⟨_, _, _, _, _, _, _, _, _, _, _, _, rfl, _⟩ := h; rfl) | (obtain ⟨_, _, _, _, _, _, _, _, _, _, _, _, _, rfl, _⟩ := h; rfl) | (obtain ⟨_, _, _, _, _, _, _, _, _, _, _, _, _, _, rfl, _⟩ := h; rfl) | (obtain ⟨_, _, _, _, _, _, _, _, _, _, _, _, _, _, _, rfl, _⟩ := h; rfl)
  · refine ⟨_, (pss_cons (ps_set (i := 3) sc_Train_sell.nd rfl (Or.inl rfl) (pe_m (m_Train_row T) hr (pr (takes_of rfl rfl rfl rfl)) (pv 0) (pa_cons (pv 1) (pa_cons (pv 2) pa_nil))))
      (pss_cons (ps_expr (pe_m (m_Train_take T) hr pz (pv 0) (pa_cons (fld_k K (pv 0) rfl) (pa_cons (pv 3) pa_nil))))
      (pss_cons (ps_fld (pv 0) (pe_op op_add (fld_k K (pv 0) rfl) pe_int) rfl)
      (pss_one (ps_ret (pe_op op_sub (fld_k K (pv 0) rfl) pe_int)))))), ?_⟩
    obtain ⟨S, p, T0, b, e, rfl, A0, hb, hlen, q1, q2, q3⟩ := h
    obtain ⟨dx, r, d, hp⟩ := A0.ins
    refine ⟨_, rfl, p, _, _, rfl, hp, nf_row, _, rfl, _, rfl, S, p, T0, b, e, rfl, A0, fun hs hn H2 l e2 hl hP => ?_, q2, q3⟩
    obtain ⟨S0, hS0, A1⟩ := A0.there
    have A2 := A1.ex e2
    have hnl : ¬ S0 l := fun z => by
      obtain ⟨_, o, ho⟩ := hS0 l z
      rw [ho] at hl
      cases hl
    have hval : Valid T0 (found T0.rows b.toNat e.toNat) := fun x m => by
      have := found_valid _ _ (Nat.le_refl _) x m
      have h3 := hs.2.2
      omega
    obtain ⟨dx, r, d, hp2⟩ := A2.ins
    refine ⟨_, rfl, p, _, _, rfl, hp2, nf_take, _, rfl, p, _, dx, _, _, rfl, hp2, (T.cls 5), (T.noat 17), lk_coming, _, rfl, S0, p, T0, T0.coming, l, _, rfl, A2, hP, hnl, hval, hlen, .inr hb, fun H3 k3 t3 A3 => ?_⟩
    obtain ⟨dx, r, d, hp3, nx⟩ := A3.next
    refine ⟨_, rfl, p, _, dx, _, _, rfl, hp3, (T.cls 5), (T.noat 17), lk_coming, _, _, rfl, rfl, _, rfl, p, _, dx, _, rfl, hp3, (T.cls 5), (T.noat 17), (by show 4 < 1000; decide), ?_⟩
    have ec : putF "coming" (.int ((T0.coming : Int) + 1)) (trF T0.stops r d T0.coming) = trF T0.stops r d (T0.coming + 1) := put_coming
    obtain ⟨mv4, A4⟩ := nx (T0.coming + 1)
    refine ⟨_, rfl, p, _, dx, _, _, rfl, by rw [upd_same]; exact congrArg (fun z => some (HO.ins (He.ga K "Train") dx z)) ec, (T.cls 5), (T.noat 17), lk_coming, _, _, rfl, rfl, ?_⟩
    have e1 : ((T0.coming + 1 : Nat) : Int) - 1 = (T0.coming : Int) := by omega
    show Q (.int (((T0.coming + 1 : Nat) : Int) - 1)) (upd H3 p (.ins (He.ga K "Train") dx (putF "coming" (.int ((T0.coming : Int) + 1)) (trF T0.stops r d T0.coming))))
    rw [e1, ec]
    refine q1 hs hn _ (fun a => S0 a ∨ a = l) (Mv.mk (fun a o na ha => ?_) (fun a xs ha => ?_) fun a ha => ?_) A4
    · have na0 : ¬ S0 a := fun z => na (hS0 a z).1
      have h2 := e2 a o ha
      have hal : a ≠ l := ne_of_none ha hl
      exact mv4.keep a o (fun z => z.elim na0 hal) (k3 a o na0 h2)
    · exact mv4.tups a xs (t3 a xs (e2 a _ ha))
    · rcases ha with ha | ha
      · exact .inl (hS0 a ha).1
      · rw [ha]
        exact .inr hl
theorem sc_Train_back : FnScope ["self", "ticket", "parts"] ["self", "ticket"] (defScope s_Train_back) := ⟨rfl, rfl, rfl, by decide +kernel, rfl, by decide +kernel, by decide +kernel⟩
theorem m_Train_back (T : Tx K mg) : Met P w K mg base 2 (He.ga K "Train") "back" (spBack K) := by
  refine T.met 23 55 5 rfl rfl rfl sc_Train_back (fun _ _ _ _ _ _ us hl => match us, hl with | [_, _], _ => rfl) (fun vs H Q E h => ?_) fun cdv A outer s H vs Q E hr h => ?_
  · first | (obtain ⟨_, rfl, _⟩ := h; rfl) | (obtain ⟨_, _, rfl, _⟩ := h; rfl) | (obtain ⟨_, _, _, rfl, _⟩ := h; rfl) | (obtain ⟨_, _, _, _, rfl, _⟩ := h; rfl) | (obtain ⟨_, _, _, _, _, rfl, _⟩ := h; rfl) | (obtain ⟨_, _, _, _, _, _, rfl, _⟩ := h; rfl) | (obtain ⟨_, _, _, _, _, _, _, rfl, _⟩ := h; rfl) | (obtain ⟨_, _, _, _, _, _, _, _, rfl, _⟩ := h; rfl) | (obtain ⟨_, _, _, _, _, _, _, _, _, rfl, _⟩ := h; rfl) | (obtain ⟨_, _, _, _, _, _, _, _, _, _, rfl, _⟩ := h; rfl) | (obtain ⟨_, _, _, _, _, _, _, _, _, _, _, rfl, _⟩ := h; rfl) | (obtain ⟨_, _, _, _, _, _, _, _, _, _, _, _, rfl, _⟩ := h; rfl) | (obtain ⟨_, _, _, _, _, _, _, _, _, _, _, _, _, rfl, _⟩ := h; rfl) | (obtain ⟨_, _, _, _, _, _, _, _, _, _, _, _, _, _, rfl, _⟩ := h; rfl) | (obtain ⟨_, _, _, _, _, _, _, _, _, _, _, _, _, _, _, rfl, _⟩ := h; rfl)
  · refine ⟨_, (pss_cons (ps_set (i := 2) sc_Train_back.nd rfl (Or.inl rfl) (pe_m (m_Train_parts T) hr (pr (takes_of rfl rfl rfl rfl)) (pv 0) (pa_cons (pv 1) pa_nil)))
      (pss_cons (ps_expr (pe_m (m_Train_mark T) hr pz (pv 0) (pa_cons (pv 2) (pa_cons pe_non pa_nil))))
      (pss_cons (ps_expr (pe_dpop1 (fld_k K (pv 0) rfl) (pv 1) ⟨by rfl, by rfl, by rfl, by rfl⟩))
      (pss_one (ps_ret (pv 2)))))), ?_⟩
    obtain ⟨S, p, T0, t, rfl, A0, G, D⟩ := h
    obtain ⟨dx, r, d, hp⟩ := A0.ins
    unfold runBack at D
    refine ⟨_, rfl, p, _, _, rfl, hp, nf_parts, _, rfl, S, p, T0, t, rfl, A0, fun ps hps H1 l e1 hl hP => ?_, fun hn => ?_⟩
    rotate_left
    · rw [hn] at D
      exact D.ticket rfl H (Evl.Ex.refl H)
    rw [hps] at D
    obtain ⟨n, rfl, mn⟩ := getS_mem hps
    obtain ⟨b, e, hb, he, w⟩ := G.way _ mn
    obtain ⟨S0, hS0, A1⟩ := A0.there
    have A2 := A1.ex e1
    have hnl : ¬ S0 l := fun z => by
      obtain ⟨_, o, ho⟩ := hS0 l z
      rw [ho] at hl
      cases hl
    obtain ⟨dx, r, d, hp2⟩ := A2.ins
    refine ⟨_, rfl, p, _, _, rfl, hp2, nf_mark, _, rfl, S0, p, T0, l, ps, none, rfl, A2, hP, w.valid he, fun H3 mv3 hl3 A3 => ?_⟩
    obtain ⟨dx, r, d, ent, hp3, hd3, hs3, nx⟩ := A3.drop
    obtain ⟨mv4, A4⟩ := nx n
    have hps3 : valV (entD ent) (Sum.inl (n : Int)) ≠ none := fun z => by
      rw [entD_get] at z
      have h2 : getS T0.sold (n : Int) = (ent.find? fun x => decide ((x.1 : Int) = n)).map fun x => x.2.2 := by
        rw [show T0.sold = entS ent from hs3, entS_get]
      rw [h2] at hps
      cases ef : ent.find? fun x => decide ((x.1 : Int) = n) with
      | none =>
        rw [ef] at hps
        cases hps
      | some x =>
        rw [ef] at z
        cases z
    obtain ⟨v, hv⟩ := Option.ne_none_iff_exists'.mp hps3
    refine ⟨_, rfl, p, _, dx, _, _, rfl, hp3, (T.cls 5), (T.noat 10), lk_sold, d, rfl, .inl ⟨_, .inl hd3⟩, _, rfl, entD ent, Sum.inl (n : Int), v, hd3, rfl, hv, ?_⟩
    refine ⟨_, rfl, D.ok rfl _ S0 _ ⟨fun a o na ha => ?_, fun a xs ha => mv4.tups _ _ (mv3.tups _ _ (e1 _ _ ha)), fun a z => .inl (hS0 a z).1⟩ A4 ⟨l, rfl, .inr hl, hnl, ?_⟩⟩
    · have na0 : ¬ S0 a := fun z => na (hS0 a z).1
      exact mv4.keep a o na0 (mv3.keep a o na0 (e1 _ _ ha))
    · obtain ⟨ts, q1, q2⟩ := hP
      have hl4 : H3 l = some (.lst (ts.map V.ref)) := by rw [hl3]; exact q1
      exact ⟨ts, mv4.keep _ _ hnl hl4, q2.mono fun u q z => mv4.tups _ _ (mv3.tups _ _ z)⟩
theorem sc_Train_leave : FnScope ["self", "ticket", "stop", "parts", "kept", "gone", "part"] ["self", "ticket", "stop"] (defScope s_Train_leave) := ⟨rfl, rfl, rfl, by decide +kernel, rfl, by decide +kernel, by decide +kernel⟩
theorem m_Train_leave (T : Tx K mg) : Met P w K mg base 2 (He.ga K "Train") "leave" (spLeave K) := by
  refine T.met 24 59 5 rfl rfl rfl sc_Train_leave (fun _ _ _ _ _ _ us hl => match us, hl with | [_, _, _], _ => rfl) (fun vs H Q E h => ?_) fun cdv A outer s H vs Q E hr h => ?_
  · first | (obtain ⟨_, rfl, _⟩ := h; rfl) | (obtain ⟨_, _, rfl, _⟩ := h; rfl) | (obtain ⟨_, _, _, rfl, _⟩ := h; rfl) | (obtain ⟨_, _, _, _, rfl, _⟩ := h; rfl) | (obtain ⟨_, _, _, _, _, rfl, _⟩ := h; rfl) | (obtain ⟨_, _, _, _, _, _, rfl, _⟩ := h; rfl) | (obtain ⟨_, _, _, _, _, _, _, rfl, _⟩ := h; rfl) | (obtain ⟨_, _, _, _, _, _, _, _, rfl, _⟩ := h; rfl) | (obtain ⟨_, _, _, _, _, _, _, _, _, rfl, _⟩ := h; rfl) | (obtain ⟨_, _, _, _, _, _, _, _, _, _, rfl, _⟩ := h; rfl) | (obtain ⟨_, _, _, _, _, _, _, _, _, _, _, rfl, _⟩ := h; rfl) | (obtain ⟨_, _, _, _, _, _, _, _, _, _, _, _, rfl, _⟩ := h; rfl) | (obtain ⟨_, _, _, _, _, _, _, _, _, _, _, _, _, rfl, _⟩ := h; rfl) | (obtain ⟨_, _, _, _, _, _, _, _, _, _, _, _, _, _, rfl, _⟩ := h; rfl) | (obtain ⟨_, _, _, _, _, _, _, _, _, _, _, _, _, _, _, rfl, _⟩ := h; rfl)
  · refine ⟨_, (pss_cons (ps_set (i := 3) sc_Train_leave.nd rfl (Or.inl rfl) (pe_m (m_Train_parts T) hr (pr (takes_of rfl rfl rfl rfl)) (pv 0) (pa_cons (pv 1) pa_nil)))
      (pss_cons (ps_if (pt_not (pt_chain op_lt op_lt (pe_ix (ix_t K) (pe_ix (ix_l K) (pv 3) pe_int (fun _ _ => rfl)) pe_int (fun _ _ => rfl)) (pv 2) (pe_ix (ix_t K) (pe_ix (ix_l K) (pv 3) (pe_un un_neg pe_int) (fun _ _ => rfl)) pe_int (fun _ _ => rfl))))
        (pss_one (ps_raise rfl (takes_of rfl rfl rfl rfl) (pmk_x T 56 57 rfl rfl)))
        pss_nil)
      (pss_cons (ps_setLc (i := 4) (own := [("part", 6)]) (g := gName 6)  rfl sc_Train_leave.nd rfl rfl (sw_true rfl rfl rfl (by decide +kernel)) (pi_l K (pv 3)) (blkOk_by (N := ["self", "ticket", "stop", "parts", "kept", "gone", "part"]) (sc := defScope s_Train_leave) (by decide +kernel)) (fun _ _ _ _ _ => pg_name (i := 6) sc_Train_leave.nd rfl (Or.inl rfl)) (fun _ _ _ _ _ => (pts_one (pt_cmpR op_lt (pe_ix (ix_t K) (pv 6) pe_int (fun _ _ => rfl)) (pv 2) (nomark _)))) (fun _ _ _ _ _ => (pe_tup (pa_cons (pe_ix (ix_t K) (pv 6) pe_int (fun _ _ => rfl)) (pa_cons (pe_ix (ix_t K) (pv 6) pe_int (fun _ _ => rfl)) (pa_cons (pe_callB (call_min2 rfl) (by rfl) (T.free 33) (by decide +kernel) (pa_cons (pe_ix (ix_t K) (pv 6) pe_int (fun _ _ => rfl)) (pa_cons (pv 2) pa_nil))) pa_nil))))))
      (pss_cons (ps_setLc (i := 5) (own := [("part", 6)]) (g := gName 6)  rfl sc_Train_leave.nd rfl rfl (sw_true rfl rfl rfl (by decide +kernel)) (pi_l K (pv 3)) (blkOk_by (N := ["self", "ticket", "stop", "parts", "kept", "gone", "part"]) (sc := defScope s_Train_leave) (by decide +kernel)) (fun _ _ _ _ _ => pg_name (i := 6) sc_Train_leave.nd rfl (Or.inl rfl)) (fun _ _ _ _ _ => (pts_one (pt_cmpR op_gt (pe_ix (ix_t K) (pv 6) pe_int (fun _ _ => rfl)) (pv 2) (nomark _)))) (fun _ _ _ _ _ => (pe_tup (pa_cons (pe_ix (ix_t K) (pv 6) pe_int (fun _ _ => rfl)) (pa_cons (pe_callB (call_max2 rfl) (by rfl) (T.free 0) (by decide +kernel) (pa_cons (pe_ix (ix_t K) (pv 6) pe_int (fun _ _ => rfl)) (pa_cons (pv 2) pa_nil))) (pa_cons (pe_ix (ix_t K) (pv 6) pe_int (fun _ _ => rfl)) pa_nil))))))
      (pss_cons (ps_expr (pe_m (m_Train_mark T) hr pz (pv 0) (pa_cons (pv 5) (pa_cons pe_non pa_nil))))
      (pss_cons (ps_dput (hu_of hr) (fld_k K (pv 0) rfl) (pv 1) (pv 4) rfl)
      (pss_one (ps_ret (pv 5))))))))), ?_⟩
    obtain ⟨S, p, T0, t, c, rfl, A0, G, few, D⟩ := h
    obtain ⟨dx, r, d, hp⟩ := A0.ins
    unfold runLeave at D
    refine ⟨_, rfl, p, _, _, rfl, hp, nf_parts, _, rfl, S, p, T0, t, rfl, A0, fun ps hps H1 l e1 hl hP => ?_, fun hn => ?_⟩
    rotate_left
    · rw [hn] at D
      exact D.ticket rfl H (Evl.Ex.refl H)
    rw [hps] at D
    dsimp only at D
    obtain ⟨n, rfl, mn⟩ := getS_mem hps
    obtain ⟨b, e, hb, he, w⟩ := G.way _ mn
    dsimp only at w
    have wf := G.wf
    have w2 := wf.t2
    have hlen0 : T0.sold.length < 1000000 := Nat.lt_of_le_of_lt G.many few
    have hpl : ps.length ≤ 100000 := by
      have := w.len
      omega
    have hne := w.ne hb
    obtain ⟨eb, ee⟩ := w.hd hb
    obtain ⟨ts, hl1, hP1⟩ := hP
    obtain ⟨t0, t1, at0, at1, g0, g1⟩ := parts_ends hl1 hP1 hne
    refine ⟨_, rfl, l, _, _, .ref t0, rfl, rfl, SqL.of hl1, at0, t0, _, _, _, rfl, rfl, SqT.of g0, at_of (j := 1) rfl rfl, _, rfl, _, _, rfl, rfl, _, rfl, ?_⟩
    refine iteD (fun h1 => ?_) (fun h1 => ?_)
    rotate_left
    · rw [if_neg (fun z => h1 z.1)] at D
      exact ⟨_, rfl, iteT (D.stop rfl H1 e1)⟩
    refine ⟨_, rfl, _, rfl, l, _, _, .ref t1, rfl, rfl, SqL.of hl1, at1, t1, _, _, _, rfl, rfl, SqT.of g1, at_of (j := 2) rfl rfl, _, _, rfl, rfl, _, rfl, ?_⟩
    refine iteN (fun h2 => ?_) (fun h2 => ?_)
    · rw [if_neg (fun z => h2 z.2)] at D
      exact D.stop rfl H1 e1
    rw [if_pos ⟨h1, h2⟩] at D
    have hc : (c.toNat : Int) = c := by omega
    refine ⟨_, rfl, l, rfl, ⟨_, SqL.of hl1⟩, fun D1 f1 => ?_⟩
    refine lc_parts f1 hl1 hP1 hpl (fun q => decide (q.2.1 < c.toNat)) (fun q => (q.1, q.2.1, min q.2.2 c.toNat)) (fun _ => rfl) (fun q t H2 mq e2 hq Q2 k => ?_) (fun q t H2 mq hf e2 hq Q2 k => ?_) ?_
    · refine ⟨_, rfl, t, _, _, _, rfl, rfl, SqT.of hq, at_of (j := 1) rfl rfl, _, rfl, _, _, rfl, rfl, _, rfl, ?_⟩
      have : decide ((q.2.1 : Int) < c) = decide (q.2.1 < c.toNat) := decide_eq_decide.mpr (by omega)
      rw [this]
      exact k
    · refine ⟨_, rfl, t, _, _, _, rfl, rfl, SqT.of hq, at_of (j := 0) rfl rfl, _, rfl, t, _, _, _, rfl, rfl, SqT.of hq, at_of (j := 1) rfl rfl, _, rfl, t, _, _, _, rfl, rfl, SqT.of hq, at_of (j := 2) rfl rfl, _, rfl, _, _, rfl, ?_⟩
      have hm : (if c < (q.2.2 : Int) then c else (q.2.2 : Int)) = ((min q.2.2 c.toNat : Nat) : Int) := by split <;> omega
      rw [hm]
      exact ⟨by show 3 ≤ sizeLine; decide, fun a ha => k a ha⟩
    intro H2 e2 PK
    have hl2 := e2 _ _ hl1
    have hP2 : All2 (PartAt H2) ts ps := hP1.mono fun _ _ z => e2 _ _ z
    refine ⟨_, rfl, l, rfl, ⟨_, SqL.of hl2⟩, fun D2 f2 => ?_⟩
    refine lc_parts f2 hl2 hP2 hpl (fun q => decide (c.toNat < q.2.2)) (fun q => (q.1, max q.2.1 c.toNat, q.2.2)) (fun _ => rfl) (fun q t H2 mq e2 hq Q2 k => ?_) (fun q t H2 mq hf e2 hq Q2 k => ?_) ?_
    · refine ⟨_, rfl, t, _, _, _, rfl, rfl, SqT.of hq, at_of (j := 2) rfl rfl, _, rfl, _, _, rfl, rfl, _, rfl, ?_⟩
      have : decide ((q.2.2 : Int) > c) = decide (c.toNat < q.2.2) := decide_eq_decide.mpr (by omega)
      rw [this]
      exact k
    · refine ⟨_, rfl, t, _, _, _, rfl, rfl, SqT.of hq, at_of (j := 0) rfl rfl, _, rfl, t, _, _, _, rfl, rfl, SqT.of hq, at_of (j := 1) rfl rfl, _, rfl, _, _, rfl, ?_⟩
      have hm : (if c > (q.2.1 : Int) then c else (q.2.1 : Int)) = ((max q.2.1 c.toNat : Nat) : Int) := by split <;> omega
      rw [hm]
      exact ⟨_, rfl, t, _, _, _, rfl, rfl, SqT.of hq, at_of (j := 2) rfl rfl, by show 3 ≤ sizeLine; decide, fun a ha => k a ha⟩
    intro H3 e3 PG
    obtain ⟨S0, hS0, B0⟩ := A0.there
    have B3 := ((B0.ex e1).ex e2).ex e3
    have E3 : Ex H H3 := e1.trans (e2.trans e3)
    have f1H : H D1 = none := Evl.fresh_back e1 f1
    have f2H : H D2 = none := Evl.fresh_back (e1.trans e2) f2
    have nS : ∀ a, H a = none → ¬ S0 a := fun a ha z => by
      obtain ⟨_, o, ho⟩ := hS0 a z
      rw [ho] at ha
      cases ha
    have wg := gone_way w (s := c.toNat) (by omega) (by omega)
    obtain ⟨dx, r, d, hp3⟩ := B3.ins
    refine ⟨_, rfl, p, _, _, rfl, hp3, nf_mark, _, rfl, S0, p, T0, D2, goneP ps c.toNat, none, rfl, B3, PG, wg.valid he, fun H4 mv4 hl4 B4 => ?_⟩
    obtain ⟨r, d, as, ent, R, sp, sr, sd, sa, sl⟩ := id B4
    obtain ⟨dx, hp4⟩ := R.ins
    have hel : (entD ent).length < sizeLine := by
      have : (entD ent).length = T0.sold.length := by
        rw [show T0.sold = _ from R.sold]
        unfold entD entS
        rw [List.length_map, List.length_map]
      rw [this]
      exact Nat.lt_trans hlen0 (by decide)
    obtain ⟨us, hk3, hK3⟩ := PK.mono e3
    have hk4 : H4 D1 = some (.lst (us.map V.ref)) := mv4.keep _ _ (nS _ f1H) hk3
    have R2 := R.put n D1 (keptP ps c.toNat) (nS _ f1H) sd (fun m => sa D1 m) (.inl ⟨_, mn, rfl⟩) hk4 (hK3.mono fun _ _ z => mv4.tups _ _ z)
    refine ⟨_, rfl, _, rfl, p, _, dx, _, _, rfl, hp4, (T.cls 5), (T.noat 10), lk_sold, _, rfl, d, _, rfl, DPut.k (k := Sum.inl (n : Int)) R.dict hel, ?_⟩
    refine ⟨_, rfl, D.ok rfl _ (fun a => S0 a ∨ a = D1) _ ⟨fun a o na ha => ?_, fun a xs ha => ?_, fun a z => ?_⟩ ⟨r, d, as, _, R2, .inl sp, .inl sr, .inl sd, fun a m => .inl (sa a m), fun x m => ent_in (Z := fun a => S0 a ∨ a = D1) m (fun y my => .inl (sl y my)) (.inr rfl)⟩ ⟨D2, rfl, .inr f2H, fun z => ?_, ?_⟩⟩
    · have na0 : ¬ S0 a := fun z => na (hS0 a z).1
      have had : a ≠ d := fun z => na0 (by rw [z]; exact sd)
      rw [upd_ne had]
      exact mv4.keep a o na0 (E3 _ _ ha)
    · have := mv4.tups a xs (E3 _ _ ha)
      rw [upd_ne (ne_of this R.dict (fun z => by cases z))]
      exact this
    · rcases z with z | z
      · exact .inl (hS0 a z).1
      · rw [z]
        exact .inr f1H
    · rcases z with z | z
      · exact nS _ f2H z
      · obtain ⟨vs, hv, _⟩ := PK
        rw [z, hv] at f2
        cases f2
    · obtain ⟨vs, q1, q2⟩ := PG
      have hg4 : H4 D2 = some (.lst (vs.map V.ref)) := by rw [hl4]; exact q1
      refine ⟨vs, ?_, q2.mono fun u q z => ?_⟩
      · rw [upd_ne (ne_of hg4 R.dict (fun z => by cases z))]
        exact hg4
      · have z2 : H4 u = some (.tup (pV q)) := mv4.tups _ _ z
        show upd H4 d _ u = _
        rw [upd_ne (ne_of z2 R.dict (fun z => by cases z))]
        exact z2
theorem sc_Train_reseat : FnScope ["self", "ticket", "parts"] ["self", "ticket"] (defScope s_Train_reseat) := ⟨rfl, rfl, rfl, by decide +kernel, rfl, by decide +kernel, by decide +kernel⟩
theorem m_Train_reseat (T : Tx K mg) : Met P w K mg base 4 (He.ga K "Train") "reseat" (spReseat K) := by
  refine T.met 25 60 5 rfl rfl rfl sc_Train_reseat (fun _ _ _ _ _ _ us hl => match us, hl with | [_, _], _ => rfl) (fun vs H Q E h => ?_) fun cdv A outer s H vs Q E hr h => ?_
  · first | (obtain ⟨_, rfl, _⟩ := h; rfl) | (obtain ⟨_, _, rfl, _⟩ := h; rfl) | (obtain ⟨_, _, _, rfl, _⟩ := h; rfl) | (obtain ⟨_, _, _, _, rfl, _⟩ := h; rfl) | (obtain ⟨_, _, _, _, _, rfl, _⟩ := h; rfl) | (obtain ⟨_, _, _, _, _, _, rfl, _⟩ := h; rfl) | (obtain ⟨_, _, _, _, _, _, _, rfl, _⟩ := h; rfl) | (obtain ⟨_, _, _, _, _, _, _, _, rfl, _⟩ := h; rfl) | (obtain ⟨_, _, _, _, _, _, _, _, _, rfl, _⟩ := h; rfl) | (obtain ⟨_, _, _, _, _, _, _, _, _, _, rfl, _⟩ := h; rfl) | (obtain ⟨_, _, _, _, _, _, _, _, _, _, _, rfl, _⟩ := h; rfl) | (obtain ⟨_, _, _, _, _, _, _, _, _, _, _, _, rfl, _⟩ := h; rfl) | (obtain ⟨_, _, _, _, _, _, _, _, _, _, _, _, _, rfl, _⟩ := h; rfl) | (obtain ⟨_, _, _, _, _, _, _, _, _, _, _, _, _, _, rfl, _⟩ := h; rfl) | (obtain ⟨_, _, _, _, _, _, _, _, _, _, _, _, _, _, _, rfl, _⟩ := h; rfl)
  · refine ⟨_, (pss_cons (ps_set (i := 2) sc_Train_reseat.nd rfl (Or.inl rfl) (pe_m (m_Train_parts T) hr (pr (takes_of rfl rfl rfl rfl)) (pv 0) (pa_cons (pv 1) pa_nil)))
      (pss_cons (ps_expr (pe_m (m_Train_mark T) hr pz (pv 0) (pa_cons (pv 2) (pa_cons pe_non pa_nil))))
      (pss_cons (ps_expr (pe_m (m_Train_take T) hr pz (pv 0) (pa_cons (pv 1) (pa_cons (pe_c (c_found_parts T) hr pz (pa_cons (fld_k K (pv 0) rfl) (pa_cons (pe_ix (ix_t K) (pe_ix (ix_l K) (pv 2) pe_int (fun _ _ => rfl)) pe_int (fun _ _ => rfl)) (pa_cons (pe_ix (ix_t K) (pe_ix (ix_l K) (pv 2) (pe_un un_neg pe_int) (fun _ _ => rfl)) pe_int (fun _ _ => rfl)) pa_nil)))) pa_nil))))
      (pss_one (ps_ret (pe_m (m_Train_parts T) hr (pr (takes_of rfl rfl rfl rfl)) (pv 0) (pa_cons (pv 1) pa_nil))))))), ?_⟩
    obtain ⟨S, p, T0, t, rfl, A0, G, few, D⟩ := h
    obtain ⟨dx, r, d, hp⟩ := A0.ins
    unfold runReseat at D
    refine ⟨_, rfl, p, _, _, rfl, hp, nf_parts, _, rfl, S, p, T0, t, rfl, A0, fun ps hps H1 l e1 hl hP => ?_, fun hn => ?_⟩
    rotate_left
    · rw [hn] at D
      exact D.ticket rfl H (Evl.Ex.refl H)
    rw [hps] at D
    dsimp only at D
    obtain ⟨n, rfl, mn⟩ := getS_mem hps
    obtain ⟨b, e, hb, he, w⟩ := G.way _ mn
    dsimp only at w
    have wf := G.wf
    have w2 := wf.t2
    have hlen0 : T0.sold.length < 1000000 := Nat.lt_of_le_of_lt G.many few
    have hne := w.ne hb
    obtain ⟨eb, ee⟩ := w.hd hb
    obtain ⟨en, wn, fr⟩ := newP_way wf w hb he
    have Gn := G.reseat mn
    obtain ⟨S0, hS0, B0⟩ := A0.there
    have B1 := B0.ex e1
    have nS : ∀ a, H a = none → ¬ S0 a := fun a ha z => by
      obtain ⟨_, o, ho⟩ := hS0 a z
      rw [ho] at ha
      cases ha
    obtain ⟨dx, r, d, hp1⟩ := B1.ins
    refine ⟨_, rfl, p, _, _, rfl, hp1, nf_mark, _, rfl, S0, p, T0, l, ps, none, rfl, B1, hP, w.valid he, fun H2 mv2 hl2 B2 => ?_⟩
    obtain ⟨ts, hl1, hP1⟩ := hP
    rw [hl1] at hl2
    obtain ⟨t0, t1, at0, at1, g0, g1⟩ := parts_ends hl2 (hP1.mono fun _ _ z => mv2.tups _ _ z) hne
    obtain ⟨S1, hS1, C2⟩ := B2.there
    obtain ⟨r, d, as, ent, R, z0⟩ := id C2
    obtain ⟨dx, hp2⟩ := R.ins
    refine ⟨_, rfl, p, _, _, rfl, hp2, nf_take, _, rfl, _, rfl, p, _, dx, _, _, rfl, hp2, (T.cls 5), (T.noat 6), lk_rows, _, rfl, l, _, _, .ref t0, rfl, rfl, SqL.of hl2, at0, t0, _, _, _, rfl, rfl, SqT.of g0, at_of (j := 1) rfl rfl, _, rfl, _, rfl, l, _, _, .ref t1, rfl, rfl, SqL.of hl2, at1, t1, _, _, _, rfl, rfl, SqT.of g1, at_of (j := 2) rfl rfl, r, as, _, (hdP ps).2.1, (ltP ps).2.2, rfl, R.grid, by omega, fun H3 l3 e3 hl3 P3 => ?_⟩
    have C3 := C2.ex e3
    have nS1 : ∀ a, H2 a = none → ¬ S1 a := fun a ha z => by
      obtain ⟨_, o, ho⟩ := hS1 a z
      rw [ho] at ha
      cases ha
    have to2 : ∀ a o, ¬ S0 a → H a = some o → H2 a = some o := fun a o na ha => mv2.keep a o na (e1 _ _ ha)
    have back2 : ∀ a, H2 a = none → S a ∨ H a = none := fun a ha => by
      by_cases c : S0 a
      · exact .inl (hS0 a c).1
      · cases ho : H a with
        | none => exact .inr rfl
        | some o =>
          rw [to2 a o c ho] at ha
          cases ha
    have vn : Valid (T0.mark ps none) (newP T0 ps) := fun q mq => by
      have := wn.valid he q mq
      refine ⟨?_, this.2⟩
      show _ < (markAll _ _ _).length
      rw [markAll_len]
      exact this.1
    refine ⟨S1, p, T0.mark ps none, n, l3, newP T0 ps, rfl, C3, P3, nS1 _ hl3, vn, hlen0, .inl ⟨_, mn, rfl⟩, fun H4 k4 t4 C4 => ?_⟩
    have eT : (T0.mark ps none).take n (newP T0 ps) = T0.reseat n ps := rfl
    rw [eT] at C4
    obtain ⟨S2, hS2, D4⟩ := C4.there
    obtain ⟨dx, r, d, hp4⟩ := D4.ins
    have hg : getS (T0.reseat n ps).sold (n : Int) = some (newP T0 ps) := getS_putS Gn.wf.rising
    refine ⟨_, rfl, p, _, _, rfl, hp4, nf_parts, _, rfl, S2, p, _, (n : Int), rfl, D4, fun ps5 hps5 H5 l5 e5 hl5 hP5 => ?_, fun z => (by rw [hg] at z; cases z)⟩
    rw [hg] at hps5
    cases hps5
    refine D.ok rfl H5 S2 _ ⟨fun a o na ha => ?_, fun a xs ha => ?_, fun a z => ?_⟩ (D4.ex e5) ⟨l5, rfl, ?_, fun z => ?_, hP5⟩
    · have na0 : ¬ S0 a := fun z => na (hS0 a z).1
      have na1 : ¬ S1 a := fun z => na0 (hS1 a z).1
      exact e5 _ _ (k4 a o na1 (e3 _ _ (to2 a o na0 ha)))
    · exact e5 _ _ (t4 a xs (e3 _ _ (mv2.tups a xs (e1 _ _ ha))))
    · rcases (hS2 a z).1 with z1 | z1
      · exact .inl (hS0 a (hS1 a z1).1).1
      · rw [z1]
        exact back2 l3 hl3
    · by_cases c : S0 l5
      · exact .inl (hS0 l5 c).1
      · refine .inr ?_
        cases ho : H l5 with
        | none => rfl
        | some o =>
          rw [k4 l5 o (fun z => c (hS1 l5 z).1) (e3 _ _ (to2 l5 o c ho))] at hl5
          cases hl5
    · obtain ⟨_, o, ho⟩ := hS2 l5 z
      rw [ho] at hl5
      cases hl5
theorem sc_law_told : FnScope ["_law_train", "_law_deed"] ["_law_train", "_law_deed"] (defScope s_law_told) := ⟨rfl, rfl, rfl, by decide +kernel, rfl, by decide +kernel, by decide +kernel⟩
theorem c_law_told (T : Tx K mg) : Cal P w K mg base 6 "_law_told" (spTold13 K) := by
  refine T.cal 26 61 rfl rfl sc_law_told (fun _ _ _ _ _ _ us hl => match us, hl with | [_, _], _ => rfl) (fun vs H Q E h => ?_) fun cdv A outer s H vs Q E hr h => ?_
  · first | (obtain ⟨_, rfl, _⟩ := h; rfl) | (obtain ⟨_, _, rfl, _⟩ := h; rfl) | (obtain ⟨_, _, _, rfl, _⟩ := h; rfl) | (obtain ⟨_, _, _, _, rfl, _⟩ := h; rfl) | (obtain ⟨_, _, _, _, _, rfl, _⟩ := h; rfl) | (obtain ⟨_, _, _, _, _, _, rfl, _⟩ := h; rfl) | (obtain ⟨_, _, _, _, _, _, _, rfl, _⟩ := h; rfl) | (obtain ⟨_, _, _, _, _, _, _, _, rfl, _⟩ := h; rfl) | (obtain ⟨_, _, _, _, _, _, _, _, _, rfl, _⟩ := h; rfl) | (obtain ⟨_, _, _, _, _, _, _, _, _, _, rfl, _⟩ := h; rfl) | (obtain ⟨_, _, _, _, _, _, _, _, _, _, _, rfl, _⟩ := h; rfl) | (obtain ⟨_, _, _, _, _, _, _, _, _, _, _, _, rfl, _⟩ := h; rfl) | (obtain ⟨_, _, _, _, _, _, _, _, _, _, _, _, _, rfl, _⟩ := h; rfl) | (obtain ⟨_, _, _, _, _, _, _, _, _, _, _, _, _, _, rfl, _⟩ := h; rfl) | (obtain ⟨_, _, _, _, _, _, _, _, _, _, _, _, _, _, _, rfl, _⟩ := h; rfl)
  · refine ⟨_, (pss_cons (ps_if (pt_cmpR op_eq (pe_ix (ix_t K) (pv 1) pe_int (fun _ _ => rfl)) pe_str (nomark _))
        (pss_one (ps_ret (pe_m (m_Train_sell T) hr (pr (takes_of rfl rfl rfl rfl)) (pv 0) (pa_cons (pe_ix (ix_t K) (pv 1) pe_int (fun _ _ => rfl)) (pa_cons (pe_ix (ix_t K) (pv 1) pe_int (fun _ _ => rfl)) pa_nil)))))
        pss_nil)
      (pss_cons (ps_if (pt_cmpR op_eq (pe_ix (ix_t K) (pv 1) pe_int (fun _ _ => rfl)) pe_str (nomark _))
        (pss_one (ps_ret (pe_m (m_Train_back T) hr (pr (takes_of rfl rfl rfl rfl)) (pv 0) (pa_cons (pe_ix (ix_t K) (pv 1) pe_int (fun _ _ => rfl)) pa_nil))))
        pss_nil)
      (pss_cons (ps_if (pt_cmpR op_eq (pe_ix (ix_t K) (pv 1) pe_int (fun _ _ => rfl)) pe_str (nomark _))
        (pss_one (ps_ret (pe_m (m_Train_leave T) hr (pr (takes_of rfl rfl rfl rfl)) (pv 0) (pa_cons (pe_ix (ix_t K) (pv 1) pe_int (fun _ _ => rfl)) (pa_cons (pe_ix (ix_t K) (pv 1) pe_int (fun _ _ => rfl)) pa_nil)))))
        pss_nil)
      (pss_one (ps_ret (pe_m (m_Train_reseat T) hr (pr (takes_of rfl rfl rfl rfl)) (pv 0) (pa_cons (pe_ix (ix_t K) (pv 1) pe_int (fun _ _ => rfl)) pa_nil))))))), ?_⟩
    obtain ⟨S, p, T0, d, ⟨k, a, b⟩, rfl, A0, G, few, hd, D⟩ := h
    have hd' : H d = some (.tup [.str k.str, .int a, .int b]) := hd
    obtain ⟨dx, r, d0, hp⟩ := A0.ins
    have hlen0 : T0.sold.length < 1000000 := few.1
    refine ⟨_, rfl, d, _, _, _, rfl, rfl, SqT.of hd', at_of (j := 0) rfl rfl, rfl, _, rfl, ?_⟩
    refine iteD (fun h1 => ?_) (fun h1 => ?_)
    · have hk : k = .sell := by
        cases k with
        | sell => rfl
        | back => exact absurd (V.str.inj h1) (by decide +kernel)
        | leave => exact absurd (V.str.inj h1) (by decide +kernel)
        | reseat => exact absurd (V.str.inj h1) (by decide +kernel)
      subst hk
      have D' : DeedSp K H S p (runSell T0 a b) Q E := D
      unfold runSell at D'
      refine ⟨_, rfl, p, _, _, rfl, hp, nf_sell, _, rfl, d, _, _, _, rfl, rfl, SqT.of hd', at_of (j := 1) rfl rfl, _, rfl, d, _, _, _, rfl, rfl, SqT.of hd', at_of (j := 2) rfl rfl, S, p, T0, a, b, rfl, A0, G.low, hlen0, fun hs hf H' S' mv A' => ?_, fun hs hf H' e => ?_, fun hb => ?_⟩
      · rw [if_pos hs, if_pos hf] at D'
        exact D'.ok rfl H' S' _ mv A' rfl
      · rw [if_pos hs, if_neg hf] at D'
        exact D'.full rfl H' e
      · rw [if_neg hb] at D'
        exact D'.stretch rfl H (Evl.Ex.refl H)
    refine ⟨_, rfl, d, _, _, _, rfl, rfl, SqT.of hd', at_of (j := 0) rfl rfl, rfl, _, rfl, ?_⟩
    refine iteD (fun h2 => ?_) (fun h2 => ?_)
    · have hk : k = .back := by
        cases k with
        | back => rfl
        | sell => exact absurd (V.str.inj h2) (by decide +kernel)
        | leave => exact absurd (V.str.inj h2) (by decide +kernel)
        | reseat => exact absurd (V.str.inj h2) (by decide +kernel)
      subst hk
      exact ⟨_, rfl, p, _, _, rfl, hp, nf_back, _, rfl, d, _, _, _, rfl, rfl, SqT.of hd', at_of (j := 1) rfl rfl, S, p, T0, a, rfl, A0, G, D⟩
    refine ⟨_, rfl, d, _, _, _, rfl, rfl, SqT.of hd', at_of (j := 0) rfl rfl, rfl, _, rfl, ?_⟩
    refine iteD (fun h3 => ?_) (fun h3 => ?_)
    · have hk : k = .leave := by
        cases k with
        | leave => rfl
        | sell => exact absurd (V.str.inj h3) (by decide +kernel)
        | back => exact absurd (V.str.inj h3) (by decide +kernel)
        | reseat => exact absurd (V.str.inj h3) (by decide +kernel)
      subst hk
      exact ⟨_, rfl, p, _, _, rfl, hp, nf_leave, _, rfl, d, _, _, _, rfl, rfl, SqT.of hd', at_of (j := 1) rfl rfl, _, rfl, d, _, _, _, rfl, rfl, SqT.of hd', at_of (j := 2) rfl rfl, S, p, T0, a, b, rfl, A0, G, few.2 (by intro z; cases z), D⟩
    have hk : k = .reseat := by
      cases k with
      | reseat => rfl
      | sell => exact absurd rfl h1
      | back => exact absurd rfl h2
      | leave => exact absurd rfl h3
    subst hk
    exact ⟨_, rfl, p, _, _, rfl, hp, nf_reseat, _, rfl, d, _, _, _, rfl, rfl, SqT.of hd', at_of (j := 1) rfl rfl, S, p, T0, a, rfl, A0, G, few.2 (by intro z; cases z), D⟩
theorem sc_law_class : FnScope ["_law_e", "_law_words"] ["_law_e"] (defScope s_law_class) := ⟨rfl, rfl, rfl, by decide +kernel, rfl, by decide +kernel, by decide +kernel⟩
theorem h_law_class (T : Tx K mg) : CalP P w K mg base 1 "_law_class" (spClass K) := by
  refine T.calP 27 67 rfl rfl sc_law_class (fun _ _ _ _ _ _ us hl => match us, hl with | [_], _ => rfl) (fun p vs H Q E h => ?_) fun cdv A outer s H vs Q p hr h => ?_
  · first | (obtain ⟨_, rfl, _⟩ := h; rfl) | (obtain ⟨_, _, rfl, _⟩ := h; rfl) | (obtain ⟨_, _, _, rfl, _⟩ := h; rfl) | (obtain ⟨_, _, _, _, rfl, _⟩ := h; rfl) | (obtain ⟨_, _, _, _, _, rfl, _⟩ := h; rfl) | (obtain ⟨_, _, _, _, _, _, rfl, _⟩ := h; rfl) | (obtain ⟨_, _, _, _, _, _, _, rfl, _⟩ := h; rfl) | (obtain ⟨_, _, _, _, _, _, _, _, rfl, _⟩ := h; rfl) | (obtain ⟨_, _, _, _, _, _, _, _, _, rfl, _⟩ := h; rfl) | (obtain ⟨_, _, _, _, _, _, _, _, _, _, rfl, _⟩ := h; rfl) | (obtain ⟨_, _, _, _, _, _, _, _, _, _, _, rfl, _⟩ := h; rfl) | (obtain ⟨_, _, _, _, _, _, _, _, _, _, _, _, rfl, _⟩ := h; rfl) | (obtain ⟨_, _, _, _, _, _, _, _, _, _, _, _, _, rfl, _⟩ := h; rfl) | (obtain ⟨_, _, _, _, _, _, _, _, _, _, _, _, _, _, rfl, _⟩ := h; rfl) | (obtain ⟨_, _, _, _, _, _, _, _, _, _, _, _, _, _, _, rfl, _⟩ := h; rfl)
  · obtain ⟨D, hD, rfl, hz, hf, q⟩ := h; obtain ⟨hC, hk, hv⟩ := excAll_ok T.x hD
    refine ⟨_, (pss_cons (ps_set (i := 1) sc_law_class.nd rfl (Or.inl rfl) (pe_lst pa_nil))
      (pss_cons (ps_if (pt_val (pe_callB (call_isP (List.mem_singleton.mpr rfl) hC hz hf) (by rfl) (T.free 30) (by decide +kernel) (pa_cons (pv 0) (pa_cons (pe_glob (v := .ref _) rfl (T.glo 25) rfl) pa_nil))))
        (pss_one (ps_expr (pe_bm PySem.F.plainAttrs_list PySem.F.slot_list_append PySem.F.type_list_append mt_append (pv 1) (pa_cons pe_str pa_nil))))
        pss_nil)
      (pss_cons (ps_if (pt_val (pe_callB (call_isP (List.mem_singleton.mpr rfl) hC hz hf) (by rfl) (T.free 30) (by decide +kernel) (pa_cons (pv 0) (pa_cons (pe_glob (v := .ref _) rfl (T.glo 41) rfl) pa_nil))))
        (pss_one (ps_expr (pe_bm PySem.F.plainAttrs_list PySem.F.slot_list_append PySem.F.type_list_append mt_append (pv 1) (pa_cons pe_str pa_nil))))
        pss_nil)
      (pss_cons (ps_if (pt_val (pe_callB (call_isP (List.mem_singleton.mpr rfl) hC hz hf) (by rfl) (T.free 30) (by decide +kernel) (pa_cons (pv 0) (pa_cons (pe_glob (v := .ref _) rfl (T.glo 62) rfl) pa_nil))))
        (pss_one (ps_expr (pe_bm PySem.F.plainAttrs_list PySem.F.slot_list_append PySem.F.type_list_append mt_append (pv 1) (pa_cons pe_str pa_nil))))
        pss_nil)
      (pss_cons (ps_if (pt_val (pe_callB (call_isP (List.mem_singleton.mpr rfl) hC hz hf) (by rfl) (T.free 30) (by decide +kernel) (pa_cons (pv 0) (pa_cons (pe_glob (v := .ref _) rfl (T.glo 57) rfl) pa_nil))))
        (pss_one (ps_expr (pe_bm PySem.F.plainAttrs_list PySem.F.slot_list_append PySem.F.type_list_append mt_append (pv 1) (pa_cons pe_str pa_nil))))
        pss_nil)
      (pss_cons (ps_if (pt_val (pe_callB (call_isP (List.mem_singleton.mpr rfl) hC hz hf) (by rfl) (T.free 30) (by decide +kernel) (pa_cons (pv 0) (pa_cons (pe_glob (v := .ref _) rfl (T.glo 63) rfl) pa_nil))))
        (pss_one (ps_expr (pe_bm PySem.F.plainAttrs_list PySem.F.slot_list_append PySem.F.type_list_append mt_append (pv 1) (pa_cons pe_str pa_nil))))
        pss_nil)
      (pss_cons (ps_if (pt_val (pe_callB (call_isP (List.mem_singleton.mpr rfl) hC hz hf) (by rfl) (T.free 30) (by decide +kernel) (pa_cons (pv 0) (pa_cons (pe_glob (v := .ref _) rfl (T.glo 12) rfl) pa_nil))))
        (pss_one (ps_expr (pe_bm PySem.F.plainAttrs_list PySem.F.slot_list_append PySem.F.type_list_append mt_append (pv 1) (pa_cons pe_str pa_nil))))
        pss_nil)
      (pss_cons (ps_if (pt_val (pe_callB (call_isP (List.mem_singleton.mpr rfl) hC hz hf) (by rfl) (T.free 30) (by decide +kernel) (pa_cons (pv 0) (pa_cons (pe_glob (v := .ref _) rfl (T.glo 38) rfl) pa_nil))))
        (pss_one (ps_expr (pe_bm PySem.F.plainAttrs_list PySem.F.slot_list_append PySem.F.type_list_append mt_append (pv 1) (pa_cons pe_str pa_nil))))
        pss_nil)
      (pss_cons (ps_if (pt_val (pe_callB (call_isP (List.mem_singleton.mpr rfl) hC hz hf) (by rfl) (T.free 30) (by decide +kernel) (pa_cons (pv 0) (pa_cons (pe_glob (v := .ref _) rfl (T.glo 64) rfl) pa_nil))))
        (pss_one (ps_expr (pe_bm PySem.F.plainAttrs_list PySem.F.slot_list_append PySem.F.type_list_append mt_append (pv 1) (pa_cons pe_str pa_nil))))
        pss_nil)
      (pss_cons (ps_if (pt_val (pe_callB (call_isP (List.mem_singleton.mpr rfl) hC hz hf) (by rfl) (T.free 30) (by decide +kernel) (pa_cons (pv 0) (pa_cons (pe_glob (v := .ref _) rfl (T.glo 65) rfl) pa_nil))))
        (pss_one (ps_expr (pe_bm PySem.F.plainAttrs_list PySem.F.slot_list_append PySem.F.type_list_append mt_append (pv 1) (pa_cons pe_str pa_nil))))
        pss_nil)
      (pss_cons (ps_if (PW.pt (pw_and (pt_cmpR op_eq (pe_callB (len_k K) (by rfl) (T.free 1) PySem.boot_len (pa_cons (pv 1) pa_nil)) pe_int (nomark _)) (pw_and1 (pt_val (pe_callB (call_isP (List.mem_singleton.mpr rfl) hC hz hf) (by rfl) (T.free 30) (by decide +kernel) (pa_cons (pv 0) (pa_cons (pe_bltn (v := .ty "ValueError") rfl (T.free 66) (by decide +kernel) rfl) pa_nil)))))))
        (pss_one (ps_ret (pe_ix (ix_l K) (pv 1) pe_int (fun _ _ => rfl))))
        pss_nil)
      (pss_one (ps_ret pe_str))))))))))))), ?_⟩
    refine ⟨Nat.zero_le _, fun l hl => ?_⟩
    have h0 : upd H l (.lst []) l = some (.lst []) := upd_same
    have l0 : ([] : List V).length ≤ 0 := Nat.le_refl 0
    refine cls_step h0 l0 (by decide) (hk "NoTrain" (by decide +kernel)) fun H1 e1 h1 l1 => ?_
    refine cls_step h1 l1 (by decide) (hk "NoStretch" (by decide +kernel)) fun H2 e2 h2 l2 => ?_
    refine cls_step h2 l2 (by decide) (hk "NoSeat" (by decide +kernel)) fun H3 e3 h3 l3 => ?_
    refine cls_step h3 l3 (by decide) (hk "NoStop" (by decide +kernel)) fun H4 e4 h4 l4 => ?_
    refine cls_step h4 l4 (by decide) (hk "NoLeg" (by decide +kernel)) fun H5 e5 h5 l5 => ?_
    refine cls_step h5 l5 (by decide) (hk "NoTicket" (by decide +kernel)) fun H6 e6 h6 l6 => ?_
    refine cls_step h6 l6 (by decide) (hk "Full" (by decide +kernel)) fun H7 e7 h7 l7 => ?_
    refine cls_step h7 l7 (by decide) (hk "Shared" (by decide +kernel)) fun H8 e8 h8 l8 => ?_
    refine cls_step h8 l8 (by decide) (hk "NoText" (by decide +kernel)) fun H9 e9 h9 l9 => ?_
    have hw : H9 l = some (.lst [.str (excW D)]) := by
      rw [← wordsOf_eq D hD]
      exact h9
    have ex : Evl.Ex H H9 := fun c o hc => by
      have hne : c ≠ l := ne_of_none hc hl
      refine e9 c o hne (e8 c o hne (e7 c o hne (e6 c o hne (e5 c o hne (e4 c o hne (e3 c o hne (e2 c o hne (e1 c o hne ?_))))))))
      rw [upd_ne hne]
      exact hc
    refine ⟨_, rfl, l, _, rfl, .inl (SqL.of hw), rfl, _, rfl, ?_⟩
    refine iteT ?_
    refine ⟨_, rfl, .ty "ValueError", .type "ValueError", true, rfl, fun u r => r, hv, _, rfl, ?_⟩
    refine iteT ?_
    exact ⟨_, rfl, l, _, _, _, rfl, rfl, SqL.of hw, rfl, q H9 ex⟩
theorem sc_law_word : FnScope ["_law_train", "_law_deed", "_law_e"] ["_law_train", "_law_deed"] (defScope s_law_word) := ⟨rfl, rfl, rfl, by decide +kernel, rfl, by decide +kernel, by decide +kernel⟩
theorem c_law_word (T : Tx K mg) : Cal P w K mg base 7 "_law_word" (spWord13 K) := by
  refine T.cal 28 68 rfl rfl sc_law_word (fun _ _ _ _ _ _ us hl => match us, hl with | [_, _], _ => rfl) (fun vs H Q E h => ?_) fun cdv A outer s H vs Q E hr h => ?_
  · first | (obtain ⟨_, rfl, _⟩ := h; rfl) | (obtain ⟨_, _, rfl, _⟩ := h; rfl) | (obtain ⟨_, _, _, rfl, _⟩ := h; rfl) | (obtain ⟨_, _, _, _, rfl, _⟩ := h; rfl) | (obtain ⟨_, _, _, _, _, rfl, _⟩ := h; rfl) | (obtain ⟨_, _, _, _, _, _, rfl, _⟩ := h; rfl) | (obtain ⟨_, _, _, _, _, _, _, rfl, _⟩ := h; rfl) | (obtain ⟨_, _, _, _, _, _, _, _, rfl, _⟩ := h; rfl) | (obtain ⟨_, _, _, _, _, _, _, _, _, rfl, _⟩ := h; rfl) | (obtain ⟨_, _, _, _, _, _, _, _, _, _, rfl, _⟩ := h; rfl) | (obtain ⟨_, _, _, _, _, _, _, _, _, _, _, rfl, _⟩ := h; rfl) | (obtain ⟨_, _, _, _, _, _, _, _, _, _, _, _, rfl, _⟩ := h; rfl) | (obtain ⟨_, _, _, _, _, _, _, _, _, _, _, _, _, rfl, _⟩ := h; rfl) | (obtain ⟨_, _, _, _, _, _, _, _, _, _, _, _, _, _, rfl, _⟩ := h; rfl) | (obtain ⟨_, _, _, _, _, _, _, _, _, _, _, _, _, _, _, rfl, _⟩ := h; rfl)
  · refine ⟨_, (pss_one (ps_try_as (i := 2) rfl rfl sc_law_word.nd rfl rfl ⟨rfl, by decide, Or.inl (T.glo 36)⟩ takes0
        (fun W pn xe tk po => (pss_one (ps_ret (pe_tup (pa_cons pe_str (pa_cons (pe_c (c_law_told T) hr (pr tk) (pa_cons (pv 0) (pa_cons (pv 1) pa_nil))) pa_nil))))))
        (fun a oe cls d pn hz hf => (pss_one (ps_ret (pe_tup (pa_cons (pe_hz (h_law_class T) hr hz hf (pa_cons (pv 2) pa_nil)) (pa_cons pe_non pa_nil)))))))), ?_⟩
    obtain ⟨S, p, T0, d, x, rfl, A0, G, few, hd, q⟩ := h
    have hne : ∀ w : Str, w ≠ "" → (T0.run x).word = w → (T0.run x).res = .non ∧ (T0.run x).tr = T0 := fun w hw e => run_refused T0 x (by rw [e]; exact hw)
    have out : ∀ (X : Str), excW X ≠ "" → excW X = excW X → ∀ w, (T0.run x).word = w → excW X = w → ∀ H3, Ex H H3 → (2 ≤ sizeLine ∧ ∀ t, H3 t = none → Q (.ref t) (upd H3 t (.tup [.str (excW X), .non]))) := fun X hX _ w hw e H3 e3 => ⟨by decide, fun t ft => by
      have e4 := Evl.Ex.new (o := .tup [.str (excW X), .non]) ft
      obtain ⟨h1, h2⟩ := hne w (by rw [← e]; exact hX) hw
      refine q _ S t .non (Mv.ex (e3.trans e4)) (by rw [h2]; exact A0.ex (e3.trans e4)) (by rw [hw, ← e]; exact upd_same) (by rw [h1]; rfl)⟩
    refine ⟨_, rfl, _, rfl, S, p, T0, d, x, rfl, A0, G, few, hd, ?_⟩
    constructor
    · exact fun hw H' S' v mv A' R => ⟨by show 2 ≤ sizeLine; decide, fun t ft => by
        have e4 := Evl.Ex.new (o := .tup [.str "", v]) ft
        exact q _ S' t v (mv.trans (Mv.ex e4)) (A'.ex e4) (by rw [hw]; exact upd_same) (R.ex e4)⟩
    · exact fun hw H2 e2 => ⟨true, (T.exm 13), fun _ a0 na oe hz hf => ⟨_, rfl, "NoTicket", by decide +kernel, rfl, hz, hf, fun H3 e3 => out "NoTicket" (by decide +kernel) rfl _ hw (by decide +kernel) H3 (e2.trans e3)⟩, fun z => nomatch z⟩
    · exact fun hw H2 e2 => ⟨true, (T.exm 58), fun _ a0 na oe hz hf => ⟨_, rfl, "NoStop", by decide +kernel, rfl, hz, hf, fun H3 e3 => out "NoStop" (by decide +kernel) rfl _ hw (by decide +kernel) H3 (e2.trans e3)⟩, fun z => nomatch z⟩
    · exact fun hw H2 e2 => ⟨true, (T.exm 42), fun _ a0 na oe hz hf => ⟨_, rfl, "NoStretch", by decide +kernel, rfl, hz, hf, fun H3 e3 => out "NoStretch" (by decide +kernel) rfl _ hw (by decide +kernel) H3 (e2.trans e3)⟩, fun z => nomatch z⟩
    · exact fun hw H2 e2 => ⟨true, (T.exm 39), fun _ a0 na oe hz hf => ⟨_, rfl, "Full", by decide +kernel, rfl, hz, hf, fun H3 e3 => out "Full" (by decide +kernel) rfl _ hw (by decide +kernel) H3 (e2.trans e3)⟩, fun z => nomatch z⟩
theorem sc_law_run : FnScope ["_law_script", "_law_seats_here", "_law_stops_here", "_law_train", "_law_sold", "_law_cell", "_law_deed", "_law_told_here"] ["_law_script"] (defScope s_law_run) := ⟨rfl, rfl, rfl, by decide +kernel, rfl, by decide +kernel, by decide +kernel⟩
theorem c_law_run (T : Tx K mg) : Cal P w K mg base 8 "_law_run" (spRun K) := by
  refine T.cal 29 69 rfl rfl sc_law_run (fun _ _ _ _ _ _ us hl => match us, hl with | [_], _ => rfl) (fun vs H Q E h => ?_) fun cdv A outer s H vs Q E hr h => ?_
  · first | (obtain ⟨_, rfl, _⟩ := h; rfl) | (obtain ⟨_, _, rfl, _⟩ := h; rfl) | (obtain ⟨_, _, _, rfl, _⟩ := h; rfl) | (obtain ⟨_, _, _, _, rfl, _⟩ := h; rfl) | (obtain ⟨_, _, _, _, _, rfl, _⟩ := h; rfl) | (obtain ⟨_, _, _, _, _, _, rfl, _⟩ := h; rfl) | (obtain ⟨_, _, _, _, _, _, _, rfl, _⟩ := h; rfl) | (obtain ⟨_, _, _, _, _, _, _, _, rfl, _⟩ := h; rfl) | (obtain ⟨_, _, _, _, _, _, _, _, _, rfl, _⟩ := h; rfl) | (obtain ⟨_, _, _, _, _, _, _, _, _, _, rfl, _⟩ := h; rfl) | (obtain ⟨_, _, _, _, _, _, _, _, _, _, _, rfl, _⟩ := h; rfl) | (obtain ⟨_, _, _, _, _, _, _, _, _, _, _, _, rfl, _⟩ := h; rfl) | (obtain ⟨_, _, _, _, _, _, _, _, _, _, _, _, _, rfl, _⟩ := h; rfl) | (obtain ⟨_, _, _, _, _, _, _, _, _, _, _, _, _, _, rfl, _⟩ := h; rfl) | (obtain ⟨_, _, _, _, _, _, _, _, _, _, _, _, _, _, _, rfl, _⟩ := h; rfl)
  · refine ⟨_, (pss_cons (ps_set (i := 1) sc_law_run.nd rfl (Or.inl rfl) (pe_c (c_law_seats T) hr pz (pa_cons (pe_c (c_law_cell_at T) hr pz (pa_cons (pv 0) (pa_cons pe_int pa_nil))) pa_nil)))
      (pss_cons (ps_set (i := 2) sc_law_run.nd rfl (Or.inl rfl) (pe_c (c_law_stops T) hr pz (pa_cons (pe_c (c_law_cell_at T) hr pz (pa_cons (pv 0) (pa_cons pe_int pa_nil))) pa_nil)))
      (pss_cons (ps_set (i := 3) sc_law_run.nd rfl (Or.inl rfl) (pe_k (k_Train T) hr pz (pa_cons (pv 1) (pa_cons (pv 2) pa_nil))))
      (pss_cons (ps_set (i := 4) sc_law_run.nd rfl (Or.inl rfl) (pe_lst pa_nil))
      (pss_cons (ps_for (passes_of rfl) rfl (pi_l K (pe_c (c_law_cells T) hr pz (pa_cons (pv 0) pa_nil))) (pg_name (i := 5) sc_law_run.nd rfl (Or.inl rfl))
        (pss_cons (ps_set (i := 6) sc_law_run.nd rfl (Or.inl rfl) (pe_c (c_law_deed_by T) hr pz (pa_cons (pv 5) (pa_cons (pv 4) (pa_cons (pv 2) pa_nil)))))
        (pss_cons (ps_set (i := 7) sc_law_run.nd rfl (Or.inl rfl) (pe_c (c_law_word T) hr pz (pa_cons (pv 3) (pa_cons (pv 6) pa_nil))))
        (pss_cons (ps_if (PW.pt (pw_and (pt_cmpR op_eq (pe_ix (ix_t K) (pv 7) pe_int (fun _ _ => rfl)) pe_str (nomark _)) (pw_and1 (pt_cmpR op_eq (pe_ix (ix_t K) (pv 6) pe_int (fun _ _ => rfl)) pe_str (nomark _)))))
          (pss_one (ps_expr (pe_bm PySem.F.plainAttrs_list PySem.F.slot_list_append PySem.F.type_list_append mt_append (pv 4) (pa_cons (pe_ix (ix_t K) (pv 7) pe_int (fun _ _ => rfl)) pa_nil))))
          pss_nil)
        (pss_one (ps_if (PW.pt (pw_and (pt_cmpR op_eq (pe_ix (ix_t K) (pv 7) pe_int (fun _ _ => rfl)) pe_str (nomark _)) (pw_and1 (pt_cmpR op_eq (pe_ix (ix_t K) (pv 6) pe_int (fun _ _ => rfl)) pe_str (nomark _)))))
          (pss_one (ps_expr (pe_remX rfl takes0 (pv 4) (pe_ix (ix_t K) (pv 6) pe_int (fun _ _ => rfl)))))
          pss_nil))))))
      (pss_one (ps_ret (pe_lst (pa_cons (pv 3) (pa_cons (pv 4) pa_nil)))))))))), ?_⟩
    obtain ⟨sa, ns, rfl, hS, hlen, q⟩ := h
    refine ⟨_, rfl, sa, ns, 0, rfl, hS, _, rfl, fun n1 hn1 hn2 => ?_⟩
    refine ⟨_, rfl, sa, ns, 1, rfl, hS, _, rfl, fun n2 hn3 hn4 => ?_⟩
    refine ⟨_, rfl, _, rfl, fun p dx np ndx nex => ?_⟩
    refine ⟨p, dx, n1, n2, rfl, upd_same, fun hok H1 S keep new A1 => ⟨rfl, ?_⟩, fun hbad => absurd (by omega) hbad⟩
    have A1' : TrainAt K H1 S p (Tr.new n1 n2) := A1
    have e1 : Ex H H1 := fun a o h => keep a o (ne_of_none h np) (by rw [upd_ne (ne_of_none h np), upd_ne (ne_of_none h ndx)]; exact h)
    have el : (Tr.new n1 n2).rows.length = n1 := List.length_replicate
    obtain ⟨S0, hS0, A0⟩ := A1'.there
    have P1 : Play K H H1 p (Tr.new n1 n2) S0 := ⟨e1, A0, Good.new hn1 hn2 hn3 hn4, fun a s => (by
      rcases new a (hS0 a s).1 with y | y
      · rw [y]
        exact np
      · exact (fresh_upd (fresh_upd y).2).2), fun a s => (hS0 a s).2⟩
    refine ⟨by show 0 ≤ sizeLine; decide, fun so fso => ?_⟩
    have x2 := Evl.Ex.new (o := .lst []) fso
    have P2 := P1.more x2
    have nso : H so = none := Evl.fresh_back e1 fso
    have oso : ¬ S0 so := fun z => by
      obtain ⟨o, ho⟩ := P1.live so z
      rw [ho] at fso
      cases fso
    refine ⟨_, rfl, sa, ns, rfl, sqL_ex hS (e1.trans x2), hlen, fun H3 lc vs e3 flc hc => ?_⟩
    have P3 := P2.more e3
    have nlc : H lc = none := Evl.fresh_back (e1.trans x2) flc
    have olc : ¬ S0 lc := fun z => by
      obtain ⟨o, ho⟩ := P2.live lc z
      rw [ho] at flc
      cases flc
    have hc3 := hc.2.1
    have hso3 : H3 so = some (.lst []) := e3 _ _ upd_same
    have nesl : so ≠ lc := ne_of_none (show upd H1 so _ so = _ from upd_same) flc
    refine ⟨lc, rfl, ⟨_, SqL.of hc.1⟩, ?_⟩
    refine (for_list (K := K) (a := lc) (xs := vs) (fun i σ H' => ∃ (T0 : Tr) (S : Addr → Prop) (v5 v6 v7 : Option V), σ = [some (.ref sa), some (.int n1), some (.int n2), some (.ref p), some (.ref so), v5, v6, v7] ∧
        Play K H H' p T0 S ∧ T0.stops = n2 ∧ T0.rows.length = n1 ∧ T0.coming ≤ i ∧ H' so = some (.lst ((keys T0).map V.int)) ∧ ¬ S so ∧ CellsAt H' lc vs ∧ ¬ S lc)
      ⟨Tr.new n1 n2, S0, none, none, none, rfl, P3, rfl, el, Nat.le_refl _, hso3, oso, hc, olc⟩ (fun i σ H' _ ⟨_, _, _, _, _, _, _, _, _, _, _, _, z, _⟩ => SqL.of z.1) ?_ ?_)
    · rintro i xv σ H' hi ⟨T0, S, v5, v6, v7, rfl, P, hst, hrl, hco, hso, oso, cel, olc⟩
      have hi2 : i < vs.length := lt_of_get hi
      have G := P.good
      have few : T0.coming < 1000000 := by omega
      have hsl : (keys T0).length ≤ 1000000 := by
        rw [keys_len]
        have := G.many
        omega
      refine ⟨_, rfl, _, rfl, _, rfl, xv, so, _, n2, rfl, cel.2.2 _ (List.mem_of_getElem? hi), hso, hsl, hn3, by omega, fun H4 d x e4 hd => ?_⟩
      have P4 := P.more e4
      refine ⟨_, rfl, _, rfl, S, p, T0, d, x, rfl, P4.tr, G, ⟨by have := G.many; omega, fun _ => few⟩, hd, fun H5 S' t v mv A5 hw3 rv => ?_⟩
      obtain ⟨G', hst', hrl', hco1, hco2⟩ := G.run x
      have kr := G.keysRun x
      obtain ⟨S2, P5, hS2⟩ := P4.run mv A5 G'
      have hd3 := mv.tups _ _ hd
      generalize T0.run x = o at *
      have st : ∀ c, ¬ S c → (∃ o, H' c = some o) → ¬ S2 c := fun c hc ⟨o, ho⟩ z => by
        rcases mv.new c (hS2 c z) with z | z
        · exact hc z
        · rw [e4 _ _ ho] at z
          cases z
      have hso5 := mv.keep _ _ oso (e4 _ _ hso)
      have oso5 := st so oso ⟨_, hso⟩
      have olc5 := st lc olc ⟨_, cel.1⟩
      have cel5 := (cel.mono (fun o h => e4 _ _ h) (fun a xs h => e4 _ _ h)).mono (fun o h => mv.keep _ _ olc h) mv.tups
      by_cases hw : o.word = ""
      · by_cases hk : x.k = .sell
        · obtain ⟨hkk, hres⟩ := kr.sell hw hk
          rw [hres] at rv
          have rv : v = .int (T0.coming : Int) := rv
          subst rv
          refine ⟨_, rfl, t, _, _, _, rfl, rfl, SqT.of hw3, at_of (j := 0) rfl rfl, rfl, _, rfl, ?_⟩
          refine iteD (fun _ => ?_) (fun z => absurd (by rw [hw]) z)
          refine ⟨_, rfl, d, _, _, _, rfl, rfl, SqT.of hd3, at_of (j := 0) rfl rfl, rfl, _, rfl, ?_⟩
          refine iteD (fun _ => ?_) (fun z => absurd (by rw [hk]; rfl) z)
          refine ⟨_, rfl, .inl ⟨rfl, _, SqL.of hso5⟩, ?_⟩
          refine ⟨_, rfl, t, _, _, _, rfl, rfl, SqT.of hw3, at_of (j := 1) rfl rfl, so, _, _, rfl, rfl, hso5, ?_, ?_⟩
          · rw [List.length_map]
            exact Nat.lt_of_le_of_lt hsl (by decide)
          have P6 := P5.set (ys := (keys T0).map V.int ++ [.int (T0.coming : Int)]) nso hso5 oso5
          have kp : ∀ c o, c ≠ so → H5 c = some o → upd H5 so (.lst ((keys T0).map V.int ++ [.int (T0.coming : Int)])) c = some o := fun c o hc h => by
            rw [upd_ne hc]
            exact h
          have tk : ∀ c xs, H5 c = some (.tup xs) → upd H5 so (.lst ((keys T0).map V.int ++ [.int (T0.coming : Int)])) c = some (.tup xs) := fun c xs h => kp c _ (ne_of h hso5 (fun z => by cases z)) h
          have hw4 := tk _ _ hw3
          have hd4 := tk _ _ hd3
          refine ⟨_, rfl, t, _, _, _, rfl, rfl, SqT.of hw4, at_of (j := 0) rfl rfl, rfl, _, rfl, ?_⟩
          refine iteD (fun _ => ?_) (fun z => absurd (by rw [hw]) z)
          refine ⟨_, rfl, d, _, _, _, rfl, rfl, SqT.of hd4, at_of (j := 0) rfl rfl, rfl, _, rfl, ?_⟩
          refine iteD (fun z => absurd (V.str.inj z) (by rw [hk]; decide +kernel)) (fun _ => ?_)
          refine ⟨o.tr, S2, _, _, _, rfl, P6, by omega, by omega, by omega, ?_, oso5, cel5.mono (fun o h => kp _ _ nesl.symm h) tk, olc5⟩
          rw [upd_same, hkk, List.map_append]
          rfl
        · have hks : x.k.str ≠ "sell" := fun z => by
            cases hxk : x.k with
            | sell => exact hk hxk
            | back => rw [hxk] at z; exact absurd z (by decide +kernel)
            | leave => rw [hxk] at z; exact absurd z (by decide +kernel)
            | reseat => rw [hxk] at z; exact absurd z (by decide +kernel)
          refine ⟨_, rfl, t, _, _, _, rfl, rfl, SqT.of hw3, at_of (j := 0) rfl rfl, rfl, _, rfl, ?_⟩
          refine iteD (fun _ => ?_) (fun z => absurd (by rw [hw]) z)
          refine ⟨_, rfl, d, _, _, _, rfl, rfl, SqT.of hd3, at_of (j := 0) rfl rfl, rfl, _, rfl, ?_⟩
          refine iteD (fun z => absurd (V.str.inj z) hks) (fun _ => ?_)
          refine ⟨_, rfl, t, _, _, _, rfl, rfl, SqT.of hw3, at_of (j := 0) rfl rfl, rfl, _, rfl, ?_⟩
          refine iteD (fun _ => ?_) (fun z => absurd (by rw [hw]) z)
          refine ⟨_, rfl, d, _, _, _, rfl, rfl, SqT.of hd3, at_of (j := 0) rfl rfl, rfl, _, rfl, ?_⟩
          by_cases hb : x.k = .back
          · obtain ⟨hin, hkk⟩ := kr.back hw hb
            refine iteD (fun _ => ?_) (fun z => absurd (by rw [hb]; rfl) z)
            refine ⟨_, rfl, .inl ⟨rfl, _, SqL.of hso5⟩, ?_⟩
            refine ⟨_, rfl, d, _, _, _, rfl, rfl, SqT.of hd3, at_of (j := 1) rfl rfl, so, keys T0, x.a, rfl, rfl, hso5, fun _ => ?_, fun hn => absurd hin hn⟩
            have P6 := P5.set (ys := ((keys T0).erase x.a).map V.int) nso hso5 oso5
            have kp : ∀ c o, c ≠ so → H5 c = some o → upd H5 so (.lst (((keys T0).erase x.a).map V.int)) c = some o := fun c o hc h => by
              rw [upd_ne hc]
              exact h
            have tk : ∀ c xs, H5 c = some (.tup xs) → upd H5 so (.lst (((keys T0).erase x.a).map V.int)) c = some (.tup xs) := fun c xs h => kp c _ (ne_of h hso5 (fun z => by cases z)) h
            refine ⟨o.tr, S2, _, _, _, rfl, P6, by omega, by omega, by omega, ?_, oso5, cel5.mono (fun o h => kp _ _ nesl.symm h) tk, olc5⟩
            rw [upd_same, hkk]
          · have hbs : x.k.str ≠ "back" := fun z => by
              cases hxk : x.k with
              | back => exact hb hxk
              | sell => rw [hxk] at z; exact absurd z (by decide +kernel)
              | leave => rw [hxk] at z; exact absurd z (by decide +kernel)
              | reseat => rw [hxk] at z; exact absurd z (by decide +kernel)
            refine iteD (fun z => absurd (V.str.inj z) hbs) (fun _ => ?_)
            have hkk := (kr.other hw hk hb).2
            exact ⟨o.tr, S2, _, _, _, rfl, P5, by omega, by omega, by omega, by rw [hkk]; exact hso5, oso5, cel5, olc5⟩
      · have hww : V.str o.word ≠ V.str "" := fun z => hw (V.str.inj z)
        have htr := kr.no hw
        refine ⟨_, rfl, t, _, _, _, rfl, rfl, SqT.of hw3, at_of (j := 0) rfl rfl, rfl, _, rfl, ?_⟩
        refine iteD (fun z => absurd z hww) (fun _ => iteF ?_)
        refine ⟨_, rfl, t, _, _, _, rfl, rfl, SqT.of hw3, at_of (j := 0) rfl rfl, rfl, _, rfl, ?_⟩
        refine iteD (fun z => absurd z hww) (fun _ => iteF ?_)
        exact ⟨o.tr, S2, _, _, _, rfl, P5, by omega, by omega, by omega, by rw [htr]; exact hso5, oso5, cel5, olc5⟩
    · rintro σ H' ⟨T0, S, v5, v6, v7, rfl, P, hst, hrl, hco, hso, oso, cel, olc⟩
      refine ⟨_, rfl, _, rfl, by show 2 ≤ sizeLine; decide, fun l fl => ?_⟩
      have x9 := Evl.Ex.new (o := .lst [.ref p, .ref so]) fl
      exact q _ S p so l T0 (P.more x9) (by omega) nso (x9 _ _ hso) oso (Evl.fresh_back P.ex fl) upd_same (fun z => by
        obtain ⟨o, ho⟩ := P.live l z
        rw [ho] at fl
        cases fl)
theorem sc_law_changing : FnScope ["_law_cell", "_law_seats_here", "_law_stops_here", "_law_many", "_law_rows_here", "_law_ticket", "_law_words", "_law_leg"] ["_law_cell"] (defScope s_law_changing) := ⟨rfl, rfl, rfl, by decide +kernel, rfl, by decide +kernel, by decide +kernel⟩
theorem c_law_changing (T : Tx K mg) : Cal P w K mg base 1 "_law_changing" spChanging := by
  refine T.cal 30 70 rfl rfl sc_law_changing (fun _ _ _ _ _ _ us hl => match us, hl with | [_], _ => rfl) (fun vs H Q E h => ?_) fun cdv A outer s H vs Q E hr h => ?_
  · first | (obtain ⟨_, rfl, _⟩ := h; rfl) | (obtain ⟨_, _, rfl, _⟩ := h; rfl) | (obtain ⟨_, _, _, rfl, _⟩ := h; rfl) | (obtain ⟨_, _, _, _, rfl, _⟩ := h; rfl) | (obtain ⟨_, _, _, _, _, rfl, _⟩ := h; rfl) | (obtain ⟨_, _, _, _, _, _, rfl, _⟩ := h; rfl) | (obtain ⟨_, _, _, _, _, _, _, rfl, _⟩ := h; rfl) | (obtain ⟨_, _, _, _, _, _, _, _, rfl, _⟩ := h; rfl) | (obtain ⟨_, _, _, _, _, _, _, _, _, rfl, _⟩ := h; rfl) | (obtain ⟨_, _, _, _, _, _, _, _, _, _, rfl, _⟩ := h; rfl) | (obtain ⟨_, _, _, _, _, _, _, _, _, _, _, rfl, _⟩ := h; rfl) | (obtain ⟨_, _, _, _, _, _, _, _, _, _, _, _, rfl, _⟩ := h; rfl) | (obtain ⟨_, _, _, _, _, _, _, _, _, _, _, _, _, rfl, _⟩ := h; rfl) | (obtain ⟨_, _, _, _, _, _, _, _, _, _, _, _, _, _, rfl, _⟩ := h; rfl) | (obtain ⟨_, _, _, _, _, _, _, _, _, _, _, _, _, _, _, rfl, _⟩ := h; rfl)
  · refine ⟨_, (pss_cons (ps_set (i := 1) sc_law_changing.nd rfl (Or.inl rfl) (pe_op op_add pe_int (pe_op op_mod (pv 0) pe_int)))
      (pss_cons (ps_set (i := 2) sc_law_changing.nd rfl (Or.inl rfl) (pe_op op_add pe_int (pe_op op_mod (pe_op op_fdiv (pv 0) pe_int) pe_int)))
      (pss_cons (ps_set (i := 3) sc_law_changing.nd rfl (Or.inl rfl) (pe_op op_add pe_int (pe_op op_mod (pe_op op_fdiv (pv 0) pe_int) (pv 1))))
      (pss_cons (ps_set (i := 4) sc_law_changing.nd rfl (Or.inl rfl) (pe_lst (pa_cons (pe_join pe_str (pe_lst (pa_cons pe_str (pa_cons (pe_callTy call_str_int (by rfl) (T.free 3) (by decide +kernel) (pa_cons (pv 1) pa_nil)) (pa_cons (pe_callTy call_str_int (by rfl) (T.free 3) (by decide +kernel) (pa_cons (pv 2) pa_nil)) (pa_cons (pe_callTy call_str_int (by rfl) (T.free 3) (by decide +kernel) (pa_cons (pe_op op_add (pv 3) (pe_op op_mod (pe_op op_fdiv (pv 0) pe_int) pe_int)) pa_nil)) pa_nil)))))) pa_nil)))
      (pss_cons (ps_for (passes_of rfl) rfl (pi_range1 (by rfl) (T.free 2) (pa_cons (pv 3) pa_nil)) (pg_name (i := 5) sc_law_changing.nd rfl (Or.inl rfl))
        (pss_cons (ps_set (i := 6) sc_law_changing.nd rfl (Or.inl rfl) (pe_lst (pa_cons pe_str (pa_cons (pe_callTy call_str_int (by rfl) (T.free 3) (by decide +kernel) (pa_cons (pv 5) pa_nil)) pa_nil))))
        (pss_cons (ps_for (passes_of rfl) rfl (pi_range1 (by rfl) (T.free 2) (pa_cons (pe_op op_sub (pv 2) pe_int) pa_nil)) (pg_name (i := 7) sc_law_changing.nd rfl (Or.inl rfl))
          (pss_one (ps_set (i := 6) sc_law_changing.nd rfl (Or.inl rfl) (pe_op op_cat (pv 6) (pe_lst (pa_cons (pe_callTy call_str_int (by rfl) (T.free 3) (by decide +kernel) (pa_cons (pe_op op_mod (pe_op op_add (pv 7) (pv 5)) (pv 1)) pa_nil)) (pa_cons (pe_callTy call_str_int (by rfl) (T.free 3) (by decide +kernel) (pa_cons (pv 7) pa_nil)) (pa_cons (pe_callTy call_str_int (by rfl) (T.free 3) (by decide +kernel) (pa_cons (pe_op op_add (pv 7) pe_int) pa_nil)) pa_nil))))))))
        (pss_one (ps_expr (pe_bm PySem.F.plainAttrs_list PySem.F.slot_list_append PySem.F.type_list_append mt_append (pv 4) (pa_cons (pe_join pe_str (pv 6)) pa_nil)))))))
      (pss_one (ps_ret (pe_join pe_str (pv 4))))))))), ?_⟩
    obtain ⟨c, rfl, q⟩ := h
    obtain ⟨n1, hn1, b1⟩ : ∃ n : Nat, 2 + c % 3 = (n : Int) ∧ 2 ≤ n ∧ n ≤ 4 := ⟨(2 + c % 3).toNat, by omega, by omega, by omega⟩
    obtain ⟨n2, hn2, b2⟩ : ∃ n : Nat, 3 + c / 3 % 7 = (n : Int) ∧ 3 ≤ n ∧ n ≤ 9 := ⟨(3 + c / 3 % 7).toNat, by omega, by omega, by omega⟩
    have hm1 := Int.emod_nonneg (c / 21) (b := (n1 : Int)) (by omega)
    have hm2 := Int.emod_lt_of_pos (c / 21) (b := (n1 : Int)) (by omega)
    obtain ⟨n3, hn3, b3⟩ : ∃ n : Nat, 1 + c / 21 % (n1 : Int) = (n : Int) ∧ 1 ≤ n ∧ n ≤ 4 := ⟨(1 + c / 21 % (n1 : Int)).toNat, by omega, by omega, by omega⟩
    obtain ⟨n4, hn4, b4⟩ : ∃ n : Nat, (n3 : Int) + c / 63 % 3 = (n : Int) ∧ n ≤ 7 := ⟨((n3 : Int) + c / 63 % 3).toNat, by omega, by omega⟩
    have ls : (" " : Str).length = 1 := by decide +kernel
    (repeat fail "s")
    rw [hn1, hn2]
    refine v_I (show (0 : Int) < (n1 : Int) by omega) ?_
    (repeat fail "s")
    rw [hn3]
    (repeat fail "s")
    refine ⟨_, rfl, log_ok (by omega), ?_⟩
    (repeat fail "s")
    refine ⟨_, rfl, log_ok (by omega), ?_⟩
    (repeat fail "s")
    rw [hn4]
    refine ⟨_, rfl, log_ok (by omega), ?_⟩
    (repeat fail "s")
    rename_i h4 H1 nh4 e1 hh4
    have hh4 : H1 h4 = some (.lst ((["train", nT n1, nT n2, nT n4] : List Str).map V.str)) := hh4
    have lw : ∀ x ∈ (["train", nT n1, nT n2, nT n4] : List Str), x.length ≤ 20 := fun x m => by
      have h1 := nT_len (n := n1) (by omega)
      have h2 := nT_len (n := n2) (by omega)
      have h3 := nT_len (n := n4) (by omega)
      have h5 : ("train" : Str).length = 5 := by decide +kernel
      simp only [List.mem_cons, List.not_mem_nil, or_false] at m
      rcases m with rfl | rfl | rfl | rfl <;> omega
    have hs := sumL_le lw
    have hs : sumL ["train", nT n1, nT n2, nT n4] ≤ 4 * 20 := hs
    have hj := join_sp (ws := ["train", nT n1, nT n2, nT n4]) (by simp)
    have hj : (Txt.join " " ["train", nT n1, nT n2, nT n4]).length + 1 = sumL ["train", nT n1, nT n2, nT n4] + 4 := hj
    have h5 : 5 ≤ sumL ["train", nT n1, nT n2, nT n4] := by
      have : ("train" : Str).length = 5 := by decide +kernel
      have := sumL_mem (ws := ["train", nT n1, nT n2, nT n4]) (x := "train") List.mem_cons_self
      omega
    refine ⟨_, _, ["train", nT n1, nT n2, nT n4], rfl, rfl, .inl (SqL.of hh4), ?_, ?_⟩
    · rw [ls]
      show sumL ["train", nT n1, nT n2, nT n4] + 4 * 1 ≤ _
      omega
    (repeat fail "s")
    rename_i rw_ H2 nrw e2 hrw
    have nrwH : H rw_ = none := Evl.fresh_back e1 nrw
    have x2 := e1.trans e2
    clear e1 e2 hh4
    refine fr_range (n := n3) (fun i σ H' => ∃ (rs : List Str) (v5 v6 v7 : Option V), σ = [some (.int c), some (.int (n1 : Int)), some (.int (n2 : Int)), some (.int (n3 : Int)), some (.ref rw_), v5, v6, v7] ∧ Ex H H' ∧ H' rw_ = some (.lst (rs.map V.str)) ∧ rs ≠ [] ∧ rs.length ≤ 1 + i ∧ (∀ x ∈ rs, x.length ≤ 2000) ∧ 5 ≤ sumL rs)
      ⟨[Txt.join " " ["train", nT n1, nT n2, nT n4]], _, _, _, rfl, x2, hrw, by simp, by simp, fun x m => by rw [List.mem_singleton.mp m]; omega, by
        show 5 ≤ (Txt.join " " ["train", nT n1, nT n2, nT n4]).length + 0
        omega⟩ ?_ ?_
    · rintro i σ H3 hi ⟨rs, v5, v6, v7, rfl, x3, hr3, hne, hrl, hrx, hr5⟩
      clear x2 hrw
      (repeat fail "s")
      refine ⟨_, rfl, log_ok (by omega), ?_⟩
      (repeat fail "s")
      rename_i wd H4 nwd e4 hwd
      have hwd : H4 wd = some (.lst ((["ticket", nT i] : List Str).map V.str)) := hwd
      have x4 := x3.trans e4
      have nwr : wd ≠ rw_ := (ne_of_none hr3 nwd).symm
      have hr4 := e4 _ _ hr3
      have lt : ("ticket" : Str).length = 6 := by decide +kernel
      have l1 := nT_len (n := i) (by omega)
      clear x3 e4
      rw [show ((n2 : Int) - 1) = ((n2 - 1 : Nat) : Int) by omega]
      (repeat fail "s")
      refine fr_range (n := n2 - 1) (fun j σ' H' => ∃ (wd : Addr) (ws : List Str) (v7 : Option V), σ' = [some (.int c), some (.int (n1 : Int)), some (.int (n2 : Int)), some (.int (n3 : Int)), some (.ref rw_), some (.int (i : Int)), some (.ref wd), v7] ∧ Ex H4 H' ∧ H' wd = some (.lst (ws.map V.str)) ∧ ws.length ≤ 2 + 3 * j ∧ ∀ x ∈ ws, x.length ≤ 20)
        ⟨wd, _, _, rfl, Evl.Ex.refl _, hwd, by simp, fun x m => by
          simp only [List.mem_cons, List.not_mem_nil, or_false] at m
          rcases m with rfl | rfl <;> omega⟩ ?_ ?_
      · rintro j σ' H5 hj ⟨wd', ws, v7, rfl, x5, hw5, hwl, hwx⟩
        have hp : (0 : Int) < (n1 : Int) := by omega
        have hq1 := Int.emod_nonneg ((j : Int) + (i : Int)) (b := (n1 : Int)) (by omega)
        have hq2 := Int.emod_lt_of_pos ((j : Int) + (i : Int)) hp
        obtain ⟨m, hm, bm⟩ : ∃ n : Nat, ((j : Int) + (i : Int)) % (n1 : Int) = (n : Int) ∧ n ≤ 4 := ⟨(((j : Int) + (i : Int)) % (n1 : Int)).toNat, by omega, by omega⟩
        (repeat fail "s")
        refine v_I (show (0 : Int) < (n1 : Int) by omega) ?_
        rw [hm]
        refine ⟨_, rfl, log_ok (by omega), ?_⟩
        (repeat fail "s")
        refine ⟨_, rfl, log_ok (by omega), ?_⟩
        (repeat fail "s")
        rw [show ((j : Int) + 1) = ((j + 1 : Nat) : Int) by omega]
        refine ⟨_, rfl, log_ok (by omega), ?_⟩
        (repeat fail "s")
        rename_i u H6 nu e6 hu wd2 H7 n7 e7 h7
        have h7 : H7 wd2 = some (.lst (ws.map V.str ++ (([nT m, nT j, nT (j + 1)] : List Str)).map V.str)) := h7
        refine ⟨wd2, ws ++ [nT m, nT j, nT (j + 1)], _, rfl, (x5.trans e6).trans e7, by rw [h7, List.map_append], by rw [List.length_append]; show _ + 3 ≤ _; omega, fun x mx => ?_⟩
        rcases List.mem_append.mp mx with mx | mx
        · exact hwx x mx
        · have h1 := nT_len (n := m) (by omega)
          have h2 := nT_len (n := j) (by omega)
          have h3 := nT_len (n := j + 1) (by omega)
          simp only [List.mem_cons, List.not_mem_nil, or_false] at mx
          rcases mx with rfl | rfl | rfl <;> omega
      · rintro σ' H5 ⟨wd', ws, v7, rfl, x5, hw5, hwl, hwx⟩
        have hr5' := x5 _ _ hr4
        have hsw := sumL_le hwx
        have hjw := join_sp_le ws
        have hsw2 : sumL ws ≤ 26 * 20 := Nat.le_trans hsw (Nat.mul_le_mul_right _ (by omega))
        (repeat fail "s")
        refine ⟨_, _, ws, rfl, rfl, .inl (SqL.of hw5), ?_, ?_⟩
        · rw [ls]
          show sumL ws + ws.length * 1 ≤ _
          omega
        refine s_nil ?_
        refine v_append hr5' ?_ fun H6 c6 h6 => ?_
        · rw [List.length_map]
          exact Nat.lt_of_lt_of_le (show _ < 1000 by omega) (by decide)
        refine ⟨rs ++ [Txt.join " " ws], _, _, _, rfl, c6.ex (x4.trans x5) nrwH, by rw [h6, List.map_append]; rfl, by simp, by rw [List.length_append]; show _ + 1 ≤ _; omega, fun x m => ?_, ?_⟩
        · rcases List.mem_append.mp m with m | m
          · exact hrx x m
          · rw [List.mem_singleton.mp m]
            omega
        · rw [sumL_snoc]
          omega
    · rintro σ H3 ⟨rs, v5, v6, v7, rfl, x3, hr3, hne, hrl, hrx, hr5⟩
      have hsr := sumL_le hrx
      have hsr2 : sumL rs ≤ 5 * 2000 := Nat.le_trans hsr (Nat.mul_le_mul_right _ (by omega))
      have hjr := join_nl hne
      have hl0 := List.length_pos_iff.mpr hne
      (repeat fail "s")
      refine ⟨_, _, rs, rfl, rfl, .inl (SqL.of hr3), ?_, ?_⟩
      · rw [show ("\n" : Str).length = 1 by decide +kernel]
        show sumL rs + rs.length * 1 ≤ _
        omega
      exact q _ H3 x3 (by omega) (by omega)
theorem sc_law_sign_by : FnScope ["_law_cell", "_law_some"] ["_law_cell"] (defScope s_law_sign_by) := ⟨rfl, rfl, rfl, by decide +kernel, rfl, by decide +kernel, by decide +kernel⟩
theorem c_law_sign_by (T : Tx K mg) : Cal P w K mg base 1 "_law_sign_by" spSignBy := by
  refine T.cal 31 71 rfl rfl sc_law_sign_by (fun _ _ _ _ _ _ us hl => match us, hl with | [_], _ => rfl) (fun vs H Q E h => ?_) fun cdv A outer s H vs Q E hr h => ?_
  · first | (obtain ⟨_, rfl, _⟩ := h; rfl) | (obtain ⟨_, _, rfl, _⟩ := h; rfl) | (obtain ⟨_, _, _, rfl, _⟩ := h; rfl) | (obtain ⟨_, _, _, _, rfl, _⟩ := h; rfl) | (obtain ⟨_, _, _, _, _, rfl, _⟩ := h; rfl) | (obtain ⟨_, _, _, _, _, _, rfl, _⟩ := h; rfl) | (obtain ⟨_, _, _, _, _, _, _, rfl, _⟩ := h; rfl) | (obtain ⟨_, _, _, _, _, _, _, _, rfl, _⟩ := h; rfl) | (obtain ⟨_, _, _, _, _, _, _, _, _, rfl, _⟩ := h; rfl) | (obtain ⟨_, _, _, _, _, _, _, _, _, _, rfl, _⟩ := h; rfl) | (obtain ⟨_, _, _, _, _, _, _, _, _, _, _, rfl, _⟩ := h; rfl) | (obtain ⟨_, _, _, _, _, _, _, _, _, _, _, _, rfl, _⟩ := h; rfl) | (obtain ⟨_, _, _, _, _, _, _, _, _, _, _, _, _, rfl, _⟩ := h; rfl) | (obtain ⟨_, _, _, _, _, _, _, _, _, _, _, _, _, _, rfl, _⟩ := h; rfl) | (obtain ⟨_, _, _, _, _, _, _, _, _, _, _, _, _, _, _, rfl, _⟩ := h; rfl)
  · refine ⟨_, (pss_cons (ps_set (i := 1) sc_law_sign_by.nd rfl (Or.inl rfl) pe_str)
      (pss_cons (ps_set (i := 1) sc_law_sign_by.nd rfl (Or.inl rfl) (pe_op op_add_str (pv 1) pe_str))
      (pss_one (ps_ret (pe_ix ix_str (pv 1) (pe_op op_mod (pv 0) pe_int) (fun _ _ => rfl)))))), ?_⟩
    obtain ⟨c, rfl, q⟩ := h
    have hm1 := Int.emod_nonneg c (b := 96) (by decide)
    have hm2 := Int.emod_lt_of_pos c (b := 96) (by decide)
    (repeat fail "s")
    refine ⟨_, _, rfl, rfl, by decide +kernel, ?_⟩
    generalize hz : ((" !\"#$&'()*+,-./0123456789:;<=>?@ABCDEFGHIJKLMNOPQRSTUVWXYZ[\\]^_`" : Str) ++ ("abcdefghijklmnopqrstuvwxyz{|}~\n\t" : Str)) = z
    have hzl : z.cps.toList.length = 96 := by
      rw [← hz]
      decide +kernel
    have hzs : z.length = 96 := by
      rw [← hz]
      decide +kernel
    (repeat fail "s")
    have hi : (c % 96).toNat < z.cps.toList.length := by omega
    refine ⟨z, c % 96, z.cps.toList[(c % 96).toNat], rfl, rfl, by rw [hzs]; decide, ?_, q _ rfl⟩
    unfold atI ixN
    rw [if_pos hm1, if_pos (by omega)]
    exact List.getElem?_eq_getElem hi
theorem sc_law_figures : FnScope ["_law_word_here", "_law_sign"] ["_law_word_here"] (defScope s_law_figures) := ⟨rfl, rfl, rfl, by decide +kernel, rfl, by decide +kernel, by decide +kernel⟩
theorem c_law_figures (T : Tx K mg) : Cal P w K mg base 1 "_law_figures" spFigures := by
  refine T.cal 32 73 rfl rfl sc_law_figures (fun _ _ _ _ _ _ us hl => match us, hl with | [_], _ => rfl) (fun vs H Q E h => ?_) fun cdv A outer s H vs Q E hr h => ?_
  · first | (obtain ⟨_, rfl, _⟩ := h; rfl) | (obtain ⟨_, _, rfl, _⟩ := h; rfl) | (obtain ⟨_, _, _, rfl, _⟩ := h; rfl) | (obtain ⟨_, _, _, _, rfl, _⟩ := h; rfl) | (obtain ⟨_, _, _, _, _, rfl, _⟩ := h; rfl) | (obtain ⟨_, _, _, _, _, _, rfl, _⟩ := h; rfl) | (obtain ⟨_, _, _, _, _, _, _, rfl, _⟩ := h; rfl) | (obtain ⟨_, _, _, _, _, _, _, _, rfl, _⟩ := h; rfl) | (obtain ⟨_, _, _, _, _, _, _, _, _, rfl, _⟩ := h; rfl) | (obtain ⟨_, _, _, _, _, _, _, _, _, _, rfl, _⟩ := h; rfl) | (obtain ⟨_, _, _, _, _, _, _, _, _, _, _, rfl, _⟩ := h; rfl) | (obtain ⟨_, _, _, _, _, _, _, _, _, _, _, _, rfl, _⟩ := h; rfl) | (obtain ⟨_, _, _, _, _, _, _, _, _, _, _, _, _, rfl, _⟩ := h; rfl) | (obtain ⟨_, _, _, _, _, _, _, _, _, _, _, _, _, _, rfl, _⟩ := h; rfl) | (obtain ⟨_, _, _, _, _, _, _, _, _, _, _, _, _, _, _, rfl, _⟩ := h; rfl)
  · refine ⟨_, (Evl.pss_cut (ps_if (PW.pt (pw_or (pt_cmpR op_eq (pv 0) pe_str (nomark _)) (pw_or (pt_cmpR op_gt (pe_callB call_len_str (by rfl) (T.free 1) PySem.boot_len (pa_cons (pv 0) pa_nil)) pe_int (nomark _)) (pw_or1 (PW.pt (pw_and (pt_cmpR op_gt (pe_callB call_len_str (by rfl) (T.free 1) PySem.boot_len (pa_cons (pv 0) pa_nil)) pe_int (nomark _)) (pw_and1 (pt_cmpR op_eq (pe_ix ix_str (pv 0) pe_int (fun _ _ => rfl)) pe_str (nomark _)))))))))
        (pss_one (ps_ret (pe_un un_neg pe_int)))
        pss_nil)
      (pss_cons (ps_if (pt_not (pt_val (pe_callB (all_k K rfl) (by rfl) (T.free 44) (by decide +kernel) (pa_cons (pe_lc (own := [("_law_sign", 1)]) (g := gName 1) rfl sc_law_figures.nd (pi_str (pv 0)) (blkOk_by (N := ["_law_word_here", "_law_sign"]) (sc := defScope s_law_figures) (by decide +kernel)) (fun _ _ _ _ _ => pg_name (i := 1) sc_law_figures.nd rfl (Or.inl rfl)) (fun _ _ _ _ _ => pts_nil) (fun _ _ _ _ _ => (pe_cmpR op_inS (pv 1) pe_str (by rfl)))) pa_nil))))
        (pss_one (ps_ret (pe_un un_neg pe_int)))
        pss_nil)
      (pss_one (ps_ret (pe_callTy call_int_str (by rfl) (T.free 72) (by decide +kernel) (pa_cons (pv 0) pa_nil)))))), ?_⟩
    obtain ⟨z, rfl, hz, q⟩ := h
    have hlz : (TL.tl z).length = z.length := (TL.len_tl z).symm
    have hsz : z.length ≤ sizeLine := Nat.le_trans hz (by decide)
    have qn : isNum (TL.tl z) = false → ∀ H', Ex H H' → Q (.int (-1)) H' := fun h H' e => by
      have := q H' e
      unfold figI numOf at this
      rw [h] at this
      exact this
    have hne0 : TL.tl z ≠ [] → z ≠ "" := fun h e => h (by rw [e]; decide +kernel)
    refine s_cut (fun σ' H' => σ' = [some (.str z), none] ∧ H' = H ∧ ∃ c r, TL.tl z = c :: r ∧ z.length ≤ 9 ∧ (c = 48 → ¬ 1 < z.length)) ?_ ?_
    · (repeat fail "s")
      refine iteD (fun he => ?_) (fun he => ?_)
      · (repeat fail "s")
        refine qn ?_ _ (Evl.Ex.refl H)
        rw [he]
        decide +kernel
      have hne : TL.tl z ≠ [] := fun e => he (TL.ext_tl (e.trans (by decide +kernel)))
      (repeat fail "s")
      refine ⟨_, rfl, hsz, ?_⟩
      (repeat fail "s")
      refine iteD (fun h9 => ?_) (fun h9 => ?_)
      · (repeat fail "s")
        refine qn ?_ _ (Evl.Ex.refl H)
        unfold isNum
        rw [decide_eq_false (show ¬ (TL.tl z).length ≤ 9 by omega), Bool.and_false, Bool.false_and]
      (repeat fail "s")
      refine ⟨_, rfl, hsz, ?_⟩
      (repeat fail "s")
      obtain ⟨c, r, hcr⟩ := List.exists_cons_of_ne_nil hne
      have hcr2 : z.cps.toList = c :: r := hcr
      have h0 : (⟨#[c]⟩ : Str) = "0" ↔ c = 48 := ⟨fun e => by
        have : TL.tl (⟨#[c]⟩ : Str) = TL.tl ("0" : Str) := congrArg TL.tl e
        rw [show TL.tl (⟨#[c]⟩ : Str) = [c] from rfl, show TL.tl ("0" : Str) = [48] by decide +kernel] at this
        exact (List.cons.inj this).1, fun e => by
        rw [e]
        decide +kernel⟩
      refine iteD (fun h1 => ?_) (fun h1 => ?_)
      · (repeat fail "s")
        refine ⟨z, 0, c, rfl, rfl, hsz, (by rw [hcr2]; simp [atI, ixN]), ?_⟩
        (repeat fail "s")
        refine iteD (fun hc => ?_) (fun hc => ?_)
        · (repeat fail "s")
          refine qn ?_ _ (Evl.Ex.refl H)
          unfold isNum
          rw [hcr, List.head?_cons, h0.mp hc, decide_eq_false (show ¬ (48 :: r).length = 1 by rw [h0.mp hc] at hcr; rw [← hcr]; omega)]
          simp
        · (repeat fail "s")
          exact ⟨rfl, rfl, c, r, hcr, by omega, fun e => absurd (h0.mpr e) hc⟩
      · (repeat fail "s")
        exact ⟨rfl, rfl, c, r, hcr, by omega, fun _ => by omega⟩
    rintro σ' H' ⟨rfl, rfl, c, r, hcr, h9, hc⟩
    have hne : TL.tl z ≠ [] := fun e => by
      rw [hcr] at e
      cases e
    have rest : (c = 48 → ¬ 1 < z.length) → ((TL.tl z).all (fun c => decide (48 ≤ c) && decide (c ≤ 57)) = true → isNum (TL.tl z) = true) := fun hc hall => by
      unfold isNum
      rw [hall, decide_eq_true (show (TL.tl z).length ≤ 9 by omega)]
      have h2 : (TL.tl z).isEmpty = false := by rw [hcr]; rfl
      rw [h2]
      by_cases hc48 : c = 48
      · rw [decide_eq_true (show (TL.tl z).length = 1 by
          have := hc hc48
          have h3 : 0 < (TL.tl z).length := by rw [hcr]; exact Nat.zero_lt_succ _
          omega)]
        rfl
      · rw [decide_eq_true (show (TL.tl z).head? ≠ some 48 by rw [hcr, List.head?_cons]; exact fun z => hc48 (Option.some.inj z)), Bool.or_true]
        rfl
    (repeat fail "s")
    refine ⟨_, rfl, ?_⟩
    refine ⟨_, rfl, ?_⟩
    refine lc_bS (z := z) (fun c => decide (c ∈ (("0123456789" : Str)).cps.toList)) (by omega) (fun _ => rfl) (fun c H2 Q2 mc e2 q2 => ?_) fun D H2 nD e2 hD => ?_
    · (repeat fail "s")
      exact ⟨c, _, rfl, rfl, q2⟩
    (repeat fail "s")
    refine v_all (SqL.of hD) ?_
    have hall : (((TL.tl z).map fun c => decide (c ∈ (("0123456789" : Str)).cps.toList)).all id) = (TL.tl z).all (fun c => decide (48 ≤ c) && decide (c ≤ 57)) := by
      rw [List.all_map]
      congr 1
      funext c
      show decide (c ∈ (("0123456789" : Str)).cps.toList) = _
      rw [decide_eq_decide.mpr figs, Bool.decide_and]
    rw [hall]
    cases hb : (TL.tl z).all (fun c => decide (48 ≤ c) && decide (c ≤ 57)) with
    | false =>
      (repeat fail "s")
      refine qn ?_ _ e2
      unfold isNum
      rw [hb]
      rfl
    | true =>
      (repeat fail "s")
      refine ⟨z, ((NumText.digitsVal (TL.tl z) : Nat) : Int), rfl, PySem.intText_digits (fun d m => ?_) hne (by omega), by omega, ?_⟩
      · have := List.all_eq_true.mp hb d m
        simp only [Bool.and_eq_true, decide_eq_true_eq] at this
        exact this
      · have := q _ e2
        unfold figI numOf at this
        rw [if_pos (rest hc hb)] at this
        exact this
theorem sc_law_figure_spoilt : FnScope ["_law_words", "_law_cell", "_law_spot", "_law_was", "_law_made"] ["_law_words", "_law_cell"] (defScope s_law_figure_spoilt) := ⟨rfl, rfl, rfl, by decide +kernel, rfl, by decide +kernel, by decide +kernel⟩
theorem c_law_figure_spoilt (T : Tx K mg) : Cal P w K mg base 2 "_law_figure_spoilt" spFigSpoilt := by
  refine T.cal 33 74 rfl rfl sc_law_figure_spoilt (fun _ _ _ _ _ _ us hl => match us, hl with | [_, _], _ => rfl) (fun vs H Q E h => ?_) fun cdv A outer s H vs Q E hr h => ?_
  · first | (obtain ⟨_, rfl, _⟩ := h; rfl) | (obtain ⟨_, _, rfl, _⟩ := h; rfl) | (obtain ⟨_, _, _, rfl, _⟩ := h; rfl) | (obtain ⟨_, _, _, _, rfl, _⟩ := h; rfl) | (obtain ⟨_, _, _, _, _, rfl, _⟩ := h; rfl) | (obtain ⟨_, _, _, _, _, _, rfl, _⟩ := h; rfl) | (obtain ⟨_, _, _, _, _, _, _, rfl, _⟩ := h; rfl) | (obtain ⟨_, _, _, _, _, _, _, _, rfl, _⟩ := h; rfl) | (obtain ⟨_, _, _, _, _, _, _, _, _, rfl, _⟩ := h; rfl) | (obtain ⟨_, _, _, _, _, _, _, _, _, _, rfl, _⟩ := h; rfl) | (obtain ⟨_, _, _, _, _, _, _, _, _, _, _, rfl, _⟩ := h; rfl) | (obtain ⟨_, _, _, _, _, _, _, _, _, _, _, _, rfl, _⟩ := h; rfl) | (obtain ⟨_, _, _, _, _, _, _, _, _, _, _, _, _, rfl, _⟩ := h; rfl) | (obtain ⟨_, _, _, _, _, _, _, _, _, _, _, _, _, _, rfl, _⟩ := h; rfl) | (obtain ⟨_, _, _, _, _, _, _, _, _, _, _, _, _, _, _, rfl, _⟩ := h; rfl)
  · refine ⟨_, (pss_cons (ps_if (pt_cmpR op_lt (pe_callB (len_k K) (by rfl) (T.free 1) PySem.boot_len (pa_cons (pv 0) pa_nil)) pe_int (nomark _))
        (pss_one (ps_ret (pv 0)))
        pss_nil)
      (pss_cons (ps_set (i := 2) sc_law_figure_spoilt.nd rfl (Or.inl rfl) (pe_op op_add pe_int (pe_c (c_law_mixed T) hr pz (pa_cons (pv 1) (pa_cons pe_int (pa_cons (pe_op op_sub (pe_callB (len_k K) (by rfl) (T.free 1) PySem.boot_len (pa_cons (pv 0) pa_nil)) pe_int) pa_nil))))))
      (pss_cons (ps_set (i := 3) sc_law_figure_spoilt.nd rfl (Or.inl rfl) (pe_callB (call_max2 rfl) (by rfl) (T.free 0) (by decide +kernel) (pa_cons pe_int (pa_cons (pe_c (c_law_figures T) hr pz (pa_cons (pe_ix (ix_l K) (pv 0) (pv 2) (fun _ _ => rfl)) pa_nil)) pa_nil))))
      (pss_cons (ps_set (i := 4) sc_law_figure_spoilt.nd rfl (Or.inl rfl) (pe_ix (ix_l K) (pe_lst (pa_cons (pe_op op_add (pv 3) pe_int) (pa_cons (pe_op op_add (pv 3) pe_int) (pa_cons (pe_callB (call_max2 rfl) (by rfl) (T.free 0) (by decide +kernel) (pa_cons pe_int (pa_cons (pe_op op_sub (pv 3) pe_int) pa_nil))) (pa_cons pe_int (pa_cons pe_int (pa_cons pe_int (pa_cons pe_int (pa_cons pe_int (pa_cons (pe_op op_mod (pv 1) (pe_op op_pow pe_int pe_int)) pa_nil)))))))))) (pe_c (c_law_mixed T) hr pz (pa_cons (pv 1) (pa_cons pe_int (pa_cons pe_int pa_nil)))) (fun _ _ => rfl)))
      (pss_cons (ps_asg (pe_callTy call_str_int (by rfl) (T.free 3) (by decide +kernel) (pa_cons (pv 4) pa_nil)) (pg_sub (pv 0) (pv 2) set_list))
      (Evl.pss_cut (ps_if (pt_cmpR op_eq (pe_c (c_law_mixed T) hr pz (pa_cons (pv 1) (pa_cons pe_int (pa_cons pe_int pa_nil)))) pe_int (nomark _))
        (pss_one (ps_asg (pe_op op_add_str pe_str (pe_ix (ix_l K) (pv 0) (pv 2) (fun _ _ => rfl))) (pg_sub (pv 0) (pv 2) set_list)))
        pss_nil)
      (Evl.pss_cut (ps_if (PW.pt (pw_and (pt_cmpR op_eq (pe_c (c_law_mixed T) hr pz (pa_cons (pv 1) (pa_cons pe_int (pa_cons pe_int pa_nil)))) pe_int (nomark _)) (pw_and1 (pt_cmpR op_gt (pe_callB (len_k K) (by rfl) (T.free 1) PySem.boot_len (pa_cons (pv 0) pa_nil)) pe_int (nomark _)))))
        (pss_one (ps_asg (pe_ix (ix_l K) (pv 0) pe_int (fun _ _ => rfl)) (pg_sub (pv 0) pe_int set_list)))
        pss_nil)
      (pss_one (ps_ret (pv 0)))))))))), ?_⟩
    obtain ⟨l, ws, c, rfl, hl, hw1, hw2, hsum, q⟩ := h
    (repeat fail "s")
    rw [List.length_map]
    refine iteD (fun h2 => ?_) (fun h2 => ?_)
    · (repeat fail "s")
      exact q H ws (fun _ _ _ h => h) hl rfl (by omega) fun _ => rfl
    have lml : (ws.map V.str).length = ws.length := List.length_map ..
    (repeat fail "s")
    rename_i v H1 hv e1
    rw [lml] at hv
    have hl1 := e1 _ _ hl
    refine v_ixW hl1 ⟨by omega, by omega⟩ fun x hx mx => ?_
    have hxl := sumL_mem mx
    (repeat fail "s")
    refine ⟨x, rfl, by omega, fun H2 e2 => ?_⟩
    obtain ⟨was, hwas, bwas⟩ := figI_max x
    have kp2 : ∀ a o, a ≠ l → H a = some o → H2 a = some o := fun a o _ h => e2 _ _ (e1 _ _ h)
    have hl2 := e2 _ _ hl1
    clear e1 e2 hl1
    (repeat fail "s")
    refine ⟨0, figI x, rfl, ?_⟩
    rw [hwas]
    obtain ⟨w2, hw2', bw2⟩ := max_nat (i := (was : Int) - 1) (b := was) (by omega)
    have hp1 := Int.emod_nonneg c (b := (10 : Int) ^ (12 : Int).toNat) (by decide)
    have hp2 := Int.emod_lt_of_pos c (b := (10 : Int) ^ (12 : Int).toNat) (by decide)
    have hp3 : (10 : Int) ^ (12 : Int).toNat = 1000000000000 := by decide
    (repeat fail "s")
    refine ⟨0, (was : Int) - 1, rfl, ?_⟩
    rw [hw2']
    (repeat fail "s")
    rename_i p3 H3 n3 e3 h3 i4 H4 hi4 e4
    refine v_ixM (e4 _ _ h3) ⟨by omega, hi4⟩ fun y my => ?_
    obtain ⟨m, rfl, bm⟩ : ∃ m : Nat, y = .int (m : Int) ∧ m < 1000000000000 := by
      simp only [List.mem_cons, List.not_mem_nil, or_false] at my
      rcases my with rfl | rfl | rfl | rfl | rfl | rfl | rfl | rfl | rfl
      · exact ⟨was + 1, rfl, by omega⟩
      · exact ⟨was + 1, rfl, by omega⟩
      · exact ⟨w2, rfl, by omega⟩
      · exact ⟨0, rfl, by omega⟩
      · exact ⟨1, rfl, by omega⟩
      · exact ⟨59, rfl, by omega⟩
      · exact ⟨60, rfl, by omega⟩
      · exact ⟨61, rfl, by omega⟩
      · exact ⟨(c % (10 : Int) ^ (12 : Int).toNat).toNat, congrArg V.int (Int.toNat_of_nonneg hp1).symm, by omega⟩
    have kp4 : ∀ a o, a ≠ l → H a = some o → H4 a = some o := fun a o n h => e4 _ _ (e3 _ _ (kp2 a o n h))
    have hl4 := e4 _ _ (e3 _ _ hl2)
    clear e3 e4 h3 hl2 kp2 my hi4 hp1 hp2 hp3 hwas hw2' bw2
    (repeat fail "s")
    refine ⟨_, rfl, log_ok12 bm, ?_⟩
    (repeat fail "s")
    refine v_setW hl4 ⟨by omega, by omega⟩ fun H5 c5 h5 => ?_
    have s5 := sumL_set (y := nT m) hx
    have l5 := nT_len12 bm
    have kp5 : ∀ a o, a ≠ l → H a = some o → H5 a = some o := fun a o n h => c5.keep a o n (kp4 a o n h)
    obtain ⟨w4, hw4⟩ : ∃ w4, w4 = ws.set (1 + (v : Int)).toNat (nT m) := ⟨_, rfl⟩
    have h5 : H5 l = some (.lst (w4.map V.str)) := by rw [hw4]; exact h5
    have lw4 : w4.length = ws.length := by rw [hw4, List.length_set]
    rw [← hw4] at s5
    clear c5 hl4 kp4 hw4
    (repeat fail "s")
    refine s_cut (fun σ' H' => ∃ ws5, σ' = [some (.ref l), some (.int c), some (.int (1 + (v : Int))), some (.int (was : Int)), some (.int (m : Int))] ∧ (∀ a o, a ≠ l → H a = some o → H' a = some o) ∧ H' l = some (.lst (ws5.map V.str)) ∧ ws5.length = ws.length ∧ sumL ws5 ≤ sumL ws + 13) ?_ ?_
    · (repeat fail "s")
      rename_i v6 H6 hv6 e6
      have kp6 : ∀ a o, a ≠ l → H a = some o → H6 a = some o := fun a o n h => e6 _ _ (kp5 a o n h)
      have hl6 := e6 _ _ h5
      clear e6
      refine iteD (fun h => ?_) (fun h => ?_)
      · (repeat fail "s")
        refine v_ixW hl6 ⟨by omega, by omega⟩ fun y hy my => ?_
        have hyl := sumL_mem my
        have l0 : ("0" : Str).length = 1 := by decide +kernel
        refine ⟨_, _, rfl, rfl, Nat.le_trans (show _ ≤ 9000100 by rw [l0]; omega) (by decide), ?_⟩
        (repeat fail "s")
        refine v_setW hl6 ⟨by omega, by omega⟩ fun H7 c7 h7 => ?_
        have s7 := sumL_set (y := ("0" : Str) ++ y) hy
        rw [len_app, l0] at s7
        exact ⟨_, rfl, fun a o n h => c7.keep a o n (kp6 a o n h), h7, by rw [List.length_set, lw4], by omega⟩
      · (repeat fail "s")
        exact ⟨w4, rfl, kp6, hl6, lw4, by omega⟩
    rintro σ' H6 ⟨w5, rfl, kp6, hl6, lw5, sw5⟩
    clear kp5 h5 s5 lw4
    (repeat fail "s")
    refine s_cut (fun σ' H' => ∃ ws5, σ' = [some (.ref l), some (.int c), some (.int (1 + (v : Int))), some (.int (was : Int)), some (.int (m : Int))] ∧ (∀ a o, a ≠ l → H a = some o → H' a = some o) ∧ H' l = some (.lst (ws5.map V.str)) ∧ ws5.length = ws.length ∧ sumL ws5 ≤ 2 * sumL ws + 26) ?_ ?_
    · (repeat fail "s")
      rename_i v7 H7 hv7 e7
      have kp7 : ∀ a o, a ≠ l → H a = some o → H7 a = some o := fun a o n h => e7 _ _ (kp6 a o n h)
      have hl7 := e7 _ _ hl6
      have lml5 : (w5.map V.str).length = w5.length := List.length_map ..
      clear e7 hl6 kp6
      have out : (∃ ws5, [some (V.ref l), some (V.int c), some (V.int (1 + (v : Int))), some (V.int (was : Int)), some (V.int (m : Int))] = [some (V.ref l), some (V.int c), some (V.int (1 + (v : Int))), some (V.int (was : Int)), some (V.int (m : Int))] ∧ (∀ a o, a ≠ l → H a = some o → H7 a = some o) ∧ H7 l = some (.lst (ws5.map V.str)) ∧ ws5.length = ws.length ∧ sumL ws5 ≤ 2 * sumL ws + 26) := ⟨w5, rfl, kp7, hl7, lw5, by omega⟩
      refine iteD (fun h => ?_) (fun h => ?_)
      · (repeat fail "s")
        refine iteD (fun h6 => ?_) (fun h6 => ?_)
        · (repeat fail "s")
          refine v_ixW hl7 ⟨by omega, by omega⟩ fun y hy my => ?_
          have hyl := sumL_mem my
          (repeat fail "s")
          have h5g := List.getElem?_eq_getElem (l := w5) (i := 5) (by omega)
          have s8 := sumL_set (y := y) h5g
          refine v_setW hl7 ⟨by omega, by omega⟩ fun H8 c8 h8 => ?_
          exact ⟨_, rfl, fun a o n h => c8.keep a o n (kp7 a o n h), h8, by rw [List.length_set, lw5], by
            show sumL (w5.set 5 y) ≤ _
            omega⟩
        · (repeat fail "s")
          exact out
      · (repeat fail "s")
        exact out
    rintro σ' H7 ⟨w6, rfl, kp7, hl7, lw6, sw6⟩
    (repeat fail "s")
    exact q H7 w6 kp7 hl7 lw6 (by omega) fun h => absurd h (by omega)
theorem sc_law_odd_row : FnScope ["_law_cell", "_law_some"] ["_law_cell"] (defScope s_law_odd_row) := ⟨rfl, rfl, rfl, by decide +kernel, rfl, by decide +kernel, by decide +kernel⟩
theorem c_law_odd_row (T : Tx K mg) : Cal P w K mg base 1 "_law_odd_row" spOddRow := by
  refine T.cal 34 75 rfl rfl sc_law_odd_row (fun _ _ _ _ _ _ us hl => match us, hl with | [_], _ => rfl) (fun vs H Q E h => ?_) fun cdv A outer s H vs Q E hr h => ?_
  · first | (obtain ⟨_, rfl, _⟩ := h; rfl) | (obtain ⟨_, _, rfl, _⟩ := h; rfl) | (obtain ⟨_, _, _, rfl, _⟩ := h; rfl) | (obtain ⟨_, _, _, _, rfl, _⟩ := h; rfl) | (obtain ⟨_, _, _, _, _, rfl, _⟩ := h; rfl) | (obtain ⟨_, _, _, _, _, _, rfl, _⟩ := h; rfl) | (obtain ⟨_, _, _, _, _, _, _, rfl, _⟩ := h; rfl) | (obtain ⟨_, _, _, _, _, _, _, _, rfl, _⟩ := h; rfl) | (obtain ⟨_, _, _, _, _, _, _, _, _, rfl, _⟩ := h; rfl) | (obtain ⟨_, _, _, _, _, _, _, _, _, _, rfl, _⟩ := h; rfl) | (obtain ⟨_, _, _, _, _, _, _, _, _, _, _, rfl, _⟩ := h; rfl) | (obtain ⟨_, _, _, _, _, _, _, _, _, _, _, _, rfl, _⟩ := h; rfl) | (obtain ⟨_, _, _, _, _, _, _, _, _, _, _, _, _, rfl, _⟩ := h; rfl) | (obtain ⟨_, _, _, _, _, _, _, _, _, _, _, _, _, _, rfl, _⟩ := h; rfl) | (obtain ⟨_, _, _, _, _, _, _, _, _, _, _, _, _, _, _, rfl, _⟩ := h; rfl)
  · refine ⟨_, (pss_cons (ps_set (i := 1) sc_law_odd_row.nd rfl (Or.inl rfl) (pe_lst (pa_cons pe_str (pa_cons pe_str (pa_cons pe_str (pa_cons pe_str (pa_cons pe_str (pa_cons pe_str (pa_cons pe_str (pa_cons pe_str pa_nil))))))))))
      (pss_one (ps_ret (pe_ix (ix_l K) (pe_op op_cat (pv 1) (pe_lst (pa_cons pe_str (pa_cons pe_str (pa_cons pe_str (pa_cons pe_str pa_nil)))))) (pe_op op_mod (pv 0) pe_int) (fun _ _ => rfl))))), ?_⟩
    obtain ⟨c, rfl, q⟩ := h
    have hm1 := Int.emod_nonneg c (b := 12) (by decide)
    have hm2 := Int.emod_lt_of_pos c (b := 12) (by decide)
    (repeat fail "s")
    rename_i p1 H1 n1 e1 h1 p2 H2 n2 e2 h2 p3 H3 n3 e3 h3
    refine v_ixW (ws := ["", " ", "ticket", "ticket 0", "ticket 1 0 0", "Ticket 0 0 0 1", "ticket  0 0 0 1", "ticket 0 0 0 1 ", "train 1 2 0", "ticket 00 0 0 1", "ticket 0 0 0 +1", "seat 0 0 0 1"]) h3 ⟨hm1, hm2⟩ fun x _ m => ?_
    have hall : ∀ x ∈ (["", " ", "ticket", "ticket 0", "ticket 1 0 0", "Ticket 0 0 0 1", "ticket  0 0 0 1", "ticket 0 0 0 1 ", "train 1 2 0", "ticket 00 0 0 1", "ticket 0 0 0 +1", "seat 0 0 0 1"] : List Str), x.length ≤ 20 := by decide +kernel
    exact q x H3 (e1.trans (e2.trans e3)) (hall x m)
theorem sc_law_spoilt : FnScope ["_law_text", "_law_cell", "_law_way", "_law_rows_here", "_law_at", "_law_spot", "_law_words", "_law_other", "_law_kept"] ["_law_text", "_law_cell", "_law_way"] (defScope s_law_spoilt) := ⟨rfl, rfl, rfl, by decide +kernel, rfl, by decide +kernel, by decide +kernel⟩
theorem c_law_spoilt (T : Tx K mg) : Cal P w K mg base 3 "_law_spoilt" spSpoilt := by
  refine T.cal 35 76 rfl rfl sc_law_spoilt (fun _ _ _ _ _ _ us hl => match us, hl with | [_, _, _], _ => rfl) (fun vs H Q E h => ?_) fun cdv A outer s H vs Q E hr h => ?_
  · first | (obtain ⟨_, rfl, _⟩ := h; rfl) | (obtain ⟨_, _, rfl, _⟩ := h; rfl) | (obtain ⟨_, _, _, rfl, _⟩ := h; rfl) | (obtain ⟨_, _, _, _, rfl, _⟩ := h; rfl) | (obtain ⟨_, _, _, _, _, rfl, _⟩ := h; rfl) | (obtain ⟨_, _, _, _, _, _, rfl, _⟩ := h; rfl) | (obtain ⟨_, _, _, _, _, _, _, rfl, _⟩ := h; rfl) | (obtain ⟨_, _, _, _, _, _, _, _, rfl, _⟩ := h; rfl) | (obtain ⟨_, _, _, _, _, _, _, _, _, rfl, _⟩ := h; rfl) | (obtain ⟨_, _, _, _, _, _, _, _, _, _, rfl, _⟩ := h; rfl) | (obtain ⟨_, _, _, _, _, _, _, _, _, _, _, rfl, _⟩ := h; rfl) | (obtain ⟨_, _, _, _, _, _, _, _, _, _, _, _, rfl, _⟩ := h; rfl) | (obtain ⟨_, _, _, _, _, _, _, _, _, _, _, _, _, rfl, _⟩ := h; rfl) | (obtain ⟨_, _, _, _, _, _, _, _, _, _, _, _, _, _, rfl, _⟩ := h; rfl) | (obtain ⟨_, _, _, _, _, _, _, _, _, _, _, _, _, _, _, rfl, _⟩ := h; rfl)
  · refine ⟨_, (pss_cons (ps_set (i := 3) sc_law_spoilt.nd rfl (Or.inl rfl) (pe_split (pv 0) pe_str))
      (pss_cons (ps_set (i := 4) sc_law_spoilt.nd rfl (Or.inl rfl) (pe_c (c_law_mixed T) hr pz (pa_cons (pv 1) (pa_cons pe_int (pa_cons (pe_callB (len_k K) (by rfl) (T.free 1) PySem.boot_len (pa_cons (pv 3) pa_nil)) pa_nil)))))
      (Evl.pss_cut (ps_if (pt_cmpR op_lt (pv 2) pe_int (nomark _))
        (pss_cons (ps_set (i := 5) sc_law_spoilt.nd rfl (Or.inl rfl) (pe_c (c_law_mixed T) hr pz (pa_cons (pv 1) (pa_cons pe_int (pa_cons (pe_callB call_len_str (by rfl) (T.free 1) PySem.boot_len (pa_cons (pv 0) pa_nil)) pa_nil)))))
        (pss_cons (ps_if (pt_cmpR op_eq (pv 2) pe_int (nomark _))
          (pss_one (ps_ret (pe_op op_add_str (pe_slice sl_str (pv 0) po_none (po_some (pv 5))) (pe_slice sl_str (pv 0) (po_some (pe_op op_add (pv 5) pe_int)) po_none))))
          pss_nil)
        (pss_one (ps_ret (pe_op op_add_str (pe_op op_add_str (pe_slice sl_str (pv 0) po_none (po_some (pv 5))) (pe_c (c_law_sign_by T) hr pz (pa_cons (pv 1) pa_nil))) (pe_slice sl_str (pv 0) (po_some (pe_op op_add (pv 5) (pe_op op_mod (pe_op op_fdiv (pv 1) pe_int) pe_int))) po_none))))))
        pss_nil)
      (Evl.pss_cut (ps_if (pt_cmpR op_eq (pe_c (c_law_mixed T) hr pz (pa_cons (pv 1) (pa_cons pe_int (pa_cons pe_int pa_nil)))) pe_int (nomark _))
        (pss_one (ps_set (i := 4) sc_law_spoilt.nd rfl (Or.inl rfl) (pe_op op_sub (pe_callB (len_k K) (by rfl) (T.free 1) PySem.boot_len (pa_cons (pv 3) pa_nil)) pe_int)))
        pss_nil)
      (pss_cons (ps_set (i := 6) sc_law_spoilt.nd rfl (Or.inl rfl) (pe_split (pe_ix (ix_l K) (pv 3) (pv 4) (fun _ _ => rfl)) pe_str))
      (Evl.pss_cut (ps_if (pt_cmpR op_eq (pv 2) pe_int (nomark _))
        (pss_one (ps_asg (pe_join pe_str (pe_c (c_law_figure_spoilt T) hr pz (pa_cons (pv 6) (pa_cons (pv 1) pa_nil)))) (pg_sub (pv 3) (pv 4) set_list)))
        pss_nil)
      (Evl.pss_cut (ps_if (pt_cmpR op_eq (pv 2) pe_int (nomark _))
        (pss_cons (ps_set (i := 7) sc_law_spoilt.nd rfl (Or.inl rfl) (pe_c (c_law_mixed T) hr pz (pa_cons (pv 1) (pa_cons pe_int (pa_cons (pe_callB (len_k K) (by rfl) (T.free 1) PySem.boot_len (pa_cons (pv 3) pa_nil)) pa_nil)))))
        (pss_cons (ps_set (i := 8) sc_law_spoilt.nd rfl (Or.inl rfl) (pe_ix (ix_l K) (pv 3) (pv 4) (fun _ _ => rfl)))
        (pss_cons (ps_asg (pe_ix (ix_l K) (pv 3) (pv 7) (fun _ _ => rfl)) (pg_sub (pv 3) (pv 4) set_list))
        (pss_one (ps_asg (pv 8) (pg_sub (pv 3) (pv 7) set_list))))))
        pss_nil)
      (Evl.pss_cut (ps_if (pt_cmpR op_eq (pv 2) pe_int (nomark _))
        (pss_cons (ps_expr (pe_bm PySem.F.plainAttrs_list PySem.F.slot_list_insert PySem.F.type_list_insert mt_insert (pv 3) (pa_cons (pe_op op_add (pv 4) pe_int) (pa_cons (pe_ix (ix_l K) (pv 3) (pv 4) (fun _ _ => rfl)) pa_nil))))
        (pss_one (ps_if (pt_cmpR op_eq (pe_c (c_law_mixed T) hr pz (pa_cons (pv 1) (pa_cons pe_int (pa_cons pe_int pa_nil)))) pe_int (nomark _))
          (pss_one (ps_asg (pe_join pe_str (pe_slice (sl_k K) (pv 6) po_none (po_some (pe_op op_sub (pe_op op_sub (pe_callB (len_k K) (by rfl) (T.free 1) PySem.boot_len (pa_cons (pv 6) pa_nil)) pe_int) (pe_c (c_law_mixed T) hr pz (pa_cons (pv 1) (pa_cons pe_int (pa_cons pe_int pa_nil)))))))) (pg_sub (pv 3) (pv 4) set_list)))
          pss_nil)))
        pss_nil)
      (Evl.pss_cut (ps_if (pt_cmpR op_eq (pv 2) pe_int (nomark _))
        (pss_one (ps_expr (pe_bm PySem.F.plainAttrs_list PySem.F.slot_list_insert PySem.F.type_list_insert mt_insert (pv 3) (pa_cons (pe_op op_add (pv 4) (pe_c (c_law_mixed T) hr pz (pa_cons (pv 1) (pa_cons pe_int (pa_cons pe_int pa_nil))))) (pa_cons (pe_c (c_law_odd_row T) hr pz (pa_cons (pe_c (c_law_mixed T) hr pz (pa_cons (pv 1) (pa_cons pe_int (pa_cons pe_int pa_nil)))) pa_nil)) pa_nil)))))
        pss_nil)
      (pss_one (ps_ret (pe_join pe_str (pv 3))))))))))))), ?_⟩
    obtain ⟨z, c, w, rfl, z1, z2, w0, w5, wz, q⟩ := h
    have hsum : sumL (Txt.split z "\n") + (Txt.split z "\n").length = z.length + 1 := nl_sum z
    have hpos := List.length_pos_iff.mpr (nl_ne z)
    have hjoin := join_split z "\n"
    (repeat fail "s")
    refine v_split (by decide +kernel) (Nat.le_trans (show _ ≤ 9000002 by omega) (by decide)) fun rw_ H1 nrw e1 hrw => ?_
    obtain ⟨rs, ers⟩ : ∃ rs, rs = Txt.split z "\n" := ⟨_, rfl⟩
    rw [← ers] at hsum hpos hrw hjoin
    have lml : (rs.map V.str).length = rs.length := List.length_map ..
    clear ers
    (repeat fail "s")
    rename_i at_ H2 hat e2
    rw [lml] at hat
    have hrw2 := e2 _ _ hrw
    have x2 := e1.trans e2
    have szl : ∀ n, n ≤ 9000002 → n ≤ sizeLine := fun n h => Nat.le_trans h (by decide)
    clear e1 e2 hrw
    refine s_cut (fun σ' H' => σ' = [some (.str z), some (.int c), some (.int w), some (.ref rw_), some (.int (at_ : Int)), none, none, none, none] ∧ H' = H2 ∧ 2 ≤ w) ?_ ?_
    · (repeat fail "s")
      refine iteD (fun h => ?_) (fun h => ?_)
      rotate_left
      · (repeat fail "s")
        exact ⟨rfl, rfl, by omega⟩
      (repeat fail "s")
      refine ⟨z, rfl, szl _ (by omega), ?_⟩
      (repeat fail "s")
      rename_i v H3 hv e3
      have hv : v < z.length := by omega
      have x3 := x2.trans e3
      obtain ⟨k, hk, bk⟩ : ∃ k : Nat, c / 96 % 2 = (k : Int) ∧ k ≤ 1 := ⟨(c / 96 % 2).toNat, by omega, by omega⟩
      clear e3 hrw2
      refine iteD (fun h0 => ?_) (fun h0 => ?_)
      · (repeat fail "s")
        refine ⟨z, rfl, szl _ (by omega), ?_⟩
        (repeat fail "s")
        rw [show ((v : Int) + 1) = ((v + 1 : Nat) : Int) by omega]
        refine ⟨z, rfl, szl _ (by omega), ?_⟩
        have l1 := cut_pre (z := z) (v := v) (by omega)
        have l2 := cut_suf (z := z) (v := v + 1) (by omega)
        have hz2 := wz h0
        refine ⟨_, _, rfl, rfl, szl _ (by omega), ?_⟩
        exact q _ H3 x3 (by rw [len_app]; omega) (by rw [len_app]; omega)
      · (repeat fail "s")
        refine ⟨z, rfl, szl _ (by omega), ?_⟩
        (repeat fail "s")
        refine ⟨c, rfl, fun s hs => ?_⟩
        have l1 := cut_pre (z := z) (v := v) (by omega)
        have l2 := cut_suf (z := z) (v := v + k) (by omega)
        refine ⟨_, _, rfl, rfl, szl _ (by omega), ?_⟩
        (repeat fail "s")
        rw [show ((v : Int) + c / 96 % 2) = ((v + k : Nat) : Int) by omega]
        refine ⟨z, rfl, szl _ (by omega), ?_⟩
        refine ⟨_, _, rfl, rfl, szl _ (by rw [len_app]; omega), ?_⟩
        exact q _ H3 x3 (by rw [len_app, len_app]; omega) (by rw [len_app, len_app]; omega)
    rintro σ' H' ⟨rfl, rfl, w2⟩
    (repeat fail "s")
    refine s_cut (fun σ' H' => ∃ at2 : Nat, σ' = [some (.str z), some (.int c), some (.int w), some (.ref rw_), some (.int (at2 : Int)), none, none, none, none] ∧ Ex H H' ∧ H' rw_ = some (.lst (rs.map V.str)) ∧ at2 < rs.length) ?_ ?_
    · (repeat fail "s")
      rename_i v H3 hv e3
      have hrw3 := e3 _ _ hrw2
      have x3 := x2.trans e3
      clear e3 hrw2 x2
      refine iteD (fun h => ?_) (fun h => ?_)
      · (repeat fail "s")
        rw [lml]
        exact ⟨rs.length - 1, by rw [show ((rs.length : Int) - 1) = ((rs.length - 1 : Nat) : Int) by omega]; rfl, x3, hrw3, by omega⟩
      · (repeat fail "s")
        exact ⟨at_, rfl, x3, hrw3, by omega⟩
    rintro σ' H3 ⟨at2, rfl, x3, hrw3, hat2⟩
    clear hrw2 x2 hat
    have hx := List.getElem?_eq_getElem hat2
    obtain ⟨x, ex⟩ : ∃ x, x = rs[at2] := ⟨_, rfl⟩
    rw [← ex] at hx
    clear ex
    have hxs := sumL_mem (List.mem_of_getElem? hx)
    have hwsum : sumL (Txt.split x " ") + (Txt.split x " ").length = x.length + 1 := sp_sum x
    have hwpos := List.length_pos_iff.mpr (sp_ne x)
    have hwjoin := join_split x " "
    obtain ⟨ws, ews⟩ : ∃ ws, ws = Txt.split x " " := ⟨_, rfl⟩
    rw [← ews] at hwsum hwpos hwjoin
    (repeat fail "s")
    refine v_ixW hrw3 ⟨by omega, by omega⟩ fun x' hx' _ => ?_
    have exx : x' = x := by
      rw [Int.toNat_natCast, hx] at hx'
      exact (Option.some.inj hx').symm
    subst exx
    clear hx'
    (repeat fail "s")
    refine v_split (by decide +kernel) (szl _ (by omega)) fun wd H4 nwd e4 hwd => ?_
    rw [← ews] at hwd
    have hrw4 := e4 _ _ hrw3
    have nwr : rw_ ≠ wd := ne_of_none hrw3 nwd
    have x4 := x3.trans e4
    have nwdH : H wd = none := Evl.fresh_back x3 nwd
    clear e4 hrw3 x3 ews
    have Done : ∃ D : List Str → Prop, D = fun rs' => rs' ≠ [] ∧ 2 ≤ sumL rs' + rs'.length ∧ sumL rs' + rs'.length ≤ 2 * z.length + 101 ∧ rs'.length ≤ 9000000 := ⟨_, rfl⟩
    obtain ⟨D, hD⟩ := Done
    have mkD : ∀ rs' : List Str, rs' ≠ [] → 2 ≤ sumL rs' + rs'.length → sumL rs' + rs'.length ≤ 2 * z.length + 101 → D rs' := fun rs' a1 a2 a3 => by
      rw [hD]
      exact ⟨a1, a2, a3, by omega⟩
    (repeat fail "s")
    refine s_cut (fun σ' H' => ∃ rs2 : List Str, σ' = [some (.str z), some (.int c), some (.int w), some (.ref rw_), some (.int (at2 : Int)), none, some (.ref wd), none, none] ∧ Ex H H' ∧ H' rw_ = some (.lst (rs2.map V.str)) ∧ (w = 2 → D rs2) ∧ (2 < w → rs2 = rs ∧ H' wd = some (.lst (ws.map V.str)))) ?_ ?_
    · (repeat fail "s")
      refine iteD (fun h => ?_) (fun h => ?_)
      rotate_left
      · (repeat fail "s")
        exact ⟨rs, rfl, x4, hrw4, fun z => absurd z h, fun _ => ⟨rfl, hwd⟩⟩
      (repeat fail "s")
      refine ⟨wd, ws, c, rfl, hwd, by omega, by omega, by omega, fun H5 ws' k5 h5 l5 s5 same => ?_⟩
      have hne' : ws' ≠ [] := fun z => by
        rw [z] at l5
        have : ([] : List Str).length = 0 := rfl
        omega
      have hj := join_sp hne'
      have hrw5 := k5 _ _ nwr hrw4
      have x5 : Ex H H5 := fun a o h => k5 a o (fun z => by
        rw [z, nwdH] at h
        cases h) (x4 _ _ h)
      refine ⟨_, _, ws', rfl, rfl, .inl (SqL.of h5), ?_, ?_⟩
      · rw [show (" " : Str).length = 1 by decide +kernel]
        show sumL ws' + ws'.length * 1 ≤ _
        omega
      (repeat fail "s")
      refine v_setW hrw5 ⟨by omega, by omega⟩ fun H6 c6 h6 => ?_
      rw [Int.toNat_natCast] at h6
      have s6 := sumL_set (y := Txt.join " " ws') hx
      have x6 : Ex H H6 := c6.ex x5 nrw
      have hmem : Txt.join " " ws' ∈ rs.set at2 (Txt.join " " ws') := List.mem_set hat2 _
      have hms := sumL_mem hmem
      have l6 : (rs.set at2 (Txt.join " " ws')).length = rs.length := List.length_set
      refine ⟨_, rfl, x6, h6, fun _ => mkD _ (fun z => by rw [z] at l6; have : ([] : List Str).length = 0 := rfl; omega) ?_ (by omega), fun z => absurd z (by omega)⟩
      by_cases hw : ws.length < 2
      · rw [same hw] at hms hj s6 l6 ⊢
        omega
      · omega
    rintro σ' H5 ⟨rs2, rfl, x5, hrw5, d2, k2⟩
    clear hrw4 x4 hwd
    (repeat fail "s")
    refine s_cut (fun σ' H' => ∃ (rs2 : List Str) (v7 v8 : Option V), σ' = [some (.str z), some (.int c), some (.int w), some (.ref rw_), some (.int (at2 : Int)), none, some (.ref wd), v7, v8] ∧ Ex H H' ∧ H' rw_ = some (.lst (rs2.map V.str)) ∧ (w ≤ 3 → D rs2) ∧ (3 < w → rs2 = rs ∧ H' wd = some (.lst (ws.map V.str)))) ?_ ?_
    · (repeat fail "s")
      refine iteD (fun h => ?_) (fun h => ?_)
      rotate_left
      · (repeat fail "s")
        exact ⟨rs2, _, _, rfl, x5, hrw5, fun z => d2 (by omega), fun z => k2 (by omega)⟩
      obtain ⟨rfl, hwd5⟩ := k2 (by omega)
      (repeat fail "s")
      rename_i o H6 ho e6
      rw [lml] at ho
      have hrw6 := e6 _ _ hrw5
      have x6 := x5.trans e6
      clear e6 hrw5 x5 hwd5
      (repeat fail "s")
      refine v_ixW hrw6 ⟨by omega, by omega⟩ fun x1 hx1 _ => ?_
      have exx : x1 = x' := by
        rw [Int.toNat_natCast, hx] at hx1
        exact (Option.some.inj hx1).symm
      subst exx
      clear hx1
      (repeat fail "s")
      refine v_ixW hrw6 ⟨by omega, by omega⟩ fun y hy _ => ?_
      rw [Int.toNat_natCast] at hy
      (repeat fail "s")
      refine v_setW hrw6 ⟨by omega, by omega⟩ fun H7 c7 h7 => ?_
      rw [Int.toNat_natCast] at h7
      have x7 : Ex H H7 := c7.ex x6 nrw
      have s7 := sumL_set (y := y) hx
      have l7 : (rs2.set at2 y).length = rs2.length := List.length_set
      have hy2 : (rs2.set at2 y)[o]? = some y := by
        by_cases e : at2 = o
        · rw [← e]
          exact List.getElem?_set_self hat2
        · rw [List.getElem?_set_ne e]
          exact hy
      have s8 := sumL_set (y := x1) hy2
      (repeat fail "s")
      refine v_setW h7 ⟨by omega, by omega⟩ fun H8 c8 h8 => ?_
      rw [Int.toNat_natCast] at h8
      have l8 : ((rs2.set at2 y).set o x1).length = rs2.length := by rw [List.length_set, l7]
      exact ⟨_, _, _, rfl, c8.ex x7 nrw, h8, fun _ => mkD _ (fun z => by rw [z] at l8; have : ([] : List Str).length = 0 := rfl; omega) (by omega) (by omega), fun z => absurd z (by omega)⟩
    rintro σ' H6 ⟨rs3, v7, v8, rfl, x6, hrw6, d3, k3⟩
    clear x5 hrw5 d2 k2
    (repeat fail "s")
    refine s_cut (fun σ' H' => ∃ (rs2 : List Str) (v7 v8 : Option V), σ' = [some (.str z), some (.int c), some (.int w), some (.ref rw_), some (.int (at2 : Int)), none, some (.ref wd), v7, v8] ∧ Ex H H' ∧ H' rw_ = some (.lst (rs2.map V.str)) ∧ (w ≤ 4 → D rs2) ∧ (4 < w → rs2 = rs)) ?_ ?_
    · (repeat fail "s")
      refine iteD (fun h => ?_) (fun h => ?_)
      rotate_left
      · (repeat fail "s")
        exact ⟨rs3, _, _, rfl, x6, hrw6, fun z => d3 (by omega), fun z => (k3 (by omega)).1⟩
      obtain ⟨rfl, hwd6⟩ := k3 (by omega)
      (repeat fail "s")
      refine v_ixW hrw6 ⟨by omega, by omega⟩ fun x1 hx1 _ => ?_
      have exx : x1 = x' := by
        rw [Int.toNat_natCast, hx] at hx1
        exact (Option.some.inj hx1).symm
      subst exx
      clear hx1
      (repeat fail "s")
      refine ⟨rw_, _, (at2 : Int) + 1, .str x1, rfl, rfl, hrw6, Nat.lt_of_le_of_lt (show _ ≤ 9000002 by omega) (by decide), by omega, by omega, ?_⟩
      have c7 : Ch H6 (upd H6 rw_ (.lst ((rs3.map V.str).take ((at2 : Int) + 1).toNat ++ [V.str x1] ++ (rs3.map V.str).drop ((at2 : Int) + 1).toNat))) rw_ := Ch.upd hrw6
      have h7 : upd H6 rw_ (.lst ((rs3.map V.str).take ((at2 : Int) + 1).toNat ++ [V.str x1] ++ (rs3.map V.str).drop ((at2 : Int) + 1).toNat)) rw_ = some (.lst ((rs3.map V.str).take ((at2 : Int) + 1).toNat ++ [V.str x1] ++ (rs3.map V.str).drop ((at2 : Int) + 1).toNat)) := upd_same
      generalize upd H6 rw_ (.lst ((rs3.map V.str).take ((at2 : Int) + 1).toNat ++ [V.str x1] ++ (rs3.map V.str).drop ((at2 : Int) + 1).toNat)) = H7 at c7 h7 ⊢
      have h7 : H7 rw_ = some (.lst ((rs3.take (at2 + 1) ++ [x1] ++ rs3.drop (at2 + 1)).map V.str)) := by
        rw [h7, show ((at2 : Int) + 1).toNat = at2 + 1 by omega, List.map_append, List.map_append, List.map_take, List.map_drop]
        rfl
      have s7 := sumL_insert rs3 (at2 + 1) x1
      have l7 : (rs3.take (at2 + 1) ++ [x1] ++ rs3.drop (at2 + 1)).length = rs3.length + 1 := by
        rw [List.length_append, List.length_append, List.length_take, List.length_drop]
        show _ + 1 + _ = _
        omega
      have g7 : (rs3.take (at2 + 1) ++ [x1] ++ rs3.drop (at2 + 1))[at2]? = some x1 := by
        rw [List.append_assoc, List.getElem?_append_left (by rw [List.length_take]; omega), List.getElem?_take, if_pos (by omega)]
        exact hx
      obtain ⟨rs7, e7⟩ : ∃ rs7, rs7 = rs3.take (at2 + 1) ++ [x1] ++ rs3.drop (at2 + 1) := ⟨_, rfl⟩
      rw [← e7] at h7 s7 l7 g7
      have x7 : Ex H H7 := c7.ex x6 nrw
      have hwd7 := c7.keep _ _ nwr.symm hwd6
      clear e7 c7 hrw6 x6 hwd6
      (repeat fail "s")
      rename_i v H8 hv e8
      have x8 := x7.trans e8
      have h8 := e8 _ _ h7
      have hwd8 := e8 _ _ hwd7
      clear e8 h7 hwd7 x7
      refine iteD (fun hi => ?_) (fun hi => ?_)
      rotate_left
      · (repeat fail "s")
        exact ⟨rs7, _, _, rfl, x8, h8, fun _ => mkD _ (fun z => by rw [z] at l7; have : ([] : List Str).length = 0 := rfl; omega) (by omega) (by omega), fun z => absurd z (by omega)⟩
      (repeat fail "s")
      rename_i k8 H9 hk8 e9 l H10 nl e10 h10
      obtain ⟨ms, hms, lms, sms⟩ := strs_cut ws none (some (((ws.map V.str).length : Int) - 1 - (k8 : Int)))
      rw [hms] at h10
      have e810 := e9.trans e10
      have h11 := e810 _ _ h8
      have x11 := x8.trans e810
      have hjm := join_sp_le ms
      clear e9 e10 e810 hwd8 x8 h8
      refine ⟨_, _, ms, rfl, rfl, .inl (SqL.of h10), ?_, ?_⟩
      · rw [show (" " : Str).length = 1 by decide +kernel]
        show sumL ms + ms.length * 1 ≤ _
        omega
      (repeat fail "s")
      refine v_setW h11 ⟨by omega, by omega⟩ fun H12 c12 h12 => ?_
      rw [Int.toNat_natCast] at h12
      have s12 := sumL_set (y := Txt.join " " ms) g7
      have l12 : (rs7.set at2 (Txt.join " " ms)).length = rs7.length := List.length_set
      exact ⟨_, _, _, rfl, c12.ex x11 nrw, h12, fun _ => mkD _ (fun z => by rw [z] at l12; have : ([] : List Str).length = 0 := rfl; omega) (by omega) (by omega), fun z => absurd z (by omega)⟩
    rintro σ' H7 ⟨rs4, v7, v8, rfl, x7, hrw7, d4, k4⟩
    clear x6 hrw6 d3 k3
    (repeat fail "s")
    refine s_cut (fun σ' H' => ∃ (rs2 : List Str) (v7 v8 : Option V), σ' = [some (.str z), some (.int c), some (.int w), some (.ref rw_), some (.int (at2 : Int)), none, some (.ref wd), v7, v8] ∧ Ex H H' ∧ H' rw_ = some (.lst (rs2.map V.str)) ∧ D rs2) ?_ ?_
    · (repeat fail "s")
      refine iteD (fun h => ?_) (fun h => ?_)
      rotate_left
      · (repeat fail "s")
        exact ⟨rs4, _, _, rfl, x7, hrw7, d4 (by omega)⟩
      obtain rfl := k4 (by omega)
      (repeat fail "s")
      rename_i i8 H8 hi8 e8 j9 H9 hj9 e9
      refine ⟨_, rfl, fun y H10 e10 ly => ?_⟩
      have e810 := e8.trans (e9.trans e10)
      have hrw10 := e810 _ _ hrw7
      have x10 := x7.trans e810
      clear e8 e9 e10 e810 hrw7 x7
      (repeat fail "s")
      refine ⟨rw_, _, (at2 : Int) + (i8 : Int), .str y, rfl, rfl, hrw10, Nat.lt_of_le_of_lt (show _ ≤ 9000002 by omega) (by decide), by omega, by omega, ?_⟩
      have c7 : Ch H10 (upd H10 rw_ (.lst ((rs4.map V.str).take ((at2 : Int) + (i8 : Int)).toNat ++ [V.str y] ++ (rs4.map V.str).drop ((at2 : Int) + (i8 : Int)).toNat))) rw_ := Ch.upd hrw10
      have h7 : upd H10 rw_ (.lst ((rs4.map V.str).take ((at2 : Int) + (i8 : Int)).toNat ++ [V.str y] ++ (rs4.map V.str).drop ((at2 : Int) + (i8 : Int)).toNat)) rw_ = some (.lst ((rs4.map V.str).take ((at2 : Int) + (i8 : Int)).toNat ++ [V.str y] ++ (rs4.map V.str).drop ((at2 : Int) + (i8 : Int)).toNat)) := upd_same
      generalize upd H10 rw_ (.lst ((rs4.map V.str).take ((at2 : Int) + (i8 : Int)).toNat ++ [V.str y] ++ (rs4.map V.str).drop ((at2 : Int) + (i8 : Int)).toNat)) = H11 at c7 h7 ⊢
      have h7 : H11 rw_ = some (.lst ((rs4.take (at2 + i8) ++ [y] ++ rs4.drop (at2 + i8)).map V.str)) := by
        rw [h7, show ((at2 : Int) + (i8 : Int)).toNat = at2 + i8 by omega, List.map_append, List.map_append, List.map_take, List.map_drop]
        rfl
      have s7 := sumL_insert rs4 (at2 + i8) y
      have l7 : (rs4.take (at2 + i8) ++ [y] ++ rs4.drop (at2 + i8)).length = rs4.length + 1 := by
        rw [List.length_append, List.length_append, List.length_take, List.length_drop]
        show _ + 1 + _ = _
        omega
      exact ⟨_, _, _, rfl, c7.ex x10 nrw, h7, mkD _ (fun z => by rw [z] at l7; have : ([] : List Str).length = 0 := rfl; omega) (by omega) (by omega)⟩
    rintro σ' H8 ⟨rs5, v7, v8, rfl, x8, hrw8, d5⟩
    rw [hD] at d5
    obtain ⟨g1, g2, g3, g4⟩ := d5
    have hj := join_nl g1
    (repeat fail "s")
    refine ⟨_, _, rs5, rfl, rfl, .inl (SqL.of hrw8), ?_, ?_⟩
    · rw [show ("\n" : Str).length = 1 by decide +kernel]
      show sumL rs5 + rs5.length * 1 ≤ _
      omega
    exact q _ H8 x8 (by omega) (by omega)
theorem sc_law_numbers_of : FnScope ["_law_row", "_law_word_here", "_law_words", "_law_found", "_law_one"] ["_law_row", "_law_word_here"] (defScope s_law_numbers_of) := ⟨rfl, rfl, rfl, by decide +kernel, rfl, by decide +kernel, by decide +kernel⟩
theorem c_law_numbers_of (T : Tx K mg) : Cal P w K mg base 2 "_law_numbers_of" spNums13 := by
  refine T.cal 36 77 rfl rfl sc_law_numbers_of (fun _ _ _ _ _ _ us hl => match us, hl with | [_, _], _ => rfl) (fun vs H Q E h => ?_) fun cdv A outer s H vs Q E hr h => ?_
  · first | (obtain ⟨_, rfl, _⟩ := h; rfl) | (obtain ⟨_, _, rfl, _⟩ := h; rfl) | (obtain ⟨_, _, _, rfl, _⟩ := h; rfl) | (obtain ⟨_, _, _, _, rfl, _⟩ := h; rfl) | (obtain ⟨_, _, _, _, _, rfl, _⟩ := h; rfl) | (obtain ⟨_, _, _, _, _, _, rfl, _⟩ := h; rfl) | (obtain ⟨_, _, _, _, _, _, _, rfl, _⟩ := h; rfl) | (obtain ⟨_, _, _, _, _, _, _, _, rfl, _⟩ := h; rfl) | (obtain ⟨_, _, _, _, _, _, _, _, _, rfl, _⟩ := h; rfl) | (obtain ⟨_, _, _, _, _, _, _, _, _, _, rfl, _⟩ := h; rfl) | (obtain ⟨_, _, _, _, _, _, _, _, _, _, _, rfl, _⟩ := h; rfl) | (obtain ⟨_, _, _, _, _, _, _, _, _, _, _, _, rfl, _⟩ := h; rfl) | (obtain ⟨_, _, _, _, _, _, _, _, _, _, _, _, _, rfl, _⟩ := h; rfl) | (obtain ⟨_, _, _, _, _, _, _, _, _, _, _, _, _, _, rfl, _⟩ := h; rfl) | (obtain ⟨_, _, _, _, _, _, _, _, _, _, _, _, _, _, _, rfl, _⟩ := h; rfl)
  · refine ⟨_, (pss_cons (ps_set (i := 2) sc_law_numbers_of.nd rfl (Or.inl rfl) (pe_split (pv 0) pe_str))
      (pss_cons (ps_setLc (i := 3) (own := [("_law_one", 4)]) (g := gName 4)  rfl sc_law_numbers_of.nd rfl rfl (sw_true rfl rfl rfl (by decide +kernel)) (pi_l K (pe_slice (sl_k K) (pv 2) (po_some pe_int) po_none)) (blkOk_by (N := ["_law_row", "_law_word_here", "_law_words", "_law_found", "_law_one"]) (sc := defScope s_law_numbers_of) (by decide +kernel)) (fun _ _ _ _ _ => pg_name (i := 4) sc_law_numbers_of.nd rfl (Or.inl rfl)) (fun _ _ _ _ _ => pts_nil) (fun _ _ _ _ _ => (pe_c (c_law_figures T) hr pz (pa_cons (pv 4) pa_nil))))
      (pss_cons (ps_if (PW.pt (pw_or (pt_cmpR op_ne (pe_ix (ix_l K) (pv 2) pe_int (fun _ _ => rfl)) (pv 1) (nomark _)) (pw_or1 (pt_cmpR (in_k K) (pe_un un_neg pe_int) (pv 3) (by rfl)))))
        (pss_one (ps_ret (pe_lst pa_nil)))
        pss_nil)
      (pss_one (ps_ret (pv 3)))))), ?_⟩
    obtain ⟨z, w, rfl, hz, q⟩ := h
    have hsum := sp_sum z
    (repeat fail "s")
    refine v_split (by decide +kernel) (Nat.le_trans (show _ ≤ 9000002 by omega) (by decide)) fun wd H1 nwd e1 hwd => ?_
    cases hs : Txt.split z " " with
    | nil => exact absurd hs (sp_ne z)
    | cons a r =>
      rw [hs] at hwd hsum
      have hwd : H1 wd = some (.lst (.str a :: r.map V.str)) := hwd
      rw [List.length_cons] at hsum
      have hno : numbersOf z w = if a = w then r.mapM numOf else none := by
        unfold numbersOf
        rw [hs]
      have hrm : ∀ x ∈ r, x.length ≤ z.length := fun x m => sp_mem (by rw [hs]; exact List.mem_cons_of_mem _ m)
      (repeat fail "s")
      rename_i t H2 nt e2 ht
      refine lc_vLB (SqL.of ht) (by rw [List.length_map]; omega) (fun x => match x with | .str s => .int (figI s) | _ => .non) (fun _ => rfl) (fun i x H3 Q3 hi e3 q3 => ?_) fun D H3 nD e3 hD => ?_
      · obtain ⟨s1, hs1, rfl⟩ := map_back hi
        (repeat fail "s")
        exact ⟨s1, rfl, by have := hrm s1 (List.mem_of_getElem? hs1); omega, fun H4 e4 => q3 H4 e4⟩
      have hD : H3 D = some (.lst ((r.map figI).map V.int)) := by
        rw [hD, List.map_map, List.map_map]
        rfl
      have hwd3 := e3 _ _ (e2 _ _ hwd)
      have nDH : H D = none := Evl.fresh_back (e1.trans e2) nD
      have X3 := e1.trans (e2.trans e3)
      clear e1 e2 e3 hwd ht
      (repeat fail "s")
      refine v_ixL (SqL.of hwd3) (at_of (j := 0) rfl rfl) ?_
      (repeat fail "s")
      refine iteN (fun h => ?_) (fun h => ?_)
      · (repeat fail "s")
        rename_i l H4 nl e4 hl
        refine q H4 l (X3.trans e4) (Evl.fresh_back X3 nl) ?_
        rw [hl, hno, if_neg h]
        rfl
      rw [if_pos h] at hno
      (repeat fail "s")
      refine iteD (fun hm => ?_) (fun hm => ?_)
      · (repeat fail "s")
        rename_i l H4 nl e4 hl
        refine q H4 l (X3.trans e4) (Evl.fresh_back X3 nl) ?_
        rw [hl, hno, figI_none.mp hm]
        rfl
      · (repeat fail "s")
        refine q H3 D X3 nDH ?_
        cases hq : r.mapM numOf with
        | none => exact absurd (figI_none.mpr hq) hm
        | some ns =>
          rw [hD, hno, hq, figI_some hq]
          rfl
theorem sc_law_part_word : FnScope ["_law_rows_here", "_law_ahead", "_law_part", "_law_leg"] ["_law_rows_here", "_law_ahead", "_law_part"] (defScope s_law_part_word) := ⟨rfl, rfl, rfl, by decide +kernel, rfl, by decide +kernel, by decide +kernel⟩
theorem c_law_part_word (T : Tx K mg) : Cal P w K mg base 1 "_law_part_word" (spPartWord K) := by
  refine T.cal 37 78 rfl rfl sc_law_part_word (fun _ _ _ _ _ _ us hl => match us, hl with | [_, _, _], _ => rfl) (fun vs H Q E h => ?_) fun cdv A outer s H vs Q E hr h => ?_
  · first | (obtain ⟨_, rfl, _⟩ := h; rfl) | (obtain ⟨_, _, rfl, _⟩ := h; rfl) | (obtain ⟨_, _, _, rfl, _⟩ := h; rfl) | (obtain ⟨_, _, _, _, rfl, _⟩ := h; rfl) | (obtain ⟨_, _, _, _, _, rfl, _⟩ := h; rfl) | (obtain ⟨_, _, _, _, _, _, rfl, _⟩ := h; rfl) | (obtain ⟨_, _, _, _, _, _, _, rfl, _⟩ := h; rfl) | (obtain ⟨_, _, _, _, _, _, _, _, rfl, _⟩ := h; rfl) | (obtain ⟨_, _, _, _, _, _, _, _, _, rfl, _⟩ := h; rfl) | (obtain ⟨_, _, _, _, _, _, _, _, _, _, rfl, _⟩ := h; rfl) | (obtain ⟨_, _, _, _, _, _, _, _, _, _, _, rfl, _⟩ := h; rfl) | (obtain ⟨_, _, _, _, _, _, _, _, _, _, _, _, rfl, _⟩ := h; rfl) | (obtain ⟨_, _, _, _, _, _, _, _, _, _, _, _, _, rfl, _⟩ := h; rfl) | (obtain ⟨_, _, _, _, _, _, _, _, _, _, _, _, _, _, rfl, _⟩ := h; rfl) | (obtain ⟨_, _, _, _, _, _, _, _, _, _, _, _, _, _, _, rfl, _⟩ := h; rfl)
  · refine ⟨_, (pss_cons (ps_if (pt_cmpR op_ge (pe_ix (ix_t K) (pv 2) pe_int (fun _ _ => rfl)) (pe_callB (len_k K) (by rfl) (T.free 1) PySem.boot_len (pa_cons (pv 0) pa_nil)) (nomark _))
        (pss_one (ps_ret pe_str))
        pss_nil)
      (pss_cons (ps_if (PW.pt (pw_or (pt_cmpR op_ge (pe_ix (ix_t K) (pv 2) pe_int (fun _ _ => rfl)) (pe_ix (ix_t K) (pv 2) pe_int (fun _ _ => rfl)) (nomark _)) (pw_or1 (pt_cmpR op_gt (pe_ix (ix_t K) (pv 2) pe_int (fun _ _ => rfl)) (pe_callB (len_k K) (by rfl) (T.free 1) PySem.boot_len (pa_cons (pe_ix (ix_l K) (pv 0) pe_int (fun _ _ => rfl)) pa_nil)) (nomark _)))))
        (pss_one (ps_ret pe_str))
        pss_nil)
      (Evl.pss_cut (ps_if (PW.pt (pw_and (pt_cmpR op_gt (pe_callB (len_k K) (by rfl) (T.free 1) PySem.boot_len (pa_cons (pv 1) pa_nil)) pe_int (nomark _)) (pw_and1 (PW.pt (pw_or (pt_cmpR op_ne (pe_ix (ix_t K) (pe_ix (ix_l K) (pv 1) (pe_un un_neg pe_int) (fun _ _ => rfl)) pe_int (fun _ _ => rfl)) (pe_ix (ix_t K) (pv 2) pe_int (fun _ _ => rfl)) (nomark _)) (pw_or1 (pt_cmpR op_eq (pe_ix (ix_t K) (pe_ix (ix_l K) (pv 1) (pe_un un_neg pe_int) (fun _ _ => rfl)) pe_int (fun _ _ => rfl)) (pe_ix (ix_t K) (pv 2) pe_int (fun _ _ => rfl)) (nomark _))))))))
        (pss_one (ps_ret pe_str))
        pss_nil)
      (pss_cons (ps_if (pt_not (pt_val (pe_callB (all_k K rfl) (by rfl) (T.free 44) (by decide +kernel) (pa_cons (pe_lc (own := [("_law_leg", 3)]) (g := gName 3) rfl sc_law_part_word.nd (pi_range2 (by rfl) (T.free 2) (pa_cons (pe_ix (ix_t K) (pv 2) pe_int (fun _ _ => rfl)) (pa_cons (pe_ix (ix_t K) (pv 2) pe_int (fun _ _ => rfl)) pa_nil))) (blkOk_by (N := ["_law_rows_here", "_law_ahead", "_law_part", "_law_leg"]) (sc := defScope s_law_part_word) (by decide +kernel)) (fun _ _ _ _ _ => pg_name (i := 3) sc_law_part_word.nd rfl (Or.inl rfl)) (fun _ _ _ _ _ => pts_nil) (fun _ _ _ _ _ => (pe_cmpR op_isN1 (pe_ix (ix_l K) (pe_ix (ix_l K) (pv 0) (pe_ix (ix_t K) (pv 2) pe_int (fun _ _ => rfl)) (fun _ _ => rfl)) (pv 3) (fun _ _ => rfl)) pe_non (nomark _)))) pa_nil))))
        (pss_one (ps_ret pe_str))
        pss_nil)
      (pss_one (ps_ret pe_str)))))), ?_⟩
    obtain ⟨r, l, t, as, g, n, a, b, c, acc, rfl, G0, hg1, hn, hrow, hP, ht, q⟩ := h
    have q0 : ∀ w, partWd g n acc a b c = w → ∀ H', Ex H H' → Q (.str w) H' := fun w e H' e2 => by rw [← e]; exact q H' e2
    unfold partWd at q0
    (repeat fail "s")
    refine iteD (fun h1 => ?_) (fun h1 => ?_)
    · (repeat fail "s")
      exact q0 _ (by rw [if_pos (show ¬ a < g.length by omega)]) _ (Evl.Ex.refl _)
    have h1 : a < g.length := by omega
    rw [if_neg (show ¬ ¬ a < g.length from fun z => z h1)] at q0
    (repeat fail "s")
    refine iteD (fun h2 => ?_) (fun h2 => ?_)
    · (repeat fail "s")
      exact q0 _ (by rw [if_pos (show ¬ (b < c ∧ c ≤ n) by omega)]) _ (Evl.Ex.refl _)
    (repeat fail "s")
    have g0 := List.getElem?_eq_getElem (l := g) (i := 0) (by omega)
    obtain ⟨a0, ha0, hrow0⟩ := G0.row.right g0
    have hl0 : (g[0].map oV).length = n := by rw [List.length_map]; exact hrow _ (List.getElem_mem _)
    refine v_ixL (SqL.of G0.top) (at_of (j := 0) rfl (map_get ha0)) ?_
    refine s_nil ?_
    refine v_lenL (SqL.of hrow0) ?_
    rw [hl0]
    (repeat fail "s")
    refine iteD (fun h3 => ?_) (fun h3 => ?_)
    · (repeat fail "s")
      exact q0 _ (by rw [if_pos (show ¬ (b < c ∧ c ≤ n) by omega)]) _ (Evl.Ex.refl _)
    have h2 : b < c ∧ c ≤ n := ⟨by omega, by omega⟩
    clear h3 hrow0 ha0 g0 hl0
    rw [if_neg (show ¬ ¬ (b < c ∧ c ≤ n) from fun z => z h2)] at q0
    have fin : goesBad acc a b = false → ∀ (w : Str), (if reach (g[a]?.getD []) b < c then ("shared" : Str) else "") = w → ∀ H', Ex H H' → Q (.str w) H' := fun hb w e H' e2 => q0 w (by rw [if_neg (by rw [hb]; exact Bool.false_ne_true)]; exact e) H' e2
    have hrg := List.getElem?_eq_getElem (l := g) (i := a) h1
    have hrl := hrow _ (List.getElem_mem h1)
    (repeat fail "s")
    refine s_cut (fun σ' H' => σ' = [some (.ref r), some (.ref l), some (.ref t), none] ∧ H' = H ∧ goesBad acc a b = false) ?_ ?_
    rotate_left
    · rintro σ' H' ⟨rfl, rfl, hb⟩
      (repeat fail "s")
      refine lc_bR (f := fun k => ((g[a][k]?).getD none).isNone) (by omega) (fun _ => rfl) (fun i H2 Q2 hi e2 q2 => ?_) fun D H2 nD e2 hD => ?_
      · have ht2 := e2 _ _ ht
        have G2 := G0.mono e2
        (repeat fail "s")
        rename_i bb row hbb rb hr mr
        rw [hrg] at hr
        cases hr
        refine v_ixR rb (by omega) fun x hx => ?_
        (repeat fail "s")
        rw [hx] at q2
        exact q2
      (repeat fail "s")
      refine v_all (SqL.of hD) ?_
      have hfi := free_iff (row := g[a]) (b := b) (c := c) (by omega)
      cases hb2 : ((List.range (c - b)).map fun i => ((g[a][b + i]?).getD none).isNone).all id with
      | true =>
        (repeat fail "s")
        exact fin hb _ (by rw [hrg, Option.getD_some, if_neg (hfi.mp hb2 h2.1)]) _ e2
      | false =>
        (repeat fail "s")
        refine fin hb _ ?_ _ e2
        rw [hrg, Option.getD_some, if_pos]
        by_cases z : reach g[a] b < c
        · exact z
        · rw [hfi.mpr fun _ => z] at hb2
          cases hb2
    (repeat fail "s")
    cases hla : acc.getLast? with
    | none =>
      have hacc : acc.length = 0 := by
        rw [List.getLast?_eq_none_iff.mp hla]
        rfl
      have hbad : goesBad acc a b = false := by
        unfold goesBad
        rw [hla]
      refine iteDno (by omega) ?_
      (repeat fail "s")
      exact ⟨rfl, rfl, hbad⟩
    | some qq =>
      have hne : acc ≠ [] := fun z => by
        rw [z] at hla
        cases hla
      have hlen := List.length_pos_iff.mpr hne
      have hlt : ltP acc = qq := by
        unfold ltP
        rw [hla]
        rfl
      subst hlt
      refine iteDyes (by omega) ?_
      (repeat fail "s")
      refine iteN (fun h => ?_) (fun h => ?_)
      · (repeat fail "s")
        refine q0 _ ?_ _ (Evl.Ex.refl _)
        rw [if_pos]
        unfold goesBad
        rw [hla]
        dsimp only
        rw [decide_eq_true (show (ltP acc).2.2 ≠ b by omega)]
        rfl
      (repeat fail "s")
      refine iteD (fun h3 => ?_) (fun h3 => ?_)
      · (repeat fail "s")
        refine q0 _ ?_ _ (Evl.Ex.refl _)
        rw [if_pos]
        unfold goesBad
        rw [hla]
        dsimp only
        rw [decide_eq_true (show (ltP acc).1 = a by omega), Bool.or_true]
      have hbad : goesBad acc a b = false := by
        unfold goesBad
        rw [hla]
        dsimp only
        rw [decide_eq_false (show ¬ (ltP acc).2.2 ≠ b by omega), decide_eq_false (show ¬ (ltP acc).1 = a by omega)]
        rfl
      (repeat fail "s")
      exact ⟨rfl, rfl, hbad⟩
theorem sc_law_looked_at : FnScope ["_law_head", "_law_tickets", "_law_rows_here", "_law_least", "_law_found", "_law_one", "_law_some", "_law_k", "_law_part", "_law_word_here", "_law_leg", "_law_seat"] ["_law_head", "_law_tickets"] (defScope s_law_looked_at) := ⟨rfl, rfl, rfl, by decide +kernel, rfl, by decide +kernel, by decide +kernel⟩
theorem c_law_looked_at (T : Tx K mg) : Cal P w K mg base 2 "_law_looked_at" (spLookedAt K) := by
  refine T.cal 38 79 rfl rfl sc_law_looked_at (fun _ _ _ _ _ _ us hl => match us, hl with | [_, _], _ => rfl) (fun vs H Q E h => ?_) fun cdv A outer s H vs Q E hr h => ?_
  · first | (obtain ⟨_, rfl, _⟩ := h; rfl) | (obtain ⟨_, _, rfl, _⟩ := h; rfl) | (obtain ⟨_, _, _, rfl, _⟩ := h; rfl) | (obtain ⟨_, _, _, _, rfl, _⟩ := h; rfl) | (obtain ⟨_, _, _, _, _, rfl, _⟩ := h; rfl) | (obtain ⟨_, _, _, _, _, _, rfl, _⟩ := h; rfl) | (obtain ⟨_, _, _, _, _, _, _, rfl, _⟩ := h; rfl) | (obtain ⟨_, _, _, _, _, _, _, _, rfl, _⟩ := h; rfl) | (obtain ⟨_, _, _, _, _, _, _, _, _, rfl, _⟩ := h; rfl) | (obtain ⟨_, _, _, _, _, _, _, _, _, _, rfl, _⟩ := h; rfl) | (obtain ⟨_, _, _, _, _, _, _, _, _, _, _, rfl, _⟩ := h; rfl) | (obtain ⟨_, _, _, _, _, _, _, _, _, _, _, _, rfl, _⟩ := h; rfl) | (obtain ⟨_, _, _, _, _, _, _, _, _, _, _, _, _, rfl, _⟩ := h; rfl) | (obtain ⟨_, _, _, _, _, _, _, _, _, _, _, _, _, _, rfl, _⟩ := h; rfl) | (obtain ⟨_, _, _, _, _, _, _, _, _, _, _, _, _, _, _, rfl, _⟩ := h; rfl)
  · refine ⟨_, (Evl.pss_cut (ps_if (PW.pt (pw_or (pt_cmpR op_lt (pe_ix (ix_l K) (pv 0) pe_int (fun _ _ => rfl)) pe_int (nomark _)) (pw_or (pt_cmpR op_gt (pe_ix (ix_l K) (pv 0) pe_int (fun _ _ => rfl)) pe_int (nomark _)) (pw_or (pt_cmpR op_lt (pe_ix (ix_l K) (pv 0) pe_int (fun _ _ => rfl)) pe_int (nomark _)) (pw_or1 (pt_cmpR op_gt (pe_ix (ix_l K) (pv 0) pe_int (fun _ _ => rfl)) pe_int (nomark _)))))))
        (pss_one (ps_ret (pe_lst (pa_cons pe_str pa_nil))))
        pss_nil)
      (pss_cons (ps_setLc (i := 2) (own := [("_law_seat", 11)]) (g := gName 11)  rfl sc_law_looked_at.nd rfl rfl (sw_true rfl rfl rfl (by decide +kernel)) (pi_range1 (by rfl) (T.free 2) (pa_cons (pe_ix (ix_l K) (pv 0) pe_int (fun _ _ => rfl)) pa_nil)) (blkOk_by (N := ["_law_head", "_law_tickets", "_law_rows_here", "_law_least", "_law_found", "_law_one", "_law_some", "_law_k", "_law_part", "_law_word_here", "_law_leg", "_law_seat"]) (sc := defScope s_law_looked_at) (by decide +kernel)) (fun _ _ _ _ _ => pg_name (i := 11) sc_law_looked_at.nd rfl (Or.inl rfl)) (fun _ _ _ _ _ => pts_nil) (fun _ _ _ _ _ => (pe_op op_rep (pe_lst (pa_cons pe_non pa_nil)) (pe_op op_sub (pe_ix (ix_l K) (pv 0) pe_int (fun _ _ => rfl)) pe_int))))
      (pss_cons (ps_set (i := 3) sc_law_looked_at.nd rfl (Or.inl rfl) pe_int)
      (pss_cons (ps_set (i := 4) sc_law_looked_at.nd rfl (Or.inl rfl) (pe_lst pa_nil))
      (pss_cons (ps_for (passes_of rfl) rfl (pi_l K (pv 1)) (pg_name (i := 5) sc_law_looked_at.nd rfl (Or.inl rfl))
        (pss_cons (ps_if (PW.pt (pw_or (pt_cmpR op_lt (pe_ix (ix_l K) (pv 5) pe_int (fun _ _ => rfl)) (pv 3) (nomark _)) (pw_or1 (pt_cmpR op_ge (pe_ix (ix_l K) (pv 5) pe_int (fun _ _ => rfl)) (pe_ix (ix_l K) (pv 0) pe_int (fun _ _ => rfl)) (nomark _)))))
          (pss_one (ps_ret (pe_lst (pa_cons pe_str pa_nil))))
          pss_nil)
        (pss_cons (ps_set (i := 3) sc_law_looked_at.nd rfl (Or.inl rfl) (pe_op op_add (pe_ix (ix_l K) (pv 5) pe_int (fun _ _ => rfl)) pe_int))
        (pss_cons (ps_set (i := 6) sc_law_looked_at.nd rfl (Or.inl rfl) (pe_lst pa_nil))
        (pss_cons (ps_for (passes_of rfl) rfl (pi_range3 (by rfl) (T.free 2) (pa_cons pe_int (pa_cons (pe_callB (len_k K) (by rfl) (T.free 1) PySem.boot_len (pa_cons (pv 5) pa_nil)) (pa_cons pe_int pa_nil)))) (pg_name (i := 7) sc_law_looked_at.nd rfl (Or.inl rfl))
          (pss_cons (ps_set (i := 8) sc_law_looked_at.nd rfl (Or.inl rfl) (pe_tup (pa_cons (pe_ix (ix_l K) (pv 5) (pv 7) (fun _ _ => rfl)) (pa_cons (pe_ix (ix_l K) (pv 5) (pe_op op_add (pv 7) pe_int) (fun _ _ => rfl)) (pa_cons (pe_ix (ix_l K) (pv 5) (pe_op op_add (pv 7) pe_int) (fun _ _ => rfl)) pa_nil)))))
          (pss_cons (ps_set (i := 9) sc_law_looked_at.nd rfl (Or.inl rfl) (pe_c (c_law_part_word T) hr pz (pa_cons (pv 2) (pa_cons (pv 6) (pa_cons (pv 8) pa_nil)))))
          (pss_cons (ps_if (pt_cmpR op_ne (pv 9) pe_str (nomark _))
            (pss_one (ps_ret (pe_lst (pa_cons (pv 9) pa_nil))))
            pss_nil)
          (pss_cons (ps_expr (pe_bm PySem.F.plainAttrs_list PySem.F.slot_list_append PySem.F.type_list_append mt_append (pv 6) (pa_cons (pv 8) pa_nil)))
          (pss_one (ps_for (passes_of rfl) rfl (pi_range2 (by rfl) (T.free 2) (pa_cons (pe_ix (ix_t K) (pv 8) pe_int (fun _ _ => rfl)) (pa_cons (pe_ix (ix_t K) (pv 8) pe_int (fun _ _ => rfl)) pa_nil))) (pg_name (i := 10) sc_law_looked_at.nd rfl (Or.inl rfl))
            (pss_one (ps_asg (pe_ix (ix_l K) (pv 5) pe_int (fun _ _ => rfl)) (pg_sub (pe_ix (ix_l K) (pv 2) (pe_ix (ix_t K) (pv 8) pe_int (fun _ _ => rfl)) (fun _ _ => rfl)) (pv 10) set_list))))))))))
        (pss_one (ps_expr (pe_bm PySem.F.plainAttrs_list PySem.F.slot_list_append PySem.F.type_list_append mt_append (pv 4) (pa_cons (pv 6) pa_nil)))))))))
      (pss_one (ps_ret (pe_lst (pa_cons pe_str (pa_cons (pv 4) pa_nil)))))))))), ?_⟩
    obtain ⟨hd, tk, as, h0, h1, h2, ts, rfl, hhd, htk, hal, han, hat, hok, q1, q2⟩ := h
    unfold readH at q1 q2
    dsimp only at q1 q2
    have hhd : H hd = some (.lst [.int (h0 : Int), .int (h1 : Int), .int (h2 : Int)]) := hhd
    have hal2 : (as.map V.ref).length = ts.length := by rw [List.length_map, hal]
    (repeat fail "s")
    refine s_cut (fun σ' H' => σ' = [some (.ref hd), some (.ref tk), none, none, none, none, none, none, none, none, none, none] ∧ H' = H ∧ 1 ≤ h0 ∧ h0 ≤ 60 ∧ 2 ≤ h1 ∧ h1 ≤ 60) ?_ ?_
    · have qt : ¬ (1 ≤ h0 ∧ h0 ≤ 60 ∧ 2 ≤ h1 ∧ h1 ≤ 60) → ∀ H' l, Ex H H' → H l = none → H' l = some (.lst [.str "train"]) → Q (.ref l) H' := fun hb H' l e nl hl => by
        rw [if_neg hb] at q1
        exact q1 (by decide +kernel) H' l e nl hl
      (repeat fail "s")
      refine iteD (fun k1 => ?_) (fun k1 => ?_)
      · (repeat fail "s")
        rename_i l H2 nl e2 hl
        exact qt (by omega) _ _ e2 nl hl
      (repeat fail "s")
      refine iteD (fun k2 => ?_) (fun k2 => ?_)
      · (repeat fail "s")
        rename_i l H2 nl e2 hl
        exact qt (by omega) _ _ e2 nl hl
      (repeat fail "s")
      refine iteD (fun k3 => ?_) (fun k3 => ?_)
      · (repeat fail "s")
        rename_i l H2 nl e2 hl
        exact qt (by omega) _ _ e2 nl hl
      (repeat fail "s")
      refine iteD (fun k4 => ?_) (fun k4 => ?_)
      · (repeat fail "s")
        rename_i l H2 nl e2 hl
        exact qt (by omega) _ _ e2 nl hl
      (repeat fail "s")
      exact ⟨rfl, rfl, by omega, by omega, by omega, by omega⟩
    rintro σ' H' ⟨rfl, rfl, b1, b2, b3, b4⟩
    rw [if_pos ⟨b1, b2, b3, b4⟩] at q1 q2
    dsimp only at q1 q2
    (repeat fail "s")
    refine lc_newR (n := h0) (o := .lst ((List.replicate (h1 - 1) (none : Option Nat)).map oV)) (by omega) (fun _ => rfl) (fun i H2 Q2 hi e2 q3 => ?_) fun D rs H2 nD e2 hD hrl nd nDrs hrs => ?_
    · have hhd2 := e2 _ _ hhd
      (repeat fail "s")
      rename_i l0 H3 nl0 e3 hl0 b H4 nb e4 hb
      refine q3 b H4 (Evl.fresh_back e3 nb) (e3.trans e4) ?_
      rw [hb, show ((h1 : Int) - 1).toNat = h1 - 1 by omega, rep_none]
    have hG2 : GridAt H2 D rs (Tr.new h0 h1).rows := grid_new13 hD hrl fun b m => (hrs b m).2
    (repeat fail "s")
    rename_i f H3 nf e3 hf
    have X3 := e2.trans e3
    have nrsH : ∀ b ∈ rs, H' b = none := fun b m => (hrs b m).1
    have nfH : H' f = none := Evl.fresh_back e2 nf
    have fnrs : f ∉ rs := fun m => by
      rw [(hrs f m).2] at nf
      cases nf
    have nDf : D ≠ f := ne_of_none hD nf
    have S3 : Seen H3 D f rs [] (Tr.new h0 h1).rows [] := ⟨hG2.mono e3, hf, All2.nil, nd, nDrs, fnrs, nDf, fun l m => (by cases m), fun l m => (by cases m)⟩
    clear hG2 e3 e2 hD hrs hf
    have wn := Tr.new_wf (seats := h0) (stops := h1) b1 b2 b3 b4
    have tk3 := X3 _ _ htk
    (repeat fail "s")
    refine fr_list (xs := as.map V.ref) (fun i σ H2 => ∃ (Ti : Tr) (ls : List Addr) (v5 v6 v7 v8 v9 v10 v11 : Option V), σ = [some (.ref hd), some (.ref tk), some (.ref D), some (.int (Ti.coming : Int)), some (.ref f), v5, v6, v7, v8, v9, v10, v11] ∧ Ex H' H2 ∧ Seen H2 D f rs ls Ti.rows (Ti.sold.map (·.2)) ∧ Ti.rows.length = h0 ∧ (∀ row ∈ Ti.rows, row.length = h1 - 1) ∧ Ti.stops = h1 ∧ (∀ x ∈ Ti.sold, x.1 < Ti.coming) ∧ Ti.sold.length ≤ i ∧ readGo h2 (Tr.new h0 h1) ts = readGo h2 Ti (ts.drop i))
      ⟨_, [], _, _, _, _, _, _, _, rfl, X3, S3, List.length_replicate, wn.legs, rfl, fun x m => (by cases m), Nat.le_refl _, rfl⟩ (fun i σ H2 _ ⟨_, _, _, _, _, _, _, _, _, _, x, _⟩ => SqL.of (x _ _ htk)) ?_ ?_
    · rintro i x σ H4 hi ⟨Ti, ls, v5, v6, v7, v8, v9, v10, v11, rfl, x4, S4, hl4, hr4, hs4, hlow, hsl, hgo4⟩
      obtain ⟨b, hb, rfl⟩ := map_back hi
      have hib := lt_of_get hb
      have ht := List.getElem?_eq_getElem (l := ts) (i := i) (by omega)
      obtain ⟨hbt, htl⟩ := hat i b _ hb ht
      obtain ⟨o1, o2⟩ := hok _ (List.mem_of_getElem? ht)
      generalize ts[i] = t at ht hbt htl o1 o2
      obtain ⟨t0, ns, rfl⟩ : ∃ t0 ns, t = t0 :: ns := by
        cases t with
        | nil => exact absurd o1 (by decide)
        | cons x y => exact ⟨x, y, rfl⟩
      rw [List.length_cons] at o1 o2 htl
      have hdr : ts.drop i = (t0 :: ns) :: ts.drop (i + 1) := by
        obtain ⟨h1, h2⟩ := List.getElem?_eq_some_iff.mp ht
        rw [List.drop_eq_getElem_cons h1, h2]
      rw [hdr, readGo_cons] at hgo4
      have hbt : H' b = some (.lst (.int (t0 : Int) :: (ns.map fun n : Nat => (n : Int)).map V.int)) := hbt
      have hb4 := x4 _ _ hbt
      have hhd4 := x4 _ _ hhd
      have tick : h2 ≤ t0 ∨ t0 < Ti.coming → ∀ H2 l, Ex H' H2 → H' l = none → H2 l = some (.lst [.str "ticket"]) → Q (.ref l) H2 := fun c H2 l e nl hl => by
        rw [hgo4, if_pos c] at q1
        exact q1 (show ("ticket" : Str) ≠ "" by decide +kernel) H2 l e nl hl
      (repeat fail "s")
      refine v_ixL (SqL.of hb4) (at_of (j := 0) rfl rfl) ?_
      (repeat fail "s")
      refine iteD (fun g1 => ?_) (fun g1 => ?_)
      · (repeat fail "s")
        rename_i l H5 nl e5 hl
        exact tick (.inr (by omega)) _ _ (x4.trans e5) (Evl.fresh_back x4 nl) hl
      (repeat fail "s")
      refine v_ixL (SqL.of hb4) (at_of (j := 0) rfl rfl) ?_
      (repeat fail "s")
      refine iteD (fun g2 => ?_) (fun g2 => ?_)
      · (repeat fail "s")
        rename_i l H5 nl e5 hl
        exact tick (.inl (by omega)) _ _ (x4.trans e5) (Evl.fresh_back x4 nl) hl
      rw [if_neg (show ¬ (h2 ≤ t0 ∨ t0 < Ti.coming) by omega)] at hgo4
      clear tick
      (repeat fail "s")
      refine v_ixL (SqL.of hb4) (at_of (j := 0) rfl rfl) ?_
      (repeat fail "s")
      rename_i sm H5 nsm e5 hsm
      have x5 := x4.trans e5
      have nsmH : H' sm = none := Evl.fresh_back x4 nsm
      have nn := S4.new nsm
      have S5 := S4.ex e5
      have hll : ((.int (t0 : Int) :: (ns.map fun n : Nat => (n : Int)).map V.int : List V)).length = ns.length + 1 := by rw [List.length_cons, List.length_map, List.length_map]
      have hm3 : ns.length % 3 = 0 := by omega
      have hb5 := x5 _ _ hbt
      have w3 : 2 ≤ Ti.stops := by omega
      have hr4 : ∀ row ∈ Ti.rows, row.length = Ti.stops - 1 := fun row m => by rw [hs4]; exact hr4 row m
      clear hb4 hhd4 S4 x4 nsm e5
      rw [show (t0 : Int) + 1 = ((t0 + 1 : Nat) : Int) by omega]
      refine s_cons ?_
      (repeat fail "s")
      refine ⟨1, ((ns.length + 1 : Nat) : Int), 3, ns.length / 3, by rw [hll], rg3_13 hm3 (by omega), ?_⟩
      refine fr_range3 (fun j σ H6 => ∃ (acc : List P3) (v7 v8 v9 v10 v11 : Option V), σ = [some (.ref hd), some (.ref tk), some (.ref D), some (.int ((t0 + 1 : Nat) : Int)), some (.ref f), some (.ref b), some (.ref sm), v7, v8, v9, v10, v11] ∧ Ex H' H6 ∧ Seen H6 D f rs ls (markAll Ti.rows acc (some t0)) (Ti.sold.map (·.2)) ∧ PartsAt H6 sm acc ∧ acc.length ≤ j ∧ AccOk Ti.rows (Ti.stops - 1) acc ∧ partsGo Ti [] ns = partsGo Ti acc (ns.drop (3 * j)))
        ⟨[], _, _, _, _, _, rfl, x5, S5, ⟨[], hsm, All2.nil⟩, Nat.le_refl _, ⟨fun q m => (by cases m), fun q z => by cases z⟩, rfl⟩ ?_ ?_
      · rintro j σ H6 hj ⟨acc, v7, v8, v9, v10, v11, rfl, x6, S6, hP6, hal6, ok6, hgo6⟩
        obtain ⟨a, bb, c, ha, hbb, hc, hd3⟩ := drop3 (ns := ns) (i := j) (by omega)
        rw [hd3] at hgo6
        obtain ⟨st1, st2⟩ := partsGo_step (T := Ti) (t := t0) (a := a) (b := bb) (c := c) (r := ns.drop (3 * (j + 1))) hr4 w3 ok6
        have hb6 := x6 _ _ hbt
        have at1 : ∀ (k x : Nat) (z : Int), ns[k]? = some x → z = ((k + 1 : Nat) : Int) → atI (.int (t0 : Int) :: (ns.map fun n : Nat => (n : Int)).map V.int) z = some (.int (x : Int)) := fun k x z h hz => at_of (j := k + 1) hz (by
          rw [List.getElem?_cons_succ, List.getElem?_map, List.getElem?_map, h]
          rfl)
        (repeat fail "s")
        refine v_ixL (SqL.of hb6) (at1 _ _ _ ha (by omega)) ?_
        (repeat fail "s")
        refine v_ixL (SqL.of hb6) (at1 _ _ _ hbb (by omega)) ?_
        (repeat fail "s")
        refine v_ixL (SqL.of hb6) (at1 _ _ _ hc (by omega)) ?_
        (repeat fail "s")
        rename_i u H7 nu e7 hu
        have S7 := S6.ex e7
        have hP7 : PartsAt H7 sm acc := PartsAt.mono e7 hP6
        have nsu : sm ≠ u := by
          obtain ⟨ts, h, _⟩ := hP6
          exact ne_of_none h nu
        have x7 := x6.trans e7
        have hlen7 := markAll_len (some t0) acc Ti.rows
        have hrow7 := markAll_row (some t0) acc Ti.rows hr4
        clear e7 hP6 S6 x6 hb6 nu
        refine ⟨D, sm, u, rs, _, Ti.stops - 1, a, bb, c, acc, rfl, S7.grid, by omega, by omega, hrow7, hP7, hu, fun H8 e8 => ?_⟩
        have S8 := S7.ex e8
        have x8 := x7.trans e8
        have hP8 : PartsAt H8 sm acc := PartsAt.mono e8 hP7
        have hu8 := e8 _ _ hu
        clear e8 hP7 S7 x7 hu
        (repeat fail "s")
        refine iteN (fun hw => ?_) (fun hw => ?_)
        · (repeat fail "s")
          rename_i l H9 nl e9 hl
          have hpg := st2 hw
          have hrg : (readGo h2 (Tr.new h0 h1) ts).1 = partWd (markAll Ti.rows acc (some t0)) (Ti.stops - 1) acc a bb c := by
            rw [hgo4, hgo6, hpg, if_neg hw]
          rw [hrg] at q1
          exact q1 hw H9 l (x8.trans e9) (Evl.fresh_back x8 nl) hl
        obtain ⟨g1, ok9, ha9, hb9, hc9⟩ := st1 hw
        rw [g1] at hgo6
        obtain ⟨ts3, hsm8, hT8⟩ := id hP8
        have htl8 := hT8.len
        (repeat fail "s")
        rename_i H9 c9 h9
        have hP9 : PartsAt H9 sm (acc ++ [(a, bb, c)]) := hP8.snoc nsu hu8 c9 ts3 hsm8 h9
        have S9 := S8.ch c9 nn
        have x9 : Ex H' H9 := c9.ex x8 nsmH
        have hu9 : H9 u = some (.tup [.int (a : Int), .int (bb : Int), .int (c : Int)]) := ch_tup c9 hu8
        clear S8 x8 hP8 hT8 hsm8 c9 h9 hu8
        (repeat fail "s")
        have hb10 := x9 _ _ hbt
        refine fr_paintB (jr := 2) (n := Ti.stops - 1) (h := some t0) (v0 := v10) rfl (fun v => rfl) (fun v => rfl) (fun v => rfl) (fun v H10 Q' b10 k => ?_) hu9 S9.grid nd nDrs hrow7 (by omega) hc9 fun v H10 b10 G10 => ?_
        · have hb11 := b10 b _ (fun m => by
            have z := nrsH b m
            rw [hbt] at z
            cases z) hb10
          (repeat fail "s")
          refine v_ixL (SqL.of hb11) (at_of (j := 0) rfl rfl) ?_
          exact k
        rw [← markAll_snoc] at G10
        refine ⟨acc ++ [(a, bb, c)], _, _, _, _, _, rfl, b10.ex x9 nrsH, S9.paint b10 G10, e_bsP b10 S9.grid nn.2.1 hP9, by rw [List.length_append]; show _ + 1 ≤ _; omega, ok9, hgo6⟩
      · rintro σ H6 ⟨acc, v7, v8, v9, v10, v11, rfl, x6, S6, hP6, hal6, ok6, hgo6⟩
        have hend : partsGo Ti acc [] = (("" : Str), acc) := by
          rw [partsGo]
          exact fun _ _ _ _ z => by cases z
        rw [List.drop_of_length_le (by omega), hend] at hgo6
        rw [hgo6, if_pos rfl] at hgo4
        have hf6 := S6.found
        (repeat fail "s")
        refine v_append S6.found (Nat.lt_of_lt_of_le (m := 9000001) (by
          rw [List.length_map, S6.prt.len, List.length_map]
          omega) (by decide)) fun H7 c7 h7 => ?_
        have hnew : putS Ti.sold t0 acc = Ti.sold ++ [(t0, acc)] := putS_new fun x m => by
          have := hlow x m
          omega
        have S7 := S6.add c7 h7 hP6 nn.2.1 nn.2.2.1
        refine ⟨Ti.put t0 acc, ls ++ [sm], _, _, _, _, _, _, _, rfl, c7.ex x6 nfH, ?_, (markAll_len _ _ _).trans hl4, fun row m => ?_, hs4, fun x m => ?_, ?_, hgo4⟩
        · show Seen H7 D f rs (ls ++ [sm]) (markAll Ti.rows acc (some t0)) ((putS Ti.sold t0 acc).map (·.2))
          rw [hnew, List.map_append]
          exact S7
        · rw [← hs4]
          exact markAll_row (some t0) acc Ti.rows hr4 row m
        · show x.1 < t0 + 1
          have m : x ∈ putS Ti.sold t0 acc := m
          rw [hnew] at m
          rcases List.mem_append.mp m with m | m
          · have := hlow x m
            omega
          · rw [List.mem_singleton.mp m]
            exact Nat.lt_succ_self _
        · show (putS Ti.sold t0 acc).length ≤ i + 1
          rw [hnew, List.length_append]
          show _ + 1 ≤ _
          omega
    · rintro σ H4 ⟨Ti, ls, v5, v6, v7, v8, v9, v10, v11, rfl, x4, S4, hl4, hr4, hs4, hlow, hsl, hgo4⟩
      have hend : readGo h2 Ti [] = (("" : Str), Ti) := by
        rw [readGo]
        exact fun _ _ _ z => by cases z
      rw [hal2, List.drop_length, hend] at hgo4
      (repeat fail "s")
      rename_i l H5 nl e5 hl
      have S5 := S4.ex e5
      rw [hgo4] at q2
      exact q2 rfl H5 l f ls (x4.trans e5) (Evl.fresh_back x4 nl) hl S5.found S5.prt
theorem sc_law_due : FnScope ["_law_text", "_law_rows_here", "_law_head", "_law_tickets", "_law_row", "_law_one"] ["_law_text"] (defScope s_law_due) := ⟨rfl, rfl, rfl, by decide +kernel, rfl, by decide +kernel, by decide +kernel⟩
theorem c_law_due (T : Tx K mg) : Cal P w K mg base 3 "_law_due" (spDue13 K) := by
  refine T.cal 39 80 rfl rfl sc_law_due (fun _ _ _ _ _ _ us hl => match us, hl with | [_], _ => rfl) (fun vs H Q E h => ?_) fun cdv A outer s H vs Q E hr h => ?_
  · first | (obtain ⟨_, rfl, _⟩ := h; rfl) | (obtain ⟨_, _, rfl, _⟩ := h; rfl) | (obtain ⟨_, _, _, rfl, _⟩ := h; rfl) | (obtain ⟨_, _, _, _, rfl, _⟩ := h; rfl) | (obtain ⟨_, _, _, _, _, rfl, _⟩ := h; rfl) | (obtain ⟨_, _, _, _, _, _, rfl, _⟩ := h; rfl) | (obtain ⟨_, _, _, _, _, _, _, rfl, _⟩ := h; rfl) | (obtain ⟨_, _, _, _, _, _, _, _, rfl, _⟩ := h; rfl) | (obtain ⟨_, _, _, _, _, _, _, _, _, rfl, _⟩ := h; rfl) | (obtain ⟨_, _, _, _, _, _, _, _, _, _, rfl, _⟩ := h; rfl) | (obtain ⟨_, _, _, _, _, _, _, _, _, _, _, rfl, _⟩ := h; rfl) | (obtain ⟨_, _, _, _, _, _, _, _, _, _, _, _, rfl, _⟩ := h; rfl) | (obtain ⟨_, _, _, _, _, _, _, _, _, _, _, _, _, rfl, _⟩ := h; rfl) | (obtain ⟨_, _, _, _, _, _, _, _, _, _, _, _, _, _, rfl, _⟩ := h; rfl) | (obtain ⟨_, _, _, _, _, _, _, _, _, _, _, _, _, _, _, rfl, _⟩ := h; rfl)
  · refine ⟨_, (pss_cons (ps_set (i := 1) sc_law_due.nd rfl (Or.inl rfl) (pe_split (pv 0) pe_str))
      (pss_cons (ps_set (i := 2) sc_law_due.nd rfl (Or.inl rfl) (pe_c (c_law_numbers_of T) hr pz (pa_cons (pe_ix (ix_l K) (pv 1) pe_int (fun _ _ => rfl)) (pa_cons pe_str pa_nil))))
      (pss_cons (ps_setLc (i := 3) (own := [("_law_row", 4)]) (g := gName 4)  rfl sc_law_due.nd rfl rfl (sw_true rfl rfl rfl (by decide +kernel)) (pi_l K (pe_slice (sl_k K) (pv 1) (po_some pe_int) po_none)) (blkOk_by (N := ["_law_text", "_law_rows_here", "_law_head", "_law_tickets", "_law_row", "_law_one"]) (sc := defScope s_law_due) (by decide +kernel)) (fun _ _ _ _ _ => pg_name (i := 4) sc_law_due.nd rfl (Or.inl rfl)) (fun _ _ _ _ _ => pts_nil) (fun _ _ _ _ _ => (pe_c (c_law_numbers_of T) hr pz (pa_cons (pv 4) (pa_cons pe_str pa_nil)))))
      (pss_cons (ps_if (PW.pt (pw_or (pt_cmpR op_ne (pe_callB (len_k K) (by rfl) (T.free 1) PySem.boot_len (pa_cons (pv 2) pa_nil)) pe_int (nomark _)) (pw_or1 (pt_not (pt_val (pe_callB (all_k K rfl) (by rfl) (T.free 44) (by decide +kernel) (pa_cons (pe_lc (own := [("_law_one", 5)]) (g := gName 5) rfl sc_law_due.nd (pi_l K (pv 3)) (blkOk_by (N := ["_law_text", "_law_rows_here", "_law_head", "_law_tickets", "_law_row", "_law_one"]) (sc := defScope s_law_due) (by decide +kernel)) (fun _ _ _ _ _ => pg_name (i := 5) sc_law_due.nd rfl (Or.inl rfl)) (fun _ _ _ _ _ => pts_nil) (fun _ _ _ _ _ => (pe_and (pe_cmpR op_gt (pe_callB (len_k K) (by rfl) (T.free 1) PySem.boot_len (pa_cons (pv 5) pa_nil)) pe_int (nomark _)) (pe_one (pe_cmpR op_eq (pe_op op_mod (pe_callB (len_k K) (by rfl) (T.free 1) PySem.boot_len (pa_cons (pv 5) pa_nil)) pe_int) pe_int (nomark _)))))) pa_nil)))))))
        (pss_one (ps_ret (pe_lst (pa_cons pe_str pa_nil))))
        pss_nil)
      (pss_one (ps_ret (pe_op op_cat (pe_c (c_law_looked_at T) hr pz (pa_cons (pv 2) (pa_cons (pv 3) pa_nil))) (pe_lst (pa_cons (pv 2) (pa_cons (pe_lc (own := [("_law_one", 5)]) (g := gName 5) rfl sc_law_due.nd (pi_l K (pv 3)) (blkOk_by (N := ["_law_text", "_law_rows_here", "_law_head", "_law_tickets", "_law_row", "_law_one"]) (sc := defScope s_law_due) (by decide +kernel)) (fun _ _ _ _ _ => pg_name (i := 5) sc_law_due.nd rfl (Or.inl rfl)) (fun _ _ _ _ _ => pts_nil) (fun _ _ _ _ _ => (pe_ix (ix_l K) (pv 5) pe_int (fun _ _ => rfl)))) pa_nil)))))))))), ?_⟩
    obtain ⟨z, rfl, hz, q1, q2⟩ := h
    have hsum := nl_sum z
    (repeat fail "s")
    refine v_split (by decide +kernel) (Nat.le_trans (show _ ≤ 9000002 by omega) (by decide)) fun rw_ H1 nrw e1 hrw => ?_
    obtain ⟨a, r, hs⟩ : ∃ a r, Txt.split z "\n" = a :: r := by
      cases hs : Txt.split z "\n" with
      | nil => exact absurd hs (nl_ne z)
      | cons a r => exact ⟨a, r, rfl⟩
    have hal : a.length ≤ z.length := nl_mem (by rw [hs]; exact List.mem_cons_self)
    have hrl : ∀ x ∈ r, x.length ≤ z.length := fun x m => nl_mem (by rw [hs]; exact List.mem_cons_of_mem _ m)
    rw [hs] at hrw hsum
    have hrw : H1 rw_ = some (.lst (.str a :: r.map V.str)) := hrw
    rw [List.length_cons, List.map_cons, List.sum_cons] at hsum
    have dy := due_yes hs
    have dn := due_no hs
    obtain ⟨hd, ehd⟩ : ∃ hd, hd = (numbersOf a "train").getD [] := ⟨_, rfl⟩
    obtain ⟨ts, ets⟩ : ∃ ts, ts = r.map fun x => (numbersOf x "ticket").getD [] := ⟨_, rfl⟩
    rw [← ehd, ← ets] at dy dn
    have hhl : hd.length ≤ a.length := by rw [ehd]; exact nums_len
    have htl : ts.length = r.length := by rw [ets, List.length_map]
    have hte : ∀ t ∈ ts, t.length ≤ 9000000 := fun t m => by
      rw [ets] at m
      obtain ⟨x, mx, rfl⟩ := List.mem_map.mp m
      have := nums_len (x := x) (w := "ticket")
      have := hrl x mx
      omega
    (repeat fail "s")
    refine v_ixL (SqL.of hrw) (at_of (j := 0) rfl rfl) ?_
    (repeat fail "s")
    refine ⟨a, "train", rfl, by omega, fun H2 hdl e2 nhd hhd2 => ?_⟩
    rw [← ehd] at hhd2
    have nrd : rw_ ≠ hdl := ne_of_none hrw nhd
    (repeat fail "s")
    rename_i t1 H3 nt1 e3 ht1
    refine lc_numRows (f := fun x => some ((numbersOf x "ticket").getD [])) (SqL.of ht1) (by omega) (fun _ => rfl) (fun x H4 Q4 mx e4 q4 => ?_) fun D H4 as ts' nD e4 hm hys hal2 hat => ?_
    · (repeat fail "s")
      exact ⟨x, "ticket", rfl, by have := hrl x mx; omega, fun H5 l e5 nl hl => q4 _ H5 l rfl e5 nl hl⟩
    have ets' : ts' = ts := by
      have : r.mapM (fun x => some ((numbersOf x "ticket").getD [])) = some (r.map fun x => (numbersOf x "ticket").getD []) := mapM_of fun _ _ => rfl
      rw [this] at hm
      rw [ets]
      exact (Option.some.inj hm).symm
    subst ets'
    have hhd4 : H4 hdl = some (.lst (natsV hd)) := e4 _ _ (e3 _ _ hhd2)
    have X4 : Ex H H4 := (e1.trans e2).trans (e3.trans e4)
    rw [headOk_eq] at dy dn
    have nDH : H D = none := Evl.fresh_back ((e1.trans e2).trans e3) nD
    clear hhd2 e1 e2 e3 e4 hrw ht1 ets
    have refuse : (readT z).1 = "text" → ∀ H' l, Ex H H' → H' l = some (.lst [.str "text"]) → Q (.ref l) H' := fun hw H' l e hl => by
      rw [hw] at q1
      exact q1 (by decide +kernel) H' l [] e hl
    (repeat fail "s")
    rw [natsV_len]
    refine iteN (fun h3 => ?_) (fun h3 => ?_)
    · (repeat fail "s")
      rename_i l H5 nl e5 hl
      exact refuse (dn (by rw [decide_eq_false (show ¬ hd.length = 3 by omega), Bool.false_and])) H5 l (X4.trans e5) hl
    have h3 : hd.length = 3 := by omega
    rw [h3, decide_eq_true rfl, Bool.true_and] at dy dn
    (repeat fail "s")
    refine lc_bools (f := tickOk) hys hal2 hat (by omega) (fun _ => rfl) (fun b t H5 Q5 mt e5 hb q5 => ?_) fun D5 H5 n5 e5 h5 => ?_
    · (repeat fail "s")
      rw [natsV_len]
      refine iteD (fun h => ?_) (fun h => ?_)
      · (repeat fail "s")
        rw [natsV_len, show decide ((t.length : Int) % 3 = 1) = tickOk t by
          unfold tickOk
          rw [decide_eq_true (show 3 < t.length by omega), Bool.true_and]
          exact decide_eq_decide.mpr (by omega)]
        exact q5
      · rw [show tickOk t = false by
          unfold tickOk
          rw [decide_eq_false (show ¬ 3 < t.length by omega), Bool.false_and]] at q5
        exact q5
    (repeat fail "s")
    refine v_all (SqL.of h5) ?_
    rcases all_bl (ts'.map tickOk) with hA | hA
    rotate_left
    · rw [hA]
      (repeat fail "s")
      rename_i l H6 nl e6 hl
      exact refuse (dn hA) H6 l ((X4.trans e5).trans e6) hl
    rw [hA]
    obtain ⟨d1, d2, d3⟩ := dy hA
    obtain ⟨h0, h1, h2, rfl⟩ : ∃ a b c, hd = [a, b, c] := by
      match hd, h3 with
      | [a, b, c], _ => exact ⟨a, b, c, rfl⟩
    have hok : TicksOk ts' := fun t m => by
      have := List.all_eq_true.mp hA (tickOk t) (List.mem_map.mpr ⟨t, m, rfl⟩)
      unfold tickOk at this
      simp only [id, Bool.and_eq_true, decide_eq_true_eq] at this
      exact this
    have hhd5 := e5 _ _ hhd4
    have hys5 := e5 _ _ hys
    have hat5 : ∀ (i : Nat) (b : Addr) (t : List Nat), as[i]? = some b → ts'[i]? = some t → H5 b = some (.lst (natsV t)) := fun i b t hb ht => e5 _ _ (hat i b t hb ht)
    have X5 := X4.trans e5
    clear hat hys hhd4 e5 X4 dy dn refuse
    (repeat fail "s")
    refine ⟨hdl, D, as, h0, h1, h2, ts', rfl, hhd5, hys5, hal2, by omega, fun i b t hb ht => ⟨hat5 i b t hb ht, hte t (List.mem_of_getElem? ht)⟩, hok, fun hw H6 l e6 nl hl => ?_, fun hw H6 l f ls e6 nl hl hf hP => ?_⟩
    · rw [← d3] at hw hl
      have hhd6 := e6 _ _ hhd5
      have hys6 := e6 _ _ hys5
      have x6 := X5.trans e6
      have hat6 : ∀ (i : Nat) (b : Addr) (t : List Nat), as[i]? = some b → ts'[i]? = some t → H6 b = some (.lst (natsV t)) := fun i b t hb ht => e6 _ _ (hat5 i b t hb ht)
      clear e6
      (repeat fail "s")
      refine lc_listV (f := fun t => .int ((t.headD 0 : Nat) : Int)) hys6 hal2 hat6 (by omega) (fun _ => rfl) (fun b t H7 Q7 mt e7 hb q7 => ?_) fun D7 H7 n7 e7 h7 => ?_
      · obtain ⟨o1, o2⟩ := hok t mt
        match t, o1 with
        | t0 :: ns, _ =>
          (repeat fail "s")
          refine v_ixL (SqL.of hb) (at_of (j := 0) rfl rfl) ?_
          exact q7
      have hl7 := e7 _ _ hl
      have x7 := x6.trans e7
      clear hl e7 x6
      (repeat fail "s")
      rename_i p8 H8 n8 e8 h8 p9 H9 n9 e9 h9
      exact q1 hw H9 p9 _ (x7.trans (e8.trans e9)) h9
    · rw [← d3] at hw hP
      obtain ⟨a', r', h0', h1', h2', ts2, g1, g2, g3, g4, g5, g6, g7, g8, g9, g10, ok⟩ := readT_ok hw
      rw [hs] at g1
      cases g1
      rw [d1] at g2
      cases g2
      rw [d2] at g3
      cases g3
      have hhd6 := e6 _ _ hhd5
      have hys6 := e6 _ _ hys5
      have x6 := X5.trans e6
      have hat6 : ∀ (i : Nat) (b : Addr) (t : List Nat), as[i]? = some b → ts'[i]? = some t → H6 b = some (.lst (natsV t)) := fun i b t hb ht => e6 _ _ (hat5 i b t hb ht)
      clear e6
      (repeat fail "s")
      refine lc_listV (f := fun t => .int ((t.headD 0 : Nat) : Int)) hys6 hal2 hat6 (by omega) (fun _ => rfl) (fun b t H7 Q7 mt e7 hb q7 => ?_) fun D7 H7 n7 e7 h7 => ?_
      · obtain ⟨o1, o2⟩ := hok t mt
        match t, o1 with
        | t0 :: ns, _ =>
          (repeat fail "s")
          refine v_ixL (SqL.of hb) (at_of (j := 0) rfl rfl) ?_
          exact q7
      have hl7 := e7 _ _ hl
      have hf7 := e7 _ _ hf
      have hhd7 := e7 _ _ hhd6
      have hP7 : All2 (PartsAt H7) ls _ := hP.mono fun _ _ h => PartsAt.mono e7 h
      have x7 := x6.trans e7
      have h7 : H7 D7 = some (.lst ((keys (readT z).2).map V.int)) := by
        rw [h7, ← ok.nums]
        unfold keys
        rw [List.map_map, List.map_map]
        rfl
      clear hl e7 x6 hf hhd6 hP
      (repeat fail "s")
      rename_i p8 H8 n8 e8 h8 p9 H9 n9 e9 h9
      have e89 := e8.trans e9
      refine q2 hw H9 p9 f hdl D7 ls (x7.trans e89) h9 ?_ (e89 _ _ h7) (e89 _ _ hf7) (hP7.mono fun _ _ h => PartsAt.mono e89 h)
      rw [ok.seats, ok.stops, ok.com]
      exact e89 _ _ hhd7
theorem sc_number : FnScope ["word", "sign"] ["word"] (defScope s_number) := ⟨rfl, rfl, rfl, by decide +kernel, rfl, by decide +kernel, by decide +kernel⟩
theorem c_number (T : Tx K mg) : Cal P w K mg base 1 "number" (spNumber13 K) := by
  refine T.cal 40 85 rfl rfl sc_number (fun _ _ _ _ _ _ us hl => match us, hl with | [_], _ => rfl) (fun vs H Q E h => ?_) fun cdv A outer s H vs Q E hr h => ?_
  · first | (obtain ⟨_, rfl, _⟩ := h; rfl) | (obtain ⟨_, _, rfl, _⟩ := h; rfl) | (obtain ⟨_, _, _, rfl, _⟩ := h; rfl) | (obtain ⟨_, _, _, _, rfl, _⟩ := h; rfl) | (obtain ⟨_, _, _, _, _, rfl, _⟩ := h; rfl) | (obtain ⟨_, _, _, _, _, _, rfl, _⟩ := h; rfl) | (obtain ⟨_, _, _, _, _, _, _, rfl, _⟩ := h; rfl) | (obtain ⟨_, _, _, _, _, _, _, _, rfl, _⟩ := h; rfl) | (obtain ⟨_, _, _, _, _, _, _, _, _, rfl, _⟩ := h; rfl) | (obtain ⟨_, _, _, _, _, _, _, _, _, _, rfl, _⟩ := h; rfl) | (obtain ⟨_, _, _, _, _, _, _, _, _, _, _, rfl, _⟩ := h; rfl) | (obtain ⟨_, _, _, _, _, _, _, _, _, _, _, _, rfl, _⟩ := h; rfl) | (obtain ⟨_, _, _, _, _, _, _, _, _, _, _, _, _, rfl, _⟩ := h; rfl) | (obtain ⟨_, _, _, _, _, _, _, _, _, _, _, _, _, _, rfl, _⟩ := h; rfl) | (obtain ⟨_, _, _, _, _, _, _, _, _, _, _, _, _, _, _, rfl, _⟩ := h; rfl)
  · refine ⟨_, (pss_cons (ps_for (passes_of rfl) rfl (pi_str (pv 0)) (pg_name (i := 1) sc_number.nd rfl (Or.inl rfl))
        (pss_one (ps_if (pt_cmpR op_notInS (pv 1) (pe_gi rfl (T.str 83)) (by rfl))
          (pss_one (ps_raise rfl (takes_of rfl rfl rfl rfl) (pmk_x T 81 65 rfl rfl)))
          pss_nil)))
      (pss_cons (ps_if (PW.pt (pw_or (pt_cmpR op_eq (pv 0) pe_str (nomark _)) (pw_or (pt_cmpR op_gt (pe_callB call_len_str (by rfl) (T.free 1) PySem.boot_len (pa_cons (pv 0) pa_nil)) (pe_gi rfl (T.int 84)) (nomark _)) (pw_or1 (PW.pt (pw_and (pt_cmpR op_eq (pe_ix ix_str (pv 0) pe_int (fun _ _ => rfl)) pe_str (nomark _)) (pw_and1 (pt_cmpR op_gt (pe_callB call_len_str (by rfl) (T.free 1) PySem.boot_len (pa_cons (pv 0) pa_nil)) pe_int (nomark _)))))))))
        (pss_one (ps_raise rfl (takes_of rfl rfl rfl rfl) (pmk_x T 81 65 rfl rfl)))
        pss_nil)
      (pss_one (ps_ret (pe_callTy call_int_str (by rfl) (T.free 72) (by decide +kernel) (pa_cons (pv 0) pa_nil)))))), ?_⟩
    obtain ⟨z, rfl, hz, q1, q2⟩ := h
    have hlz : (TL.tl z).length = z.length := (TL.len_tl z).symm
    have no : isNum (TL.tl z) = false → numOf z = none := fun h => by
      unfold numOf
      rw [h]
      rfl
    (repeat fail "s")
    refine ⟨_, rfl, z, rfl, ?_⟩
    refine fr_str (fun i σ H' => ∃ v1 : Option V, σ = [some (.str z), v1] ∧ H' = H ∧ ∀ k c, k < i → (TL.tl z)[k]? = some c → 48 ≤ c ∧ c ≤ 57) ⟨_, rfl, rfl, fun k c h => absurd h (by omega)⟩ ?_ ?_
    · rintro i c σ H' hc ⟨v1, rfl, rfl, hd⟩
      (repeat fail "s")
      refine ⟨c, _, rfl, rfl, ?_⟩
      (repeat fail "s")
      refine iteN (fun hn => ?_) (fun hy => ?_)
      · refine q2 (no ?_)
        have hall : (TL.tl z).all (fun c => decide (48 ≤ c) && decide (c ≤ 57)) = false := by
          rw [List.all_eq_false]
          refine ⟨c, List.mem_of_getElem? hc, ?_⟩
          have := mt figs.mpr hn
          simp only [Bool.and_eq_true, decide_eq_true_eq]
          exact this
        unfold isNum
        rw [hall]
        rfl
      · (repeat fail "s")
        refine ⟨_, rfl, rfl, fun k c' hk hc' => ?_⟩
        by_cases e : k = i
        · subst e
          rw [hc] at hc'
          cases hc'
          exact figs.mp hy
        · exact hd k c' (by omega) hc'
    · rintro σ H' ⟨v1, rfl, rfl, hd⟩
      have hne0 : TL.tl z ≠ [] → z ≠ "" := fun h e => h (by rw [e]; decide +kernel)
      have hsz : z.length ≤ sizeLine := Nat.le_trans hz (by decide)
      have hall : (TL.tl z).all (fun c => decide (48 ≤ c) && decide (c ≤ 57)) = true := by
        rw [List.all_eq_true]
        intro c m
        obtain ⟨k, hk⟩ := List.mem_iff_getElem?.mp m
        have := hd k c (lt_of_get hk) hk
        simp only [Bool.and_eq_true, decide_eq_true_eq]
        exact this
      (repeat fail "s")
      refine iteD (fun he => ?_) (fun he => ?_)
      · (repeat fail "s")
        refine q2 (no ?_)
        rw [he]
        decide +kernel
      have hne : TL.tl z ≠ [] := fun e => he (TL.ext_tl (e.trans (by decide +kernel)))
      (repeat fail "s")
      refine ⟨_, rfl, hsz, ?_⟩
      (repeat fail "s")
      refine iteD (fun h9 => ?_) (fun h9 => ?_)
      · (repeat fail "s")
        refine q2 (no ?_)
        unfold isNum
        rw [decide_eq_false (show ¬ (TL.tl z).length ≤ 9 by omega), Bool.and_false, Bool.false_and]
      (repeat fail "s")
      obtain ⟨c, r, hcr⟩ := List.exists_cons_of_ne_nil hne
      have hcr2 : z.cps.toList = c :: r := hcr
      refine ⟨z, 0, c, rfl, rfl, hsz, (by rw [hcr2]; simp [atI, ixN]), ?_⟩
      have h0 : (⟨#[c]⟩ : Str) = "0" ↔ c = 48 := ⟨fun e => by
        have : TL.tl (⟨#[c]⟩ : Str) = TL.tl ("0" : Str) := congrArg TL.tl e
        rw [show TL.tl (⟨#[c]⟩ : Str) = [c] from rfl, show TL.tl ("0" : Str) = [48] by decide +kernel] at this
        exact (List.cons.inj this).1, fun e => by
        rw [e]
        decide +kernel⟩
      have bad : c = 48 → 1 < z.length → numOf z = none := fun hc hl => by
        refine no ?_
        unfold isNum
        rw [hcr, List.head?_cons, hc, decide_eq_false (show ¬ (48 :: r).length = 1 by rw [hc] at hcr; rw [← hcr]; omega)]
        simp
      have fin : (c = 48 → ¬ 1 < z.length) → numOf z = some (NumText.digitsVal (TL.tl z)) := fun hc => by
        have h1 : isNum (TL.tl z) = true := by
          unfold isNum
          rw [hall, decide_eq_true (show (TL.tl z).length ≤ 9 by omega)]
          have h2 : (TL.tl z).isEmpty = false := by rw [hcr]; rfl
          rw [h2]
          by_cases hc48 : c = 48
          · rw [decide_eq_true (show (TL.tl z).length = 1 by
              have := hc hc48
              have h3 : 0 < (TL.tl z).length := by rw [hcr]; exact Nat.zero_lt_succ _
              omega)]
            rfl
          · rw [decide_eq_true (show (TL.tl z).head? ≠ some 48 by rw [hcr, List.head?_cons]; exact fun z => hc48 (Option.some.inj z)), Bool.or_true]
            rfl
        unfold numOf
        rw [if_pos h1]
      have int_ : (c = 48 → ¬ 1 < z.length) → ∃ a n, [V.str z] = [V.str a] ∧ PySem.intText? a = some n ∧ a.length ≤ 640 ∧ Q (.int n) H' := fun hc => by
        refine ⟨z, ((NumText.digitsVal (TL.tl z) : Nat) : Int), rfl, PySem.intText_digits (fun d m => ?_) hne (by omega), by omega, q1 _ (fin hc)⟩
        have := List.all_eq_true.mp hall d m
        simp only [Bool.and_eq_true, decide_eq_true_eq] at this
        exact this
      (repeat fail "s")
      refine iteD (fun hc => ?_) (fun hc => ?_)
      · (repeat fail "s")
        refine ⟨_, rfl, hsz, ?_⟩
        (repeat fail "s")
        refine iteD (fun hl => ?_) (fun hl => ?_)
        · (repeat fail "s")
          exact q2 (bad (h0.mp hc) (by omega))
        · (repeat fail "s")
          exact int_ fun _ h => hl (by omega)
      · (repeat fail "s")
        exact int_ fun h => absurd (h0.mpr h) hc
theorem sc_numbers_of : FnScope ["row", "word", "words", "one"] ["row", "word"] (defScope s_numbers_of) := ⟨rfl, rfl, rfl, by decide +kernel, rfl, by decide +kernel, by decide +kernel⟩
theorem c_numbers_of (T : Tx K mg) : Cal P w K mg base 2 "numbers_of" (spNumbersOf13 K) := by
  refine T.cal 41 86 rfl rfl sc_numbers_of (fun _ _ _ _ _ _ us hl => match us, hl with | [_, _], _ => rfl) (fun vs H Q E h => ?_) fun cdv A outer s H vs Q E hr h => ?_
  · first | (obtain ⟨_, rfl, _⟩ := h; rfl) | (obtain ⟨_, _, rfl, _⟩ := h; rfl) | (obtain ⟨_, _, _, rfl, _⟩ := h; rfl) | (obtain ⟨_, _, _, _, rfl, _⟩ := h; rfl) | (obtain ⟨_, _, _, _, _, rfl, _⟩ := h; rfl) | (obtain ⟨_, _, _, _, _, _, rfl, _⟩ := h; rfl) | (obtain ⟨_, _, _, _, _, _, _, rfl, _⟩ := h; rfl) | (obtain ⟨_, _, _, _, _, _, _, _, rfl, _⟩ := h; rfl) | (obtain ⟨_, _, _, _, _, _, _, _, _, rfl, _⟩ := h; rfl) | (obtain ⟨_, _, _, _, _, _, _, _, _, _, rfl, _⟩ := h; rfl) | (obtain ⟨_, _, _, _, _, _, _, _, _, _, _, rfl, _⟩ := h; rfl) | (obtain ⟨_, _, _, _, _, _, _, _, _, _, _, _, rfl, _⟩ := h; rfl) | (obtain ⟨_, _, _, _, _, _, _, _, _, _, _, _, _, rfl, _⟩ := h; rfl) | (obtain ⟨_, _, _, _, _, _, _, _, _, _, _, _, _, _, rfl, _⟩ := h; rfl) | (obtain ⟨_, _, _, _, _, _, _, _, _, _, _, _, _, _, _, rfl, _⟩ := h; rfl)
  · refine ⟨_, (pss_cons (ps_set (i := 2) sc_numbers_of.nd rfl (Or.inl rfl) (pe_split (pv 0) pe_str))
      (pss_cons (ps_if (pt_cmpR op_ne (pe_ix (ix_l K) (pv 2) pe_int (fun _ _ => rfl)) (pv 1) (nomark _))
        (pss_one (ps_raise rfl (takes_of rfl rfl rfl rfl) (pmk_x T 81 65 rfl rfl)))
        pss_nil)
      (pss_one (ps_ret (pe_lcX (own := [("one", 3)]) (g := gName 3) rfl sc_numbers_of.nd (pi_l K (pe_slice (sl_k K) (pv 2) (po_some pe_int) po_none)) (blkOk_by (N := ["row", "word", "words", "one"]) (sc := defScope s_numbers_of) (by decide +kernel)) (fun _ _ _ _ _ => pg_name (i := 3) sc_numbers_of.nd rfl (Or.inl rfl)) (fun _ _ _ _ _ => pts_nil) (fun _ _ _ _ _ hb => (pe_c (c_number T) hr (pB (takes_of rfl rfl rfl rfl) rfl rfl hb) (pa_cons (pv 3) pa_nil)))))))), ?_⟩
    obtain ⟨z, w, rfl, hz, q1, q2⟩ := h
    have hsum := sp_sum z
    (repeat fail "s")
    refine v_split (by decide +kernel) (Nat.le_trans (show _ ≤ 9000002 by omega) (by decide)) fun wd H1 nwd e1 hwd => ?_
    cases hs : Txt.split z " " with
    | nil => exact absurd hs (sp_ne z)
    | cons a r =>
      rw [hs] at hwd hsum
      have hwd : H1 wd = some (.lst (.str a :: r.map V.str)) := hwd
      rw [List.length_cons] at hsum
      have hno : numbersOf z w = if a = w then r.mapM numOf else none := by
        unfold numbersOf
        rw [hs]
      (repeat fail "s")
      refine v_ixL (SqL.of hwd) (at_of (j := 0) rfl rfl) ?_
      (repeat fail "s")
      refine iteN (fun h => ?_) (fun h => ?_)
      · refine q2 ?_ H1 e1
        rw [hno, if_neg h]
      rw [if_pos h] at hno
      (repeat fail "s")
      rename_i t H2 nt e2 ht
      refine lc_nums (SqL.of ht) (by omega) (fun _ => rfl) (fun x H3 Q3 mx e3 q3 => ?_) fun D H3 ns nD e3 hm hD => ?_
      · have hx : x.length ≤ z.length := sp_mem (by rw [hs]; exact List.mem_cons_of_mem _ mx)
        (repeat fail "s")
        refine ⟨x, rfl, by omega, fun n hn => q3 n hn, fun hn => q2 (by rw [hno, mapM_none mx hn]) H3 (e1.trans (e2.trans e3))⟩
      · exact q1 ns (by rw [hno, hm]) H3 D (e1.trans (e2.trans e3)) (Evl.fresh_back (e1.trans e2) nD) hD
theorem sc_Train_need_seat : FnScope ["self", "seat"] ["self", "seat"] (defScope s_Train_need_seat) := ⟨rfl, rfl, rfl, by decide +kernel, rfl, by decide +kernel, by decide +kernel⟩
theorem m_Train_need_seat (T : Tx K mg) : Met P w K mg base 1 (He.ga K "Train") "need_seat" (spNeedSeat K) := by
  refine T.met 42 91 5 rfl rfl rfl sc_Train_need_seat (fun _ _ _ _ _ _ us hl => match us, hl with | [_, _], _ => rfl) (fun vs H Q E h => ?_) fun cdv A outer s H vs Q E hr h => ?_
  · first | (obtain ⟨_, rfl, _⟩ := h; rfl) | (obtain ⟨_, _, rfl, _⟩ := h; rfl) | (obtain ⟨_, _, _, rfl, _⟩ := h; rfl) | (obtain ⟨_, _, _, _, rfl, _⟩ := h; rfl) | (obtain ⟨_, _, _, _, _, rfl, _⟩ := h; rfl) | (obtain ⟨_, _, _, _, _, _, rfl, _⟩ := h; rfl) | (obtain ⟨_, _, _, _, _, _, _, rfl, _⟩ := h; rfl) | (obtain ⟨_, _, _, _, _, _, _, _, rfl, _⟩ := h; rfl) | (obtain ⟨_, _, _, _, _, _, _, _, _, rfl, _⟩ := h; rfl) | (obtain ⟨_, _, _, _, _, _, _, _, _, _, rfl, _⟩ := h; rfl) | (obtain ⟨_, _, _, _, _, _, _, _, _, _, _, rfl, _⟩ := h; rfl) | (obtain ⟨_, _, _, _, _, _, _, _, _, _, _, _, rfl, _⟩ := h; rfl) | (obtain ⟨_, _, _, _, _, _, _, _, _, _, _, _, _, rfl, _⟩ := h; rfl) | (obtain ⟨_, _, _, _, _, _, _, _, _, _, _, _, _, _, rfl, _⟩ := h; rfl) | (obtain ⟨_, _, _, _, _, _, _, _, _, _, _, _, _, _, _, rfl, _⟩ := h; rfl)
  · refine ⟨_, (pss_one (ps_if (pt_not (pt_chain op_le op_lt pe_int (pv 1) (pe_callB (len_k K) (by rfl) (T.free 1) PySem.boot_len (pa_cons (fld_k K (pv 0) rfl) pa_nil))))
        (pss_one (ps_raise rfl (takes_of rfl rfl rfl rfl) (pmk_x T 89 62 rfl rfl)))
        pss_nil)), ?_⟩
    obtain ⟨S, p, T0, s, rfl, A0, q1, q2⟩ := h
    obtain ⟨r, d, as, ls, R, _⟩ := A0
    obtain ⟨dx, hp⟩ := R.ins
    refine ⟨_, rfl, _, _, rfl, rfl, _, rfl, ?_⟩
    refine iteD (fun h1 => ?_) (fun h1 => ?_)
    · refine ⟨_, rfl, p, _, dx, _, _, rfl, hp, (T.cls 5), (T.noat 6), lk_rows, r, _, rfl, .inl (SqL.of R.grid.top), _, _, rfl, rfl, _, rfl, ?_⟩
      have hl : ((as.map V.ref).length : Int) = (T0.rows.length : Int) := by rw [List.length_map, R.grid.row.len]
      rw [hl]
      refine iteN (fun h3 => ?_) (fun h3 => ?_)
      · exact q2 fun z => h3 z.2
      · exact q1 ⟨h1, h3⟩
    · exact ⟨_, rfl, iteT (q2 fun z => h1 z.1)⟩
theorem sc_Train_farthest : FnScope ["self", "seat", "stop"] ["self", "seat", "stop"] (defScope s_Train_farthest) := ⟨rfl, rfl, rfl, by decide +kernel, rfl, by decide +kernel, by decide +kernel⟩
theorem m_Train_farthest (T : Tx K mg) : Met P w K mg base 2 (He.ga K "Train") "farthest" (spFarthest K) := by
  refine T.met 43 92 5 rfl rfl rfl sc_Train_farthest (fun _ _ _ _ _ _ us hl => match us, hl with | [_, _, _], _ => rfl) (fun vs H Q E h => ?_) fun cdv A outer s H vs Q E hr h => ?_
  · first | (obtain ⟨_, rfl, _⟩ := h; rfl) | (obtain ⟨_, _, rfl, _⟩ := h; rfl) | (obtain ⟨_, _, _, rfl, _⟩ := h; rfl) | (obtain ⟨_, _, _, _, rfl, _⟩ := h; rfl) | (obtain ⟨_, _, _, _, _, rfl, _⟩ := h; rfl) | (obtain ⟨_, _, _, _, _, _, rfl, _⟩ := h; rfl) | (obtain ⟨_, _, _, _, _, _, _, rfl, _⟩ := h; rfl) | (obtain ⟨_, _, _, _, _, _, _, _, rfl, _⟩ := h; rfl) | (obtain ⟨_, _, _, _, _, _, _, _, _, rfl, _⟩ := h; rfl) | (obtain ⟨_, _, _, _, _, _, _, _, _, _, rfl, _⟩ := h; rfl) | (obtain ⟨_, _, _, _, _, _, _, _, _, _, _, rfl, _⟩ := h; rfl) | (obtain ⟨_, _, _, _, _, _, _, _, _, _, _, _, rfl, _⟩ := h; rfl) | (obtain ⟨_, _, _, _, _, _, _, _, _, _, _, _, _, rfl, _⟩ := h; rfl) | (obtain ⟨_, _, _, _, _, _, _, _, _, _, _, _, _, _, rfl, _⟩ := h; rfl) | (obtain ⟨_, _, _, _, _, _, _, _, _, _, _, _, _, _, _, rfl, _⟩ := h; rfl)
  · refine ⟨_, (pss_cons (ps_expr (pe_m (m_Train_need_seat T) hr (pr (takes_of rfl rfl rfl rfl)) (pv 0) (pa_cons (pv 1) pa_nil)))
      (pss_cons (ps_if (pt_not (pt_chain op_le op_lt pe_int (pv 2) (fld_k K (pv 0) rfl)))
        (pss_one (ps_raise rfl (takes_of rfl rfl rfl rfl) (pmk_x T 56 57 rfl rfl)))
        pss_nil)
      (pss_one (ps_ret (pe_c (c_reach T) hr pz (pa_cons (pe_ix (ix_l K) (fld_k K (pv 0) rfl) (pv 1) (fun _ _ => rfl)) (pa_cons (pv 2) pa_nil))))))), ?_⟩
    obtain ⟨S, p, T0, s, t, rfl, A0, q1, q2, q3⟩ := h
    obtain ⟨r, d, as, ls, R, z⟩ := id A0
    obtain ⟨dx, hp⟩ := R.ins
    refine ⟨_, rfl, _, _, _, rfl, hp, trF_no (by decide +kernel) (by decide +kernel) (by decide +kernel) (by decide +kernel), _, rfl, S, p, T0, s, rfl, A0, fun hs => ?_, q2⟩
    refine ⟨_, rfl, _, _, rfl, rfl, _, rfl, ?_⟩
    refine iteD (fun h1 => ?_) (fun h1 => ?_)
    · refine ⟨_, rfl, p, _, dx, _, _, rfl, hp, (T.cls 5), (T.noat 7), lk_stops, _, _, rfl, rfl, _, rfl, ?_⟩
      refine iteN (fun h3 => ?_) (fun h3 => ?_)
      · exact q3 hs fun z => h3 z.2
      · have hi : s.toNat < T0.rows.length := by omega
        have hrow := List.getElem?_eq_getElem hi
        obtain ⟨a, ha, hr2⟩ := R.grid.row.right hrow
        refine ⟨_, rfl, p, _, dx, _, _, rfl, hp, (T.cls 5), (T.noat 6), lk_rows, _, rfl, r, _, _, .ref a, rfl, rfl, SqL.of R.grid.top, at_of (j := s.toNat) (by omega) (map_get ha), _, rfl, a, T0.rows[s.toNat], t.toNat, ?_, SqL.of hr2, q1 _ ⟨hs.1, hrow⟩ ⟨h1, h3⟩⟩
        rw [Int.toNat_of_nonneg h1]
    · exact ⟨_, rfl, iteT (q3 hs fun z => h1 z.1)⟩
theorem sc_parts_of : FnScope ["train", "numbers", "parts", "at", "part"] ["train", "numbers"] (defScope s_parts_of) := ⟨rfl, rfl, rfl, by decide +kernel, rfl, by decide +kernel, by decide +kernel⟩
theorem c_parts_of (T : Tx K mg) : Cal P w K mg base 3 "parts_of" (spPartsOf13 K) := by
  refine T.cal 44 93 rfl rfl sc_parts_of (fun _ _ _ _ _ _ us hl => match us, hl with | [_, _], _ => rfl) (fun vs H Q E h => ?_) fun cdv A outer s H vs Q E hr h => ?_
  · first | (obtain ⟨_, rfl, _⟩ := h; rfl) | (obtain ⟨_, _, rfl, _⟩ := h; rfl) | (obtain ⟨_, _, _, rfl, _⟩ := h; rfl) | (obtain ⟨_, _, _, _, rfl, _⟩ := h; rfl) | (obtain ⟨_, _, _, _, _, rfl, _⟩ := h; rfl) | (obtain ⟨_, _, _, _, _, _, rfl, _⟩ := h; rfl) | (obtain ⟨_, _, _, _, _, _, _, rfl, _⟩ := h; rfl) | (obtain ⟨_, _, _, _, _, _, _, _, rfl, _⟩ := h; rfl) | (obtain ⟨_, _, _, _, _, _, _, _, _, rfl, _⟩ := h; rfl) | (obtain ⟨_, _, _, _, _, _, _, _, _, _, rfl, _⟩ := h; rfl) | (obtain ⟨_, _, _, _, _, _, _, _, _, _, _, rfl, _⟩ := h; rfl) | (obtain ⟨_, _, _, _, _, _, _, _, _, _, _, _, rfl, _⟩ := h; rfl) | (obtain ⟨_, _, _, _, _, _, _, _, _, _, _, _, _, rfl, _⟩ := h; rfl) | (obtain ⟨_, _, _, _, _, _, _, _, _, _, _, _, _, _, rfl, _⟩ := h; rfl) | (obtain ⟨_, _, _, _, _, _, _, _, _, _, _, _, _, _, _, rfl, _⟩ := h; rfl)
  · refine ⟨_, (pss_cons (ps_set (i := 2) sc_parts_of.nd rfl (Or.inl rfl) (pe_lst pa_nil))
      (pss_cons (ps_for (passes_of rfl) rfl (pi_range3 (by rfl) (T.free 2) (pa_cons pe_int (pa_cons (pe_callB (len_k K) (by rfl) (T.free 1) PySem.boot_len (pa_cons (pv 1) pa_nil)) (pa_cons pe_int pa_nil)))) (pg_name (i := 3) sc_parts_of.nd rfl (Or.inl rfl))
        (pss_cons (ps_set (i := 4) sc_parts_of.nd rfl (Or.inl rfl) (pe_tup (pa_cons (pe_ix (ix_l K) (pv 1) (pv 3) (fun _ _ => rfl)) (pa_cons (pe_ix (ix_l K) (pv 1) (pe_op op_add (pv 3) pe_int) (fun _ _ => rfl)) (pa_cons (pe_ix (ix_l K) (pv 1) (pe_op op_add (pv 3) pe_int) (fun _ _ => rfl)) pa_nil)))))
        (pss_cons (ps_expr (pe_m (m_Train_need_seat T) hr (pr (takes_of rfl rfl rfl rfl)) (pv 0) (pa_cons (pe_ix (ix_t K) (pv 4) pe_int (fun _ _ => rfl)) pa_nil)))
        (pss_cons (ps_expr (pe_m (m_Train_need_stretch T) hr (pr (takes_of rfl rfl rfl rfl)) (pv 0) (pa_cons (pe_ix (ix_t K) (pv 4) pe_int (fun _ _ => rfl)) (pa_cons (pe_ix (ix_t K) (pv 4) pe_int (fun _ _ => rfl)) pa_nil))))
        (pss_cons (ps_if (PW.pt (pw_and (pt_truth (pv 2) (by intro _; rfl)) (pw_and1 (PW.pt (pw_or (pt_cmpR op_ne (pe_ix (ix_t K) (pe_ix (ix_l K) (pv 2) (pe_un un_neg pe_int) (fun _ _ => rfl)) pe_int (fun _ _ => rfl)) (pe_ix (ix_t K) (pv 4) pe_int (fun _ _ => rfl)) (nomark _)) (pw_or1 (pt_cmpR op_eq (pe_ix (ix_t K) (pe_ix (ix_l K) (pv 2) (pe_un un_neg pe_int) (fun _ _ => rfl)) pe_int (fun _ _ => rfl)) (pe_ix (ix_t K) (pv 4) pe_int (fun _ _ => rfl)) (nomark _))))))))
          (pss_one (ps_raise rfl (takes_of rfl rfl rfl rfl) (pmk_x T 40 41 rfl rfl)))
          pss_nil)
        (pss_cons (ps_if (pt_cmpR op_lt (pe_m (m_Train_farthest T) hr (pr (takes_of rfl rfl rfl rfl)) (pv 0) (pa_cons (pe_ix (ix_t K) (pv 4) pe_int (fun _ _ => rfl)) (pa_cons (pe_ix (ix_t K) (pv 4) pe_int (fun _ _ => rfl)) pa_nil))) (pe_ix (ix_t K) (pv 4) pe_int (fun _ _ => rfl)) (nomark _))
          (pss_one (ps_raise rfl (takes_of rfl rfl rfl rfl) (pmk_x T 87 64 rfl rfl)))
          pss_nil)
        (pss_one (ps_expr (pe_bm PySem.F.plainAttrs_list PySem.F.slot_list_append PySem.F.type_list_append mt_append (pv 2) (pa_cons (pv 4) pa_nil))))))))))
      (pss_one (ps_ret (pv 2))))), ?_⟩
    obtain ⟨S, p, l, T0, t, ns, rfl, A0, hl, hm, hn, q1, q2⟩ := h
    have wf := A0.wf
    have w2 := wf.s2
    have w4 := wf.t2
    have hll : (((t :: ns).map fun n : Nat => (n : Int)).map V.int).length = ns.length + 1 := by rw [List.length_map, List.length_map, List.length_cons]
    (repeat fail "s")
    rename_i r0 H1 nr0 e1 hr0
    refine s_cons ?_
    (repeat fail "s")
    refine ⟨1, ((ns.length + 1 : Nat) : Int), 3, ns.length / 3, by rw [hll], rg3_13 hm (by omega), ?_⟩
    have hg : ∀ k, (ns.map fun n : Nat => (n : Int))[k]? = (ns[k]?).map fun n : Nat => (n : Int) := fun k => List.getElem?_map ..
    refine fr_range3 (fun i σ H' => ∃ (acc : List P3) (v3 v4 : Option V), σ = [some (.ref p), some (.ref l), some (.ref r0), v3, v4] ∧ Ex H H' ∧ PartsAt H' r0 acc ∧ acc.length ≤ i ∧ partsGo T0 [] ns = partsGo T0 acc (ns.drop (3 * i)))
      ⟨[], _, _, rfl, e1, ⟨[], hr0, All2.nil⟩, Nat.le_refl _, rfl⟩ ?_ ?_
    · rintro i σ H2 hi ⟨acc, v3, v4, rfl, x2, hP, hal, hgo⟩
      obtain ⟨a, b, c, ha, hb, hc, hd⟩ := drop3 (ns := ns) (i := i) (by omega)
      rw [hd] at hgo
      have hl2 := x2 _ _ hl
      have at1 : ∀ (k x : Nat) (z : Int), ns[k]? = some x → z = ((k + 1 : Nat) : Int) → atI (((t :: ns).map fun n : Nat => (n : Int)).map V.int) z = some (.int (x : Int)) := fun k x z h hz => at_of (j := k + 1) hz (by
        rw [List.getElem?_map, List.getElem?_map, List.getElem?_cons_succ, h]
        rfl)
      (repeat fail "s")
      refine v_ixL (SqL.of hl2) (at1 _ _ _ ha (by omega)) ?_
      (repeat fail "s")
      refine v_ixL (SqL.of hl2) (at1 _ _ _ hb (by omega)) ?_
      (repeat fail "s")
      refine v_ixL (SqL.of hl2) (at1 _ _ _ hc (by omega)) ?_
      (repeat fail "s")
      rename_i u H3 nu e3 hu
      have X3 := x2.trans e3
      have A3 := A0.ex X3
      have hP3 : PartsAt H3 r0 acc := PartsAt.mono e3 hP
      have nr0u : r0 ≠ u := by
        obtain ⟨ts, h, _⟩ := hP
        exact ne_of_none h nu
      clear e3 hP
      rw [partsGo_cons] at hgo
      refine ⟨S, p, T0, (a : Int), rfl, A3, fun hs => ?_, fun hs => q2.seat (by rw [hgo, if_pos (show ¬ a < T0.rows.length from fun z => hs ⟨by omega, by omega⟩)]) _ X3⟩
      have hs : a < T0.rows.length := by omega
      rw [if_neg (show ¬ ¬ a < T0.rows.length from fun z => z hs)] at hgo
      (repeat fail "s")
      refine ⟨S, p, T0, (b : Int), (c : Int), rfl, A3, fun hs2 => ?_, fun hs2 => q2.stretch (by rw [hgo, if_pos (show ¬ (b < c ∧ c < T0.stops) from fun z => hs2 ⟨by omega, by omega, by omega⟩)]) _ X3⟩
      obtain ⟨_, hs2, hs3⟩ := hs2
      have hs2 : b < c ∧ c < T0.stops := ⟨by omega, by omega⟩
      rw [if_neg (show ¬ ¬ (b < c ∧ c < T0.stops) from fun z => z hs2)] at hgo
      (repeat fail "s")
      obtain ⟨ts, hr3, hT3⟩ := id hP3
      have htl := hT3.len
      have htr : TruV K (.ref r0) H3 (!(ts.map V.ref).isEmpty) := .inl ⟨_, SqL.of hr3, rfl⟩
      have hte : (ts.map V.ref).isEmpty = acc.isEmpty := by
        cases ts with
        | nil =>
          cases acc with
          | nil => rfl
          | cons x y => cases htl
        | cons z y =>
          cases acc with
          | nil => cases htl
          | cons x y => rfl
      rw [hte] at htr
      refine ⟨_, htr, ?_⟩
      cases hla : acc.getLast? with
      | none =>
        have hacc : acc.isEmpty = true := by
          rw [List.getLast?_eq_none_iff.mp hla]
          rfl
        have hbad : goesBad acc a b = false := by
          unfold goesBad
          rw [hla]
        rw [hacc]
        (repeat fail "s")
        rw [if_neg (show ¬ goesBad acc a b = true by rw [hbad]; exact Bool.false_ne_true)] at hgo
        refine ⟨S, p, T0, (a : Int), (b : Int), rfl, A3, fun row hrw _ => ?_, fun h => absurd ⟨by omega, by omega⟩ h, fun _ h => absurd ⟨by omega, by omega⟩ h⟩
        have hrw : T0.rows[a]? = some row := hrw.2
        rw [hrw] at hgo
        dsimp only [Option.getD_some] at hgo
        rw [show ((b : Int)).toNat = b from Int.toNat_natCast b]
        (repeat fail "s")
        refine iteD (fun hr => ?_) (fun hr => ?_)
        · (repeat fail "s")
          refine q2.shared ?_ _ X3
          rw [hgo, if_pos (by omega)]
        rw [if_neg (by omega)] at hgo
        (repeat fail "s")
        rename_i H4 c4 h4
        exact ⟨acc ++ [(a, b, c)], _, _, rfl, c4.ex X3 nr0, hP3.snoc nr0u hu c4 ts hr3 h4, by rw [List.length_append]; show _ + 1 ≤ _; omega, hgo⟩
      | some q =>
        have hne : acc ≠ [] := fun z => by
          rw [z] at hla
          cases hla
        have hacc : acc.isEmpty = false := by
          cases acc with
          | nil => exact absurd rfl hne
          | cons x y => rfl
        have hlt : ltP acc = q := by
          unfold ltP
          rw [hla]
          rfl
        subst hlt
        rw [hacc]
        (repeat fail "s")
        refine iteN (fun h => ?_) (fun h => ?_)
        · (repeat fail "s")
          refine q2.stretch ?_ _ X3
          rw [hgo, if_pos]
          unfold goesBad
          rw [hla]
          dsimp only
          rw [decide_eq_true (show (ltP acc).2.2 ≠ b by omega)]
          rfl
        (repeat fail "s")
        refine iteD (fun h2 => ?_) (fun h2 => ?_)
        · (repeat fail "s")
          refine q2.stretch ?_ _ X3
          rw [hgo, if_pos]
          unfold goesBad
          rw [hla]
          dsimp only
          rw [decide_eq_true (show (ltP acc).1 = a by omega), Bool.or_true]
        have hbad : goesBad acc a b = false := by
          unfold goesBad
          rw [hla]
          dsimp only
          rw [decide_eq_false (show ¬ (ltP acc).2.2 ≠ b by omega), decide_eq_false (show ¬ (ltP acc).1 = a by omega)]
          rfl
        (repeat fail "s")
        rw [if_neg (show ¬ goesBad acc a b = true by rw [hbad]; exact Bool.false_ne_true)] at hgo
        refine ⟨S, p, T0, (a : Int), (b : Int), rfl, A3, fun row hrw _ => ?_, fun h => absurd ⟨by omega, by omega⟩ h, fun _ h => absurd ⟨by omega, by omega⟩ h⟩
        have hrw : T0.rows[a]? = some row := hrw.2
        rw [hrw] at hgo
        dsimp only [Option.getD_some] at hgo
        rw [show ((b : Int)).toNat = b from Int.toNat_natCast b]
        (repeat fail "s")
        refine iteD (fun hr => ?_) (fun hr => ?_)
        · (repeat fail "s")
          refine q2.shared ?_ _ X3
          rw [hgo, if_pos (by omega)]
        rw [if_neg (by omega)] at hgo
        (repeat fail "s")
        rename_i H4 c4 h4
        exact ⟨acc ++ [(a, b, c)], _, _, rfl, c4.ex X3 nr0, hP3.snoc nr0u hu c4 ts hr3 h4, by rw [List.length_append]; show _ + 1 ≤ _; omega, hgo⟩
    · rintro σ H2 ⟨acc, v3, v4, rfl, x2, hP, hal, hgo⟩
      have hgo2 : partsGo T0 [] ns = (("" : Str), acc) := by
        rw [hgo, List.drop_of_length_le (by omega), partsGo]
        exact fun _ _ _ _ z => by cases z
      (repeat fail "s")
      refine q1 (by rw [hgo2]) H2 r0 x2 nr0 ?_
      rw [hgo2]
      exact hP
theorem sc_read : FnScope ["text", "rows", "head", "tickets", "train", "one", "row"] ["text"] (defScope s_read) := ⟨rfl, rfl, rfl, by decide +kernel, rfl, by decide +kernel, by decide +kernel⟩
theorem c_read (T : Tx K mg) : Cal P w K mg base 4 "read" (spRead13 K) := by
  refine T.cal 45 94 rfl rfl sc_read (fun _ _ _ _ _ _ us hl => match us, hl with | [_], _ => rfl) (fun vs H Q E h => ?_) fun cdv A outer s H vs Q E hr h => ?_
  · first | (obtain ⟨_, rfl, _⟩ := h; rfl) | (obtain ⟨_, _, rfl, _⟩ := h; rfl) | (obtain ⟨_, _, _, rfl, _⟩ := h; rfl) | (obtain ⟨_, _, _, _, rfl, _⟩ := h; rfl) | (obtain ⟨_, _, _, _, _, rfl, _⟩ := h; rfl) | (obtain ⟨_, _, _, _, _, _, rfl, _⟩ := h; rfl) | (obtain ⟨_, _, _, _, _, _, _, rfl, _⟩ := h; rfl) | (obtain ⟨_, _, _, _, _, _, _, _, rfl, _⟩ := h; rfl) | (obtain ⟨_, _, _, _, _, _, _, _, _, rfl, _⟩ := h; rfl) | (obtain ⟨_, _, _, _, _, _, _, _, _, _, rfl, _⟩ := h; rfl) | (obtain ⟨_, _, _, _, _, _, _, _, _, _, _, rfl, _⟩ := h; rfl) | (obtain ⟨_, _, _, _, _, _, _, _, _, _, _, _, rfl, _⟩ := h; rfl) | (obtain ⟨_, _, _, _, _, _, _, _, _, _, _, _, _, rfl, _⟩ := h; rfl) | (obtain ⟨_, _, _, _, _, _, _, _, _, _, _, _, _, _, rfl, _⟩ := h; rfl) | (obtain ⟨_, _, _, _, _, _, _, _, _, _, _, _, _, _, _, rfl, _⟩ := h; rfl)
  · refine ⟨_, (pss_cons (ps_set (i := 1) sc_read.nd rfl (Or.inl rfl) (pe_split (pv 0) pe_str))
      (pss_cons (ps_set (i := 2) sc_read.nd rfl (Or.inl rfl) (pe_c (c_numbers_of T) hr (pr (takes_of rfl rfl rfl rfl)) (pa_cons (pe_ix (ix_l K) (pv 1) pe_int (fun _ _ => rfl)) (pa_cons pe_str pa_nil))))
      (pss_cons (ps_setLcX (i := 3) (own := [("row", 6)]) (g := gName 6)  rfl sc_read.nd rfl rfl (sw_true rfl rfl rfl (by decide +kernel)) (pi_l K (pe_slice (sl_k K) (pv 1) (po_some pe_int) po_none)) (blkOk_by (N := ["text", "rows", "head", "tickets", "train", "one", "row"]) (sc := defScope s_read) (by decide +kernel)) (fun _ _ _ _ _ => pg_name (i := 6) sc_read.nd rfl (Or.inl rfl)) (fun _ _ _ _ _ => pts_nil) (fun _ _ _ _ _ hb => (pe_c (c_numbers_of T) hr (pB (takes_of rfl rfl rfl rfl) rfl rfl hb) (pa_cons (pv 6) (pa_cons pe_str pa_nil)))))
      (pss_cons (ps_if (PW.pt (pw_or (pt_cmpR op_ne (pe_callB (len_k K) (by rfl) (T.free 1) PySem.boot_len (pa_cons (pv 2) pa_nil)) pe_int (nomark _)) (pw_or1 (pt_not (pt_val (pe_callB (all_k K rfl) (by rfl) (T.free 44) (by decide +kernel) (pa_cons (pe_lc (own := [("one", 5)]) (g := gName 5) rfl sc_read.nd (pi_l K (pv 3)) (blkOk_by (N := ["text", "rows", "head", "tickets", "train", "one", "row"]) (sc := defScope s_read) (by decide +kernel)) (fun _ _ _ _ _ => pg_name (i := 5) sc_read.nd rfl (Or.inl rfl)) (fun _ _ _ _ _ => pts_nil) (fun _ _ _ _ _ => (pe_and (pe_cmpR op_gt (pe_callB (len_k K) (by rfl) (T.free 1) PySem.boot_len (pa_cons (pv 5) pa_nil)) pe_int (nomark _)) (pe_one (pe_cmpR op_eq (pe_op op_mod (pe_callB (len_k K) (by rfl) (T.free 1) PySem.boot_len (pa_cons (pv 5) pa_nil)) pe_int) pe_int (nomark _)))))) pa_nil)))))))
        (pss_one (ps_raise rfl (takes_of rfl rfl rfl rfl) (pmk_x T 81 65 rfl rfl)))
        pss_nil)
      (pss_cons (ps_set (i := 4) sc_read.nd rfl (Or.inl rfl) (pe_k (k_Train T) hr (pr (takes_of rfl rfl rfl rfl)) (pa_cons (pe_ix (ix_l K) (pv 2) pe_int (fun _ _ => rfl)) (pa_cons (pe_ix (ix_l K) (pv 2) pe_int (fun _ _ => rfl)) pa_nil))))
      (pss_cons (ps_for (passes_of rfl) rfl (pi_l K (pv 3)) (pg_name (i := 5) sc_read.nd rfl (Or.inl rfl))
        (pss_cons (ps_if (PW.pt (pw_or (pt_cmpR op_ge (pe_ix (ix_l K) (pv 5) pe_int (fun _ _ => rfl)) (pe_ix (ix_l K) (pv 2) pe_int (fun _ _ => rfl)) (nomark _)) (pw_or1 (pt_cmpR op_lt (pe_ix (ix_l K) (pv 5) pe_int (fun _ _ => rfl)) (fld_k K (pv 4) rfl) (nomark _)))))
          (pss_one (ps_raise rfl (takes_of rfl rfl rfl rfl) (pmk_x T 11 12 rfl rfl)))
          pss_nil)
        (pss_cons (ps_expr (pe_m (m_Train_take T) hr pz (pv 4) (pa_cons (pe_ix (ix_l K) (pv 5) pe_int (fun _ _ => rfl)) (pa_cons (pe_c (c_parts_of T) hr (pr (takes_of rfl rfl rfl rfl)) (pa_cons (pv 4) (pa_cons (pv 5) pa_nil))) pa_nil))))
        (pss_one (ps_fld (pv 4) (pe_op op_add (pe_ix (ix_l K) (pv 5) pe_int (fun _ _ => rfl)) pe_int) rfl)))))
      (pss_cons (ps_fld (pv 4) (pe_ix (ix_l K) (pv 2) pe_int (fun _ _ => rfl)) rfl)
      (pss_one (ps_ret (pv 4)))))))))), ?_⟩
    obtain ⟨z, rfl, hz, q1, q2⟩ := h
    have hsum := nl_sum z
    (repeat fail "s")
    refine v_split (by decide +kernel) (Nat.le_trans (show _ ≤ 9000002 by omega) (by decide)) fun rw_ H1 nrw e1 hrw => ?_
    obtain ⟨a, r, hs⟩ : ∃ a r, Txt.split z "\n" = a :: r := by
      cases hs : Txt.split z "\n" with
      | nil => exact absurd hs (nl_ne z)
      | cons a r => exact ⟨a, r, rfl⟩
    have hR := readT_eq hs
    have hal : a.length ≤ z.length := nl_mem (by rw [hs]; exact List.mem_cons_self)
    have hrl : ∀ x ∈ r, x.length ≤ z.length := fun x m => nl_mem (by rw [hs]; exact List.mem_cons_of_mem _ m)
    rw [hs] at hrw hsum
    have hrw : H1 rw_ = some (.lst (.str a :: r.map V.str)) := hrw
    rw [List.length_cons, List.map_cons, List.sum_cons] at hsum
    (repeat fail "s")
    refine v_ixL (SqL.of hrw) (at_of (j := 0) rfl rfl) ?_
    (repeat fail "s")
    refine ⟨a, "train", rfl, by omega, fun hd hhd H2 hdl e2 nhd hhd2 => ?_, fun hn H2 e2 => q2.text (by rw [hR, hn]) H2 (e1.trans e2)⟩
    have nrd : rw_ ≠ hdl := ne_of_none hrw nhd
    rw [hhd] at hR
    (repeat fail "s")
    rename_i t1 H3 nt1 e3 ht1
    refine lc_numRows (f := fun x => numbersOf x "ticket") (SqL.of ht1) (by omega) (fun _ => rfl) (fun x H4 Q4 mx e4 q4 => ?_) fun D H4 as ts nD e4 hm hys hal2 hat => ?_
    · (repeat fail "s")
      refine ⟨x, "ticket", rfl, by have := hrl x mx; omega, fun t ht H5 l e5 nl hl => q4 t H5 l ht e5 nl hl, fun hn H5 e5 => q2.text (by rw [hR, mapM_none mx hn]) H5 ((e1.trans e2).trans (e3.trans (e4.trans e5)))⟩
    rw [hm] at hR
    dsimp only at hR
    have hlts : r.length = ts.length := by
      rw [← (mapM_some [] hm).1, List.length_map]
    have hasl : (as.map V.ref).length = ts.length := by rw [List.length_map, hal2]
    have hhd4 : H4 hdl = some (.lst (natsV hd)) := e4 _ _ (e3 _ _ hhd2)
    have X4 : Ex H H4 := (e1.trans e2).trans (e3.trans e4)
    rw [headOk_eq] at hR
    clear hhd2 e1 e2 e3 e4 hrw ht1
    (repeat fail "s")
    rw [natsV_len]
    refine iteN (fun h3 => ?_) (fun h3 => ?_)
    · (repeat fail "s")
      refine q2.text ?_ _ X4
      rw [hR, decide_eq_false (show ¬ hd.length = 3 by omega), Bool.false_and, if_neg Bool.false_ne_true]
    have h3 : hd.length = 3 := by omega
    rw [h3, decide_eq_true rfl, Bool.true_and] at hR
    (repeat fail "s")
    refine lc_bools (f := tickOk) hys hal2 hat (by omega) (fun _ => rfl) (fun b t H5 Q5 mt e5 hb q5 => ?_) fun D5 H5 n5 e5 h5 => ?_
    · (repeat fail "s")
      rw [natsV_len]
      refine iteD (fun h => ?_) (fun h => ?_)
      · (repeat fail "s")
        rw [natsV_len, show decide ((t.length : Int) % 3 = 1) = tickOk t by
          unfold tickOk
          rw [decide_eq_true (show 3 < t.length by omega), Bool.true_and]
          exact decide_eq_decide.mpr (by omega)]
        exact q5
      · rw [show tickOk t = false by
          unfold tickOk
          rw [decide_eq_false (show ¬ 3 < t.length by omega), Bool.false_and]] at q5
        exact q5
    (repeat fail "s")
    refine v_all (SqL.of h5) ?_
    rcases all_bl (ts.map tickOk) with hA | hA
    rotate_left
    · rw [hA]
      (repeat fail "s")
      refine q2.text ?_ _ (X4.trans e5)
      rw [hR, hA, if_neg Bool.false_ne_true]
    rw [hA]
    rw [hA, if_pos rfl] at hR
    obtain ⟨h0, h1, h2, rfl⟩ : ∃ a b c, hd = [a, b, c] := by
      match hd, h3 with
      | [a, b, c], _ => exact ⟨a, b, c, rfl⟩
    unfold readH at hR
    dsimp only at hR
    have hok : TicksOk ts := fun t m => by
      have := List.all_eq_true.mp hA (tickOk t) (List.mem_map.mpr ⟨t, m, rfl⟩)
      unfold tickOk at this
      simp only [id, Bool.and_eq_true, decide_eq_true_eq] at this
      exact this
    have hfew := rows_few hm hok
    have hhd4 : H4 hdl = some (.lst [.int (h0 : Int), .int (h1 : Int), .int (h2 : Int)]) := hhd4
    (repeat fail "s")
    refine v_makeX rfl (fun hb p S6 H6 P6 => ?_) fun hb H6 e6 => ?_
    rotate_left
    · refine q2.train ?_ _ (X4.trans (e5.trans e6))
      rw [hR, if_neg hb]
    rw [if_pos hb] at hR
    have hR1 : (readT z).1 = (readGo h2 (Tr.new h0 h1) ts).1 := by rw [hR]
    have hR2 : (readT z).2 = { (readGo h2 (Tr.new h0 h1) ts).2 with coming := h2 } := by rw [hR]
    have x6 := P6.ex
    have hys5 := e5 _ _ hys
    have hhd5 := e5 _ _ hhd4
    have hat5 : ∀ (i : Nat) (b : Addr), as[i]? = some b → ∃ t, ts[i]? = some t ∧ H5 b = some (.lst (natsV t)) := fun i b hb => by
      have ht := List.getElem?_eq_getElem (l := ts) (i := i) (by have := lt_of_get hb; omega)
      exact ⟨_, ht, e5 _ _ (hat i b _ hb ht)⟩
    have X5 : Ex H H5 := X4.trans e5
    clear hat hys hhd4 e5 X4
    have wf0 := P6.good.wf
    have hg0 : (Tr.new h0 h1).rows.length = h0 := List.length_replicate
    (repeat fail "s")
    refine fr_list (xs := as.map V.ref) (fun i σ H' => ∃ (Ti : Tr) (S : Addr → Prop) (v5 v6 : Option V), σ = [some (.str z), some (.ref rw_), some (.ref hdl), some (.ref D), some (.ref p), v5, v6] ∧ Ex H5 H' ∧ TrainAt K H' S p Ti ∧ (∀ a, S a → H5 a = none) ∧ (∀ a, S a → ∃ o, H' a = some o) ∧ (∀ x ∈ Ti.sold, x.1 < Ti.coming) ∧ Ti.sold.length ≤ i ∧ readGo h2 (Tr.new h0 h1) ts = readGo h2 Ti (ts.drop i))
      ⟨_, S6, _, _, rfl, x6, P6.tr, P6.fresh, P6.live, fun x m => (by cases m), Nat.le_refl _, rfl⟩ (fun i σ H' _ ⟨_, _, _, _, _, x, _⟩ => SqL.of (x _ _ hys5)) ?_ ?_
    · rintro i x σ H7 hi ⟨Ti, S, v5, v6, rfl, x7, A7, fr7, lv7, hlow, hsl, hgo7⟩
      obtain ⟨b, hb, rfl⟩ := map_back hi
      have hi2 := lt_of_get hb
      obtain ⟨t, ht, hbt⟩ := hat5 i b hb
      obtain ⟨o1, o2⟩ := hok t (List.mem_of_getElem? ht)
      obtain ⟨t0, ns, rfl⟩ : ∃ t0 ns, t = t0 :: ns := by
        cases t with
        | nil => exact absurd o1 (by decide)
        | cons x y => exact ⟨x, y, rfl⟩
      rw [List.length_cons] at o1 o2
      have hnl : ns.length ≤ 9000000 := by
        obtain ⟨k, hk⟩ : ∃ s, s ∈ r ∧ numbersOf s "ticket" = some (t0 :: ns) := by
          have := (mapM_some [] hm).1
          have hg : (r.map fun z => (numbersOf z "ticket").getD [])[i]? = some (t0 :: ns) := by rw [this]; exact ht
          obtain ⟨s, hs1, hs2⟩ := map_back hg
          obtain ⟨n, hn⟩ := (mapM_some [] hm).2 s (List.mem_of_getElem? hs1)
          rw [hn] at hs2
          exact ⟨s, List.mem_of_getElem? hs1, by rw [hn]; exact congrArg some hs2.symm⟩
        have h7 := (numbersOf_back hk.2).2.2.1
        have h8 := hrl k hk.1
        rw [List.length_cons] at h7
        omega
      have hdr : ts.drop i = (t0 :: ns) :: ts.drop (i + 1) := by
        obtain ⟨h1, h2⟩ := List.getElem?_eq_some_iff.mp ht
        rw [List.drop_eq_getElem_cons h1, h2]
      rw [hdr, readGo_cons] at hgo7
      have hb7 : H7 b = some (.lst (.int (t0 : Int) :: (ns.map fun n : Nat => (n : Int)).map V.int)) := x7 _ _ hbt
      have hhd7 := x7 _ _ hhd5
      have X7 := X5.trans x7
      obtain ⟨dx, r0, d0, hp7⟩ := A7.ins
      have tick : h2 ≤ t0 ∨ t0 < Ti.coming → (readT z).1 = "ticket" := fun c => by rw [hR1, hgo7, if_pos c]
      (repeat fail "s")
      refine v_ixL (SqL.of hb7) (at_of (j := 0) rfl rfl) ?_
      (repeat fail "s")
      refine iteD (fun g1 => ?_) (fun g1 => ?_)
      · (repeat fail "s")
        exact q2.ticket (tick (.inl (by omega))) _ X7
      (repeat fail "s")
      refine v_ixL (SqL.of hb7) (at_of (j := 0) rfl rfl) ?_
      refine ⟨_, rfl, p, _, dx, _, _, rfl, hp7, (T.cls 5), (T.noat 17), lk_coming, ?_⟩
      clear hp7
      (repeat fail "s")
      refine iteD (fun g2 => ?_) (fun g2 => ?_)
      · (repeat fail "s")
        exact q2.ticket (tick (.inr (by omega))) _ X7
      rw [if_neg (show ¬ (h2 ≤ t0 ∨ t0 < Ti.coming) by omega)] at hgo7
      (repeat fail "s")
      refine v_ixL (SqL.of hb7) (at_of (j := 0) rfl rfl) ?_
      (repeat fail "s")
      refine ⟨S, p, b, Ti, t0, ns, rfl, A7, hb7, by omega, hnl, fun hw H8 l e8 nl hP8 => ?_, q2.of X7 fun hw => ?_⟩
      rotate_left
      · rw [hR1, hgo7, if_neg hw]
      rw [if_pos hw] at hgo7
      have nSl : ¬ S l := fun z => by
        obtain ⟨o, ho⟩ := lv7 l z
        rw [nl] at ho
        cases ho
      have hval := partsGo_valid Ti ns [] (fun q m => by cases m)
      have A8 := A7.ex e8
      (repeat fail "s")
      refine ⟨S, p, Ti, t0, l, (partsGo Ti [] ns).2, rfl, A8, hP8, nSl, fun q m => ?_, by omega, .inr fun x m => ?_, fun H9 keep9 kt9 A9 => ?_⟩
      · have := hval q m
        exact ⟨this.1, this.2.1, by omega⟩
      · have := hlow x m
        omega
      have hb9 : H9 b = some (.lst (.int (t0 : Int) :: (ns.map fun n : Nat => (n : Int)).map V.int)) := keep9 _ _ (fun z => by
        have h1 := fr7 b z
        rw [hbt] at h1
        cases h1) (e8 _ _ hb7)
      (repeat fail "s")
      refine v_ixL (SqL.of hb9) (at_of (j := 0) rfl rfl) ?_
      (repeat fail "s")
      rw [show (t0 : Int) + 1 = ((t0 + 1 : Nat) : Int) by omega]
      refine v_fldC A9 (T.cls 5) (T.noat 17) fun H10 mv10 A10 => ?_
      obtain ⟨S', hS', A10'⟩ := A10.there
      have nl5 : H5 l = none := Evl.fresh_back x7 nl
      have ex10 : Ex H5 H10 := fun a o h => by
        have n1 : ¬ S a := fun z => by
          have := fr7 a z
          rw [h] at this
          cases this
        have n2 : a ≠ l := fun z => by
          rw [z, nl5] at h
          cases h
        exact mv10.keep a o (fun z => z.elim n1 n2) (keep9 a o n1 (e8 _ _ (x7 _ _ h)))
      have hnew : putS Ti.sold t0 (partsGo Ti [] ns).2 = Ti.sold ++ [(t0, (partsGo Ti [] ns).2)] := putS_new fun x m => by
        have := hlow x m
        omega
      refine ⟨Ti.put t0 (partsGo Ti [] ns).2, S', _, _, rfl, ex10, A10', fun a h => ?_, fun a h => (hS' a h).2, fun x m => ?_, ?_, hgo7⟩
      · rcases (hS' a h).1 with z | z
        · exact fr7 a z
        · rw [z]
          exact nl5
      · show x.1 < t0 + 1
        have m : x ∈ putS Ti.sold t0 (partsGo Ti [] ns).2 := m
        rw [hnew] at m
        rcases List.mem_append.mp m with m | m
        · have := hlow x m
          omega
        · rw [List.mem_singleton.mp m]
          exact Nat.lt_succ_self _
      · show (putS Ti.sold t0 (partsGo Ti [] ns).2).length ≤ i + 1
        rw [hnew, List.length_append]
        show _ + 1 ≤ _
        omega
    · rintro σ H7 ⟨Ti, S, v5, v6, rfl, x7, A7, fr7, lv7, hlow, hsl, hgo7⟩
      have hend : readGo h2 Ti [] = (("" : Str), Ti) := by
        rw [readGo]
        exact fun _ _ _ z => by cases z
      rw [hasl, List.drop_length, hend] at hgo7
      have hacc : (readT z).1 = "" := by rw [hR1, hgo7]
      have hhd7 := x7 _ _ hhd5
      (repeat fail "s")
      refine v_fldC A7 (T.cls 5) (T.noat 17) fun H8 mv8 A8 => ?_
      obtain ⟨S', hS', A8'⟩ := A8.there
      obtain ⟨_, _, _, _, _, _, _, _, _, _, _, _, _, _, _, _, ok⟩ := readT_ok hacc
      have hT : (readT z).2 = { Ti with coming := h2 } := by rw [hR2, hgo7]
      (repeat fail "s")
      refine q1 hacc H8 S' p ⟨X5.trans fun a o h => mv8.keep a o (fun z => ?_) (x7 _ _ h), by rw [hT]; exact A8', ok.good, fun a h => Evl.fresh_back X5 (fr7 a (hS' a h).1), fun a h => (hS' a h).2⟩
      have := fr7 a z
      rw [h] at this
      cases this
theorem sc_law_read : FnScope ["_law_text", "_law_e"] ["_law_text"] (defScope s_law_read) := ⟨rfl, rfl, rfl, by decide +kernel, rfl, by decide +kernel, by decide +kernel⟩
theorem c_law_read (T : Tx K mg) : Cal P w K mg base 5 "_law_read" (spRead13L K) := by
  refine T.cal 46 95 rfl rfl sc_law_read (fun _ _ _ _ _ _ us hl => match us, hl with | [_], _ => rfl) (fun vs H Q E h => ?_) fun cdv A outer s H vs Q E hr h => ?_
  · first | (obtain ⟨_, rfl, _⟩ := h; rfl) | (obtain ⟨_, _, rfl, _⟩ := h; rfl) | (obtain ⟨_, _, _, rfl, _⟩ := h; rfl) | (obtain ⟨_, _, _, _, rfl, _⟩ := h; rfl) | (obtain ⟨_, _, _, _, _, rfl, _⟩ := h; rfl) | (obtain ⟨_, _, _, _, _, _, rfl, _⟩ := h; rfl) | (obtain ⟨_, _, _, _, _, _, _, rfl, _⟩ := h; rfl) | (obtain ⟨_, _, _, _, _, _, _, _, rfl, _⟩ := h; rfl) | (obtain ⟨_, _, _, _, _, _, _, _, _, rfl, _⟩ := h; rfl) | (obtain ⟨_, _, _, _, _, _, _, _, _, _, rfl, _⟩ := h; rfl) | (obtain ⟨_, _, _, _, _, _, _, _, _, _, _, rfl, _⟩ := h; rfl) | (obtain ⟨_, _, _, _, _, _, _, _, _, _, _, _, rfl, _⟩ := h; rfl) | (obtain ⟨_, _, _, _, _, _, _, _, _, _, _, _, _, rfl, _⟩ := h; rfl) | (obtain ⟨_, _, _, _, _, _, _, _, _, _, _, _, _, _, rfl, _⟩ := h; rfl) | (obtain ⟨_, _, _, _, _, _, _, _, _, _, _, _, _, _, _, rfl, _⟩ := h; rfl)
  · refine ⟨_, (pss_one (ps_try_as (i := 1) rfl rfl sc_law_read.nd rfl rfl ⟨rfl, by decide, Or.inl (T.glo 36)⟩ takes0
        (fun W pn xe tk po => (pss_one (ps_ret (pe_lst (pa_cons pe_str (pa_cons (pe_c (c_read T) hr (pr tk) (pa_cons (pv 0) pa_nil)) pa_nil))))))
        (fun a oe cls d pn hz hf => (pss_one (ps_ret (pe_lst (pa_cons (pe_hz (h_law_class T) hr hz hf (pa_cons (pv 1) pa_nil)) pa_nil))))))), ?_⟩
    obtain ⟨z, rfl, hz, q1, q2⟩ := h
    have out : ∀ w, (readT z).1 = w → w ≠ "" → ∀ H3, Ex H H3 → (1 ≤ sizeLine ∧ ∀ t, H3 t = none → Q (.ref t) (upd H3 t (.lst [.str w]))) := fun w hw hne H3 e3 => ⟨by decide, fun t ft => by
      have e4 := Evl.Ex.new (o := .lst [.str w]) ft
      exact q2 (by rw [hw]; exact hne) _ t (e3.trans e4) (by rw [hw]; exact upd_same)⟩
    refine ⟨_, rfl, z, rfl, hz, fun hw H' S p P => ?_, ?_⟩
    · refine ⟨by show 2 ≤ sizeLine; decide, fun l hl => ?_⟩
      have e4 := Evl.Ex.new (o := .lst [.str "", .ref p]) hl
      exact q1 hw _ S p l (P.more e4) upd_same
    constructor
    · exact fun hw H2 e2 => ⟨true, (T.exm 90), fun _ a0 na oe hz hf => ⟨_, rfl, "NoSeat", by decide +kernel, rfl, hz, hf, fun H3 e3 => out (excW "NoSeat") (hw.trans (by decide +kernel)) (by decide +kernel) H3 (e2.trans e3)⟩, fun z => nomatch z⟩
    · exact fun hw H2 e2 => ⟨true, (T.exm 42), fun _ a0 na oe hz hf => ⟨_, rfl, "NoStretch", by decide +kernel, rfl, hz, hf, fun H3 e3 => out (excW "NoStretch") (hw.trans (by decide +kernel)) (by decide +kernel) H3 (e2.trans e3)⟩, fun z => nomatch z⟩
    · exact fun hw H2 e2 => ⟨true, (T.exm 88), fun _ a0 na oe hz hf => ⟨_, rfl, "Shared", by decide +kernel, rfl, hz, hf, fun H3 e3 => out (excW "Shared") (hw.trans (by decide +kernel)) (by decide +kernel) H3 (e2.trans e3)⟩, fun z => nomatch z⟩
    · exact fun hw H2 e2 => ⟨true, (T.exm 13), fun _ a0 na oe hz hf => ⟨_, rfl, "NoTicket", by decide +kernel, rfl, hz, hf, fun H3 e3 => out (excW "NoTicket") (hw.trans (by decide +kernel)) (by decide +kernel) H3 (e2.trans e3)⟩, fun z => nomatch z⟩
    · exact fun hw H2 e2 => ⟨true, (T.exm 26), fun _ a0 na oe hz hf => ⟨_, rfl, "NoTrain", by decide +kernel, rfl, hz, hf, fun H3 e3 => out (excW "NoTrain") (hw.trans (by decide +kernel)) (by decide +kernel) H3 (e2.trans e3)⟩, fun z => nomatch z⟩
    · exact fun hw H2 e2 => ⟨true, (T.exm 82), fun _ a0 na oe hz hf => ⟨_, rfl, "NoText", by decide +kernel, rfl, hz, hf, fun H3 e3 => out (excW "NoText") (hw.trans (by decide +kernel)) (by decide +kernel) H3 (e2.trans e3)⟩, fun z => nomatch z⟩
theorem sc_law_whole : FnScope ["_law_found"] ["_law_found"] (defScope s_law_whole) := ⟨rfl, rfl, rfl, by decide +kernel, rfl, by decide +kernel, by decide +kernel⟩
theorem c_law_whole (T : Tx K mg) : Cal P w K mg base 1 "_law_whole" spWhole := by
  refine T.cal 47 97 rfl rfl sc_law_whole (fun _ _ _ _ _ _ us hl => match us, hl with | [_], _ => rfl) (fun vs H Q E h => ?_) fun cdv A outer s H vs Q E hr h => ?_
  · first | (obtain ⟨_, rfl, _⟩ := h; rfl) | (obtain ⟨_, _, rfl, _⟩ := h; rfl) | (obtain ⟨_, _, _, rfl, _⟩ := h; rfl) | (obtain ⟨_, _, _, _, rfl, _⟩ := h; rfl) | (obtain ⟨_, _, _, _, _, rfl, _⟩ := h; rfl) | (obtain ⟨_, _, _, _, _, _, rfl, _⟩ := h; rfl) | (obtain ⟨_, _, _, _, _, _, _, rfl, _⟩ := h; rfl) | (obtain ⟨_, _, _, _, _, _, _, _, rfl, _⟩ := h; rfl) | (obtain ⟨_, _, _, _, _, _, _, _, _, rfl, _⟩ := h; rfl) | (obtain ⟨_, _, _, _, _, _, _, _, _, _, rfl, _⟩ := h; rfl) | (obtain ⟨_, _, _, _, _, _, _, _, _, _, _, rfl, _⟩ := h; rfl) | (obtain ⟨_, _, _, _, _, _, _, _, _, _, _, _, rfl, _⟩ := h; rfl) | (obtain ⟨_, _, _, _, _, _, _, _, _, _, _, _, _, rfl, _⟩ := h; rfl) | (obtain ⟨_, _, _, _, _, _, _, _, _, _, _, _, _, _, rfl, _⟩ := h; rfl) | (obtain ⟨_, _, _, _, _, _, _, _, _, _, _, _, _, _, _, rfl, _⟩ := h; rfl)
  · refine ⟨_, (pss_one (ps_ret (pe_and (pe_callB (isi_k K) (by rfl) (T.free 30) (by decide +kernel) (pa_cons (pv 0) (pa_cons (pe_bltn (v := .ty "int") rfl (T.free 72) (by decide +kernel) rfl) pa_nil))) (pe_one (pe_not (pe_callB (isi_k K) (by rfl) (T.free 30) (by decide +kernel) (pa_cons (pv 0) (pa_cons (pe_bltn (v := .ty "bool") rfl (T.free 96) (by decide +kernel) rfl) pa_nil)))))))), ?_⟩
    obtain ⟨x, rfl, hx, q⟩ := h
    rcases hx with rfl | ⟨b, rfl⟩ | ⟨i, rfl⟩ | ⟨z, rfl⟩ | ⟨a, xs, rfl, e⟩ | ⟨a, xs, rfl, e⟩
    · exact ⟨_, rfl, _, .ty "int", _, _, false, rfl, .ty _, .base .non, kit_ty (by decide +kernel), _, rfl, iteF q⟩
    · exact ⟨_, rfl, _, .ty "int", _, _, true, rfl, .ty _, .base (.bl b), kit_ty (by decide +kernel), _, rfl, iteT ⟨_, rfl, _, .ty "bool", _, _, true, rfl, .ty _, .base (.bl b), kit_ty (by decide +kernel), _, rfl, q⟩⟩
    · exact ⟨_, rfl, _, .ty "int", _, _, true, rfl, .ty _, .base (.int i), kit_ty (by decide +kernel), _, rfl, iteT ⟨_, rfl, _, .ty "bool", _, _, false, rfl, .ty _, .base (.int i), kit_ty (by decide +kernel), _, rfl, q⟩⟩
    · exact ⟨_, rfl, _, .ty "int", _, _, false, rfl, .ty _, .base (.str z), kit_ty (by decide +kernel), _, rfl, iteF q⟩
    · exact ⟨_, rfl, _, .ty "int", _, _, false, rfl, .ty _, .base (.lst e), kit_ty (by decide +kernel), _, rfl, iteF q⟩
    · exact ⟨_, rfl, _, .ty "int", _, _, false, rfl, .ty _, .base (.tup e), kit_ty (by decide +kernel), _, rfl, iteF q⟩
theorem sc_law_numbers : FnScope ["_law_found", "_law_due_here", "_law_k"] ["_law_found", "_law_due_here"] (defScope s_law_numbers) := ⟨rfl, rfl, rfl, by decide +kernel, rfl, by decide +kernel, by decide +kernel⟩
theorem c_law_numbers (T : Tx K mg) : Cal P w K mg base 2 "_law_numbers" (spNumbers K) := by
  refine T.cal 48 98 rfl rfl sc_law_numbers (fun _ _ _ _ _ _ us hl => match us, hl with | [_, _], _ => rfl) (fun vs H Q E h => ?_) fun cdv A outer s H vs Q E hr h => ?_
  · first | (obtain ⟨_, rfl, _⟩ := h; rfl) | (obtain ⟨_, _, rfl, _⟩ := h; rfl) | (obtain ⟨_, _, _, rfl, _⟩ := h; rfl) | (obtain ⟨_, _, _, _, rfl, _⟩ := h; rfl) | (obtain ⟨_, _, _, _, _, rfl, _⟩ := h; rfl) | (obtain ⟨_, _, _, _, _, _, rfl, _⟩ := h; rfl) | (obtain ⟨_, _, _, _, _, _, _, rfl, _⟩ := h; rfl) | (obtain ⟨_, _, _, _, _, _, _, _, rfl, _⟩ := h; rfl) | (obtain ⟨_, _, _, _, _, _, _, _, _, rfl, _⟩ := h; rfl) | (obtain ⟨_, _, _, _, _, _, _, _, _, _, rfl, _⟩ := h; rfl) | (obtain ⟨_, _, _, _, _, _, _, _, _, _, _, rfl, _⟩ := h; rfl) | (obtain ⟨_, _, _, _, _, _, _, _, _, _, _, _, rfl, _⟩ := h; rfl) | (obtain ⟨_, _, _, _, _, _, _, _, _, _, _, _, _, rfl, _⟩ := h; rfl) | (obtain ⟨_, _, _, _, _, _, _, _, _, _, _, _, _, _, rfl, _⟩ := h; rfl) | (obtain ⟨_, _, _, _, _, _, _, _, _, _, _, _, _, _, _, rfl, _⟩ := h; rfl)
  · refine ⟨_, (pss_cons (ps_if (PW.pt (pw_or (pt_not (pt_val (pe_callB (isi_k K) (by rfl) (T.free 30) (by decide +kernel) (pa_cons (pv 0) (pa_cons (pe_bltn (v := .ty "list") rfl (T.free 14) (by decide +kernel) rfl) pa_nil))))) (pw_or1 (pt_cmpR op_ne (pe_callB (len_k K) (by rfl) (T.free 1) PySem.boot_len (pa_cons (pv 0) pa_nil)) (pe_callB (len_k K) (by rfl) (T.free 1) PySem.boot_len (pa_cons (pv 1) pa_nil)) (nomark _)))))
        (pss_one (ps_ret pe_bl))
        pss_nil)
      (pss_cons (ps_for (passes_of rfl) rfl (pi_range1 (by rfl) (T.free 2) (pa_cons (pe_callB (len_k K) (by rfl) (T.free 1) PySem.boot_len (pa_cons (pv 1) pa_nil)) pa_nil)) (pg_name (i := 2) sc_law_numbers.nd rfl (Or.inl rfl))
        (pss_one (ps_if (PW.pt (pw_or (pt_not (pt_val (pe_c (c_law_whole T) hr pz (pa_cons (pe_ix (ix_l K) (pv 0) (pv 2) (fun _ _ => rfl)) pa_nil)))) (pw_or1 (pt_cmpR op_ne (pe_ix (ix_l K) (pv 0) (pv 2) (fun _ _ => rfl)) (pe_ix (ix_l K) (pv 1) (pv 2) (fun _ _ => rfl)) (nomark _)))))
          (pss_one (ps_ret pe_bl))
          pss_nil)))
      (pss_one (ps_ret pe_bl)))), ?_⟩
    obtain ⟨f, d, ns, ms, rfl, hf, hd, hl1, hl2, q⟩ := h
    refine ⟨_, rfl, _, .ty "list", _, _, true, rfl, .ty _, .base (.lst hf), kit_ty (by decide +kernel), _, rfl, ?_⟩
    refine iteF ?_
    refine ⟨_, rfl, f, _, rfl, .inl (SqL.of hf), _, rfl, d, _, rfl, .inl (SqL.of hd), rfl, _, rfl, ?_⟩
    rw [List.length_map, List.length_map]
    refine iteN (fun h1 => ?_) (fun h1 => ?_)
    · have hne : ns ≠ ms := fun z => h1 (by rw [z])
      rw [decide_eq_false hne] at q
      exact q
    have hlen : ns.length = ms.length := by
      have := V.int.inj h1
      omega
    refine ⟨_, rfl, d, _, rfl, .inl (SqL.of hd), _, rfl, by rw [List.length_map]; omega, by rw [List.length_map]; omega, for_range (lo := 0) (n := ((ms.map V.int).length : Int).toNat) (fun i σ H' => H' = H ∧ (∃ v, σ = [some (.ref f), some (.ref d), v]) ∧ ns.take i = ms.take i)
      ⟨rfl, ⟨none, rfl⟩, rfl⟩ ?_ ?_⟩
    · rintro i σ H' hi ⟨rfl, ⟨v, rfl⟩, ht⟩
      have hi2 : i < ms.length := by
        rw [List.length_map] at hi
        omega
      have hi1 : i < ns.length := by omega
      have e1 := List.getElem?_eq_getElem hi1
      have e2 := List.getElem?_eq_getElem hi2
      have ez : (0 : Int) + (i : Int) = (i : Int) := Int.zero_add _
      refine ⟨_, rfl, _, rfl, f, _, _, .int ns[i], rfl, rfl, SqL.of hf, at_of (j := i) ez (map_get e1), .int ns[i], rfl, .inr (.inr (.inl ⟨_, rfl⟩)), _, rfl, ?_⟩
      refine iteF ?_
      refine ⟨_, rfl, _, rfl, f, _, _, .int ns[i], rfl, rfl, SqL.of hf, at_of (j := i) ez (map_get e1), _, rfl, _, rfl, d, _, _, .int ms[i], rfl, rfl, SqL.of hd, at_of (j := i) ez (map_get e2), rfl, _, rfl, ?_⟩
      refine iteN (fun h2 => ?_) (fun h2 => ?_)
      · have hne : ns ≠ ms := fun z => h2 (by
          have e3 : ns[i]? = ms[i]? := by rw [z]
          rw [e1, e2] at e3
          rw [Option.some.inj e3])
        rw [decide_eq_false hne] at q
        exact q
      · refine ⟨rfl, ⟨_, rfl⟩, ?_⟩
        rw [List.take_succ_eq_append_getElem hi1, List.take_succ_eq_append_getElem hi2, ht, V.int.inj h2]
    · rintro σ H' ⟨rfl, ⟨v, rfl⟩, ht⟩
      have he : ns = ms := by
        rw [List.length_map] at ht
        have e3 : ((ms.length : Int)).toNat = ms.length := by omega
        rw [e3, List.take_length, ← hlen, List.take_length] at ht
        exact ht
      rw [decide_eq_true he] at q
      exact q
theorem sc_law_rows : FnScope ["_law_found", "_law_due_here", "_law_k", "_law_one"] ["_law_found", "_law_due_here"] (defScope s_law_rows) := ⟨rfl, rfl, rfl, by decide +kernel, rfl, by decide +kernel, by decide +kernel⟩
theorem c_law_rows (T : Tx K mg) : Cal P w K mg base 2 "_law_rows" (spRowsEq K) := by
  refine T.cal 49 99 rfl rfl sc_law_rows (fun _ _ _ _ _ _ us hl => match us, hl with | [_, _], _ => rfl) (fun vs H Q E h => ?_) fun cdv A outer s H vs Q E hr h => ?_
  · first | (obtain ⟨_, rfl, _⟩ := h; rfl) | (obtain ⟨_, _, rfl, _⟩ := h; rfl) | (obtain ⟨_, _, _, rfl, _⟩ := h; rfl) | (obtain ⟨_, _, _, _, rfl, _⟩ := h; rfl) | (obtain ⟨_, _, _, _, _, rfl, _⟩ := h; rfl) | (obtain ⟨_, _, _, _, _, _, rfl, _⟩ := h; rfl) | (obtain ⟨_, _, _, _, _, _, _, rfl, _⟩ := h; rfl) | (obtain ⟨_, _, _, _, _, _, _, _, rfl, _⟩ := h; rfl) | (obtain ⟨_, _, _, _, _, _, _, _, _, rfl, _⟩ := h; rfl) | (obtain ⟨_, _, _, _, _, _, _, _, _, _, rfl, _⟩ := h; rfl) | (obtain ⟨_, _, _, _, _, _, _, _, _, _, _, rfl, _⟩ := h; rfl) | (obtain ⟨_, _, _, _, _, _, _, _, _, _, _, _, rfl, _⟩ := h; rfl) | (obtain ⟨_, _, _, _, _, _, _, _, _, _, _, _, _, rfl, _⟩ := h; rfl) | (obtain ⟨_, _, _, _, _, _, _, _, _, _, _, _, _, _, rfl, _⟩ := h; rfl) | (obtain ⟨_, _, _, _, _, _, _, _, _, _, _, _, _, _, _, rfl, _⟩ := h; rfl)
  · refine ⟨_, (pss_cons (ps_if (PW.pt (pw_or (pt_not (pt_val (pe_callB (isi_k K) (by rfl) (T.free 30) (by decide +kernel) (pa_cons (pv 0) (pa_cons (pe_bltn (v := .ty "list") rfl (T.free 14) (by decide +kernel) rfl) pa_nil))))) (pw_or1 (pt_cmpR op_ne (pe_callB (len_k K) (by rfl) (T.free 1) PySem.boot_len (pa_cons (pv 0) pa_nil)) (pe_callB (len_k K) (by rfl) (T.free 1) PySem.boot_len (pa_cons (pv 1) pa_nil)) (nomark _)))))
        (pss_one (ps_ret pe_bl))
        pss_nil)
      (pss_cons (ps_for (passes_of rfl) rfl (pi_range1 (by rfl) (T.free 2) (pa_cons (pe_callB (len_k K) (by rfl) (T.free 1) PySem.boot_len (pa_cons (pv 1) pa_nil)) pa_nil)) (pg_name (i := 2) sc_law_rows.nd rfl (Or.inl rfl))
        (pss_cons (ps_if (PW.pt (pw_or (pt_not (pt_val (pe_callB (isi_k K) (by rfl) (T.free 30) (by decide +kernel) (pa_cons (pe_ix (ix_l K) (pv 0) (pv 2) (fun _ _ => rfl)) (pa_cons (pe_bltn (v := .ty "tuple") rfl (T.free 31) (by decide +kernel) rfl) pa_nil))))) (pw_or1 (pt_cmpR op_ne (pe_callB (len_k K) (by rfl) (T.free 1) PySem.boot_len (pa_cons (pe_ix (ix_l K) (pv 0) (pv 2) (fun _ _ => rfl)) pa_nil)) (pe_callB (len_k K) (by rfl) (T.free 1) PySem.boot_len (pa_cons (pe_ix (ix_l K) (pv 1) (pv 2) (fun _ _ => rfl)) pa_nil)) (nomark _)))))
          (pss_one (ps_ret pe_bl))
          pss_nil)
        (pss_one (ps_if (PW.pt (pw_or (pt_not (pt_val (pe_callB (all_k K rfl) (by rfl) (T.free 44) (by decide +kernel) (pa_cons (pe_lc (own := [("_law_one", 3)]) (g := gName 3) rfl sc_law_rows.nd (pi_t K (pe_ix (ix_l K) (pv 0) (pv 2) (fun _ _ => rfl))) (blkOk_by (N := ["_law_found", "_law_due_here", "_law_k", "_law_one"]) (sc := defScope s_law_rows) (by decide +kernel)) (fun _ _ _ _ _ => pg_name (i := 3) sc_law_rows.nd rfl (Or.inl rfl)) (fun _ _ _ _ _ => pts_nil) (fun _ _ _ _ _ => (pe_c (c_law_whole T) hr pz (pa_cons (pv 3) pa_nil)))) pa_nil)))) (pw_or1 (pt_cmpR (neD_k K hr.units) (pe_ix (ix_l K) (pv 0) (pv 2) (fun _ _ => rfl)) (pe_ix (ix_l K) (pv 1) (pv 2) (fun _ _ => rfl)) (nomark _)))))
          (pss_one (ps_ret pe_bl))
          pss_nil))))
      (pss_one (ps_ret pe_bl)))), ?_⟩
    obtain ⟨f, d, xs, ys, rfl, ⟨ts, hf, hT⟩, ⟨us, hd, hU⟩, hl1, hl2, hl3, q⟩ := h
    have lt : (ts.map V.ref).length = xs.length := by rw [List.length_map, hT.len]
    have lu : (us.map V.ref).length = ys.length := by rw [List.length_map, hU.len]
    refine ⟨_, rfl, _, .ty "list", _, _, true, rfl, .ty _, .base (.lst hf), kit_ty (by decide +kernel), _, rfl, iteF ?_⟩
    refine ⟨_, rfl, f, _, rfl, .inl (SqL.of hf), _, rfl, d, _, rfl, .inl (SqL.of hd), rfl, _, rfl, ?_⟩
    rw [lt, lu]
    refine iteN (fun h1 => ?_) (fun h1 => ?_)
    · have hne : xs ≠ ys := fun z => h1 (by rw [z])
      have q2 := q H (Evl.Ex.refl H)
      rw [decide_eq_false hne] at q2
      exact q2
    have hlen : xs.length = ys.length := by
      have := V.int.inj h1
      omega
    refine ⟨_, rfl, d, _, rfl, .inl (SqL.of hd), _, rfl, by rw [lu]; omega, by rw [lu]; omega, for_range (lo := 0) (n := ((us.map V.ref).length : Int).toNat) (fun i σ H' => Ex H H' ∧ (∃ v, σ = [some (.ref f), some (.ref d), v, none]) ∧ xs.take i = ys.take i)
      ⟨Evl.Ex.refl H, ⟨none, rfl⟩, rfl⟩ ?_ ?_⟩
    · rintro i σ H' hi ⟨ex, ⟨v, rfl⟩, ht⟩
      have hi2 : i < ys.length := by
        rw [lu] at hi
        omega
      have hi1 : i < xs.length := by omega
      have e1 := List.getElem?_eq_getElem hi1
      have e2 := List.getElem?_eq_getElem hi2
      obtain ⟨t, ht1, hx⟩ := hT.right e1
      obtain ⟨u, hu1, hy⟩ := hU.right e2
      have ez : (0 : Int) + (i : Int) = (i : Int) := Int.zero_add _
      have sf : SqL K H' f (ts.map V.ref) := sqL_of hf ex
      have sd : SqL K H' d (us.map V.ref) := sqL_of hd ex
      have fin : xs[i] ≠ ys[i] → ∀ H2, Ex H' H2 → Q (.bl false) H2 := fun hne H2 e2' => by
        have hne2 : xs ≠ ys := fun z => hne (by
          have e3 : xs[i]? = ys[i]? := by rw [z]
          rw [e1, e2] at e3
          exact Option.some.inj e3)
        have q2 := q H2 (ex.trans e2')
        rw [decide_eq_false hne2] at q2
        exact q2
      have cx : Nat.cast (List.map V.int xs[i]).length = (xs[i].length : Int) := by rw [List.length_map]
      have cy : Nat.cast (List.map V.int ys[i]).length = (ys[i].length : Int) := by rw [List.length_map]
      refine ⟨_, rfl, _, rfl, f, _, _, .ref t, rfl, rfl, sf, at_of (j := i) ez (map_get ht1), _, .ty "tuple", _, _, true, rfl, .ty _, .base (.tup (ex _ _ hx)), kit_ty (by decide +kernel), _, rfl, iteF ?_⟩
      refine ⟨_, rfl, _, rfl, f, _, _, .ref t, rfl, rfl, sf, at_of (j := i) ez (map_get ht1), t, _, rfl, .inr (SqT.of (ex _ _ hx)), _, rfl, _, rfl, d, _, _, .ref u, rfl, rfl, sd, at_of (j := i) ez (map_get hu1), u, _, rfl, .inr (SqT.of (ex _ _ hy)), rfl, _, rfl, ?_⟩
      rw [cx, cy]
      refine iteN (fun h2 => fin (fun z => h2 (by rw [z])) H' (Evl.Ex.refl H')) (fun _ => ?_)
      refine ⟨_, rfl, _, rfl, f, _, _, .ref t, rfl, rfl, sf, at_of (j := i) ez (map_get ht1), t, rfl, ⟨_, SqT.of (ex _ _ hx)⟩, fun D hD => ?_⟩
      refine lc_v (walk_tup (K := K) (a := t) (xs := xs[i].map V.int)) y_list hD (fun H2 e2 => SqT.of (e2 _ _ (ex _ _ hx))) (by rw [List.length_map]; have := hl3 _ (List.getElem_mem hi1); omega) (fun _ => true) (fun _ => .bl true) (fun _ => rfl) lc_yes ?_ ?_
      · intro k x H2 hk hxk _ e2 Q2 q2
        obtain ⟨z, _, rfl⟩ := map_back hxk
        exact ⟨_, rfl, .int z, rfl, .inr (.inr (.inl ⟨_, rfl⟩)), q2 H2 (Evl.Ex.refl H2)⟩
      · intro H2 e2' hD2
        rw [kept_all] at hD2
        refine ⟨D, (List.range (xs[i].map V.int).length).map fun _ => true, rfl, SqL.of (by rw [hD2, List.map_map]; rfl), _, rfl, ?_⟩
        have hall : ((List.range (xs[i].map V.int).length).map fun _ => true).all id = true := by
          rw [List.all_map]
          exact List.all_eq_true.mpr fun _ _ => rfl
        rw [hall]
        refine iteF ?_
        refine ⟨_, rfl, _, rfl, f, _, _, .ref t, rfl, rfl, sqL_ex sf e2', at_of (j := i) ez (map_get ht1), _, rfl, _, rfl, d, _, _, .ref u, rfl, rfl, sqL_ex sd e2', at_of (j := i) ez (map_get hu1), ?_⟩
        refine rne_of (Enc.tup enc_int) (by decide) (dp_tup (e2' _ _ (ex _ _ hx))) (dp_tup (e2' _ _ (ex _ _ hy))) ⟨_, rfl, ?_⟩
        refine iteN (fun h2 => fin h2 H2 e2') (fun h2 => ?_)
        refine ⟨ex.trans e2', ⟨_, rfl⟩, ?_⟩
        rw [List.take_succ_eq_append_getElem hi1, List.take_succ_eq_append_getElem hi2, ht, h2]
    · rintro σ H' ⟨ex, ⟨v, rfl⟩, ht⟩
      have he : xs = ys := by
        have e3 : ((us.map V.ref).length : Int).toNat = ys.length := by omega
        rw [e3, List.take_length, ← hlen, List.take_length] at ht
        exact ht
      have q2 := q H' ex
      rw [decide_eq_true he] at q2
      exact q2
theorem sc_law : FnScope ["_law_script", "_law_text", "_law_cell", "_law_way", "_law_due_here", "_law_found", "_law_train", "_law_k", "_law_told_here"] ["_law_script"] (defScope s_law) := ⟨rfl, rfl, rfl, by decide +kernel, rfl, by decide +kernel, by decide +kernel⟩
theorem f_law (T : Tx K mg) {fd : FuncData} (F : FunD K "law" "law" (defArgs s_law) (defBody s_law) (defScope s_law) [] [] (He.ga K "law") fd) : FnOk P w K mg base (L2.CX P w) 9 (He.ga K "law") fd ["_law_script"] (spLaw K) := by
  refine FunD.ok F sc_law (fun vs H Q E h => ?_) fun cdv A outer s H vs Q E hr h => ?_
  · first | (obtain ⟨_, rfl, _⟩ := h; rfl) | (obtain ⟨_, _, rfl, _⟩ := h; rfl) | (obtain ⟨_, _, _, rfl, _⟩ := h; rfl) | (obtain ⟨_, _, _, _, rfl, _⟩ := h; rfl) | (obtain ⟨_, _, _, _, _, rfl, _⟩ := h; rfl) | (obtain ⟨_, _, _, _, _, _, rfl, _⟩ := h; rfl) | (obtain ⟨_, _, _, _, _, _, _, rfl, _⟩ := h; rfl) | (obtain ⟨_, _, _, _, _, _, _, _, rfl, _⟩ := h; rfl) | (obtain ⟨_, _, _, _, _, _, _, _, _, rfl, _⟩ := h; rfl) | (obtain ⟨_, _, _, _, _, _, _, _, _, _, rfl, _⟩ := h; rfl) | (obtain ⟨_, _, _, _, _, _, _, _, _, _, _, rfl, _⟩ := h; rfl) | (obtain ⟨_, _, _, _, _, _, _, _, _, _, _, _, rfl, _⟩ := h; rfl) | (obtain ⟨_, _, _, _, _, _, _, _, _, _, _, _, _, rfl, _⟩ := h; rfl) | (obtain ⟨_, _, _, _, _, _, _, _, _, _, _, _, _, _, rfl, _⟩ := h; rfl) | (obtain ⟨_, _, _, _, _, _, _, _, _, _, _, _, _, _, _, rfl, _⟩ := h; rfl)
  · refine ⟨_, (pss_cons (ps_set (i := 1) sc_law.nd rfl (Or.inl rfl) (pe_c (c_written T) hr pz (pa_cons (pe_ix (ix_l K) (pe_c (c_law_run T) hr pz (pa_cons (pv 0) pa_nil)) pe_int (fun _ _ => rfl)) pa_nil)))
      (Evl.pss_cut (ps_if (pt_cmpR op_eq (pe_op op_mod (pe_c (c_law_cell_at T) hr pz (pa_cons (pv 0) (pa_cons pe_int pa_nil))) pe_int) pe_int (nomark _))
        (pss_one (ps_set (i := 1) sc_law.nd rfl (Or.inl rfl) (pe_c (c_law_changing T) hr pz (pa_cons (pe_op op_fdiv (pe_c (c_law_cell_at T) hr pz (pa_cons (pv 0) (pa_cons pe_int pa_nil))) pe_int) pa_nil))))
        pss_nil)
      (pss_cons (ps_set (i := 2) sc_law.nd rfl (Or.inl rfl) (pe_op op_add (pe_op op_add (pe_c (c_law_cell_at T) hr pz (pa_cons (pv 0) (pa_cons pe_int pa_nil))) (pe_op op_mul pe_int (pe_c (c_law_cell_at T) hr pz (pa_cons (pv 0) (pa_cons pe_int pa_nil))))) (pe_op op_mul pe_int (pe_c (c_law_cell_at T) hr pz (pa_cons (pv 0) (pa_cons (pe_callB (call_max2 rfl) (by rfl) (T.free 0) (by decide +kernel) (pa_cons pe_int (pa_cons (pe_op op_sub (pe_callB (len_k K) (by rfl) (T.free 1) PySem.boot_len (pa_cons (pv 0) pa_nil)) pe_int) pa_nil))) pa_nil))))))
      (pss_cons (ps_set (i := 3) sc_law.nd rfl (Or.inl rfl) (pe_ix (ix_l K) (pe_lst (pa_cons pe_int (pa_cons pe_int (pa_cons pe_int (pa_cons pe_int (pa_cons pe_int (pa_cons pe_int (pa_cons pe_int (pa_cons pe_int (pa_cons pe_int (pa_cons pe_int pa_nil))))))))))) (pe_c (c_law_mixed T) hr pz (pa_cons (pv 2) (pa_cons pe_int (pa_cons pe_int pa_nil)))) (fun _ _ => rfl)))
      (Evl.pss_cut (ps_if (pt_cmpR op_lt (pv 3) pe_int (nomark _))
        (pss_cons (ps_set (i := 1) sc_law.nd rfl (Or.inl rfl) (pe_c (c_law_spoilt T) hr pz (pa_cons (pv 1) (pa_cons (pv 2) (pa_cons (pv 3) pa_nil)))))
        (pss_one (ps_if (pt_cmpR op_eq (pe_c (c_law_mixed T) hr pz (pa_cons (pv 2) (pa_cons pe_int (pa_cons pe_int pa_nil)))) pe_int (nomark _))
          (pss_one (ps_set (i := 1) sc_law.nd rfl (Or.inl rfl) (pe_c (c_law_spoilt T) hr pz (pa_cons (pv 1) (pa_cons (pe_op op_add (pv 2) pe_int) (pa_cons (pe_ix (ix_l K) (pe_lst (pa_cons pe_int (pa_cons pe_int (pa_cons pe_int (pa_cons pe_int (pa_cons pe_int (pa_cons pe_int pa_nil))))))) (pe_c (c_law_mixed T) hr pz (pa_cons (pv 2) (pa_cons pe_int (pa_cons pe_int pa_nil)))) (fun _ _ => rfl)) pa_nil))))))
          pss_nil)))
        pss_nil)
      (pss_cons (ps_set (i := 4) sc_law.nd rfl (Or.inl rfl) (pe_c (c_law_due T) hr pz (pa_cons (pv 1) pa_nil)))
      (pss_cons (ps_set (i := 5) sc_law.nd rfl (Or.inl rfl) (pe_c (c_law_read T) hr pz (pa_cons (pv 1) pa_nil)))
      (pss_cons (ps_if (pt_cmpR op_ne (pe_ix (ix_l K) (pv 4) pe_int (fun _ _ => rfl)) (pe_ix (ix_l K) (pv 5) pe_int (fun _ _ => rfl)) (nomark _))
        (pss_one (ps_ret pe_bl))
        pss_nil)
      (pss_cons (ps_if (pt_cmpR op_ne (pe_ix (ix_l K) (pv 4) pe_int (fun _ _ => rfl)) pe_str (nomark _))
        (pss_one (ps_ret pe_bl))
        pss_nil)
      (pss_cons (ps_set (i := 6) sc_law.nd rfl (Or.inl rfl) (pe_ix (ix_l K) (pv 5) pe_int (fun _ _ => rfl)))
      (pss_cons (ps_if (PW.pt (pw_or (pt_cmpR (neD_k K hr.units) (pe_m0 (m_Train_size T) hr pz (pv 6)) (pe_tup (pa_cons (pe_ix (ix_l K) (pe_ix (ix_l K) (pv 4) pe_int (fun _ _ => rfl)) pe_int (fun _ _ => rfl)) (pa_cons (pe_ix (ix_l K) (pe_ix (ix_l K) (pv 4) pe_int (fun _ _ => rfl)) pe_int (fun _ _ => rfl)) pa_nil))) (nomark _)) (pw_or1 (pt_not (pt_val (pe_c (c_law_numbers T) hr pz (pa_cons (pe_m0 (m_Train_tickets T) hr pz (pv 6)) (pa_cons (pe_ix (ix_l K) (pv 4) pe_int (fun _ _ => rfl)) pa_nil))))))))
        (pss_one (ps_ret pe_bl))
        pss_nil)
      (pss_cons (ps_for (passes_of rfl) rfl (pi_range1 (by rfl) (T.free 2) (pa_cons (pe_callB (len_k K) (by rfl) (T.free 1) PySem.boot_len (pa_cons (pe_ix (ix_l K) (pv 4) pe_int (fun _ _ => rfl)) pa_nil)) pa_nil)) (pg_name (i := 7) sc_law.nd rfl (Or.inl rfl))
        (pss_one (ps_if (pt_not (pt_val (pe_c (c_law_rows T) hr pz (pa_cons (pe_m (m_Train_parts T) hr pz (pv 6) (pa_cons (pe_ix (ix_l K) (pe_ix (ix_l K) (pv 4) pe_int (fun _ _ => rfl)) (pv 7) (fun _ _ => rfl)) pa_nil)) (pa_cons (pe_ix (ix_l K) (pe_ix (ix_l K) (pv 4) pe_int (fun _ _ => rfl)) (pv 7) (fun _ _ => rfl)) pa_nil)))))
          (pss_one (ps_ret pe_bl))
          pss_nil)))
      (pss_cons (ps_if (pt_cmpR op_ne (pe_c (c_written T) hr pz (pa_cons (pv 6) pa_nil)) (pv 1) (nomark _))
        (pss_one (ps_ret pe_bl))
        pss_nil)
      (pss_cons (ps_set (i := 8) sc_law.nd rfl (Or.inl rfl) (pe_c (c_law_word T) hr pz (pa_cons (pv 6) (pa_cons (pe_tup (pa_cons pe_str (pa_cons pe_int (pa_cons (pe_op op_sub (pe_ix (ix_l K) (pe_ix (ix_l K) (pv 4) pe_int (fun _ _ => rfl)) pe_int (fun _ _ => rfl)) pe_int) pa_nil)))) pa_nil))))
      (pss_one (ps_ret (pe_or (pe_cmpR op_eq (pe_ix (ix_t K) (pv 8) pe_int (fun _ _ => rfl)) pe_str (nomark _)) (pe_one (pe_and (pe_cmpR op_eq (pe_ix (ix_t K) (pv 8) pe_int (fun _ _ => rfl)) pe_str (nomark _)) (pe_and (pe_c (c_law_whole T) hr pz (pa_cons (pe_ix (ix_t K) (pv 8) pe_int (fun _ _ => rfl)) pa_nil)) (pe_one (pe_cmpR op_eq (pe_ix (ix_t K) (pv 8) pe_int (fun _ _ => rfl)) (pe_ix (ix_l K) (pe_ix (ix_l K) (pv 4) pe_int (fun _ _ => rfl)) pe_int (fun _ _ => rfl)) (nomark _))))))))))))))))))))))), ?_⟩
    obtain ⟨sa, ns, rfl, hS, hlen, q⟩ := h
    (repeat fail "s")
    refine ⟨sa, ns, rfl, hS, hlen, fun H1 S p so lr T1 P1 hco nso hso oso nlr hlr olr => ?_⟩
    have G1 := P1.good
    have hmany := G1.many
    have tl := textT_len G1 hco
    have A1 := P1.tr
    have e1 := P1.ex
    (repeat fail "s")
    refine ⟨S, p, T1, rfl, A1, G1, by omega, by omega, by omega, fun H2 e2 => ?_⟩
    have x2 := e1.trans e2
    clear e1 e2 hlr hso P1 A1
    have hS2 := sqL_ex hS x2
    (repeat fail "s")
    refine s_cut (fun σ' H' => ∃ z : Str, σ' = [some (.ref sa), some (.str z), none, none, none, none, none, none, none] ∧ Ex H H' ∧ 2 ≤ z.length ∧ z.length ≤ 1900000) ?_ ?_
    · (repeat fail "s")
      refine iteD (fun h => ?_) (fun h => ?_)
      · (repeat fail "s")
        refine ⟨_, rfl, fun z H3 e3 l1 l2 => ?_⟩
        exact ⟨z, rfl, x2.trans e3, l1, l2⟩
      · (repeat fail "s")
        exact ⟨_, rfl, x2, tl.1, tl.2⟩
    rintro σ' H3 ⟨z, rfl, x3, z1, z2⟩
    clear x2 hS2 tl
    have hS3 := sqL_ex hS x3
    (repeat fail "s")
    refine ⟨0, _, rfl, ?_⟩
    obtain ⟨kk, hkk, _⟩ := max_nat (i := ((ns.map V.int).length : Int) - 1) (b := 63) (by rw [List.length_map]; omega)
    rw [hkk]
    (repeat fail "s")
    rename_i lw H4 nlw e4 hlw iw H5 hiw e5
    refine v_ixM (e5 _ _ hlw) ⟨by omega, hiw⟩ fun y my => ?_
    obtain ⟨w, rfl, bw⟩ : ∃ w : Nat, y = .int (w : Int) ∧ w ≤ 6 := by
      simp only [List.mem_cons, List.not_mem_nil, or_false] at my
      rcases my with rfl | rfl | rfl | rfl | rfl | rfl | rfl | rfl | rfl | rfl
      · exact ⟨0, rfl, by omega⟩
      · exact ⟨1, rfl, by omega⟩
      · exact ⟨2, rfl, by omega⟩
      · exact ⟨2, rfl, by omega⟩
      · exact ⟨2, rfl, by omega⟩
      · exact ⟨3, rfl, by omega⟩
      · exact ⟨4, rfl, by omega⟩
      · exact ⟨5, rfl, by omega⟩
      · exact ⟨5, rfl, by omega⟩
      · exact ⟨6, rfl, by omega⟩
    have x5 := x3.trans (e4.trans e5)
    generalize cellAt ns (1 : Int).toNat + 3 * cellAt ns (0 : Int).toNat + 5 * cellAt ns ((kk : Int)).toNat = c
    clear e4 e5 hlw hiw my hkk hS3 x3
    (repeat fail "s")
    refine s_cut (fun σ' H' => ∃ z : Str, σ' = [some (.ref sa), some (.str z), some (.int c), some (.int (w : Int)), none, none, none, none, none] ∧ Ex H H' ∧ z.length ≤ 9000000) ?_ ?_
    · (repeat fail "s")
      refine iteD (fun h => ?_) (fun h => ?_)
      rotate_left
      · (repeat fail "s")
        exact ⟨z, rfl, x5, by omega⟩
      (repeat fail "s")
      refine ⟨z, c, (w : Int), rfl, by omega, by omega, by omega, by omega, fun _ => by omega, fun z' H6 e6 l1 l2 => ?_⟩
      have x6 := x5.trans e6
      clear e6 x5
      (repeat fail "s")
      rename_i v H7 hv e7
      have x7 := x6.trans e7
      clear e7 x6
      refine iteD (fun h2 => ?_) (fun h2 => ?_)
      rotate_left
      · (repeat fail "s")
        exact ⟨z', rfl, x7, by omega⟩
      (repeat fail "s")
      rename_i l8 H8 n8 e8 h8 i9 H9 hi9 e9
      refine v_ixM (e9 _ _ h8) ⟨by omega, hi9⟩ fun y my => ?_
      obtain ⟨w2, rfl, bw2, bw3⟩ : ∃ w : Nat, y = .int (w : Int) ∧ 1 ≤ w ∧ w ≤ 5 := by
        simp only [List.mem_cons, List.not_mem_nil, or_false] at my
        rcases my with rfl | rfl | rfl | rfl | rfl | rfl
        · exact ⟨2, rfl, by omega, by omega⟩
        · exact ⟨2, rfl, by omega, by omega⟩
        · exact ⟨2, rfl, by omega, by omega⟩
        · exact ⟨4, rfl, by omega, by omega⟩
        · exact ⟨5, rfl, by omega, by omega⟩
        · exact ⟨1, rfl, by omega, by omega⟩
      have x9 := x7.trans (e8.trans e9)
      clear e8 e9 h8 hi9 my x7
      (repeat fail "s")
      refine ⟨z', c + 7, (w2 : Int), rfl, l1, by omega, by omega, by omega, fun h => absurd h (by omega), fun z2 H10 e10 m1 m2 => ?_⟩
      exact ⟨z2, rfl, x9.trans e10, by omega⟩
    clear x5 z1 z2
    rintro σ' H6 ⟨z, rfl, x6, hz⟩
    (repeat fail "s")
    refine ⟨z, rfl, hz, fun hw H7 l xs e7 hl => ?_, fun hw H7 l f hd tk ls e7 hl hhd htk hf hP => ?_⟩
    · (repeat fail "s")
      refine ⟨z, rfl, hz, fun h => absurd h hw, fun _ H8 l8 e8 hl8 => ?_⟩
      have hl9 := e8 _ _ hl
      clear e8 hl e7
      (repeat fail "s")
      refine v_ixL (SqL.of hl9) (at_of (j := 0) rfl rfl) ?_
      (repeat fail "s")
      refine v_ixL (SqL.of hl9) (at_of (j := 0) rfl rfl) ?_
      (repeat fail "s")
      exact q _
    obtain ⟨_, _, h0, h1, h2, ts, _, _, _, _, g5, g6, g7, g8, _, _, ok⟩ := readT_ok hw
    have few := readT_few hw hz
    obtain ⟨T0, hT0⟩ : ∃ T0, T0 = (readT z).2 := ⟨_, rfl⟩
    rw [← hT0] at hhd htk hP ok few
    have hhd : H7 hd = some (.lst [.int (T0.rows.length : Int), .int (T0.stops : Int), .int (T0.coming : Int)]) := hhd
    have G := ok.good
    have wf := G.wf
    have w3 := wf.t1
    have w4 := wf.t2
    have hlt := ok.lt
    have hkl := keys_len T0
    have lmk : ((keys T0).map V.int).length = T0.sold.length := by rw [List.length_map, hkl]
    (repeat fail "s")
    refine ⟨z, rfl, hz, fun _ H8 S8 p8 l8 P8 hl8 => ?_, fun h => absurd hw h⟩
    rw [← hT0] at P8
    have x8 := P8.ex
    have hl9 := x8 _ _ hl
    have hhd9 := x8 _ _ hhd
    have htk9 := x8 _ _ htk
    have hf9 := x8 _ _ hf
    have hP9 : All2 (PartsAt H8) ls (T0.sold.map (·.2)) := hP.mono fun _ _ h => PartsAt.mono x8 h
    have oS : ∀ a o, H7 a = some o → ¬ S8 a := fun a o h m => by
      have := P8.fresh a m
      rw [h] at this
      cases this
    have ol := oS _ _ hl
    have ohd := oS _ _ hhd
    have A8 := P8.tr
    clear hl hhd htk hf hP x8 e7
    (repeat fail "s")
    rename_i t9 H9 nt9 e9 ht9 u10 H10 nu10 e10 hu10
    refine v_neTs (xs := [(T0.rows.length : Int), (T0.stops : Int)]) (ys := [(T0.rows.length : Int), (T0.stops : Int)]) (e10 _ _ ht9) hu10 ?_
    rw [show decide (([(T0.rows.length : Int), (T0.stops : Int)] : List Int) = [(T0.rows.length : Int), (T0.stops : Int)]) = true from decide_eq_true rfl]
    have e810 := e9.trans e10
    have hl10 := e810 _ _ hl9
    have hhd10 := e810 _ _ hhd9
    have htk10 := e810 _ _ htk9
    have hf10 := e810 _ _ hf9
    have hP10 : All2 (PartsAt H10) ls (T0.sold.map (·.2)) := hP9.mono fun _ _ h => PartsAt.mono e810 h
    have A10 := A8.ex e810
    clear hl9 hhd9 htk9 hf9 hP9 A8 e9 e10 e810 ht9 hu10
    (repeat fail "s")
    rename_i tk2 H11 ntk2 e11 htk2
    have hl11 := e11 _ _ hl10
    have hhd11 := e11 _ _ hhd10
    have htk11 := e11 _ _ htk10
    have hf11 := e11 _ _ hf10
    have hP11 : All2 (PartsAt H11) ls (T0.sold.map (·.2)) := hP10.mono fun _ _ h => PartsAt.mono e11 h
    have A11 := A10.ex e11
    clear hl10 hhd10 htk10 hf10 hP10 A10 e11 htk2
    refine fr_range (n := ((keys T0).map V.int).length) (fun i σ H' => ∃ v7, σ = [some (.ref sa), some (.str z), some (.int c), some (.int (w : Int)), some (.ref l), some (.ref l8), some (.ref p8), v7, none] ∧ Ex H11 H') ⟨_, rfl, Evl.Ex.refl _⟩ ?_ ?_
    · rintro i σ H12 hi ⟨v7, rfl, e12⟩
      rw [lmk] at hi
      have hxi := List.getElem?_eq_getElem hi
      have mx := List.getElem_mem hi
      obtain ⟨x, hx⟩ : ∃ x, x = T0.sold[i] := ⟨_, rfl⟩
      rw [← hx] at hxi mx
      clear hx
      have hki : (keys T0)[i]? = some (x.1 : Int) := map_get hxi
      have hg := getS_of wf.rising mx
      have hxl := G.len mx
      obtain ⟨li, hli, hPi⟩ := hP11.right (map_get (f := fun x => x.2) hxi)
      have hl12 := e12 _ _ hl11
      have htk12 := e12 _ _ htk11
      have hf12 := e12 _ _ hf11
      have hP12 : PartsAt H12 li x.2 := PartsAt.mono e12 hPi
      have A12 := A11.ex e12
      have hlr : (ls.map V.ref)[i]? = some (.ref li) := map_get hli
      (repeat fail "s")
      rename_i l13 H13 n13 e13 h13 H14 e14
      exact ⟨_, rfl, e12.trans (e13.trans e14)⟩
    rintro σ H12 ⟨v7, rfl, e12⟩
    have hl12 := e12 _ _ hl11
    have hhd12 := e12 _ _ hhd11
    have A12 := A11.ex e12
    clear hl11 hhd11 A11 e12 hf11 hP11 htk11
    (repeat fail "s")
    refine ⟨S8, p8, T0, rfl, A12, G, hlt, few, by rw [ok.text]; exact hz, fun H13 e13 => ?_⟩
    rw [ok.text]
    have hl13 := e13 _ _ hl12
    have hhd13 := e13 _ _ hhd12
    have A13 := A12.ex e13
    clear hl12 hhd12 A12 e13
    (repeat fail "s")
    rename_i d H14 nd e14 hd14
    have hl14 := e14 _ _ hl13
    have hhd14 := e14 _ _ hhd13
    have A14 := A13.ex e14
    clear hl13 hhd13 A13 e14
    have hd14 : DeedAt H14 d ⟨.sell, 0, (T0.stops : Int) - 1⟩ := hd14
    refine ⟨S8, p8, T0, d, ⟨.sell, 0, (T0.stops : Int) - 1⟩, rfl, A14, G, ⟨few, fun h => absurd rfl h⟩, hd14, fun H15 S' t v mv A' hwd rv => ?_⟩
    have hl15 := mv.keep _ _ ol hl14
    have hhd15 := mv.keep _ _ ohd hhd14
    clear hl14 hhd14 A14 mv
    have hs : Str3 T0 0 ((T0.stops : Int) - 1) := ⟨by omega, by omega, by omega⟩
    by_cases hff : firstFull T0.rows (0 : Int).toNat ((T0.stops : Int) - 1).toNat = none
    · have hrun : T0.run ⟨.sell, 0, (T0.stops : Int) - 1⟩ = ⟨"", .num T0.coming, T0.sell (0 : Int).toNat ((T0.stops : Int) - 1).toNat⟩ := by
        show runSell T0 0 ((T0.stops : Int) - 1) = _
        unfold runSell
        rw [if_pos hs, if_pos hff]
      rw [hrun] at hwd rv
      have rv : v = .int (T0.coming : Int) := rv
      subst rv
      have hwd : H15 t = some (.tup [.str "", .int (T0.coming : Int)]) := hwd
      clear A'
      (repeat fail "s")
      rw [show decide ((T0.coming : Int) = (T0.coming : Int)) = true from decide_eq_true rfl]
      exact q _
    · have hrun : T0.run ⟨.sell, 0, (T0.stops : Int) - 1⟩ = ⟨"full", .non, T0⟩ := by
        show runSell T0 0 ((T0.stops : Int) - 1) = _
        unfold runSell
        rw [if_pos hs, if_neg hff]
      rw [hrun] at hwd rv
      have hwd : H15 t = some (.tup [.str "full", v]) := hwd
      clear A'
      (repeat fail "s")
      exact q _
end

abbrev RR : PySem.W.OpenRow := PySem.W.OpenLaw.row PySem.Challenge.rw_legseats_k13_read_or_refused
abbrev hkL : PySem.W.Hook := He.hookX 5 faL fnL [] [] exL
def obL (s : PySem.W.SharedT) : He.AlX := He.obsX 5 faL fnL [] [] exL (HandSHeadRun.getT s)
theorem obL_eq (s : PySem.W.SharedT) : obL s = hkL.obs s.abs := He.obsX_eq (HandSHeadRun.getT_eq s)
def namesL : List Str := (["_wall", "SeatError", "NoTrain", "NoStretch", "NoSeat", "NoStop", "NoLeg", "NoTicket", "Full", "Shared", "NoText", "reach", "best_seat", "found_parts", "first_full", "MOST_SEATS", "MOST_STOPS", "Train", "FIGURES", "MANY_FIGURES", "written", "number", "numbers_of", "parts_of", "read", "_law_cell_at", "_law_whole", "_law_mixed", "_law_seats", "_law_stops"] : List Str) ++ (["_law_stretch_by", "_law_deed_by", "_law_laid", "_law_cells", "_law_class", "_law_told", "_law_word", "_law_rows", "_law_numbers", "_law_run", "_law_sign_by", "_law_odd_row", "_law_figures", "_law_changing", "_law_figure_spoilt", "_law_spoilt", "_law_numbers_of", "_law_part_word", "_law_looked_at", "_law_due", "_law_read"] : List Str)
set_option maxHeartbeats 0 in
theorem runL (w : World) : HandSHeadRun.RunEq RR (PySem.W.view RR.prog [56]) hkL obL 20000 namesL w := by
  intro os
  kernel_rfl
theorem factsL {P : Program} {w : World} {K : PySem.W.Frag} {h : Heap} {mg : Str → Option Value} {f : Addr} (X : K.In h) (G : h.Ns mainGlobals mg) (hfa : mg ("law" : Str) = some (.ref f)) (c : He.SaysX faL fnL [] [] exL w h K) :
    ∃ fd : FuncData, (∀ (s : Shared) (v : Value), BindsTo s fd ⟨[v], []⟩ [("_law_script", v)]) ∧ ∀ base : Heap, K.In base → base.Ns mainGlobals mg → FnOk P w K mg base CX0 9 f fd ["_law_script"] (fun vs H Q _ => spLaw K vs H Q E0) := by
  have T : Tx K mg := ⟨c.t.d, c.more, h, X, G⟩
  obtain ⟨fd, F⟩ := T.c.def_ 50 rfl
  have e := hfa.symm.trans (T.glo 100 rfl)
  cases e
  have b := FunD.bindsA (ps := ["_law_script"]) F fun _ _ _ _ _ _ us hl => match us, hl with | [_], _ => rfl
  exact ⟨fd, fun s v => b s [v] rfl, fun base _ _ => fn_zero (f_law T F)⟩
end Lg.K13
open PySem PySem.W PySem.Calls PyProof.Rows in
set_option maxRecDepth 100000 in
set_option maxHeartbeats 0 in
theorem PySem.Challenge.cw_legseats_k13_read_or_refused_holds : PySem.Challenge.rw_legseats_k13_read_or_refused.Holds := by
  w_on; o_law
  refine HandSHeadRun.head_any (r := OpenLaw.row PySem.Challenge.rw_legseats_k13_read_or_refused) (q := view (OpenLaw.row PySem.Challenge.rw_legseats_k13_read_or_refused).prog [56]) (H := Lg.K13.hkL) (ob := Lg.K13.obL) (M := 20000) (loose := Lg.K13.namesL)
    (d := HandSHeadRun.topDef (OpenLaw.row PySem.Challenge.rw_legseats_k13_read_or_refused).prog 56) (kwd := []) Lg.K13.obL_eq
    (by kernel_rfl) (fun s => by kernel_rfl) Lg.K13.runL (by kernel_rfl) (by kernel_rfl) (by kernel_rfl) (by rfl) (by first | assumption | decide +kernel) (by decide +kernel) ⟨rfl, rfl, rfl, rfl, rfl, by decide +kernel⟩ ?hw ?hc
  case hw => w_witness2
  case hc =>
    refine L2.walk_ofE (l := PySem.Challenge.rw_legseats_k13_read_or_refused) (n := 63) (k := 9) (x := "_law_script") (CX := L2.CX0) rfl (by decide) (by kernel_rfl) ⟨rfl, by decide, by decide⟩ ?F (fun _ _ _ _ z => z)
    intro w mg fa h Y G hmg0
    obtain ⟨K, KX, c⟩ := Y
    have hmg : mg ("law" : PySem.Str) = some (.ref fa) := by
      have e : (HandSHeadRun.topDef (OpenLaw.row PySem.Challenge.rw_legseats_k13_read_or_refused).prog 56).name = ("law" : PySem.Str) := by kernel_rfl
      rw [← e]
      exact hmg0
    obtain ⟨fd, hb, hF⟩ := Lg.K13.factsL (P := (PySem.Challenge.rw_legseats_k13_read_or_refused).prog) (w := w) KX G hmg c
    exact ⟨K, fd, fun vs H Q _ => Lg.spLaw K vs H Q L2.E0, KX, hb, fun H a ns hl _ hS => ⟨a, ns, rfl, hS, hl, fun _ => rfl⟩, hF⟩
