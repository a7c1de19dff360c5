import PyProof.Rows.All
import Wide.All
import OpenK.AllK
import Wide.FinOn
import HandS.ForMost
import HandS.Exc
import HandS.ExcOwn
import HandS.ExcIs
import HandS.TryOnly
import HandS.WordsExc
import HandS.HotCalls
import HandS.IsInst
import HandS.Remove
import HandS.SortInts
import HandS.SortRule
import HandS.Flow
import HandS.Style
import HandS.Evl
import HandS.Walk
import HandS.Steps
import HandS.StrMore
import HandS.Defaults
import HandS.Conv
import HandS.HeadHook4
import HandS.HeadEnd
import HandS.HeadWalk
import HandS.Head0
import HandS.Head1
import HandS.Head2
import PySem.Challenge.RW_legseats_k12_written_and_read
set_option Elab.async false
set_option linter.all false
set_option maxRecDepth 100000
set_option maxHeartbeats 4000000
namespace Lg
open PySem PySem.Spec PyProof.Rows L2

/-! ### a < b < c < d as a test -/
section
variable {X : Cx}
def tChain3 (r1 r2 r3 : R2) (ta tb tc td : TE) : TT := fun σ H Q =>
  ta σ H fun x H1 => tb σ H1 fun y H2 => r1 x y H2 fun z1 H3 => ∃ k1, z1 = .bl k1 ∧
    (if k1 = true then tc σ H3 fun u H4 => r2 y u H4 fun z2 H5 => ∃ k2, z2 = .bl k2 ∧
      (if k2 = true then td σ H5 fun v H6 => r3 u v H6 fun z3 H7 => ∃ k3, z3 = .bl k3 ∧ Q k3 H7 else Q false H5)
    else Q false H3)
theorem pt_chain3 {o1 o2 o3 : CmpOp} {r1 r2 r3 : R2} {a b c d : Expr} {ta tb tc td : TE} {pos : Pos}
    (h1 : OpR X (compareOp o1) r1) (h2 : OpR X (compareOp o2) r2) (h3 : OpR X (compareOp o3) r3)
    (pa : PE X a ta) (pb : PE X b tb) (pc : PE X c tc) (pd : PE X d td)
    (hm : lastMarks [o1, o2, o3] [b, c, d] = false := by with_unfolding_all rfl) :
    PT X (.Compare a [o1, o2, o3] [b, c, d] pos) (tChain3 r1 r2 r3 ta tb tc td) := by
  refine ⟨fun pins s σ H Q I h => ?_⟩
  refine isTrue_chain (thn (pa.run pins s σ H _ I h) fun va sa ⟨x, HA, IA, ra, qa⟩ =>
    test_link (thn (pb.run pins sa σ HA _ IA qa) fun vb sb ⟨y, HB, IB, rb, qb⟩ =>
      thn (h1 pins sb σ HB x y va vb _ IB ra rb qb) fun vd sd ⟨z, HD, ID, rd, k, e, qd⟩ => ?_)) hm
  subst e
  cases rd
  refine wpAny_truthy_bool ?_
  cases k with
  | false => exact ite_ff ⟨HD, ID, qd⟩
  | true =>
    refine ite_tt (test_link (thn (pc.run pins sd σ HD _ ID qd) fun vc sc ⟨u, HC, IC, rc, qc⟩ =>
      thn (h2 pins sc σ HC y u vb vc _ IC rb rc qc) fun ve se ⟨z2, HE, IE, re, k2, e2, qe⟩ => ?_))
    subst e2
    cases re
    refine wpAny_truthy_bool ?_
    cases k2 with
    | false => exact ite_ff ⟨HE, IE, qe⟩
    | true =>
      refine ite_tt (test_last (thn (pd.run pins se σ HE _ IE qe) fun vf sf ⟨v, HF, IF, rf, qf⟩ =>
        thn (h3 pins sf σ HF u v vc vf _ IF rc rf qf) fun vg sg ⟨z3, HG, IG, rg, k3, e3, qg⟩ => ?_))
      subst e3
      cases rg
      exact wpAny_truthy_bool ⟨HG, IG, qg⟩
end

/-! ### defs that may be called: all of them over CX -/
section
variable (P : Program) (w : World) (K : PySem.W.Frag) (mg : Str → Option Value) (base : Heap)
structure Cal (k : Nat) (x : Str) (sp : Sp) : Prop where
  ex : ∃ (f : Addr) (fd : FuncData) (ps : List Str), FnOk P w K mg base (L2.CX P w) k f fd ps sp ∧ mg x = some (.ref f) ∧ PySem.W.keepIn K (.ref f) = true ∧ Binds K fd ps []
structure Met (k : Nat) (C : Addr) (m : Str) (sp : Sp) : Prop where
  ex : ∃ (f : Addr) (fd : FuncData) (ps : List Str), Cls K C ∧ Meth K C m f ∧ FnOk P w K mg base (L2.CX P w) k f fd ps sp ∧ Binds K fd ps []
structure Mak (k : Nat) (x : Str) (C : Addr) (sp : Sp) : Prop where
  ex : ∃ (f : Addr) (fd : FuncData) (ps : List Str), Mk K C f ∧ FnOk P w K mg base (L2.CX P w) k f fd ps sp ∧ mg x = some (.ref C) ∧ Binds K fd ps []
end
/-- nothing leaves -/
abbrev EZ : L2.St → XK := fun _ _ _ _ => False
section
variable {X : Cx} {W : WX}
theorem pz : ∀ σ, PassesAt (L2.CX X.prog X.w) X σ (EZ σ) := fun _ _ _ _ _ _ _ h => by
  obtain ⟨_, _, _, _, _, _, _, _, _, _, _, _, z⟩ := h
  exact z.elim
theorem pr (tk : Takes X W) : ∀ σ, PassesAt (L2.CX X.prog X.w) X σ (WE W σ) := fun σ => passAt tk σ
end
section
variable {X : Cx} {k j : Nat} {C : Addr} {x m : Str} {sp : Sp} {p pos apos : Pos} {e o : Expr} {es : List Expr} {ta : TE} {t : TA} {E : L2.St → XK}
theorem pe_c (c : Cal X.prog X.w X.K X.mg X.base k x sp) (hr : Room j X.A) (hx : ∀ σ, PassesAt (L2.CX X.prog X.w) X σ (E σ)) (ha : PA X (e :: es) t) (hk : k ≤ j := by decide) (hg : Gl X x := by rfl)
    (hdb : (x == ("__debug__" : Str)) = false := by decide) (he : starEach (e :: es) X.env = (false, eval e X.env) :: starEach es X.env := by rfl) (hpl : (backTo pos (starEach es X.env)).any (·.1) = false := by rfl) :
    PE X (.Call (.Name x p) (e :: es) [] pos) (tCallS sp E t) := by
  obtain ⟨f, fd, ps, F, hm, kp, b⟩ := c.ex
  exact pe_callS F (hr.mono hk) hg hm kp b hx ha hdb he hpl
def tMethS (C : Addr) (m : Str) (sp : Sp) (E : L2.St → XK) (ta : TE) (t : TA) : TE := fun σ H Q =>
  ta σ H fun x H1 => ∃ a dx fs, x = .ref a ∧ H1 a = some (.ins C dx fs) ∧ fs.lookup m = none ∧ t σ H1 fun vs H2 => sp (x :: vs) H2 Q (E σ)
theorem pe_m {pl : Sem Bool} (c : Met X.prog X.w X.K X.mg X.base k C m sp) (hr : Room j X.A) (hx : ∀ σ, PassesAt (L2.CX X.prog X.w) X σ (E σ)) (he : PE X o ta) (ha : PA X (e :: es) t) (hk : k ≤ j := by decide)
    (hst : starEach (e :: es) X.env = (false, eval e X.env) :: starEach es X.env := by rfl) (hpl : (backTo pos (starEach es X.env)).any (·.1) = false := by rfl)
    (ht : eval (.Call (.Attribute o m apos) (e :: es) [] pos) X.env = (do
      let ov ← eval o X.env
      standAt apos.atName
      let (f, first) ← holding [ov] (getMethod ov m pl)
      callWith pos f first (backTo pos (starEach (e :: es) X.env)) (backToKw pos (keywordEach [] X.env))) := by rfl) :
    PE X (.Call (.Attribute o m apos) (e :: es) [] pos) (tMethS C m sp E ta t) := by
  obtain ⟨f, fd, ps, hc, hm, F, b⟩ := c.ex
  refine ⟨fun pins s σ H Q I h => ?_⟩
  refine PySem.W.methodCall_KW (pl := pl) (thn (he.run pins s σ H _ I h) fun u s1 ⟨y, H1, I1, ry, a, dx, fs, ey, ea, l, q⟩ => ?_) ht
  subst ey
  obtain rfl : u = Value.ref a := ry
  refine getmeth_ok I1 ea hc hm l ?_
  refine PySem.W.callWith_K (first := [.ref a]) (h₀ := X.base) I.ok.mod.kin hm.kp
    (thn (ha.run pos pins s1 σ H1 _ I1 q) fun us s2 ⟨vs, H2, I2, r, q2⟩ => ⟨I2.kIn, ?_⟩) hst hpl
  exact run_fnS (us := .ref a :: us) (vs := .ref a :: vs) F (hr.mono hk) b (hx σ) I2 (.cons rfl r) q2
theorem pe_m0 {pl : Sem Bool} (c : Met X.prog X.w X.K X.mg X.base k C m sp) (hr : Room j X.A) (hx : ∀ σ, PassesAt (L2.CX X.prog X.w) X σ (E σ)) (he : PE X o ta) (hk : k ≤ j := by decide)
    (ht : eval (.Call (.Attribute o m apos) [] [] pos) X.env = (do
      let ov ← eval o X.env
      standAt apos.atName
      let (f, first) ← holding [ov] (getMethod ov m pl)
      callWith pos f first (backTo pos (starEach [] X.env)) (backToKw pos (keywordEach [] X.env))) := by rfl) :
    PE X (.Call (.Attribute o m apos) [] [] pos) (tMethS C m sp E ta tNil) := by
  obtain ⟨f, fd, ps, hc, hm, F, b⟩ := c.ex
  refine ⟨fun pins s σ H Q I h => ?_⟩
  refine PySem.W.methodCall_KW (pl := pl) (thn (he.run pins s σ H _ I h) fun u s1 ⟨y, H1, I1, ry, a, dx, fs, ey, ea, l, q⟩ => ?_) ht
  subst ey
  obtain rfl : u = Value.ref a := ry
  refine getmeth_ok I1 ea hc hm l ?_
  exact PySem.W.callWith_K0 (first := [.ref a]) I1.kIn hm.kp (run_fnS (us := [.ref a]) (vs := [.ref a]) F (hr.mono hk) b (hx σ) I1 (.cons rfl .nil) q)
def tMakeS (C : Addr) (sp : Sp) (E : L2.St → XK) (t : TA) : TE := fun σ H Q => t σ H fun vs H1 => ∀ x dx, H1 x = none → H1 dx = none → dx ≠ x →
  sp (.ref x :: vs) (upd (upd H1 dx (.own x)) x (.ins C dx [])) (fun v H2 => v = .non ∧ Q (.ref x) H2) (E σ)
theorem pe_k (c : Mak X.prog X.w X.K X.mg X.base k x C sp) (hr : Room j X.A) (hx : ∀ σ, PassesAt (L2.CX X.prog X.w) X σ (E σ)) (ha : PA X (e :: es) t) (hk : k + 1 ≤ j := by decide) (hg : Gl X x := by rfl)
    (hdb : (x == ("__debug__" : Str)) = false := by decide) (he : starEach (e :: es) X.env = (false, eval e X.env) :: starEach es X.env := by rfl) (hpl : (backTo pos (starEach es X.env)).any (·.1) = false := by rfl) :
    PE X (.Call (.Name x p) (e :: es) [] pos) (tMakeS C sp E t) := by
  obtain ⟨f, fd, ps, M, F, hm, b⟩ := c.ex
  refine ⟨fun pins s σ H Q I h => ?_⟩
  refine wpAny_Call_Name_kw (ld_glob I hg hm ?_ hdb)
  refine PySem.W.callWith_K (h₀ := X.base) I.ok.mod.kin M.kp (thn (ha.run pos pins s σ H _ I h) fun us s1 ⟨vs, H1, I1, r, q⟩ => ⟨I1.kIn, ?_⟩) he hpl
  have q2 := q (s1.heap.objs.size + 1) s1.heap.objs.size (I1.hok.fresh (Nat.le_succ _)) (I1.hok.fresh (Nat.le_refl _)) (Nat.ne_of_lt (Nat.lt_succ_self _))
  have I2 := Inv.made (C := C) I1
  have r2 : Vals (V.ref (s1.heap.objs.size + 1) :: vs) (Value.ref (s1.heap.objs.size + 1) :: us) := .cons rfl r
  have hl : (Value.ref (s1.heap.objs.size + 1) :: us).length = ps.length := by
    rw [← r2.length]
    exact F.len _ _ _ _ q2
  have b2 := b _ (Value.ref (s1.heap.objs.size + 1) :: us) I2.kIn (by rw [List.append_nil]; exact hl)
  rw [List.append_nil] at b2
  refine wpAny_call (make_map (f := f) I1.kIn M.makes M.init (beq_iff_eq.mp M.fn)
    (codeAny_mono (F.run _ X.stack _ _ ⟨Value.ref (s1.heap.objs.size + 1) :: us, []⟩ _ _ _ (E σ) ((hr.mono hk).make C us []) (I2.env0.make C us []) b2 r2 q2) fun res s' hq => ?_))
  cases res with
  | error err => exact hx σ pins _ _ err s' I2 hq
  | ok fl =>
    cases fl with
    | ret u =>
      obtain ⟨v, H', I3, rv, ev, q3⟩ := I2.after hq
      subst ev
      exact ⟨rv, ⟨V.ref (s1.heap.objs.size + 1), H', I3, rfl, q3⟩⟩
    | next => exact False.elim hq
    | brk => exact False.elim hq
    | cont => exact False.elim hq
end

/-! ### what the top has written: by the head's facts -/
structure Txt (fa : List He.Fa) (fn : List He.DefD) (ex : PySem.W.Frag → Bool) (K : PySem.W.Frag) (mg : Str → Option Value) : Prop where
  c : He.SaysD fa fn K
  x : ex K = true
  h : ∃ h : Heap, K.In h ∧ h.Ns mainGlobals mg
section
variable {fa : List He.Fa} {fn : List He.DefD} {ex : PySem.W.Frag → Bool} {P : Program} {w : World} {K : PySem.W.Frag} {mg : Str → Option Value} {base : Heap}
theorem Txt.glo (T : Txt fa fn ex K mg) (i : Nat) {x : Str} (e : fa[i]? = some (.glo x) := by rfl) : mg x = some (.ref (He.ga K x)) := by
  obtain ⟨h, X, G⟩ := T.h
  exact He.glo_ok X G (T.c.fact i e)
theorem Txt.free (T : Txt fa fn ex K mg) (i : Nat) {x : Str} (e : fa[i]? = some (.free x) := by rfl) : mg x = none := by
  obtain ⟨h, X, G⟩ := T.h
  exact He.free_ok X G (T.c.fact i e)
theorem Txt.int (T : Txt fa fn ex K mg) (i : Nat) {x : Str} {z : Int} (e : fa[i]? = some (.int x z) := by rfl) : ∃ u, mg x = some u ∧ RelV (.int z) u := by
  obtain ⟨h, X, G⟩ := T.h
  obtain ⟨t, q⟩ := He.int_ok X G (T.c.fact i e)
  exact ⟨_, q, t, rfl⟩
theorem Txt.str (T : Txt fa fn ex K mg) (i : Nat) {x z : Str} (e : fa[i]? = some (.str x z) := by rfl) : ∃ u, mg x = some u ∧ RelV (.str z) u := by
  obtain ⟨h, X, G⟩ := T.h
  obtain ⟨t, q⟩ := He.str_ok X G (T.c.fact i e)
  exact ⟨_, q, t, rfl⟩
theorem Txt.cls (T : Txt fa fn ex K mg) (i : Nat) {x : Str} (e : fa[i]? = some (.cls x) := by rfl) : Cls K (He.ga K x) := He.cls_ok (T.c.fact i e)
theorem Txt.noat (T : Txt fa fn ex K mg) (i : Nat) {x f : Str} (e : fa[i]? = some (.noat x f) := by rfl) : NoAttr K (He.ga K x) f := He.noat_ok (T.c.fact i e)
theorem Txt.cal (T : Txt fa fn ex K mg) (i j : Nat) {x : Str} {params : Arguments} {body : List Stmt} {scope : Scope} {N ps : List Str} {k : Nat} {sp : Sp}
    (e : fn[i]? = some ⟨(x, none), x, x, params, body, scope, [], []⟩) (g : fa[j]? = some (.glo x)) (S : FnScope N ps scope)
    (bd : ∀ (kV doc pm : Value) (an : Option Addr) (cdv ct : Value) (us : List Value), us.length = ps.length → bindArgs (PySem.W.fnOf x x params body scope .none kV doc pm an cdv ct) ⟨us, []⟩ = pure (ps.zip us))
    (len : ∀ vs H Q E, sp vs H Q E → vs.length = ps.length)
    (hbody : ∀ (cdv : Value) (A : Around) (outer : List Env) (s : Shared) (H : Hp) (vs : List V) (Q : VK) (E : XK), Room k (A.deeper (envOfC x scope s.heap.objs.size (He.ga K x) cdv)) → sp vs H Q E →
      ∃ t, PSs (cxOf (L2.CX P w) P w K mg base N x scope (He.ga K x) cdv A outer s H E) body t ∧ t { nx := fun _ H' => Q .non H', rt := Q } (start N vs) H) : Cal P w K mg base (k + 1) x sp := by
  obtain ⟨fd, F⟩ := T.c.def_ i e
  exact ⟨_, fd, ps, FunD.ok F S len hbody, T.glo j g, F.kp, FunD.bindsN F bd⟩
theorem Txt.met (T : Txt fa fn ex K mg) (i j l : Nat) {C m qual : Str} {params : Arguments} {body : List Stmt} {scope : Scope} {N ps : List Str} {k : Nat} {sp : Sp}
    (e : fn[i]? = some ⟨(C, some m), m, qual, params, body, scope, [], []⟩) (g : fa[j]? = some (.meth C m)) (gc : fa[l]? = some (.cls C)) (S : FnScope N ps scope)
    (bd : ∀ (kV doc pm : Value) (an : Option Addr) (cdv ct : Value) (us : List Value), us.length = ps.length → bindArgs (PySem.W.fnOf m qual params body scope .none kV doc pm an cdv ct) ⟨us, []⟩ = pure (ps.zip us))
    (len : ∀ vs H Q E, sp vs H Q E → vs.length = ps.length)
    (hbody : ∀ (cdv : Value) (A : Around) (outer : List Env) (s : Shared) (H : Hp) (vs : List V) (Q : VK) (E : XK), Room k (A.deeper (envOfC qual scope s.heap.objs.size (He.ma K (He.ga K C) m) cdv)) → sp vs H Q E →
      ∃ t, PSs (cxOf (L2.CX P w) P w K mg base N qual scope (He.ma K (He.ga K C) m) cdv A outer s H E) body t ∧ t { nx := fun _ H' => Q .non H', rt := Q } (start N vs) H) : Met P w K mg base (k + 1) (He.ga K C) m sp := by
  obtain ⟨fd, F⟩ := T.c.def_ i e
  exact ⟨_, fd, ps, T.cls l gc, He.meth_ok (T.c.fact j g), FunD.ok F S len hbody, FunD.bindsN F bd⟩
theorem Txt.mak (T : Txt fa fn ex K mg) (i j l : Nat) {C qual : Str} {params : Arguments} {body : List Stmt} {scope : Scope} {N ps : List Str} {k : Nat} {sp : Sp}
    (e : fn[i]? = some ⟨(C, some "__init__"), "__init__", qual, params, body, scope, [], []⟩) (g : fa[j]? = some (.mkr C)) (gc : fa[l]? = some (.glo C)) (S : FnScope N ps scope)
    (bd : ∀ (kV doc pm : Value) (an : Option Addr) (cdv ct : Value) (us : List Value), us.length = ps.length → bindArgs (PySem.W.fnOf "__init__" qual params body scope .none kV doc pm an cdv ct) ⟨us, []⟩ = pure (ps.zip us))
    (len : ∀ vs H Q E, sp vs H Q E → vs.length = ps.length)
    (hbody : ∀ (cdv : Value) (A : Around) (outer : List Env) (s : Shared) (H : Hp) (vs : List V) (Q : VK) (E : XK), Room k (A.deeper (envOfC qual scope s.heap.objs.size (He.ma K (He.ga K C) "__init__") cdv)) → sp vs H Q E →
      ∃ t, PSs (cxOf (L2.CX P w) P w K mg base N qual scope (He.ma K (He.ga K C) "__init__") cdv A outer s H E) body t ∧ t { nx := fun _ H' => Q .non H', rt := Q } (start N vs) H) : Mak P w K mg base (k + 1) C (He.ga K C) sp := by
  obtain ⟨fd, F⟩ := T.c.def_ i e
  exact ⟨_, fd, ps, He.mkr_ok (T.c.fact j g), FunD.ok F S len hbody, T.glo l gc, FunD.bindsN F bd⟩
end

/-! ### a name of the module; refusals made -/
section
variable {X : Cx} {fa : List He.Fa} {fn : List He.DefD} {ex : PySem.W.Frag → Bool}
theorem pe_gi {x : Str} {v : V} {pos : Pos} (hg : Gl X x) (h : ∃ u, X.mg x = some u ∧ RelV v u) (hd : (x == ("__debug__" : Str)) = false := by decide) : PE X (.Name x pos) (tC v) := by
  obtain ⟨u, hm, r⟩ := h
  exact pe_glob hg hm r hd
theorem pmk_x (T : Txt fa fn ex X.K X.mg) (j i : Nat) {x m : Str} {l : Nat} {p p2 pos : Pos} (e : fa[j]? = some (.exc x)) (g : fa[i]? = some (.glo x)) (hg : Gl X x := by rfl)
    (hdb : (x == ("__debug__" : Str)) = false := by decide) : PMk X (.Call (.Name x p) [.Constant (.str m) l p2] [] pos) (fun _ H Q => Q (.ref (He.ga X.K x)) none H) := by
  obtain ⟨q1, q2, q3, q4⟩ := He.exc_ok (T.c.fact j e)
  exact pmk_own PySem.F.excBase_ValueError q1 (T.glo i g) q2 (raises_own q3 q4) hg hdb
theorem Txt.exm {K : PySem.W.Frag} {mg : Str → Option Value} (T : Txt fa fn ex K mg) (i : Nat) {x y : Str} {b : Bool} (e : fa[i]? = some (.exm x y b) := by rfl) :
    PySem.W.exmOne K (.ref (He.ga K x)) (.ref (He.ga K y)) = some b := He.exm_ok (T.c.fact i e)
end

/-! ### sorted(d): a dict of ints, any number of keys -/
section
variable {X : Cx}
theorem cr_sortedD (hcalm : X.calm = true) : CallR X (.builtin "sorted") (fun xs H Q => ∃ (a : Addr) (kvs : List (Key × V)) (ks : List Int), xs = [.ref a] ∧ Rd H a (.dK kvs) ∧ kvs.map (·.1) = ks.map Sum.inl ∧
    ∀ (ys : List Int) (p : Addr), ys.Perm ks → ys.Pairwise (· ≤ ·) → H p = none → Q (.ref p) (upd H p (.lst (ys.map V.int)))) := by
  intro pins s σ H xs us Q I r q
  obtain ⟨a, kvs, ks, ex, hd, hks, q⟩ := q
  subst ex
  obtain ⟨u, eu, rx⟩ := vals1 r
  subst eu
  cases rx
  obtain ⟨z, lo, vs, rel, dd⟩ := dk_rd I.hok hd
  obtain ⟨ep, hat⟩ := dd.dictAt
  have hkeys : vs.map (·.1) = ks.map Sum.inl := rel.keys.symm.trans hks
  have hl : vs.length = ks.length := by
    have el := congrArg List.length hkeys
    rw [List.length_map, List.length_map] at el
    exact el
  have hlz : vs.length ≤ sizeLine := by
    have el := congrArg List.length hks
    rw [List.length_map, List.length_map] at el
    rw [hl, ← el]
    exact z
  refine Calls.call_function_entry PyProof.Rows.kind_sorted PyProof.Rows.plain_sorted PyProof.Rows.entry_sorted (PyProof.Rows.args_sorted1 _) ?_
  unfold Builtin.«sorted»
  refine wpAny_bind (m := checkCount "sorted" 1 1 _) (wpAny_pure ?_)
  refine wpAny_bind (PySem.W.kdu_collect (A := X.A.in1) (PySem.W.kdl_dict (knd := mixKind X.prog X.w) (kvs := vs) (ep := ep) lo)
    (I.ok.hd hcalm) hat hlz fun hp tk acc hk hacc => ?_)
  have hal : acc.toList.length = ks.length := by rw [Array.length_toList, hacc.1, hl]
  have hI : IntsAre acc.toList ks := ints_each hal fun j v ej => by
    obtain ⟨k, x, e1, e2⟩ := hacc.2 j v (by rw [← Array.getElem?_toList]; exact ej)
    have e3 : (vs.map (·.1))[j]? = some k := by
      rw [List.getElem?_map, e1]
      rfl
    rw [hkeys, List.getElem?_map] at e3
    cases e4 : ks[j]? with
    | none =>
      rw [e4] at e3
      cases e3
    | some y =>
      rw [e4] at e3
      have e5 : Sum.inl y = k := Option.some.inj e3
      subst e5
      rcases keyIs_shape (show keyIs (Sum.inl y) v = true from e2) with ⟨i, t, ek, ev⟩ | ⟨zz, t, ek, ev⟩
      · cases ek
        exact ⟨y, t, rfl, ev⟩
      · cases ek
  have J : Inv X pins σ H { s with heap := hp, toks := tk } := I.kept hk
  have hz2 : acc.toList.length ≤ sizeLine := by rw [hal, ← hl]; exact hlz
  refine wpAny_bind (wpAny_newList ?_ (by first | exact hz2 | (rw [← Array.length_toList]; exact hz2)))
  have hoL : (hp.push (seqObj "list" acc.toList.toArray 0)).get? hp.objs.size = some (seqObj "list" acc.toList.toArray 0) := Heap.get?_push_size _ rfl
  show wpAny _ _ _ _ _ { s with heap := hp.push (seqObj "list" acc.toList.toArray 0), toks := tk }
  refine wpAny_bind (wpAny_holding (wpAny_call_entry PyProof.Rows.slot_list_sort ⟨_, hoL, rfl⟩ PyProof.Rows.entry_list_sort
    (SrtO.list_sort_ord (s := { s with heap := hp.push (seqObj "list" acc.toList.toArray 0), toks := tk }) SrtO.swo_int hoL hz2
      (fun h2 => SrtO.ints_sortable hI h2) fun out g1 g2 => ⟨_, rfl, ?_⟩) (PyProof.Rows.args_list_sort _)))
  obtain ⟨k1, k2, k3⟩ := SrtO.ints_out hI g1 g2
  obtain ⟨en, he'⟩ := PyProof.Rows.sortedHeap_at (vs := acc.toList) (out := out.toArray) hoL
  have hlen : ((out.map SrtO.iv).map V.int).length ≤ sizeLine := by
    rw [List.length_map, k2.length_eq, ← hl]
    exact hlz
  refine wpAny_pure ⟨_, rfl, .ref hp.objs.size, upd H hp.objs.size (.lst ((out.map SrtO.iv).map V.int)), J.laid (t' := tk) (fun b u e => ?_) (Nat.le_refl _)
    ⟨hlen, out, en, vals_of_ints k1, he'⟩, rfl, q _ _ k2 k3 (J.hok.fresh (Nat.le_refl _))⟩
  have hb : b < hp.objs.size := Heap.lt_size e
  rw [PyProof.Rows.sortedHeap_old (Nat.ne_of_lt hb) (by rw [size_push']; exact Nat.lt_succ_of_lt hb)]
  exact Heap.get?_push_of_some _ e
end

/-! ### a def called within an except suite, handed the exception -/
section
/-- p the exception that is handled, and its object -/
structure FnP (P : Program) (w : World) (K : PySem.W.Frag) (mg : Str → Option Value) (base : Heap) (k : Nat) (f : Addr) (fd : FuncData) (ps : List Str) (sp : Addr × Obj → Sp) : Prop where
  len : ∀ p vs H Q E, sp p vs H Q E → vs.length = ps.length
  run : ∀ (A : Around) (outer : List Env) (s : Shared) (H : Hp) (args : Args) (us : List Value) (vs : List V) (Q : VK) (p : Addr × Obj), L2H.RoomH k A → L2H.PinOk outer H s p → Env0 P w K mg base A outer s H →
    BindsTo s fd args (ps.zip us) → Vals vs us → sp p vs H Q E0 → codeAny (model P w) A (.call (.ref f) args) (CR CX0 outer P w H s Q E0) s
variable {P : Program} {w : World} {K : PySem.W.Frag} {mg : Str → Option Value} {base : Heap}
theorem fn_ofP {k : Nat} {f : Addr} {name qual : Str} {params : Arguments} {body : List Stmt} {scope : Scope} {dV kV doc pm cdv ct oc : Value} {an od : Option Addr} {osl : Array (Option Value)} {N ps : List Str} {sp : Addr × Obj → Sp}
    (lk : K.lookup f = some ⟨oc, od, .func (PySem.W.fnOf name qual params body scope dV kV doc pm an cdv ct), osl⟩) (hcd : PySem.W.codeIn K cdv qual = true) (S : FnScope N ps scope) (len : ∀ p vs H Q E, sp p vs H Q E → vs.length = ps.length)
    (hbody : ∀ (A : Around) (outer : List Env) (s : Shared) (H : Hp) (vs : List V) (Q : VK) (p : Addr × Obj), L2H.RoomH k (A.deeper (envOfC qual scope s.heap.objs.size f cdv)) → sp p vs H Q E0 →
      ∃ t, PSs (L2H.cxH CX0 P w K mg base N qual scope f cdv A outer s H E0 p) body t ∧ t { nx := fun _ H' => Q .non H', rt := Q } (L2.start N vs) H) :
    FnP P w K mg base (k + 1) f (PySem.W.fnOf name qual params body scope dV kV doc pm an cdv ct) ps sp := by
  refine ⟨len, fun A outer s H args us vs Q p hr pin e0 hb r hsp => ?_⟩
  have hl := len _ _ _ _ _ hsp
  have inK : K.In s.heap := e0.mod.kin.keeps fun b o e => (e0.bs b o e).1
  have lim : s.heap.NoLimit := e0.mod.nolimit.keeps fun b o e => (e0.bs b o e).1
  have kinds : ∀ y ∈ ps.zip us, scope.names.lookup y.1 = some .local ∨
      (scope.names.lookup y.1 = some .cell ∧ ((cellsFrom (s.heap.objs.size + 1) scope.names []).lookup y.1).isSome = true) := fun ⟨n, v⟩ hy => by
    rcases S.par n (List.of_mem_zip hy).1 with q | q
    · exact .inl q
    · exact .inr ⟨q, PySem.W.cellsFrom_some _ _ _ (.inl q)⟩
  refine codeAny_call_function hr.depth (inK _ _ lk) rfl S.co S.gen rfl (PySem.W.codeRec_of inK hcd) (hb _ _ _ _ ?_)
  refine wpAny_newFunctionEnv_cells S.kind kinds fun env he s1 x => ?_
  subst he
  refine ⟨lim.keeps x.toInCall.keep, codeAny_func ?_⟩
  obtain ⟨t, ht, hq⟩ := hbody A outer s H vs Q p (hr.deeper _) hsp
  have J : Inv (L2H.cxH CX0 P w K mg base N qual scope f cdv A outer s H E0 p) [] (L2.start N vs) H s1 := L2H.inv_startH S pin e0 hl r x
  refine wpAny_mono (ht.run [] s1 (L2.start N vs) H _ J hq) (fun fl s' hs => ?_) fun e s' hs => hs
  cases fl with
  | ret u =>
    obtain ⟨v, σ', H', J', rv, q⟩ := hs
    exact ⟨v, H', J'.os, J'.bare, J'.base, J'.hok, rv, q⟩
  | next =>
    obtain ⟨σ', H', J', q⟩ := hs
    exact ⟨V.non, H', J'.os, J'.bare, J'.base, J'.hok, rfl, q⟩
  | brk =>
    obtain ⟨_, _, _, q⟩ := hs
    exact False.elim q
  | cont =>
    obtain ⟨_, _, _, q⟩ := hs
    exact False.elim q
structure CalP (P : Program) (w : World) (K : PySem.W.Frag) (mg : Str → Option Value) (base : Heap) (k : Nat) (x : Str) (sp : Addr × Obj → Sp) : Prop where
  ex : ∃ (f : Addr) (fd : FuncData) (ps : List Str), FnP P w K mg base k f fd ps sp ∧ mg x = some (.ref f) ∧ PySem.W.keepIn K (.ref f) = true ∧ Binds K fd ps []
def tCallP (sp : Addr × Obj → Sp) (p : Addr × Obj) (t : TA) : TE := fun σ H Q => t σ H fun vs H1 => sp p vs H1 Q E0
theorem roomH_mark {k : Nat} {A : Around} {m : Option Value} (r : Room k A) : L2H.RoomH k (A.mark m) := ⟨r.dp, r.un⟩
theorem pe_h {X : Cx} {k j : Nat} {a : Addr} {oe : Obj} {pn : List (Addr × Obj)} {x : Str} {sp : Addr × Obj → Sp} {q pos : Pos} {e : Expr} {es : List Expr} {t : TA} (c : CalP X.prog X.w X.K X.mg X.base k x sp) (hr : Room j X.A)
    (ha : PA (X.suite a ((a, oe) :: pn)) (e :: es) t) (hk : k ≤ j := by decide) (hg : Gl X x := by rfl) (hdb : (x == ("__debug__" : Str)) = false := by decide)
    (he : starEach (e :: es) X.env = (false, eval e X.env) :: starEach es X.env := by rfl) (hpl : (backTo pos (starEach es X.env)).any (·.1) = false := by rfl) :
    PE (X.suite a ((a, oe) :: pn)) (.Call (.Name x q) (e :: es) [] pos) (tCallP sp (a, oe) t) := by
  obtain ⟨f, fd, ps, F, hm, kp, b⟩ := c.ex
  refine ⟨fun pins s σ H Q I h => ?_⟩
  refine wpAny_Call_Name_kw (ld_glob I hg hm ?_ hdb)
  refine PySem.W.callWith_K (h₀ := X.base) I.ok.mod.kin kp (thn (ha.run pos pins s σ H _ I h) fun us s1 ⟨vs, H1, I1, r, q1⟩ => ⟨I1.kIn, ?_⟩) he hpl
  have hl : us.length = ps.length := by
    rw [← r.length]
    exact F.len _ _ _ _ _ q1
  have b2 := b s1 us I1.kIn (by rw [List.append_nil]; exact hl)
  rw [List.append_nil] at b2
  have P1 := I1.pin (a, oe) (List.mem_append_left _ List.mem_cons_self)
  have pin : L2H.PinOk X.stack H1 s1 (a, oe) :=
    ⟨P1.1, P1.2.1, fun hm => (List.mem_cons.mp (I1.stkSub a hm)).elim P1.2.2.1 P1.2.2.2.1, P1.2.2.2.2⟩
  refine wpAny_call (codeAny_mono (F.run (X.A.mark (some (.ref a))) X.stack s1 H1 ⟨us, []⟩ us vs Q (a, oe) (roomH_mark (hr.mono hk)) pin I1.env0 b2 r q1) fun res s' hq => ?_)
  cases res with
  | error err => exact False.elim hq
  | ok fl =>
    cases fl with
    | ret u => exact I1.after hq
    | next => exact False.elim hq
    | brk => exact False.elim hq
    | cont => exact False.elim hq
/-- isinstance(e, c), e the exception that is pinned -/
theorem call_isP {X : Cx} {q : Addr × Obj} {D : Addr} (hq : q ∈ X.pn) (C : ExcC X.K D) (hz : Zc (.ref D) none q.2) (hf : ∃ vs, q.2.data = .fields vs) : CallR X (.builtin "isinstance") (rIsE X.K D q.1) := by
  intro pins s σ H xs us Q I r h
  obtain ⟨c, cv, b, rfl, hcv, e, q1⟩ := h
  cases r with
  | cons rx rr =>
    cases rr with
    | cons rt rr =>
      cases rr
      cases rx
      have ec := hcv _ rt
      subst ec
      obtain ⟨there, _⟩ := I.pin q (List.mem_append.mpr (.inl hq))
      obtain ⟨vs, hv⟩ := hf
      have J : PySem.W.InstAt s.heap q.1 q.2 D none := by
        obtain ⟨qa, ⟨oc, od, oda, osl⟩⟩ := q
        obtain ⟨h1, h2⟩ := hz
        dsimp only at h1 h2 hv
        subst h1 h2 hv
        exact ⟨there, rfl, rfl, trivial⟩
      exact PySem.W.kia_one (PySem.W.handS_kitx_exc C.hg C.hk C.hs C.hd C.ha C.hn C.ht C.hm) I.kIn J e (fun z => nomatch z)
        fun tk => ⟨.bl b, H, I.kept (t' := tk) fun _ _ z => z, rfl, q1⟩
end
section
variable {fa : List He.Fa} {fn : List He.DefD} {ex : PySem.W.Frag → Bool} {P : Program} {w : World} {K : PySem.W.Frag} {mg : Str → Option Value} {base : Heap}
theorem Txt.calP (T : Txt fa fn ex K mg) (i j : Nat) {x : Str} {params : Arguments} {body : List Stmt} {scope : Scope} {N ps : List Str} {k : Nat} {sp : Addr × Obj → Sp}
    (e : fn[i]? = some ⟨(x, none), x, x, params, body, scope, [], []⟩) (g : fa[j]? = some (.glo x)) (S : FnScope N ps scope)
    (bd : ∀ (kV doc pm : Value) (an : Option Addr) (cdv ct : Value) (us : List Value), us.length = ps.length → bindArgs (PySem.W.fnOf x x params body scope .none kV doc pm an cdv ct) ⟨us, []⟩ = pure (ps.zip us))
    (len : ∀ p vs H Q E, sp p vs H Q E → vs.length = ps.length)
    (hbody : ∀ (cdv : Value) (A : Around) (outer : List Env) (s : Shared) (H : Hp) (vs : List V) (Q : VK) (p : Addr × Obj), L2H.RoomH k (A.deeper (envOfC x scope s.heap.objs.size (He.ga K x) cdv)) → sp p vs H Q E0 →
      ∃ t, PSs (L2H.cxH CX0 P w K mg base N x scope (He.ga K x) cdv A outer s H E0 p) body t ∧ t { nx := fun _ H' => Q .non H', rt := Q } (L2.start N vs) H) : CalP P w K mg base (k + 1) x sp := by
  obtain ⟨fd, F⟩ := T.c.def_ i e
  obtain ⟨oc, od, dV, kV, doc, pm, an, cdv, ct, osl, rfl, lk, hcd, _, _⟩ := F.ex
  exact ⟨_, _, ps, fn_ofP lk hcd S len fun A outer s H vs Q p hr hs => hbody cdv A outer s H vs Q p hr hs, T.glo j g, F.kp, FunD.bindsN F bd⟩
end

/-! ### the rules that speak of the written part, K named (within a comprehension's block the context is another) -/
section
variable {X : Cx} (K : PySem.W.Frag)
def rLenK : List V → Hp → VK → Prop := fun xs H Q => ∃ p ys, xs = [.ref p] ∧ (SqL K H p ys ∨ SqT K H p ys) ∧ Q (.int ys.length) H
theorem len_k (h : X.K = K := by rfl) : CallR X (.builtin "len") (rLenK K) := by
  subst h
  exact call_len_seq
theorem ix_l (h : X.K = K := by rfl) : IxR X (rIxL K) := by
  subst h
  exact ix_list
theorem ix_t (h : X.K = K := by rfl) : IxR X (rIxT K) := by
  subst h
  exact ix_tup
theorem isi_k (h : X.K = K := by rfl) : CallR X (.builtin "isinstance") (rIsi K) := by
  subst h
  exact call_isi
theorem in_k (h : X.K = K := by rfl) : OpR X (compareOp .In) (rIn K false) := by
  subst h
  exact op_in_seq
theorem notin_k (h : X.K = K := by rfl) : OpR X (compareOp .NotIn) (rIn K true) := by
  subst h
  exact op_notIn_seq
theorem eqD_k (hu : X.A.units + 64 < cLine) (h : X.K = K := by rfl) : OpR X (compareOp .Eq) (rEqD K) := by
  subst h
  exact op_eqD hu
theorem neD_k (hu : X.A.units + 64 < cLine) (h : X.K = K := by rfl) : OpR X (compareOp .NotEq) (rNeD K) := by
  subst h
  exact op_neD hu
theorem fld_k {e : Expr} {f : Str} {ta : TE} {pos : Pos} (he : PE X e ta) (hb : attributeBase e f X.env (eval e X.env) = eval e X.env) (h : X.K = K := by rfl) : PE X (.Attribute e f pos) (tFld K ta f) := by
  subst h
  exact pe_fld he hb
theorem all_k (hc : X.calm = true) (h : X.K = K := by rfl) : CallR X (.builtin "all") (rAll K) := by
  subst h
  exact cr_all hc
theorem max_k (hc : X.calm = true) (h : X.K = K := by rfl) : CallR X (.builtin "max") (rMax K) := by
  subst h
  exact cr_max hc
theorem sl_k (h : X.K = K := by rfl) : SlR X (rSlL K) := by
  subst h
  exact sl_list
def rListK : List V → Hp → VK → Prop := fun xs H Q => ∃ p ys, xs = [.ref p] ∧ (SqL K H p ys ∨ SqT K H p ys) ∧ ∀ l, H l = none → Q (.ref l) (upd H l (.lst ys))
theorem list_k (h : X.K = K := by rfl) : CallR X (.type "list") (rListK K) := by
  subst h
  exact call_list_of
theorem idx_k (h : X.K = K := by rfl) : MtR X "list.index" (rIndex K) := by
  subst h
  exact mt_index
theorem pi_l {tg e : Expr} {ta : TE} (he : PE X e ta) (h : X.K = K := by rfl) : PI X tg e (iList K ta) := by
  subst h
  exact pi_list he
theorem pi_t {tg e : Expr} {ta : TE} (he : PE X e ta) (h : X.K = K := by rfl) : PI X tg e (iTup K ta) := by
  subst h
  exact pi_tup he
end

/-! ### a call in an except suite, told of the exception's class -/
def tCallZ (sp : Addr × Obj → Sp) (a : Addr) (cls : Value) (d : Option Addr) (t : TA) : TE := fun σ H Q => ∀ oe, Zc cls d oe → (∃ vs, oe.data = .fields vs) → t σ H fun vs H1 => sp (a, oe) vs H1 Q E0
theorem pe_hz {X : Cx} {k j : Nat} {a : Addr} {oe : Obj} {cls : Value} {d : Option Addr} {pn : List (Addr × Obj)} {x : Str} {sp : Addr × Obj → Sp} {q pos : Pos} {e : Expr} {es : List Expr} {t : TA} (c : CalP X.prog X.w X.K X.mg X.base k x sp) (hr : Room j X.A)
    (hz : Zc cls d oe) (hf : ∃ vs, oe.data = .fields vs) (ha : PA (X.suite a ((a, oe) :: pn)) (e :: es) t) (hk : k ≤ j := by decide) (hg : Gl X x := by rfl) (hdb : (x == ("__debug__" : Str)) = false := by decide)
    (he : starEach (e :: es) X.env = (false, eval e X.env) :: starEach es X.env := by rfl) (hpl : (backTo pos (starEach es X.env)).any (·.1) = false := by rfl) :
    PE (X.suite a ((a, oe) :: pn)) (.Call (.Name x q) (e :: es) [] pos) (tCallZ sp a cls d t) :=
  ⟨fun pins s σ H Q I h => (pe_h c hr ha hk hg hdb he hpl).run pins s σ H Q I (h oe hz hf)⟩
/-! ### the refusals' classes: what isinstance asks of them -/
def excs : List Str := ["NoTrain", "NoStretch", "NoSeat", "NoStop", "NoLeg", "NoTicket", "Full", "Shared", "NoText"]
def excB (K : PySem.W.Frag) (D : Addr) : Bool :=
  He.eqO (PySem.W.findIn K (.ref D) "__getattribute__") (some (some (.builtin "BaseException.__getattribute__"))) && (He.eqO (PySem.W.findIn K (.ref D) "__getattr__") (some none) &&
  (decide (PySem.W.subIn K (.ref D) (.type "BaseException") = some true) && (PySem.W.hasDictIn K D && (He.eqO (PySem.W.findIn K (.ref D) "__class__") (some (some (.builtin "object.__class__"))) &&
  (He.eqO (PySem.W.specialIn K (.builtin "object.__class__") "__get__") (some (some (.builtin "getset_descriptor.__get__"))) && (decide (PySem.W.takesIn K (.builtin "object.__class__") = some true) && decide (PySem.W.mroIn K D (.type "object") = some true)))))))
theorem excB_ok {K : PySem.W.Frag} {D : Addr} (h : excB K D = true) : ExcC K D := by
  obtain ⟨h1, h⟩ := He.ba h
  obtain ⟨h2, h⟩ := He.ba h
  obtain ⟨h3, h⟩ := He.ba h
  obtain ⟨h4, h⟩ := He.ba h
  obtain ⟨h5, h⟩ := He.ba h
  obtain ⟨h6, h⟩ := He.ba h
  obtain ⟨h7, h8⟩ := He.ba h
  exact ⟨He.eqO_ok h1, He.eqO_ok h2, of_decide_eq_true h3, h4, He.eqO_ok h5, He.eqO_ok h6, of_decide_eq_true h7, of_decide_eq_true h8⟩
def excAll (K : PySem.W.Frag) : Bool := excs.all fun D => excB K (He.ga K D) && ((excs.all fun C => decide (PySem.W.kitOne K (.ref (He.ga K D)) (.ref (He.ga K C)) = some (decide (D = C)))) && decide (PySem.W.kitOne K (.ref (He.ga K D)) (.type "ValueError") = some true))
theorem excAll_ok {K : PySem.W.Frag} (h : excAll K = true) {D : Str} (hD : D ∈ excs) : ExcC K (He.ga K D) ∧ (∀ C ∈ excs, PySem.W.kitOne K (.ref (He.ga K D)) (.ref (He.ga K C)) = some (decide (D = C))) ∧ PySem.W.kitOne K (.ref (He.ga K D)) (.type "ValueError") = some true := by
  obtain ⟨h1, h2⟩ := He.ba (List.all_eq_true.mp h D hD)
  obtain ⟨h3, h4⟩ := He.ba h2
  exact ⟨excB_ok h1, fun C hC => of_decide_eq_true (List.all_eq_true.mp h3 C hC), of_decide_eq_true h4⟩
/-- one look: if isinstance(e, C): words.append(w) -/
theorem cls_step {K : PySem.W.Frag} {D a l C : Addr} {w : Str} {ws : List V} {b : Bool} {n : Nat} {E : Ends} {H : Hp} (hl : H l = some (.lst ws)) (hz : ws.length ≤ n) (hn : n ≤ 100) (hk : PySem.W.kitOne K (.ref D) (.ref C) = some b)
    (k : ∀ H', (∀ c o, c ≠ l → H c = some o → H' c = some o) → H' l = some (.lst (if b = true then ws ++ [.str w] else ws)) → (if b = true then ws ++ [V.str w] else ws).length ≤ n + 1 → E.nx [some (.ref a), some (.ref l)] H') :
    tIfS (tB (tCB (rIsE K D a) (tCons (tVar 0) (tCons (tC (.ref C)) tNil)))) (tDrop (tBM K "list" rAppend (tVar 1) (tCons (tC (.str w)) tNil))) tNext E [some (.ref a), some (.ref l)] H := by
  refine ⟨_, rfl, _, .ref C, b, rfl, fun u r => r, hk, _, rfl, ?_⟩
  cases b with
  | true =>
    refine iteT ?_
    refine ⟨_, rfl, .inl ⟨rfl, _, SqL.of hl⟩, l, ws, _, rfl, rfl, hl, Nat.lt_of_le_of_lt (Nat.le_trans hz hn) (by decide), ?_⟩
    refine k _ (fun c o hc ho => ?_) upd_same (by rw [if_pos rfl, List.length_append]; exact Nat.add_le_add_right hz 1)
    rw [upd_ne hc]
    exact ho
  | false => exact iteF (k H (fun _ _ _ h => h) hl (Nat.le_succ_of_le hz))
def excP : List (Str × Str) := [("NoTrain", "train"), ("NoStretch", "stretch"), ("NoSeat", "seat"), ("NoStop", "stop"), ("NoLeg", "leg"), ("NoTicket", "ticket"), ("Full", "full"), ("Shared", "shared"), ("NoText", "text")]
def excW (D : Str) : Str := (excP.lookup D).getD "other"
def wordsOf (D : Str) : List V := excP.foldl (fun ws x => if decide (D = x.1) = true then ws ++ [V.str x.2] else ws) []
theorem wordsOf_eq : ∀ D ∈ excs, wordsOf D = [.str (excW D)] := by decide +kernel
/-- _law_class(e), e the exception that is held -/
def spClass (K : PySem.W.Frag) : Addr × Obj → Sp := fun p vs H Q _ => ∃ D, D ∈ excs ∧ vs = [.ref p.1] ∧ Zc (.ref (He.ga K D)) none p.2 ∧ (∃ vs, p.2.data = .fields vs) ∧ ∀ H', Evl.Ex H H' → Q (.str (excW D)) H'
end Lg

namespace Lg
open PySem PySem.Spec PyProof.Rows L2
abbrev Ex := Evl.Ex

/-! ### lists in step -/
structure All2 {α β : Type} (R : α → β → Prop) (xs : List α) (ys : List β) : Prop where
  len : xs.length = ys.length
  at_ : ∀ (i : Nat) (x : α) (y : β), xs[i]? = some x → ys[i]? = some y → R x y
section
variable {α β γ : Type} {R R' : α → β → Prop} {xs : List α} {ys : List β}
theorem All2.nil : All2 R [] [] := ⟨rfl, fun i x y h => by simp at h⟩
theorem All2.mono (h : All2 R xs ys) (f : ∀ x y, R x y → R' x y) : All2 R' xs ys := ⟨h.len, fun i x y a b => f x y (h.at_ i x y a b)⟩
theorem All2.monoM (h : All2 R xs ys) (f : ∀ x y, x ∈ xs → y ∈ ys → R x y → R' x y) : All2 R' xs ys :=
  ⟨h.len, fun i x y a b => f x y (List.mem_of_getElem? a) (List.mem_of_getElem? b) (h.at_ i x y a b)⟩
theorem All2.left (h : All2 R xs ys) {i : Nat} {x : α} (e : xs[i]? = some x) : ∃ y, ys[i]? = some y ∧ R x y := by
  have hi : i < xs.length := (List.getElem?_eq_some_iff.mp e).1
  have hj : i < ys.length := by rw [← h.len]; exact hi
  exact ⟨ys[i], List.getElem?_eq_getElem hj, h.at_ i x _ e (List.getElem?_eq_getElem hj)⟩
theorem All2.right (h : All2 R xs ys) {i : Nat} {y : β} (e : ys[i]? = some y) : ∃ x, xs[i]? = some x ∧ R x y := by
  have hi : i < ys.length := (List.getElem?_eq_some_iff.mp e).1
  have hj : i < xs.length := by rw [h.len]; exact hi
  exact ⟨xs[i], List.getElem?_eq_getElem hj, h.at_ i _ y (List.getElem?_eq_getElem hj) e⟩
theorem All2.snoc (h : All2 R xs ys) {x : α} {y : β} (r : R x y) : All2 R (xs ++ [x]) (ys ++ [y]) := by
  refine ⟨by rw [List.length_append, List.length_append, h.len]; rfl, fun i a b ha hb => ?_⟩
  by_cases hi : i < xs.length
  · rw [List.getElem?_append_left hi] at ha
    rw [List.getElem?_append_left (by rw [← h.len]; exact hi)] at hb
    exact h.at_ i a b ha hb
  · rw [List.getElem?_append_right (by omega)] at ha
    rw [List.getElem?_append_right (by rw [← h.len]; omega)] at hb
    rw [h.len] at ha
    cases e : i - ys.length with
    | zero =>
      rw [e] at ha hb
      cases ha
      cases hb
      exact r
    | succ n =>
      rw [e] at ha
      simp at ha
theorem All2.set (h : All2 R xs ys) {i : Nat} {x : α} {y : β} (r : R x y) : All2 R (xs.set i x) (ys.set i y) := by
  refine ⟨by rw [List.length_set, List.length_set]; exact h.len, fun j a b ha hb => ?_⟩
  rw [List.getElem?_set] at ha hb
  by_cases e : i = j
  · rw [if_pos e] at ha hb
    by_cases hl : i < xs.length
    · have hl2 : i < ys.length := by rw [← h.len]; exact hl
      rw [if_pos hl] at ha
      rw [if_pos hl2] at hb
      cases ha
      cases hb
      exact r
    · rw [if_neg hl] at ha
      cases ha
  · rw [if_neg e] at ha hb
    exact h.at_ j a b ha hb
theorem All2.cons {x : α} {y : β} (r : R x y) (h : All2 R xs ys) : All2 R (x :: xs) (y :: ys) := by
  refine ⟨by rw [List.length_cons, List.length_cons, h.len], fun i a b ha hb => ?_⟩
  cases i with
  | zero =>
    cases ha
    cases hb
    exact r
  | succ n => exact h.at_ n a b (by simpa using ha) (by simpa using hb)
theorem All2.tail {x : α} {y : β} (h : All2 R (x :: xs) (y :: ys)) : R x y ∧ All2 R xs ys :=
  ⟨h.at_ 0 x y rfl rfl, ⟨by have := h.len; simpa using this, fun i a b ha hb => h.at_ (i + 1) a b (by simpa using ha) (by simpa using hb)⟩⟩
theorem All2.erase (h : All2 R xs ys) (i : Nat) : All2 R (xs.eraseIdx i) (ys.eraseIdx i) := by
  refine ⟨by rw [List.length_eraseIdx, List.length_eraseIdx, h.len], fun j a b ha hb => ?_⟩
  rw [List.getElem?_eraseIdx] at ha hb
  split at ha
  · rename_i c
    rw [if_pos c] at hb
    exact h.at_ j a b ha hb
  · rename_i c
    rw [if_neg c] at hb
    exact h.at_ (j + 1) a b ha hb
theorem All2.map_eq {f : β → α} (h : All2 (fun x y => x = f y) xs ys) : xs = ys.map f := by
  apply List.ext_getElem?
  intro i
  rw [List.getElem?_map]
  cases e : ys[i]? with
  | none =>
    have : ys.length ≤ i := List.getElem?_eq_none_iff.mp e
    exact List.getElem?_eq_none_iff.mpr (by rw [h.len]; exact this)
  | some y =>
    obtain ⟨x, ex, r⟩ := h.right e
    rw [ex, r]
    rfl
theorem All2.of_map (f : β → α) (ys : List β) (h : ∀ y ∈ ys, R (f y) y) : All2 R (ys.map f) ys := by
  refine ⟨by rw [List.length_map], fun i x y hx hy => ?_⟩
  rw [List.getElem?_map, hy] at hx
  cases hx
  exact h y (List.mem_of_getElem? hy)
theorem All2.mem_left (h : All2 R xs ys) {x : α} (m : x ∈ xs) : ∃ y ∈ ys, R x y := by
  obtain ⟨i, hi, e⟩ := List.mem_iff_getElem.mp m
  obtain ⟨y, ey, r⟩ := h.left (i := i) (x := x) (by rw [List.getElem?_eq_getElem hi, e])
  exact ⟨y, List.mem_of_getElem? ey, r⟩
end

/-! ### values and lists on the heap -/
/-- who holds a leg -/
def oV : Option Nat → V
  | none => .non
  | some t => .int (t : Int)
theorem oV_none {x : Option Nat} : decide (oV x = V.non) = x.isNone := by
  cases x with
  | none => exact decide_eq_true rfl
  | some t => exact decide_eq_false (fun h => nomatch h)
theorem oV_inj {x y : Option Nat} : oV x = oV y ↔ x = y := by
  cases x with
  | none => cases y with
    | none => exact ⟨fun _ => rfl, fun _ => rfl⟩
    | some u => exact ⟨fun h => (by cases h), fun h => (by cases h)⟩
  | some t => cases y with
    | none => exact ⟨fun h => (by cases h), fun h => (by cases h)⟩
    | some u =>
      refine ⟨fun h => ?_, fun h => by rw [h]⟩
      have h2 : (t : Int) = (u : Int) := V.int.inj h
      rw [Int.ofNat_inj.mp h2]
theorem oV_scal (x y : Option Nat) : scal (oV x) (oV y) = true := by
  cases x <;> cases y <;> rfl
def RowAt (H : Hp) (a : Addr) (row : List (Option Nat)) : Prop := H a = some (.lst (row.map oV))
abbrev Grid := List (List (Option Nat))
/-- a list of lists of holders at v -/
structure GridAt (H : Hp) (a : Addr) (as : List Addr) (g : Grid) : Prop where
  top : H a = some (.lst (as.map V.ref))
  row : All2 (RowAt H) as g
theorem GridAt.mono {H H' : Hp} {a : Addr} {as : List Addr} {g : Grid} (e : Ex H H') (h : GridAt H a as g) : GridAt H' a as g :=
  ⟨e _ _ h.top, h.row.mono fun _ _ r => e _ _ r⟩
abbrev P3 := Nat × Nat × Nat
def pV (p : P3) : List V := [.int p.1, .int p.2.1, .int p.2.2]
def PartAt (H : Hp) (t : Addr) (p : P3) : Prop := H t = some (.tup (pV p))
/-- a list of parts at l -/
def PartsAt (H : Hp) (l : Addr) (ps : List P3) : Prop := ∃ ts : List Addr, H l = some (.lst (ts.map V.ref)) ∧ All2 (PartAt H) ts ps
theorem PartsAt.mono {H H' : Hp} {l : Addr} {ps : List P3} (e : Ex H H') (h : PartsAt H l ps) : PartsAt H' l ps := by
  obtain ⟨ts, a, b⟩ := h
  exact ⟨ts, e _ _ a, b.mono fun _ _ r => e _ _ r⟩
theorem map_get {α β : Type} {f : α → β} {l : List α} {i : Nat} {x : α} (h : l[i]? = some x) : (l.map f)[i]? = some (f x) := by
  rw [List.getElem?_map, h]
  rfl
theorem map_back {α β : Type} {f : α → β} {l : List α} {i : Nat} {y : β} (h : (l.map f)[i]? = some y) : ∃ x, l[i]? = some x ∧ y = f x := by
  rw [List.getElem?_map] at h
  cases e : l[i]? with
  | none =>
    rw [e] at h
    cases h
  | some x =>
    rw [e] at h
    exact ⟨x, rfl, (Option.some.inj h).symm⟩
theorem lt_of_get {α : Type} {l : List α} {i : Nat} {x : α} (h : l[i]? = some x) : i < l.length := (List.getElem?_eq_some_iff.mp h).1

/-! ### what legs.py reckons -/
/-- how far a row of legs is free -/
def reach (row : List (Option Nat)) (s : Nat) : Nat := s + ((row.drop s).takeWhile Option.isNone).length
theorem reach_yes {row : List (Option Nat)} {s : Nat} (h : row[s]? = some none) : reach row s = reach row (s + 1) := by
  have hl := lt_of_get h
  have e : row.drop s = none :: row.drop (s + 1) := by
    rw [List.drop_eq_getElem_cons hl]
    have : row[s] = none := by
      have := List.getElem?_eq_getElem hl
      rw [this] at h
      exact Option.some.inj h
    rw [this]
  unfold reach
  rw [e]
  show s + (List.takeWhile Option.isNone (none :: List.drop (s + 1) row)).length = _
  rw [List.takeWhile_cons]
  simp only [Option.isNone_none, if_true, List.length_cons]
  omega
theorem reach_no {row : List (Option Nat)} {s t : Nat} (h : row[s]? = some (some t)) : reach row s = s := by
  have hl := lt_of_get h
  have e : row.drop s = some t :: row.drop (s + 1) := by
    rw [List.drop_eq_getElem_cons hl]
    have : row[s] = some t := by
      have := List.getElem?_eq_getElem hl
      rw [this] at h
      exact Option.some.inj h
    rw [this]
  unfold reach
  rw [e]
  show s + (List.takeWhile Option.isNone (some t :: List.drop (s + 1) row)).length = _
  rw [List.takeWhile_cons]
  simp
theorem reach_out {row : List (Option Nat)} {s : Nat} (h : row.length ≤ s) : reach row s = s := by
  unfold reach
  rw [List.drop_eq_nil_of_le h]
  rfl
theorem reach_ge (row : List (Option Nat)) (s : Nat) : s ≤ reach row s := Nat.le_add_right _ _
theorem reach_le {row : List (Option Nat)} {s : Nat} (h : s ≤ row.length) : reach row s ≤ row.length := by
  unfold reach
  have := (List.takeWhile_sublist (l := row.drop s) Option.isNone).length_le
  rw [List.length_drop] at this
  omega
/-- a leg is held -/
def held (row : List (Option Nat)) (leg : Nat) : Bool := ((row[leg]?).getD none).isSome
/-- a leg on which each seat is held -/
def fullLeg (g : Grid) (leg : Nat) : Bool := g.all fun row => held row leg
/-- the first full leg -/
def firstFull (g : Grid) (b e : Nat) : Option Nat := (List.range' b (e - b)).find? (fullLeg g)
/-- how many seats are held -/
def load (g : Grid) (leg : Nat) : Nat := (g.filter fun row => held row leg).length
/-- the best seat, and how far it leads: from the seat number k on, best and far so far -/
def bestFrom (s e : Nat) : Grid → Nat → Nat → Nat → Nat × Nat
  | [], _, best, far => (best, far)
  | row :: g, k, best, far => if far < min (reach row s) e then bestFrom s e g (k + 1) k (min (reach row s) e) else bestFrom s e g (k + 1) best far
def bestSeat (g : Grid) (s e : Nat) : Nat × Nat := bestFrom s e g 0 0 s
/-- the parts found: n turns at most -/
def foundN (g : Grid) (e : Nat) : Nat → Nat → List P3
  | 0, _ => []
  | n + 1, s => if s < e then
      (if (bestSeat g s e).2 = s then [] else ((bestSeat g s e).1, s, (bestSeat g s e).2) :: foundN g e n (bestSeat g s e).2)
    else []
def found (g : Grid) (b e : Nat) : List P3 := foundN g e (e - b) b
/-- a leg is given to a holder -/
def setCell (g : Grid) (seat leg : Nat) (h : Option Nat) : Grid := g.set seat ((g[seat]?.getD []).set leg h)
def markPart (g : Grid) (h : Option Nat) (p : P3) : Grid := (List.range' p.2.1 (p.2.2 - p.2.1)).foldl (fun g leg => setCell g p.1 leg h) g
def markAll (g : Grid) (ps : List P3) (h : Option Nat) : Grid := ps.foldl (fun g p => markPart g h p) g

/-! ### a train -/
structure Tr where
  stops : Nat
  rows : Grid
  sold : List (Nat × List P3)
  coming : Nat
structure Tr.Wf (T : Tr) : Prop where
  s1 : 1 ≤ T.rows.length
  s2 : T.rows.length ≤ 60
  t1 : 2 ≤ T.stops
  t2 : T.stops ≤ 60
  legs : ∀ row ∈ T.rows, row.length = T.stops - 1
  rising : (T.sold.map (·.1)).Pairwise (· < ·)
def Tr.new (seats stops : Nat) : Tr := ⟨stops, List.replicate seats (List.replicate (stops - 1) none), [], 0⟩
/-- a train's attributes -/
def trF (stops : Nat) (r d : Addr) (coming : Nat) : List (Str × V) := [("stops", .int stops), ("rows", .ref r), ("sold", .ref d), ("coming", .int coming)]
theorem kne1 : (("rows" : Str) == ("stops" : Str)) = false := by decide +kernel
theorem kne2 : (("sold" : Str) == ("stops" : Str)) = false := by decide +kernel
theorem kne3 : (("sold" : Str) == ("rows" : Str)) = false := by decide +kernel
theorem kne4 : (("coming" : Str) == ("stops" : Str)) = false := by decide +kernel
theorem kne5 : (("coming" : Str) == ("rows" : Str)) = false := by decide +kernel
theorem kne6 : (("coming" : Str) == ("sold" : Str)) = false := by decide +kernel
section
variable {s c : Nat} {r d : Addr}
theorem lk_stops : (trF s r d c).lookup ("stops" : Str) = some (.int s) := by
  show List.lookup _ _ = _
  rw [trF, List.lookup_cons]
  simp
theorem lk_rows : (trF s r d c).lookup ("rows" : Str) = some (.ref r) := by
  rw [trF, List.lookup_cons, kne1, List.lookup_cons]
  simp
theorem lk_sold : (trF s r d c).lookup ("sold" : Str) = some (.ref d) := by
  rw [trF, List.lookup_cons, kne2, List.lookup_cons, kne3, List.lookup_cons]
  simp
theorem lk_coming : (trF s r d c).lookup ("coming" : Str) = some (.int c) := by
  rw [trF, List.lookup_cons, kne4, List.lookup_cons, kne5, List.lookup_cons, kne6, List.lookup_cons]
  simp
theorem trF_no {m : Str} (h1 : (m == ("stops" : Str)) = false) (h2 : (m == ("rows" : Str)) = false) (h3 : (m == ("sold" : Str)) = false) (h4 : (m == ("coming" : Str)) = false) : (trF s r d c).lookup m = none := by
  rw [trF, List.lookup_cons, h1, List.lookup_cons, h2, List.lookup_cons, h3, List.lookup_cons, h4]
  rfl
theorem put_coming {n : Nat} : putF "coming" (.int n) (trF s r d c) = trF s r d n := by
  have e1 : ¬ ("stops" : Str) = "coming" := by decide +kernel
  have e2 : ¬ ("rows" : Str) = "coming" := by decide +kernel
  have e3 : ¬ ("sold" : Str) = "coming" := by decide +kernel
  simp [trF, putF, e1, e2, e3]
theorem put_all : putF "coming" (.int c) (putF "sold" (.ref d) (putF "rows" (.ref r) (putF "stops" (.int s) []))) = trF s r d c := by
  have e1 : ¬ ("stops" : Str) = "rows" := by decide +kernel
  have e2 : ¬ ("stops" : Str) = "sold" := by decide +kernel
  have e3 : ¬ ("rows" : Str) = "sold" := by decide +kernel
  have e4 : ¬ ("stops" : Str) = "coming" := by decide +kernel
  have e5 : ¬ ("rows" : Str) = "coming" := by decide +kernel
  have e6 : ¬ ("sold" : Str) = "coming" := by decide +kernel
  simp [trF, putF, e1, e2, e3, e4, e5, e6]
end
/-- a ticket sold: its number, where its list of parts stands, the parts -/
abbrev Ent := Nat × Addr × List P3
def entS (ent : List Ent) : List (Nat × List P3) := ent.map fun e => (e.1, e.2.2)
/-- the dict of the tickets sold -/
def entD (ent : List Ent) : List (Key × V) := ent.map fun e => (Sum.inl (e.1 : Int), V.ref e.2.1)
structure TrRaw (K : PySem.W.Frag) (H : Hp) (p : Addr) (T : Tr) (r d : Addr) (as : List Addr) (ent : List Ent) : Prop where
  wf : T.Wf
  ins : ∃ dx, H p = some (.ins (He.ga K "Train") dx (trF T.stops r d T.coming))
  grid : GridAt H r as T.rows
  nd : as.Nodup
  ra : r ∉ as
  sold : T.sold = entS ent
  dict : H d = some (.dK (entD ent))
  prt : ∀ e ∈ ent, PartsAt H e.2.1 e.2.2
  la : ∀ e ∈ ent, e.2.1 ∉ as
/-- a train at p, all that it leans on within S -/
def TrainAt (K : PySem.W.Frag) (H : Hp) (S : Addr → Prop) (p : Addr) (T : Tr) : Prop :=
  ∃ r d as ent, TrRaw K H p T r d as ent ∧ S p ∧ S r ∧ S d ∧ (∀ a ∈ as, S a) ∧ ∀ e ∈ ent, S e.2.1
/-- what stands beside S is kept, all tuples are; S' is S or new -/
structure Mv (H H' : Hp) (S S' : Addr → Prop) : Prop where
  keep : ∀ a o, ¬ S a → H a = some o → H' a = some o
  tups : ∀ a xs, H a = some (.tup xs) → H' a = some (.tup xs)
  new : ∀ a, S' a → S a ∨ H a = none
theorem Mv.refl (H : Hp) (S : Addr → Prop) : Mv H H S S := ⟨fun _ _ _ h => h, fun _ _ h => h, fun _ h => .inl h⟩
theorem Mv.trans {H H1 H2 : Hp} {S S1 S2 : Addr → Prop} (a : Mv H H1 S S1) (b : Mv H1 H2 S1 S2) : Mv H H2 S S2 where
  keep := fun x o hs hx => by
    have h1 := a.keep x o hs hx
    refine b.keep x o (fun hc => ?_) h1
    rcases a.new x hc with z | z
    · exact hs z
    · rw [hx] at z
      cases z
  tups := fun x xs h => b.tups x xs (a.tups x xs h)
  new := fun x h => by
    rcases b.new x h with z | z
    · exact a.new x z
    · by_cases hs : S x
      · exact .inl hs
      · refine .inr ?_
        cases q : H x with
        | none => rfl
        | some o =>
          rw [a.keep x o hs q] at z
          cases z
theorem Mv.ex {H H' : Hp} {S : Addr → Prop} (e : Ex H H') : Mv H H' S S := ⟨fun a o _ h => e a o h, fun a xs h => e a _ h, fun _ h => .inl h⟩
theorem TrainAt.mono {K : PySem.W.Frag} {H H' : Hp} {S : Addr → Prop} {p : Addr} {T : Tr} (h : TrainAt K H S p T) (k : ∀ a o, S a → H a = some o → H' a = some o) (kt : ∀ a xs, H a = some (.tup xs) → H' a = some (.tup xs)) : TrainAt K H' S p T := by
  obtain ⟨r, d, as, ent, R, sp, sr, sd, sa, sl⟩ := h
  obtain ⟨dx, e⟩ := R.ins
  refine ⟨r, d, as, ent, ⟨R.wf, ⟨dx, k _ _ sp e⟩, ⟨k _ _ sr R.grid.top, R.grid.row.monoM fun a _ m _ q => k _ _ (sa a m) q⟩, R.nd, R.ra, R.sold, k _ _ sd R.dict, fun x m => ?_, R.la⟩, sp, sr, sd, sa, sl⟩
  obtain ⟨ts, q1, q2⟩ := R.prt x m
  exact ⟨ts, k _ _ (sl x m) q1, q2.mono fun t y z => kt _ _ z⟩
theorem TrainAt.ex {K : PySem.W.Frag} {H H' : Hp} {S : Addr → Prop} {p : Addr} {T : Tr} (h : TrainAt K H S p T) (e : Ex H H') : TrainAt K H' S p T := h.mono (fun a o _ q => e a o q) fun a xs q => e a _ q
theorem TrainAt.wf {K : PySem.W.Frag} {H : Hp} {S : Addr → Prop} {p : Addr} {T : Tr} (h : TrainAt K H S p T) : T.Wf := by
  obtain ⟨r, d, as, ls, R, _⟩ := h
  exact R.wf
theorem TrainAt.ins {K : PySem.W.Frag} {H : Hp} {S : Addr → Prop} {p : Addr} {T : Tr} (h : TrainAt K H S p T) : ∃ dx r d, H p = some (.ins (He.ga K "Train") dx (trF T.stops r d T.coming)) := by
  obtain ⟨r, d, as, ls, R, _⟩ := h
  obtain ⟨dx, e⟩ := R.ins
  exact ⟨dx, r, d, e⟩
/-- S may be taken as small as what is tracked -/
theorem TrainAt.there {K : PySem.W.Frag} {H : Hp} {S : Addr → Prop} {p : Addr} {T : Tr} (h : TrainAt K H S p T) : ∃ S', (∀ a, S' a → S a ∧ ∃ o, H a = some o) ∧ TrainAt K H S' p T := by
  obtain ⟨r, d, as, ent, R, sp, sr, sd, sa, sl⟩ := h
  obtain ⟨dx, e⟩ := R.ins
  refine ⟨fun a => a = p ∨ a = r ∨ a = d ∨ a ∈ as ∨ ∃ x ∈ ent, x.2.1 = a, fun a q => ?_, r, d, as, ent, R, .inl rfl, .inr (.inl rfl), .inr (.inr (.inl rfl)), fun a m => .inr (.inr (.inr (.inl m))), fun x m => .inr (.inr (.inr (.inr ⟨x, m, rfl⟩)))⟩
  rcases q with rfl | rfl | rfl | m | ⟨x, m, rfl⟩
  · exact ⟨sp, _, e⟩
  · exact ⟨sr, _, R.grid.top⟩
  · exact ⟨sd, _, R.dict⟩
  · obtain ⟨y, _, q⟩ := R.grid.row.mem_left m
    exact ⟨sa a m, _, q⟩
  · obtain ⟨ts, q, _⟩ := R.prt x m
    exact ⟨sl x m, _, q⟩

/-! ### promises of legs.py and Train -/
/-- a refusal's class -/
abbrev cls (K : PySem.W.Frag) (x : Str) : Value := .ref (He.ga K x)
def spReach (K : PySem.W.Frag) : Sp := fun vs H Q _ => ∃ (a : Addr) (row : List (Option Nat)) (s : Nat), vs = [.ref a, .int s] ∧ SqL K H a (row.map oV) ∧ Q (.int (reach row s)) H
def spFirstFull : Sp := fun vs H Q _ => ∃ (r : Addr) (as : List Addr) (g : Grid) (b e : Nat), vs = [.ref r, .int b, .int e] ∧ GridAt H r as g ∧ g.length ≤ 1000 ∧ e ≤ 1000 ∧ b ≤ 1000 ∧ (∀ row ∈ g, e ≤ row.length) ∧
  ∀ H', Ex H H' → Q (oV (firstFull g b e)) H'
def Str3 (T : Tr) (b e : Int) : Prop := 0 ≤ b ∧ b < e ∧ e < T.stops
def spInit (K : PySem.W.Frag) : Sp := fun vs H Q E => ∃ (p dx : Addr) (a b : Int), vs = [.ref p, .int a, .int b] ∧ H p = some (.ins (He.ga K "Train") dx []) ∧
  ((1 ≤ a ∧ a ≤ 60 ∧ 2 ≤ b ∧ b ≤ 60) → ∀ H' S, (∀ q o, q ≠ p → H q = some o → H' q = some o) → (∀ q, S q → q = p ∨ H q = none) → TrainAt K H' S p (Tr.new a.toNat b.toNat) → Q .non H') ∧
  (¬ (1 ≤ a ∧ a ≤ 60 ∧ 2 ≤ b ∧ b ≤ 60) → E (cls K "NoTrain") none H)
def spSize (K : PySem.W.Frag) : Sp := fun vs H Q _ => ∃ (S : Addr → Prop) (p : Addr) (T : Tr), vs = [.ref p] ∧ TrainAt K H S p T ∧ ∀ t, H t = none → Q (.ref t) (upd H t (.tup [.int T.rows.length, .int T.stops]))
def spTickets (K : PySem.W.Frag) : Sp := fun vs H Q _ => ∃ (S : Addr → Prop) (p : Addr) (T : Tr), vs = [.ref p] ∧ TrainAt K H S p T ∧
  ∀ l, H l = none → Q (.ref l) (upd H l (.lst (T.sold.map fun x => .int (x.1 : Int))))
def spNeedStretch (K : PySem.W.Frag) : Sp := fun vs H Q E => ∃ (S : Addr → Prop) (p : Addr) (T : Tr) (b e : Int), vs = [.ref p, .int b, .int e] ∧ TrainAt K H S p T ∧ (Str3 T b e → Q .non H) ∧ (¬ Str3 T b e → E (cls K "NoStretch") none H)
def spNeedSeat (K : PySem.W.Frag) : Sp := fun vs H Q E => ∃ (S : Addr → Prop) (p : Addr) (T : Tr) (s : Int), vs = [.ref p, .int s] ∧ TrainAt K H S p T ∧ ((0 ≤ s ∧ s < T.rows.length) → Q .non H) ∧ (¬ (0 ≤ s ∧ s < T.rows.length) → E (cls K "NoSeat") none H)
def spNeedLeg (K : PySem.W.Frag) : Sp := fun vs H Q E => ∃ (S : Addr → Prop) (p : Addr) (T : Tr) (s : Int), vs = [.ref p, .int s] ∧ TrainAt K H S p T ∧ ((0 ≤ s ∧ s < (T.stops : Int) - 1) → Q .non H) ∧ (¬ (0 ≤ s ∧ s < (T.stops : Int) - 1) → E (cls K "NoLeg") none H)
def spBlocked (K : PySem.W.Frag) : Sp := fun vs H Q E => ∃ (S : Addr → Prop) (p : Addr) (T : Tr) (b e : Int), vs = [.ref p, .int b, .int e] ∧ TrainAt K H S p T ∧
  (Str3 T b e → ∀ H', Ex H H' → Q (oV (firstFull T.rows b.toNat e.toNat)) H') ∧ (¬ Str3 T b e → E (cls K "NoStretch") none H)
def spFarthest (K : PySem.W.Frag) : Sp := fun vs H Q E => ∃ (S : Addr → Prop) (p : Addr) (T : Tr) (s t : Int), vs = [.ref p, .int s, .int t] ∧ TrainAt K H S p T ∧
  (∀ row, (0 ≤ s ∧ T.rows[s.toNat]? = some row) → (0 ≤ t ∧ t < T.stops) → Q (.int (reach row t.toNat)) H) ∧
  (¬ (0 ≤ s ∧ s < T.rows.length) → E (cls K "NoSeat") none H) ∧
  ((0 ≤ s ∧ s < T.rows.length) → ¬ (0 ≤ t ∧ t < T.stops) → E (cls K "NoStop") none H)
def spHolder (K : PySem.W.Frag) : Sp := fun vs H Q E => ∃ (S : Addr → Prop) (p : Addr) (T : Tr) (s t : Int), vs = [.ref p, .int s, .int t] ∧ TrainAt K H S p T ∧
  (∀ row h, (0 ≤ s ∧ T.rows[s.toNat]? = some row) → (0 ≤ t ∧ row[t.toNat]? = some h) → Q (oV h) H) ∧
  (¬ (0 ≤ s ∧ s < T.rows.length) → E (cls K "NoSeat") none H) ∧
  ((0 ≤ s ∧ s < T.rows.length) → ¬ (0 ≤ t ∧ t < (T.stops : Int) - 1) → E (cls K "NoLeg") none H)
def spLoad (K : PySem.W.Frag) : Sp := fun vs H Q E => ∃ (S : Addr → Prop) (p : Addr) (T : Tr) (t : Int), vs = [.ref p, .int t] ∧ TrainAt K H S p T ∧
  ((0 ≤ t ∧ t < (T.stops : Int) - 1) → ∀ H', Ex H H' → Q (.int (load T.rows t.toNat)) H') ∧
  (¬ (0 ≤ t ∧ t < (T.stops : Int) - 1) → E (cls K "NoLeg") none H)
end Lg

namespace Lg
open PySem PySem.Spec PyProof.Rows L2

theorem iteD {p : Prop} [Decidable p] {A B : Prop} (h1 : p → A) (h2 : ¬ p → B) : if decide p = true then A else B := by
  by_cases h : p
  · rw [if_pos (decide_eq_true h)]
    exact h1 h
  · rw [if_neg (by rw [decide_eq_false h]; exact Bool.false_ne_true)]
    exact h2 h
theorem iteN {p : Prop} [Decidable p] {A B : Prop} (h1 : ¬ p → A) (h2 : p → B) : if (!decide p) = true then A else B := by
  by_cases h : p
  · rw [if_neg (by rw [decide_eq_true h]; decide)]
    exact h2 h
  · rw [if_pos (by rw [decide_eq_false h]; decide)]
    exact h1 h
theorem iteB {b : Bool} {A B : Prop} (h1 : b = true → A) (h2 : b = false → B) : if b = true then A else B := by
  cases b with
  | true => exact iteT (h1 rfl)
  | false => exact iteF (h2 rfl)
theorem iteBn {b : Bool} {A B : Prop} (h1 : b = false → A) (h2 : b = true → B) : if (!b) = true then A else B := by
  cases b with
  | true => exact iteF (h2 rfl)
  | false => exact iteT (h1 rfl)
/-- the way that is known -/
theorem iteY {c : Prop} [Decidable c] {A B : Prop} (hc : c) (h : A) : if c then A else B := by
  rw [if_pos hc]
  exact h
theorem iteNo {c : Prop} [Decidable c] {A B : Prop} (hc : ¬ c) (h : B) : if c then A else B := by
  rw [if_neg hc]
  exact h

/-! ### comprehensions -/
def kept (n : Nat) (keep : Nat → Bool) : List Nat := (List.range n).filter keep
theorem kept_yes {n : Nat} {keep : Nat → Bool} (h : keep n = true) : kept (n + 1) keep = kept n keep ++ [n] := by
  unfold kept
  rw [List.range_succ, List.filter_append, List.filter_cons, if_pos h]
  rfl
theorem kept_no {n : Nat} {keep : Nat → Bool} (h : keep n = false) : kept (n + 1) keep = kept n keep := by
  unfold kept
  rw [List.range_succ, List.filter_append, List.filter_cons, if_neg (by rw [h]; exact Bool.false_ne_true)]
  exact List.append_nil _
theorem kept_len (n : Nat) (keep : Nat → Bool) : (kept n keep).length ≤ n := by
  have h := List.length_filter_le keep (List.range n)
  rw [List.length_range] at h
  exact h
theorem kept_all (n : Nat) : kept n (fun _ => true) = List.range n := by
  unfold kept
  exact List.filter_eq_self.mpr fun _ _ => rfl
section
variable {J : It} {n : Nat} {G : Hp → Prop} {Y : Nat → Hp → V → Hp → Prop}
theorem lc_ex (w : Walk J n G Y) {Xr : Nat → V → Prop} (hY : ∀ i H x H', Y i H x H' → H' = H ∧ Xr i x) {j : Nat} {tt : TT} {te : TE} {vs : List Nat} {σ : L2.St} {H1 : Hp} {D : Addr} {Qd : Hp → Prop} (hD : H1 D = none)
    (hG : ∀ H, Ex H1 H → G H) (hn : n ≤ 100000) (keep : Nat → Bool) (R : Hp → Nat → V → Prop) (mono : ∀ H H' i v, Ex H H' → R H i v → R H' i v)
    (hw : ∀ x, wipe ((wipe σ vs).set j (some x)) vs = wipe σ vs)
    (ht : ∀ i x H, i < n → Xr i x → Ex H1 H → ∀ Q : Bool → Hp → Prop, (∀ H', Ex H H' → Q (keep i) H') → tt ((wipe σ vs).set j (some x)) H Q)
    (he : ∀ i x H, i < n → Xr i x → keep i = true → Ex H1 H → (∃ o, H D = some o) → ∀ Q : VK, (∀ y H' Hn, Ex H H' → Ex Hn H' → Hn D = none → R Hn i y → Q y H') → te ((wipe σ vs).set j (some x)) H Q)
    (q : ∀ H' ys, Ex H1 H' → H' D = some (.lst ys) → All2 (R H') (kept n keep) ys → Qd H') :
    ∃ W : Nat → Nat → Hp → Prop, (∃ m, W 0 m (upd H1 D (.lst []))) ∧ ∀ i m H, W i m H →
      (J.stop i H ∧ Qd H) ∨ (J.go i H ∧ ∃ Nx : Hp → Prop, (∀ H', Nx H' → ∃ m', m' < m ∧ W (i + 1) m' H') ∧ ∀ x H', J.yld i H x H' → gName j x (wipe σ vs) H' fun σ2 H2 => wipe σ2 vs = wipe σ vs ∧ tt σ2 H2 fun b H3 =>
        if b = true then te σ2 H3 fun y H4 => ∃ acc, H4 D = some (.lst acc) ∧ acc.length < sizeLine ∧ Nx (upd H4 D (.lst (acc ++ [y]))) else Nx H3) := by
  refine lc_it w (fun i H => Ex H1 H ∧ ∃ acc, H D = some (.lst acc) ∧ All2 (fun k y => ∃ Hn, Hn D = none ∧ Ex Hn H ∧ R Hn k y) (kept i keep) acc)
    ⟨Evl.Ex.new hD, [], upd_same, All2.nil⟩ (fun i H _ p => hG H p.1) ?_ ?_
  · rintro i x H H' hi ⟨ex, acc, hacc, hall⟩ y
    obtain ⟨rfl, xr⟩ := hY _ _ _ _ y
    refine ⟨hw x, ht i x H' hi xr ex _ fun H3 e3 => ?_⟩
    have hall3 : All2 (fun k y => ∃ Hn, Hn D = none ∧ Ex Hn H3 ∧ R Hn k y) (kept i keep) acc := hall.mono fun k y ⟨Hn, a, b, c⟩ => ⟨Hn, a, b.trans e3, c⟩
    refine iteB (fun hk => ?_) (fun hk => ?_)
    · refine he i x H3 hi xr hk (ex.trans e3) ⟨_, e3 _ _ hacc⟩ _ fun y H4 Hn e4 en nD r => ?_
      have hl : acc.length < sizeLine := by
        rw [← hall.len]
        exact Nat.lt_of_le_of_lt (kept_len i keep) (Nat.lt_of_lt_of_le hi (Nat.le_trans hn (by decide)))
      refine ⟨acc, e4 _ _ (e3 _ _ hacc), hl, Evl.Ex.mut ((ex.trans e3).trans e4) hD, _, upd_same, ?_⟩
      rw [kept_yes hk]
      refine All2.snoc (hall3.mono fun k y ⟨Hn, a, b, c⟩ => ⟨Hn, a, Evl.Ex.mut (b.trans e4) a, c⟩) ⟨Hn, nD, Evl.Ex.mut en nD, r⟩
    · refine ⟨ex.trans e3, acc, e3 _ _ hacc, ?_⟩
      rw [kept_no hk]
      exact hall3
  · rintro H ⟨ex, acc, hacc, hall⟩
    exact q H acc ex hacc (hall.mono fun k y ⟨Hn, a, b, c⟩ => mono _ _ _ _ b c)
/-- the same, each element a value that does not lean on the heap -/
theorem lc_v (w : Walk J n G Y) {Xr : Nat → V → Prop} (hY : ∀ i H x H', Y i H x H' → H' = H ∧ Xr i x) {j : Nat} {tt : TT} {te : TE} {vs : List Nat} {σ : L2.St} {H1 : Hp} {D : Addr} {Qd : Hp → Prop} (hD : H1 D = none)
    (hG : ∀ H, Ex H1 H → G H) (hn : n ≤ 100000) (keep : Nat → Bool) (v : Nat → V)
    (hw : ∀ x, wipe ((wipe σ vs).set j (some x)) vs = wipe σ vs)
    (ht : ∀ i x H, i < n → Xr i x → Ex H1 H → ∀ Q : Bool → Hp → Prop, (∀ H', Ex H H' → Q (keep i) H') → tt ((wipe σ vs).set j (some x)) H Q)
    (he : ∀ i x H, i < n → Xr i x → keep i = true → Ex H1 H → ∀ Q : VK, (∀ H', Ex H H' → Q (v i) H') → te ((wipe σ vs).set j (some x)) H Q)
    (q : ∀ H', Ex H1 H' → H' D = some (.lst ((kept n keep).map v)) → Qd H') :
    ∃ W : Nat → Nat → Hp → Prop, (∃ m, W 0 m (upd H1 D (.lst []))) ∧ ∀ i m H, W i m H →
      (J.stop i H ∧ Qd H) ∨ (J.go i H ∧ ∃ Nx : Hp → Prop, (∀ H', Nx H' → ∃ m', m' < m ∧ W (i + 1) m' H') ∧ ∀ x H', J.yld i H x H' → gName j x (wipe σ vs) H' fun σ2 H2 => wipe σ2 vs = wipe σ vs ∧ tt σ2 H2 fun b H3 =>
        if b = true then te σ2 H3 fun y H4 => ∃ acc, H4 D = some (.lst acc) ∧ acc.length < sizeLine ∧ Nx (upd H4 D (.lst (acc ++ [y]))) else Nx H3) := by
  refine lc_ex w hY hD hG hn keep (fun _ i y => y = v i) (fun _ _ _ _ _ h => h) hw ht (fun i x H hi xr hk ex hd Q k => he i x H hi xr hk ex Q fun H' e => k (v i) H' H1 e (ex.trans e) hD rfl) fun H' ys ex hd hall => ?_
  refine q H' ex ?_
  have e : ys = (kept n keep).map v := by
    refine All2.map_eq ?_
    refine ⟨hall.len.symm, fun i x y hx hy => hall.at_ i y x hy hx⟩
  rw [← e]
  exact hd
end
theorem y_list {xs : List V} : ∀ (i : Nat) (H : Hp) (x : V) (H' : Hp), YAt xs i H x H' → H' = H ∧ xs[i]? = some x := fun _ _ _ _ h => h
theorem y_range {f : Nat → V} : ∀ (i : Nat) (H : Hp) (x : V) (H' : Hp), YFn f i H x H' → H' = H ∧ x = f i := fun _ _ _ _ h => h
/-- no test -/
theorem lc_yes {n : Nat} {Xr : Nat → V → Prop} {H1 : Hp} {σ : L2.St} {vs : List Nat} {j : Nat} :
    ∀ i x H, i < n → Xr i x → Ex H1 H → ∀ Q : Bool → Hp → Prop, (∀ H', Ex H H' → Q true H') → tYes ((wipe σ vs).set j (some x)) H Q := fun _ _ H _ _ _ _ q => q H (Evl.Ex.refl H)
theorem sqL_ex {K : PySem.W.Frag} {H H' : Hp} {a : Addr} {xs : List V} (h : SqL K H a xs) (e : Ex H H') : SqL K H' a xs := Evl.ex_l e h
theorem sqL_of {K : PySem.W.Frag} {H H' : Hp} {a : Addr} {xs : List V} (h : H a = some (.lst xs)) (e : Ex H H') : SqL K H' a xs := SqL.of (e _ _ h)
theorem held_at {row : List (Option Nat)} {l : Nat} {h : Option Nat} (e : row[l]? = some h) : held row l = h.isSome := by
  unfold held
  rw [e]
  rfl
theorem oV_some {x : Option Nat} : (!decide (oV x = V.non)) = x.isSome := by
  rw [oV_none]
  cases x <;> rfl
theorem all_map_range (g : Grid) (f : List (Option Nat) → Bool) (b : Nat → Bool) (h : ∀ i row, g[i]? = some row → b i = f row) : ((List.range g.length).map b).all id = g.all f := by
  have e : (List.range g.length).map b = g.map f := by
    apply List.ext_getElem?
    intro i
    rw [List.getElem?_map, List.getElem?_map]
    by_cases hi : i < g.length
    · have h1 := List.getElem?_eq_getElem hi
      rw [h1, List.getElem?_range hi]
      show some (b i) = some (f g[i])
      rw [h i _ h1]
    · rw [List.getElem?_eq_none (by rw [List.length_range]; omega), List.getElem?_eq_none (by omega)]
      rfl
  rw [e, List.all_map]
  rfl
theorem kept_filter {α : Type} : ∀ (l : List α) (f : α → Bool) (keep : Nat → Bool), (∀ i x, l[i]? = some x → keep i = f x) → (kept l.length keep).length = (l.filter f).length := by
  intro l f keep h
  have main : ∀ n, n ≤ l.length → (kept n keep).length = ((l.take n).filter f).length := by
    intro n
    induction n with
    | zero => intro _; rfl
    | succ n ih =>
      intro hn
      have hl : n < l.length := hn
      have e := List.getElem?_eq_getElem hl
      have et : l.take (n + 1) = l.take n ++ [l[n]] := by rw [List.take_succ_eq_append_getElem hl]
      have hk := h n _ e
      rw [et, List.filter_append, List.length_append, ← ih (by omega)]
      cases hf : f l[n] with
      | true =>
        rw [hf] at hk
        rw [kept_yes hk, List.length_append, List.filter_cons, if_pos hf]
        rfl
      | false =>
        rw [hf] at hk
        rw [kept_no hk, List.filter_cons, if_neg (by rw [hf]; exact Bool.false_ne_true)]
        rfl
  rw [main l.length (Nat.le_refl _), List.take_length]
end Lg
namespace Lg
open PySem PySem.Spec PyProof.Rows L2
theorem entD_keys (ent : List Ent) : (entD ent).map (·.1) = ((entS ent).map fun x => (x.1 : Int)).map Sum.inl := by
  unfold entD entS
  rw [List.map_map, List.map_map, List.map_map]
  rfl
theorem sorted_is {sold : List (Nat × List P3)} {ys : List Int} (hp : ys.Perm (sold.map fun x => (x.1 : Int))) (hs : ys.Pairwise (· ≤ ·)) (hr : (sold.map (·.1)).Pairwise (· < ·)) : ys = sold.map fun x => (x.1 : Int) := by
  refine List.Perm.eq_of_pairwise (le := fun a b : Int => a ≤ b) (fun a b _ _ h1 h2 => Int.le_antisymm h1 h2) hs ?_ hp
  have h2 := List.pairwise_map.mp hr
  exact List.pairwise_map.mpr (h2.imp fun h => by omega)
end Lg
namespace Lg
theorem range_split {b i n : Nat} (h : i < n) : List.range' b n = List.range' b i ++ (b + i) :: List.range' (b + i + 1) (n - i - 1) := by
  have e : List.range' b (i + ((n - i - 1) + 1)) = List.range' b i ++ (b + i) :: List.range' (b + i + 1) (n - i - 1) := by
    rw [← List.range'_append_1, List.range'_succ]
  have h1 : i + ((n - i - 1) + 1) = n := by omega
  rw [h1] at e
  exact e
end Lg

namespace Lg
open PySem PySem.Spec PyProof.Rows L2
section
variable {J : It} {n : Nat} {G : Hp → Prop} {Y : Nat → Hp → V → Hp → Prop}
/-- each element a new object -/
theorem lc_new (w : Walk J n G Y) {Xr : Nat → V → Prop} (hY : ∀ i H x H', Y i H x H' → H' = H ∧ Xr i x) {j : Nat} {tt : TT} {te : TE} {vs : List Nat} {σ : L2.St} {H1 : Hp} {D : Addr} {Qd : Hp → Prop} (hD : H1 D = none)
    (hG : ∀ H, Ex H1 H → G H) (hn : n ≤ 100000) (keep : Nat → Bool) (R : Nat → HO → Prop)
    (hw : ∀ x, wipe ((wipe σ vs).set j (some x)) vs = wipe σ vs)
    (ht : ∀ i x H, i < n → Xr i x → Ex H1 H → ∀ Q : Bool → Hp → Prop, (∀ H', Ex H H' → Q (keep i) H') → tt ((wipe σ vs).set j (some x)) H Q)
    (he : ∀ i x H, i < n → Xr i x → keep i = true → Ex H1 H → (∃ o, H D = some o) → ∀ Q : VK, (∀ a H' o, H a = none → Ex H H' → H' a = some o → R i o → Q (.ref a) H') → te ((wipe σ vs).set j (some x)) H Q)
    (q : ∀ H' (as : List Addr), Ex H1 H' → H' D = some (.lst (as.map V.ref)) → as.Nodup → (∀ a ∈ as, H1 a = none ∧ a ≠ D) → All2 (fun i a => ∃ o, H' a = some o ∧ R i o) (kept n keep) as → Qd H') :
    ∃ W : Nat → Nat → Hp → Prop, (∃ m, W 0 m (upd H1 D (.lst []))) ∧ ∀ i m H, W i m H →
      (J.stop i H ∧ Qd H) ∨ (J.go i H ∧ ∃ Nx : Hp → Prop, (∀ H', Nx H' → ∃ m', m' < m ∧ W (i + 1) m' H') ∧ ∀ x H', J.yld i H x H' → gName j x (wipe σ vs) H' fun σ2 H2 => wipe σ2 vs = wipe σ vs ∧ tt σ2 H2 fun b H3 =>
        if b = true then te σ2 H3 fun y H4 => ∃ acc, H4 D = some (.lst acc) ∧ acc.length < sizeLine ∧ Nx (upd H4 D (.lst (acc ++ [y]))) else Nx H3) := by
  refine lc_it w (fun i H => Ex H1 H ∧ ∃ as : List Addr, H D = some (.lst (as.map V.ref)) ∧ as.Nodup ∧ (∀ a ∈ as, H1 a = none ∧ a ≠ D) ∧ All2 (fun k a => ∃ o, H a = some o ∧ R k o) (kept i keep) as)
    ⟨Evl.Ex.new hD, [], upd_same, List.nodup_nil, fun a m => by simp at m, All2.nil⟩ (fun i H _ p => hG H p.1) ?_ ?_
  · rintro i x H H' hi ⟨ex, as, hacc, nd, fr, hall⟩ y
    obtain ⟨rfl, xr⟩ := hY _ _ _ _ y
    refine ⟨hw x, ht i x H' hi xr ex _ fun H3 e3 => ?_⟩
    have hall3 : All2 (fun k a => ∃ o, H3 a = some o ∧ R k o) (kept i keep) as := hall.mono fun k y ⟨o, a, b⟩ => ⟨o, e3 _ _ a, b⟩
    have hD3 := e3 _ _ hacc
    refine iteB (fun hk => ?_) (fun hk => ?_)
    · refine he i x H3 hi xr hk (ex.trans e3) ⟨_, hD3⟩ _ fun a H4 o n3 e4 ha r => ?_
      have hl : (as.map V.ref).length < sizeLine := by
        rw [List.length_map, ← hall.len]
        exact Nat.lt_of_le_of_lt (kept_len i keep) (Nat.lt_of_lt_of_le hi (Nat.le_trans hn (by decide)))
      have naD : a ≠ D := fun z => by
        rw [z, hD3] at n3
        cases n3
      refine ⟨_, e4 _ _ hD3, hl, Evl.Ex.mut ((ex.trans e3).trans e4) hD, as ++ [a], by rw [List.map_append]; exact upd_same, ?_, fun b m => ?_, ?_⟩
      · refine List.nodup_append.mpr ⟨nd, List.nodup_cons.mpr ⟨by simp, List.nodup_nil⟩, fun b m c mc => ?_⟩
        rw [List.mem_singleton.mp mc]
        rintro rfl
        obtain ⟨k, _, o2, z, _⟩ : ∃ k, True ∧ ∃ o2, H3 b = some o2 ∧ True := by
          obtain ⟨j2, hj, ej⟩ := List.mem_iff_getElem.mp m
          obtain ⟨k, _, o2, z, _⟩ := hall3.right (i := j2) (y := b) (by rw [List.getElem?_eq_getElem hj, ej])
          exact ⟨k, trivial, o2, z, trivial⟩
        rw [z] at n3
        cases n3
      · rcases List.mem_append.mp m with m | m
        · exact fr b m
        · rw [List.mem_singleton.mp m]
          exact ⟨Evl.fresh_back (ex.trans e3) n3, naD⟩
      · rw [kept_yes hk]
        refine All2.snoc (hall3.monoM fun k b _ m ⟨o2, z, r2⟩ => ⟨o2, by rw [upd_ne (fr b m).2]; exact e4 _ _ z, r2⟩) ⟨o, by rw [upd_ne naD]; exact ha, r⟩
    · refine ⟨ex.trans e3, as, hD3, nd, fr, ?_⟩
      rw [kept_no hk]
      exact hall3
  · rintro H ⟨ex, as, hacc, nd, fr, hall⟩
    exact q H as ex hacc nd fr hall
end
theorem rep_none (n : Nat) : (List.replicate n [V.non]).flatten = (List.replicate n (none : Option Nat)).map oV := by
  induction n with
  | zero => rfl
  | succ n ih =>
    rw [List.replicate_succ, List.replicate_succ, List.flatten_cons, ih]
    rfl
theorem Tr.new_wf {seats stops : Nat} (h1 : 1 ≤ seats) (h2 : seats ≤ 60) (h3 : 2 ≤ stops) (h4 : stops ≤ 60) : (Tr.new seats stops).Wf where
  s1 := by show 1 ≤ (List.replicate _ _).length; rw [List.length_replicate]; exact h1
  s2 := by show (List.replicate _ _).length ≤ 60; rw [List.length_replicate]; exact h2
  t1 := h3
  t2 := h4
  legs := fun row m => by
    rw [List.eq_of_mem_replicate m, List.length_replicate]
    rfl
  rising := List.Pairwise.nil
theorem all_rows {as : List Addr} {H : Hp} {n : Nat} {row : List (Option Nat)} (h : All2 (fun (i : Nat) a => ∃ o, H a = some o ∧ o = .lst (row.map oV)) (List.range n) as) : All2 (RowAt H) as (List.replicate n row) := by
  refine ⟨by rw [List.length_replicate, ← h.len, List.length_range], fun i a r ha hr => ?_⟩
  obtain ⟨k, _, o, e, eo⟩ := h.right ha
  rw [List.getElem?_replicate] at hr
  split at hr
  · cases hr
    unfold RowAt
    rw [e, eo]
  · cases hr
theorem fresh_upd {H : Hp} {a b : Addr} {o : HO} (h : upd H a o b = none) : b ≠ a ∧ H b = none := by
  have hne : b ≠ a := fun z => by
    rw [z, upd_same] at h
    cases h
  refine ⟨hne, ?_⟩
  rw [upd_ne hne] at h
  exact h
end Lg
namespace Lg
open PySem PySem.Spec PyProof.Rows L2
theorem putF_len (f : Str) (v : V) : ∀ fs : List (Str × V), (putF f v fs).length ≤ fs.length + 1
  | [] => Nat.le_refl _
  | (g, u) :: r => by
    unfold putF
    split
    · rw [List.length_cons, List.length_cons]
      omega
    · rw [List.length_cons, List.length_cons]
      have := putF_len f v r
      omega
end Lg
namespace Lg
open PySem PySem.Spec PyProof.Rows L2
/-! ### promises of the laws' small helpers -/
def cellAt (ns : List Int) (k : Nat) : Int := (ns[k]?).getD 0
def spCellAt (K : PySem.W.Frag) : Sp := fun vs H Q _ => ∃ (a : Addr) (ns : List Int) (k : Nat), vs = [.ref a, .int k] ∧ SqL K H a (ns.map V.int) ∧ Q (.int (cellAt ns k)) H
def isI : V → Bool
  | .int _ => true
  | _ => false
/-- a value whose kind is known -/
def Plain (H : Hp) (x : V) : Prop := x = .non ∨ (∃ b, x = .bl b) ∨ (∃ i, x = .int i) ∨ (∃ z, x = .str z) ∨ (∃ a xs, x = .ref a ∧ H a = some (.lst xs)) ∨ ∃ a xs, x = .ref a ∧ H a = some (.tup xs)
def spWhole : Sp := fun vs H Q _ => ∃ x, vs = [x] ∧ Plain H x ∧ Q (.bl (isI x)) H
def spNumbers (K : PySem.W.Frag) : Sp := fun vs H Q _ => ∃ (f d : Addr) (ns ms : List Int), vs = [.ref f, .ref d] ∧ H f = some (.lst (ns.map V.int)) ∧ H d = some (.lst (ms.map V.int)) ∧ ns.length ≤ 1000000 ∧ ms.length ≤ 1000000 ∧ Q (.bl (decide (ns = ms))) H
def spAnyInt : Sp := fun vs H Q _ => ∃ c : Int, vs = [.int c] ∧ ∀ (v : Int) H', Ex H H' → Q (.int v) H'
end Lg
namespace Lg
open PySem PySem.Spec PyProof.Rows L2
section
variable {s c : Nat} {r d : Addr}
theorem nf_sell : (trF s r d c).lookup ("sell" : Str) = none := trF_no (by decide +kernel) (by decide +kernel) (by decide +kernel) (by decide +kernel)
theorem nf_back : (trF s r d c).lookup ("back" : Str) = none := trF_no (by decide +kernel) (by decide +kernel) (by decide +kernel) (by decide +kernel)
theorem nf_leave : (trF s r d c).lookup ("leave" : Str) = none := trF_no (by decide +kernel) (by decide +kernel) (by decide +kernel) (by decide +kernel)
theorem nf_reseat : (trF s r d c).lookup ("reseat" : Str) = none := trF_no (by decide +kernel) (by decide +kernel) (by decide +kernel) (by decide +kernel)
theorem nf_parts : (trF s r d c).lookup ("parts" : Str) = none := trF_no (by decide +kernel) (by decide +kernel) (by decide +kernel) (by decide +kernel)
theorem nf_tickets : (trF s r d c).lookup ("tickets" : Str) = none := trF_no (by decide +kernel) (by decide +kernel) (by decide +kernel) (by decide +kernel)
theorem nf_row : (trF s r d c).lookup ("row" : Str) = none := trF_no (by decide +kernel) (by decide +kernel) (by decide +kernel) (by decide +kernel)
theorem nf_blocked : (trF s r d c).lookup ("blocked" : Str) = none := trF_no (by decide +kernel) (by decide +kernel) (by decide +kernel) (by decide +kernel)
theorem nf_farthest : (trF s r d c).lookup ("farthest" : Str) = none := trF_no (by decide +kernel) (by decide +kernel) (by decide +kernel) (by decide +kernel)
theorem nf_holder : (trF s r d c).lookup ("holder" : Str) = none := trF_no (by decide +kernel) (by decide +kernel) (by decide +kernel) (by decide +kernel)
theorem nf_load : (trF s r d c).lookup ("load" : Str) = none := trF_no (by decide +kernel) (by decide +kernel) (by decide +kernel) (by decide +kernel)
theorem nf_size : (trF s r d c).lookup ("size" : Str) = none := trF_no (by decide +kernel) (by decide +kernel) (by decide +kernel) (by decide +kernel)
theorem nf_mark : (trF s r d c).lookup ("mark" : Str) = none := trF_no (by decide +kernel) (by decide +kernel) (by decide +kernel) (by decide +kernel)
theorem nf_take : (trF s r d c).lookup ("take" : Str) = none := trF_no (by decide +kernel) (by decide +kernel) (by decide +kernel) (by decide +kernel)
theorem nf_need_stretch : (trF s r d c).lookup ("need_stretch" : Str) = none := trF_no (by decide +kernel) (by decide +kernel) (by decide +kernel) (by decide +kernel)
theorem nf_need_seat : (trF s r d c).lookup ("need_seat" : Str) = none := trF_no (by decide +kernel) (by decide +kernel) (by decide +kernel) (by decide +kernel)
theorem nf_need_leg : (trF s r d c).lookup ("need_leg" : Str) = none := trF_no (by decide +kernel) (by decide +kernel) (by decide +kernel) (by decide +kernel)
end
theorem rg_seats : ∀ s : _root_.Fin 61, 1 ≤ s.val → Builtin.Range.small 0 (s.val : Int) (1 + (s.val : Int) / 8) = true ∧ Builtin.Range.rangeSize 0 (s.val : Int) (1 + (s.val : Int) / 8) = ((Builtin.Range.rangeSize 0 (s.val : Int) (1 + (s.val : Int) / 8)).toNat : Int) ∧
    ∀ i : _root_.Fin 61, i.val < (Builtin.Range.rangeSize 0 (s.val : Int) (1 + (s.val : Int) / 8)).toNat → (i.val : Int) * (1 + (s.val : Int) / 8) < (s.val : Int) := by decide +kernel
theorem rg_le : ∀ s : _root_.Fin 61, (Builtin.Range.rangeSize 0 (s.val : Int) (1 + (s.val : Int) / 8)).toNat ≤ 60 := by decide +kernel
def spEmpty (K : PySem.W.Frag) : Sp := fun vs H Q _ => ∃ (S : Addr → Prop) (p : Addr) (seats stops : Nat), vs = [.ref p, .int seats, .int stops] ∧ TrainAt K H S p (Tr.new seats stops) ∧ ∀ H', Ex H H' → Q (.bl true) H'
theorem new_row {seats stops i : Nat} {row : List (Option Nat)} (h : (Tr.new seats stops).rows[i]? = some row) : row = List.replicate (stops - 1) none := by
  have h2 : (List.replicate seats (List.replicate (stops - 1) (none : Option Nat)))[i]? = some row := h
  rw [List.getElem?_replicate] at h2
  split at h2
  · exact (Option.some.inj h2).symm
  · cases h2
theorem reach_new {n t : Nat} (h : t ≤ n) : reach (List.replicate n none) t = n := by
  unfold reach
  rw [List.drop_replicate]
  have e : ∀ m, ((List.replicate m (none : Option Nat)).takeWhile Option.isNone).length = m := by
    intro m
    induction m with
    | zero => rfl
    | succ m ih => rw [List.replicate_succ, List.takeWhile_cons]; simp [ih]
  rw [e]
  omega
theorem held_new {n l : Nat} : held (List.replicate n none) l = false := by
  unfold held
  rw [List.getElem?_replicate]
  split <;> rfl
theorem load_new {seats stops l : Nat} : load (Tr.new seats stops).rows l = 0 := by
  show (List.filter _ (List.replicate seats (List.replicate (stops - 1) none))).length = 0
  rw [List.filter_replicate, held_new]
  rfl
theorem full_new {seats stops l : Nat} (h : 1 ≤ seats) : fullLeg (Tr.new seats stops).rows l = false := by
  show List.all (List.replicate seats (List.replicate (stops - 1) none)) _ = false
  rw [List.all_replicate, held_new]
  rw [if_neg (by omega)]
theorem ff_new {seats stops b e : Nat} (h : 1 ≤ seats) : firstFull (Tr.new seats stops).rows b e = none := by
  unfold firstFull
  refine List.find?_eq_none.mpr fun x _ => ?_
  rw [full_new h]
  exact Bool.false_ne_true
end Lg
namespace Lg
open PySem PySem.Spec PyProof.Rows L2
def spLaw (K : PySem.W.Frag) : Sp := fun vs H Q _ => ∃ (a : Addr) (ns : List Int), vs = [.ref a] ∧ SqL K H a (ns.map V.int) ∧ ns.length ≤ 63 ∧ ∀ H', Q (.bl true) H'
end Lg
namespace Lg
open PySem PySem.Spec PyProof.Rows L2
theorem fn_zero {P : Program} {w : World} {K : PySem.W.Frag} {mg : Str → Option Value} {base : Heap} {k : Nat} {f : Addr} {fd : FuncData} {ps : List Str} {sp : Sp} (F : FnOk P w K mg base (L2.CX P w) k f fd ps sp) :
    FnOk P w K mg base CX0 k f fd ps (fun vs H Q _ => sp vs H Q E0) := by
  refine ⟨fun vs H Q E h => F.len vs H Q E0 h, fun A outer s H args us vs Q E hr he hb hv hs => ?_⟩
  refine codeAny_mono (F.run A outer s H args us vs Q E0 hr he hb hv hs) fun r s' q => ?_
  cases r with
  | ok fl => cases fl <;> exact q
  | error e =>
    obtain ⟨_, _, _, _, _, _, _, _, _, _, _, _, z⟩ := q
    exact z.elim
end Lg

namespace Lg
open PySem PySem.Spec PyProof.Rows L2

/-! ### the tickets as a table -/
def getS (sold : List (Nat × List P3)) (t : Int) : Option (List P3) := (sold.find? fun x => decide ((x.1 : Int) = t)).map (·.2)
def putS (sold : List (Nat × List P3)) (t : Nat) (ps : List P3) : List (Nat × List P3) := if (sold.any fun x => decide (x.1 = t)) = true then sold.map (fun x => if x.1 = t then (t, ps) else x) else sold ++ [(t, ps)]
def dropS (sold : List (Nat × List P3)) (t : Nat) : List (Nat × List P3) := sold.filter fun x => decide (x.1 ≠ t)
def entPut (ent : List Ent) (t : Nat) (l : Addr) (ps : List P3) : List Ent := if (ent.any fun x => decide (x.1 = t)) = true then ent.map (fun x => if x.1 = t then (t, l, ps) else x) else ent ++ [(t, l, ps)]
theorem inl_iff {a b : Nat} : ((Sum.inl (a : Int) : Key) = Sum.inl (b : Int)) ↔ a = b := by
  refine ⟨fun h => ?_, fun h => by rw [h]⟩
  have h2 : (a : Int) = (b : Int) := Sum.inl.inj h
  exact Int.ofNat_inj.mp h2
theorem inl_iff' {a : Nat} {b : Int} : ((Sum.inl (a : Int) : Key) = Sum.inl b) ↔ (a : Int) = b := ⟨fun h => Sum.inl.inj h, fun h => by rw [h]⟩
theorem ent_any (ent : List Ent) (t : Nat) : ((entS ent).any fun x => decide (x.1 = t)) = ent.any fun x => decide (x.1 = t) := by
  unfold entS
  rw [List.any_map]
  rfl
theorem entS_put (ent : List Ent) (t : Nat) (l : Addr) (ps : List P3) : entS (entPut ent t l ps) = putS (entS ent) t ps := by
  unfold entPut putS
  rw [ent_any]
  split
  · unfold entS
    rw [List.map_map, List.map_map]
    apply List.map_congr_left
    intro x _
    show ((if x.1 = t then ((t, l, ps) : Ent) else x).1, (if x.1 = t then ((t, l, ps) : Ent) else x).2.2) = if x.1 = t then (t, ps) else (x.1, x.2.2)
    split <;> rfl
  · unfold entS
    rw [List.map_append]
    rfl
theorem entD_put (ent : List Ent) (t : Nat) (l : Addr) (ps : List P3) : entD (entPut ent t l ps) = putK (entD ent) (Sum.inl (t : Int)) (.ref l) := by
  have ha : ((entD ent).any fun kv => decide (kv.1 = (Sum.inl (t : Int) : Key))) = ent.any fun x => decide (x.1 = t) := by
    unfold entD
    rw [List.any_map]
    congr 1
    funext x
    show decide ((Sum.inl (x.1 : Int) : Key) = Sum.inl (t : Int)) = decide (x.1 = t)
    exact decide_eq_decide.mpr inl_iff
  unfold entPut putK
  rw [ha]
  split
  · unfold entD
    rw [List.map_map, List.map_map]
    apply List.map_congr_left
    intro x _
    show ((Sum.inl ((if x.1 = t then ((t, l, ps) : Ent) else x).1 : Int) : Key), V.ref (if x.1 = t then ((t, l, ps) : Ent) else x).2.1) =
      if (Sum.inl (x.1 : Int) : Key) = Sum.inl (t : Int) then (Sum.inl (x.1 : Int), V.ref l) else (Sum.inl (x.1 : Int), V.ref x.2.1)
    by_cases h : x.1 = t
    · rw [if_pos h, if_pos (inl_iff.mpr h), h]
    · rw [if_neg h, if_neg (fun z => h (inl_iff.mp z))]
  · unfold entD
    rw [List.map_append]
    rfl
theorem entD_drop (ent : List Ent) (t : Nat) : entD (ent.filter fun x => decide (x.1 ≠ t)) = dropK (entD ent) (Sum.inl (t : Int)) := by
  unfold entD dropK
  rw [List.filter_map]
  congr 1
  apply List.filter_congr
  intro x _
  show decide (x.1 ≠ t) = decide ((Sum.inl (x.1 : Int) : Key) ≠ Sum.inl (t : Int))
  exact decide_eq_decide.mpr (not_congr inl_iff.symm)
theorem entS_drop (ent : List Ent) (t : Nat) : entS (ent.filter fun x => decide (x.1 ≠ t)) = dropS (entS ent) t := by
  unfold entS dropS
  rw [List.filter_map]
  rfl
/-- what the dict tells of a number -/
theorem entD_get (ent : List Ent) (t : Int) : valV (entD ent) (Sum.inl t) = (ent.find? fun x => decide ((x.1 : Int) = t)).map fun x => V.ref x.2.1 := by
  unfold valV entD
  rw [List.find?_map, Option.map_map]
  have e : ((fun kv : Key × V => decide (kv.1 = (Sum.inl t : Key))) ∘ fun x : Ent => ((Sum.inl (x.1 : Int) : Key), V.ref x.2.1)) = fun x : Ent => decide ((x.1 : Int) = t) := by
    funext x
    exact decide_eq_decide.mpr inl_iff'
  rw [e]
  rfl
theorem entS_get (ent : List Ent) (t : Int) : getS (entS ent) t = (ent.find? fun x => decide ((x.1 : Int) = t)).map fun x => x.2.2 := by
  unfold getS entS
  rw [List.find?_map, Option.map_map]
  rfl
theorem find_some {ent : List Ent} {t : Int} {x : Ent} (h : ent.find? (fun x => decide ((x.1 : Int) = t)) = some x) : x ∈ ent ∧ (x.1 : Int) = t := by
  refine ⟨List.mem_of_find?_eq_some h, ?_⟩
  have := List.find?_some h
  exact of_decide_eq_true this

/-! ### cells -/
theorem setCell_len (g : Grid) (seat leg : Nat) (h : Option Nat) : (setCell g seat leg h).length = g.length := by
  unfold setCell
  rw [List.length_set]
theorem setCell_row {g : Grid} {seat leg n : Nat} {h : Option Nat} (hg : ∀ row ∈ g, row.length = n) : ∀ row ∈ setCell g seat leg h, row.length = n := by
  intro row m
  unfold setCell at m
  by_cases hs : seat < g.length
  · rcases List.mem_or_eq_of_mem_set m with m | e
    · exact hg row m
    · rw [e, List.length_set, List.getElem?_eq_getElem hs, Option.getD_some]
      exact hg _ (List.getElem_mem hs)
  · rw [List.set_eq_of_length_le (by omega)] at m
    exact hg row m
def Tr.mark (T : Tr) (ps : List P3) (h : Option Nat) : Tr := { T with rows := markAll T.rows ps h }
def Tr.take (T : Tr) (t : Nat) (ps : List P3) : Tr := { T with rows := markAll T.rows ps (some t), sold := putS T.sold t ps }
def Tr.sell (T : Tr) (b e : Nat) : Tr := { T with rows := markAll T.rows (found T.rows b e) (some T.coming), sold := putS T.sold T.coming (found T.rows b e), coming := T.coming + 1 }
def Valid (T : Tr) (ps : List P3) : Prop := ∀ q ∈ ps, q.1 < T.rows.length ∧ q.2.1 < q.2.2 ∧ q.2.2 ≤ T.stops - 1
theorem markPart_len (h : Option Nat) (p : P3) (g : Grid) : (markPart g h p).length = g.length := by
  unfold markPart
  generalize List.range' p.2.1 (p.2.2 - p.2.1) = ls
  induction ls generalizing g with
  | nil => rfl
  | cons l r ih =>
    rw [List.foldl_cons, ih, setCell_len]
theorem markAll_len (h : Option Nat) : ∀ (ps : List P3) (g : Grid), (markAll g ps h).length = g.length
  | [], _ => rfl
  | p :: r, g => by
    show (markAll (markPart g h p) r h).length = _
    rw [markAll_len h r, markPart_len]
theorem markPart_row {n : Nat} (h : Option Nat) (p : P3) (g : Grid) (hg : ∀ row ∈ g, row.length = n) : ∀ row ∈ markPart g h p, row.length = n := by
  unfold markPart
  generalize List.range' p.2.1 (p.2.2 - p.2.1) = ls
  induction ls generalizing g with
  | nil => exact hg
  | cons l r ih => exact ih _ (setCell_row hg)
theorem markAll_row {n : Nat} (h : Option Nat) : ∀ (ps : List P3) (g : Grid), (∀ row ∈ g, row.length = n) → ∀ row ∈ markAll g ps h, row.length = n
  | [], _, hg => hg
  | p :: r, g, hg => markAll_row h r _ (markPart_row h p g hg)
/-- rows of the same form: the train's good form stays -/
theorem Tr.Wf.rows {T : Tr} (w : T.Wf) {g : Grid} (h1 : g.length = T.rows.length) (h2 : ∀ row ∈ g, row.length = T.stops - 1) : ({ T with rows := g } : Tr).Wf where
  s1 := by show 1 ≤ g.length; rw [h1]; exact w.s1
  s2 := by show g.length ≤ 60; rw [h1]; exact w.s2
  t1 := w.t1
  t2 := w.t2
  legs := h2
  rising := w.rising
theorem row_ne {ts : List Addr} {row : List (Option Nat)} {H : Hp} {a l : Addr} (hr : RowAt H a row) (hlen : 1 ≤ row.length) (hl : H l = some (.lst (ts.map V.ref))) : l ≠ a := by
  intro z
  rw [z, hr] at hl
  have e : row.map oV = ts.map V.ref := HO.lst.inj (Option.some.inj hl)
  cases row with
  | nil => simp at hlen
  | cons x r =>
    cases ts with
    | nil => simp at e
    | cons t u =>
      have e2 : oV x = V.ref t := by
        have := congrArg List.head? e
        simpa using this
      cases x with
      | none => cases e2
      | some y => cases e2
/-- a cell is stored: the row at a -/
theorem TrRaw.cell {K : PySem.W.Frag} {H : Hp} {p : Addr} {T : Tr} {r d : Addr} {as : List Addr} {ent : List Ent} (R : TrRaw K H p T r d as ent) {seat leg : Nat} {a : Addr} {row : List (Option Nat)} (h : Option Nat) (ha : as[seat]? = some a) (hr : T.rows[seat]? = some row) :
    TrRaw K (upd H a (.lst ((row.set leg h).map oV))) p { T with rows := setCell T.rows seat leg h } r d as ent := by
  have ra : RowAt H a row := R.grid.row.at_ _ _ _ ha hr
  have ma := List.mem_of_getElem? ha
  obtain ⟨dx, hp⟩ := R.ins
  have npa : p ≠ a := ne_of hp ra (fun z => by cases z)
  have nda : d ≠ a := ne_of R.dict ra (fun z => by cases z)
  have nra : r ≠ a := fun z => R.ra (z ▸ ma)
  have hsl : seat < T.rows.length := lt_of_get hr
  have hset : setCell T.rows seat leg h = T.rows.set seat (row.set leg h) := by
    unfold setCell
    rw [hr]
    rfl
  refine ⟨R.wf.rows (setCell_len _ _ _ _) (setCell_row R.wf.legs), ⟨dx, by rw [upd_ne npa]; exact hp⟩, ⟨by rw [upd_ne nra]; exact R.grid.top, ?_⟩, R.nd, R.ra, R.sold, by rw [upd_ne nda]; exact R.dict, fun x m => ?_, R.la⟩
  · show All2 _ as (setCell T.rows seat leg h)
    rw [hset]
    refine ⟨by rw [List.length_set]; exact R.grid.row.len, fun i b rw' hb hrw => ?_⟩
    rw [List.getElem?_set] at hrw
    by_cases e : seat = i
    · rw [if_pos e, if_pos hsl] at hrw
      cases hrw
      rw [← e, ha] at hb
      cases hb
      exact upd_same
    · rw [if_neg e] at hrw
      have nba : b ≠ a := fun z => by
        rw [z] at hb
        exact e (nd_ix R.nd ha hb)
      show upd H a _ b = _
      rw [upd_ne nba]
      exact R.grid.row.at_ _ _ _ hb hrw
  · obtain ⟨ts, q1, q2⟩ := R.prt x m
    refine ⟨ts, by rw [upd_ne (fun z : x.2.1 = a => R.la x m (by rw [z]; exact ma))]; exact q1, q2.mono fun t y z => ?_⟩
    show upd H a _ t = _
    rw [upd_ne (ne_of z ra (fun z => by cases z))]
    exact z
theorem TrainAt.cell {K : PySem.W.Frag} {H : Hp} {S : Addr → Prop} {p : Addr} {T : Tr} (A : TrainAt K H S p T) {seat leg : Nat} (h : Option Nat) (hs : seat < T.rows.length) (hl : leg < T.stops - 1) :
    ∃ dx r d as a row, H p = some (.ins (He.ga K "Train") dx (trF T.stops r d T.coming)) ∧ H r = some (.lst ((as : List Addr).map V.ref)) ∧ as[seat]? = some a ∧ RowAt H a row ∧ leg < row.length ∧
      Mv H (upd H a (.lst ((row.set leg h).map oV))) S S ∧ TrainAt K (upd H a (.lst ((row.set leg h).map oV))) S p { T with rows := setCell T.rows seat leg h } := by
  obtain ⟨r, d, as, ent, R, sp, sr, sd, sa, sl⟩ := A
  obtain ⟨dx, hp⟩ := R.ins
  have hr := List.getElem?_eq_getElem hs
  obtain ⟨a, ha, ra⟩ := R.grid.row.right hr
  have hlen : T.rows[seat].length = T.stops - 1 := R.wf.legs _ (List.getElem_mem hs)
  have ma := List.mem_of_getElem? ha
  refine ⟨dx, r, d, as, a, _, hp, R.grid.top, ha, ra, by omega, ⟨fun b o nb hb => ?_, fun b xs hb => ?_, fun b hb => .inl hb⟩, r, d, as, ent, R.cell h ha hr, sp, sr, sd, sa, sl⟩
  · rw [upd_ne (fun z : b = a => nb (by rw [z]; exact sa a ma))]
    exact hb
  · rw [upd_ne (ne_of hb ra (fun z => by cases z))]
    exact hb

/-! ### the best seat -/
theorem bestFrom_prop (s e : Nat) : ∀ (g : Grid) (k best far : Nat), bestFrom s e g k best far = (best, far) ∨
    ∃ i row, g[i]? = some row ∧ bestFrom s e g k best far = (k + i, min (reach row s) e) ∧ far < min (reach row s) e
  | [], _, _, _ => .inl rfl
  | row :: g, k, best, far => by
    unfold bestFrom
    split
    · rename_i h
      rcases bestFrom_prop s e g (k + 1) k (min (reach row s) e) with q | ⟨i, r2, h1, h2, h3⟩
      · exact .inr ⟨0, row, rfl, by rw [q, Nat.add_zero], h⟩
      · refine .inr ⟨i + 1, r2, h1, ?_, by omega⟩
        rw [h2, Nat.add_assoc, Nat.add_comm 1 i]
    · rcases bestFrom_prop s e g (k + 1) best far with q | ⟨i, r2, h1, h2, h3⟩
      · exact .inl q
      · refine .inr ⟨i + 1, r2, h1, ?_, h3⟩
        rw [h2, Nat.add_assoc, Nat.add_comm 1 i]
theorem best_prop (g : Grid) (s e : Nat) : bestSeat g s e = (0, s) ∨ ∃ i row, g[i]? = some row ∧ bestSeat g s e = (i, min (reach row s) e) ∧ s < min (reach row s) e := by
  rcases bestFrom_prop s e g 0 0 s with q | ⟨i, row, h1, h2, h3⟩
  · exact .inl q
  · exact .inr ⟨i, row, h1, by unfold bestSeat; rw [h2, Nat.zero_add], h3⟩
theorem best_ge (g : Grid) (s e : Nat) : s ≤ (bestSeat g s e).2 := by
  rcases best_prop g s e with q | ⟨i, row, h1, h2, h3⟩
  · rw [q]
    exact Nat.le_refl _
  · rw [h2]
    exact Nat.le_of_lt h3
theorem best_on {g : Grid} {s e : Nat} (h : (bestSeat g s e).2 ≠ s) : (bestSeat g s e).1 < g.length ∧ s < (bestSeat g s e).2 ∧ (bestSeat g s e).2 ≤ e := by
  rcases best_prop g s e with q | ⟨i, row, h1, h2, h3⟩
  · rw [q] at h
    exact absurd rfl h
  · rw [h2]
    exact ⟨lt_of_get h1, h3, Nat.min_le_right _ _⟩
/-- enough turns -/
theorem foundN_more (g : Grid) (e : Nat) : ∀ (n m s : Nat), e - s ≤ n → e - s ≤ m → foundN g e n s = foundN g e m s
  | 0, 0, _, _, _ => rfl
  | 0, m + 1, s, h, _ => by
    unfold foundN
    rw [if_neg (by omega)]
  | n + 1, 0, s, _, h => by
    unfold foundN
    rw [if_neg (by omega)]
  | n + 1, m + 1, s, h1, h2 => by
    unfold foundN
    split
    · split
      · rfl
      · rename_i hs hb
        have := best_on hb
        rw [foundN_more g e n m _ (by omega) (by omega)]
    · rfl
theorem found_stop {g : Grid} {s e : Nat} (h : ¬ s < e) : found g s e = [] := by
  unfold found
  rw [show e - s = 0 by omega]
  rfl
theorem found_none {g : Grid} {s e : Nat} (h : (bestSeat g s e).2 = s) : found g s e = [] := by
  unfold found
  cases e - s with
  | zero => rfl
  | succ n =>
    unfold foundN
    rw [if_pos h]
    split <;> rfl
theorem found_on {g : Grid} {s e : Nat} (h : s < e) (hb : (bestSeat g s e).2 ≠ s) : found g s e = ((bestSeat g s e).1, s, (bestSeat g s e).2) :: found g (bestSeat g s e).2 e := by
  have hn : e - s = (e - s - 1) + 1 := by omega
  unfold found
  rw [hn]
  conv => lhs; unfold foundN
  rw [if_pos h, if_neg hb]
  have := best_on hb
  rw [foundN_more g e _ (e - (bestSeat g s e).2) _ (by omega) (Nat.le_refl _)]
theorem found_valid {g : Grid} {e : Nat} : ∀ (n s : Nat), e - s ≤ n → ∀ q ∈ found g s e, q.1 < g.length ∧ q.2.1 < q.2.2 ∧ q.2.2 ≤ e
  | 0, s, h => by
    rw [found_stop (by omega)]
    intro q m
    cases m
  | n + 1, s, h => by
    intro q m
    by_cases hs : s < e
    · by_cases hb : (bestSeat g s e).2 = s
      · rw [found_none hb] at m
        cases m
      · rw [found_on hs hb] at m
        have := best_on hb
        rcases List.mem_cons.mp m with rfl | m
        · exact this
        · exact found_valid n _ (by omega) q m
    · rw [found_stop hs] at m
      cases m

/-! ### promises -/
def spBest : Sp := fun vs H Q _ => ∃ (r : Addr) (as : List Addr) (g : Grid) (s e : Nat), vs = [.ref r, .int s, .int e] ∧ GridAt H r as g ∧
  ∀ H' t, Ex H H' → H' t = some (.tup [.int (bestSeat g s e).1, .int (bestSeat g s e).2]) → Q (.ref t) H'
def spFound : Sp := fun vs H Q _ => ∃ (r : Addr) (as : List Addr) (g : Grid) (b e : Nat), vs = [.ref r, .int b, .int e] ∧ GridAt H r as g ∧ e ≤ 1000 ∧
  ∀ H' l, Ex H H' → H l = none → PartsAt H' l (found g b e) → Q (.ref l) H'
def spRow (K : PySem.W.Frag) : Sp := fun vs H Q E => ∃ (S : Addr → Prop) (p : Addr) (T : Tr) (b e : Int), vs = [.ref p, .int b, .int e] ∧ TrainAt K H S p T ∧
  (Str3 T b e → firstFull T.rows b.toNat e.toNat = none → ∀ H' l, Ex H H' → H l = none → PartsAt H' l (found T.rows b.toNat e.toNat) → Q (.ref l) H') ∧
  (Str3 T b e → firstFull T.rows b.toNat e.toNat ≠ none → ∀ H', Ex H H' → E (cls K "Full") none H') ∧ (¬ Str3 T b e → E (cls K "NoStretch") none H)
def spParts (K : PySem.W.Frag) : Sp := fun vs H Q E => ∃ (S : Addr → Prop) (p : Addr) (T : Tr) (t : Int), vs = [.ref p, .int t] ∧ TrainAt K H S p T ∧
  (∀ ps, getS T.sold t = some ps → ∀ H' l, Ex H H' → H l = none → PartsAt H' l ps → Q (.ref l) H') ∧ (getS T.sold t = none → E (cls K "NoTicket") none H)
def spMark (K : PySem.W.Frag) : Sp := fun vs H Q _ => ∃ (S : Addr → Prop) (p : Addr) (T : Tr) (l : Addr) (ps : List P3) (h : Option Nat), vs = [.ref p, .ref l, oV h] ∧ TrainAt K H S p T ∧ PartsAt H l ps ∧ Valid T ps ∧
  ∀ H', Mv H H' S S → H' l = H l → TrainAt K H' S p (T.mark ps h) → Q .non H'
def spTake (K : PySem.W.Frag) : Sp := fun vs H Q _ => ∃ (S : Addr → Prop) (p : Addr) (T : Tr) (t : Nat) (l : Addr) (ps : List P3), vs = [.ref p, .int t, .ref l] ∧ TrainAt K H S p T ∧ PartsAt H l ps ∧ ¬ S l ∧ Valid T ps ∧ T.sold.length < 1000000 ∧
  ((∃ x ∈ T.sold, x.1 = t) ∨ ∀ x ∈ T.sold, x.1 < t) ∧
  ∀ H', (∀ a o, ¬ S a → H a = some o → H' a = some o) → (∀ a xs, H a = some (.tup xs) → H' a = some (.tup xs)) → TrainAt K H' (fun a => S a ∨ a = l) p (T.take t ps) → Q .non H'
def spSell (K : PySem.W.Frag) : Sp := fun vs H Q E => ∃ (S : Addr → Prop) (p : Addr) (T : Tr) (b e : Int), vs = [.ref p, .int b, .int e] ∧ TrainAt K H S p T ∧ (∀ x ∈ T.sold, x.1 < T.coming) ∧ T.sold.length < 1000000 ∧
  (Str3 T b e → firstFull T.rows b.toNat e.toNat = none → ∀ H' S', Mv H H' S S' → TrainAt K H' S' p (T.sell b.toNat e.toNat) → Q (.int T.coming) H') ∧
  (Str3 T b e → firstFull T.rows b.toNat e.toNat ≠ none → ∀ H', Ex H H' → E (cls K "Full") none H') ∧ (¬ Str3 T b e → E (cls K "NoStretch") none H)
end Lg

namespace Lg
open PySem PySem.Spec PyProof.Rows L2
theorem foldl_len (seat : Nat) (h : Option Nat) : ∀ (ls : List Nat) (g : Grid), (ls.foldl (fun g leg => setCell g seat leg h) g).length = g.length
  | [], _ => rfl
  | l :: r, g => by
    rw [List.foldl_cons, foldl_len seat h r, setCell_len]
theorem ixN_nat {n j : Nat} (h : j < n) : ixN n (j : Int) = some j := by
  unfold ixN
  rw [if_pos (by omega), if_pos (by omega)]
  rfl
theorem putS_keys {sold : List (Nat × List P3)} {t : Nat} {ps : List P3} : (putS sold t ps).map (·.1) = if (sold.any fun x => decide (x.1 = t)) = true then sold.map (·.1) else sold.map (·.1) ++ [t] := by
  unfold putS
  split
  · rw [List.map_map]
    apply List.map_congr_left
    intro x _
    show (if x.1 = t then (t, ps) else x).1 = x.1
    split
    · rename_i h
      exact h.symm
    · rfl
  · rw [List.map_append]
    rfl
theorem putS_rising {sold : List (Nat × List P3)} {t : Nat} {ps : List P3} (h : (sold.map (·.1)).Pairwise (· < ·)) (hk : (∃ x ∈ sold, x.1 = t) ∨ ∀ x ∈ sold, x.1 < t) : ((putS sold t ps).map (·.1)).Pairwise (· < ·) := by
  rw [putS_keys]
  split
  · exact h
  · rename_i hn
    refine List.pairwise_append.mpr ⟨h, List.pairwise_singleton _ _, fun a m b mb => ?_⟩
    rw [List.mem_singleton.mp mb]
    obtain ⟨x, mx, rfl⟩ := List.mem_map.mp m
    rcases hk with ⟨y, my, ey⟩ | hk
    · exact absurd (List.any_eq_true.mpr ⟨y, my, decide_eq_true ey⟩) hn
    · exact hk x mx
theorem ent_in {ent : List Ent} {t : Nat} {l : Addr} {ps : List P3} {x : Ent} {Z : Addr → Prop} (m : x ∈ entPut ent t l ps) (h : ∀ y ∈ ent, Z y.2.1) (hl : Z l) : Z x.2.1 := by
  unfold entPut at m
  split at m
  · obtain ⟨y, my, e⟩ := List.mem_map.mp m
    split at e
    · rw [← e]
      exact hl
    · rw [← e]
      exact h y my
  · rcases List.mem_append.mp m with m | m
    · exact h x m
    · rw [List.mem_singleton.mp m]
      exact hl
theorem ent_in2 {ent : List Ent} {t : Nat} {l : Addr} {ps : List P3} {x : Ent} {Z : Addr → List P3 → Prop} (m : x ∈ entPut ent t l ps) (h : ∀ y ∈ ent, Z y.2.1 y.2.2) (hl : Z l ps) : Z x.2.1 x.2.2 := by
  unfold entPut at m
  split at m
  · obtain ⟨y, my, e⟩ := List.mem_map.mp m
    split at e
    · rw [← e]
      exact hl
    · rw [← e]
      exact h y my
  · rcases List.mem_append.mp m with m | m
    · exact h x m
    · rw [List.mem_singleton.mp m]
      exact hl
/-- a ticket put into the table -/
theorem TrRaw.put {K : PySem.W.Frag} {H : Hp} {S : Addr → Prop} {p : Addr} {T : Tr} {r d : Addr} {as : List Addr} {ent : List Ent} {ts : List Addr} (R : TrRaw K H p T r d as ent) (t : Nat) (l : Addr) (ps : List P3) (hS : ¬ S l) (hd : S d) (ha : l ∈ as → S l)
    (hk : (∃ x ∈ T.sold, x.1 = t) ∨ ∀ x ∈ T.sold, x.1 < t) (hl : H l = some (.lst (ts.map V.ref))) (hP : All2 (PartAt H) ts ps) :
    TrRaw K (upd H d (.dK (putK (entD ent) (Sum.inl (t : Int)) (.ref l)))) p { T with sold := putS T.sold t ps } r d as (entPut ent t l ps) := by
  obtain ⟨dx, hp⟩ := R.ins
  have hpd : p ≠ d := ne_of hp R.dict (fun z => by cases z)
  have hrd : r ≠ d := ne_of R.grid.top R.dict (fun z => by cases z)
  have tup : ∀ (q : Addr) (xs : List V), H q = some (.tup xs) → upd H d (.dK (putK (entD ent) (Sum.inl (t : Int)) (.ref l))) q = some (.tup xs) := fun q xs h => by
    rw [upd_ne (ne_of h R.dict (fun z => by cases z))]
    exact h
  have lst : ∀ (q : Addr) (xs : List V), H q = some (.lst xs) → upd H d (.dK (putK (entD ent) (Sum.inl (t : Int)) (.ref l))) q = some (.lst xs) := fun q xs h => by
    rw [upd_ne (ne_of h R.dict (fun z => by cases z))]
    exact h
  refine ⟨⟨R.wf.s1, R.wf.s2, R.wf.t1, R.wf.t2, R.wf.legs, putS_rising R.wf.rising hk⟩, ⟨dx, by rw [upd_ne hpd]; exact hp⟩, ⟨lst _ _ R.grid.top, R.grid.row.mono fun a row z => lst _ _ z⟩, R.nd, R.ra, ?_, ?_, fun x m => ?_, fun x m => ?_⟩
  · rw [entS_put, ← R.sold]
  · rw [upd_same, entD_put]
  · refine ent_in2 (Z := fun a q => PartsAt _ a q) m (fun y my => ?_) ⟨ts, lst _ _ hl, hP.mono fun u q z => tup _ _ z⟩
    obtain ⟨us, q1, q2⟩ := R.prt y my
    exact ⟨us, lst _ _ q1, q2.mono fun u q z => tup _ _ z⟩
  · exact ent_in (Z := fun a => a ∉ as) m R.la (fun z => hS (ha z))
/-- the next number changed -/
theorem TrainAt.next {K : PySem.W.Frag} {H : Hp} {S : Addr → Prop} {p : Addr} {T : Tr} (A : TrainAt K H S p T) : ∃ dx r d, H p = some (.ins (He.ga K "Train") dx (trF T.stops r d T.coming)) ∧
    ∀ c : Nat, Mv H (upd H p (.ins (He.ga K "Train") dx (trF T.stops r d c))) S S ∧ TrainAt K (upd H p (.ins (He.ga K "Train") dx (trF T.stops r d c))) S p { T with coming := c } := by
  obtain ⟨r, d, as, ent, R, sp, sr, sd, sa, sl⟩ := A
  obtain ⟨dx, hp⟩ := R.ins
  refine ⟨dx, r, d, hp, fun c => ?_⟩
  have lst : ∀ (q : Addr) (xs : List V), H q = some (.lst xs) → upd H p (.ins (He.ga K "Train") dx (trF T.stops r d c)) q = some (.lst xs) := fun q xs h => by
    rw [upd_ne (ne_of h hp (fun z => by cases z))]
    exact h
  have tup : ∀ (q : Addr) (xs : List V), H q = some (.tup xs) → upd H p (.ins (He.ga K "Train") dx (trF T.stops r d c)) q = some (.tup xs) := fun q xs h => by
    rw [upd_ne (ne_of h hp (fun z => by cases z))]
    exact h
  refine ⟨⟨fun a o na ha => ?_, tup, fun a h => .inl h⟩, r, d, as, ent, ⟨⟨R.wf.s1, R.wf.s2, R.wf.t1, R.wf.t2, R.wf.legs, R.wf.rising⟩, ⟨dx, upd_same⟩, ⟨lst _ _ R.grid.top, R.grid.row.mono fun a row z => lst _ _ z⟩, R.nd, R.ra, R.sold, ?_, fun x m => ?_, R.la⟩, sp, sr, sd, sa, sl⟩
  · rw [upd_ne (fun z : a = p => na (by rw [z]; exact sp))]
    exact ha
  · rw [upd_ne (ne_of R.dict hp (fun z => by cases z))]
    exact R.dict
  · obtain ⟨us, q1, q2⟩ := R.prt x m
    exact ⟨us, lst _ _ q1, q2.mono fun u q z => tup _ _ z⟩
end Lg

namespace Lg
open PySem PySem.Spec PyProof.Rows L2
/-! ### data compared as a whole -/
structure Enc {α : Type} [DecidableEq α] (e : α → PyData) (n : Nat) : Prop where
  eq : ∀ x y, PyData.eqv (e x) (e y) = decide (x = y)
  lay : ∀ x, PyData.canLay0 (e x) = true
  dep : ∀ x, PyData.depth (e x) ≤ n
theorem enc_int : Enc PyData.int 0 := ⟨fun x y => by rw [PyData.eqv]; by_cases h : x = y <;> simp [h], fun _ => rfl, fun _ => Nat.le_refl _⟩
theorem eqvAll_map {α : Type} [DecidableEq α] {e : α → PyData} (h : ∀ x y, PyData.eqv (e x) (e y) = decide (x = y)) : ∀ xs ys : List α, PyData.eqvAll (xs.map e) (ys.map e) = decide (xs = ys)
  | [], [] => by rw [List.map_nil, PyData.eqvAll]; rfl
  | [], y :: ys => by
    rw [List.map_nil, List.map_cons, PyData.eqvAll]
    exact (decide_eq_false (fun z => by cases z)).symm
  | x :: xs, [] => by
    rw [List.map_nil, List.map_cons, PyData.eqvAll]
    exact (decide_eq_false (fun z => by cases z)).symm
  | x :: xs, y :: ys => by
    rw [List.map_cons, List.map_cons, PyData.eqvAll, h x y, eqvAll_map h xs ys]
    by_cases h1 : x = y
    · by_cases h2 : xs = ys
      · simp [h1, h2]
      · simp [h1, h2]
    · simp [h1]
theorem layAll_map {α : Type} {e : α → PyData} (h : ∀ x, PyData.canLay0 (e x) = true) : ∀ xs : List α, PyData.canLayAll0 (xs.map e) = true
  | [] => rfl
  | x :: xs => by
    show (PyData.canLay0 (e x) && PyData.canLayAll0 (xs.map e)) = true
    rw [h x, layAll_map h xs]
    rfl
theorem depAll_map {α : Type} {e : α → PyData} {n : Nat} (h : ∀ x, PyData.depth (e x) ≤ n) : ∀ xs : List α, PyData.depthAll (xs.map e) ≤ n
  | [] => Nat.zero_le _
  | x :: xs => by
    show max (PyData.depth (e x)) (PyData.depthAll (xs.map e)) ≤ n
    exact Nat.max_le.mpr ⟨h x, depAll_map h xs⟩
theorem Enc.list {α : Type} [DecidableEq α] {e : α → PyData} {n : Nat} (E : Enc e n) : Enc (fun xs : List α => PyData.list (xs.map e)) (n + 1) :=
  ⟨fun x y => by rw [PyData.eqv]; exact eqvAll_map E.eq x y, fun x => layAll_map E.lay x, fun x => Nat.succ_le_succ (depAll_map E.dep x)⟩
theorem Enc.tup {α : Type} [DecidableEq α] {e : α → PyData} {n : Nat} (E : Enc e n) : Enc (fun xs : List α => PyData.tuple (xs.map e)) (n + 1) :=
  ⟨fun x y => by rw [PyData.eqv]; exact eqvAll_map E.eq x y, fun x => layAll_map E.lay x, fun x => Nat.succ_le_succ (depAll_map E.dep x)⟩
def oD : Option Nat → PyData
  | none => .none
  | some t => .int (t : Int)
theorem enc_opt : Enc oD 0 := by
  refine ⟨fun x y => ?_, fun x => by cases x <;> rfl, fun x => by cases x <;> exact Nat.le_refl _⟩
  cases x with
  | none => cases y with
    | none => rfl
    | some u => exact (decide_eq_false (fun z => by cases z)).symm
  | some t => cases y with
    | none => exact (decide_eq_false (fun z => by cases z)).symm
    | some u =>
      show ((t : Int) == (u : Int)) = _
      by_cases h : t = u
      · simp [h]
      · have h2 : ¬ (t : Int) = (u : Int) := fun z => h (Int.ofNat_inj.mp z)
        have h3 : ¬ some t = some u := fun z => h (Option.some.inj z)
        rw [decide_eq_false h3]
        exact beq_eq_false_iff_ne.mpr h2
section
variable {K : PySem.W.Frag} {H : Hp}
theorem dpAll : ∀ {xs : List V} {ds : List PyData}, All2 (Dp K H) xs ds → DpAll K H xs ds
  | [], [], _ => .nil
  | [], d :: ds, h => by have := h.len; simp at this
  | x :: xs, [], h => by have := h.len; simp at this
  | x :: xs, d :: ds, h => .cons h.tail.1 (dpAll h.tail.2)
theorem dp_ints {a : Addr} {xs : List Int} (h : H a = some (.lst (xs.map V.int))) : Dp K H (.ref a) (.list (xs.map PyData.int)) :=
  .lst (SqL.of h) (dpAll ⟨by rw [List.length_map, List.length_map], fun i x y hx hy => by
    obtain ⟨u, hu, rfl⟩ := map_back hx
    obtain ⟨v, hv, rfl⟩ := map_back hy
    rw [hu] at hv
    cases hv
    exact .int u⟩)
theorem dp_tup {a : Addr} {xs : List Int} (h : H a = some (.tup (xs.map V.int))) : Dp K H (.ref a) (.tuple (xs.map PyData.int)) :=
  .tup (SqT.of h) (dpAll ⟨by rw [List.length_map, List.length_map], fun i x y hx hy => by
    obtain ⟨u, hu, rfl⟩ := map_back hx
    obtain ⟨v, hv, rfl⟩ := map_back hy
    rw [hu] at hv
    cases hv
    exact .int u⟩)
theorem shaped_of {α : Type} [DecidableEq α] {e : α → PyData} {n : Nat} (E : Enc e n) (hn : n ≤ 64) (x : α) : SeqAt.shaped (e x) = true := by
  unfold SeqAt.shaped
  rw [E.lay x, decide_eq_true (Nat.le_trans (E.dep x) hn)]
  rfl
theorem rne_of {α : Type} [DecidableEq α] {e : α → PyData} {n : Nat} (E : Enc e n) (hn : n ≤ 64) {x y : V} {a b : α} {Q : VK} (h1 : Dp K H x (e a)) (h2 : Dp K H y (e b)) (q : Q (.bl (!decide (a = b))) H) : rNeD K x y H Q := by
  refine ⟨_, _, h1, h2, shaped_of E hn a, shaped_of E hn b, ?_⟩
  rw [E.eq]
  exact q
theorem req_of {α : Type} [DecidableEq α] {e : α → PyData} {n : Nat} (E : Enc e n) (hn : n ≤ 64) {x y : V} {a b : α} {Q : VK} (h1 : Dp K H x (e a)) (h2 : Dp K H y (e b)) (q : Q (.bl (decide (a = b))) H) : rEqD K x y H Q := by
  refine ⟨_, _, h1, h2, shaped_of E hn a, shaped_of E hn b, ?_⟩
  rw [E.eq]
  exact q
end
/-- a list of tuples of ints -/
def TupsAt (H : Hp) (l : Addr) (xss : List (List Int)) : Prop := ∃ ts : List Addr, H l = some (.lst (ts.map V.ref)) ∧ All2 (fun t xs => H t = some (.tup (xs.map V.int))) ts xss
def p3I (p : P3) : List Int := [p.1, p.2.1, p.2.2]
theorem p3I_inj {p q : P3} (h : p3I p = p3I q) : p = q := by
  obtain ⟨a, b, c⟩ := p
  obtain ⟨d, e, f⟩ := q
  have h1 : (a : Int) = d ∧ (b : Int) = e ∧ (c : Int) = f := by simpa [p3I] using h
  obtain ⟨h1, h2, h3⟩ := h1
  rw [Int.ofNat_inj.mp h1, Int.ofNat_inj.mp h2, Int.ofNat_inj.mp h3]
theorem p3s_inj {ps qs : List P3} : ps.map p3I = qs.map p3I ↔ ps = qs := by
  refine ⟨fun h => ?_, fun h => by rw [h]⟩
  induction ps generalizing qs with
  | nil => cases qs with
    | nil => rfl
    | cons q r => cases h
  | cons p r ih => cases qs with
    | nil => cases h
    | cons q s =>
      rw [List.map_cons, List.map_cons] at h
      injection h with h1 h2
      rw [p3I_inj h1, ih h2]
theorem PartsAt.tups {H : Hp} {l : Addr} {ps : List P3} (h : PartsAt H l ps) : TupsAt H l (ps.map p3I) := by
  obtain ⟨ts, a, b⟩ := h
  refine ⟨ts, a, by rw [b.len, List.length_map], fun i t xs ht hx => ?_⟩
  obtain ⟨p, hp, rfl⟩ := map_back hx
  exact b.at_ i t p ht hp
theorem TupsAt.mono {H H' : Hp} {l : Addr} {ps : List (List Int)} (e : Ex H H') (h : TupsAt H l ps) : TupsAt H' l ps := by
  obtain ⟨ts, a, b⟩ := h
  exact ⟨ts, e _ _ a, b.mono fun _ _ r => e _ _ r⟩

/-! ### what stands in a cell -/
def cellOf (g : Grid) (s l : Nat) : Option Nat := (((g[s]?).getD [])[l]?).getD none
theorem cell_is {g : Grid} {s l : Nat} {row : List (Option Nat)} {h : Option Nat} (hr : g[s]? = some row) (hh : row[l]? = some h) : cellOf g s l = h := by
  unfold cellOf
  rw [hr, Option.getD_some, hh]
  rfl
theorem setCell_cell {g : Grid} {n seat leg s l : Nat} {h : Option Nat} (hg : ∀ row ∈ g, row.length = n) (hs : seat < g.length) (hl : leg < n) : cellOf (setCell g seat leg h) s l = if s = seat ∧ l = leg then h else cellOf g s l := by
  have hlen : g[seat].length = n := hg _ (List.getElem_mem hs)
  unfold cellOf setCell
  rw [List.getElem?_eq_getElem hs, Option.getD_some, List.getElem?_set]
  by_cases e1 : seat = s
  · subst e1
    rw [if_pos rfl, if_pos hs, Option.getD_some, List.getElem?_set, List.getElem?_eq_getElem hs, Option.getD_some]
    by_cases e2 : leg = l
    · subst e2
      rw [if_pos rfl, if_pos (by omega), if_pos ⟨rfl, rfl⟩]
      rfl
    · rw [if_neg e2, if_neg (fun z => e2 z.2.symm)]
  · rw [if_neg e1, if_neg (fun z => e1 z.1.symm)]
theorem foldl_cell {n seat : Nat} {h : Option Nat} {s l : Nat} : ∀ (ls : List Nat) (g : Grid), (∀ row ∈ g, row.length = n) → seat < g.length → (∀ x ∈ ls, x < n) →
    cellOf (ls.foldl (fun g leg => setCell g seat leg h) g) s l = if s = seat ∧ l ∈ ls then h else cellOf g s l
  | [], g, _, _, _ => by
    rw [if_neg (fun z => by cases z.2)]
    rfl
  | x :: r, g, hg, hs, hb => by
    rw [List.foldl_cons, foldl_cell r _ (setCell_row hg) (by rw [setCell_len]; exact hs) (fun y m => hb y (List.mem_cons_of_mem _ m)), setCell_cell hg hs (hb x List.mem_cons_self)]
    by_cases e1 : s = seat
    · by_cases e2 : l ∈ r
      · rw [if_pos ⟨e1, e2⟩, if_pos ⟨e1, List.mem_cons_of_mem _ e2⟩]
      · rw [if_neg (fun z => e2 z.2)]
        by_cases e3 : l = x
        · rw [if_pos ⟨e1, e3⟩, if_pos ⟨e1, by rw [e3]; exact List.mem_cons_self⟩]
        · rw [if_neg (fun z => e3 z.2), if_neg (fun z => (List.mem_cons.mp z.2).elim e3 e2)]
    · rw [if_neg (fun z => e1 z.1), if_neg (fun z => e1 z.1), if_neg (fun z => e1 z.1)]
theorem markPart_cell {g : Grid} {n : Nat} {h : Option Nat} {p : P3} {s l : Nat} (hg : ∀ row ∈ g, row.length = n) (hs : p.1 < g.length) (hl : p.2.2 ≤ n) :
    cellOf (markPart g h p) s l = if s = p.1 ∧ p.2.1 ≤ l ∧ l < p.2.2 then h else cellOf g s l := by
  unfold markPart
  rw [foldl_cell _ g hg hs (fun x m => by have := List.mem_range'_1.mp m; omega)]
  have e : l ∈ List.range' p.2.1 (p.2.2 - p.2.1) ↔ p.2.1 ≤ l ∧ l < p.2.2 := by
    rw [List.mem_range'_1]
    omega
  by_cases c : s = p.1 ∧ p.2.1 ≤ l ∧ l < p.2.2
  · rw [if_pos c, if_pos ⟨c.1, e.mpr c.2⟩]
  · rw [if_neg c, if_neg (fun z => c ⟨z.1, e.mp z.2⟩)]
def covers (ps : List P3) (s l : Nat) : Prop := ∃ q ∈ ps, s = q.1 ∧ q.2.1 ≤ l ∧ l < q.2.2
instance (ps : List P3) (s l : Nat) : Decidable (covers ps s l) := by unfold covers; infer_instance
theorem markAll_cell {n : Nat} {h : Option Nat} {s l : Nat} : ∀ (ps : List P3) (g : Grid), (∀ row ∈ g, row.length = n) → (∀ q ∈ ps, q.1 < g.length ∧ q.2.2 ≤ n) → cellOf (markAll g ps h) s l = if covers ps s l then h else cellOf g s l
  | [], g, _, _ => by
    rw [if_neg (fun ⟨q, m, _⟩ => by cases m)]
    rfl
  | p :: r, g, hg, hv => by
    have hp := hv p List.mem_cons_self
    show cellOf (markAll (markPart g h p) r h) s l = _
    rw [markAll_cell r _ (markPart_row h p g hg) (fun q m => by rw [markPart_len]; exact hv q (List.mem_cons_of_mem _ m)), markPart_cell hg hp.1 hp.2]
    by_cases c1 : covers r s l
    · obtain ⟨q, m, c⟩ := id c1
      rw [if_pos c1, if_pos ⟨q, List.mem_cons_of_mem _ m, c⟩]
    · rw [if_neg c1]
      by_cases c2 : s = p.1 ∧ p.2.1 ≤ l ∧ l < p.2.2
      · rw [if_pos c2, if_pos ⟨p, List.mem_cons_self, c2⟩]
      · rw [if_neg c2, if_neg (fun ⟨q, m, c⟩ => (List.mem_cons.mp m).elim (fun z => c2 (z ▸ c)) fun m => c1 ⟨q, m, c⟩)]
/-- grids of one form are one, if their cells are -/
theorem grid_ext {g g' : Grid} {n : Nat} (hl : g.length = g'.length) (h1 : ∀ row ∈ g, row.length = n) (h2 : ∀ row ∈ g', row.length = n) (h : ∀ s l, s < g.length → l < n → cellOf g s l = cellOf g' s l) : g = g' := by
  apply List.ext_getElem hl
  intro s hs hs'
  have e1 := h1 _ (List.getElem_mem hs)
  have e2 := h2 _ (List.getElem_mem hs')
  apply List.ext_getElem (by rw [e1, e2])
  intro l hl1 hl2
  have := h s l hs (by omega)
  rw [cell_is (List.getElem?_eq_getElem hs) (List.getElem?_eq_getElem hl1), cell_is (List.getElem?_eq_getElem hs') (List.getElem?_eq_getElem hl2)] at this
  exact this
theorem cell_new {seats stops s l : Nat} : cellOf (Tr.new seats stops).rows s l = none := by
  unfold cellOf
  cases e : (Tr.new seats stops).rows[s]? with
  | none => rfl
  | some row =>
    rw [Option.getD_some, new_row e, List.getElem?_replicate]
    split <;> rfl
theorem best_all {n : Nat} {row : List (Option Nat)} {s e f : Nat} (hr : min (reach row s) e = f) (h : s < f) : bestSeat (List.replicate (n + 1) row) s e = (0, f) := by
  unfold bestSeat
  rw [List.replicate_succ]
  unfold bestFrom
  rw [hr, if_pos h]
  have : ∀ m k, bestFrom s e (List.replicate m row) k 0 f = (0, f) := by
    intro m
    induction m with
    | zero => intro k; rfl
    | succ m ih =>
      intro k
      rw [List.replicate_succ]
      unfold bestFrom
      rw [hr, if_neg (by omega)]
      exact ih _
  exact this n 1
theorem found_new {seats stops b e : Nat} (h1 : 1 ≤ seats) (h2 : b < e) (h3 : e < stops) : found (Tr.new seats stops).rows b e = [(0, b, e)] := by
  have hb : bestSeat (Tr.new seats stops).rows b e = (0, e) := by
    show bestSeat (List.replicate seats (List.replicate (stops - 1) none)) b e = _
    obtain ⟨n, rfl⟩ : ∃ n, seats = n + 1 := ⟨seats - 1, by omega⟩
    exact best_all (by rw [reach_new (by omega)]; omega) h2
  rw [found_on h2 (by rw [hb]; show e ≠ b; omega), hb]
  show (0, b, e) :: found _ e e = _
  rw [found_stop (by omega)]

/-! ### promises of the laws' helpers -/
def spMixed : Sp := fun vs H Q _ => ∃ (c k m : Int), vs = [.int c, .int k, .int m] ∧ 0 < m ∧ ∀ (v : Nat) H', (v : Int) < m → Ex H H' → Q (.int v) H'
def spSeats : Sp := fun vs H Q _ => ∃ c : Int, vs = [.int c] ∧ ∀ n : Nat, 1 ≤ n → n ≤ 60 → Q (.int n) H
def spStops : Sp := fun vs H Q _ => ∃ c : Int, vs = [.int c] ∧ ∀ n : Nat, 2 ≤ n → n ≤ 60 → Q (.int n) H
def spRowsEq (K : PySem.W.Frag) : Sp := fun vs H Q _ => ∃ (f d : Addr) (xs ys : List (List Int)), vs = [.ref f, .ref d] ∧ TupsAt H f xs ∧ TupsAt H d ys ∧ xs.length ≤ 100000 ∧ ys.length ≤ 100000 ∧ (∀ x ∈ xs, x.length ≤ 100) ∧ ∀ H', Ex H H' → Q (.bl (decide (xs = ys))) H'
def spHeld (K : PySem.W.Frag) : Sp := fun vs H Q _ => ∃ (S : Addr → Prop) (p : Addr) (T : Tr) (b e : Nat), vs = [.ref p, .int T.rows.length, .int b, .int e, .int T.stops] ∧ TrainAt K H S p T ∧
  (∀ s l, s < T.rows.length → l < T.stops - 1 → cellOf T.rows s l = if s = 0 ∧ b ≤ l ∧ l < e then some 0 else none) ∧ Q (.bl true) H
def spWord2 (K : PySem.W.Frag) : Sp := fun vs H Q _ => ∃ (S : Addr → Prop) (p : Addr) (T : Tr) (b e w : Int), vs = [.ref p, .int b, .int e, .int w] ∧ TrainAt K H S p T ∧ T.sold = [] ∧ ¬ Str3 T b e ∧ ∀ H', Ex H H' → Q (.str "stretch") H'
end Lg

namespace Lg
open PySem PySem.Spec PyProof.Rows L2
/-! ### ways of parts -/
/-- parts that go on from b to e, on unlike seats one behind the other -/
def Way (seats : Nat) : Nat → Nat → List P3 → Prop
  | b, e, [] => b = e
  | b, e, q :: r => q.2.1 = b ∧ b < q.2.2 ∧ q.1 < seats ∧ (∀ q', r.head? = some q' → q'.1 ≠ q.1) ∧ Way seats q.2.2 e r
theorem Way.le {n e : Nat} : ∀ {ps : List P3} {b : Nat}, Way n b e ps → b ≤ e
  | [], _, h => Nat.le_of_eq h
  | q :: r, b, h => by
    obtain ⟨_, h2, _, _, h5⟩ := h
    have := Way.le h5
    omega
theorem Way.mem {n e : Nat} : ∀ {ps : List P3} {b : Nat}, Way n b e ps → ∀ q ∈ ps, q.1 < n ∧ b ≤ q.2.1 ∧ q.2.1 < q.2.2 ∧ q.2.2 ≤ e
  | [], _, _, q, m => by cases m
  | p :: r, b, h, q, m => by
    obtain ⟨h1, h2, h3, _, h5⟩ := h
    rcases List.mem_cons.mp m with rfl | m
    · have := Way.le h5
      exact ⟨h3, by omega, by omega, by omega⟩
    · have := Way.mem h5 q m
      exact ⟨this.1, by omega, this.2.2.1, this.2.2.2⟩
theorem Way.lastE {n e : Nat} : ∀ {ps : List P3} {b : Nat} {q : P3}, Way n b e ps → ps.getLast? = some q → q.2.2 = e
  | [], _, _, _, h => by cases h
  | [p], b, q, w, h => by
    obtain ⟨_, _, _, _, h5⟩ := w
    cases h
    exact h5
  | p :: p2 :: r, b, q, w, h => by
    obtain ⟨_, _, _, _, h5⟩ := w
    rw [List.getLast?_cons_cons] at h
    exact Way.lastE h5 h
theorem Way.headB {n b e : Nat} {ps : List P3} {q : P3} (w : Way n b e ps) (h : ps.head? = some q) : q.2.1 = b := by
  cases ps with
  | nil => cases h
  | cons p r =>
    cases h
    exact w.1
theorem Way.ne {n b e : Nat} {ps : List P3} (w : Way n b e ps) (h : b < e) : ps ≠ [] := by
  rintro rfl
  exact absurd w (by show ¬ b = e; omega)
theorem Way.lt {n b e : Nat} {ps : List P3} (w : Way n b e ps) (h : ps ≠ []) : b < e := by
  cases ps with
  | nil => exact absurd rfl h
  | cons p r =>
    have := Way.le w.2.2.2.2
    have := w.2.1
    omega
theorem covers_cons {p : P3} {r : List P3} {s l : Nat} : covers (p :: r) s l ↔ (s = p.1 ∧ p.2.1 ≤ l ∧ l < p.2.2) ∨ covers r s l := by
  refine ⟨fun ⟨q, m, h⟩ => ?_, fun h => ?_⟩
  · rcases List.mem_cons.mp m with rfl | m
    · exact .inl h
    · exact .inr ⟨q, m, h⟩
  · rcases h with h | ⟨q, m, h⟩
    · exact ⟨p, List.mem_cons_self, h⟩
    · exact ⟨q, List.mem_cons_of_mem _ m, h⟩
theorem Way.all {n e l : Nat} : ∀ {ps : List P3} {b : Nat}, Way n b e ps → b ≤ l → l < e → ∃ s, covers ps s l
  | [], b, w, h1, h2 => absurd w (by show ¬ b = e; omega)
  | p :: r, b, w, h1, h2 => by
    by_cases h : l < p.2.2
    · exact ⟨p.1, covers_cons.mpr (.inl ⟨rfl, by have := w.1; omega, h⟩)⟩
    · obtain ⟨s, hs⟩ := Way.all w.2.2.2.2 (by omega) h2
      exact ⟨s, covers_cons.mpr (.inr hs)⟩
theorem Way.in {n b e s l : Nat} {ps : List P3} (w : Way n b e ps) (h : covers ps s l) : s < n ∧ b ≤ l ∧ l < e := by
  obtain ⟨q, m, h1, h2, h3⟩ := h
  have := w.mem q m
  omega
/-- kept, and free again, behind leaving at a stop -/
def keptP (ps : List P3) (s : Nat) : List P3 := (ps.filter fun q => decide (q.2.1 < s)).map fun q => (q.1, q.2.1, min q.2.2 s)
def goneP (ps : List P3) (s : Nat) : List P3 := (ps.filter fun q => decide (s < q.2.2)).map fun q => (q.1, max q.2.1 s, q.2.2)
theorem kept_none {n e s : Nat} : ∀ {ps : List P3} {b : Nat}, Way n b e ps → s ≤ b → keptP ps s = []
  | [], _, _, _ => rfl
  | p :: r, b, w, h => by
    unfold keptP
    rw [List.filter_cons, if_neg (by have := w.1; simp; omega)]
    exact kept_none w.2.2.2.2 (by have := w.2.1; omega)
theorem gone_all {n e s : Nat} : ∀ {ps : List P3} {b : Nat}, Way n b e ps → s ≤ b → goneP ps s = ps
  | [], _, _, _ => rfl
  | p :: r, b, w, h => by
    unfold goneP
    have h1 := w.1
    have h2 := w.2.1
    rw [List.filter_cons, if_pos (by simp; omega), List.map_cons]
    have := gone_all w.2.2.2.2 (s := s) (by omega)
    unfold goneP at this
    rw [this, Nat.max_eq_left (by omega)]
theorem kept_way {n e s : Nat} : ∀ {ps : List P3} {b : Nat}, Way n b e ps → b < s → s < e → Way n b s (keptP ps s)
  | [], b, w, h1, h2 => absurd w (by show ¬ b = e; omega)
  | p :: r, b, w, h1, h2 => by
    obtain ⟨w1, w2, w3, w4, w5⟩ := w
    have e1 : keptP (p :: r) s = (p.1, p.2.1, min p.2.2 s) :: keptP r s := by
      unfold keptP
      rw [List.filter_cons, if_pos (by simp; omega), List.map_cons]
    rw [e1]
    by_cases h : p.2.2 < s
    · have ih := kept_way w5 h h2
      refine ⟨w1, by show b < min _ _; omega, w3, fun q' hq => ?_, ?_⟩
      · cases r with
        | nil => cases hq
        | cons p2 r2 =>
          have e2 : keptP (p2 :: r2) s = (p2.1, p2.2.1, min p2.2.2 s) :: keptP r2 s := by
            unfold keptP
            rw [List.filter_cons, if_pos (by have := w5.1; simp; omega), List.map_cons]
          rw [e2] at hq
          cases hq
          exact w4 p2 rfl
      · show Way n (min p.2.2 s) s _
        rw [Nat.min_eq_left (by omega)]
        exact ih
    · rw [kept_none w5 (by omega)]
      refine ⟨w1, by show b < min _ _; omega, w3, fun q' hq => (by cases hq), ?_⟩
      show min p.2.2 s = s
      omega
theorem gone_way {n e s : Nat} : ∀ {ps : List P3} {b : Nat}, Way n b e ps → b ≤ s → s < e → Way n s e (goneP ps s)
  | [], b, w, h1, h2 => absurd w (by show ¬ b = e; omega)
  | p :: r, b, w, h1, h2 => by
    obtain ⟨w1, w2, w3, w4, w5⟩ := w
    by_cases h : s < p.2.2
    · have e1 : goneP (p :: r) s = (p.1, max p.2.1 s, p.2.2) :: goneP r s := by
        unfold goneP
        rw [List.filter_cons, if_pos (by simp; omega), List.map_cons]
      rw [e1, gone_all w5 (by omega)]
      exact ⟨by show max _ _ = s; omega, h, w3, w4, w5⟩
    · have e1 : goneP (p :: r) s = goneP r s := by
        unfold goneP
        rw [List.filter_cons, if_neg (by simp; omega)]
      rw [e1]
      exact gone_way w5 (by omega) h2
theorem covers_kept {ps : List P3} {c s l : Nat} : covers (keptP ps c) s l ↔ covers ps s l ∧ l < c := by
  unfold covers keptP
  refine ⟨fun ⟨q, m, h⟩ => ?_, fun ⟨⟨q, m, h⟩, hc⟩ => ?_⟩
  · obtain ⟨p, mp, rfl⟩ := List.mem_map.mp m
    have := List.mem_filter.mp mp
    dsimp only at h
    exact ⟨⟨p, this.1, h.1, h.2.1, by omega⟩, by omega⟩
  · refine ⟨_, List.mem_map.mpr ⟨q, List.mem_filter.mpr ⟨m, by simp; omega⟩, rfl⟩, h.1, h.2.1, ?_⟩
    show l < min _ _
    omega
theorem covers_gone {ps : List P3} {c s l : Nat} : covers (goneP ps c) s l ↔ covers ps s l ∧ c ≤ l := by
  unfold covers goneP
  refine ⟨fun ⟨q, m, h⟩ => ?_, fun ⟨⟨q, m, h⟩, hc⟩ => ?_⟩
  · obtain ⟨p, mp, rfl⟩ := List.mem_map.mp m
    have := List.mem_filter.mp mp
    dsimp only at h
    exact ⟨⟨p, this.1, h.1, by omega, h.2.2⟩, by omega⟩
  · refine ⟨_, List.mem_map.mpr ⟨q, List.mem_filter.mpr ⟨m, by simp; omega⟩, rfl⟩, h.1, ?_, h.2.2⟩
    show max _ _ ≤ l
    omega

/-! ### how far a row is free -/
theorem reach_free {row : List (Option Nat)} : ∀ (n s l : Nat), l - s ≤ n → s ≤ l → l < reach row s → row[l]? = some none := by
  intro n
  induction n with
  | zero =>
    intro s l h1 h2 h3
    obtain rfl : l = s := by omega
    cases e : row[l]? with
    | none =>
      rw [reach_out (List.getElem?_eq_none_iff.mp e)] at h3
      omega
    | some h => cases h with
      | none => rfl
      | some t =>
        rw [reach_no e] at h3
        omega
  | succ n ih =>
    intro s l h1 h2 h3
    by_cases hs : s = l
    · exact ih s l (by omega) h2 h3
    · cases e : row[s]? with
      | none =>
        rw [reach_out (List.getElem?_eq_none_iff.mp e)] at h3
        omega
      | some h => cases h with
        | none =>
          rw [reach_yes e] at h3
          exact ih (s + 1) l (by omega) (by omega) h3
        | some t =>
          rw [reach_no e] at h3
          omega
theorem reach_held {row : List (Option Nat)} : ∀ (n s : Nat), row.length - s ≤ n → reach row s < row.length → ∃ t, row[reach row s]? = some (some t) := by
  intro n
  induction n with
  | zero =>
    intro s h1 h2
    rw [reach_out (by omega)] at h2
    omega
  | succ n ih =>
    intro s h1 h2
    cases e : row[s]? with
    | none =>
      have := List.getElem?_eq_none_iff.mp e
      rw [reach_out this] at h2
      omega
    | some h => cases h with
      | none =>
        rw [reach_yes e] at h2
        rw [reach_yes e]
        exact ih (s + 1) (by omega) h2
      | some t =>
        rw [reach_no e]
        exact ⟨t, e⟩
theorem reach_far {row : List (Option Nat)} : ∀ (n s l : Nat), l - s ≤ n → s ≤ l → (∀ k, s ≤ k → k < l → row[k]? = some none) → l ≤ reach row s := by
  intro n
  induction n with
  | zero =>
    intro s l h1 h2 _
    have := reach_ge row s
    omega
  | succ n ih =>
    intro s l h1 h2 h
    by_cases hs : s = l
    · have := reach_ge row s
      omega
    · rw [reach_yes (h s (Nat.le_refl _) (by omega))]
      exact ih (s + 1) l (by omega) (by omega) fun k k1 k2 => h k (by omega) k2
theorem bestFrom_spec (s e : Nat) : ∀ (g : Grid) (k best far : Nat), (∀ row ∈ g, min (reach row s) e ≤ (bestFrom s e g k best far).2) ∧ far ≤ (bestFrom s e g k best far).2 ∧
    (bestFrom s e g k best far = (best, far) ∨ ∃ i row, g[i]? = some row ∧ bestFrom s e g k best far = (k + i, min (reach row s) e) ∧ far < min (reach row s) e ∧ ∀ j row', j < i → g[j]? = some row' → min (reach row' s) e < min (reach row s) e)
  | [], _, _, _ => ⟨fun row m => (by cases m), Nat.le_refl _, .inl rfl⟩
  | row :: g, k, best, far => by
    unfold bestFrom
    split
    · rename_i h
      obtain ⟨h1, h2, h3⟩ := bestFrom_spec s e g (k + 1) k (min (reach row s) e)
      refine ⟨fun r m => ?_, by omega, ?_⟩
      · rcases List.mem_cons.mp m with rfl | m
        · exact h2
        · exact h1 r m
      · rcases h3 with q | ⟨i, r2, g1, g2, g3, g4⟩
        · refine .inr ⟨0, row, rfl, by rw [q, Nat.add_zero], h, fun j row' hj => absurd hj (by omega)⟩
        · refine .inr ⟨i + 1, r2, g1, by rw [g2, Nat.add_assoc, Nat.add_comm 1 i], by omega, fun j row' hj hr => ?_⟩
          cases j with
          | zero =>
            cases hr
            exact g3
          | succ j => exact g4 j row' (by omega) hr
    · rename_i h
      obtain ⟨h1, h2, h3⟩ := bestFrom_spec s e g (k + 1) best far
      refine ⟨fun r m => ?_, h2, ?_⟩
      · rcases List.mem_cons.mp m with rfl | m
        · omega
        · exact h1 r m
      · rcases h3 with q | ⟨i, r2, g1, g2, g3, g4⟩
        · exact .inl q
        · refine .inr ⟨i + 1, r2, g1, by rw [g2, Nat.add_assoc, Nat.add_comm 1 i], g3, fun j row' hj hr => ?_⟩
          cases j with
          | zero =>
            cases hr
            omega
          | succ j => exact g4 j row' (by omega) hr
/-- the best seat, as said -/
theorem best_spec {g : Grid} {s e : Nat} (h : ∃ row ∈ g, s < min (reach row s) e) : ∃ i row, g[i]? = some row ∧ bestSeat g s e = (i, min (reach row s) e) ∧ s < min (reach row s) e ∧
    (∀ row' ∈ g, min (reach row' s) e ≤ min (reach row s) e) ∧ ∀ j row', j < i → g[j]? = some row' → min (reach row' s) e < min (reach row s) e := by
  obtain ⟨h1, h2, h3⟩ := bestFrom_spec s e g 0 0 s
  obtain ⟨row0, m0, h0⟩ := h
  have h10 := h1 row0 m0
  rcases h3 with q | ⟨i, row, g1, g2, g3, g4⟩
  · rw [q] at h10
    dsimp only at h10
    omega
  · refine ⟨i, row, g1, by unfold bestSeat; rw [g2, Nat.zero_add], g3, fun row' m => ?_, g4⟩
    have := h1 row' m
    rw [g2] at this
    exact this
theorem free_at {g : Grid} {n l : Nat} (hg : ∀ row ∈ g, row.length = n) (hl : l < n) (h : fullLeg g l = false) : ∃ row ∈ g, row[l]? = some none := by
  unfold fullLeg at h
  obtain ⟨row, m, hr⟩ : ∃ row ∈ g, held row l = false := by
    have := List.all_eq_false.mp h
    obtain ⟨row, m, hr⟩ := this
    exact ⟨row, m, by simpa using hr⟩
  refine ⟨row, m, ?_⟩
  have hlen := hg row m
  unfold held at hr
  have e := List.getElem?_eq_getElem (l := row) (i := l) (by omega)
  rw [e] at hr
  rw [e]
  cases hx : row[l] with
  | none => rfl
  | some t =>
    rw [hx] at hr
    cases hr
theorem leads_on {g : Grid} {n s e : Nat} (hg : ∀ row ∈ g, row.length = n) (hs : s < e) (he : e ≤ n) (h : fullLeg g s = false) : ∃ row ∈ g, s < min (reach row s) e := by
  obtain ⟨row, m, hr⟩ := free_at hg (by omega) h
  refine ⟨row, m, ?_⟩
  rw [reach_yes hr]
  have := reach_ge row (s + 1)
  omega
theorem found_way {g : Grid} {n e : Nat} (hg : ∀ row ∈ g, row.length = n) (he : e ≤ n) : ∀ (m s : Nat), e - s ≤ m → s ≤ e → (∀ l, s ≤ l → l < e → fullLeg g l = false) →
    Way g.length s e (found g s e) ∧ ∀ q ∈ found g s e, ∀ l, q.2.1 ≤ l → l < q.2.2 → cellOf g q.1 l = none := by
  intro m
  induction m with
  | zero =>
    intro s h1 h2 _
    rw [found_stop (by omega)]
    exact ⟨by show s = e; omega, fun q m => by cases m⟩
  | succ m ih =>
    intro s h1 h2 hf
    by_cases hs : s < e
    · obtain ⟨i, row, g1, g2, g3, g4, g5⟩ := best_spec (leads_on hg hs he (hf s (Nat.le_refl _) hs))
      have hb : (bestSeat g s e).2 ≠ s := by
        rw [g2]
        show min _ _ ≠ s
        omega
      rw [found_on hs hb, g2]
      dsimp only
      obtain ⟨w, fr⟩ := ih (min (reach row s) e) (by omega) (by omega) (fun l l1 l2 => hf l (by omega) l2)
      refine ⟨⟨rfl, g3, lt_of_get g1, fun q' hq => ?_, w⟩, fun q mq l l1 l2 => ?_⟩
      · by_cases hs2 : min (reach row s) e < e
        · obtain ⟨i2, row2, k1, k2, k3, k4, k5⟩ := best_spec (leads_on hg hs2 he (hf _ (by omega) hs2))
          have hb2 : (bestSeat g (min (reach row s) e) e).2 ≠ min (reach row s) e := by
            rw [k2]
            show min _ _ ≠ min _ _
            omega
          rw [found_on hs2 hb2, k2] at hq
          cases hq
          show i2 ≠ i
          rintro rfl
          rw [g1] at k1
          cases k1
          have hlen := hg row (List.mem_of_getElem? g1)
          have e1 : min (reach row s) e = reach row s := by omega
          rw [e1] at k3
          obtain ⟨t, ht⟩ := reach_held (row := row) _ s (Nat.le_refl _) (by omega)
          rw [reach_no ht] at k3
          omega
        · rw [found_stop hs2] at hq
          cases hq
      · rcases List.mem_cons.mp mq with rfl | mq
        · dsimp only at l1 l2
          exact cell_is g1 (reach_free _ s l (Nat.le_refl _) l1 (by omega))
        · exact fr q mq l l1 l2
    · rw [found_stop hs]
      exact ⟨by show s = e; omega, fun q m => by cases m⟩
theorem full_none {g : Grid} {b e : Nat} : firstFull g b e = none ↔ ∀ l, b ≤ l → l < e → fullLeg g l = false := by
  unfold firstFull
  rw [List.find?_eq_none]
  refine ⟨fun h l l1 l2 => ?_, fun h x m => ?_⟩
  · have := h l (List.mem_range'_1.mpr (by omega))
    simpa using this
  · have := List.mem_range'_1.mp m
    rw [h x this.1 (by omega)]
    exact Bool.false_ne_true
end Lg

namespace Lg
open PySem PySem.Spec PyProof.Rows L2
/-! ### the tickets' table -/
theorem mem_putS {sold : List (Nat × List P3)} {t : Nat} {ps : List P3} {y : Nat × List P3} : y ∈ putS sold t ps ↔ y = (t, ps) ∨ (y ∈ sold ∧ y.1 ≠ t) := by
  unfold putS
  by_cases h : (sold.any fun x => decide (x.1 = t)) = true
  · rw [if_pos h]
    obtain ⟨x0, m0, h0⟩ := List.any_eq_true.mp h
    have h0 := of_decide_eq_true h0
    refine ⟨fun m => ?_, fun c => ?_⟩
    · obtain ⟨x, mx, ex⟩ := List.mem_map.mp m
      by_cases hx : x.1 = t
      · rw [if_pos hx] at ex
        exact .inl ex.symm
      · rw [if_neg hx] at ex
        cases ex
        exact .inr ⟨mx, hx⟩
    · rcases c with rfl | ⟨m, hy⟩
      · exact List.mem_map.mpr ⟨x0, m0, by rw [if_pos h0]⟩
      · exact List.mem_map.mpr ⟨y, m, by rw [if_neg hy]⟩
  · rw [if_neg h]
    have hn : ∀ x ∈ sold, x.1 ≠ t := fun x m hx => h (List.any_eq_true.mpr ⟨x, m, decide_eq_true hx⟩)
    refine ⟨fun m => ?_, fun c => ?_⟩
    · rcases List.mem_append.mp m with m | m
      · exact .inr ⟨m, hn y m⟩
      · exact .inl (List.mem_singleton.mp m)
    · rcases c with rfl | ⟨m, _⟩
      · exact List.mem_append_right _ (List.mem_singleton.mpr rfl)
      · exact List.mem_append_left _ m
theorem mem_dropS {sold : List (Nat × List P3)} {t : Nat} {y : Nat × List P3} : y ∈ dropS sold t ↔ y ∈ sold ∧ y.1 ≠ t := by
  unfold dropS
  rw [List.mem_filter]
  refine and_congr_right fun _ => ?_
  simp
theorem getS_mem {sold : List (Nat × List P3)} {t : Int} {ps : List P3} (h : getS sold t = some ps) : ∃ n : Nat, t = (n : Int) ∧ (n, ps) ∈ sold := by
  unfold getS at h
  cases e : sold.find? fun x => decide ((x.1 : Int) = t) with
  | none =>
    rw [e] at h
    cases h
  | some x =>
    rw [e] at h
    cases h
    have h1 := List.find?_some e
    have h2 := List.mem_of_find?_eq_some e
    exact ⟨x.1, (of_decide_eq_true h1).symm, h2⟩
theorem getS_none {sold : List (Nat × List P3)} {t : Int} : getS sold t = none ↔ ∀ x ∈ sold, (x.1 : Int) ≠ t := by
  unfold getS
  rw [Option.map_eq_none_iff, List.find?_eq_none]
  refine ⟨fun h x m => ?_, fun h x m => ?_⟩
  · have := h x m
    simpa using this
  · simpa using h x m
theorem rising_one {sold : List (Nat × List P3)} (h : (sold.map (·.1)).Pairwise (· < ·)) {x y : Nat × List P3} (mx : x ∈ sold) (my : y ∈ sold) (e : x.1 = y.1) : x = y := by
  obtain ⟨i, hi, ei⟩ := List.mem_iff_getElem.mp mx
  obtain ⟨j, hj, ej⟩ := List.mem_iff_getElem.mp my
  have hp := List.pairwise_map.mp h
  have hq := List.pairwise_iff_getElem.mp hp
  rcases Nat.lt_trichotomy i j with c | c | c
  · have := hq i j hi hj c
    rw [ei, ej] at this
    omega
  · subst c
    rw [← ei, ← ej]
  · have := hq j i hj hi c
    rw [ei, ej] at this
    omega
theorem getS_of {sold : List (Nat × List P3)} (h : (sold.map (·.1)).Pairwise (· < ·)) {n : Nat} {ps : List P3} (m : (n, ps) ∈ sold) : getS sold (n : Int) = some ps := by
  cases e : getS sold (n : Int) with
  | none => exact absurd rfl (getS_none.mp e _ m)
  | some qs =>
    obtain ⟨k, ek, mk⟩ := getS_mem e
    have ek : n = k := Int.ofNat_inj.mp ek
    have := rising_one h mk m ek.symm
    cases this
    rfl
theorem drop_rising {sold : List (Nat × List P3)} {t : Nat} (h : (sold.map (·.1)).Pairwise (· < ·)) : ((dropS sold t).map (·.1)).Pairwise (· < ·) := by
  have := List.pairwise_map.mp h
  exact List.pairwise_map.mpr (this.filter _)

/-! ### deeds -/
instance (T : Tr) (b e : Int) : Decidable (Str3 T b e) := by unfold Str3; infer_instance
inductive Kind where
  | sell
  | back
  | leave
  | reseat
structure Deed where
  k : Kind
  a : Int
  b : Int
inductive Res where
  | non
  | num (n : Nat)
  | parts (ps : List P3)
structure Out where
  word : Str
  res : Res
  tr : Tr
def hdP (ps : List P3) : P3 := ps.head?.getD (0, 0, 0)
def ltP (ps : List P3) : P3 := ps.getLast?.getD (0, 0, 0)
def Tr.back (T : Tr) (t : Nat) (ps : List P3) : Tr := { T with rows := markAll T.rows ps none, sold := dropS T.sold t }
def Tr.leave (T : Tr) (t : Nat) (s : Nat) (ps : List P3) : Tr := { T with rows := markAll T.rows (goneP ps s) none, sold := putS T.sold t (keptP ps s) }
def newP (T : Tr) (ps : List P3) : List P3 := found (markAll T.rows ps none) (hdP ps).2.1 (ltP ps).2.2
def Tr.reseat (T : Tr) (t : Nat) (ps : List P3) : Tr := { T with rows := markAll (markAll T.rows ps none) (newP T ps) (some t), sold := putS T.sold t (newP T ps) }
def runSell (T : Tr) (a b : Int) : Out := if Str3 T a b then (if firstFull T.rows a.toNat b.toNat = none then ⟨"", .num T.coming, T.sell a.toNat b.toNat⟩ else ⟨"full", .non, T⟩) else ⟨"stretch", .non, T⟩
def runBack (T : Tr) (a : Int) : Out := match getS T.sold a with
  | none => ⟨"ticket", .non, T⟩
  | some ps => ⟨"", .parts ps, T.back a.toNat ps⟩
def runLeave (T : Tr) (a b : Int) : Out := match getS T.sold a with
  | none => ⟨"ticket", .non, T⟩
  | some ps => if ((hdP ps).2.1 : Int) < b ∧ b < ((ltP ps).2.2 : Int) then ⟨"", .parts (goneP ps b.toNat), T.leave a.toNat b.toNat ps⟩ else ⟨"stop", .non, T⟩
def runReseat (T : Tr) (a : Int) : Out := match getS T.sold a with
  | none => ⟨"ticket", .non, T⟩
  | some ps => ⟨"", .parts (newP T ps), T.reseat a.toNat ps⟩
def Tr.run (T : Tr) (d : Deed) : Out := match d.k with
  | .sell => runSell T d.a d.b
  | .back => runBack T d.a
  | .leave => runLeave T d.a d.b
  | .reseat => runReseat T d.a
/-- what always holds of a train -/
structure Good (T : Tr) : Prop where
  wf : T.Wf
  low : ∀ x ∈ T.sold, x.1 < T.coming
  way : ∀ x ∈ T.sold, ∃ b e, b < e ∧ e ≤ T.stops - 1 ∧ Way T.rows.length b e x.2
  cell : ∀ s l t, s < T.rows.length → l < T.stops - 1 → (cellOf T.rows s l = some t ↔ ∃ x ∈ T.sold, x.1 = t ∧ covers x.2 s l)
theorem Good.new {seats stops : Nat} (h1 : 1 ≤ seats) (h2 : seats ≤ 60) (h3 : 2 ≤ stops) (h4 : stops ≤ 60) : Good (Tr.new seats stops) where
  wf := Tr.new_wf h1 h2 h3 h4
  low := fun x m => by cases m
  way := fun x m => by cases m
  cell := fun s l t _ _ => by
    rw [cell_new]
    refine ⟨fun z => (by cases z), fun ⟨x, m, _⟩ => by cases m⟩
theorem Way.hd {n b e : Nat} {ps : List P3} (w : Way n b e ps) (h : b < e) : (hdP ps).2.1 = b ∧ (ltP ps).2.2 = e := by
  have hne := w.ne h
  cases ps with
  | nil => exact absurd rfl hne
  | cons p r =>
    refine ⟨w.1, ?_⟩
    unfold ltP
    rw [List.getLast?_eq_some_getLast hne, Option.getD_some]
    exact w.lastE (List.getLast?_eq_some_getLast hne)
theorem Way.valid {T : Tr} {b e : Nat} {ps : List P3} (w : Way T.rows.length b e ps) (he : e ≤ T.stops - 1) : Valid T ps := fun q m => by
  have := w.mem q m
  exact ⟨this.1, this.2.2.1, by omega⟩
theorem cells_step {T : Tr} (G : Good T) {t : Nat} {old new : List P3} {rows' : Grid} {sold' : List (Nat × List P3)}
    (hold : ∀ s l, covers old s l ↔ ∃ x ∈ T.sold, x.1 = t ∧ covers x.2 s l)
    (hfree : ∀ s l, s < T.rows.length → l < T.stops - 1 → covers new s l → cellOf T.rows s l = none ∨ covers old s l)
    (hrows : ∀ s l, s < T.rows.length → l < T.stops - 1 → cellOf rows' s l = if covers new s l then some t else if covers old s l then none else cellOf T.rows s l)
    (hs : ∀ y : Nat × List P3, y.1 ≠ t → (y ∈ sold' ↔ y ∈ T.sold)) (ht : ∀ s l, (∃ y ∈ sold', y.1 = t ∧ covers y.2 s l) ↔ covers new s l) :
    ∀ s l u, s < T.rows.length → l < T.stops - 1 → (cellOf rows' s l = some u ↔ ∃ x ∈ sold', x.1 = u ∧ covers x.2 s l) := by
  intro s l u h1 h2
  rw [hrows s l h1 h2]
  by_cases hu : u = t
  · subst hu
    rw [ht s l]
    by_cases c1 : covers new s l
    · rw [if_pos c1]
      exact ⟨fun _ => c1, fun _ => rfl⟩
    · rw [if_neg c1]
      by_cases c2 : covers old s l
      · rw [if_pos c2]
        exact ⟨fun z => (by cases z), fun z => absurd z c1⟩
      · rw [if_neg c2]
        refine ⟨fun z => absurd ((hold s l).mpr ((G.cell s l u h1 h2).mp z)) c2, fun z => absurd z c1⟩
  · have e1 : (∃ x ∈ sold', x.1 = u ∧ covers x.2 s l) ↔ ∃ x ∈ T.sold, x.1 = u ∧ covers x.2 s l := by
      refine ⟨fun ⟨x, m, ex, c⟩ => ⟨x, (hs x (by omega)).mp m, ex, c⟩, fun ⟨x, m, ex, c⟩ => ⟨x, (hs x (by omega)).mpr m, ex, c⟩⟩
    rw [e1, ← G.cell s l u h1 h2]
    have other : covers old s l → cellOf T.rows s l = some t := fun c => (G.cell s l t h1 h2).mpr ((hold s l).mp c)
    by_cases c1 : covers new s l
    · rw [if_pos c1]
      refine ⟨fun z => absurd (Option.some.inj z).symm hu, fun z => ?_⟩
      rcases hfree s l h1 h2 c1 with q | q
      · rw [q] at z
        cases z
      · rw [other q] at z
        exact absurd (Option.some.inj z).symm hu
    · rw [if_neg c1]
      by_cases c2 : covers old s l
      · rw [if_pos c2, other c2]
        exact ⟨fun z => (by cases z), fun z => absurd (Option.some.inj z).symm hu⟩
      · rw [if_neg c2]
theorem Good.mem_old {T : Tr} (G : Good T) {t : Nat} {ps : List P3} (m : (t, ps) ∈ T.sold) : ∀ s l, covers ps s l ↔ ∃ x ∈ T.sold, x.1 = t ∧ covers x.2 s l := fun s l =>
  ⟨fun c => ⟨_, m, rfl, c⟩, fun ⟨x, mx, ex, c⟩ => by
    have := rising_one G.wf.rising mx m ex
    rw [this] at c
    exact c⟩
theorem mark_cell {T : Tr} (w : T.Wf) {ps : List P3} (v : Valid T ps) {h : Option Nat} {s l : Nat} : cellOf (markAll T.rows ps h) s l = if covers ps s l then h else cellOf T.rows s l :=
  markAll_cell ps T.rows w.legs fun q m => ⟨(v q m).1, (v q m).2.2⟩
theorem mark_wf {T : Tr} (w : T.Wf) (ps : List P3) (h : Option Nat) : (T.mark ps h).Wf := w.rows (markAll_len _ _ _) (markAll_row _ _ _ w.legs)
theorem sell_wf {T : Tr} (w : T.Wf) {rows' : Grid} (h1 : rows'.length = T.rows.length) (h2 : ∀ row ∈ rows', row.length = T.stops - 1) {sold' : List (Nat × List P3)} (h3 : (sold'.map (·.1)).Pairwise (· < ·)) {c : Nat} : (Tr.mk T.stops rows' sold' c).Wf :=
  ⟨by show 1 ≤ rows'.length; rw [h1]; exact w.s1, by show rows'.length ≤ 60; rw [h1]; exact w.s2, w.t1, w.t2, h2, h3⟩
theorem Good.sell {T : Tr} (G : Good T) {b e : Nat} (hb : b < e) (he : e ≤ T.stops - 1) (hf : firstFull T.rows b e = none) : Good (T.sell b e) := by
  obtain ⟨w, fr⟩ := found_way G.wf.legs he _ b (Nat.le_refl _) (Nat.le_of_lt hb) (full_none.mp hf)
  have nin : ∀ x ∈ T.sold, x.1 ≠ T.coming := fun x m => Nat.ne_of_lt (G.low x m)
  refine ⟨sell_wf G.wf (markAll_len _ _ _) (markAll_row _ _ _ G.wf.legs) (putS_rising G.wf.rising (.inr G.low)), fun x m => ?_, fun x m => ?_, ?_⟩
  · rcases mem_putS.mp m with rfl | ⟨m, _⟩
    · exact Nat.lt_succ_self _
    · exact Nat.lt_succ_of_lt (G.low x m)
  · show ∃ b' e', b' < e' ∧ e' ≤ T.stops - 1 ∧ Way (markAll _ _ _).length b' e' x.2
    rw [markAll_len]
    rcases mem_putS.mp m with rfl | ⟨m, _⟩
    · exact ⟨b, e, hb, he, w⟩
    · exact G.way x m
  · intro s l u h1 h2
    rw [show (T.sell b e).rows.length = T.rows.length from markAll_len _ _ _] at h1
    refine cells_step G (t := T.coming) (old := []) (new := found T.rows b e) (fun s l => ⟨fun ⟨q, m, _⟩ => (by cases m), fun ⟨x, m, ex, _⟩ => absurd ex (nin x m)⟩) (fun s l _ _ ⟨q, m, c1, c2, c3⟩ => .inl (by rw [c1]; exact fr q m l c2 c3)) (fun s l _ _ => ?_)
      (fun y hy => ?_) (fun s l => ?_) s l u h1 h2
    · rw [if_neg (c := covers [] s l) (fun ⟨q, m, _⟩ => by cases m)]
      exact mark_cell G.wf (w.valid he)
    · show y ∈ putS _ _ _ ↔ _
      rw [mem_putS]
      refine ⟨fun c => ?_, fun m => .inr ⟨m, hy⟩⟩
      rcases c with rfl | c
      · exact absurd rfl hy
      · exact c.1
    · refine ⟨fun ⟨y, m, ey, c⟩ => ?_, fun c => ⟨_, mem_putS.mpr (.inl rfl), rfl, c⟩⟩
      rcases mem_putS.mp m with rfl | ⟨_, hy⟩
      · exact c
      · exact absurd ey hy
theorem Good.back {T : Tr} (G : Good T) {t : Nat} {ps : List P3} (m : (t, ps) ∈ T.sold) : Good (T.back t ps) := by
  obtain ⟨b, e, hb, he, w⟩ := G.way _ m
  refine ⟨sell_wf G.wf (markAll_len _ _ _) (markAll_row _ _ _ G.wf.legs) (drop_rising G.wf.rising), fun x mx => G.low x (mem_dropS.mp mx).1, fun x mx => ?_, ?_⟩
  · show ∃ b' e', b' < e' ∧ e' ≤ T.stops - 1 ∧ Way (markAll _ _ _).length b' e' x.2
    rw [markAll_len]
    exact G.way x (mem_dropS.mp mx).1
  · intro s l u h1 h2
    rw [show (T.back t ps).rows.length = T.rows.length from markAll_len _ _ _] at h1
    refine cells_step G (t := t) (old := ps) (new := []) (G.mem_old m) (fun s l _ _ ⟨q, mq, _⟩ => (by cases mq)) (fun s l _ _ => ?_) (fun y hy => ?_) (fun s l => ?_) s l u h1 h2
    · rw [if_neg (c := covers [] s l) (fun ⟨q, m, _⟩ => by cases m)]
      exact mark_cell G.wf (w.valid he)
    · show y ∈ dropS _ _ ↔ _
      rw [mem_dropS]
      exact ⟨fun c => c.1, fun c => ⟨c, hy⟩⟩
    · refine ⟨fun ⟨y, my, ey, c⟩ => absurd ey (mem_dropS.mp my).2, fun z => ?_⟩
      obtain ⟨q, mq, _⟩ := z
      cases mq
theorem Good.leave {T : Tr} (G : Good T) {t c : Nat} {ps : List P3} (m : (t, ps) ∈ T.sold) (h1 : (hdP ps).2.1 < c) (h2 : c < (ltP ps).2.2) : Good (T.leave t c ps) := by
  obtain ⟨b, e, hb, he, w⟩ := G.way _ m
  obtain ⟨eb, ee⟩ := w.hd hb
  dsimp only at w eb ee
  rw [eb] at h1
  rw [ee] at h2
  have wk := kept_way w h1 h2
  have wg := gone_way w (by omega) h2
  refine ⟨sell_wf G.wf (markAll_len _ _ _) (markAll_row _ _ _ G.wf.legs) (putS_rising G.wf.rising (.inl ⟨_, m, rfl⟩)), fun x mx => ?_, fun x mx => ?_, ?_⟩
  · rcases mem_putS.mp mx with rfl | ⟨mx, _⟩
    · exact G.low (t, ps) m
    · exact G.low x mx
  · show ∃ b' e', b' < e' ∧ e' ≤ T.stops - 1 ∧ Way (markAll _ _ _).length b' e' x.2
    rw [markAll_len]
    rcases mem_putS.mp mx with rfl | ⟨mx, _⟩
    · exact ⟨b, c, h1, by omega, wk⟩
    · exact G.way x mx
  · intro s l u h1 h2
    rw [show (T.leave t c ps).rows.length = T.rows.length from markAll_len _ _ _] at h1
    refine cells_step G (t := t) (old := ps) (new := keptP ps c) (G.mem_old m) (fun s l _ _ z => .inr (covers_kept.mp z).1) (fun s l g1 g2 => ?_) (fun y hy => ?_) (fun s l => ?_) s l u h1 h2
    · show cellOf (markAll T.rows (goneP ps c) none) s l = _
      rw [mark_cell G.wf (wg.valid he)]
      by_cases c1 : covers ps s l
      · have c0 := (G.cell s l t g1 g2).mpr ⟨_, m, rfl, c1⟩
        by_cases c2 : l < c
        · rw [if_neg (fun z => by have := (covers_gone.mp z).2; omega), if_pos (covers_kept.mpr ⟨c1, c2⟩)]
          exact c0
        · rw [if_pos (covers_gone.mpr ⟨c1, by omega⟩), if_neg (fun z => c2 (covers_kept.mp z).2), if_pos c1]
      · rw [if_neg (fun z => c1 (covers_gone.mp z).1), if_neg (fun z => c1 (covers_kept.mp z).1), if_neg c1]
    · show y ∈ putS _ _ _ ↔ _
      rw [mem_putS]
      refine ⟨fun c => ?_, fun m => .inr ⟨m, hy⟩⟩
      rcases c with rfl | c
      · exact absurd rfl hy
      · exact c.1
    · refine ⟨fun ⟨y, m, ey, c⟩ => ?_, fun c => ⟨_, mem_putS.mpr (.inl rfl), rfl, c⟩⟩
      rcases mem_putS.mp m with rfl | ⟨_, hy⟩
      · exact c
      · exact absurd ey hy
/-- own legs given back: each leg of the stretch has a free seat -/
theorem own_free {T : Tr} (w : T.Wf) {b e : Nat} {ps : List P3} (p : Way T.rows.length b e ps) (he : e ≤ T.stops - 1) : ∀ l, b ≤ l → l < e → fullLeg (markAll T.rows ps none) l = false := by
  intro l h1 h2
  obtain ⟨s, c⟩ := p.all h1 h2
  have hs := (p.in c).1
  have hc := mark_cell w (p.valid he) (h := none) (s := s) (l := l)
  rw [if_pos c] at hc
  have hlen := markAll_len none ps T.rows
  unfold fullLeg
  rw [List.all_eq_false]
  have hs' : s < (markAll T.rows ps none).length := by omega
  refine ⟨(markAll T.rows ps none)[s], List.getElem_mem hs', ?_⟩
  have hr := markAll_row none ps _ w.legs _ (List.getElem_mem hs')
  unfold cellOf at hc
  rw [List.getElem?_eq_getElem hs', Option.getD_some] at hc
  unfold held
  rw [hc]
  exact Bool.false_ne_true
theorem newP_way {T : Tr} (w : T.Wf) {b e : Nat} {ps : List P3} (p : Way T.rows.length b e ps) (hb : b < e) (he : e ≤ T.stops - 1) : newP T ps = found (markAll T.rows ps none) b e ∧ Way T.rows.length b e (newP T ps) ∧
    ∀ q ∈ newP T ps, ∀ l, q.2.1 ≤ l → l < q.2.2 → cellOf (markAll T.rows ps none) q.1 l = none := by
  have e1 : newP T ps = found (markAll T.rows ps none) b e := by
    unfold newP
    rw [(p.hd hb).1, (p.hd hb).2]
  have := found_way (markAll_row none ps _ w.legs) he _ b (Nat.le_refl _) (Nat.le_of_lt hb) (own_free w p he)
  rw [markAll_len] at this
  rw [e1]
  exact ⟨rfl, this⟩
theorem Good.reseat {T : Tr} (G : Good T) {t : Nat} {ps : List P3} (m : (t, ps) ∈ T.sold) : Good (T.reseat t ps) := by
  obtain ⟨b, e, hb, he, w⟩ := G.way _ m
  dsimp only at w
  obtain ⟨e1, wn, fr⟩ := newP_way G.wf w hb he
  have vn := wn.valid he
  have hlen : (T.reseat t ps).rows.length = T.rows.length := by
    show (markAll (markAll _ _ _) _ _).length = _
    rw [markAll_len, markAll_len]
  refine ⟨sell_wf G.wf hlen (markAll_row _ _ _ (markAll_row _ _ _ G.wf.legs)) (putS_rising G.wf.rising (.inl ⟨_, m, rfl⟩)), fun x mx => ?_, fun x mx => ?_, ?_⟩
  · rcases mem_putS.mp mx with rfl | ⟨mx, _⟩
    · exact G.low (t, ps) m
    · exact G.low x mx
  · rw [hlen]
    show ∃ b' e', b' < e' ∧ e' ≤ T.stops - 1 ∧ Way _ b' e' x.2
    rcases mem_putS.mp mx with rfl | ⟨mx, _⟩
    · exact ⟨b, e, hb, he, wn⟩
    · exact G.way x mx
  · intro s l u h1 h2
    rw [hlen] at h1
    refine cells_step G (t := t) (old := ps) (new := newP T ps) (G.mem_old m) (fun s l g1 g2 ⟨q, mq, c1, c2, c3⟩ => ?_) (fun s l g1 g2 => ?_) (fun y hy => ?_) (fun s l => ?_) s l u h1 h2
    · have := fr q mq l c2 c3
      rw [← c1, mark_cell G.wf (w.valid he)] at this
      by_cases c : covers ps s l
      · exact .inr c
      · rw [if_neg c] at this
        exact .inl this
    · show cellOf (markAll (T.mark ps none).rows (newP T ps) (some t)) s l = _
      rw [mark_cell (T := T.mark ps none) (mark_wf G.wf ps none) (fun q mq => ?_)]
      · show (if covers _ s l then _ else cellOf (markAll T.rows ps none) s l) = _
        rw [mark_cell G.wf (w.valid he)]
      · have := vn q mq
        refine ⟨?_, this.2⟩
        show _ < (markAll _ _ _).length
        rw [markAll_len]
        exact this.1
    · show y ∈ putS _ _ _ ↔ _
      rw [mem_putS]
      refine ⟨fun c => ?_, fun m => .inr ⟨m, hy⟩⟩
      rcases c with rfl | c
      · exact absurd rfl hy
      · exact c.1
    · refine ⟨fun ⟨y, m, ey, c⟩ => ?_, fun c => ⟨_, mem_putS.mpr (.inl rfl), rfl, c⟩⟩
      rcases mem_putS.mp m with rfl | ⟨_, hy⟩
      · exact c
      · exact absurd ey hy
theorem Good.run {T : Tr} (G : Good T) (d : Deed) : Good (T.run d).tr ∧ (T.run d).tr.stops = T.stops ∧ (T.run d).tr.rows.length = T.rows.length ∧ T.coming ≤ (T.run d).tr.coming ∧ (T.run d).tr.coming ≤ T.coming + 1 := by
  obtain ⟨k, a, b⟩ := d
  cases k with
  | sell =>
    show Good (runSell T a b).tr ∧ (runSell T a b).tr.stops = _ ∧ (runSell T a b).tr.rows.length = _ ∧ _ ≤ (runSell T a b).tr.coming ∧ (runSell T a b).tr.coming ≤ _
    unfold runSell
    split
    · rename_i hs
      split
      · rename_i hf
        exact ⟨G.sell (by have := hs.2.1; have := hs.1; omega) (by have := hs.2.2; have := hs.1; omega) hf, rfl, markAll_len _ _ _, Nat.le_succ _, Nat.le_refl _⟩
      · exact ⟨G, rfl, rfl, Nat.le_refl _, Nat.le_succ _⟩
    · exact ⟨G, rfl, rfl, Nat.le_refl _, Nat.le_succ _⟩
  | back =>
    show Good (runBack T a).tr ∧ (runBack T a).tr.stops = _ ∧ (runBack T a).tr.rows.length = _ ∧ _ ≤ (runBack T a).tr.coming ∧ (runBack T a).tr.coming ≤ _
    unfold runBack
    cases h : getS T.sold a with
    | none => exact ⟨G, rfl, rfl, Nat.le_refl _, Nat.le_succ _⟩
    | some ps =>
      obtain ⟨n, rfl, m⟩ := getS_mem h
      exact ⟨G.back m, rfl, markAll_len _ _ _, Nat.le_refl _, Nat.le_succ _⟩
  | leave =>
    show Good (runLeave T a b).tr ∧ (runLeave T a b).tr.stops = _ ∧ (runLeave T a b).tr.rows.length = _ ∧ _ ≤ (runLeave T a b).tr.coming ∧ (runLeave T a b).tr.coming ≤ _
    unfold runLeave
    cases h : getS T.sold a with
    | none => exact ⟨G, rfl, rfl, Nat.le_refl _, Nat.le_succ _⟩
    | some ps =>
      obtain ⟨n, rfl, m⟩ := getS_mem h
      dsimp only
      split
      · exact ⟨G.leave m (by omega) (by omega), rfl, markAll_len _ _ _, Nat.le_refl _, Nat.le_succ _⟩
      · exact ⟨G, rfl, rfl, Nat.le_refl _, Nat.le_succ _⟩
  | reseat =>
    show Good (runReseat T a).tr ∧ (runReseat T a).tr.stops = _ ∧ (runReseat T a).tr.rows.length = _ ∧ _ ≤ (runReseat T a).tr.coming ∧ (runReseat T a).tr.coming ≤ _
    unfold runReseat
    cases h : getS T.sold a with
    | none => exact ⟨G, rfl, rfl, Nat.le_refl _, Nat.le_succ _⟩
    | some ps =>
      obtain ⟨n, rfl, m⟩ := getS_mem h
      refine ⟨G.reseat m, rfl, ?_, Nat.le_refl _, Nat.le_succ _⟩
      show (markAll (markAll _ _ _) _ _).length = _
      rw [markAll_len, markAll_len]
/-- not more tickets than were sold -/
theorem Good.many {T : Tr} (G : Good T) : T.sold.length ≤ T.coming := by
  have h : ∀ (l : List Nat) (n : Nat), l.Pairwise (· < ·) → (∀ x ∈ l, x < n) → l.length ≤ n := by
    intro l
    induction l with
    | nil => exact fun _ _ _ => Nat.zero_le _
    | cons a r ih =>
      intro n hp hn
      have h1 := List.pairwise_cons.mp hp
      have h2 := ih (n - (a + 1) + (a + 1)) h1.2 (fun x m => by have := hn x (List.mem_cons_of_mem _ m); omega)
      have h3 : ∀ (l : List Nat) (k n : Nat), l.Pairwise (· < ·) → (∀ x ∈ l, k ≤ x ∧ x < n) → l.length ≤ n - k := by
        intro l
        induction l with
        | nil => exact fun _ _ _ _ => Nat.zero_le _
        | cons a r ih =>
          intro k n hp hn
          have h1 := List.pairwise_cons.mp hp
          have h2 := ih (k + 1) n h1.2 (fun x m => ⟨by have := h1.1 x m; have := (hn a List.mem_cons_self).1; omega, (hn x (List.mem_cons_of_mem _ m)).2⟩)
          have := hn a List.mem_cons_self
          rw [List.length_cons]
          omega
      have := h3 (a :: r) 0 n hp (fun x m => ⟨Nat.zero_le _, hn x m⟩)
      omega
  have := h (T.sold.map (·.1)) T.coming G.wf.rising (fun x m => by
    obtain ⟨y, my, rfl⟩ := List.mem_map.mp m
    exact G.low y my)
  rw [List.length_map] at this
  exact this
end Lg

namespace Lg
open PySem PySem.Spec PyProof.Rows L2
/-- a ticket taken out of the table -/
theorem TrainAt.drop {K : PySem.W.Frag} {H : Hp} {S : Addr → Prop} {p : Addr} {T : Tr} (A : TrainAt K H S p T) : ∃ dx r d ent, H p = some (.ins (He.ga K "Train") dx (trF T.stops r d T.coming)) ∧ H d = some (.dK (entD ent)) ∧ T.sold = entS ent ∧
    ∀ t : Nat, Mv H (upd H d (.dK (dropK (entD ent) (Sum.inl (t : Int))))) S S ∧ TrainAt K (upd H d (.dK (dropK (entD ent) (Sum.inl (t : Int))))) S p { T with sold := dropS T.sold t } := by
  obtain ⟨r, d, as, ent, R, sp, sr, sd, sa, sl⟩ := A
  obtain ⟨dx, hp⟩ := R.ins
  refine ⟨dx, r, d, ent, hp, R.dict, R.sold, fun t => ?_⟩
  have lst : ∀ (q : Addr) (xs : List V), H q = some (.lst xs) → upd H d (.dK (dropK (entD ent) (Sum.inl (t : Int)))) q = some (.lst xs) := fun q xs h => by
    rw [upd_ne (ne_of h R.dict (fun z => by cases z))]
    exact h
  have tup : ∀ (q : Addr) (xs : List V), H q = some (.tup xs) → upd H d (.dK (dropK (entD ent) (Sum.inl (t : Int)))) q = some (.tup xs) := fun q xs h => by
    rw [upd_ne (ne_of h R.dict (fun z => by cases z))]
    exact h
  refine ⟨⟨fun a o na ha => ?_, tup, fun a h => .inl h⟩, r, d, as, ent.filter fun x => decide (x.1 ≠ t), ⟨⟨R.wf.s1, R.wf.s2, R.wf.t1, R.wf.t2, R.wf.legs, drop_rising R.wf.rising⟩, ⟨dx, ?_⟩, ⟨lst _ _ R.grid.top, R.grid.row.mono fun a row z => lst _ _ z⟩, R.nd, R.ra, ?_, ?_, fun x m => ?_, fun x m => R.la x (List.mem_filter.mp m).1⟩, sp, sr, sd, sa, fun x m => sl x (List.mem_filter.mp m).1⟩
  · rw [upd_ne (fun z : a = d => na (by rw [z]; exact sd))]
    exact ha
  · rw [upd_ne (ne_of hp R.dict (fun z => by cases z))]
    exact hp
  · show dropS T.sold t = _
    rw [R.sold, entS_drop]
  · rw [upd_same, entD_drop]
  · obtain ⟨us, q1, q2⟩ := R.prt x (List.mem_filter.mp m).1
    exact ⟨us, lst _ _ q1, q2.mono fun u q z => tup _ _ z⟩
/-- the kept places of a list are its filter -/
theorem kept_map {α : Type} (l : List α) (f : α → Bool) (keep : Nat → Bool) (d : α) (h : ∀ i x, l[i]? = some x → keep i = f x) : (kept l.length keep).map (fun i => (l[i]?).getD d) = l.filter f := by
  have main : ∀ n, n ≤ l.length → (kept n keep).map (fun i => (l[i]?).getD d) = (l.take n).filter f := by
    intro n
    induction n with
    | zero => intro _; rfl
    | succ n ih =>
      intro hn
      have hl : n < l.length := hn
      have e := List.getElem?_eq_getElem hl
      have et : l.take (n + 1) = l.take n ++ [l[n]] := by rw [List.take_succ_eq_append_getElem hl]
      have hk := h n _ e
      rw [et, List.filter_append, ← ih (by omega)]
      cases hf : f l[n] with
      | true =>
        rw [hf] at hk
        rw [kept_yes hk, List.map_append, List.filter_cons, if_pos hf]
        show _ ++ [(l[n]?).getD d] = _ ++ [l[n]]
        rw [e]
        rfl
      | false =>
        rw [hf] at hk
        rw [kept_no hk, List.filter_cons, if_neg (by rw [hf]; exact Bool.false_ne_true), List.filter_nil, List.append_nil]
  have := main l.length (Nat.le_refl _)
  rw [List.take_length] at this
  exact this
theorem all2_kept {α β : Type} {l : List α} {f : α → Bool} {keep : Nat → Bool} {ys : List β} {R : Nat → β → Prop} {R' : α → β → Prop} (h : All2 R (kept l.length keep) ys) (hk : ∀ i x, l[i]? = some x → keep i = f x) (hR : ∀ i x y, l[i]? = some x → R i y → R' x y) : All2 R' (l.filter f) ys := by
  cases l with
  | nil =>
    refine ⟨?_, fun i x y hx => by simp at hx⟩
    rw [← h.len]
    rfl
  | cons a r =>
    rw [← kept_map (a :: r) f keep a hk]
    refine ⟨by rw [List.length_map, h.len], fun i x y hx hy => ?_⟩
    obtain ⟨k, hk2, rfl⟩ := map_back hx
    have m := List.mem_of_getElem? hk2
    have hlt : k < (a :: r).length := List.mem_range.mp (List.mem_filter.mp m).1
    have e := List.getElem?_eq_getElem hlt
    rw [e]
    exact hR k _ y e (h.at_ i k y hk2 hy)
theorem all2_map {α β γ : Type} {f : γ → α} {xs : List γ} {ys : List β} {R : α → β → Prop} (h : All2 (fun x y => R (f x) y) xs ys) : All2 R (xs.map f) ys := by
  refine ⟨by rw [List.length_map, h.len], fun i x y hx hy => ?_⟩
  obtain ⟨u, hu, rfl⟩ := map_back hx
  exact h.at_ i u y hu hy
theorem All2.symm {α β : Type} {R : α → β → Prop} {xs : List α} {ys : List β} (h : All2 R xs ys) : All2 (fun y x => R x y) ys xs := ⟨h.len.symm, fun i y x hy hx => h.at_ i x y hx hy⟩
/-- a list whose elements are tuples told one by one -/
theorem parts_made {H : Hp} {l : Addr} {ys : List V} {ps : List P3} (h : H l = some (.lst ys)) (ha : All2 (fun (p : P3) y => ∃ a, y = V.ref a ∧ H a = some (.tup (pV p))) ps ys) : PartsAt H l ps := by
  have : ∀ (ps : List P3) (ys : List V), All2 (fun (p : P3) y => ∃ a, y = V.ref a ∧ H a = some (.tup (pV p))) ps ys → ∃ ts : List Addr, ys = ts.map V.ref ∧ All2 (PartAt H) ts ps := by
    intro ps
    induction ps with
    | nil =>
      intro ys h
      have := h.len
      cases ys with
      | nil => exact ⟨[], rfl, All2.nil⟩
      | cons y r => simp at this
    | cons p r ih =>
      intro ys h
      cases ys with
      | nil => have := h.len; simp at this
      | cons y ys =>
        obtain ⟨⟨a, rfl, ea⟩, ht⟩ := h.tail
        obtain ⟨ts, rfl, hts⟩ := ih ys ht
        exact ⟨a :: ts, rfl, All2.cons ea hts⟩
  obtain ⟨ts, rfl, hts⟩ := this ps ys ha
  exact ⟨ts, h, hts⟩
theorem hd_is {ps : List P3} {q : P3} (h : ps.head? = some q) : hdP ps = q := by
  unfold hdP
  rw [h]
  rfl
theorem lt_is {ps : List P3} {q : P3} (h : ps.getLast? = some q) : ltP ps = q := by
  unfold ltP
  rw [h]
  rfl
/-- what a ticket's list tells of its first and its last part -/
theorem parts_ends {H : Hp} {l : Addr} {ps : List P3} {ts : List Addr} (hl : H l = some (.lst (ts.map V.ref))) (hP : All2 (PartAt H) ts ps) (hne : ps ≠ []) : ∃ t0 t1, atI (ts.map V.ref) 0 = some (.ref t0) ∧ atI (ts.map V.ref) (-1) = some (.ref t1) ∧
    H t0 = some (.tup (pV (hdP ps))) ∧ H t1 = some (.tup (pV (ltP ps))) := by
  have hlen := hP.len
  have hpos : 0 < ps.length := List.length_pos_iff.mpr hne
  have g0 := List.getElem?_eq_getElem (l := ts) (i := 0) (by omega)
  have g1 := List.getElem?_eq_getElem (l := ts) (i := ts.length - 1) (by omega)
  obtain ⟨p0, k0, r0⟩ := hP.left g0
  obtain ⟨p1, k1, r1⟩ := hP.left g1
  refine ⟨ts[0]'(by omega), ts[ts.length - 1]'(by omega), at_of (j := 0) rfl (map_get g0), ?_, ?_, ?_⟩
  · have := map_get (f := V.ref) g1
    show atI _ _ = _
    unfold atI ixN
    rw [if_neg (by decide), if_pos (by rw [List.length_map]; omega)]
    show (ts.map V.ref)[((((ts.map V.ref).length : Nat) : Int) + -1).toNat]? = _
    rw [← this, List.length_map]
    congr 1
    omega
  · rw [hd_is (q := p0) (by rw [List.head?_eq_getElem?]; exact k0)]
    exact r0
  · rw [lt_is (q := p1) (by rw [List.getLast?_eq_getElem?, ← hlen]; exact k1)]
    exact r1
theorem Way.len {n e : Nat} : ∀ {ps : List P3} {b : Nat}, Way n b e ps → ps.length ≤ e - b
  | [], _, _ => Nat.zero_le _
  | q :: r, b, w => by
    have h1 := Way.len w.2.2.2.2
    have h2 := w.2.1
    have h3 := Way.le w.2.2.2.2
    rw [List.length_cons]
    omega
/-- parts made of parts -/
theorem lc_parts {K : PySem.W.Frag} {j : Nat} {tt : TT} {te : TE} {vs : List Nat} {σ : L2.St} {H1 : Hp} {D l : Addr} {ts : List Addr} {ps : List P3} {Qd : Hp → Prop} (hD : H1 D = none) (hl : H1 l = some (.lst (ts.map V.ref))) (hP : All2 (PartAt H1) ts ps)
    (hn : ps.length ≤ 100000) (f : P3 → Bool) (m : P3 → P3) (hw : ∀ x, wipe ((wipe σ vs).set j (some x)) vs = wipe σ vs)
    (ht : ∀ q t H, q ∈ ps → Ex H1 H → H t = some (.tup (pV q)) → ∀ Q : Bool → Hp → Prop, Q (f q) H → tt ((wipe σ vs).set j (some (.ref t))) H Q)
    (he : ∀ q t H, q ∈ ps → f q = true → Ex H1 H → H t = some (.tup (pV q)) → ∀ Q : VK, (∀ a, H a = none → Q (.ref a) (upd H a (.tup (pV (m q))))) → te ((wipe σ vs).set j (some (.ref t))) H Q)
    (q : ∀ H', Ex H1 H' → PartsAt H' D ((ps.filter f).map m) → Qd H') :
    ∃ W : Nat → Nat → Hp → Prop, (∃ m, W 0 m (upd H1 D (.lst []))) ∧ ∀ i m H, W i m H →
      ((Itl K l).stop i H ∧ Qd H) ∨ ((Itl K l).go i H ∧ ∃ Nx : Hp → Prop, (∀ H', Nx H' → ∃ m', m' < m ∧ W (i + 1) m' H') ∧ ∀ x H', (Itl K l).yld i H x H' → gName j x (wipe σ vs) H' fun σ2 H2 => wipe σ2 vs = wipe σ vs ∧ tt σ2 H2 fun b H3 =>
        if b = true then te σ2 H3 fun y H4 => ∃ acc, H4 D = some (.lst acc) ∧ acc.length < sizeLine ∧ Nx (upd H4 D (.lst (acc ++ [y]))) else Nx H3) := by
  have hlen : (ts.map V.ref).length = ps.length := by rw [List.length_map, hP.len]
  have key : ∀ (i : Nat) (x : V), (ts.map V.ref)[i]? = some x → ∃ t q, x = V.ref t ∧ ps[i]? = some q ∧ q ∈ ps ∧ H1 t = some (.tup (pV q)) := fun i x hx => by
    obtain ⟨t, ht, rfl⟩ := map_back hx
    obtain ⟨q, hq, r⟩ := hP.left ht
    exact ⟨t, q, rfl, hq, List.mem_of_getElem? hq, r⟩
  refine lc_ex (walk_list (K := K) (a := l) (xs := ts.map V.ref)) y_list hD (fun H2 e2 => sqL_of hl e2) (by rw [hlen]; exact hn) (fun i => ((ps[i]?).map f).getD false)
    (fun H i y => ∃ q a, ps[i]? = some q ∧ y = V.ref a ∧ H a = some (.tup (pV (m q)))) (fun H H' i v e ⟨q, a, h1, h2, h3⟩ => ⟨q, a, h1, h2, e _ _ h3⟩) hw ?_ ?_ ?_
  · intro i x H hi hx e Q k
    obtain ⟨t, q, rfl, hq, mq, r⟩ := key i x hx
    have k2 := k H (Evl.Ex.refl H)
    rw [hq] at k2
    exact ht q t H mq e (e _ _ r) Q k2
  · intro i x H hi hx hk e hd Q k
    obtain ⟨t, q, rfl, hq, mq, r⟩ := key i x hx
    rw [hq] at hk
    refine he q t H mq hk e (e _ _ r) Q fun a ha => ?_
    obtain ⟨o, ho⟩ := hd
    refine k (.ref a) _ (upd H1 a (.tup (pV (m q)))) (Evl.Ex.new ha) (fun c o2 hc => ?_) ?_ ⟨q, a, hq, rfl, upd_same⟩
    · by_cases ca : c = a
      · subst ca
        rw [upd_same] at hc
        rw [upd_same]
        exact hc
      · rw [upd_ne ca] at hc
        rw [upd_ne ca]
        exact e _ _ hc
    · have : D ≠ a := ne_of_none ho ha
      rw [upd_ne this]
      exact hD
  · intro H' ys e hd hall
    refine q H' e (parts_made hd ?_)
    rw [hlen] at hall
    refine all2_map (all2_kept hall (fun i x hx => by rw [hx]; rfl) fun i x y hx ⟨q, a, h1, h2, h3⟩ => ?_)
    rw [hx] at h1
    cases h1
    exact ⟨a, h2, h3⟩
theorem getS_putS {sold : List (Nat × List P3)} {t : Nat} {ps : List P3} (h : ((putS sold t ps).map (·.1)).Pairwise (· < ·)) : getS (putS sold t ps) (t : Int) = some ps := getS_of h (mem_putS.mpr (.inl rfl))
/-! ### promises of the deeds -/
def ResV (H H' : Hp) (S S' : Addr → Prop) : Res → V → Prop
  | .non, v => v = .non
  | .num n, v => v = .int n
  | .parts ps, v => ∃ l, v = .ref l ∧ (S l ∨ H l = none) ∧ ¬ S' l ∧ PartsAt H' l ps
structure DeedSp (K : PySem.W.Frag) (H : Hp) (S : Addr → Prop) (p : Addr) (o : Out) (Q : VK) (E : XK) : Prop where
  ok : o.word = "" → ∀ H' S' v, Mv H H' S S' → TrainAt K H' S' p o.tr → ResV H H' S S' o.res v → Q v H'
  ticket : o.word = "ticket" → ∀ H', Ex H H' → E (cls K "NoTicket") none H'
  stop : o.word = "stop" → ∀ H', Ex H H' → E (cls K "NoStop") none H'
  stretch : o.word = "stretch" → ∀ H', Ex H H' → E (cls K "NoStretch") none H'
  full : o.word = "full" → ∀ H', Ex H H' → E (cls K "Full") none H'
def spBack (K : PySem.W.Frag) : Sp := fun vs H Q E => ∃ (S : Addr → Prop) (p : Addr) (T : Tr) (t : Int), vs = [.ref p, .int t] ∧ TrainAt K H S p T ∧ Good T ∧ DeedSp K H S p (runBack T t) Q E
def spLeave (K : PySem.W.Frag) : Sp := fun vs H Q E => ∃ (S : Addr → Prop) (p : Addr) (T : Tr) (t s : Int), vs = [.ref p, .int t, .int s] ∧ TrainAt K H S p T ∧ Good T ∧ T.coming < 1000000 ∧ DeedSp K H S p (runLeave T t s) Q E
def spReseat (K : PySem.W.Frag) : Sp := fun vs H Q E => ∃ (S : Addr → Prop) (p : Addr) (T : Tr) (t : Int), vs = [.ref p, .int t] ∧ TrainAt K H S p T ∧ Good T ∧ T.coming < 1000000 ∧ DeedSp K H S p (runReseat T t) Q E
end Lg

namespace Lg
open PySem PySem.Spec PyProof.Rows L2
section
variable {X : Cx} {K : PySem.W.Frag}
end
theorem range_map {α β : Type} (l : List α) (f : α → β) (d : β) : (List.range l.length).map (fun k => ((l[k]?).map f).getD d) = l.map f := by
  apply List.ext_getElem?
  intro i
  rw [List.getElem?_map, List.getElem?_map]
  by_cases hi : i < l.length
  · have h1 := List.getElem?_eq_getElem hi
    rw [List.getElem?_range hi, h1, Option.map_some, h1]
    rfl
  · rw [List.getElem?_eq_none (by rw [List.length_range]; omega), List.getElem?_eq_none (by omega)]
    rfl
theorem flat_ints (ns : List Int) : (ns.map V.int).all flatV = true := by
  rw [List.all_map]
  exact List.all_eq_true.mpr fun _ _ => rfl
/-! ### a grid, cell by cell -/
theorem GridAt.cell {H : Hp} {r : Addr} {as : List Addr} {g : Grid} (G : GridAt H r as g) (nd : as.Nodup) (nr : r ∉ as) {seat leg : Nat} {a : Addr} {row : List (Option Nat)} (h : Option Nat) (ha : as[seat]? = some a) (hr : g[seat]? = some row) :
    GridAt (upd H a (.lst ((row.set leg h).map oV))) r as (setCell g seat leg h) := by
  have ma := List.mem_of_getElem? ha
  have hset : setCell g seat leg h = g.set seat (row.set leg h) := by
    unfold setCell
    rw [hr]
    rfl
  have hsl := lt_of_get hr
  refine ⟨by rw [upd_ne (fun z : r = a => nr (z ▸ ma))]; exact G.top, ?_⟩
  rw [hset]
  refine ⟨by rw [List.length_set]; exact G.row.len, fun i b rw' hb hrw => ?_⟩
  rw [List.getElem?_set] at hrw
  by_cases e : seat = i
  · rw [if_pos e, if_pos hsl] at hrw
    cases hrw
    rw [← e, ha] at hb
    cases hb
    exact upd_same
  · rw [if_neg e] at hrw
    have nba : b ≠ a := fun z => by
      rw [z] at hb
      exact e (nd_ix nd ha hb)
    show upd H a _ b = _
    rw [upd_ne nba]
    exact G.row.at_ _ _ _ hb hrw
/-! ### the world that the laws reckon by -/
structure WRaw (H : Hp) (w r so pa : Addr) (as ls : List Addr) (T : Tr) : Prop where
  hw : H w = some (.lst [.ref r, .ref so, .ref pa, .int T.coming])
  grid : GridAt H r as T.rows
  hso : H so = some (.lst ((T.sold.map fun x => (x.1 : Int)).map V.int))
  hpa : H pa = some (.lst (ls.map V.ref))
  prt : All2 (PartsAt H) ls (T.sold.map (·.2))
  nd : ([w, r, so, pa] ++ as).Nodup
  lf : ∀ l ∈ ls, l ∉ [w, r, so, pa] ++ as
def WorldAt (H : Hp) (S : Addr → Prop) (w : Addr) (T : Tr) : Prop := ∃ r so pa as ls, WRaw H w r so pa as ls T ∧ ∀ a, a ∈ [w, r, so, pa] ++ as ++ ls → S a
structure WNe (w r so pa : Addr) (as : List Addr) : Prop where
  wr : w ≠ r
  ws : w ≠ so
  wp : w ≠ pa
  rs : r ≠ so
  rp : r ≠ pa
  sp : so ≠ pa
  wa : w ∉ as
  ra : r ∉ as
  sa : so ∉ as
  pa_ : pa ∉ as
  nd : as.Nodup
theorem wne {w r so pa : Addr} {as : List Addr} (h : ([w, r, so, pa] ++ as).Nodup) : WNe w r so pa as := by
  have h2 := h
  simp only [List.cons_append, List.nil_append, List.nodup_cons, List.mem_cons, not_or] at h2
  obtain ⟨⟨a1, a2, a3, a4⟩, ⟨b1, b2, b3⟩, ⟨c1, c2⟩, d1, e1⟩ := h2
  exact ⟨a1, a2, a3, b1, b2, c1, a4, b3, c2, d1, e1⟩
theorem lne {w r so pa l : Addr} {as : List Addr} (h : l ∉ [w, r, so, pa] ++ as) : l ≠ w ∧ l ≠ r ∧ l ≠ so ∧ l ≠ pa ∧ l ∉ as := by
  simp only [List.cons_append, List.nil_append, List.mem_cons, not_or] at h
  exact ⟨h.1, h.2.1, h.2.2.1, h.2.2.2.1, h.2.2.2.2⟩
theorem parts_keep {H H' : Hp} {ls : List Addr} {pss : List (List P3)} (h : All2 (PartsAt H) ls pss) (k : ∀ a ∈ ls, ∀ o, H a = some o → H' a = some o) (kt : ∀ a xs, H a = some (.tup xs) → H' a = some (.tup xs)) : All2 (PartsAt H') ls pss :=
  h.monoM fun l ps m _ ⟨ts, q1, q2⟩ => ⟨ts, k l m _ q1, q2.mono fun t y z => kt _ _ z⟩
theorem WorldAt.mono {H H' : Hp} {S : Addr → Prop} {w : Addr} {T : Tr} (h : WorldAt H S w T) (k : ∀ a o, S a → H a = some o → H' a = some o) (kt : ∀ a xs, H a = some (.tup xs) → H' a = some (.tup xs)) : WorldAt H' S w T := by
  obtain ⟨r, so, pa, as, ls, R, hS⟩ := h
  have sw : S w := hS w (by simp)
  have sr : S r := hS r (by simp)
  have ss : S so := hS so (by simp)
  have sp : S pa := hS pa (by simp)
  exact ⟨r, so, pa, as, ls, ⟨k _ _ sw R.hw, ⟨k _ _ sr R.grid.top, R.grid.row.monoM fun a _ m _ q => k _ _ (hS a (by simp [m])) q⟩, k _ _ ss R.hso, k _ _ sp R.hpa, parts_keep R.prt (fun a m o => k a o (hS a (by simp [m]))) kt, R.nd, R.lf⟩, hS⟩
theorem WorldAt.ex {H H' : Hp} {S : Addr → Prop} {w : Addr} {T : Tr} (h : WorldAt H S w T) (e : Ex H H') : WorldAt H' S w T := h.mono (fun a o _ q => e a o q) fun a xs q => e a _ q
theorem WorldAt.there {H : Hp} {S : Addr → Prop} {w : Addr} {T : Tr} (h : WorldAt H S w T) : ∃ S', (∀ a, S' a → S a ∧ ∃ o, H a = some o) ∧ WorldAt H S' w T := by
  obtain ⟨r, so, pa, as, ls, R, hS⟩ := h
  refine ⟨fun a => a ∈ [w, r, so, pa] ++ as ++ ls, fun a m => ⟨hS a m, ?_⟩, r, so, pa, as, ls, R, fun a m => m⟩
  rcases List.mem_append.mp m with m | m
  · rcases List.mem_append.mp m with m | m
    · simp only [List.mem_cons, List.not_mem_nil, or_false] at m
      rcases m with rfl | rfl | rfl | rfl
      · exact ⟨_, R.hw⟩
      · exact ⟨_, R.grid.top⟩
      · exact ⟨_, R.hso⟩
      · exact ⟨_, R.hpa⟩
    · obtain ⟨y, _, q⟩ := R.grid.row.mem_left m
      exact ⟨_, q⟩
  · obtain ⟨y, _, ts, q, _⟩ := R.prt.mem_left m
    exact ⟨_, q⟩
/-- a train and a world beside one another -/
structure Two (K : PySem.W.Frag) (H : Hp) (p w : Addr) (T1 T2 : Tr) (S U : Addr → Prop) : Prop where
  tr : TrainAt K H S p T1
  wo : WorldAt H U w T2
  dj : ∀ a, S a → ¬ U a
  aS : ∀ a, S a → ∃ o, H a = some o
  aU : ∀ a, U a → ∃ o, H a = some o
theorem Two.ex {K : PySem.W.Frag} {H H' : Hp} {p w : Addr} {T1 T2 : Tr} {S U : Addr → Prop} (h : Two K H p w T1 T2 S U) (e : Ex H H') : Two K H' p w T1 T2 S U :=
  ⟨h.tr.ex e, h.wo.ex e, h.dj, fun a q => by obtain ⟨o, ho⟩ := h.aS a q; exact ⟨o, e _ _ ho⟩, fun a q => by obtain ⟨o, ho⟩ := h.aU a q; exact ⟨o, e _ _ ho⟩⟩
theorem Two.train {K : PySem.W.Frag} {H H' : Hp} {p w : Addr} {T1 T2 T1' : Tr} {S S' U : Addr → Prop} (h : Two K H p w T1 T2 S U) (m : Mv H H' S S') (t : TrainAt K H' S' p T1') : ∃ S2, Two K H' p w T1' T2 S2 U ∧ ∀ a, S2 a → S' a ∧ (S a ∨ H a = none) := by
  obtain ⟨S2, h2, t2⟩ := t.there
  have nU : ∀ a, U a → ¬ S a := fun a u s => h.dj a s u
  refine ⟨S2, ⟨t2, h.wo.mono (fun a o u q => m.keep a o (nU a u) q) m.tups, fun a s u => ?_, fun a s => (h2 a s).2, fun a u => ?_⟩, fun a s => ⟨(h2 a s).1, m.new a (h2 a s).1⟩⟩
  · obtain ⟨o, ho⟩ := h.aU a u
    rcases m.new a (h2 a s).1 with z | z
    · exact nU a u z
    · rw [ho] at z
      cases z
  · obtain ⟨o, ho⟩ := h.aU a u
    exact ⟨o, m.keep a o (nU a u) ho⟩
theorem Two.world {K : PySem.W.Frag} {H H' : Hp} {p w : Addr} {T1 T2 T2' : Tr} {S U U' : Addr → Prop} (h : Two K H p w T1 T2 S U) (m : Mv H H' U U') (t : WorldAt H' U' w T2') : ∃ U2, Two K H' p w T1 T2' S U2 ∧ ∀ a, U2 a → U' a ∧ (U a ∨ H a = none) := by
  obtain ⟨U2, h2, t2⟩ := t.there
  refine ⟨U2, ⟨h.tr.mono (fun a o s q => m.keep a o (h.dj a s) q) m.tups, t2, fun a s u => ?_, fun a s => ?_, fun a u => (h2 a u).2⟩, fun a s => ⟨(h2 a s).1, m.new a (h2 a s).1⟩⟩
  · obtain ⟨o, ho⟩ := h.aS a s
    rcases m.new a (h2 a u).1 with z | z
    · exact h.dj a s z
    · rw [ho] at z
      cases z
  · obtain ⟨o, ho⟩ := h.aS a s
    exact ⟨o, m.keep a o (h.dj a s) ho⟩
/-! ### deeds as tuples -/
def Kind.str : Kind → Str
  | .sell => "sell"
  | .back => "back"
  | .leave => "leave"
  | .reseat => "reseat"
def DeedAt (H : Hp) (d : Addr) (x : Deed) : Prop := H d = some (.tup [.str x.k.str, .int x.a, .int x.b])
def WordAt (H : Hp) (t : Addr) (word : Str) (v : V) : Prop := H t = some (.tup [.str word, v])
def ResW (H H' : Hp) (U : Addr → Prop) : Res → V → Prop
  | .non, v => v = .non
  | .num n, v => v = .int n
  | .parts ps, v => ∃ l, v = .ref l ∧ (U l ∨ H l = none) ∧ PartsAt H' l ps
/-- a cell of the deeds: a number, or a deed laid -/
def IsCell (H : Hp) (v : V) : Prop := (∃ i, v = .int i) ∨ ∃ d x, v = .ref d ∧ DeedAt H d x
theorem IsCell.mono {H H' : Hp} {v : V} (h : IsCell H v) (kt : ∀ a xs, H a = some (.tup xs) → H' a = some (.tup xs)) : IsCell H' v := by
  rcases h with h | ⟨d, x, e, q⟩
  · exact .inl h
  · exact .inr ⟨d, x, e, kt _ _ q⟩
def CellsAt (H : Hp) (l : Addr) (vs : List V) : Prop := H l = some (.lst vs) ∧ vs.length ≤ 600 ∧ ∀ v ∈ vs, IsCell H v
theorem CellsAt.mono {H H' : Hp} {l : Addr} {vs : List V} (h : CellsAt H l vs) (k : ∀ o, H l = some o → H' l = some o) (kt : ∀ a xs, H a = some (.tup xs) → H' a = some (.tup xs)) : CellsAt H' l vs := ⟨k _ h.1, h.2.1, fun v m => (h.2.2 v m).mono kt⟩
/-! ### promises -/
def spTold (K : PySem.W.Frag) : Sp := fun vs H Q E => ∃ (S : Addr → Prop) (p : Addr) (T : Tr) (d : Addr) (x : Deed), vs = [.ref p, .ref d] ∧ TrainAt K H S p T ∧ Good T ∧ T.coming < 1000000 ∧ DeedAt H d x ∧ DeedSp K H S p (T.run x) Q E
def spWord (K : PySem.W.Frag) : Sp := fun vs H Q _ => ∃ (S : Addr → Prop) (p : Addr) (T : Tr) (d : Addr) (x : Deed), vs = [.ref p, .ref d] ∧ TrainAt K H S p T ∧ Good T ∧ T.coming < 1000000 ∧ DeedAt H d x ∧
  ∀ H' S' t v, Mv H H' S S' → TrainAt K H' S' p (T.run x).tr → WordAt H' t (T.run x).word v → ResV H H' S S' (T.run x).res v → Q (.ref t) H'
def spMarkW (K : PySem.W.Frag) : Sp := fun vs H Q _ => ∃ (r : Addr) (as : List Addr) (g : Grid) (n : Nat) (l : Addr) (ps : List P3) (h : Option Nat), vs = [.ref r, .ref l, oV h] ∧ GridAt H r as g ∧ as.Nodup ∧ r ∉ as ∧ l ∉ as ∧ (∀ row ∈ g, row.length = n) ∧ PartsAt H l ps ∧
  (∀ q ∈ ps, q.1 < g.length ∧ q.2.1 < q.2.2 ∧ q.2.2 ≤ n) ∧ n ≤ 1000 ∧ ∀ H', (∀ a o, a ∉ as → H a = some o → H' a = some o) → GridAt H' r as (markAll g ps h) → Q .non H'
def spFoundL (K : PySem.W.Frag) : Sp := fun vs H Q _ => ∃ (r : Addr) (as : List Addr) (g : Grid) (n b e : Nat), vs = [.ref r, .int b, .int e] ∧ GridAt H r as g ∧ (∀ row ∈ g, row.length = n) ∧ b ≤ e ∧ e ≤ n ∧ n ≤ 1000 ∧ g.length ≤ 1000 ∧ (∀ l, b ≤ l → l < e → fullLeg g l = false) ∧
  ∀ H' l, Ex H H' → H l = none → PartsAt H' l (found g b e) → Q (.ref l) H'
def spWorldNew : Sp := fun vs H Q _ => ∃ (seats stops : Nat), vs = [.int seats, .int stops] ∧ 1 ≤ seats ∧ seats ≤ 60 ∧ 2 ≤ stops ∧ stops ≤ 60 ∧ ∀ H' U w, Ex H H' → WorldAt H' U w (Tr.new seats stops) → (∀ a, U a → H a = none ∧ ∃ o, H' a = some o) → Q (.ref w) H'
def spLeft (K : PySem.W.Frag) : Sp := fun vs H Q _ => ∃ (l : Addr) (ps : List P3) (c : Nat), vs = [.ref l, .int c] ∧ PartsAt H l ps ∧ ps.length ≤ 100000 ∧ ∀ H' t k g, Ex H H' → H' t = some (.tup [.ref k, .ref g]) → H k = none → H g = none → PartsAt H' k (keptP ps c) → PartsAt H' g (goneP ps c) → Q (.ref t) H'
def DoneSp (H : Hp) (U : Addr → Prop) (w : Addr) (o : Out) (Q : VK) : Prop := ∀ H' U' t v, Mv H H' U U' → WorldAt H' U' w o.tr → WordAt H' t o.word v → ResW H H' U o.res v → Q (.ref t) H'
def spSoldBy (K : PySem.W.Frag) : Sp := fun vs H Q _ => ∃ (U : Addr → Prop) (w : Addr) (T : Tr) (a b : Int), vs = [.ref w, .int a, .int b] ∧ WorldAt H U w T ∧ Good T ∧ T.coming < 1000000 ∧ DoneSp H U w (runSell T a b) Q
def spDoneBy (K : PySem.W.Frag) : Sp := fun vs H Q _ => ∃ (U : Addr → Prop) (w : Addr) (T : Tr) (d : Addr) (x : Deed), vs = [.ref w, .ref d] ∧ WorldAt H U w T ∧ Good T ∧ T.coming < 1000000 ∧ DeedAt H d x ∧ DoneSp H U w (T.run x) Q
def spStretchBy : Sp := fun vs H Q _ => ∃ (c : Int) (n : Nat), vs = [.int c, .int n] ∧ 2 ≤ n ∧ ∀ H' t (b e : Nat), Ex H H' → H' t = some (.tup [.int b, .int e]) → b < e → e < n → Q (.ref t) H'
def spDeedBy (K : PySem.W.Frag) : Sp := fun vs H Q _ => ∃ (v : V) (so : Addr) (ks : List Int) (n : Nat), vs = [v, .ref so, .int n] ∧ IsCell H v ∧ H so = some (.lst (ks.map V.int)) ∧ ks.length ≤ 1000000 ∧ 2 ≤ n ∧ n ≤ 1000 ∧ ∀ H' d x, Ex H H' → DeedAt H' d x → Q (.ref d) H'
def spLaid (K : PySem.W.Frag) : Sp := fun vs H Q _ => ∃ (seats stops : Nat) (far : Int), vs = [.int seats, .int stops, .int far] ∧ 1 ≤ seats ∧ 2 ≤ stops ∧ seats ≤ 60 ∧ stops ≤ 60 ∧ seats * stops < 240 ∧ ∀ H' l xs, Ex H H' → H l = none → H' l = some (.lst xs) → xs.length ≤ 400 → (∀ v ∈ xs, IsCell H' v) → Q (.ref l) H'
def spCells (K : PySem.W.Frag) : Sp := fun vs H Q _ => ∃ (a : Addr) (ns : List Int), vs = [.ref a] ∧ SqL K H a (ns.map V.int) ∧ ns.length ≤ 63 ∧ ∀ H' l xs, Ex H H' → H l = none → CellsAt H' l xs → Q (.ref l) H'
def spBuilt (K : PySem.W.Frag) : Sp := fun vs H Q _ => ∃ (a : Addr) (ns : List Int), vs = [.ref a] ∧ SqL K H a (ns.map V.int) ∧ ∀ (n1 n2 : Nat), 1 ≤ n1 → n1 ≤ 60 → 2 ≤ n2 → n2 ≤ 60 → ∀ H' S U p w l, Ex H H' → Two K H' p w (Tr.new n1 n2) (Tr.new n1 n2) S U → (∀ a, S a ∨ U a → H a = none) → H' l = some (.lst [.ref p, .ref w]) → Q (.ref l) H'
theorem putS_new {sold : List (Nat × List P3)} {t : Nat} {ps : List P3} (h : ∀ x ∈ sold, x.1 < t) : putS sold t ps = sold ++ [(t, ps)] := by
  unfold putS
  rw [if_neg]
  intro z
  obtain ⟨x, m, e⟩ := List.any_eq_true.mp z
  have := h x m
  have e := of_decide_eq_true e
  omega
theorem run_refused (T : Tr) (d : Deed) (h : (T.run d).word ≠ "") : (T.run d).res = .non ∧ (T.run d).tr = T := by
  obtain ⟨k, a, b⟩ := d
  cases k with
  | sell =>
    revert h
    show (runSell T a b).word ≠ "" → (runSell T a b).res = .non ∧ (runSell T a b).tr = T
    unfold runSell
    split
    · split
      · exact fun h => absurd rfl h
      · exact fun _ => ⟨rfl, rfl⟩
    · exact fun _ => ⟨rfl, rfl⟩
  | back =>
    revert h
    show (runBack T a).word ≠ "" → (runBack T a).res = .non ∧ (runBack T a).tr = T
    unfold runBack
    cases getS T.sold a with
    | none => exact fun _ => ⟨rfl, rfl⟩
    | some ps => exact fun h => absurd rfl h
  | leave =>
    revert h
    show (runLeave T a b).word ≠ "" → (runLeave T a b).res = .non ∧ (runLeave T a b).tr = T
    unfold runLeave
    cases getS T.sold a with
    | none => exact fun _ => ⟨rfl, rfl⟩
    | some ps =>
      dsimp only
      split
      · exact fun h => absurd rfl h
      · exact fun _ => ⟨rfl, rfl⟩
  | reseat =>
    revert h
    show (runReseat T a).word ≠ "" → (runReseat T a).res = .non ∧ (runReseat T a).tr = T
    unfold runReseat
    cases getS T.sold a with
    | none => exact fun _ => ⟨rfl, rfl⟩
    | some ps => exact fun h => absurd rfl h
theorem ResV.ex {H H' H2 : Hp} {S S' : Addr → Prop} {r : Res} {v : V} (h : ResV H H' S S' r v) (e : Ex H' H2) : ResV H H2 S S' r v := by
  cases r with
  | non => exact h
  | num n => exact h
  | parts ps =>
    obtain ⟨l, a, b, c, d⟩ := h
    exact ⟨l, a, b, c, d.mono e⟩
/-! ### places in the table of tickets -/
theorem in_sold (sold : List (Nat × List P3)) (t : Int) : inV (.int t) ((sold.map fun x => (x.1 : Int)).map V.int) = (getS sold t).isSome := by
  unfold inV
  rw [List.any_map, List.any_map]
  cases h : getS sold t with
  | none =>
    have := getS_none.mp h
    rw [Option.isSome_none, List.any_eq_false]
    intro x m
    show ¬ ((x.1 : Int) == t) = true
    rw [beq_iff_eq]
    exact this x m
  | some ps =>
    obtain ⟨n, rfl, m⟩ := getS_mem h
    rw [Option.isSome_some, List.any_eq_true]
    exact ⟨_, m, beq_self_eq_true _⟩
theorem getS_ix {sold : List (Nat × List P3)} {t : Int} {ps : List P3} (h : getS sold t = some ps) (hr : (sold.map (·.1)).Pairwise (· < ·)) : ∃ i n, t = ((n : Nat) : Int) ∧ sold[i]? = some (n, ps) ∧ ∀ (j : Nat) (y : Nat × List P3), sold[j]? = some y → j ≠ i → y.1 ≠ n := by
  obtain ⟨n, rfl, m⟩ := getS_mem h
  obtain ⟨i, hi⟩ := List.mem_iff_getElem?.mp m
  refine ⟨i, n, rfl, hi, fun j y hj hne e => hne ?_⟩
  have hp := List.pairwise_iff_getElem.mp (List.pairwise_map.mp hr)
  have h1 := lt_of_get hi
  have h2 := lt_of_get hj
  have e1 := Option.some.inj ((List.getElem?_eq_getElem h1).symm.trans hi)
  have e2 := Option.some.inj ((List.getElem?_eq_getElem h2).symm.trans hj)
  rcases Nat.lt_trichotomy i j with c | c | c
  · have := hp i j h1 h2 c
    rw [e1, e2] at this
    dsimp only at this
    omega
  · exact c.symm
  · have := hp j i h2 h1 c
    rw [e1, e2] at this
    dsimp only at this
    omega
theorem putS_ix {sold : List (Nat × List P3)} {i n : Nat} {ps qs : List P3} (h : sold[i]? = some (n, ps)) (ho : ∀ (j : Nat) (y : Nat × List P3), sold[j]? = some y → j ≠ i → y.1 ≠ n) : putS sold n qs = sold.set i (n, qs) := by
  unfold putS
  rw [if_pos (List.any_eq_true.mpr ⟨_, List.mem_of_getElem? h, decide_eq_true rfl⟩)]
  apply List.ext_getElem?
  intro j
  rw [List.getElem?_map, List.getElem?_set]
  by_cases e : i = j
  · subst e
    rw [h, if_pos rfl, if_pos (lt_of_get h)]
    show some (if n = n then (n, qs) else (n, ps)) = _
    rw [if_pos rfl]
  · rw [if_neg e]
    cases hj : sold[j]? with
    | none => rfl
    | some y =>
      show some (if y.1 = n then (n, qs) else y) = _
      rw [if_neg (ho j y hj (fun z => e z.symm))]
theorem dropS_ix {n : Nat} {ps : List P3} : ∀ {sold : List (Nat × List P3)} {i : Nat}, sold[i]? = some (n, ps) → (∀ (j : Nat) (y : Nat × List P3), sold[j]? = some y → j ≠ i → y.1 ≠ n) → dropS sold n = sold.eraseIdx i
  | [], _, h, _ => by cases h
  | x :: r, 0, h, ho => by
    cases h
    unfold dropS
    rw [List.filter_cons, if_neg (by simp), List.eraseIdx_cons_zero]
    exact List.filter_eq_self.mpr fun y m => by
      obtain ⟨j, hj⟩ := List.mem_iff_getElem?.mp m
      exact decide_eq_true (ho (j + 1) y hj (by omega))
  | x :: r, i + 1, h, ho => by
    have hx := ho 0 x rfl (by omega)
    unfold dropS
    rw [List.filter_cons, if_pos (decide_eq_true hx), List.eraseIdx_cons_succ]
    have := dropS_ix (sold := r) (i := i) h (fun j y hj hne => ho (j + 1) y hj (by omega))
    unfold dropS at this
    rw [this]
theorem erase_map {α β : Type} (f : α → β) : ∀ (l : List α) (i : Nat), (l.map f).eraseIdx i = (l.eraseIdx i).map f
  | [], _ => rfl
  | x :: r, 0 => rfl
  | x :: r, i + 1 => by
    rw [List.map_cons, List.eraseIdx_cons_succ, List.eraseIdx_cons_succ, List.map_cons, erase_map f r i]
/-! ### the world's changes -/
theorem nas_tup {H : Hp} {r : Addr} {as : List Addr} {g : Grid} (G : GridAt H r as g) {x : Addr} {xs : List V} (h : H x = some (.tup xs)) : x ∉ as := fun m => by
  obtain ⟨y, _, z⟩ := G.row.mem_left m
  rw [show H x = _ from z] at h
  cases h
theorem parts_at {H H' : Hp} {l : Addr} {ps : List P3} (h : PartsAt H l ps) (k : ∀ o, H l = some o → H' l = some o) (kt : ∀ a xs, H a = some (.tup xs) → H' a = some (.tup xs)) : PartsAt H' l ps := by
  obtain ⟨ts, q1, q2⟩ := h
  exact ⟨ts, k _ q1, q2.mono fun _ _ z => kt _ _ z⟩
theorem WRaw.ex {H H' : Hp} {w r so pa : Addr} {as ls : List Addr} {T : Tr} (R : WRaw H w r so pa as ls T) (e : Ex H H') : WRaw H' w r so pa as ls T :=
  ⟨e _ _ R.hw, R.grid.mono e, e _ _ R.hso, e _ _ R.hpa, parts_keep R.prt (fun a _ o => e a o) (fun a xs => e a _), R.nd, R.lf⟩
theorem WRaw.rows {H H' : Hp} {w r so pa : Addr} {as ls : List Addr} {T : Tr} (R : WRaw H w r so pa as ls T) {g : Grid} (k : ∀ a o, a ∉ as → H a = some o → H' a = some o) (G : GridAt H' r as g) : WRaw H' w r so pa as ls { T with rows := g } := by
  have N := wne R.nd
  exact ⟨k _ _ N.wa R.hw, G, k _ _ N.sa R.hso, k _ _ N.pa_ R.hpa, parts_keep R.prt (fun a m o => k a o (lne (R.lf a m)).2.2.2.2) (fun a xs h => k a _ (nas_tup R.grid h) h), R.nd, R.lf⟩
theorem WRaw.setp {H : Hp} {w r so pa : Addr} {as ls : List Addr} {T : Tr} (R : WRaw H w r so pa as ls T) {i n l : Nat} {ps : List P3} (hl : PartsAt H l ps) (hne : l ∉ [w, r, so, pa] ++ as) {x : Nat × List P3} (hi : T.sold[i]? = some x) (hx : x.1 = n) :
    WRaw (upd H pa (.lst ((ls.set i l).map V.ref))) w r so pa as (ls.set i l) { T with sold := T.sold.set i (n, ps) } := by
  have N := wne R.nd
  have kt : ∀ a xs, H a = some (.tup xs) → upd H pa (.lst ((ls.set i l).map V.ref)) a = some (.tup xs) := fun a xs h => by
    rw [upd_ne (ne_of h R.hpa (fun z => by cases z))]
    exact h
  have inl : ∀ c ∈ ls.set i l, c ∈ ls ∨ c = l := fun c m => by
    rcases List.mem_or_eq_of_mem_set m with m | m
    · exact .inl m
    · exact .inr m
  have kl : ∀ c, c ∉ [w, r, so, pa] ++ as → ∀ o, H c = some o → upd H pa (.lst ((ls.set i l).map V.ref)) c = some o := fun c hc o h => by
    rw [upd_ne (lne hc).2.2.2.1]
    exact h
  refine ⟨by rw [upd_ne N.wp]; exact R.hw, ⟨by rw [upd_ne N.rp]; exact R.grid.top, R.grid.row.monoM fun c row m _ z => ?_⟩, ?_, upd_same, ?_, R.nd, fun c m => ?_⟩
  · show upd H pa _ c = _
    rw [upd_ne (fun z : c = pa => N.pa_ (z ▸ m))]
    exact z
  · rw [upd_ne N.sp]
    have e : (T.sold.set i (n, ps)).map (fun x => (x.1 : Int)) = T.sold.map fun x => (x.1 : Int) := by
      apply List.ext_getElem?
      intro j
      rw [List.getElem?_map, List.getElem?_map, List.getElem?_set]
      by_cases e : i = j
      · subst e
        rw [if_pos rfl, if_pos (lt_of_get hi), hi]
        show some (n : Int) = some (x.1 : Int)
        rw [hx]
      · rw [if_neg e]
    show H so = some (.lst (((T.sold.set i (n, ps)).map fun x => (x.1 : Int)).map V.int))
    rw [e]
    exact R.hso
  · show All2 _ (ls.set i l) ((T.sold.set i (n, ps)).map (·.2))
    rw [show (T.sold.set i (n, ps)).map (·.2) = (T.sold.map (·.2)).set i ps from List.map_set]
    exact (R.prt.monoM fun c qs m _ q => parts_at q (kl c (R.lf c m)) kt).set (parts_at hl (kl l hne) kt)
  · rcases inl c m with m | rfl
    · exact R.lf c m
    · exact hne
theorem WRaw.pop {H : Hp} {w r so pa : Addr} {as ls : List Addr} {T : Tr} (R : WRaw H w r so pa as ls T) (i : Nat) :
    WRaw (upd (upd H so (.lst (((T.sold.map fun x => (x.1 : Int)).map V.int).eraseIdx i))) pa (.lst ((ls.map V.ref).eraseIdx i))) w r so pa as (ls.eraseIdx i) { T with sold := T.sold.eraseIdx i } := by
  have N := wne R.nd
  have n2 : ∀ c, c ≠ so → c ≠ pa → upd (upd H so (.lst (((T.sold.map fun x => (x.1 : Int)).map V.int).eraseIdx i))) pa (.lst ((ls.map V.ref).eraseIdx i)) c = H c := fun c h1 h2 => by rw [upd_ne h2, upd_ne h1]
  refine ⟨by rw [n2 _ N.ws N.wp]; exact R.hw, ⟨by rw [n2 _ N.rs N.rp]; exact R.grid.top, R.grid.row.monoM fun c row m _ z => ?_⟩, ?_, ?_, ?_, R.nd, fun c m => R.lf c (List.mem_of_mem_eraseIdx m)⟩
  · show upd _ pa _ c = _
    rw [n2 c (fun z => N.sa (z ▸ m)) (fun z => N.pa_ (z ▸ m))]
    exact z
  · rw [upd_ne N.sp, upd_same, erase_map, erase_map]
  · rw [upd_same, erase_map]
  · show All2 _ _ ((T.sold.eraseIdx i).map (·.2))
    rw [← erase_map (fun x : Nat × List P3 => x.2)]
    refine (R.prt.monoM fun c qs m _ ⟨vs, q1, q2⟩ => ?_).erase i
    obtain ⟨z1, z2, z3, z4, z5⟩ := lne (R.lf c m)
    refine ⟨vs, by rw [n2 c z3 z4]; exact q1, q2.mono fun x y z => ?_⟩
    show upd _ pa _ x = _
    have z' : H x = some (.tup (pV y)) := z
    rw [n2 x (ne_of z' R.hso (fun z => by cases z)) (ne_of z' R.hpa (fun z => by cases z))]
    exact z
theorem at_mod {xs : List V} {P : V → Prop} (h : ∀ x ∈ xs, P x) {m c : Int} (hm : m = xs.length) (hpos : 0 < xs.length) : ∃ x, atI xs (c % m) = some x ∧ P x := by
  have h1 := Int.emod_nonneg c (b := m) (by omega)
  have h2 := Int.emod_lt_of_pos c (b := m) (by omega)
  have hj : (c % m).toNat < xs.length := by omega
  exact ⟨xs[(c % m).toNat], at_of (j := (c % m).toNat) (by omega) (List.getElem?_eq_getElem hj), h _ (List.getElem_mem hj)⟩
theorem cut_mem {xs : List V} {lo hi : Option Int} {v : V} (h : v ∈ cutV xs lo hi) : v ∈ xs := by
  unfold cutV at h
  exact List.mem_of_mem_drop (List.mem_of_mem_take h)
theorem cut_len (xs : List V) (lo hi : Option Int) : (cutV xs lo hi).length ≤ xs.length := by
  unfold cutV
  rw [List.length_take, List.length_drop]
  omega
end Lg

namespace Lg
open PySem PySem.Spec PyProof.Rows L2
theorem Mv.orL {H H' : Hp} {S S' U : Addr → Prop} (m : Mv H H' S S') : Mv H H' (fun a => S a ∨ U a) (fun a => S' a ∨ U a) :=
  ⟨fun a o na h => m.keep a o (fun z => na (.inl z)) h, m.tups, fun a h => h.elim (fun z => (m.new a z).imp .inl id) (fun z => .inl (.inr z))⟩
theorem Mv.orR {H H' : Hp} {S U U' : Addr → Prop} (m : Mv H H' U U') : Mv H H' (fun a => S a ∨ U a) (fun a => S a ∨ U' a) :=
  ⟨fun a o na h => m.keep a o (fun z => na (.inr z)) h, m.tups, fun a h => h.elim (fun z => .inl (.inl z)) (fun z => (m.new a z).imp .inr id)⟩
theorem sqL_keep {K : PySem.W.Frag} {H H' : Hp} {a : Addr} {xs : List V} (h : SqL K H a xs) (k : ∀ o, H a = some o → H' a = some o) : SqL K H' a xs := by
  rcases h with (h | ⟨o, h⟩) | h
  · exact .inl (.inl (k _ h))
  · exact .inl (.inr ⟨o, k _ h⟩)
  · exact .inr h
/-- an object beside the footprint -/
structure Off (H : Hp) (S : Addr → Prop) (a : Addr) : Prop where
  live : ∃ o, H a = some o
  off : ¬ S a
theorem Off.mv {H H' : Hp} {S S' S2 : Addr → Prop} {a : Addr} (h : Off H S a) (m : Mv H H' S S') (h2 : ∀ a, S2 a → S' a) : Off H' S2 a ∧ ∀ o, H a = some o → H' a = some o := by
  obtain ⟨o, ho⟩ := h.live
  refine ⟨⟨⟨o, m.keep a o h.off ho⟩, fun z => ?_⟩, fun o ho => m.keep a o h.off ho⟩
  rcases m.new a (h2 a z) with z | z
  · exact h.off z
  · rw [ho] at z
    cases z
theorem Off.ex {H H' : Hp} {S : Addr → Prop} {a : Addr} (h : Off H S a) (e : Ex H H') : Off H' S a := by
  obtain ⟨o, ho⟩ := h.live
  exact ⟨⟨o, e _ _ ho⟩, h.off⟩
theorem Off.new {H H' : Hp} {S : Addr → Prop} {a : Addr} (aS : ∀ a, S a → ∃ o, H a = some o) (h : H a = none) {o : HO} (h' : H' a = some o) : Off H' S a := ⟨⟨o, h'⟩, fun z => by
  obtain ⟨o, ho⟩ := aS a z
  rw [ho] at h
  cases h⟩
/-- the script, read at any time -/
structure ScrAt (K : PySem.W.Frag) (H : Hp) (S : Addr → Prop) (sa : Addr) (ns : List Int) : Prop where
  sq : SqL K H sa (ns.map V.int)
  fix : (∀ H, SqL K H sa (ns.map V.int)) ∨ Off H S sa
theorem ScrAt.mv {K : PySem.W.Frag} {H H' : Hp} {S S' S2 : Addr → Prop} {sa : Addr} {ns : List Int} (h : ScrAt K H S sa ns) (m : Mv H H' S S') (h2 : ∀ a, S2 a → S' a) : ScrAt K H' S2 sa ns := by
  rcases h.fix with f | f
  · exact ⟨f H', .inl f⟩
  · obtain ⟨f2, k⟩ := f.mv m h2
    exact ⟨sqL_keep h.sq k, .inr f2⟩
theorem ScrAt.ex {K : PySem.W.Frag} {H H' : Hp} {S : Addr → Prop} {sa : Addr} {ns : List Int} (h : ScrAt K H S sa ns) (e : Ex H H') : ScrAt K H' S sa ns := ⟨sqL_ex h.sq e, h.fix.imp id fun f => f.ex e⟩
theorem ScrAt.start {K : PySem.W.Frag} {H H' : Hp} {S : Addr → Prop} {sa : Addr} {ns : List Int} (h : SqL K H sa (ns.map V.int)) (e : Ex H H') (hS : ∀ a, S a → H a = none) : ScrAt K H' S sa ns := by
  refine ⟨sqL_ex h e, ?_⟩
  rcases h with h | h
  · refine .inr ?_
    have : ∃ o, H sa = some o := by
      rcases h with h | ⟨o, h⟩
      · exact ⟨_, h⟩
      · exact ⟨_, h⟩
    obtain ⟨o, ho⟩ := this
    exact ⟨⟨o, e _ _ ho⟩, fun z => by
      rw [hS _ z] at ho
      cases ho⟩
  · exact .inl fun H => .inr h
/-- the rows of a grid on which a leg is held -/
theorem lc_load {K : PySem.W.Frag} {j : Nat} {tt : TT} {te : TE} {vs : List Nat} {σ : L2.St} {H1 : Hp} {D r : Addr} {as : List Addr} {g : Grid} {Qd : Hp → Prop} (hD : H1 D = none) (G : GridAt H1 r as g) (hn : g.length ≤ 1000) (l : Nat) (hl : ∀ row ∈ g, l < row.length)
    (hw : ∀ x, wipe ((wipe σ vs).set j (some x)) vs = wipe σ vs)
    (ht : ∀ a row h H, RowAt H a row → row[l]? = some h → ∀ Q : Bool → Hp → Prop, Q h.isSome H → tt ((wipe σ vs).set j (some (.ref a))) H Q)
    (he : ∀ a H, ∀ Q : VK, Q (.ref a) H → te ((wipe σ vs).set j (some (.ref a))) H Q)
    (q : ∀ H' ys, Ex H1 H' → H' D = some (.lst ys) → ys.length = load g l → Qd H') :
    ∃ W : Nat → Nat → Hp → Prop, (∃ m, W 0 m (upd H1 D (.lst []))) ∧ ∀ i m H, W i m H →
      ((Itl K r).stop i H ∧ Qd H) ∨ ((Itl K r).go i H ∧ ∃ Nx : Hp → Prop, (∀ H', Nx H' → ∃ m', m' < m ∧ W (i + 1) m' H') ∧ ∀ x H', (Itl K r).yld i H x H' → gName j x (wipe σ vs) H' fun σ2 H2 => wipe σ2 vs = wipe σ vs ∧ tt σ2 H2 fun b H3 =>
        if b = true then te σ2 H3 fun y H4 => ∃ acc, H4 D = some (.lst acc) ∧ acc.length < sizeLine ∧ Nx (upd H4 D (.lst (acc ++ [y]))) else Nx H3) := by
  have hglen : (as.map V.ref).length = g.length := by rw [List.length_map, G.row.len]
  refine lc_ex (walk_list (K := K) (a := r) (xs := as.map V.ref)) y_list hD (fun H2 e2 => sqL_of G.top e2) (by rw [hglen]; omega) (fun k => ((g[k]?).map fun row => held row l).getD false)
    (fun _ _ _ => True) (fun _ _ _ _ _ _ => trivial) hw ?_ ?_ ?_
  · intro k x H2 hk hx e2 Q2 q3
    obtain ⟨a, ha, rfl⟩ := map_back hx
    obtain ⟨row, hrow, hr2⟩ := G.row.left ha
    have hlr := hl row (List.mem_of_getElem? hrow)
    have hc := List.getElem?_eq_getElem hlr
    have q4 := q3 H2 (Evl.Ex.refl H2)
    rw [hrow, Option.map_some, Option.getD_some, held_at hc] at q4
    exact ht a row _ H2 (e2 _ _ hr2) hc Q2 q4
  · intro k x H2 hk hx hkeep e2 hD2 Q2 q3
    obtain ⟨a, ha, rfl⟩ := map_back hx
    exact he a H2 Q2 (q3 _ H2 H1 (Evl.Ex.refl H2) e2 hD trivial)
  · intro H2 ys e2 hD2 hall
    refine q H2 ys e2 hD2 ?_
    rw [← hall.len, hglen]
    exact kept_filter g _ _ fun k row hk => by rw [hk]; rfl
theorem at_lt {xs : List V} {P : V → Prop} (h : ∀ x ∈ xs, P x) {v : Nat} (hv : v < xs.length) : ∃ x, xs[v]? = some x ∧ P x := ⟨xs[v], List.getElem?_eq_getElem hv, h _ (List.getElem_mem hv)⟩
/-! ### k03 -/
def dueS (T : Tr) (seat at_ way : Int) : Str :=
  if way < 2 ∧ (seat < 0 ∨ (T.rows.length : Int) ≤ seat) then "seat" else if way = 0 ∧ (at_ < 0 ∨ (T.stops : Int) - 1 < at_) then "stop" else if 0 < way ∧ (at_ < 0 ∨ (T.stops : Int) - 1 ≤ at_) then "leg" else ""
def spAsked3 (K : PySem.W.Frag) : Sp := fun vs H Q _ => ∃ (S : Addr → Prop) (p : Addr) (T : Tr) (seat at_ way : Int), vs = [.ref p, .int seat, .int at_, .int way] ∧ TrainAt K H S p T ∧ 0 ≤ way ∧ ∀ H', Ex H H' → Q (.str (dueS T seat at_ way)) H'
def spDue3 (K : PySem.W.Frag) : Sp := fun vs H Q _ => ∃ (U : Addr → Prop) (w : Addr) (T : Tr) (seat at_ way : Int), vs = [.ref w, .int seat, .int at_, .int way] ∧ WorldAt H U w T ∧ T.Wf ∧ 0 ≤ way ∧ Q (.str (dueS T seat at_ way)) H
def spLeads (K : PySem.W.Frag) : Sp := fun vs H Q _ => ∃ (S U : Addr → Prop) (p w : Addr) (T : Tr) (seat at_ : Nat), vs = [.ref p, .ref w, .int seat, .int at_] ∧ TrainAt K H S p T ∧ WorldAt H U w T ∧ seat < T.rows.length ∧ at_ < T.stops ∧ ∀ H', Ex H H' → Q (.bl true) H'
end Lg

namespace Lg
open PySem PySem.Spec PyProof.Rows L2
/-- a comprehension within a comprehension -/
theorem blkOk_in {X : Cx} {s : Shared} {H : Hp} {C : Addr} {cl : List (Str × Addr)} {fp : List Addr} {N : List Str} {scope0 scope : Scope} {own : List (Str × Nat)} (h : blkC N (relS scope0 X.env.scope) scope own = true) : BlkOk N (X.blk s H scope0 (compEnvC scope0 cl C X.env) fp).env.scope scope own := blkOk_by h
/-! ### k04 -/
def spLike (K : PySem.W.Frag) : Sp := fun vs H Q _ => ∃ (S U : Addr → Prop) (p w : Addr) (T : Tr), vs = [.ref p, .ref w] ∧ TrainAt K H S p T ∧ WorldAt H U w T ∧ Good T ∧ T.coming < 90000 ∧ ∀ H', Ex H H' → Q (.bl true) H'
def spOffered (K : PySem.W.Frag) : Sp := fun vs H Q _ => ∃ (S : Addr → Prop) (p : Addr) (T : Tr) (b e : Nat), vs = [.ref p, .int b, .int e] ∧ TrainAt K H S p T ∧ b < e ∧ e < T.stops ∧
  (firstFull T.rows b e = none → ∀ H' t l, Ex H H' → H' t = some (.lst [.str "", .ref l]) → PartsAt H' l (found T.rows b e) → Q (.ref t) H') ∧
  (firstFull T.rows b e ≠ none → ∀ H' t, Ex H H' → H' t = some (.lst [.str "full", .non]) → Q (.ref t) H')
def spOffers (K : PySem.W.Frag) : Sp := fun vs H Q _ => ∃ (S : Addr → Prop) (p : Addr) (T : Tr) (r : Addr) (as : List Addr) (b e : Nat), vs = [.ref p, .ref r, .int b, .int e] ∧ TrainAt K H S p T ∧ GridAt H r as T.rows ∧ b < e ∧ e < T.stops ∧ ∀ H', Ex H H' → Q (.bl true) H'
def spToldOf (K : PySem.W.Frag) : Sp := fun vs H Q _ => ∃ (S : Addr → Prop) (p : Addr) (T : Tr) (r : Addr) (as : List Addr) (c way : Int), vs = [.ref p, .ref r, .int c, .int way] ∧ TrainAt K H S p T ∧ GridAt H r as T.rows ∧ ∀ H', Ex H H' → Q (.bl true) H'
def spTells (K : PySem.W.Frag) : Sp := fun vs H Q _ => ∃ (S U : Addr → Prop) (p w : Addr) (T : Tr) (c : Int), vs = [.ref p, .ref w, .int c] ∧ TrainAt K H S p T ∧ WorldAt H U w T ∧ ∀ H', Ex H H' → Q (.bl true) H'
def spPartsWord (K : PySem.W.Frag) : Sp := fun vs H Q _ => ∃ (S : Addr → Prop) (p : Addr) (T : Tr) (t : Int), vs = [.ref p, .int t] ∧ TrainAt K H S p T ∧ getS T.sold t = none ∧ ∀ H', Ex H H' → Q (.str "ticket") H'
theorem run_num {T : Tr} {x : Deed} (hk : x.k = .sell) (h : (T.run x).word = "") : ∃ n, (T.run x).res = .num n := by
  obtain ⟨k, a, b⟩ := x
  dsimp only at hk
  subst hk
  revert h
  show (runSell T a b).word = "" → ∃ n, (runSell T a b).res = .num n
  unfold runSell
  split
  · split
    · exact fun _ => ⟨_, rfl⟩
    · exact fun h => absurd (show ("full" : Str) = "" from h) (by decide +kernel)
  · exact fun h => absurd (show ("stretch" : Str) = "" from h) (by decide +kernel)
theorem run_parts {T : Tr} {x : Deed} (hk : x.k ≠ .sell) (h : (T.run x).word = "") : ∃ ps, (T.run x).res = .parts ps := by
  obtain ⟨k, a, b⟩ := x
  cases k with
  | sell => exact absurd rfl hk
  | back =>
    revert h
    show (runBack T a).word = "" → ∃ ps, (runBack T a).res = .parts ps
    unfold runBack
    cases getS T.sold a with
    | none => exact fun h => absurd (show ("ticket" : Str) = "" from h) (by decide +kernel)
    | some ps => exact fun _ => ⟨_, rfl⟩
  | leave =>
    revert h
    show (runLeave T a b).word = "" → ∃ ps, (runLeave T a b).res = .parts ps
    unfold runLeave
    cases getS T.sold a with
    | none => exact fun h => absurd (show ("ticket" : Str) = "" from h) (by decide +kernel)
    | some ps =>
      dsimp only
      split
      · exact fun _ => ⟨_, rfl⟩
      · exact fun h => absurd (show ("stop" : Str) = "" from h) (by decide +kernel)
  | reseat =>
    revert h
    show (runReseat T a).word = "" → ∃ ps, (runReseat T a).res = .parts ps
    unfold runReseat
    cases getS T.sold a with
    | none => exact fun h => absurd (show ("ticket" : Str) = "" from h) (by decide +kernel)
    | some ps => exact fun _ => ⟨_, rfl⟩
/-- the parts that a deed gives are few -/
theorem Good.len {T : Tr} (G : Good T) {x : Nat × List P3} (m : x ∈ T.sold) : x.2.length ≤ 60 := by
  obtain ⟨b, e, h1, h2, w⟩ := G.way x m
  have := w.len
  have := G.wf.t2
  omega
theorem filter_map_len {α β : Type} (f : α → Bool) (g : α → β) (l : List α) : ((l.filter f).map g).length ≤ l.length := by
  rw [List.length_map]
  exact List.length_filter_le _ _
theorem run_len {T : Tr} (G : Good T) {x : Deed} {ps : List P3} (h : (T.run x).res = .parts ps) : ps.length ≤ 60 := by
  obtain ⟨k, a, b⟩ := x
  cases k with
  | sell =>
    revert h
    show (runSell T a b).res = .parts ps → _
    unfold runSell
    split
    · split <;> exact fun h => by cases h
    · exact fun h => by cases h
  | back =>
    revert h
    show (runBack T a).res = .parts ps → _
    unfold runBack
    cases hg : getS T.sold a with
    | none => exact fun h => by cases h
    | some qs =>
      intro h
      cases h
      obtain ⟨n, rfl, m⟩ := getS_mem hg
      exact G.len m
  | leave =>
    revert h
    show (runLeave T a b).res = .parts ps → _
    unfold runLeave
    cases hg : getS T.sold a with
    | none => exact fun h => by cases h
    | some qs =>
      dsimp only
      obtain ⟨n, rfl, m⟩ := getS_mem hg
      split
      · intro h
        cases h
        exact Nat.le_trans (filter_map_len _ _ _) (G.len m)
      · exact fun h => by cases h
  | reseat =>
    revert h
    show (runReseat T a).res = .parts ps → _
    unfold runReseat
    cases hg : getS T.sold a with
    | none => exact fun h => by cases h
    | some qs =>
      intro h
      cases h
      obtain ⟨n, rfl, m⟩ := getS_mem hg
      exact (G.reseat m).len (x := (n, newP T qs)) (mem_putS.mpr (.inl rfl))
end Lg

namespace Lg
open PySem PySem.Spec PyProof.Rows L2
/-! ### the grid as the tickets' parts tell it -/
theorem Way.order {n e : Nat} : ∀ {ps : List P3} {b : Nat}, Way n b e ps → ∀ (i j : Nat) (p q : P3), i < j → ps[i]? = some p → ps[j]? = some q → p.2.2 ≤ q.2.1
  | [], _, _, i, j, p, q, _, h, _ => by cases h
  | x :: r, b, w, 0, j + 1, p, q, _, h1, h2 => by
    cases h1
    have h3 : r[j]? = some q := h2
    exact (w.2.2.2.2.mem q (List.mem_of_getElem? h3)).2.1
  | x :: r, b, w, i + 1, j + 1, p, q, h, h1, h2 => Way.order w.2.2.2.2 i j p q (by omega) h1 h2
/-- what is told of a grid by who covers what -/
def Painted (g : Grid) (n m : Nat) (C : Nat → Nat → Nat → Prop) : Prop := ∀ s l u, s < n → l < m → (cellOf g s l = some u ↔ C u s l)
theorem Painted.step {g : Grid} {n m : Nat} {C : Nat → Nat → Nat → Prop} (h : Painted g n m C) (hl : g.length = n) (hr : ∀ row ∈ g, row.length = m) {c1 leg t : Nat} (h1 : c1 < n) (h2 : leg < m) (hf : ∀ u, ¬ C u c1 leg) :
    Painted (setCell g c1 leg (some t)) n m (fun u s l => C u s l ∨ (u = t ∧ s = c1 ∧ l = leg)) := by
  intro s l u hs hl2
  rw [setCell_cell hr (by omega) h2]
  by_cases c : s = c1 ∧ l = leg
  · rw [if_pos c]
    obtain ⟨rfl, rfl⟩ := c
    refine ⟨fun z => .inr ⟨(Option.some.inj z).symm, rfl, rfl⟩, fun z => ?_⟩
    rcases z with z | ⟨z, _⟩
    · exact absurd z (hf u)
    · rw [z]
  · rw [if_neg c, h s l u hs hl2]
    exact ⟨.inl, fun z => z.elim id fun z => absurd ⟨z.2.1, z.2.2⟩ c⟩
theorem Painted.iff {g : Grid} {n m : Nat} {C C' : Nat → Nat → Nat → Prop} (h : Painted g n m C) (e : ∀ u s l, C u s l ↔ C' u s l) : Painted g n m C' := fun s l u hs hl => (h s l u hs hl).trans (e u s l)
def coverS (sold : List (Nat × List P3)) (u s l : Nat) : Prop := ∃ x ∈ sold, x.1 = u ∧ covers x.2 s l
theorem Good.painted {T : Tr} (G : Good T) {g : Grid} (hl : g.length = T.rows.length) (hr : ∀ row ∈ g, row.length = T.stops - 1) (h : Painted g T.rows.length (T.stops - 1) (coverS T.sold)) : g = T.rows := by
  refine grid_ext hl hr G.wf.legs fun s l hs hl2 => ?_
  have e : ∀ u, cellOf g s l = some u ↔ cellOf T.rows s l = some u := fun u => (h s l u (by omega) hl2).trans (G.cell s l u (by omega) hl2).symm
  cases h1 : cellOf g s l with
  | none =>
    cases h2 : cellOf T.rows s l with
    | none => rfl
    | some u =>
      have := (e u).mpr h2
      rw [h1] at this
      cases this
  | some u => exact ((e u).mp h1).symm
theorem covers_take {ps : List P3} {j s l : Nat} {q : P3} (h : ps[j]? = some q) : covers (ps.take (j + 1)) s l ↔ covers (ps.take j) s l ∨ (s = q.1 ∧ q.2.1 ≤ l ∧ l < q.2.2) := by
  have hl := lt_of_get h
  rw [List.take_succ_eq_append_getElem hl]
  have e : ps[j] = q := Option.some.inj ((List.getElem?_eq_getElem hl).symm.trans h)
  rw [e]
  refine ⟨fun ⟨x, m, c⟩ => ?_, fun c => ?_⟩
  · rcases List.mem_append.mp m with m | m
    · exact .inl ⟨x, m, c⟩
    · rw [List.mem_singleton.mp m] at c
      exact .inr c
  · rcases c with ⟨x, m, c⟩ | c
    · exact ⟨x, List.mem_append_left _ m, c⟩
    · exact ⟨q, List.mem_append_right _ (List.mem_singleton.mpr rfl), c⟩
/-- the next cell of the next part is not yet painted -/
theorem Good.fresh_cell {T : Tr} (G : Good T) {i j t c1 c2 c3 leg : Nat} {ps : List P3} (hi : T.sold[i]? = some (t, ps)) (hj : ps[j]? = some (c1, c2, c3)) (h1 : c2 ≤ leg) (h2 : leg < c3) :
    ∀ u, ¬ (coverS (T.sold.take i) u c1 leg ∨ (u = t ∧ (covers (ps.take j) c1 leg ∨ (c1 = c1 ∧ c2 ≤ leg ∧ leg < leg)))) := by
  have mt := List.mem_of_getElem? hi
  obtain ⟨b, e, hb, he, w⟩ := G.way _ mt
  dsimp only at w
  have mq := w.mem _ (List.mem_of_getElem? hj)
  dsimp only at mq
  intro u z
  rcases z with ⟨x, m, ex, c⟩ | ⟨_, z | z⟩
  · have mx := List.mem_of_mem_take m
    have k1 := (G.cell c1 leg u (by omega) (by omega)).mpr ⟨x, mx, ex, c⟩
    have k2 := (G.cell c1 leg t (by omega) (by omega)).mpr ⟨_, mt, rfl, ⟨_, List.mem_of_getElem? hj, rfl, h1, h2⟩⟩
    rw [k1] at k2
    have ut := Option.some.inj k2
    obtain ⟨k, hk⟩ := List.mem_iff_getElem?.mp m
    have hk2 := lt_of_get hk
    rw [List.length_take] at hk2
    rw [List.getElem?_take_of_lt (by omega)] at hk
    have hp := List.pairwise_iff_getElem.mp (List.pairwise_map.mp G.wf.rising) k i (lt_of_get hk) (lt_of_get hi) (by omega)
    rw [Option.some.inj ((List.getElem?_eq_getElem (lt_of_get hk)).symm.trans hk), Option.some.inj ((List.getElem?_eq_getElem (lt_of_get hi)).symm.trans hi)] at hp
    dsimp only at hp
    omega
  · obtain ⟨q, m, e1, e2, e3⟩ := z
    obtain ⟨k, hk⟩ := List.mem_iff_getElem?.mp m
    have hk2 := lt_of_get hk
    rw [List.length_take] at hk2
    rw [List.getElem?_take_of_lt (by omega)] at hk
    have := w.order k j q _ (by omega) hk hj
    dsimp only at this
    omega
  · omega
def spGrid (K : PySem.W.Frag) : Sp := fun vs H Q _ => ∃ (S : Addr → Prop) (p : Addr) (T : Tr), vs = [.ref p, .int T.rows.length, .int T.stops] ∧ TrainAt K H S p T ∧ Good T ∧ T.coming < 90000 ∧
  ∀ H' r as, Ex H H' → GridAt H' r as T.rows → as.Nodup → r ∉ as → H r = none → (∀ a ∈ as, H a = none) → Q (.ref r) H'
end Lg

namespace Lg
open PySem PySem.Spec PyProof.Rows L2
def keys (T : Tr) : List Int := T.sold.map fun x => (x.1 : Int)
theorem keys_len (T : Tr) : (keys T).length = T.sold.length := List.length_map _
theorem keys_nodup {T : Tr} (w : T.Wf) : (keys T).Nodup := by
  unfold keys
  have h := List.pairwise_map.mp w.rising
  exact List.pairwise_map.mpr (h.imp fun {a b} z => by omega)
theorem mem_keys {T : Tr} {t : Int} : t ∈ keys T ↔ ∃ ps, getS T.sold t = some ps := by
  unfold keys
  refine ⟨fun h => ?_, fun ⟨ps, h⟩ => ?_⟩
  · cases hg : getS T.sold t with
    | some ps => exact ⟨ps, rfl⟩
    | none =>
      obtain ⟨x, m, e⟩ := List.mem_map.mp h
      exact absurd e (getS_none.mp hg x m)
  · obtain ⟨n, rfl, m⟩ := getS_mem h
    exact List.mem_map.mpr ⟨_, m, rfl⟩
theorem keys_put {T : Tr} {t : Nat} {ps : List P3} (h : ∃ x ∈ T.sold, x.1 = t) : (putS T.sold t ps).map (fun x => (x.1 : Int)) = keys T := by
  have e := putS_keys (sold := T.sold) (t := t) (ps := ps)
  obtain ⟨x, m, ex⟩ := h
  rw [if_pos (List.any_eq_true.mpr ⟨x, m, decide_eq_true ex⟩)] at e
  have e2 := congrArg (List.map fun n : Nat => (n : Int)) e
  rw [List.map_map, List.map_map] at e2
  exact e2
theorem keys_drop {T : Tr} (w : T.Wf) {t : Nat} : (dropS T.sold t).map (fun x => (x.1 : Int)) = (keys T).erase (t : Int) := by
  rw [List.Nodup.erase_eq_filter (keys_nodup w)]
  unfold dropS keys
  rw [List.filter_map]
  congr 1
  apply List.filter_congr
  intro x _
  show decide (x.1 ≠ t) = ((x.1 : Int) != (t : Int))
  by_cases h : x.1 = t
  · rw [h]
    simp
  · have h2 : (x.1 : Int) ≠ (t : Int) := fun z => h (Int.ofNat_inj.mp z)
    rw [decide_eq_true h]
    exact (bne_iff_ne.mpr h2).symm
structure KeysRun (T : Tr) (d : Deed) (o : Out) : Prop where
  no : o.word ≠ "" → o.tr = T
  sell : o.word = "" → d.k = .sell → keys o.tr = keys T ++ [(T.coming : Int)] ∧ o.res = .num T.coming
  back : o.word = "" → d.k = .back → d.a ∈ keys T ∧ keys o.tr = (keys T).erase d.a
  other : o.word = "" → d.k ≠ .sell → d.k ≠ .back → d.a ∈ keys T ∧ keys o.tr = keys T
theorem Good.keysRun {T : Tr} (G : Good T) (d : Deed) : KeysRun T d (T.run d) := by
  refine ⟨fun h => (run_refused T d h).2, ?_, ?_, ?_⟩
  · obtain ⟨k, a, b⟩ := d
    intro hw hk
    dsimp only at hk
    subst hk
    revert hw
    show (runSell T a b).word = "" → keys (runSell T a b).tr = _ ∧ (runSell T a b).res = _
    unfold runSell
    split
    · split
      · refine fun _ => ⟨?_, rfl⟩
        show (putS T.sold T.coming _).map (fun x => (x.1 : Int)) = _
        rw [putS_new G.low, List.map_append]
        rfl
      · exact fun h => absurd (show ("full" : Str) = "" from h) (by decide +kernel)
    · exact fun h => absurd (show ("stretch" : Str) = "" from h) (by decide +kernel)
  · obtain ⟨k, a, b⟩ := d
    intro hw hk
    dsimp only at hk
    subst hk
    revert hw
    show (runBack T a).word = "" → a ∈ keys T ∧ keys (runBack T a).tr = (keys T).erase a
    unfold runBack
    cases hg : getS T.sold a with
    | none => exact fun h => absurd (show ("ticket" : Str) = "" from h) (by decide +kernel)
    | some ps =>
      obtain ⟨n, rfl, m⟩ := getS_mem hg
      exact fun _ => ⟨mem_keys.mpr ⟨_, hg⟩, keys_drop G.wf⟩
  · obtain ⟨k, a, b⟩ := d
    intro hw h1 h2
    cases k with
    | sell => exact absurd rfl h1
    | back => exact absurd rfl h2
    | leave =>
      revert hw
      show (runLeave T a b).word = "" → a ∈ keys T ∧ keys (runLeave T a b).tr = keys T
      unfold runLeave
      cases hg : getS T.sold a with
      | none => exact fun h => absurd (show ("ticket" : Str) = "" from h) (by decide +kernel)
      | some ps =>
        obtain ⟨n, rfl, m⟩ := getS_mem hg
        dsimp only
        split
        · exact fun _ => ⟨mem_keys.mpr ⟨_, hg⟩, keys_put ⟨_, m, rfl⟩⟩
        · exact fun h => absurd (show ("stop" : Str) = "" from h) (by decide +kernel)
    | reseat =>
      revert hw
      show (runReseat T a).word = "" → a ∈ keys T ∧ keys (runReseat T a).tr = keys T
      unfold runReseat
      cases hg : getS T.sold a with
      | none => exact fun h => absurd (show ("ticket" : Str) = "" from h) (by decide +kernel)
      | some ps =>
        obtain ⟨n, rfl, m⟩ := getS_mem hg
        exact fun _ => ⟨mem_keys.mpr ⟨_, hg⟩, keys_put ⟨_, m, rfl⟩⟩
/-- a train made behind H, all that it leans on made behind H too -/
structure Play (K : PySem.W.Frag) (H0 H : Hp) (p : Addr) (T : Tr) (S : Addr → Prop) : Prop where
  ex : Ex H0 H
  tr : TrainAt K H S p T
  good : Good T
  fresh : ∀ a, S a → H0 a = none
  live : ∀ a, S a → ∃ o, H a = some o
theorem Play.more {K : PySem.W.Frag} {H0 H H' : Hp} {p : Addr} {T : Tr} {S : Addr → Prop} (h : Play K H0 H p T S) (e : Ex H H') : Play K H0 H' p T S :=
  ⟨h.ex.trans e, h.tr.ex e, h.good, h.fresh, fun a s => by obtain ⟨o, ho⟩ := h.live a s; exact ⟨o, e _ _ ho⟩⟩
theorem Play.run {K : PySem.W.Frag} {H0 H H' : Hp} {p : Addr} {T T' : Tr} {S S' : Addr → Prop} (h : Play K H0 H p T S) (m : Mv H H' S S') (t : TrainAt K H' S' p T') (g : Good T') : ∃ S2, Play K H0 H' p T' S2 ∧ ∀ a, S2 a → S' a := by
  obtain ⟨S2, h2, t2⟩ := t.there
  refine ⟨S2, ⟨fun a o ha => m.keep a o (fun z => ?_) (h.ex _ _ ha), t2, g, fun a s => ?_, fun a s => (h2 a s).2⟩, fun a s => (h2 a s).1⟩
  · rw [h.fresh a z] at ha
    cases ha
  · rcases m.new a (h2 a s).1 with z | z
    · exact h.fresh a z
    · exact Evl.fresh_back h.ex z
/-- an own list, made behind H0, changed -/
theorem Play.set {K : PySem.W.Frag} {H0 H : Hp} {p : Addr} {T : Tr} {S : Addr → Prop} (h : Play K H0 H p T S) {l : Addr} {xs ys : List V} (hn : H0 l = none) (hl : H l = some (.lst xs)) (off : ¬ S l) : Play K H0 (upd H l (.lst ys)) p T S := by
  refine ⟨Evl.Ex.mut h.ex hn, h.tr.mono (fun a o s ha => ?_) (fun a us ha => ?_), h.good, h.fresh, fun a s => ?_⟩
  · rw [upd_ne (fun z : a = l => off (z ▸ s))]
    exact ha
  · rw [upd_ne (ne_of ha hl (fun z => by cases z))]
    exact ha
  · obtain ⟨o, ho⟩ := h.live a s
    exact ⟨o, by rw [upd_ne (fun z : a = l => off (z ▸ s))]; exact ho⟩
def spRun (K : PySem.W.Frag) : Sp := fun vs H Q _ => ∃ (a : Addr) (ns : List Int), vs = [.ref a] ∧ SqL K H a (ns.map V.int) ∧ ns.length ≤ 63 ∧
  ∀ H' S p so l T, Play K H H' p T S → T.coming ≤ 600 → H so = none → H' so = some (.lst ((keys T).map V.int)) → ¬ S so → H l = none → H' l = some (.lst [.ref p, .ref so]) → ¬ S l → Q (.ref l) H'
end Lg

namespace Lg
open PySem PySem.Spec PyProof.Rows L2
/-! ### grids compared -/
theorem enc_grid : Enc (fun g : Grid => PyData.list (g.map fun row => PyData.list (row.map oD))) 2 := Enc.list (Enc.list enc_opt)
theorem dp_opts {K : PySem.W.Frag} {H : Hp} {a : Addr} {row : List (Option Nat)} (h : RowAt H a row) : Dp K H (.ref a) (.list (row.map oD)) :=
  .lst (SqL.of h) (dpAll ⟨by rw [List.length_map, List.length_map], fun i x y hx hy => by
    obtain ⟨u, hu, rfl⟩ := map_back hx
    obtain ⟨v, hv, rfl⟩ := map_back hy
    rw [hu] at hv
    cases hv
    cases u with
    | none => exact .non
    | some n => exact .int n⟩)
theorem dp_grid {K : PySem.W.Frag} {H : Hp} {r : Addr} {as : List Addr} {g : Grid} (h : GridAt H r as g) : Dp K H (.ref r) (.list (g.map fun row => PyData.list (row.map oD))) :=
  .lst (SqL.of h.top) (dpAll ⟨by rw [List.length_map, List.length_map, h.row.len], fun i x y hx hy => by
    obtain ⟨a, ha, rfl⟩ := map_back hx
    obtain ⟨row, hr, rfl⟩ := map_back hy
    exact dp_opts (h.row.at_ _ _ _ ha hr)⟩)
/-! ### k07 -/
def spAsked7 (K : PySem.W.Frag) : Sp := fun vs H Q _ => ∃ (S : Addr → Prop) (p : Addr) (T : Tr) (t : Addr) (b e way : Int), vs = [.ref p, .ref t, .int way] ∧ TrainAt K H S p T ∧ Good T ∧ T.coming < 1000000 ∧ H t = some (.tup [.int b, .int e]) ∧
  (¬ Str3 T b e → ∀ H', Ex H H' → Q (.str "stretch") H') ∧
  (Str3 T b e → way = 0 → firstFull T.rows b.toNat e.toNat = none → ∀ H', Ex H H' → Q (.str "") H') ∧
  (Str3 T b e → way ≠ 2 → firstFull T.rows b.toNat e.toNat ≠ none → ∀ H', Ex H H' → Q (.str "full") H') ∧
  (Str3 T b e → way = 2 → ∀ H', Ex H H' → Q (.str "") H') ∧
  (Str3 T b e → way = 1 → firstFull T.rows b.toNat e.toNat = none → ∀ H' S', Mv H H' S S' → TrainAt K H' S' p (T.sell b.toNat e.toNat) → Q (.int T.coming) H') ∧ (way = 0 ∨ way = 1 ∨ way = 2)
end Lg

namespace Lg
open PySem PySem.Spec PyProof.Rows L2
/-! ### k09 -/
def spFreed (K : PySem.W.Frag) : Sp := fun vs H Q _ => ∃ (r l : Addr) (as : List Addr) (g : Grid) (n : Nat) (ps : List P3), vs = [.ref r, .ref l] ∧ GridAt H r as g ∧ g.length ≤ 1000 ∧ n ≤ 1000 ∧ (∀ row ∈ g, row.length = n) ∧ PartsAt H l ps ∧
  (∀ q ∈ ps, q.1 < g.length ∧ q.2.1 < q.2.2 ∧ q.2.2 ≤ n) ∧ ∀ H' r' as', Ex H H' → GridAt H' r' as' (markAll g ps none) → Q (.ref r') H'
def spDue9 (K : PySem.W.Frag) : Sp := fun vs H Q _ => ∃ (l d : Addr) (ps : List P3) (x : Deed), vs = [.ref l, .ref d] ∧ PartsAt H l ps ∧ ps.length ≤ 1000 ∧ DeedAt H d x ∧
  (x.k = .back → ∀ H' t e, Ex H H' → H' t = some (.tup [.ref l, .ref e]) → Q (.ref t) H') ∧
  (x.k ≠ .back → ∃ c : Nat, x.b = (c : Int) ∧ ∀ H' t g k, Ex H H' → H' t = some (.tup [.ref g, .ref k]) → H g = none → H k = none → PartsAt H' g (goneP ps c) → PartsAt H' k (keptP ps c) → Q (.ref t) H')
def spToldNone (K : PySem.W.Frag) : Sp := fun vs H Q _ => ∃ (S : Addr → Prop) (p : Addr) (T : Tr) (t : Int), vs = [.ref p, .int t] ∧ TrainAt K H S p T ∧ getS T.sold t = none ∧ ∀ H', Ex H H' → Q (.bl true) H'
/-- what a law's turn keeps beside the train and its own list -/
def Kept (H H' : Hp) (S S' : Addr → Prop) (so : Addr) : Prop := ∀ c o, c ≠ so → ¬ S c → H c = some o → H' c = some o ∧ ¬ S' c
def spTurn9 (K : PySem.W.Frag) : Sp := fun vs H Q _ => ∃ (H0 : Hp) (S : Addr → Prop) (p so d ts : Addr) (T : Tr) (x : Deed), vs = [.ref p, .ref so, .ref d, .ref ts] ∧ Play K H0 H p T S ∧ T.coming < 90000 ∧ H0 so = none ∧ H so = some (.lst ((keys T).map V.int)) ∧ ¬ S so ∧ DeedAt H d x ∧ H ts = some (.tup [.int T.rows.length, .int T.stops]) ∧ (x.k = .back ∨ x.k = .leave) ∧
  ∀ H' S' T', Play K H0 H' p T' S' → T'.coming = T.coming → T'.stops = T.stops → T'.rows.length = T.rows.length → H' so = some (.lst ((keys T').map V.int)) → ¬ S' so → Kept H H' S S' so → Q (.bl true) H'
end Lg

namespace Lg
open PySem PySem.Spec PyProof.Rows L2
/-! ### readings, step by step -/
section
variable {K : PySem.W.Frag} {σ : L2.St} {H H' : Hp} {Q : VK} {nx bk ct : L2.St → Hp → Prop} {rt : VK} {te ta tb : TE} {a l p q : Addr} {x y v w : V}
theorem s_seq {t u : TS} (h : t ⟨u ⟨nx, rt, bk, ct⟩, rt, bk, ct⟩ σ H) : tSeq t u ⟨nx, rt, bk, ct⟩ σ H := h
theorem s_drop (h : te σ H fun _ H1 => nx σ H1) : tDrop te ⟨nx, rt, bk, ct⟩ σ H := h
theorem s_ret (h : te σ H rt) : tRet te ⟨nx, rt, bk, ct⟩ σ H := h
theorem s_retN (h : rt .non H) : tRetN ⟨nx, rt, bk, ct⟩ σ H := h
theorem s_next (h : nx σ H) : tNext ⟨nx, rt, bk, ct⟩ σ H := h
theorem s_if {c : TT} {t u : TS} (h : c σ H fun b H1 => if b = true then t ⟨nx, rt, bk, ct⟩ σ H1 else u ⟨nx, rt, bk, ct⟩ σ H1) : tIfS c t u ⟨nx, rt, bk, ct⟩ σ H := h
theorem s_asg {g : TG} (h : te σ H fun x H1 => g x σ H1 nx) : tAsg te g ⟨nx, rt, bk, ct⟩ σ H := h
theorem s_gname {i : Nat} {N : L2.St → Hp → Prop} (h : N (σ.set i (some v)) H) : gName i v σ H N := h
/- tests -/
variable {B : Bool → Hp → Prop} {b : Bool}
theorem s_tB (h : te σ H fun x H1 => ∃ c, x = .bl c ∧ B c H1) : L2.tB te σ H B := h
theorem s_tTest (h : te σ H fun x H1 => ∃ c, x = .bl c ∧ B c H1) : tTest te σ H B := h
theorem s_bl {P : Bool → Prop} (h : P b) : ∃ c, V.bl b = .bl c ∧ P c := ⟨b, rfl, h⟩
theorem s_tAnd {t u : TT} (h : t σ H fun c H1 => if c = true then u σ H1 B else B false H1) : tAnd t u σ H B := h
theorem s_tOr {t u : TT} (h : t σ H fun c H1 => if c = true then B true H1 else u σ H1 B) : tOr t u σ H B := h
theorem s_tNot {t : TT} (h : t σ H fun c H1 => B (!c) H1) : tNot t σ H B := h
theorem s_tAndV (h : ta σ H fun x H1 => ∃ c, x = .bl c ∧ if c = true then tb σ H1 Q else Q (.bl false) H1) : tAndV ta tb σ H Q := h
theorem s_tOrV (h : ta σ H fun x H1 => ∃ c, x = .bl c ∧ if c = true then Q (.bl true) H1 else tb σ H1 Q) : tOrV ta tb σ H Q := h
theorem s_tNotV (h : ta σ H fun x H1 => ∃ c, x = .bl c ∧ Q (.bl (!c)) H1) : tNotV ta σ H Q := h
/- expressions -/
theorem s_var {i : Nat} (e : σ[i]? = some (some v)) (h : Q v H) : tVar i σ H Q := ⟨v, e, h⟩
theorem s_c (h : Q v H) : tC v σ H Q := h
theorem s_op {r : R2} (h : ta σ H fun x H1 => tb σ H1 fun y H2 => r x y H2 Q) : tOp r ta tb σ H Q := h
theorem s_un {r : V → Hp → VK → Prop} (h : ta σ H fun x H1 => r x H1 Q) : tUn r ta σ H Q := h
theorem s_chain {r r' : R2} {tc : TE} (h : ta σ H fun x H1 => tb σ H1 fun y H2 => r x y H2 fun z H3 => ∃ k, z = .bl k ∧ (if k = true then tc σ H3 fun w' H4 => r' y w' H4 Q else Q (.bl false) H3)) : tChain r r' ta tb tc σ H Q := h
theorem s_cb {r : List V → Hp → VK → Prop} {t : TA} (h : t σ H fun vs H1 => r vs H1 Q) : tCB r t σ H Q := h
variable {A : List V → Hp → Prop}
theorem s_nil (h : A [] H) : tNil σ H A := h
theorem s_cons {tr : TA} (h : ta σ H fun x H1 => tr σ H1 fun xs H2 => A (x :: xs) H2) : tCons ta tr σ H A := h
theorem s_calls {sp : Sp} {E : L2.St → XK} {t : TA} (h : t σ H fun vs H1 => sp vs H1 Q (E σ)) : tCallS sp E t σ H Q := h
def MethR (C : Addr) (m : Str) (sp : Sp) (E : L2.St → XK) (t : TA) (σ : L2.St) (Q : VK) (x : V) (H1 : Hp) : Prop := ∃ a dx fs, x = .ref a ∧ H1 a = some (.ins C dx fs) ∧ fs.lookup m = none ∧ t σ H1 fun vs H2 => sp (x :: vs) H2 Q (E σ)
theorem s_meth {C : Addr} {m : Str} {sp : Sp} {E : L2.St → XK} {t : TA} (h : ta σ H fun x H1 => MethR C m sp E t σ Q x H1) : tMethS C m sp E ta t σ H Q := h
theorem s_methT {m : Str} {sp : Sp} {E : L2.St → XK} {t : TA} {S : Addr → Prop} {T : Tr} (h : TrainAt K H S p T) (hm : ∀ s r d c, (trF s r d c).lookup m = none) (k : t σ H fun vs H2 => sp (.ref p :: vs) H2 Q (E σ)) : MethR (He.ga K "Train") m sp E t σ Q (.ref p) H := by
  obtain ⟨dx, r, d, e⟩ := h.ins
  exact ⟨p, dx, _, rfl, e, hm _ _ _ _, k⟩
def NwT (xs : List V) (H1 : Hp) (Q : VK) : Prop := xs.length ≤ sizeLine ∧ ∀ p, H1 p = none → Q (.ref p) (upd H1 p (.tup xs))
def NwL (xs : List V) (H1 : Hp) (Q : VK) : Prop := xs.length ≤ sizeLine ∧ ∀ p, H1 p = none → Q (.ref p) (upd H1 p (.lst xs))
theorem s_tup {t : TA} (h : t σ H fun xs H1 => NwT xs H1 Q) : tTup t σ H Q := h
theorem s_lst {t : TA} (h : t σ H fun xs H1 => NwL xs H1 Q) : tLst t σ H Q := h
theorem nw_t {xs : List V} (hz : xs.length ≤ sizeLine) (h : ∀ p H2, H p = none → Ex H H2 → H2 p = some (.tup xs) → Q (.ref p) H2) : NwT xs H Q := ⟨hz, fun p hp => h p _ hp (Evl.Ex.new hp) upd_same⟩
theorem nw_l {xs : List V} (hz : xs.length ≤ sizeLine) (h : ∀ p H2, H p = none → Ex H H2 → H2 p = some (.lst xs) → Q (.ref p) H2) : NwL xs H Q := ⟨hz, fun p hp => h p _ hp (Evl.Ex.new hp) upd_same⟩
/- values -/
variable {i j : Int}
theorem v_I0 {g : Int → Int → V} (h : Q (g i j) H) : rI0 g (.int i) (.int j) H Q := ⟨i, j, rfl, rfl, h⟩
theorem v_I {C : Int → Int → Prop} {g : Int → Int → V} (c : C i j) (h : Q (g i j) H) : rI C g (.int i) (.int j) H Q := ⟨i, j, rfl, rfl, c, h⟩
theorem v_U {g : Int → V} (h : Q (g i) H) : rU g (.int i) H Q := ⟨i, rfl, h⟩
theorem v_eqI (h : Q (.bl (decide (i = j))) H) : rEq (.int i) (.int j) H Q := ⟨rfl, by
  have e : decide (V.int i = V.int j) = decide (i = j) := decide_eq_decide.mpr ⟨V.int.inj, congrArg _⟩
  rw [e]
  exact h⟩
theorem v_neI (h : Q (.bl (!decide (i = j))) H) : rNe (.int i) (.int j) H Q := ⟨rfl, by
  have e : decide (V.int i = V.int j) = decide (i = j) := decide_eq_decide.mpr ⟨V.int.inj, congrArg _⟩
  rw [e]
  exact h⟩
theorem v_eqS {s t : Str} (h : Q (.bl (decide (s = t))) H) : rEq (.str s) (.str t) H Q := ⟨rfl, by
  have e : decide (V.str s = V.str t) = decide (s = t) := decide_eq_decide.mpr ⟨V.str.inj, congrArg _⟩
  rw [e]
  exact h⟩
theorem v_neS {s t : Str} (h : Q (.bl (!decide (s = t))) H) : rNe (.str s) (.str t) H Q := ⟨rfl, by
  have e : decide (V.str s = V.str t) = decide (s = t) := decide_eq_decide.mpr ⟨V.str.inj, congrArg _⟩
  rw [e]
  exact h⟩
theorem v_eqO {s t : Option Nat} (h : Q (.bl (decide (s = t))) H) : rEq (oV s) (oV t) H Q := ⟨oV_scal _ _, by
  have e : decide (oV s = oV t) = decide (s = t) := decide_eq_decide.mpr oV_inj
  rw [e]
  exact h⟩
theorem v_neO {s t : Option Nat} (h : Q (.bl (!decide (s = t))) H) : rNe (oV s) (oV t) H Q := ⟨oV_scal _ _, by
  have e : decide (oV s = oV t) = decide (s = t) := decide_eq_decide.mpr oV_inj
  rw [e]
  exact h⟩
theorem v_isO {s : Option Nat} (h : Q (.bl s.isNone) H) : rIsN (oV s) .non H Q := ⟨rfl, by rw [oV_none]; exact h⟩
theorem v_notO {s : Option Nat} (h : Q (.bl s.isSome) H) : rNotN (oV s) .non H Q := ⟨rfl, by rw [oV_some]; exact h⟩
theorem v_isN (h : Q (.bl true) H) : rIsN .non .non H Q := ⟨rfl, h⟩
theorem v_isI (h : Q (.bl false) H) : rIsN (.int i) .non H Q := ⟨rfl, h⟩
theorem v_notN (h : Q (.bl false) H) : rNotN .non .non H Q := ⟨rfl, h⟩
theorem v_notI (h : Q (.bl true) H) : rNotN (.int i) .non H Q := ⟨rfl, h⟩
theorem v_notR (h : Q (.bl true) H) : rNotN (.ref a) .non H Q := ⟨rfl, h⟩
theorem v_isR (h : Q (.bl false) H) : rIsN (.ref a) .non H Q := ⟨rfl, h⟩
theorem v_ixT {xs : List V} (h : H p = some (.tup xs)) (e : atI xs i = some v) (k : Q v H) : rIxT K (.ref p) (.int i) H Q := ⟨p, xs, i, v, rfl, rfl, SqT.of h, e, k⟩
theorem p_ix0 {x1 x2 : V} (h : H p = some (.tup [v, x1, x2])) (k : Q v H) : rIxT K (.ref p) (.int 0) H Q := ⟨p, _, 0, v, rfl, rfl, SqT.of h, rfl, k⟩
theorem v_ixL {xs : List V} (h : SqL K H p xs) (e : atI xs i = some v) (k : Q v H) : rIxL K (.ref p) (.int i) H Q := ⟨p, xs, i, v, rfl, rfl, h, e, k⟩
theorem v_lenL {xs : List V} (h : SqL K H p xs) (k : Q (.int xs.length) H) : rLenK K [.ref p] H Q := ⟨p, xs, rfl, .inl h, k⟩
theorem v_lenT {xs : List V} (h : H p = some (.tup xs)) (k : Q (.int xs.length) H) : rLenK K [.ref p] H Q := ⟨p, xs, rfl, .inr (SqT.of h), k⟩
theorem inV_int (i : Int) (ns : List Int) : inV (.int i) (ns.map V.int) = decide (i ∈ ns) := by
  unfold inV
  rw [List.any_map]
  by_cases m : i ∈ ns
  · rw [decide_eq_true m]
    exact List.any_eq_true.mpr ⟨i, m, beq_self_eq_true i⟩
  · rw [decide_eq_false m, List.any_eq_false]
    intro z mz
    show ¬ (z == i) = true
    rw [beq_iff_eq]
    exact fun e => m (e ▸ mz)
theorem v_inI {ns : List Int} (h : SqL K H p (ns.map V.int)) (k : Q (.bl (decide (i ∈ ns))) H) : rIn K false (.int i) (.ref p) H Q := ⟨p, _, rfl, .inl h, rfl, flat_ints _, by
  rw [inV_int]
  exact k⟩
theorem v_ninI {ns : List Int} (h : SqL K H p (ns.map V.int)) (k : Q (.bl (!decide (i ∈ ns))) H) : rIn K true (.int i) (.ref p) H Q := ⟨p, _, rfl, .inl h, rfl, flat_ints _, by
  rw [inV_int]
  exact k⟩
theorem v_eqG {as bs : List Addr} {g g' : Grid} (h : GridAt H p as g) (h2 : GridAt H q bs g') (k : Q (.bl (decide (g = g'))) H) : rEqD K (.ref p) (.ref q) H Q := req_of enc_grid (by decide) (dp_grid h) (dp_grid h2) k
theorem v_neG {as bs : List Addr} {g g' : Grid} (h : GridAt H p as g) (h2 : GridAt H q bs g') (k : Q (.bl (!decide (g = g'))) H) : rNeD K (.ref p) (.ref q) H Q := rne_of enc_grid (by decide) (dp_grid h) (dp_grid h2) k
theorem v_cat {xs ys : List V} (h : H p = some (.lst xs)) (h2 : H q = some (.lst ys)) (hz : xs.length + ys.length ≤ sizeLine) (k : ∀ l H2, H l = none → Ex H H2 → H2 l = some (.lst (xs ++ ys)) → Q (.ref l) H2) : rCat (.ref p) (.ref q) H Q :=
  ⟨p, q, xs, ys, rfl, rfl, h, h2, hz, fun l hl => k l _ hl (Evl.Ex.new hl) upd_same⟩
theorem v_list {xs : List V} (h : SqL K H p xs) (k : ∀ l H2, H l = none → Ex H H2 → H2 l = some (.lst xs) → Q (.ref l) H2) : rListK K [.ref p] H Q := ⟨p, xs, rfl, .inl h, fun l hl => k l _ hl (Evl.Ex.new hl) upd_same⟩
theorem v_all {bs : List Bool} (h : SqL K H p (bs.map V.bl)) (k : Q (.bl (bs.all id)) H) : rAll K [.ref p] H Q := ⟨p, bs, rfl, h, k⟩
/- an own list changed -/
structure Ch (H H' : Hp) (l : Addr) : Prop where
  was : ∃ xs, H l = some (.lst xs)
  keep : ∀ a o, a ≠ l → H a = some o → H' a = some o
theorem Ch.upd {xs ys : List V} (h : H l = some (.lst xs)) : Ch H (upd H l (.lst ys)) l := ⟨⟨_, h⟩, fun a o n e => by rw [upd_ne n]; exact e⟩
theorem ch_tup {xs : List V} (c : Ch H H' l) (h : H a = some (.tup xs)) : H' a = some (.tup xs) := by
  obtain ⟨ys, e⟩ := c.was
  exact c.keep _ _ (ne_of h e (fun z => by cases z)) h
theorem ch_lst {xs : List V} (c : Ch H H' l) (n : a ≠ l) (h : H a = some (.lst xs)) : H' a = some (.lst xs) := c.keep _ _ n h
theorem Ch.ex {H0 : Hp} (c : Ch H H' l) (e : Ex H0 H) (hn : H0 l = none) : Ex H0 H' := fun a o h => c.keep a o (fun z => by rw [z, hn] at h; cases h) (e a o h)
theorem Play.ch {H0 : Hp} {S : Addr → Prop} {T : Tr} (h : Play K H0 H p T S) (c : Ch H H' l) (hn : H0 l = none) (off : ¬ S l) : Play K H0 H' p T S :=
  ⟨c.ex h.ex hn, h.tr.mono (fun a o s ha => c.keep a o (fun z : a = l => off (z ▸ s)) ha) (fun a us ha => ch_tup c ha), h.good, h.fresh, fun a s => by
    obtain ⟨o, ho⟩ := h.live a s
    exact ⟨o, c.keep a o (fun z : a = l => off (z ▸ s)) ho⟩⟩
theorem s_bm {r : V → List V → Hp → VK → Prop} {T : String} {to : TE} {t : TA} (h : to σ H fun x H1 => tyV K T x H1 ∧ t σ H1 fun xs H2 => r x xs H2 Q) : tBM K T r to t σ H Q := h
theorem s_tyL {xs : List V} {P : Prop} (h : SqL K H l xs) (k : P) : tyV K "list" (.ref l) H ∧ P := ⟨.inl ⟨rfl, _, h⟩, k⟩
theorem v_append {xs : List V} (h : H l = some (.lst xs)) (hz : xs.length < sizeLine) (k : ∀ H2, Ch H H2 l → H2 l = some (.lst (xs ++ [y])) → Q .non H2) : rAppend (.ref l) [y] H Q := ⟨l, xs, y, rfl, rfl, h, hz, k _ (Ch.upd h) upd_same⟩
theorem v_setL {xs : List V} {N : Hp → Prop} {k : Nat} (h : H l = some (.lst xs)) (e : ixN xs.length i = some k) (n : ∀ H2, Ch H H2 l → H2 l = some (.lst (xs.set k y)) → N H2) : rSetL (.ref l) (.int i) y H N := ⟨l, xs, i, k, rfl, rfl, h, e, n _ (Ch.upd h) upd_same⟩
theorem s_gSub {to ti : TE} {t : TSet} {N : L2.St → Hp → Prop} (h : to σ H fun o H1 => ti σ H1 fun i H2 => t o i v H2 fun H3 => N σ H3) : gSub to ti t v σ H N := h
/- loops -/
def ForR (g : TG) (tb : TS) (D : Ends) (σ : L2.St) (J : It) (H1 : Hp) : Prop := ∃ W : Nat → Nat → L2.St → Hp → Prop, (∃ m, W 0 m σ H1) ∧ ∀ i m σ H, W i m σ H →
  (J.stop i H ∧ D.nx σ H) ∨ (J.go i H ∧ ∃ N : L2.St → Hp → Prop, (∀ σ' H', N σ' H' → ∃ m', m' < m ∧ W (i + 1) m' σ' H') ∧ ∀ x H', J.yld i H x H' → g x σ H' fun σ2 H2 => tb { D with nx := N, ct := N, bk := D.nx } σ2 H2)
theorem s_for {wi : TI} {g : TG} {tb : TS} (h : wi σ H (ForR g tb ⟨nx, rt, bk, ct⟩ σ)) : tFor wi g tb ⟨nx, rt, bk, ct⟩ σ H := h
def IL (K : PySem.W.Frag) (R : It → Hp → Prop) (x : V) (H1 : Hp) : Prop := ∃ a, x = .ref a ∧ (∃ xs, SqL K H1 a xs) ∧ R (Itl K a) H1
def IT (K : PySem.W.Frag) (R : It → Hp → Prop) (x : V) (H1 : Hp) : Prop := ∃ a, x = .ref a ∧ (∃ xs, SqT K H1 a xs) ∧ R (Itt K a) H1
variable {R : It → Hp → Prop}
theorem s_iL (h : ta σ H fun x H1 => IL K R x H1) : iList K ta σ H R := h
theorem s_iT (h : ta σ H fun x H1 => IT K R x H1) : iTup K ta σ H R := h
theorem v_iL {xs : List V} (h : SqL K H a xs) (k : R (Itl K a) H) : IL K R (.ref a) H := ⟨a, rfl, ⟨_, h⟩, k⟩
theorem v_iT {xs : List V} (h : H a = some (.tup xs)) (k : R (Itt K a) H) : IT K R (.ref a) H := ⟨a, rfl, ⟨_, SqT.of h⟩, k⟩
def IR1 (R : It → Hp → Prop) (vs : List V) (H1 : Hp) : Prop := ∃ j : Int, vs = [.int j] ∧ -(2 ^ 62) ≤ j ∧ j < 2 ^ 62 ∧ R (Itr 0 j.toNat) H1
def IR2 (R : It → Hp → Prop) (vs : List V) (H1 : Hp) : Prop := ∃ i j : Int, vs = [.int i, .int j] ∧ (-(2 ^ 62) ≤ i ∧ i < 2 ^ 62 ∧ -(2 ^ 62) ≤ j ∧ j < 2 ^ 62) ∧ R (Itr i (j - i).toNat) H1
theorem s_iR1 {t : TA} (h : t σ H fun vs H1 => IR1 R vs H1) : iRng1 t σ H R := h
theorem s_iR2 {t : TA} (h : t σ H fun vs H1 => IR2 R vs H1) : iRng2 t σ H R := h
theorem v_iR1 {n : Nat} (hn : n ≤ 1000000) (k : R (Itr 0 n) H) : IR1 R [.int (n : Int)] H := ⟨n, rfl, by omega, by omega, k⟩
theorem v_iR1' {n : Int} (hn : 0 ≤ n ∧ n ≤ 1000000) (k : R (Itr 0 n.toNat) H) : IR1 R [.int n] H := ⟨n, rfl, by omega, by omega, k⟩
theorem v_iR2 {b e : Nat} (hb : b ≤ 1000000) (he : e ≤ 1000000) (k : R (Itr b (e - b)) H) : IR2 R [.int (b : Int), .int (e : Int)] H := ⟨b, e, rfl, ⟨by omega, by omega, by omega, by omega⟩, by
  rw [show ((e : Int) - b).toNat = e - b by omega]
  exact k⟩
theorem fr_list {xs : List V} {g : TG} {tb : TS} (Pv : Nat → L2.St → Hp → Prop) (h0 : Pv 0 σ H) (hl : ∀ i σ H, i ≤ xs.length → Pv i σ H → SqL K H a xs)
    (hs : ∀ i x σ H, xs[i]? = some x → Pv i σ H → g x σ H fun σ2 H2 => tb ⟨Pv (i + 1), rt, nx, Pv (i + 1)⟩ σ2 H2) (hd : ∀ σ H, Pv xs.length σ H → nx σ H) : ForR g tb ⟨nx, rt, bk, ct⟩ σ (Itl K a) H := for_list Pv h0 hl hs hd
theorem fr_tup {xs : List V} {g : TG} {tb : TS} (Pv : Nat → L2.St → Hp → Prop) (h0 : Pv 0 σ H) (hl : ∀ i σ H, i ≤ xs.length → Pv i σ H → SqT K H a xs)
    (hs : ∀ i x σ H, xs[i]? = some x → Pv i σ H → g x σ H fun σ2 H2 => tb ⟨Pv (i + 1), rt, nx, Pv (i + 1)⟩ σ2 H2) (hd : ∀ σ H, Pv xs.length σ H → nx σ H) : ForR g tb ⟨nx, rt, bk, ct⟩ σ (Itt K a) H := for_tup Pv h0 hl hs hd
theorem fr_range {n : Nat} {g : TG} {tb : TS} (Pv : Nat → L2.St → Hp → Prop) (h0 : Pv 0 σ H)
    (hs : ∀ (i : Nat) σ H, i < n → Pv i σ H → g (.int (i : Int)) σ H fun σ2 H2 => tb ⟨Pv (i + 1), rt, nx, Pv (i + 1)⟩ σ2 H2) (hd : ∀ σ H, Pv n σ H → nx σ H) : ForR g tb ⟨nx, rt, bk, ct⟩ σ (Itr 0 n) H :=
  for_range Pv h0 (fun i σ H hi p => by
    rw [show (0 : Int) + (i : Int) = (i : Int) by omega]
    exact hs i σ H hi p) hd
theorem fr_range2 {b n : Nat} {g : TG} {tb : TS} (Pv : Nat → L2.St → Hp → Prop) (h0 : Pv 0 σ H)
    (hs : ∀ (i : Nat) σ H, i < n → Pv i σ H → g (.int ((b + i : Nat) : Int)) σ H fun σ2 H2 => tb ⟨Pv (i + 1), rt, nx, Pv (i + 1)⟩ σ2 H2) (hd : ∀ σ H, Pv n σ H → nx σ H) : ForR g tb ⟨nx, rt, bk, ct⟩ σ (Itr (b : Int) n) H :=
  for_range Pv h0 (fun i σ H hi p => by
    rw [show (b : Int) + (i : Int) = ((b + i : Nat) : Int) by omega]
    exact hs i σ H hi p) hd
theorem v_iP {ps : List P3} (h : PartsAt H a ps) (k : R (Itl K a) H) : IL K R (.ref a) H := by
  obtain ⟨ts, h1, _⟩ := h
  exact ⟨a, rfl, ⟨_, SqL.of h1⟩, k⟩
theorem v_lenP {ps : List P3} (h : PartsAt H p ps) (k : Q (.int ps.length) H) : rLenK K [.ref p] H Q := by
  obtain ⟨ts, h1, h2⟩ := h
  refine ⟨p, _, rfl, .inl (SqL.of h1), ?_⟩
  rw [List.length_map, h2.len]
  exact k
/-- what a walk over parts leans on stays -/
def KeepP (H H' : Hp) (a : Addr) : Prop := (∀ o, H a = some o → H' a = some o) ∧ ∀ b xs, H b = some (.tup xs) → H' b = some (.tup xs)
theorem KeepP.ex (e : Ex H H') : KeepP H H' a := ⟨fun o h => e _ _ h, fun b xs h => e _ _ h⟩
theorem fr_parts {ps : List P3} {g : TG} {tb : TS} (Pv : Nat → L2.St → Hp → Prop) {Hb : Hp} (h : PartsAt Hb a ps) (h0 : Pv 0 σ H) (hl : ∀ i σ H', i ≤ ps.length → Pv i σ H' → KeepP Hb H' a)
    (hs : ∀ i t c1 c2 c3 σ H', ps[i]? = some (c1, c2, c3) → H' t = some (.tup [.int (c1 : Int), .int (c2 : Int), .int (c3 : Int)]) → Pv i σ H' → g (.ref t) σ H' fun σ2 H2 => tb ⟨Pv (i + 1), rt, nx, Pv (i + 1)⟩ σ2 H2) (hd : ∀ σ H', Pv ps.length σ H' → nx σ H') :
    ForR g tb ⟨nx, rt, bk, ct⟩ σ (Itl K a) H := by
  obtain ⟨ts, h1, h2⟩ := h
  have e : (ts.map V.ref).length = ps.length := by rw [List.length_map, h2.len]
  refine fr_list (xs := ts.map V.ref) Pv h0 (fun i σ H' hi p => SqL.of ((hl i σ H' (by omega) p).1 _ h1)) (fun i x σ H' hi p => ?_) (by rw [e]; exact hd)
  obtain ⟨t, ht, rfl⟩ := map_back hi
  obtain ⟨⟨c1, c2, c3⟩, hc, hp⟩ := h2.left ht
  exact hs i t c1 c2 c3 σ H' hc ((hl i σ H' (by have := lt_of_get hc; omega) p).2 _ _ hp) p
def LcR (g : TG) (tt : TT) (te : TE) (vs : List Nat) (σ : L2.St) (Q : VK) (J : It) (H1 : Hp) : Prop := ∀ D, H1 D = none → ∃ W : Nat → Nat → Hp → Prop, (∃ m, W 0 m (upd H1 D (.lst []))) ∧ ∀ i m H, W i m H →
  (J.stop i H ∧ Q (.ref D) H) ∨ (J.go i H ∧ ∃ Nx : Hp → Prop, (∀ H', Nx H' → ∃ m', m' < m ∧ W (i + 1) m' H') ∧ ∀ x H', J.yld i H x H' → g x (wipe σ vs) H' fun σ2 H2 => wipe σ2 vs = wipe σ vs ∧ tt σ2 H2 fun b H3 =>
    if b = true then te σ2 H3 fun y H4 => ∃ acc, H4 D = some (.lst acc) ∧ acc.length < sizeLine ∧ Nx (upd H4 D (.lst (acc ++ [y]))) else Nx H3)
theorem s_lc {wi : TI} {g : TG} {tt : TT} {te : TE} {vs : List Nat} (h : wi σ H (LcR g tt te vs σ Q)) : tLc wi g tt te vs σ H Q := h
theorem v_iG {as : List Addr} {g : Grid} (h : GridAt H a as g) (k : R (Itl K a) H) : IL K R (.ref a) H := ⟨a, rfl, ⟨_, SqL.of h.top⟩, k⟩
theorem v_lenG {as : List Addr} {g : Grid} (h : GridAt H p as g) (k : Q (.int g.length) H) : rLenK K [.ref p] H Q := by
  refine ⟨p, _, rfl, .inl (SqL.of h.top), ?_⟩
  rw [List.length_map, h.row.len]
  exact k
/-- a list copied, item by item -/
theorem lc_copy {xs : List V} {j m : Nat} {vs : List Nat} (h : SqL K H a xs) (hn : xs.length ≤ 100000) (k : ∀ D H2, H D = none → Ex H H2 → H2 D = some (.lst xs) → Q (.ref D) H2)
    (hw : ∀ x, wipe ((wipe σ vs).set j (some x)) vs = wipe σ vs) (hv : ∀ x, ((wipe σ vs).set j (some x))[m]? = some (some x)) : LcR (gName j) tYes (tVar m) vs σ Q (Itl K a) H := by
  intro D hD
  refine lc_v (walk_list (K := K) (a := a) (xs := xs)) y_list hD (fun H2 e2 => sqL_ex h e2) hn (fun _ => true) (fun i => (xs[i]?).getD .non) hw lc_yes (fun i x H2 hi hx _ e2 Q2 q2 => ?_) fun H2 e2 h2 => ?_
  · refine ⟨x, hv x, ?_⟩
    have := q2 H2 (Evl.Ex.refl H2)
    rw [hx] at this
    exact this
  · refine k D H2 hD e2 ?_
    rw [h2, kept_all]
    have := range_map xs (fun x => x) V.non
    simp only [Option.map_id', List.map_id'] at this
    rw [this]
/-- a grid copied, row by row -/
theorem lc_grid {as : List Addr} {g : Grid} {j : Nat} {vs : List Nat} (G : GridAt H a as g) (hn : g.length ≤ 100000) (hw : ∀ x, wipe ((wipe σ vs).set j (some x)) vs = wipe σ vs)
    (he : ∀ b row H' (Q' : VK), row ∈ g → RowAt H' b row → (∀ l H2, H' l = none → Ex H' H2 → H2 l = some (.lst (row.map oV)) → Q' (.ref l) H2) → te ((wipe σ vs).set j (some (.ref b))) H' Q')
    (k : ∀ D as' H2, Ex H H2 → GridAt H2 D as' g → as'.Nodup → D ∉ as' → H D = none → (∀ b ∈ as', H b = none) → Q (.ref D) H2) : LcR (gName j) tYes te vs σ Q (Itl K a) H := by
  intro D hD
  have hasl : (as.map V.ref).length = g.length := by rw [List.length_map, G.row.len]
  refine lc_new (walk_list (K := K) (a := a) (xs := as.map V.ref)) y_list hD (fun H2 e2 => sqL_of G.top e2) (by rw [hasl]; omega) (fun _ => true) (fun i o => ∃ row, g[i]? = some row ∧ o = .lst (row.map oV)) hw lc_yes ?_ ?_
  · intro i x H2 hi hx _ e2 hD2 Q2 q3
    obtain ⟨b, hb, rfl⟩ := map_back hx
    obtain ⟨row, hrow, hr2⟩ := G.row.left hb
    exact he b row H2 Q2 (List.mem_of_getElem? hrow) (e2 _ _ hr2) fun l H3 n3 e3 h3 => q3 l H3 _ n3 e3 h3 ⟨row, hrow, rfl⟩
  · intro H3 as' e3 hD3 nd fr hall
    rw [kept_all, hasl] at hall
    have G3 : GridAt H3 D as' g := ⟨hD3, by
      refine ⟨by rw [← hall.len, List.length_range], fun i b row hb hr => ?_⟩
      obtain ⟨k, hk, o, ho, row2, hr2, eo⟩ := hall.right hb
      have hi := lt_of_get hk
      rw [List.length_range] at hi
      rw [List.getElem?_range hi] at hk
      cases hk
      rw [hr] at hr2
      cases hr2
      unfold RowAt
      rw [ho, eo]⟩
    exact k D as' H3 e3 G3 nd (fun m => (fr D m).2 rfl) hD fun b m => (fr b m).1
theorem v_iRow {row : List (Option Nat)} (h : RowAt H a row) (k : R (Itl K a) H) : IL K R (.ref a) H := ⟨a, rfl, ⟨_, SqL.of h⟩, k⟩
/- while -/
theorem s_while {c : TT} {tb : TS} (W : Nat → L2.St → Hp → Prop) (m0 : Nat) (h0 : W m0 σ H) (ht : ∀ m σ H, W m σ H → c σ H fun b H1 => if b = true then ∃ N : L2.St → Hp → Prop, (∀ σ' H', N σ' H' → ∃ m', m' < m ∧ W m' σ' H') ∧ tb ⟨N, rt, nx, N⟩ σ H1 else nx σ H1) : tWhile c tb ⟨nx, rt, bk, ct⟩ σ H := ⟨W, ⟨m0, h0⟩, ht⟩
theorem s_wbody {tb : TS} {m : Nat} {W : Nat → L2.St → Hp → Prop} (h : tb ⟨fun σ' H' => ∃ m', m' < m ∧ W m' σ' H', rt, nx, fun σ' H' => ∃ m', m' < m ∧ W m' σ' H'⟩ σ H) : ∃ N : L2.St → Hp → Prop, (∀ σ' H', N σ' H' → ∃ m', m' < m ∧ W m' σ' H') ∧ tb ⟨N, rt, nx, N⟩ σ H := ⟨_, fun _ _ z => z, h⟩
/- slices -/
theorem s_sl {r : V → Option Int → Option Int → Hp → VK → Prop} {tl th : TO} (h : te σ H fun x H1 => tl σ H1 fun l H2 => th σ H2 fun u H3 => r x l u H3 Q) : tSl r te tl th σ H Q := h
variable {O : Option Int → Hp → Prop}
theorem s_noPart (h : O none H) : tNoPart σ H O := h
def PtR (O : Option Int → Hp → Prop) (x : V) (H1 : Hp) : Prop := ∃ i, x = .int i ∧ O (some i) H1
theorem s_part (h : te σ H fun x H1 => PtR O x H1) : tPart te σ H O := h
theorem v_part (h : O (some i) H) : PtR O (.int i) H := ⟨i, rfl, h⟩
theorem v_slL {xs : List V} {lo hi : Option Int} (h : SqL K H p xs) (k : ∀ l H2, H l = none → Ex H H2 → H2 l = some (.lst (cutV xs lo hi)) → Q (.ref l) H2) : rSlL K (.ref p) lo hi H Q := ⟨p, xs, rfl, h, fun l hl => k l _ hl (Evl.Ex.new hl) upd_same⟩
theorem v_ixP0 {ps : List P3} (h : PartsAt H p ps) (n : ps ≠ []) (k : ∀ t, H t = some (.tup [.int (hdP ps).1, .int (hdP ps).2.1, .int (hdP ps).2.2]) → Q (.ref t) H) : rIxL K (.ref p) (.int 0) H Q := by
  obtain ⟨ts, h1, h2⟩ := h
  obtain ⟨t0, t1, a0, a1, g0, g1⟩ := parts_ends h1 h2 n
  exact ⟨p, _, 0, .ref t0, rfl, rfl, SqL.of h1, a0, k t0 g0⟩
theorem v_ixPl {ps : List P3} (h : PartsAt H p ps) (n : ps ≠ []) (k : ∀ t, H t = some (.tup [.int (ltP ps).1, .int (ltP ps).2.1, .int (ltP ps).2.2]) → Q (.ref t) H) : rIxL K (.ref p) (.int (-1)) H Q := by
  obtain ⟨ts, h1, h2⟩ := h
  obtain ⟨t0, t1, a0, a1, g0, g1⟩ := parts_ends h1 h2 n
  exact ⟨p, _, -1, .ref t1, rfl, rfl, SqL.of h1, a1, k t1 g1⟩
/- grids -/
theorem v_ixG {as : List Addr} {g : Grid} {m : Nat} (G : GridAt H p as g) (hs : m < g.length) (k : ∀ b row, as[m]? = some b → RowAt H b row → g[m]? = some row → row ∈ g → Q (.ref b) H) : rIxL K (.ref p) (.int (m : Int)) H Q := by
  have hr := List.getElem?_eq_getElem hs
  obtain ⟨b, hb, rb⟩ := G.row.right hr
  exact ⟨p, _, m, .ref b, rfl, rfl, SqL.of G.top, at_of rfl (map_get hb), k b _ hb rb hr (List.getElem_mem hs)⟩
theorem v_ixR {row : List (Option Nat)} {m : Nat} (h : RowAt H p row) (hs : m < row.length) (k : ∀ c, row[m]? = some c → Q (oV c) H) : rIxL K (.ref p) (.int (m : Int)) H Q := by
  have hr := List.getElem?_eq_getElem hs
  exact ⟨p, _, m, oV row[m], rfl, rfl, SqL.of h, at_of rfl (map_get hr), k _ hr⟩
/-- beside the rows all stays -/
def Beside (as : List Addr) (H H' : Hp) : Prop := ∀ a o, a ∉ as → H a = some o → H' a = some o
theorem Beside.refl (as : List Addr) (H : Hp) : Beside as H H := fun _ _ _ h => h
theorem Beside.trans {as : List Addr} {H1 H2 H3 : Hp} (e1 : Beside as H1 H2) (e2 : Beside as H2 H3) : Beside as H1 H3 := fun a o n h => e2 a o n (e1 a o n h)
theorem v_setG {r : Addr} {as : List Addr} {g : Grid} {m leg : Nat} {b : Addr} {row : List (Option Nat)} {h : Option Nat} {N : Hp → Prop} (G : GridAt H r as g) (nd : as.Nodup) (nr : r ∉ as) (hb : as[m]? = some b) (hr : g[m]? = some row) (hl : leg < row.length)
    (k : ∀ H2, Beside as H H2 → GridAt H2 r as (setCell g m leg h) → N H2) : rSetL (.ref b) (.int (leg : Int)) (oV h) H N := by
  have rb := G.row.at_ _ _ _ hb hr
  refine ⟨b, row.map oV, leg, leg, rfl, rfl, rb, by rw [List.length_map]; exact ixN_nat hl, ?_⟩
  rw [← List.map_set]
  refine k _ (fun a o na ha => ?_) (G.cell nd nr h hb hr)
  rw [upd_ne (fun z : a = b => na (z ▸ List.mem_of_getElem? hb))]
  exact ha
theorem set_same {σ : L2.St} {j : Nat} {v0 : Option V} (h : σ[j]? = some v0) : σ.set j v0 = σ := by
  apply List.ext_getElem?
  intro i
  rw [List.getElem?_set]
  by_cases e : j = i
  · subst e
    rw [if_pos rfl, if_pos (lt_of_get h), h]
  · rw [if_neg e]
/-- for leg in range(one[1], one[2]): grid[one[0]][leg] = h -/
theorem fr_paint {jl jr jo n c1 c2 c3 : Nat} {r o : Addr} {as : List Addr} {g : Grid} {h : Option Nat} {v0 : Option V} (h0 : σ[jl]? = some v0) (h1 : ∀ v, (σ.set jl v)[jr]? = some (some (.ref r))) (h2 : ∀ v, (σ.set jl v)[jo]? = some (some (.ref o)))
    (hl : ∀ v, (σ.set jl (some v))[jl]? = some (some v)) (hte : ∀ v H' Q', Q' (oV h) H' → te (σ.set jl v) H' Q') (ho : H o = some (.tup [.int (c1 : Int), .int (c2 : Int), .int (c3 : Int)])) (G : GridAt H r as g) (nd : as.Nodup) (nr : r ∉ as)
    (hrow : ∀ row ∈ g, row.length = n) (hc1 : c1 < g.length) (hc3 : c3 ≤ n) (k : ∀ v H2, Beside as H H2 → GridAt H2 r as (markPart g h (c1, c2, c3)) → nx (σ.set jl v) H2) :
    ForR (gName jl) (tAsg te (gSub (tOp (rIxL K) (tVar jr) (tOp (rIxT K) (tVar jo) (tC (.int 0)))) (tVar jl) rSetL)) ⟨nx, rt, bk, ct⟩ σ (Itr (c2 : Int) (c3 - c2)) H := by
  have noas : o ∉ as := nas_tup G ho
  refine fr_range2 (fun j σ' H2 => ∃ v, σ' = σ.set jl v ∧ Beside as H H2 ∧ GridAt H2 r as ((List.range' c2 j).foldl (fun g leg => setCell g c1 leg h) g)) ⟨v0, (set_same h0).symm, Beside.refl _ _, G⟩ ?_ ?_
  · rintro j σ' H2 hj ⟨v, rfl, b2, G2⟩
    have e0 : (σ.set jl v).set jl (some (V.int ((c2 + j : Nat) : Int))) = σ.set jl (some (V.int ((c2 + j : Nat) : Int))) := List.set_set _
    show tAsg te _ _ ((σ.set jl v).set jl (some (V.int ((c2 + j : Nat) : Int)))) H2
    rw [e0]
    refine hte _ _ _ ?_
    have hln : ((List.range' c2 j).foldl (fun g leg => setCell g c1 leg h) g).length = g.length := foldl_len c1 h (List.range' c2 j) g
    have hrows : ∀ row ∈ ((List.range' c2 j).foldl (fun g leg => setCell g c1 leg h) g), row.length = n := by
      have key : ∀ (ls : List Nat) (g : Grid), (∀ row ∈ g, row.length = n) → ∀ row ∈ ls.foldl (fun g leg => setCell g c1 leg h) g, row.length = n := by
        intro ls
        induction ls with
        | nil => exact fun g h => h
        | cons y r ih => exact fun g h => ih _ (setCell_row h)
      exact key _ _ hrow
    refine s_gSub (s_op (s_var (h1 _) (s_op (s_var (h2 _) (s_c (p_ix0 (b2 _ _ noas ho) ?_))))))
    refine v_ixG G2 (by rw [hln]; exact hc1) fun b row hb rb hr mr => ?_
    refine s_var (hl _) ?_
    refine v_setG G2 nd nr hb hr (by rw [hrows _ mr]; omega) fun H3 b3 G3 => ?_
    refine ⟨_, rfl, b2.trans b3, ?_⟩
    have e1 : List.range' c2 (j + 1) = List.range' c2 j ++ [c2 + j] := List.range'_1_concat
    rw [e1, List.foldl_append]
    exact G3
  · rintro σ' H2 ⟨v, rfl, b2, G2⟩
    exact k v H2 b2 G2
/-- the same, each leg looked at first -/
theorem fr_paintC {jl jr jo n c1 c2 c3 : Nat} {r o : Addr} {as : List Addr} {g : Grid} {t : Nat} {v0 : Option V} {Z : TS} (h0 : σ[jl]? = some v0) (h1 : ∀ v, (σ.set jl v)[jr]? = some (some (.ref r))) (h2 : ∀ v, (σ.set jl v)[jo]? = some (some (.ref o)))
    (hl : ∀ v, (σ.set jl (some v))[jl]? = some (some v)) (hte : ∀ v H' Q', Beside as H H' → Q' (oV (some t)) H' → te (σ.set jl v) H' Q') (ho : H o = some (.tup [.int (c1 : Int), .int (c2 : Int), .int (c3 : Int)])) (G : GridAt H r as g) (nd : as.Nodup) (nr : r ∉ as)
    (hrow : ∀ row ∈ g, row.length = n) (hc1 : c1 < g.length) (hc3 : c3 ≤ n) (hfree : ∀ l, c2 ≤ l → l < c3 → cellOf g c1 l = none) (k : ∀ v H2, Beside as H H2 → GridAt H2 r as (markPart g (some t) (c1, c2, c3)) → nx (σ.set jl v) H2) :
    ForR (gName jl) (tSeq (tIfS (tTest (tOp rNotN (tOp (rIxL K) (tOp (rIxL K) (tVar jr) (tOp (rIxT K) (tVar jo) (tC (.int 0)))) (tVar jl)) (tC .non))) Z tNext) (tAsg te (gSub (tOp (rIxL K) (tVar jr) (tOp (rIxT K) (tVar jo) (tC (.int 0)))) (tVar jl) rSetL))) ⟨nx, rt, bk, ct⟩ σ (Itr (c2 : Int) (c3 - c2)) H := by
  have noas : o ∉ as := nas_tup G ho
  refine fr_range2 (fun j σ' H2 => ∃ v, σ' = σ.set jl v ∧ Beside as H H2 ∧ GridAt H2 r as ((List.range' c2 j).foldl (fun g leg => setCell g c1 leg (some t)) g)) ⟨v0, (set_same h0).symm, Beside.refl _ _, G⟩ ?_ ?_
  · rintro j σ' H2 hj ⟨v, rfl, b2, G2⟩
    have e0 : (σ.set jl v).set jl (some (V.int ((c2 + j : Nat) : Int))) = σ.set jl (some (V.int ((c2 + j : Nat) : Int))) := List.set_set _
    show tSeq _ _ _ ((σ.set jl v).set jl (some (V.int ((c2 + j : Nat) : Int)))) H2
    rw [e0]
    have hln : ((List.range' c2 j).foldl (fun g leg => setCell g c1 leg (some t)) g).length = g.length := foldl_len c1 (some t) (List.range' c2 j) g
    have hrows : ∀ row ∈ ((List.range' c2 j).foldl (fun g leg => setCell g c1 leg (some t)) g), row.length = n := by
      have key : ∀ (ls : List Nat) (g : Grid), (∀ row ∈ g, row.length = n) → ∀ row ∈ ls.foldl (fun g leg => setCell g c1 leg (some t)) g, row.length = n := by
        intro ls
        induction ls with
        | nil => exact fun g h => h
        | cons y r ih => exact fun g h => ih _ (setCell_row h)
      exact key _ _ hrow
    refine s_seq (s_if (s_tTest (s_op (s_op (s_op (s_var (h1 _) (s_op (s_var (h2 _) (s_c (p_ix0 (b2 _ _ noas ho) ?_))))))))))
    refine v_ixG G2 (by rw [hln]; exact hc1) fun b row hb rb hr mr => ?_
    refine s_var (hl _) ?_
    refine v_ixR rb (by rw [hrows _ mr]; omega) fun c hc => ?_
    have hcell := cell_is hr hc
    rw [foldl_cell _ g hrow hc1 (fun x m => by have := List.mem_range'_1.mp m; omega), if_neg (fun z => by have := List.mem_range'_1.mp z.2; omega), hfree _ (by omega) (by omega)] at hcell
    subst hcell
    refine s_c (v_notO (s_bl (iteF (s_next (s_asg (hte _ _ _ b2 ?_))))))
    refine s_gSub (s_op (s_var (h1 _) (s_op (s_var (h2 _) (s_c (p_ix0 (b2 _ _ noas ho) ?_))))))
    refine v_ixG G2 (by rw [hln]; exact hc1) fun b row hb rb hr mr => ?_
    refine s_var (hl _) ?_
    refine v_setG G2 nd nr hb hr (by rw [hrows _ mr]; omega) fun H3 b3 G3 => ?_
    refine ⟨_, rfl, b2.trans b3, ?_⟩
    have e1 : List.range' c2 (j + 1) = List.range' c2 j ++ [c2 + j] := List.range'_1_concat
    rw [e1, List.foldl_append]
    exact G3
  · rintro σ' H2 ⟨v, rfl, b2, G2⟩
    exact k v H2 b2 G2
/-- for one in parts: for leg in range(one[1], one[2]): grid[one[0]][leg] = h -/
theorem fr_paintAll {jl jr jo n : Nat} {r : Addr} {as : List Addr} {g : Grid} {h : Option Nat} {ps : List P3} {v0 w0 : Option V} (hjl : σ[jl]? = some v0) (hjo : σ[jo]? = some w0) (hne : jl ≠ jo) (h1 : ∀ v w, ((σ.set jo w).set jl v)[jr]? = some (some (.ref r)))
    (hte : ∀ v w H' Q', Q' (oV h) H' → te ((σ.set jo w).set jl v) H' Q') (hp : PartsAt H a ps) (na : a ∉ as) (G : GridAt H r as g) (nd : as.Nodup) (nr : r ∉ as)
    (hrow : ∀ row ∈ g, row.length = n) (hn : n ≤ 1000000) (hv : ∀ q ∈ ps, q.1 < g.length ∧ q.2.2 ≤ n ∧ q.2.1 < q.2.2) (k : ∀ v w H2, Beside as H H2 → GridAt H2 r as (markAll g ps h) → nx ((σ.set jo w).set jl v) H2) :
    ForR (gName jo) (tFor (iRng2 (tCons (tOp (rIxT K) (tVar jo) (tC (.int 1))) (tCons (tOp (rIxT K) (tVar jo) (tC (.int 2))) tNil))) (gName jl) (tAsg te (gSub (tOp (rIxL K) (tVar jr) (tOp (rIxT K) (tVar jo) (tC (.int 0)))) (tVar jl) rSetL))) ⟨nx, rt, bk, ct⟩ σ (Itl K a) H := by
  have ljl := lt_of_get hjl
  have ljo := lt_of_get hjo
  have kp : ∀ H2, Beside as H H2 → KeepP H H2 a := fun H2 b => ⟨fun o z => b _ _ na z, fun c xs z => b _ _ (nas_tup G z) z⟩
  refine fr_parts (fun i σ' H2 => ∃ v w, σ' = (σ.set jo w).set jl v ∧ Beside as H H2 ∧ GridAt H2 r as (markAll g (ps.take i) h)) hp
    ⟨v0, w0, by rw [set_same hjo, set_same hjl], Beside.refl _ _, G⟩ (fun i σ' H2 _ ⟨_, _, _, b, _⟩ => kp H2 b) ?_ ?_
  · rintro i t c1 c2 c3 σ' H2 hi ht ⟨v, w, rfl, b2, G2⟩
    have e0 : ((σ.set jo w).set jl v).set jo (some (V.ref t)) = (σ.set jo (some (V.ref t))).set jl v := by
      rw [List.set_comm _ _ hne, List.set_set]
    show tFor _ _ _ _ (((σ.set jo w).set jl v).set jo (some (V.ref t))) H2
    rw [e0]
    have hval := hv _ (List.mem_of_getElem? hi)
    dsimp only at hval
    have g1 : ((σ.set jo (some (V.ref t))).set jl v)[jo]? = some (some (.ref t)) := by
      rw [List.getElem?_set_ne hne, List.getElem?_set, if_pos rfl, if_pos ljo]
    have htake : ps.take (i + 1) = ps.take i ++ [(c1, c2, c3)] := by
      have hl3 := lt_of_get hi
      rw [List.take_succ_eq_append_getElem hl3]
      rw [List.getElem?_eq_getElem hl3] at hi
      rw [Option.some.inj hi]
    refine s_for (s_iR2 (s_cons (s_op (s_var g1 (s_c (v_ixT ht rfl (s_cons (s_op (s_var g1 (s_c (v_ixT ht rfl (s_nil (v_iR2 (by omega) (by omega) ?_)))))))))))))
    refine fr_paint (jr := jr) (n := n) (v0 := v) (by rw [List.getElem?_set, if_pos rfl, if_pos (by rw [List.length_set]; exact ljl)]) (fun v => by rw [List.set_set]; exact h1 _ _) (fun v => by rw [List.set_set, List.getElem?_set_ne hne, List.getElem?_set, if_pos rfl, if_pos ljo])
      (fun v => by rw [List.set_set, List.getElem?_set, if_pos rfl, if_pos (by rw [List.length_set]; exact ljl)]) (fun v H' Q' z => by rw [List.set_set]; exact hte _ _ _ _ z) ht G2 nd nr (markAll_row _ _ _ hrow) (by rw [markAll_len]; exact hval.1) hval.2.1 fun v2 H3 b3 G3 => ?_
    refine ⟨v2, _, List.set_set _, b2.trans b3, ?_⟩
    rw [htake]
    have e2 : markAll g (ps.take i ++ [(c1, c2, c3)]) h = markPart (markAll g (ps.take i) h) h (c1, c2, c3) := by
      unfold markAll
      rw [List.foldl_append]
      rfl
    rw [e2]
    exact G3
  · rintro σ' H2 ⟨v, w, rfl, b2, G2⟩
    rw [List.take_length] at G2
    exact k v w H2 b2 G2
/- what stands, at a later heap -/
theorem e_at {o : HO} (e : Ex H H') (h : H a = some o) : H' a = some o := e _ _ h
theorem e_sq {xs : List V} (h : H a = some (.lst xs)) : SqL K H a xs := SqL.of h
theorem e_sqL {xs : List V} (e : Ex H H') (h : SqL K H a xs) : SqL K H' a xs := sqL_ex h e
theorem e_tr {S : Addr → Prop} {T : Tr} (e : Ex H H') (h : TrainAt K H S p T) : TrainAt K H' S p T := h.ex e
theorem e_play {H0 : Hp} {S : Addr → Prop} {T : Tr} (h : Play K H0 H p T S) : TrainAt K H S p T := h.tr
theorem e_playE {H0 : Hp} {S : Addr → Prop} {T : Tr} (e : Ex H H') (h : Play K H0 H p T S) : Play K H0 H' p T S := h.more e
theorem e_grid {as : List Addr} {g : Grid} (e : Ex H H') (h : GridAt H a as g) : GridAt H' a as g := h.mono e
theorem e_parts {ps : List P3} (e : Ex H H') (h : PartsAt H a ps) : PartsAt H' a ps := h.mono e
theorem e_world {S : Addr → Prop} {T : Tr} (e : Ex H H') (h : WorldAt H S a T) : WorldAt H' S a T := h.ex e
theorem e_row {row : List (Option Nat)} (e : Ex H H') (h : RowAt H a row) : RowAt H' a row := e _ _ h
theorem e_deed {d : Deed} (e : Ex H H') (h : DeedAt H a d) : DeedAt H' a d := e _ _ h
theorem e_mvT {S S' : Addr → Prop} {xs : List V} (m : Mv H H' S S') (h : H a = some (.tup xs)) : H' a = some (.tup xs) := m.tups _ _ h
theorem e_mvD {S S' : Addr → Prop} {d : Deed} (m : Mv H H' S S') (h : DeedAt H a d) : DeedAt H' a d := m.tups _ _ h
theorem e_mv {S S' : Addr → Prop} {o : HO} (m : Mv H H' S S') (n : ¬ S a) (h : H a = some o) : H' a = some o := m.keep _ _ n h
theorem e_mvG {S S' : Addr → Prop} {as : List Addr} {g : Grid} (m : Mv H H' S S') (n : ¬ S a) (na : ∀ b ∈ as, ¬ S b) (h : GridAt H a as g) : GridAt H' a as g := ⟨m.keep _ _ n h.top, h.row.monoM fun b row mb _ z => m.keep _ _ (na b mb) z⟩
theorem e_mvP {S S' : Addr → Prop} {ps : List P3} (m : Mv H H' S S') (n : ¬ S a) (h : PartsAt H a ps) : PartsAt H' a ps := parts_at h (fun o z => m.keep _ _ n z) m.tups
theorem ch_parts {ps : List P3} (c : Ch H H' l) (n : a ≠ l) (h : PartsAt H a ps) : PartsAt H' a ps := parts_at h (fun o z => c.keep _ _ n z) fun b xs z => ch_tup c z
theorem Play.offN {H0 : Hp} {S : Addr → Prop} {T : Tr} (P : Play K H0 H p T S) (h : H a = none) : ¬ S a := fun z => by
  obtain ⟨o, ho⟩ := P.live a z
  rw [h] at ho
  cases ho
theorem e_bsT {as : List Addr} {g : Grid} {r : Addr} {xs : List V} (b : Beside as H H') (G : GridAt H r as g) (h : H a = some (.tup xs)) : H' a = some (.tup xs) := b _ _ (nas_tup G h) h
theorem e_bs {as : List Addr} {o : HO} (b : Beside as H H') (n : a ∉ as) (h : H a = some o) : H' a = some o := b _ _ n h
theorem e_bsP {as : List Addr} {g : Grid} {r : Addr} {ps : List P3} (b : Beside as H H') (G : GridAt H r as g) (n : a ∉ as) (h : PartsAt H a ps) : PartsAt H' a ps := parts_at h (fun o z => b _ _ n z) fun c xs z => b _ _ (nas_tup G z) z
theorem Beside.ex {H0 : Hp} {as : List Addr} (b : Beside as H H') (e : Ex H0 H) (n : ∀ x ∈ as, H0 x = none) : Ex H0 H' := fun c o h => b c o (fun m => by rw [n c m] at h; cases h) (e c o h)
theorem Play.bs {H0 : Hp} {S : Addr → Prop} {T : Tr} {as : List Addr} (P : Play K H0 H p T S) (b : Beside as H H') (n : ∀ x ∈ as, H0 x = none) (off : ∀ x ∈ as, ¬ S x) (kt : ∀ c xs, H c = some (.tup xs) → H' c = some (.tup xs)) : Play K H0 H' p T S :=
  ⟨b.ex P.ex n, P.tr.mono (fun c o s h => b c o (fun m => off c m s) h) kt, P.good, P.fresh, fun c s => by
    obtain ⟨o, ho⟩ := P.live c s
    exact ⟨o, b c o (fun m => off c m s) ho⟩⟩
theorem parts_old {as : List Addr} {ps : List P3} (h : PartsAt H a ps) (n : ∀ b ∈ as, H b = none) : a ∉ as := fun m => by
  obtain ⟨ts, h1, _⟩ := h
  rw [n a m] at h1
  cases h1
theorem at_old {as : List Addr} {o : HO} (h : H a = some o) (n : ∀ b ∈ as, H b = none) : a ∉ as := fun m => by
  rw [n a m] at h
  cases h
theorem e_chD {d : Deed} (c : Ch H H' l) (h : DeedAt H a d) : DeedAt H' a d := ch_tup c h
/- a cut -/
theorem join {G : Prop} {R : L2.St → Hp → Prop} (Mid : L2.St → Hp → Prop) (h1 : (∀ σ' H', Mid σ' H' → R σ' H') → G) (h2 : ∀ σ' H', Mid σ' H' → R σ' H') : G := h1 h2
theorem s_cut {t u : TS} (Mid : L2.St → Hp → Prop) (h1 : t ⟨Mid, rt, bk, ct⟩ σ H) (h2 : ∀ σ' H', Mid σ' H' → u ⟨nx, rt, bk, ct⟩ σ' H') : Evl.tCut t u ⟨nx, rt, bk, ct⟩ σ H := ⟨Mid, h1, h2⟩
theorem iteEq {α : Type} {x : α} {_ : Decidable (x = x)} {A B : Prop} (h : A) : if decide (x = x) = true then A else B := by
  rw [if_pos (decide_eq_true rfl)]
  exact h
theorem iteEqN {α : Type} {x : α} {_ : Decidable (x = x)} {A B : Prop} (h : B) : if (!decide (x = x)) = true then A else B := by
  rw [if_neg (by rw [decide_eq_true rfl]; decide)]
  exact h
theorem iteLit {s t : Str} {_ : Decidable (s = t)} {A B : Prop} (n : s ≠ t) (h : B) : if decide (s = t) = true then A else B := by
  rw [if_neg (by rw [decide_eq_false n]; decide)]
  exact h
theorem iteLitN {s t : Str} {_ : Decidable (s = t)} {A B : Prop} (n : s ≠ t) (h : A) : if (!decide (s = t)) = true then A else B := by
  rw [if_pos (by rw [decide_eq_false n]; decide)]
  exact h
theorem iteDno {p : Prop} {_ : Decidable p} {A B : Prop} (n : ¬ p) (h : B) : if decide p = true then A else B := by
  rw [if_neg (by rw [decide_eq_false n]; decide)]
  exact h
theorem iteDyes {p : Prop} {_ : Decidable p} {A B : Prop} (n : p) (h : A) : if decide p = true then A else B := by
  rw [if_pos (decide_eq_true n)]
  exact h
theorem iteNno {p : Prop} {_ : Decidable p} {A B : Prop} (n : ¬ p) (h : A) : if (!decide p) = true then A else B := by
  rw [if_pos (by rw [decide_eq_false n]; decide)]
  exact h
theorem iteNyes {p : Prop} {_ : Decidable p} {A B : Prop} (n : p) (h : B) : if (!decide p) = true then A else B := by
  rw [if_neg (by rw [decide_eq_true n]; decide)]
  exact h
theorem iteNone1 {A B : Prop} (h : A) : if (none : Option Nat).isNone = true then A else B := iteT (A := A) (B := B) h
theorem iteNone2 {t : Nat} {A B : Prop} (h : B) : if (some t : Option Nat).isNone = true then A else B := iteF (A := A) (B := B) h
theorem iteSome1 {t : Nat} {A B : Prop} (h : A) : if (some t : Option Nat).isSome = true then A else B := iteT (A := A) (B := B) h
theorem iteSome2 {A B : Prop} (h : B) : if (none : Option Nat).isSome = true then A else B := iteF (A := A) (B := B) h
theorem iteNT {A B : Prop} (h : B) : if (!true) = true then A else B := by
  rw [if_neg (by decide)]
  exact h
theorem iteNF {A B : Prop} (h : A) : if (!false) = true then A else B := by
  rw [if_pos (by decide)]
  exact h
theorem ne_ints {ns : List Int} {xs : List V} (h : H a = some (.lst (ns.map V.int))) (h2 : H p = some (.lst (.ref q :: xs))) : p ≠ a := fun z => by
  rw [z, h] at h2
  have e := HO.lst.inj (Option.some.inj h2)
  cases ns with
  | nil => cases e
  | cons n r => cases e
theorem iteI {i j : Int} {A B : Prop} (h1 : i = j → A) (h2 : i ≠ j → B) : if decide (i = j) = true then A else B := iteD h1 h2
theorem map_cut (ns : List Int) (lo hi : Option Int) : ∃ ms : List Int, cutV (ns.map V.int) lo hi = ms.map V.int ∧ ms.length ≤ ns.length := by
  refine ⟨(ns.drop (HT.sIx (ns.map V.int).length 0 lo)).take (HT.sIx (ns.map V.int).length (ns.map V.int).length hi - HT.sIx (ns.map V.int).length 0 lo), ?_, ?_⟩
  · unfold cutV
    rw [List.map_take, List.map_drop]
  · rw [List.length_take, List.length_drop]
    omega
theorem v_slI {zs : List Int} {lo hi : Option Int} (h : H p = some (.lst (zs.map V.int))) (k : ∀ l H2 (ms : List Int), H l = none → Ex H H2 → H2 l = some (.lst (ms.map V.int)) → ms.length ≤ zs.length → Q (.ref l) H2) : rSlL K (.ref p) lo hi H Q := by
  obtain ⟨ms, e, z⟩ := map_cut zs lo hi
  exact ⟨p, _, rfl, SqL.of h, fun l hl => k l _ ms hl (Evl.Ex.new hl) (by rw [upd_same, e]) z⟩
theorem v_ixI {zs : List Int} {v : Nat} (h : H p = some (.lst (zs.map V.int))) (hv : v < zs.length) (k : ∀ z, z ∈ zs → Q (.int z) H) : rIxL K (.ref p) (.int (v : Int)) H Q :=
  ⟨p, _, v, .int zs[v], rfl, rfl, SqL.of h, at_of rfl (map_get (List.getElem?_eq_getElem hv)), k _ (List.getElem_mem hv)⟩
/- calls -/
variable {E : XK} {S : Addr → Prop} {T : Tr}
theorem c_size (h : TrainAt K H S p T) (k : ∀ t H2, H t = none → Ex H H2 → H2 t = some (.tup [.int T.rows.length, .int T.stops]) → Q (.ref t) H2) : spSize K [.ref p] H Q E := ⟨S, p, T, rfl, h, fun t ht => k t _ ht (Evl.Ex.new ht) upd_same⟩
theorem keys_V (T : Tr) : (T.sold.map fun x => V.int (x.1 : Int)) = (keys T).map V.int := by
  unfold keys
  rw [List.map_map]
  rfl
theorem c_tickets (h : TrainAt K H S p T) (k : ∀ t H2, H t = none → Ex H H2 → H2 t = some (.lst ((keys T).map V.int)) → Q (.ref t) H2) : spTickets K [.ref p] H Q E := ⟨S, p, T, rfl, h, fun t ht => k t _ ht (Evl.Ex.new ht) (by rw [upd_same, keys_V])⟩
theorem c_mixed {c k m : Int} (hm : 0 < m) (n : ∀ (v : Nat) H2, (v : Int) < m → Ex H H2 → Q (.int v) H2) : spMixed [.int c, .int k, .int m] H Q E := ⟨c, k, m, rfl, hm, n⟩
theorem c_cellAt {ns : List Int} (h : SqL K H a (ns.map V.int)) (hi : 0 ≤ i) (n : Q (.int (cellAt ns i.toNat)) H) : spCellAt K [.ref a, .int i] H Q E := ⟨a, ns, i.toNat, by rw [Int.toNat_of_nonneg hi], h, n⟩
theorem c_seats {c : Int} (n : ∀ n : Nat, 1 ≤ n → n ≤ 60 → Q (.int n) H) : spSeats [.int c] H Q E := ⟨c, rfl, n⟩
theorem c_stops {c : Int} (n : ∀ n : Nat, 2 ≤ n → n ≤ 60 → Q (.int n) H) : spStops [.int c] H Q E := ⟨c, rfl, n⟩
theorem c_wholeI (n : Q (.bl true) H) : spWhole [.int i] H Q E := ⟨_, rfl, .inr (.inr (.inl ⟨_, rfl⟩)), n⟩
theorem c_wholeN (n : Q (.bl false) H) : spWhole [.non] H Q E := ⟨_, rfl, .inl rfl, n⟩
theorem c_numbers {ns ms : List Int} (h : H p = some (.lst (ns.map V.int))) (h2 : H q = some (.lst (ms.map V.int))) (z : ns.length ≤ 1000000) (z2 : ms.length ≤ 1000000) (k : Q (.bl (decide (ns = ms))) H) : spNumbers K [.ref p, .ref q] H Q E := ⟨p, q, ns, ms, rfl, h, h2, z, z2, k⟩
theorem c_rows {ps qs : List P3} (h : PartsAt H p ps) (h2 : PartsAt H q qs) (z : ps.length ≤ 1000) (z2 : qs.length ≤ 1000) (k : ∀ H2, Ex H H2 → Q (.bl (decide (ps = qs))) H2) : spRowsEq K [.ref p, .ref q] H Q E :=
  ⟨p, q, ps.map p3I, qs.map p3I, rfl, h.tups, h2.tups, by rw [List.length_map]; omega, by rw [List.length_map]; omega, fun x m => by
    obtain ⟨y, _, rfl⟩ := List.mem_map.mp m
    show 3 ≤ 100
    decide, fun H2 e => by
    rw [show decide (ps.map p3I = qs.map p3I) = decide (ps = qs) from decide_eq_decide.mpr p3s_inj]
    exact k H2 e⟩
theorem c_grid (h : TrainAt K H S p T) (g : Good T) (few : T.coming < 90000) {n1 n2 : Int} (e1 : n1 = T.rows.length) (e2 : n2 = T.stops) (k : ∀ H2 r as, Ex H H2 → GridAt H2 r as T.rows → as.Nodup → r ∉ as → H r = none → (∀ a ∈ as, H a = none) → Q (.ref r) H2) : spGrid K [.ref p, .int n1, .int n2] H Q E :=
  ⟨S, p, T, by rw [e1, e2], h, g, few, k⟩
theorem c_parts {t : Int} (h : TrainAt K H S p T) {ps : List P3} (g : getS T.sold t = some ps) (k : ∀ l H2, H l = none → Ex H H2 → PartsAt H2 l ps → Q (.ref l) H2) : spParts K [.ref p, .int t] H Q E :=
  ⟨S, p, T, t, rfl, h, fun ps' h' H2 l e n P => by
    rw [g] at h'
    cases h'
    exact k l H2 n e P, fun z => by rw [g] at z; cases z⟩
theorem c_holder {s l : Int} (h : TrainAt K H S p T) (hs : 0 ≤ s ∧ s < T.rows.length) (hl : 0 ≤ l ∧ l < (T.stops : Int) - 1) (k : Q (oV (cellOf T.rows s.toNat l.toNat)) H) : spHolder K [.ref p, .int s, .int l] H Q E :=
  ⟨S, p, T, s, l, rfl, h, fun row c h1 h2 => by
    rw [← cell_is h1.2 h2.2]
    exact k, fun z => absurd hs z, fun _ z => absurd hl z⟩
end
end Lg

namespace Lg
open PySem PySem.Spec PyProof.Rows L2
/-! ### the greedy way is the shortest -/
theorem cell_free {g : Grid} {n s l : Nat} (hg : ∀ row ∈ g, row.length = n) (hs : s < g.length) (hl : l < n) (h : cellOf g s l = none) : (g[s]'hs)[l]? = some none := by
  have hlen := hg _ (List.getElem_mem hs)
  have e := List.getElem?_eq_getElem (l := g[s]) (i := l) (by omega)
  rw [e]
  have := cell_is (List.getElem?_eq_getElem hs) e
  rw [h] at this
  exact congrArg some this.symm
theorem best_most {g : Grid} {s e : Nat} {row : List (Option Nat)} (m : row ∈ g) : min (reach row s) e ≤ (bestSeat g s e).2 := (bestFrom_spec s e g 0 0 s).1 row m
theorem found_short {g : Grid} {n e k : Nat} (hg : ∀ row ∈ g, row.length = n) (he : e ≤ n) : ∀ (ps : List P3) (s s' : Nat), s ≤ s' → Way k s e ps → k ≤ g.length → (∀ q ∈ ps, ∀ l, q.2.1 ≤ l → l < q.2.2 → cellOf g q.1 l = none) → (found g s' e).length ≤ ps.length
  | [], s, s', hs, w, _, _ => by
    have w : s = e := w
    rw [found_stop (by omega)]
    exact Nat.le_refl _
  | q :: r, s, s', hs, w, hk, hf => by
    obtain ⟨w1, w2, w3, _, w5⟩ := w
    by_cases h1 : s' < e
    · by_cases h2 : (bestSeat g s' e).2 = s'
      · rw [found_none h2]
        exact Nat.zero_le _
      · rw [found_on h1 h2, List.length_cons, List.length_cons]
        refine Nat.succ_le_succ (found_short hg he r q.2.2 _ ?_ w5 hk fun p m => hf p (List.mem_cons_of_mem _ m))
        have hm := w5.le
        by_cases h3 : s' ≤ q.2.2
        · have hq : q.1 < g.length := by omega
          have h4 := reach_far (row := g[q.1]) (q.2.2 - s') s' q.2.2 (Nat.le_refl _) h3 fun l l1 l2 => cell_free hg hq (by omega) (hf q List.mem_cons_self l (by omega) l2)
          have h5 := best_most (s := s') (e := e) (List.getElem_mem hq)
          omega
        · have := best_ge g s' e
          omega
    · rw [found_stop h1]
      exact Nat.zero_le _
theorem cells_off {g : Grid} {ps : List P3} {n : Nat} (hg : ∀ row ∈ g, row.length = n) (hv : ∀ q ∈ ps, q.1 < g.length ∧ q.2.2 ≤ n) {s l : Nat} (h : covers ps s l) : cellOf (markAll g ps none) s l = none := by
  rw [markAll_cell ps g hg hv, if_pos h]
theorem newP_short {T : Tr} (w : T.Wf) {b e : Nat} {ps : List P3} (p : Way T.rows.length b e ps) (hb : b < e) (he : e ≤ T.stops - 1) : (newP T ps).length ≤ ps.length := by
  rw [(newP_way w p hb he).1]
  refine found_short (k := T.rows.length) (markAll_row none ps _ w.legs) he ps b b (Nat.le_refl _) p (by rw [markAll_len]; exact Nat.le_refl _) fun q m l l1 l2 => ?_
  exact cells_off w.legs (fun q m => ⟨(p.mem q m).1, by have := (p.mem q m).2.2.2; omega⟩) ⟨q, m, rfl, l1, l2⟩
theorem newP_again {T : Tr} (w : T.Wf) {t b e : Nat} {ps : List P3} (p : Way T.rows.length b e ps) (hb : b < e) (he : e ≤ T.stops - 1) : newP (T.reseat t ps) (newP T ps) = newP T ps := by
  obtain ⟨e1, wn, fr⟩ := newP_way w p hb he
  have vn := wn.valid he
  have hr := markAll_row none ps _ w.legs
  have hl0 : (markAll T.rows ps none).length = T.rows.length := markAll_len _ _ _
  have hv : ∀ q ∈ newP T ps, q.1 < (markAll T.rows ps none).length ∧ q.2.2 ≤ T.stops - 1 := fun q m => ⟨by rw [hl0]; exact (vn q m).1, (vn q m).2.2⟩
  have hl1 : (T.reseat t ps).rows.length = T.rows.length := by
    show (markAll (markAll _ _ _) _ _).length = _
    rw [markAll_len, markAll_len]
  have hrT : ∀ row ∈ (T.reseat t ps).rows, row.length = T.stops - 1 := markAll_row _ _ _ hr
  have eg : markAll (T.reseat t ps).rows (newP T ps) none = markAll T.rows ps none := by
    refine grid_ext (n := T.stops - 1) (by rw [markAll_len, hl1, hl0]) (markAll_row _ _ _ hrT) hr fun s l hs hl => ?_
    rw [markAll_cell _ _ hrT (fun q m => by rw [hl1]; exact ⟨(vn q m).1, (vn q m).2.2⟩)]
    by_cases c : covers (newP T ps) s l
    · rw [if_pos c]
      obtain ⟨q, m, rfl, c1, c2⟩ := c
      exact (fr q m l c1 c2).symm
    · rw [if_neg c]
      show cellOf (markAll (markAll T.rows ps none) (newP T ps) (some t)) s l = _
      rw [markAll_cell _ _ hr hv, if_neg c]
  have h1 : newP (T.reseat t ps) (newP T ps) = found (markAll (T.reseat t ps).rows (newP T ps) none) (hdP (newP T ps)).2.1 (ltP (newP T ps)).2.2 := rfl
  rw [h1, eg, (wn.hd hb).1, (wn.hd hb).2, ← e1]
/-! ### k10 -/
def spTurn10 (K : PySem.W.Frag) : Sp := fun vs H Q _ => ∃ (H0 : Hp) (S : Addr → Prop) (p so ts : Addr) (T : Tr) (t : Int), vs = [.ref p, .ref so, .int t, .ref ts] ∧ Play K H0 H p T S ∧ T.coming < 80000 ∧ H so = some (.lst ((keys T).map V.int)) ∧ ¬ S so ∧ H ts = some (.tup [.int T.rows.length, .int T.stops]) ∧
  ∀ H' S' T', Play K H0 H' p T' S' → T'.coming = T.coming → T'.stops = T.stops → T'.rows.length = T.rows.length → keys T' = keys T → (∀ c o, ¬ S c → H c = some o → H' c = some o ∧ ¬ S' c) → Q (.bl true) H'
theorem run_reseat_no {T : Tr} {t b : Int} (h : getS T.sold t = none) : T.run ⟨.reseat, t, b⟩ = ⟨"ticket", .non, T⟩ := by
  show runReseat T t = _
  unfold runReseat
  rw [h]
theorem run_reseat {T : Tr} {n : Nat} {b : Int} {ps : List P3} (h : getS T.sold (n : Int) = some ps) : T.run ⟨.reseat, (n : Int), b⟩ = ⟨"", .parts (newP T ps), T.reseat n ps⟩ := by
  show runReseat T (n : Int) = _
  unfold runReseat
  rw [h]
  rfl
/-- a deed told: what stands beside stays -/
theorem c_word {K : PySem.W.Frag} {H0 H : Hp} {p d : Addr} {T : Tr} {S : Addr → Prop} {x : Deed} {Q : VK} {E : XK} (P : Play K H0 H p T S) (few : T.coming < 1000000) (hd : DeedAt H d x)
    (k : ∀ H' S' t v, Play K H0 H' p (T.run x).tr S' → Mv H H' S S' → (∀ a o, ¬ S a → H a = some o → ¬ S' a) → H' t = some (.tup [.str (T.run x).word, v]) → ResV H H' S S' (T.run x).res v → Q (.ref t) H') : spWord K [.ref p, .ref d] H Q E := by
  refine ⟨S, p, T, d, x, rfl, P.tr, P.good, few, hd, fun H' S' t v m A w r => ?_⟩
  obtain ⟨S2, P2, h2⟩ := P.run m A (P.good.run x).1
  refine k H' S2 t v P2 ⟨m.keep, m.tups, fun a s => m.new a (h2 a s)⟩ (fun a o n ho s => ?_) w ?_
  · rcases m.new a (h2 a s) with z | z
    · exact n z
    · rw [ho] at z
      cases z
  · revert r
    cases (T.run x).res with
    | non => exact id
    | num n => exact id
    | parts ps =>
      rintro ⟨l, a, b, c, d⟩
      exact ⟨l, a, b, fun z => c (h2 _ z), d⟩
/-! ### k08 -/
theorem best_full {g : Grid} {n s e : Nat} (hg : ∀ row ∈ g, row.length = n) (hs : s < e) (he : e ≤ n) (h : (bestSeat g s e).2 = s) : fullLeg g s = true := by
  cases hf : fullLeg g s with
  | true => rfl
  | false =>
    obtain ⟨row, m, hr⟩ := leads_on hg hs he hf
    have := best_most (s := s) (e := e) m
    omega
theorem full_row {g : Grid} {row : List (Option Nat)} {l : Nat} (m : row ∈ g) (h : row[l]? = some none) : fullLeg g l = false := by
  unfold fullLeg
  rw [List.all_eq_false]
  refine ⟨row, m, ?_⟩
  rw [held_at h]
  exact Bool.false_ne_true
theorem reach_best {g : Grid} {row : List (Option Nat)} {s F e : Nat} (m : row ∈ g) (h1 : s ≤ F) : min (reach row s) e ≤ max F (bestSeat g F e).2 := by
  by_cases h : reach row s ≤ F
  · omega
  · have h2 : reach row s ≤ reach row F := reach_far _ F (reach row s) (Nat.le_refl _) (by omega) fun k k1 k2 => reach_free _ s k (Nat.le_refl _) (by omega) k2
    have := best_most (s := F) (e := e) m
    omega
theorem free_best {g : Grid} {F e l : Nat} (h1 : F ≤ l) (h2 : l < (bestSeat g F e).2) : fullLeg g l = false := by
  rcases best_prop g F e with h | ⟨i, row, hr, h, h3⟩
  · rw [h] at h2
    dsimp only at h2
    omega
  · rw [h] at h2
    dsimp only at h2
    exact full_row (List.mem_of_getElem? hr) (reach_free _ F l (Nat.le_refl _) h1 (by omega))
theorem nodup_few {F : Nat} : ∀ (n : Nat) (zs : List Int), zs.Nodup → (∀ x ∈ zs, (F : Int) < x ∧ x ≤ (F + n : Nat)) → zs.length ≤ n
  | 0, zs, _, h => by
    cases zs with
    | nil => exact Nat.le_refl _
    | cons a r =>
      have := h a List.mem_cons_self
      omega
  | n + 1, zs, nd, h => by
    by_cases m : ((F + (n + 1) : Nat) : Int) ∈ zs
    · have h1 := nodup_few (F := F) n (zs.erase ((F + (n + 1) : Nat) : Int)) (nd.erase _) fun x mx => by
        have := (List.Nodup.mem_erase_iff nd).mp mx
        have := h x this.2
        omega
      rw [List.length_erase_of_mem m] at h1
      omega
    · exact Nat.le_succ_of_le (nodup_few (F := F) n zs nd fun x mx => by
        have h1 := h x mx
        have h2 : x ≠ ((F + (n + 1) : Nat) : Int) := fun z => m (z ▸ mx)
        omega)
def dueV (g : Grid) (b e : Nat) : V := if firstFull g b e = none then .int ((found g b e).length : Int) else .non
def spFewest (K : PySem.W.Frag) : Sp := fun vs H Q _ => ∃ (r : Addr) (as : List Addr) (g : Grid) (n b e : Nat), vs = [.ref r, .int b, .int e] ∧ GridAt H r as g ∧ (∀ row ∈ g, row.length = n) ∧ g.length ≤ 1000 ∧ b < e ∧ e ≤ n ∧ n ≤ 1000 ∧ ∀ H', Ex H H' → Q (dueV g b e) H'
def spRowOf8 (K : PySem.W.Frag) : Sp := fun vs H Q _ => ∃ (S : Addr → Prop) (p : Addr) (T : Tr) (t : Addr) (b e : Nat), vs = [.ref p, .ref t] ∧ TrainAt K H S p T ∧ H t = some (.tup [.int (b : Int), .int (e : Int)]) ∧ b < e ∧ e < T.stops ∧
  (firstFull T.rows b e = none → ∀ H', Ex H H' → Q (.int (found T.rows b e).length) H') ∧ (firstFull T.rows b e ≠ none → ∀ H', Ex H H' → Q (.str "full") H')
end Lg

namespace Lg
open PySem PySem.Spec PyProof.Rows L2
/-! ### sorted: tuples of a pair of ints and an int -/
abbrev I3 := Int × Int × Int
def lex3 (p q : I3) : Bool := decide (p.1 < q.1 ∨ (p.1 = q.1 ∧ (p.2.1 < q.2.1 ∨ (p.2.1 = q.2.1 ∧ p.2.2 < q.2.2))))
theorem lex3_swo {α : Type} (k : α → I3) : SrtO.Swo fun v u => lex3 (k v) (k u) := by
  refine ⟨fun x y h => ?_, fun x y z h1 h2 => ?_⟩
  · have a := of_decide_eq_true h
    exact decide_eq_false (by omega)
  · have a := of_decide_eq_false h1
    have b := of_decide_eq_false h2
    exact decide_eq_false (by omega)
def IsNest (h : Heap) (v : Value) (k : I3) : Prop := ∃ a o b t n ob tx ty m, v = .ref a ∧ h.get? a = some o ∧ o.cls = .type "tuple" ∧ o.data = .seq #[.ref b, .int k.2.2 t] n ∧ h.get? b = some ob ∧ ob.cls = .type "tuple" ∧ ob.data = .seq #[.int k.1 tx, .int k.2.1 ty] m
theorem IsNest.keeps {h h' : Heap} {v : Value} {k : I3} (p : IsNest h v k) (kk : ∀ b o, h.get? b = some o → o.cls = .type "tuple" → h'.get? b = some o) : IsNest h' v k := by
  obtain ⟨a, o, b, t, n, ob, tx, ty, m, h1, h2, h3, h4, h5, h6, h7⟩ := p
  exact ⟨a, o, b, t, n, ob, tx, ty, m, h1, kk _ _ h2 h3, h3, h4, kk _ _ h5 h6, h6, h7⟩
section
variable {prog : Program} {w : World} {A : Around} {E : Value → Shared → Prop} {s : Shared}
theorem nest_cmp {vs : List Value} {k : Value → I3} (hu : A.units < cLine) (hp : ∀ v ∈ vs, IsNest s.heap v (k v)) : SrtO.Cmp prog w A s (tuples' false) (fun p => p.1 ∈ vs) (SrtO.lt2 fun v u => lex3 (k v) (k u)) := by
  intro p q hm hm'
  have h1 := hp _ hm
  have h2 := hp _ hm'
  show wpAny (model prog w) A (keyLt' (tuples' false) p.1 q.1) (fun r s' => s' = s ∧ r = lex3 (k p.1) (k q.1)) (fun _ _ => False) s
  generalize k p.1 = k1 at h1 ⊢
  generalize k q.1 = k2 at h2 ⊢
  obtain ⟨x, y, z⟩ := k1
  obtain ⟨x', y', z'⟩ := k2
  obtain ⟨a, o, b, t, n, ob, tx, ty, m, e, ho, hc, hd, hob, hbc, hbd⟩ := h1
  obtain ⟨a', o', b', t', n', ob', tx', ty', m', e', ho', hc', hd', hob', hbc', hbd'⟩ := h2
  rw [e, e']
  have tb : s.heap.IsTuple b #[.int x tx, .int y ty] := ⟨ob, hob, hbc, m, hbd⟩
  have tb' : s.heap.IsTuple b' #[.int x' tx', .int y' ty'] := ⟨ob', hob', hbc', m', hbd'⟩
  have heq : SeqAt.EqAt A s (.ref b) (.ref b') (decide (x = x') && decide (y = y')) := by
    by_cases hb : b = b'
    · subst hb
      rw [hob] at hob'
      cases hob'
      rw [hbd] at hbd'
      have e1 : #[Value.int x tx, Value.int y ty] = #[Value.int x' tx', Value.int y' ty'] := by
        injection hbd'
      have e2 : x = x' ∧ y = y' := by
        have := congrArg Array.toList e1
        simp at this
        exact ⟨this.1.1, this.2.1⟩
      rw [decide_eq_true e2.1, decide_eq_true e2.2]
      exact SeqAt.EqAt.same _
    · refine SeqAt.EqAt.of_refs hb ?_
      have := SeqAt.RcAt.tuples (e := fun j => if j = 0 then decide (x = x') else decide (y = y')) tb tb' hu (fun j h1 h2 => ?_)
      · have e3 : ((List.range (min (#[Value.int x tx, Value.int y ty] : Array Value).size (#[Value.int x' tx', Value.int y' ty'] : Array Value).size)).all (fun j => if j = 0 then decide (x = x') else decide (y = y')) && (#[Value.int x tx, Value.int y ty] : Array Value).size == (#[Value.int x' tx', Value.int y' ty'] : Array Value).size) = (decide (x = x') && decide (y = y')) := by
          show ((List.range 2).all _ && _) = _
          cases decide (x = x') <;> cases decide (y = y') <;> rfl
        rw [e3] at this
        exact this
      · match j, h1, h2 with
        | 0, _, _ =>
          have := SeqAt.EqAt.int_int x tx x' tx' (A := A.in1) (s := s)
          rw [show (x == x') = decide (x = x') from rfl] at this
          exact this
        | 1, _, _ =>
          have := SeqAt.EqAt.int_int y ty y' ty' (A := A.in1) (s := s)
          rw [show (y == y') = decide (y = y') from rfl] at this
          exact this
        | j + 2, h1, _ => exact absurd h1 (by show ¬ j + 2 < 2; omega)
  refine PySem.W.kat_lt ho hd ho' hd' ?_
  show PySem.W.KatLex prog w A false (decide (2 < 2)) _ [(.ref b, .ref b'), (.int z t, .int z' t')] 0 s
  refine PySem.W.kat_cons (heq prog w _ _ ?_)
  refine PySem.W.kat_go (fun e1 => ?_) (fun e1 => ?_)
  · have ex : x = x' ∧ y = y' := by
      have := Bool.and_eq_true_iff.mp e1
      exact ⟨of_decide_eq_true this.1, of_decide_eq_true this.2⟩
    refine PySem.W.kat_yes (PySem.W.kat_cons (SeqAt.EqAt.int_int z t z' t' prog w _ _ ?_))
    refine PySem.W.kat_go (fun e2 => ?_) (fun e2 => ?_)
    · have ez : z = z' := by simpa using e2
      refine PySem.W.kat_yes (PySem.W.kat_nil ⟨rfl, ?_⟩)
      refine (decide_eq_false ?_).symm
      dsimp only
      omega
    · refine PySem.W.kat_no (PySem.W.kat_one _ _ (PyProof.Rows.lt_int ?_))
      have e3 : decide (z < z') = lex3 (x, y, z) (x', y', z') := by
        refine decide_eq_decide.mpr ?_
        dsimp only
        omega
      exact (show s = s ∧ decide (z < z') = lex3 (x, y, z) (x', y', z') from ⟨rfl, e3⟩)
  · have ex : ¬ (x = x' ∧ y = y') := fun z => by
      rw [decide_eq_true z.1, decide_eq_true z.2] at e1
      cases e1
    refine PySem.W.kat_no (PySem.W.kat_one _ _ (HT.lt_tupInts (ns := [x, y]) (ms := [x', y']) tb tb' ?_ ?_ hu ?_))
    · exact L2.intsAre_of (show Vals ([x, y].map V.int) [.int x tx, .int y ty] from .cons ⟨tx, rfl⟩ (.cons ⟨ty, rfl⟩ .nil))
    · exact L2.intsAre_of (show Vals ([x', y'].map V.int) [.int x' tx', .int y' ty'] from .cons ⟨tx', rfl⟩ (.cons ⟨ty', rfl⟩ .nil))
    · refine (show s = s ∧ HT.lexLt [x, y] [x', y'] = lex3 (x, y, z) (x', y', z') from ⟨rfl, ?_⟩)
      rw [HT.lexLt_cons, HT.lexLt_cons, HT.lexLt_nil_nil]
      unfold lex3
      dsimp only
      by_cases h1 : x = x'
      · rw [if_pos h1]
        by_cases h2 : y = y'
        · exact absurd ⟨h1, h2⟩ ex
        · rw [if_neg h2]
          exact decide_eq_decide.mpr (by omega)
      · rw [if_neg h1]
        exact decide_eq_decide.mpr (by omega)
theorem nest_firsts {h : Heap} : ∀ {vs : List Value}, (∀ v ∈ vs, ∃ k, IsNest h v k) → ∃ fs : List Value, PySem.W.KatTups h vs fs ∧ fs.length = vs.length ∧ ∀ f ∈ fs, ∃ b ob, f = Value.ref b ∧ h.get? b = some ob ∧ ob.cls = .type "tuple"
  | [], _ => ⟨[], PySem.W.KatTups.nil, rfl, fun f hf => absurd hf (by simp)⟩
  | v :: vs, h => by
    obtain ⟨fs, h1, h2, h3⟩ := nest_firsts fun u hu => h u (List.mem_cons_of_mem _ hu)
    obtain ⟨k, a, o, b, t, n, ob, tx, ty, m, e, ho, hc, hd, hob, hbc, hbd⟩ := h v List.mem_cons_self
    refine ⟨.ref b :: fs, by rw [e]; exact PySem.W.KatTups.cons ho hc hd rfl h1, by rw [List.length_cons, List.length_cons, h2], fun f hf => ?_⟩
    rcases List.mem_cons.mp hf with rfl | hf
    · exact ⟨b, ob, rfl, hob, hbc⟩
    · exact h3 f hf
theorem nest_sortable {a : Addr} {vs : List Value} {k : Value → I3} (hu : A.units < cLine) (h0 : 0 < vs.length) (hp : ∀ v ∈ vs, IsNest s.heap v (k v)) (ha : ∀ o, s.heap.get? a = some o → o.cls ≠ .type "tuple") : SrtO.SortableO prog w A s a vs fun v u => lex3 (k v) (k u) := by
  intro h' keep
  have hp' : ∀ v ∈ vs, IsNest h' v (k v) := fun v hm => (hp v hm).keeps fun b o e c => keep b o (fun z => by subst z; exact ha o e c) e
  obtain ⟨fs, h1, h2, h3⟩ := nest_firsts fun v hm => ⟨_, hp' v hm⟩
  refine ⟨tuples' false, fun Q E hq => ?_, nest_cmp (s := { s with heap := h' }) hu hp'⟩
  refine PySem.W.kat_kind (T := .type "tuple") h1 (by omega) (fun f hm => ?_) (by rfl) ?_
  · obtain ⟨b, ob, rfl, hob, hbc⟩ := h3 f hm
    rw [← hbc]
    exact (PySem.W.Looks.ld hob).andThen .now
  · have e : (Value.type "tuple" != Value.type "tuple") = false := by first | decide +kernel | rfl | decide
    rw [e]
    exact hq
end
/-- sorted(xs), xs a list of tuples of a pair of ints and an int -/
def rSortedN (K : PySem.W.Frag) : List V → Hp → VK → Prop := fun vs H Q => ∃ (a : Addr) (xs : List V) (k : V → I3), vs = [V.ref a] ∧ SqL K H a xs ∧ (∀ x ∈ xs, ∃ t u, x = V.ref t ∧ H t = some (.tup [.ref u, .int (k x).2.2]) ∧ H u = some (.tup [.int (k x).1, .int (k x).2.1])) ∧
  ∀ ys p, SrtO.Srtd (fun x y => lex3 (k x) (k y)) ys → ys.Perm xs → H p = none → Q (.ref p) (upd H p (.lst ys))
theorem cr_sortedN {X : Cx} (K : PySem.W.Frag) (hu : X.A.units + 64 < cLine) (h : X.K = K := by rfl) : CallR X (.builtin "sorted") (rSortedN K) := by
  subst h
  intro pins s σ H vs us Q I r h
  obtain ⟨a, xs, k, rfl, hs, hx, q⟩ := h
  obtain ⟨its, rv, hl, hz⟩ := I.list hs
  obtain ⟨u, rfl, ru⟩ := vals1 r
  obtain rfl : u = Value.ref a := ru
  obtain ⟨e1, e2⟩ := refs_back rv fun x m => by
    obtain ⟨t, u, e, _⟩ := hx x m
    exact ⟨t, e⟩
  have nest : ∀ v ∈ its, IsNest s.heap v (k (backV v)) := fun v hv => by
    obtain ⟨t, rfl⟩ := e2 v hv
    have hm : V.ref t ∈ xs := by rw [e1]; exact List.mem_map.mpr ⟨_, hv, rfl⟩
    obtain ⟨t', u, e, ht, hu'⟩ := hx _ hm
    cases e
    obtain ⟨_, its2, r2, o, ho, hc, n, hd⟩ := I.hok _ _ ht
    obtain ⟨_, its3, r3, o3, ho3, hc3, n3, hd3⟩ := I.hok _ _ hu'
    obtain ⟨u1, u2, rfl, ri, rj⟩ := vals2 r2
    obtain ⟨u3, u4, rfl, rk, rl⟩ := vals2 r3
    cases ri
    obtain ⟨t2, rfl⟩ := rj
    obtain ⟨t3, rfl⟩ := rk
    obtain ⟨t4, rfl⟩ := rl
    exact ⟨t, o, u, t2, n, o3, t3, t4, n3, rfl, ho, hc, hd, ho3, hc3, hd3⟩
  refine SrtO.sorted_ord (lex3_swo fun u => k (backV u)) hl.isList (by rw [← rv.length]; exact hz) (fun h2 h₁ a' ha kk => ?_) fun out h1 h2 => ?_
  · refine nest_sortable (s := { s with heap := h₁ }) (by rw [Around.in1_units, Around.in1_units]; omega) (by omega) (fun v hm => (nest v hm).keeps fun b o e _ => (kk b o e).2) fun o e => ?_
    have e' : some o = some (seqObj "list" its.toArray 0) := e.symm.trans ha
    cases e'
    intro c
    exact absurd (Value.type.inj c) (by decide)
  · have h3 : ∀ u ∈ out, ∃ a, u = Value.ref a := fun u hu => e2 u (h2.perm.mem_iff.mp hu)
    obtain ⟨n, hn⟩ := PyProof.Rows.sortedAll_at s.heap its out.toArray
    have hb : (out.map backV).Perm xs := by
      rw [e1]
      exact h2.perm.map backV
    refine ⟨.ref _, upd H (s.heap.objs.size + 1) (.lst (out.map backV)), I.laid (t' := s.toks) (fun _ _ => PyProof.Rows.sortedAll_old) (Nat.le_succ _) ⟨?_, out, n, vals_back h3, hn⟩, rfl, q _ _ (SrtO.srtd_map h1) hb (I.hok.fresh (Nat.le_succ _))⟩
    rw [hb.length_eq]
    exact hz
/-! ### a packing, plainly -/
theorem nodup_sub {α : Type} [DecidableEq α] : ∀ {l m : List α}, l.Nodup → (∀ x ∈ l, x ∈ m) → l.length ≤ m.length
  | [], _, _, _ => Nat.zero_le _
  | a :: r, m, nd, h => by
    have h1 := List.nodup_cons.mp nd
    have ma := h a List.mem_cons_self
    have := nodup_sub (l := r) (m := m.erase a) h1.2 fun x mx => (List.mem_erase_of_ne (fun e : x = a => h1.1 (by rw [← e]; exact mx))).mpr (h x (List.mem_cons_of_mem _ mx))
    rw [List.length_erase_of_mem ma] at this
    have := List.length_pos_of_mem ma
    rw [List.length_cons]
    omega
theorem load_cells (g : Grid) (leg : Nat) : load g leg = ((List.range g.length).filter fun s => (cellOf g s leg).isSome).length := by
  unfold load
  refine (kept_filter g (fun row => held row leg) (fun s => (cellOf g s leg).isSome) fun i row hi => ?_).symm
  unfold cellOf held
  rw [hi]
  rfl
theorem Good.load_ge {T : Tr} (G : Good T) {leg : Nat} (hl : leg < T.stops - 1) : ∀ (L : List Nat), L.Nodup → (∀ t ∈ L, ∃ x ∈ T.sold, x.1 = t ∧ ∃ s, covers x.2 s leg) → L.length ≤ load T.rows leg := by
  intro L nd h
  have key : ∀ L : List Nat, L.Nodup → (∀ t ∈ L, ∃ x ∈ T.sold, x.1 = t ∧ ∃ s, covers x.2 s leg) → ∃ R : List Nat, R.length = L.length ∧ R.Nodup ∧ ∀ r ∈ R, r < T.rows.length ∧ ∃ t ∈ L, cellOf T.rows r leg = some t := by
    intro L
    induction L with
    | nil => exact fun _ _ => ⟨[], rfl, List.nodup_nil, fun r m => by cases m⟩
    | cons t L ih =>
      intro nd h
      have nd' := List.nodup_cons.mp nd
      obtain ⟨R, h1, h2, h3⟩ := ih nd'.2 fun t m => h t (List.mem_cons_of_mem _ m)
      obtain ⟨x, mx, ex, s, c⟩ := h t List.mem_cons_self
      obtain ⟨b, e, hb, he, w⟩ := G.way x mx
      have hs := (w.in c).1
      have hc := (G.cell s leg t hs hl).mpr ⟨x, mx, ex, c⟩
      refine ⟨s :: R, by rw [List.length_cons, List.length_cons, h1], List.nodup_cons.mpr ⟨fun m => ?_, h2⟩, fun r m => ?_⟩
      · obtain ⟨_, t', m', e'⟩ := h3 s m
        rw [hc] at e'
        exact nd'.1 (Option.some.inj e' ▸ m')
      · rcases List.mem_cons.mp m with rfl | m
        · exact ⟨hs, t, List.mem_cons_self, hc⟩
        · obtain ⟨h4, t', m', e'⟩ := h3 r m
          exact ⟨h4, t', List.mem_cons_of_mem _ m', e'⟩
  obtain ⟨R, h1, h2, h3⟩ := key L nd h
  rw [← h1, load_cells]
  refine nodup_sub h2 fun r m => ?_
  obtain ⟨h4, t, _, e⟩ := h3 r m
  rw [List.mem_filter]
  exact ⟨List.mem_range.mpr h4, by rw [e]; rfl⟩
/-- begin, end, number -/
abbrev J3 := Nat × Nat × Nat
def jOf (x : Nat × List P3) : J3 := ((hdP x.2).2.1, (ltP x.2).2.2, x.1)
def setF (f : Nat → Nat) (t s : Nat) : Nat → Nat := fun u => if u = t then s else f u
structure PackInv (done : List J3) (ends : List Nat) (f : Nat → Nat) (most : Nat) : Prop where
  on : ∀ j ∈ done, ∃ e, ends[f j.2.2]? = some e ∧ j.2.1 ≤ e
  by_ : ∀ (s e : Nat), ends[s]? = some e → ∃ j ∈ done, f j.2.2 = s ∧ j.2.1 = e
  dj : ∀ j ∈ done, ∀ j' ∈ done, j.2.2 ≠ j'.2.2 → f j.2.2 = f j'.2.2 → j.2.1 ≤ j'.1 ∨ j'.2.1 ≤ j.1
  few : ∀ j ∈ done, f j.2.2 < most
theorem PackInv.nil (f : Nat → Nat) (most : Nat) : PackInv [] [] f most := ⟨fun j m => (by cases m), fun s e h => by simp at h, fun j m => (by cases m), fun j m => by cases m⟩
/-- seats whose journeys all go on over b: as many tickets over this leg -/
theorem PackInv.many {done : List J3} {ends : List Nat} {f : Nat → Nat} {most b : Nat} (P : PackInv done ends f most) (hb : ∀ j ∈ done, j.1 ≤ b) (hf : ∀ (s e : Nat), ends[s]? = some e → b < e) : ∀ n, n ≤ ends.length → ∃ L : List J3, L.length = n ∧ (L.map (·.2.2)).Nodup ∧ ∀ j ∈ L, j ∈ done ∧ j.1 ≤ b ∧ b < j.2.1 ∧ f j.2.2 < n := by
  intro n
  induction n with
  | zero => exact fun _ => ⟨[], rfl, List.nodup_nil, fun j m => by cases m⟩
  | succ n ih =>
    intro hn
    obtain ⟨L, h1, h2, h3⟩ := ih (by omega)
    have he := List.getElem?_eq_getElem (l := ends) (i := n) (by omega)
    obtain ⟨j, mj, ej, ee⟩ := P.by_ n _ he
    have := hf n _ he
    refine ⟨j :: L, by rw [List.length_cons, h1], ?_, fun k m => ?_⟩
    · rw [List.map_cons]
      refine List.nodup_cons.mpr ⟨fun m => ?_, h2⟩
      obtain ⟨k, mk, ek⟩ := List.mem_map.mp m
      have := (h3 k mk).2.2.2
      rw [ek] at this
      omega
    · rcases List.mem_cons.mp m with rfl | m
      · exact ⟨mj, hb _ mj, by omega, by omega⟩
      · have := h3 k m
        exact ⟨this.1, this.2.1, this.2.2.1, by omega⟩
theorem PackInv.step {done : List J3} {ends ends' : List Nat} {f : Nat → Nat} {most b e t s : Nat} (P : PackInv done ends f most) (hb : ∀ j ∈ done, j.1 ≤ b) (hbe : b < e) (ht : ∀ j ∈ done, j.2.2 ≠ t)
    (h : (∃ e0, ends[s]? = some e0 ∧ e0 ≤ b ∧ ends' = ends.set s e) ∨ (s = ends.length ∧ ends' = ends ++ [e] ∧ s < most)) : PackInv (done ++ [(b, e, t)]) ends' (setF f t s) most := by
  have fo : ∀ j ∈ done, setF f t s j.2.2 = f j.2.2 := fun j m => if_neg (ht j m)
  have ft : setF f t s t = s := if_pos rfl
  have en : ∀ u, ends'[u]? = if u = s then some e else ends[u]? := fun u => by
    rcases h with ⟨e0, h1, h2, rfl⟩ | ⟨rfl, rfl, _⟩
    · rw [List.getElem?_set]
      by_cases hu : s = u
      · rw [if_pos hu, if_pos hu.symm, if_pos (lt_of_get h1)]
      · rw [if_neg hu, if_neg (fun z => hu z.symm)]
    · by_cases hu : u = ends.length
      · rw [if_pos hu, hu, List.getElem?_append_right (Nat.le_refl _)]
        simp
      · rw [if_neg hu]
        by_cases hl : u < ends.length
        · rw [List.getElem?_append_left hl]
        · rw [List.getElem?_eq_none (by rw [List.length_append, List.length_singleton]; omega), List.getElem?_eq_none (by omega)]
  have old : ∀ j ∈ done, f j.2.2 = s → j.2.1 ≤ b := fun j m hs => by
    obtain ⟨e1, h1, h2⟩ := P.on j m
    rw [hs] at h1
    rcases h with ⟨e0, h3, h4, _⟩ | ⟨rfl, _, _⟩
    · rw [h3] at h1
      cases h1
      omega
    · have := lt_of_get h1
      omega
  refine ⟨fun j m => ?_, fun u e1 h1 => ?_, fun j m j' m' hne hf => ?_, fun j m => ?_⟩
  · rcases List.mem_append.mp m with m | m
    · rw [fo j m, en]
      by_cases hu : f j.2.2 = s
      · rw [if_pos hu]
        exact ⟨e, rfl, by have := old j m hu; omega⟩
      · rw [if_neg hu]
        exact P.on j m
    · rw [List.mem_singleton.mp m, en]
      dsimp only
      rw [if_pos ft]
      exact ⟨e, rfl, Nat.le_refl _⟩
  · rw [en] at h1
    by_cases hu : u = s
    · rw [if_pos hu] at h1
      exact ⟨(b, e, t), List.mem_append_right _ (List.mem_singleton.mpr rfl), by dsimp only; rw [ft, hu], Option.some.inj h1⟩
    · rw [if_neg hu] at h1
      obtain ⟨j, m, h2, h3⟩ := P.by_ u e1 h1
      exact ⟨j, List.mem_append_left _ m, by rw [fo j m]; exact h2, h3⟩
  · rcases List.mem_append.mp m with m | m
    · rcases List.mem_append.mp m' with m' | m'
      · rw [fo j m, fo j' m'] at hf
        exact P.dj j m j' m' hne hf
      · rw [List.mem_singleton.mp m'] at hf ⊢
        dsimp only at hf ⊢
        rw [fo j m, ft] at hf
        exact .inl (old j m hf)
    · rw [List.mem_singleton.mp m] at hne hf ⊢
      dsimp only at hne hf ⊢
      rcases List.mem_append.mp m' with m' | m'
      · rw [fo j' m', ft] at hf
        exact .inr (old j' m' hf.symm)
      · rw [List.mem_singleton.mp m'] at hne
        exact absurd rfl hne
  · rcases List.mem_append.mp m with m | m
    · rw [fo j m]
      exact P.few j m
    · rw [List.mem_singleton.mp m]
      dsimp only
      rw [ft]
      rcases h with ⟨e0, h1, h2, _⟩ | ⟨_, _, h⟩
      · obtain ⟨j, m, h3, _⟩ := P.by_ s e0 h1
        rw [← h3]
        exact P.few j m
      · exact h
def PackOk (T : Tr) (f : Nat → Nat) : Prop := (∀ m, (∀ leg, leg < T.stops - 1 → load T.rows leg ≤ m) → ∀ x ∈ T.sold, f x.1 < m) ∧
  ∀ x ∈ T.sold, ∀ y ∈ T.sold, x.1 ≠ y.1 → f x.1 = f y.1 → (jOf x).2.1 ≤ (jOf y).1 ∨ (jOf y).2.1 ≤ (jOf x).1
/-- a new seat is wanted: there are so many over this leg -/
theorem PackInv.new_seat {T : Tr} (G : Good T) {done : List J3} {ends : List Nat} {f : Nat → Nat} {most b e t : Nat} (P : PackInv done ends f most) (hm : ∀ leg, leg < T.stops - 1 → load T.rows leg ≤ most) (hd : ∀ j ∈ done, ∃ x ∈ T.sold, j = jOf x) (hb : ∀ j ∈ done, j.1 ≤ b)
    (hf : ∀ (s e : Nat), ends[s]? = some e → b < e) (ht : ∀ j ∈ done, j.2.2 ≠ t) {x : Nat × List P3} (mx : x ∈ T.sold) (hx : (b, e, t) = jOf x) : ends.length < most := by
  have cov : ∀ y ∈ T.sold, (jOf y).1 ≤ b → b < (jOf y).2.1 → ∃ s, covers y.2 s b := fun y my h1 h2 => by
    obtain ⟨b1, e1, hb1, he1, w⟩ := G.way y my
    have := w.hd hb1
    exact w.all (by rw [← this.1]; exact h1) (by rw [← this.2]; exact h2)
  obtain ⟨b1, e1, hb1, he1, w⟩ := G.way x mx
  have hh := w.hd hb1
  have hxb : b = b1 := (congrArg (·.1) hx).trans hh.1
  have hxe : e = e1 := (congrArg (·.2.1) hx).trans hh.2
  have hxt : t = x.1 := congrArg (·.2.2) hx
  obtain ⟨L, h1, h2, h3⟩ := P.many hb hf ends.length (Nat.le_refl _)
  have := G.load_ge (leg := b) (by omega) (t :: L.map (·.2.2)) (List.nodup_cons.mpr ⟨fun m => ?_, h2⟩) fun u m => ?_
  · rw [List.length_cons, List.length_map, h1] at this
    have := hm b (by omega)
    omega
  · obtain ⟨j, mj, ej⟩ := List.mem_map.mp m
    exact ht j (h3 j mj).1 ej
  · rcases List.mem_cons.mp m with rfl | m
    · exact ⟨x, mx, hxt.symm, cov x mx (by rw [← hx]; exact Nat.le_refl _) (by rw [← hx]; dsimp only; omega)⟩
    · obtain ⟨j, mj, rfl⟩ := List.mem_map.mp m
      obtain ⟨k1, k2, k3, _⟩ := h3 j mj
      obtain ⟨y, my, rfl⟩ := hd j k1
      exact ⟨y, my, rfl, cov y my k2 k3⟩
theorem PackInv.ok {T : Tr} {done : List J3} {ends : List Nat} {f : Nat → Nat} (P : ∀ most, (∀ leg, leg < T.stops - 1 → load T.rows leg ≤ most) → PackInv done ends f most) (hd : ∀ x ∈ T.sold, jOf x ∈ done) : PackOk T f :=
  ⟨fun m hm x mx => (P m hm).few _ (hd x mx), fun x mx y my h1 h2 => by
    have hm : ∀ leg, leg < T.stops - 1 → load T.rows leg ≤ T.rows.length := fun leg _ => List.length_filter_le _ _
    exact (P _ hm).dj _ (hd x mx) _ (hd y my) h1 h2⟩
/-! ### dicts, step by step -/
section
variable {K : PySem.W.Frag} {σ : L2.St} {H H' : Hp} {Q : VK} {nx bk ct : L2.St → Hp → Prop} {rt : VK} {te ta tb : TE} {a l p q : Addr} {x y v w : V} {i : Int}
theorem s_dnew (h : ∀ p H2, H p = none → Ex H H2 → H2 p = some (.dK []) → Q (.ref p) H2) : tDNewK σ H Q := fun p hp => h p _ hp (Evl.Ex.new hp) upd_same
def DpR (nx : L2.St → Hp → Prop) (σ : L2.St) (v x y : V) (H3 : Hp) : Prop := ∃ a H4, x = .ref a ∧ DPut H3 a y v H4 ∧ nx σ H4
theorem s_dput {td ty tv : TE} (h : tv σ H fun v H1 => td σ H1 fun x H2 => ty σ H2 fun y H3 => DpR nx σ v x y H3) : sDPut td ty tv ⟨nx, rt, bk, ct⟩ σ H := h
def DgR (Q : VK) (x y : V) (H2 : Hp) : Prop := ∃ a v, x = .ref a ∧ DGet H2 a y (some v) ∧ Q v H2
theorem s_dget {td ty : TE} (h : td σ H fun x H1 => ty σ H1 fun y H2 => DgR Q x y H2) : tDGet td ty σ H Q := h
theorem v_dget {kvs : List (Key × V)} (h : H a = some (.dK kvs)) (e : valV kvs (Sum.inl i) = some v) (k : Q v H) : DgR Q (.ref a) (.int i) H := ⟨a, v, rfl, by rw [← e]; exact DGet.k (k := Sum.inl i) h, k⟩
/-- an own dict changed -/
structure ChD (H H' : Hp) (l : Addr) : Prop where
  was : ∃ xs, H l = some (.dK xs)
  keep : ∀ a o, a ≠ l → H a = some o → H' a = some o
theorem v_dput {kvs : List (Key × V)} (h : H a = some (.dK kvs)) (hz : kvs.length < sizeLine) (k : ∀ H2, ChD H H2 a → H2 a = some (.dK (putK kvs (Sum.inl i) v)) → nx σ H2) : DpR nx σ v (.ref a) (.int i) H :=
  ⟨a, _, rfl, DPut.k (k := Sum.inl i) h hz, k _ ⟨⟨_, h⟩, fun b o n e => by rw [upd_ne n]; exact e⟩ upd_same⟩
theorem putK_le (c : List (Key × V)) (k : Key) (x : V) : (putK c k x).length ≤ c.length + 1 := by
  unfold putK
  split
  · rw [List.length_map]
    omega
  · rw [List.length_append]
    exact Nat.le_refl _
theorem chd_tup {xs : List V} (c : ChD H H' l) (h : H a = some (.tup xs)) : H' a = some (.tup xs) := by
  obtain ⟨ys, e⟩ := c.was
  exact c.keep _ _ (ne_of h e (fun z => by cases z)) h
theorem chd_lst {xs : List V} (c : ChD H H' l) (h : H a = some (.lst xs)) : H' a = some (.lst xs) := by
  obtain ⟨ys, e⟩ := c.was
  exact c.keep _ _ (ne_of h e (fun z => by cases z)) h
theorem ch_dic {xs : List (Key × V)} (c : Ch H H' l) (h : H a = some (.dK xs)) : H' a = some (.dK xs) := by
  obtain ⟨ys, e⟩ := c.was
  exact c.keep _ _ (ne_of h e (fun z => by cases z)) h
theorem ChD.ex {H0 : Hp} (c : ChD H H' l) (e : Ex H0 H) (hn : H0 l = none) : Ex H0 H' := fun a o h => c.keep a o (fun z => by rw [z, hn] at h; cases h) (e a o h)
end
/-- a comprehension whose elements lean on tuples alone -/
theorem lc_tupR {J : It} {n : Nat} {G : Hp → Prop} {Y : Nat → Hp → V → Hp → Prop} (w : Walk J n G Y) {Xr : Nat → V → Prop} (hY : ∀ i H x H', Y i H x H' → H' = H ∧ Xr i x) {j : Nat} {tt : TT} {te : TE} {vs : List Nat} {σ : L2.St} {H1 : Hp} {Q : VK}
    (hG : ∀ H, Ex H1 H → G H) (hn : n ≤ 100000) (keep : Nat → Bool) (R : Hp → Nat → V → Prop) (mono : ∀ H H' i v, (∀ c xs, H c = some (.tup xs) → H' c = some (.tup xs)) → R H i v → R H' i v)
    (hw : ∀ x, wipe ((wipe σ vs).set j (some x)) vs = wipe σ vs)
    (ht : ∀ i x H, i < n → Xr i x → Ex H1 H → ∀ Q : Bool → Hp → Prop, (∀ H', Ex H H' → Q (keep i) H') → tt ((wipe σ vs).set j (some x)) H Q)
    (he : ∀ i x H, i < n → Xr i x → keep i = true → Ex H1 H → ∀ Q : VK, (∀ y H', Ex H H' → R H' i y → Q y H') → te ((wipe σ vs).set j (some x)) H Q)
    (q : ∀ D H' ys, H1 D = none → Ex H1 H' → H' D = some (.lst ys) → All2 (R H') (kept n keep) ys → Q (.ref D) H') : LcR (gName j) tt te vs σ Q J H1 := by
  intro D hD
  refine lc_it w (fun i H => Ex H1 H ∧ ∃ acc, H D = some (.lst acc) ∧ All2 (R H) (kept i keep) acc)
    ⟨Evl.Ex.new hD, [], upd_same, All2.nil⟩ (fun i H _ p => hG H p.1) ?_ ?_
  · rintro i x H H' hi ⟨ex, acc, hacc, hall⟩ y
    obtain ⟨rfl, xr⟩ := hY _ _ _ _ y
    refine ⟨hw x, ht i x H' hi xr ex _ fun H3 e3 => ?_⟩
    have hall3 : All2 (R H3) (kept i keep) acc := hall.mono fun k y r => mono _ _ _ _ (fun c xs z => e3 _ _ z) r
    have ha3 := e3 _ _ hacc
    refine iteB (fun hk => ?_) (fun hk => ?_)
    · refine he i x H3 hi xr hk (ex.trans e3) _ fun y H4 e4 r => ?_
      have ha4 := e4 _ _ ha3
      have hl : acc.length < sizeLine := by
        rw [← hall.len]
        exact Nat.lt_of_le_of_lt (kept_len i keep) (Nat.lt_of_lt_of_le hi (Nat.le_trans hn (by decide)))
      have kt : ∀ c xs, H4 c = some (.tup xs) → upd H4 D (.lst (acc ++ [y])) c = some (.tup xs) := fun c xs z => by
        rw [upd_ne (ne_of z ha4 (fun z => by cases z))]
        exact z
      refine ⟨acc, ha4, hl, Evl.Ex.mut ((ex.trans e3).trans e4) hD, _, upd_same, ?_⟩
      rw [kept_yes hk]
      exact All2.snoc (hall3.mono fun k y r => mono _ _ _ _ (fun c xs z => kt c xs (e4 _ _ z)) r) (mono _ _ _ _ kt r)
    · refine ⟨ex.trans e3, acc, ha3, ?_⟩
      rw [kept_no hk]
      exact hall3
  · rintro H ⟨ex, acc, hacc, hall⟩
    exact q D H acc hD ex hacc hall
theorem v_ixE {K : PySem.W.Frag} {H : Hp} {Q : VK} {p : Addr} {zs : List Int} {v : Nat} {z : Int} (h : H p = some (.lst (zs.map V.int))) (e : zs[v]? = some z) (k : Q (.int z) H) : rIxL K (.ref p) (.int (v : Int)) H Q :=
  ⟨p, _, v, .int z, rfl, rfl, SqL.of h, at_of rfl (map_get e), k⟩
theorem v_ixN {K : PySem.W.Frag} {H : Hp} {Q : VK} {p : Addr} {ms : List Nat} {v : Nat} (h : H p = some (.lst (ms.map fun n : Nat => V.int (n : Int)))) (hv : v < ms.length) (k : ∀ n, ms[v]? = some n → Q (.int (n : Int)) H) : rIxL K (.ref p) (.int (v : Int)) H Q :=
  ⟨p, _, v, .int (ms[v] : Int), rfl, rfl, SqL.of h, at_of rfl (by rw [List.getElem?_map, List.getElem?_eq_getElem hv]; rfl), k _ (List.getElem?_eq_getElem hv)⟩
section
variable {K : PySem.W.Frag} {σ : L2.St} {H : Hp} {Q : VK} {te : TE} {l p a : Addr}
theorem c_isL {xs : List V} (h : H l = some (.lst xs)) (k : Q (.bl true) H) : rIsi K [.ref l, .ty "list"] H Q := ⟨.ref l, .ty "list", _, _, true, rfl, .ty _, .base (.lst h), kit_ty (by decide +kernel), k⟩
theorem c_isT {xs : List V} (h : H l = some (.tup xs)) (k : Q (.bl true) H) : rIsi K [.ref l, .ty "tuple"] H Q := ⟨.ref l, .ty "tuple", _, _, true, rfl, .ty _, .base (.tup h), kit_ty (by decide +kernel), k⟩
/-- values over a range -/
theorem lc_vR {n j : Nat} {vs : List Nat} (hn : n ≤ 100000) (v : Nat → V) (hw : ∀ x, wipe ((wipe σ vs).set j (some x)) vs = wipe σ vs)
    (he : ∀ i H' (Q' : VK), i < n → Ex H H' → (∀ H2, Ex H' H2 → Q' (v i) H2) → te ((wipe σ vs).set j (some (.int (i : Int)))) H' Q')
    (k : ∀ D H2, H D = none → Ex H H2 → H2 D = some (.lst ((List.range n).map v)) → Q (.ref D) H2) : LcR (gName j) tYes te vs σ Q (Itr 0 n) H := by
  intro D hD
  refine lc_v walk_range y_range hD (fun _ _ => trivial) hn (fun _ => true) v hw lc_yes (fun i x H2 hi hx _ e2 Q2 q2 => ?_) fun H2 e2 h2 => k D H2 hD e2 (by rw [h2, kept_all])
  rw [hx, show (0 : Int) + (i : Int) = (i : Int) by omega]
  exact he i H2 Q2 hi e2 q2
/-- values over a list -/
theorem lc_vL {xs : List V} {j : Nat} {vs : List Nat} (h : SqL K H a xs) (hn : xs.length ≤ 100000) (v : V → V) (hw : ∀ x, wipe ((wipe σ vs).set j (some x)) vs = wipe σ vs)
    (he : ∀ (i : Nat) (x : V) H' (Q' : VK), xs[i]? = some x → Ex H H' → (∀ H2, Ex H' H2 → Q' (v x) H2) → te ((wipe σ vs).set j (some x)) H' Q')
    (k : ∀ D H2, H D = none → Ex H H2 → H2 D = some (.lst (xs.map v)) → Q (.ref D) H2) : LcR (gName j) tYes te vs σ Q (Itl K a) H := by
  intro D hD
  refine lc_v (walk_list (K := K) (a := a) (xs := xs)) y_list hD (fun H2 e2 => sqL_ex h e2) hn (fun _ => true) (fun i => ((xs[i]?).map v).getD .non) hw lc_yes (fun i x H2 hi hx _ e2 Q2 q2 => ?_) fun H2 e2 h2 => k D H2 hD e2 (by rw [h2, kept_all, range_map])
  rw [hx] at q2
  exact he i x H2 Q2 hx e2 q2
/-- new lists over a range, alike -/
theorem lc_newR {n j : Nat} {vs : List Nat} {o : HO} (hn : n ≤ 100000) (hw : ∀ x, wipe ((wipe σ vs).set j (some x)) vs = wipe σ vs)
    (he : ∀ i H' (Q' : VK), i < n → Ex H H' → (∀ b H2, H' b = none → Ex H' H2 → H2 b = some o → Q' (.ref b) H2) → te ((wipe σ vs).set j (some (.int (i : Int)))) H' Q')
    (k : ∀ D (as : List Addr) H2, H D = none → Ex H H2 → H2 D = some (.lst (as.map V.ref)) → as.length = n → as.Nodup → D ∉ as → (∀ b ∈ as, H b = none ∧ H2 b = some o) → Q (.ref D) H2) : LcR (gName j) tYes te vs σ Q (Itr 0 n) H := by
  intro D hD
  refine lc_new walk_range y_range hD (fun _ _ => trivial) hn (fun _ => true) (fun _ o' => o' = o) hw lc_yes (fun i x H2 hi hx _ e2 hD2 Q2 q2 => ?_) fun H2 as e2 h2 nd fr hall => ?_
  · rw [hx, show (0 : Int) + (i : Int) = (i : Int) by omega]
    exact he i H2 Q2 hi e2 fun b H3 nb e3 hb => q2 b H3 o nb e3 hb rfl
  · rw [kept_all] at hall
    refine k D as H2 hD e2 h2 (by rw [← hall.len, List.length_range]) nd (fun m => (fr D m).2 rfl) fun b m => ⟨(fr b m).1, ?_⟩
    obtain ⟨i, hi⟩ := List.mem_iff_getElem?.mp m
    obtain ⟨_, _, o', h1, rfl⟩ := hall.right hi
    exact h1
theorem v_rep {xs : List V} {m : Int} (h : H p = some (.lst xs)) (hm : 0 ≤ m ∧ m ≤ 100000) (hx : xs.length ≤ 10) (k : ∀ b H2, H b = none → Ex H H2 → H2 b = some (.lst (List.replicate m.toNat xs).flatten) → Q (.ref b) H2) : rRep (.ref p) (.int m) H Q := by
  refine ⟨p, m, xs, rfl, rfl, h, by omega, by omega, ?_, fun b hb => k b _ hb (Evl.Ex.new hb) upd_same⟩
  have h1 : xs.length * m.toNat ≤ 10 * 100000 := Nat.mul_le_mul hx (by omega)
  exact Nat.le_trans h1 (by decide)
theorem v_max {ns : List Int} (h : SqL K H a (ns.map V.int)) (hn : 0 < ns.length) (k : ∀ m, m ∈ ns → (∀ y, y ∈ ns → y ≤ m) → Q (.int m) H) : rMax K [.ref a] H Q := ⟨a, ns, rfl, h, hn, k⟩
end
theorem rep_flat {α : Type} (x : α) : ∀ n : Nat, (List.replicate n [x]).flatten = List.replicate n x
  | 0 => rfl
  | n + 1 => by
    rw [List.replicate_succ, List.replicate_succ, List.flatten_cons, rep_flat x n]
    rfl
/-- rows of bools -/
structure BoolG (H : Hp) (r : Addr) (as : List Addr) (n : Nat) (F : Nat → Nat → Bool) : Prop where
  top : H r = some (.lst (as.map V.ref))
  nd : as.Nodup
  nr : r ∉ as
  row : ∀ (s : Nat) (a : Addr), as[s]? = some a → H a = some (.lst ((List.range n).map fun l => V.bl (F s l)))
theorem BoolG.set {H H' : Hp} {r b : Addr} {as : List Addr} {n s l : Nat} {F : Nat → Nat → Bool} {v : Bool} (G : BoolG H r as n F) (hb : as[s]? = some b) (c : Ch H H' b) (hl : l < n) (h : H' b = some (.lst (((List.range n).map fun l => V.bl (F s l)).set l (.bl v)))) :
    BoolG H' r as n (fun s' l' => if s' = s ∧ l' = l then v else F s' l') := by
  have mb := List.mem_of_getElem? hb
  refine ⟨c.keep _ _ (fun z => G.nr (z ▸ mb)) G.top, G.nd, G.nr, fun s' a ha => ?_⟩
  by_cases hs : s' = s
  · subst hs
    rw [hb] at ha
    cases ha
    rw [h]
    congr 2
    apply List.ext_getElem?
    intro i
    rw [List.getElem?_set, List.getElem?_map, List.getElem?_map]
    by_cases hi : l = i
    · subst hi
      rw [if_pos rfl, List.length_map, List.length_range, if_pos hl, List.getElem?_range hl]
      show _ = some (V.bl (if s' = s' ∧ l = l then v else F s' l))
      rw [if_pos ⟨rfl, rfl⟩]
    · rw [if_neg hi]
      cases hr : (List.range n)[i]? with
      | none => rfl
      | some k =>
        have hk : k = i := by
          have h1 := lt_of_get hr
          rw [List.length_range] at h1
          rw [List.getElem?_range h1] at hr
          exact (Option.some.inj hr).symm
        subst hk
        show some (V.bl (F s' k)) = some (V.bl (if s' = s' ∧ k = l then v else F s' k))
        rw [if_neg (fun z => hi z.2.symm)]
  · have hne : a ≠ b := fun z => by
      rw [z] at ha
      exact hs (nd_ix G.nd hb ha).symm
    rw [c.keep _ _ hne (G.row s' a ha)]
    congr 2
    apply List.map_congr_left
    intro i _
    show V.bl (F s' i) = V.bl (if s' = s ∧ i = l then v else F s' i)
    rw [if_neg (fun z => hs z.1)]
theorem ch_grid {H H' : Hp} {l a : Addr} {as : List Addr} {g : Grid} (c : Ch H H' l) (n : a ≠ l) (m : l ∉ as) (h : GridAt H a as g) : GridAt H' a as g := ⟨c.keep _ _ n h.top, h.row.monoM fun b row mb _ z => c.keep _ _ (fun e => m (e ▸ mb)) z⟩
theorem grid_new {H : Hp} {l a : Addr} {as : List Addr} {g : Grid} (h : GridAt H a as g) (n : H l = none) : a ≠ l ∧ l ∉ as := by
  refine ⟨fun z => ?_, fun m => ?_⟩
  · have := h.top
    rw [z, n] at this
    cases this
  · obtain ⟨row, _, z⟩ := h.row.mem_left m
    rw [show H l = _ from z] at n
    cases n
def RemR (W : WX) (σ : L2.St) (Q : VK) (x y : V) (H2 : Hp) : Prop := ∃ (l : Addr) (ns : List Int) (k : Int), x = .ref l ∧ y = .int k ∧ H2 l = some (.lst (ns.map V.int)) ∧ (k ∈ ns → Q .non (upd H2 l (.lst ((ns.erase k).map V.int)))) ∧ (k ∉ ns → ∀ d, W (.type "ValueError") d σ H2)
theorem s_rem {K : PySem.W.Frag} {W : WX} {σ : L2.St} {H : Hp} {Q : VK} {to te : TE} (h : to σ H fun x H1 => tyV K "list" x H1 ∧ te σ H1 fun y H2 => RemR W σ Q x y H2) : tRemX K W to te σ H Q := h
theorem v_rem {W : WX} {σ : L2.St} {H : Hp} {Q : VK} {l : Addr} {ns : List Int} {k : Int} (h : H l = some (.lst (ns.map V.int))) (m : k ∈ ns) (n : ∀ H2, Ch H H2 l → H2 l = some (.lst ((ns.erase k).map V.int)) → Q .non H2) : RemR W σ Q (.ref l) (.int k) H :=
  ⟨l, ns, k, rfl, rfl, h, fun _ => n _ (Ch.upd h) upd_same, fun z => absurd m z⟩
theorem c_deedBy {K : PySem.W.Frag} {H : Hp} {Q : VK} {E : XK} {v : V} {so : Addr} {ks : List Int} {n : Nat} (hc : IsCell H v) (h : H so = some (.lst (ks.map V.int))) (hk : ks.length ≤ 1000000) (h1 : 2 ≤ n) (h2 : n ≤ 1000) (k : ∀ H' d x, Ex H H' → DeedAt H' d x → Q (.ref d) H') : spDeedBy K [v, .ref so, .int (n : Int)] H Q E :=
  ⟨v, so, ks, n, rfl, hc, h, hk, h1, h2, k⟩
theorem v_eqTs {K : PySem.W.Frag} {H : Hp} {Q : VK} {f c : Addr} {xss : List (List Int)} (h1 : TupsAt H f xss) (h2 : TupsAt H c xss) (k : Q (.bl true) H) : rEqD K (.ref f) (.ref c) H Q := by
  have dp : ∀ l, TupsAt H l xss → Dp K H (.ref l) (.list (xss.map fun xs => PyData.tuple (xs.map PyData.int))) := fun l ⟨ts, a, b⟩ => .lst (SqL.of a) (dpAll ⟨by rw [List.length_map, List.length_map, b.len], fun i x y hx hy => by
    obtain ⟨t, ht, rfl⟩ := map_back hx
    obtain ⟨xs, hxs, rfl⟩ := map_back hy
    exact dp_tup (b.at_ i t xs ht hxs)⟩)
  refine req_of (a := xss) (b := xss) (Enc.list (Enc.tup enc_int)) (by decide) (dp f h1) (dp c h2) ?_
  rw [decide_eq_true rfl]
  exact k
/-! ### packing.py -/
def keyH (H : Hp) : V → I3
  | .ref t => match H t with
    | some (.tup [.ref u, .int c]) => match H u with
      | some (.tup [.int a, .int b]) => (a, b, c)
      | _ => (0, 0, 0)
    | _ => (0, 0, 0)
  | _ => (0, 0, 0)
theorem keyH_of {H : Hp} {t u : Addr} {a b c : Int} (h1 : H t = some (.tup [.ref u, .int c])) (h2 : H u = some (.tup [.int a, .int b])) : keyH H (.ref t) = (a, b, c) := by
  simp only [keyH, h1, h2]
/-- the journeys' list, and what it tells -/
def NestAt (sold : List (Nat × List P3)) (H : Hp) (i : Nat) (v : V) : Prop := ∃ a u x, sold[i]? = some x ∧ v = .ref a ∧ H a = some (.tup [.ref u, .int (x.1 : Int)]) ∧ H u = some (.tup [.int ((jOf x).1 : Int), .int ((jOf x).2.1 : Int)])
def jI (j : J3) : I3 := (j.1, j.2.1, j.2.2)
def jN (k : I3) : J3 := (k.1.toNat, k.2.1.toNat, k.2.2.toNat)
theorem jN_jI (j : J3) : jN (jI j) = j := rfl
/-- sorted journeys, told plainly -/
theorem nest_sorted {sold : List (Nat × List P3)} {H : Hp} {xs ys : List V} (ha : All2 (NestAt sold H) (List.range sold.length) xs) (hp : ys.Perm xs) (hs : SrtO.Srtd (fun x y => lex3 (keyH H x) (keyH H y)) ys) :
    ∃ js : List J3, js.Perm (sold.map jOf) ∧ js.Pairwise (fun x y => x.1 ≤ y.1) ∧ All2 (fun v j => ∃ a u, v = V.ref a ∧ H a = some (.tup [.ref u, .int (j.2.2 : Int)]) ∧ H u = some (.tup [.int (j.1 : Int), .int (j.2.1 : Int)])) ys js := by
  have hx : xs.map (fun v => jN (keyH H v)) = sold.map jOf := by
    apply List.ext_getElem?
    intro i
    rw [List.getElem?_map, List.getElem?_map]
    by_cases hi : i < sold.length
    · obtain ⟨v, hv, a, u, x, e1, e2, e3, e4⟩ := ha.left (List.getElem?_range hi)
      rw [hv, e1, e2]
      show some (jN (keyH H (.ref a))) = some (jOf x)
      rw [keyH_of e3 e4]
      rfl
    · have h1 : xs.length ≤ i := by
        rw [← ha.len, List.length_range]
        omega
      rw [List.getElem?_eq_none h1, List.getElem?_eq_none (by omega)]
      rfl
  have hy : ∀ v ∈ ys, ∃ a u j, v = V.ref a ∧ jN (keyH H v) = j ∧ keyH H v = jI j ∧ H a = some (.tup [.ref u, .int (j.2.2 : Int)]) ∧ H u = some (.tup [.int (j.1 : Int), .int (j.2.1 : Int)]) := fun v m => by
    obtain ⟨i, hi⟩ := List.mem_iff_getElem?.mp (hp.mem_iff.mp m)
    obtain ⟨k, hk, a, u, x, e1, e2, e3, e4⟩ := ha.right hi
    refine ⟨a, u, jOf x, e2, ?_, ?_, e3, e4⟩
    · rw [e2, keyH_of e3 e4]
      rfl
    · rw [e2, keyH_of e3 e4]
      rfl
  refine ⟨ys.map fun v => jN (keyH H v), by rw [← hx]; exact hp.map _, List.pairwise_map.mpr ?_, ?_⟩
  · refine List.Pairwise.imp_of_mem (fun {v u} mv mu h => ?_) hs
    obtain ⟨_, _, j, _, e1, e2, _⟩ := hy v mv
    obtain ⟨_, _, k, _, e3, e4, _⟩ := hy u mu
    rw [e1, e3]
    dsimp only at h
    rw [e2, e4] at h
    have := of_decide_eq_false h
    unfold jI at this
    dsimp only at this
    omega
  · refine ⟨by rw [List.length_map], fun i v j hv hj => ?_⟩
    rw [List.getElem?_map, hv] at hj
    obtain ⟨a, u, k, e0, e1, _, e3, e4⟩ := hy v (List.mem_of_getElem? hv)
    have hj2 : j = k := (Option.some.inj hj).symm.trans e1
    rw [hj2]
    exact ⟨a, u, e0, e3, e4⟩
def spStretchOf (K : PySem.W.Frag) : Sp := fun vs H Q _ => ∃ (S : Addr → Prop) (p : Addr) (T : Tr) (t : Int) (ps : List P3), vs = [.ref p, .int t] ∧ TrainAt K H S p T ∧ getS T.sold t = some ps ∧ ps ≠ [] ∧
  ∀ u H', H u = none → Ex H H' → H' u = some (.tup [.int ((hdP ps).2.1 : Int), .int ((ltP ps).2.2 : Int)]) → Q (.ref u) H'
/-- a packing that was told, and the list that was made of it -/
def KeptAt (H : Hp) (S : Addr → Prop) (so kp k : Addr) : Prop := ∃ f c xss, H k = some (.lst [.ref f, .ref c]) ∧ TupsAt H f xss ∧ TupsAt H c xss ∧ ∀ a, a = k ∨ a = f ∨ a = c → ¬ S a ∧ a ≠ so ∧ a ≠ kp
theorem KeptAt.to {H H' : Hp} {S S' : Addr → Prop} {so kp k : Addr} (h : KeptAt H S so kp k) (keep : ∀ a o, ¬ S a → a ≠ so → a ≠ kp → H a = some o → H' a = some o) (kt : ∀ a xs, H a = some (.tup xs) → H' a = some (.tup xs)) (off : ∀ a o, ¬ S a → H a = some o → ¬ S' a) : KeptAt H' S' so kp k := by
  obtain ⟨f, c, xss, h1, ⟨ts, h2, h3⟩, ⟨us, h4, h5⟩, h6⟩ := h
  obtain ⟨k1, k2, k3⟩ := h6 k (.inl rfl)
  obtain ⟨f1, f2, f3⟩ := h6 f (.inr (.inl rfl))
  obtain ⟨c1, c2, c3⟩ := h6 c (.inr (.inr rfl))
  refine ⟨f, c, xss, keep _ _ k1 k2 k3 h1, ⟨ts, keep _ _ f1 f2 f3 h2, h3.mono fun t xs z => kt _ _ z⟩, ⟨us, keep _ _ c1 c2 c3 h4, h5.mono fun t xs z => kt _ _ z⟩, fun a ha => ?_⟩
  rcases ha with rfl | rfl | rfl
  · exact ⟨off _ _ k1 h1, k2, k3⟩
  · exact ⟨off _ _ f1 h2, f2, f3⟩
  · exact ⟨off _ _ c1 h4, c2, c3⟩
def spRight (K : PySem.W.Frag) : Sp := fun vs H Q _ => ∃ (H0 : Hp) (S : Addr → Prop) (p so kp : Addr) (T : Tr) (ks : List Addr), vs = [.ref p, .ref so, .ref kp] ∧ Play K H0 H p T S ∧ T.coming < 80000 ∧ H so = some (.lst ((keys T).map V.int)) ∧ ¬ S so ∧ H kp = some (.lst (ks.map V.ref)) ∧ ks.length ≤ 1000 ∧ ¬ S kp ∧ H0 kp = none ∧ so ≠ kp ∧ (∀ k ∈ ks, KeptAt H S so kp k) ∧
  ∀ H' (ks' : List Addr), Play K H0 H' p T S → H' so = some (.lst ((keys T).map V.int)) → H' kp = some (.lst (ks'.map V.ref)) → ks'.length ≤ ks.length + 1 → (∀ k ∈ ks', KeptAt H' S so kp k) → (∀ c o, c ≠ kp → H c = some o → H' c = some o) → Q (.bl true) H'
def spPacked (K : PySem.W.Frag) : Sp := fun vs H Q _ => ∃ (S : Addr → Prop) (p : Addr) (T : Tr), vs = [.ref p] ∧ TrainAt K H S p T ∧ Good T ∧ T.coming < 90000 ∧
  ∀ (H' : Hp) (l : Addr) (f : Nat → Nat), Ex H H' → H l = none → TupsAt H' l (T.sold.map fun x => [(x.1 : Int), (f x.1 : Int)]) → PackOk T f → Q (.ref l) H'
end Lg

namespace Lg
open PySem PySem.Spec PyProof.Rows L2
/-! ### who holds is no bool -/
def rIsOB : R2 := fun x y H Q => (∃ (h : Option Nat) (b : Bool), x = oV h ∧ y = .bl b) ∧ Q (.bl false) H
theorem op_isB1 {X : Cx} : OpR X (compareOp .Is) rIsOB := by
  intro pins s σ H x y v u Q I rx ry h
  obtain ⟨⟨h, b, rfl, rfl⟩, q⟩ := h
  cases (show u = Value.bool b from ry)
  cases h with
  | none =>
    cases (show v = Value.none from rx)
    exact wpAny_is_other rfl (fun z => nomatch z) ⟨.bl false, H, I, rfl, q⟩
  | some t =>
    obtain ⟨k, rfl⟩ := (show ∃ k, v = Value.int (t : Int) k from rx)
    exact wpAny_is_other rfl (fun z => nomatch z) ⟨.bl false, H, I, rfl, q⟩
section
variable {K : PySem.W.Frag} {σ : L2.St} {H : Hp} {Q : VK} {te : TE} {l p a : Addr}
theorem v_isOB {h : Option Nat} {b : Bool} (k : Q (.bl false) H) : rIsOB (oV h) (.bl b) H Q := ⟨⟨h, b, rfl, rfl⟩, k⟩
theorem lc_vT {xs : List V} {j : Nat} {vs : List Nat} (h : H a = some (.tup xs)) (hn : xs.length ≤ 100000) (v : V → V) (hw : ∀ x, wipe ((wipe σ vs).set j (some x)) vs = wipe σ vs)
    (he : ∀ (i : Nat) (x : V) H' (Q' : VK), xs[i]? = some x → Ex H H' → (∀ H2, Ex H' H2 → Q' (v x) H2) → te ((wipe σ vs).set j (some x)) H' Q')
    (k : ∀ D H2, H D = none → Ex H H2 → H2 D = some (.lst (xs.map v)) → Q (.ref D) H2) : LcR (gName j) tYes te vs σ Q (Itt K a) H := by
  intro D hD
  refine lc_v (walk_tup (K := K) (a := a) (xs := xs)) y_list hD (fun H2 e2 => SqT.of (e2 _ _ h)) hn (fun _ => true) (fun i => ((xs[i]?).map v).getD .non) hw lc_yes (fun i x H2 hi hx _ e2 Q2 q2 => ?_) fun H2 e2 h2 => k D H2 hD e2 (by rw [h2, kept_all, range_map])
  rw [hx] at q2
  exact he i x H2 Q2 hx e2 q2
theorem v_ixA {as : List Addr} {b : Addr} {j : Nat} (h : H p = some (.lst (as.map V.ref))) (e : as[j]? = some b) (k : Q (.ref b) H) : rIxL K (.ref p) (.int (j : Int)) H Q := ⟨p, _, j, .ref b, rfl, rfl, SqL.of h, at_of rfl (map_get e), k⟩
theorem v_index {zs : List Int} {z : Int} {j : Nat} (h : H p = some (.lst (zs.map V.int))) (nd : zs.Nodup) (hj : zs[j]? = some z) (k : Q (.int (j : Int)) H) : rIndex K (.ref p) [.int z] H Q := by
  refine ⟨p, _, .int z, j, .int z, rfl, rfl, SqL.of h, rfl, flat_ints _, map_get hj, by show (z == z) = true; exact beq_self_eq_true z, fun m z' hm hz => ?_, k⟩
  obtain ⟨y, hy, rfl⟩ := map_back hz
  show (y == z) = false
  rw [beq_eq_false_iff_ne]
  intro e
  subst e
  have h1 := lt_of_get hy
  have h2 := lt_of_get hj
  have := (List.pairwise_iff_getElem.mp nd) m j h1 h2 hm
  rw [Option.some.inj ((List.getElem?_eq_getElem h1).symm.trans hy), Option.some.inj ((List.getElem?_eq_getElem h2).symm.trans hj)] at this
  exact this rfl
theorem v_popAt {xs : List V} {j : Nat} (h : H l = some (.lst xs)) (hj : j < xs.length) (hx : xs.length ≤ 1000000) (k : ∀ y H2, Ch H H2 l → H2 l = some (.lst (xs.eraseIdx j)) → Q y H2) : rPopAt (.ref l) [.int (j : Int)] H Q := by
  refine ⟨l, xs, (j : Int), j, xs[j], rfl, rfl, h, by omega, by omega, ?_, List.getElem?_eq_getElem hj, k _ _ (Ch.upd h) upd_same⟩
  have h0 : ¬ ((j : Int) < 0) := by omega
  have h1 : (decide (0 ≤ (j : Int)) && decide ((j : Int) < xs.length)) = true := by
    rw [decide_eq_true (by omega : 0 ≤ (j : Int)), decide_eq_true (by omega : (j : Int) < xs.length)]
    rfl
  simp only [seqIndex?, if_neg h0, if_pos h1]
  rfl
end
/-! ### the grid as painted, ticket by ticket -/
def paintS (sold : List (Nat × List P3)) (g : Grid) : Grid := sold.foldl (fun g x => markAll g x.2 (some x.1)) g
theorem paintS_snoc (sold : List (Nat × List P3)) (x : Nat × List P3) (g : Grid) : paintS (sold ++ [x]) g = markAll (paintS sold g) x.2 (some x.1) := by
  unfold paintS
  rw [List.foldl_append]
  rfl
theorem paintS_len : ∀ (sold : List (Nat × List P3)) (g : Grid), (paintS sold g).length = g.length
  | [], _ => rfl
  | x :: r, g => by
    show (paintS r (markAll g x.2 (some x.1))).length = _
    rw [paintS_len r, markAll_len]
theorem paintS_row {n : Nat} : ∀ (sold : List (Nat × List P3)) (g : Grid), (∀ row ∈ g, row.length = n) → ∀ row ∈ paintS sold g, row.length = n
  | [], _, h => h
  | x :: r, g, h => paintS_row r _ (markAll_row _ _ _ h)
theorem take_snoc {α : Type} {l : List α} {i : Nat} {x : α} (h : l[i]? = some x) : l.take (i + 1) = l.take i ++ [x] := by
  rw [List.take_succ, h]
  rfl
/-- what of a train's tickets is painted -/
theorem Good.paint {T : Tr} (G : Good T) {g : Grid} (hl : g.length = T.rows.length) (hr : ∀ row ∈ g, row.length = T.stops - 1) (h0 : ∀ s l, cellOf g s l = none) : ∀ i, i ≤ T.sold.length → Painted (paintS (T.sold.take i) g) T.rows.length (T.stops - 1) (coverS (T.sold.take i)) := by
  intro i
  induction i with
  | zero =>
    intro _ s l u hs hl2
    rw [List.take_zero]
    show cellOf g s l = some u ↔ _
    rw [h0]
    exact ⟨fun z => (by cases z), fun ⟨x, m, _⟩ => by cases m⟩
  | succ i ih =>
    intro hi s l u hs hl2
    have hx := List.getElem?_eq_getElem (l := T.sold) (i := i) (by omega)
    obtain ⟨x, hxd⟩ : ∃ x, x = T.sold[i] := ⟨_, rfl⟩
    rw [← hxd] at hx
    have mx := List.mem_of_getElem? hx
    obtain ⟨b, e, hb, he, w⟩ := G.way x mx
    rw [take_snoc hx, paintS_snoc, markAll_cell _ _ (paintS_row _ _ hr) (fun q m => by rw [paintS_len, hl]; have := w.mem q m; exact ⟨this.1, by omega⟩)]
    have hcs : coverS (T.sold.take i ++ [x]) u s l ↔ coverS (T.sold.take i) u s l ∨ (x.1 = u ∧ covers x.2 s l) := by
      refine ⟨fun ⟨y, m, h⟩ => ?_, fun h => ?_⟩
      · rcases List.mem_append.mp m with m | m
        · exact .inl ⟨y, m, h⟩
        · rw [List.mem_singleton.mp m] at h
          exact .inr h
      · rcases h with ⟨y, m, h⟩ | h
        · exact ⟨y, List.mem_append_left _ m, h⟩
        · exact ⟨x, List.mem_append_right _ (List.mem_singleton.mpr rfl), h⟩
    rw [hcs]
    by_cases c : covers x.2 s l
    · rw [if_pos c]
      refine ⟨fun z => .inr ⟨Option.some.inj z, c⟩, fun z => ?_⟩
      rcases z with ⟨y, m, ey, cy⟩ | ⟨z, _⟩
      · have h1 := (G.cell s l u hs hl2).mpr ⟨y, List.mem_of_mem_take m, ey, cy⟩
        have h2 := (G.cell s l x.1 hs hl2).mpr ⟨x, mx, rfl, c⟩
        rw [h1] at h2
        exact h2.symm
      · rw [z]
    · rw [if_neg c, ih (by omega) s l u hs hl2]
      exact ⟨.inl, fun z => z.elim id fun z => absurd z.2 c⟩
theorem Good.paint_all {T : Tr} (G : Good T) {g : Grid} (hl : g.length = T.rows.length) (hr : ∀ row ∈ g, row.length = T.stops - 1) (h0 : ∀ s l, cellOf g s l = none) : paintS T.sold g = T.rows := by
  refine G.painted (by rw [paintS_len]; exact hl) (paintS_row _ _ hr) ?_
  have := G.paint hl hr h0 T.sold.length (Nat.le_refl _)
  rw [List.take_length] at this
  exact this
/-- the next part's legs are not painted yet -/
theorem Good.paint_free {T : Tr} (G : Good T) {g : Grid} (hl : g.length = T.rows.length) (hr : ∀ row ∈ g, row.length = T.stops - 1) (h0 : ∀ s l, cellOf g s l = none) {i j c1 c2 c3 : Nat} {x : Nat × List P3} (hi : T.sold[i]? = some x) (hj : x.2[j]? = some (c1, c2, c3)) :
    ∀ l, c2 ≤ l → l < c3 → cellOf (markAll (paintS (T.sold.take i) g) (x.2.take j) (some x.1)) c1 l = none := by
  intro l h1 h2
  have mx := List.mem_of_getElem? hi
  obtain ⟨b, e, hb, he, w⟩ := G.way x mx
  have mq := w.mem _ (List.mem_of_getElem? hj)
  dsimp only at mq
  rw [markAll_cell _ _ (paintS_row _ _ hr) (fun q m => by rw [paintS_len, hl]; have := w.mem q (List.mem_of_mem_take m); exact ⟨this.1, by omega⟩)]
  have hf := G.fresh_cell (i := i) (j := j) (t := x.1) (ps := x.2) hi hj h1 h2
  rw [if_neg (fun z => hf x.1 (.inr ⟨rfl, .inl z⟩))]
  cases hc : cellOf (paintS (T.sold.take i) g) c1 l with
  | none => rfl
  | some u => exact absurd (.inl ((G.paint hl hr h0 i (by have := lt_of_get hi; omega) c1 l u mq.1 (by omega)).mp hc)) (hf u)
theorem Way.unlike {n e : Nat} : ∀ {ps : List P3} {b : Nat}, Way n b e ps → ∀ (i : Nat) (p q : P3), ps[i]? = some p → ps[i + 1]? = some q → q.1 ≠ p.1
  | [], _, _, i, p, q, h, _ => by cases h
  | x :: r, b, w, 0, p, q, h1, h2 => by
    cases h1
    refine w.2.2.2.1 q ?_
    rw [List.head?_eq_getElem?]
    exact h2
  | x :: r, b, w, i + 1, p, q, h1, h2 => Way.unlike w.2.2.2.2 i p q h1 h2
theorem grid_of_new {H : Hp} {D : Addr} {as : List Addr} {n stops : Nat} (h : H D = some (.lst (as.map V.ref))) (hl : as.length = n) (hr : ∀ b ∈ as, H b = some (.lst ((List.replicate (stops - 1) (none : Option Nat)).map oV))) : GridAt H D as (Tr.new n stops).rows := by
  refine ⟨h, ?_, fun i a row ha hrw => ?_⟩
  · show as.length = (List.replicate n _).length
    rw [List.length_replicate, hl]
  · rw [new_row hrw]
    exact hr a (List.mem_of_getElem? ha)
/-! ### k05 -/
def spGoesOn (K : PySem.W.Frag) : Sp := fun vs H Q _ => ∃ (l t : Addr) (ps : List P3) (seats b e : Nat), vs = [.ref l, .int seats, .ref t] ∧ PartsAt H l ps ∧ Way seats b e ps ∧ b < e ∧ ps.length ≤ 1000 ∧ H t = some (.tup [.int b, .int e]) ∧ ∀ H', Ex H H' → Q (.bl true) H'
/-- a ticket's stretch -/
def StrAt (H : Hp) (u : Addr) (x : Nat × List P3) : Prop := H u = some (.tup [.int ((hdP x.2).2.1 : Int), .int ((ltP x.2).2.2 : Int)])
def spStands (K : PySem.W.Frag) : Sp := fun vs H Q _ => ∃ (S : Addr → Prop) (p so sl : Addr) (us : List Addr) (T : Tr), vs = [.ref p, .ref so, .ref sl, .int T.rows.length, .int T.stops] ∧ TrainAt K H S p T ∧ Good T ∧ T.coming < 90000 ∧ H so = some (.lst ((keys T).map V.int)) ∧ H sl = some (.lst (us.map V.ref)) ∧ All2 (StrAt H) us T.sold ∧
  ∀ H', Ex H H' → Q (.bl true) H'
/-! ### a train made -/
theorem Play.base {K : PySem.W.Frag} {H0 H1 H : Hp} {p : Addr} {T : Tr} {S : Addr → Prop} (e : Ex H0 H1) (P : Play K H1 H p T S) : Play K H0 H p T S := ⟨e.trans P.ex, P.tr, P.good, fun a s => Evl.fresh_back e (P.fresh a s), P.live⟩
def MkR (C : Addr) (sp : Sp) (E : L2.St → XK) (σ : L2.St) (Q : VK) (vs : List V) (H1 : Hp) : Prop := ∀ x dx, H1 x = none → H1 dx = none → dx ≠ x → sp (.ref x :: vs) (upd (upd H1 dx (.own x)) x (.ins C dx [])) (fun v H2 => v = .non ∧ Q (.ref x) H2) (E σ)
theorem s_make {C : Addr} {sp : Sp} {E : L2.St → XK} {t : TA} {σ : L2.St} {H : Hp} {Q : VK} (h : t σ H fun vs H1 => MkR C sp E σ Q vs H1) : tMakeS C sp E t σ H Q := h
theorem v_make {K : PySem.W.Frag} {C : Addr} {E : L2.St → XK} {σ : L2.St} {Q : VK} {H : Hp} {n1 n2 : Nat} (hn1 : 1 ≤ n1) (hn2 : n1 ≤ 60) (hn3 : 2 ≤ n2) (hn4 : n2 ≤ 60) (hC : C = He.ga K "Train") (k : ∀ p S H2, Play K H H2 p (Tr.new n1 n2) S → Q (.ref p) H2) : MkR C (spInit K) E σ Q [.int (n1 : Int), .int (n2 : Int)] H := by
  subst hC
  intro p dx np ndx nex
  refine ⟨p, dx, n1, n2, rfl, upd_same, fun hok H1 S keep new A1 => ⟨rfl, ?_⟩, fun hbad => absurd (by omega) hbad⟩
  have A1' : TrainAt K H1 S p (Tr.new n1 n2) := A1
  have e1 : Ex H H1 := fun a o h => keep a o (ne_of_none h np) (by rw [upd_ne (ne_of_none h np), upd_ne (ne_of_none h ndx)]; exact h)
  obtain ⟨S0, hS0, A0⟩ := A1'.there
  exact k p S0 H1 ⟨e1, A0, Good.new hn1 hn2 hn3 hn4, fun a s => (by
    rcases new a (hS0 a s).1 with y | y
    · rw [y]
      exact np
    · exact (fresh_upd (fresh_upd y).2).2), fun a s => (hS0 a s).2⟩
theorem c_cells {K : PySem.W.Frag} {H : Hp} {Q : VK} {E : XK} {a : Addr} {ns : List Int} (h : SqL K H a (ns.map V.int)) (hn : ns.length ≤ 63) (k : ∀ H' l xs, Ex H H' → H l = none → CellsAt H' l xs → Q (.ref l) H') : spCells K [.ref a] H Q E := ⟨a, ns, rfl, h, hn, k⟩
theorem kind_cases (k : Kind) : k = .sell ∨ k = .back ∨ k = .leave ∨ k = .reseat := by
  cases k with
  | sell => exact .inl rfl
  | back => exact .inr (.inl rfl)
  | leave => exact .inr (.inr (.inl rfl))
  | reseat => exact .inr (.inr (.inr rfl))
theorem keys_set {T T' : Tr} {i n : Nat} {ps qs : List P3} (hi : T.sold[i]? = some (n, ps)) (h : T'.sold = T.sold.set i (n, qs)) : keys T' = keys T := by
  unfold keys
  rw [h]
  apply List.ext_getElem?
  intro j
  rw [List.getElem?_map, List.getElem?_map, List.getElem?_set]
  by_cases e : i = j
  · subst e
    rw [if_pos rfl, if_pos (lt_of_get hi), hi]
    rfl
  · rw [if_neg e]
/-! ### what a deed makes of the tickets and their stretches -/
structure StrRun (T : Tr) (x : Deed) (o : Out) : Prop where
  sell : o.word = "" → x.k = .sell → ∃ ps, o.tr.sold = T.sold ++ [(T.coming, ps)] ∧ ((hdP ps).2.1 : Int) = x.a ∧ ((ltP ps).2.2 : Int) = x.b
  back : o.word = "" → x.k = .back → ∃ i n ps, x.a = ((n : Nat) : Int) ∧ T.sold[i]? = some (n, ps) ∧ o.tr.sold = T.sold.eraseIdx i
  leave : o.word = "" → x.k = .leave → ∃ i n ps qs, x.a = ((n : Nat) : Int) ∧ T.sold[i]? = some (n, ps) ∧ o.tr.sold = T.sold.set i (n, qs) ∧ (hdP qs).2.1 = (hdP ps).2.1 ∧ ((ltP qs).2.2 : Int) = x.b
  reseat : o.word = "" → x.k = .reseat → ∃ i n ps qs, x.a = ((n : Nat) : Int) ∧ T.sold[i]? = some (n, ps) ∧ o.tr.sold = T.sold.set i (n, qs) ∧ (hdP qs).2.1 = (hdP ps).2.1 ∧ (ltP qs).2.2 = (ltP ps).2.2
theorem Good.strRun {T : Tr} (G : Good T) (x : Deed) : StrRun T x (T.run x) := by
  obtain ⟨k, a, b⟩ := x
  refine ⟨fun hw hk => ?_, fun hw hk => ?_, fun hw hk => ?_, fun hw hk => ?_⟩ <;> dsimp only at hk <;> subst hk
  · revert hw
    show (runSell T a b).word = "" → ∃ ps, (runSell T a b).tr.sold = _ ∧ _
    unfold runSell
    split
    · rename_i hs
      split
      · rename_i hf
        intro _
        have hab : a.toNat < b.toNat := by have := hs.1; have := hs.2.1; omega
        have hbs : b.toNat ≤ T.stops - 1 := by have := hs.2.2; have := hs.1; have := hs.2.1; omega
        obtain ⟨w, _⟩ := found_way G.wf.legs hbs _ a.toNat (Nat.le_refl _) (Nat.le_of_lt hab) (full_none.mp hf)
        obtain ⟨h1, h2⟩ := w.hd hab
        refine ⟨found T.rows a.toNat b.toNat, ?_, ?_, ?_⟩
        · show putS T.sold T.coming _ = _
          rw [putS_new G.low]
        · have := hs.1
          show ((hdP _).2.1 : Int) = a
          rw [h1]
          omega
        · have := hs.1
          have := hs.2.1
          show ((ltP _).2.2 : Int) = b
          rw [h2]
          omega
      · exact fun h => absurd (show ("full" : Str) = "" from h) (by decide +kernel)
    · exact fun h => absurd (show ("stretch" : Str) = "" from h) (by decide +kernel)
  · revert hw
    show (runBack T a).word = "" → ∃ i n ps, _ ∧ _ ∧ (runBack T a).tr.sold = _
    unfold runBack
    cases hg : getS T.sold a with
    | none => exact fun h => absurd (show ("ticket" : Str) = "" from h) (by decide +kernel)
    | some ps =>
      obtain ⟨i, n, hn, hi, ho⟩ := getS_ix hg G.wf.rising
      intro _
      refine ⟨i, n, ps, hn, hi, ?_⟩
      show dropS T.sold a.toNat = _
      have : a.toNat = n := by omega
      rw [this]
      exact dropS_ix hi ho
  · revert hw
    show (runLeave T a b).word = "" → ∃ i n ps qs, _ ∧ _ ∧ (runLeave T a b).tr.sold = _ ∧ _
    unfold runLeave
    cases hg : getS T.sold a with
    | none => exact fun h => absurd (show ("ticket" : Str) = "" from h) (by decide +kernel)
    | some ps =>
      dsimp only
      split
      · rename_i hc
        obtain ⟨i, n, hn, hi, ho⟩ := getS_ix hg G.wf.rising
        intro _
        obtain ⟨b0, e0, hb0, he0, w⟩ := G.way _ (List.mem_of_getElem? hi)
        dsimp only at w
        obtain ⟨h1, h2⟩ := w.hd hb0
        have wk := kept_way w (s := b.toNat) (by omega) (by omega)
        obtain ⟨h3, h4⟩ := wk.hd (by omega)
        refine ⟨i, n, ps, keptP ps b.toNat, hn, hi, ?_, ?_, ?_⟩
        · show putS T.sold a.toNat _ = _
          have : a.toNat = n := by omega
          rw [this]
          exact putS_ix hi ho
        · rw [h3, h1]
        · show ((ltP _).2.2 : Int) = b
          rw [h4]
          omega
      · exact fun h => absurd (show ("stop" : Str) = "" from h) (by decide +kernel)
  · revert hw
    show (runReseat T a).word = "" → ∃ i n ps qs, _ ∧ _ ∧ (runReseat T a).tr.sold = _ ∧ _
    unfold runReseat
    cases hg : getS T.sold a with
    | none => exact fun h => absurd (show ("ticket" : Str) = "" from h) (by decide +kernel)
    | some ps =>
      obtain ⟨i, n, hn, hi, ho⟩ := getS_ix hg G.wf.rising
      intro _
      obtain ⟨b0, e0, hb0, he0, w⟩ := G.way _ (List.mem_of_getElem? hi)
      dsimp only at w
      obtain ⟨h1, h2⟩ := w.hd hb0
      obtain ⟨_, wn, _⟩ := newP_way G.wf w hb0 he0
      obtain ⟨h3, h4⟩ := wn.hd hb0
      refine ⟨i, n, ps, newP T ps, hn, hi, ?_, by rw [h3, h1], by rw [h4, h2]⟩
      show putS T.sold a.toNat _ = _
      have : a.toNat = n := by omega
      rw [this]
      exact putS_ix hi ho
end Lg

namespace Lg
open PySem PySem.Spec PyProof.Rows L2
/-! ### k06 -/
theorem enc_strU {s : Str} (h : (PyData.str s).canLay0 = true) : Enc (fun _ : Unit => PyData.str s) 0 := ⟨fun x y => by rw [PyData.eqv]; simp, fun _ => h, fun _ => Nat.le_refl _⟩
section
variable {K : PySem.W.Frag} {σ : L2.St} {H : Hp} {Q : VK} {te : TE} {l p q a : Addr}
theorem dp_strU {s : Str} (h : H a = some (.lst [.str s])) : Dp K H (.ref a) (.list ([()].map fun _ => PyData.str s)) :=
  .lst (SqL.of h) (dpAll ⟨rfl, fun i x y hx hy => by
    match i with
    | 0 => cases hx; cases hy; exact .str s
    | i + 1 => cases hx⟩)
theorem v_eqS1 {s : Str} (hs : (PyData.str s).canLay0 = true) (h : H p = some (.lst [.str s])) (h2 : H q = some (.lst [.str s])) (k : Q (.bl true) H) : rEqD K (.ref p) (.ref q) H Q := by
  refine req_of (a := [()]) (b := [()]) (Enc.list (enc_strU hs)) (by decide) (dp_strU h) (dp_strU h2) ?_
  rw [decide_eq_true rfl]
  exact k
theorem v_neS1 {s : Str} (hs : (PyData.str s).canLay0 = true) (h : H p = some (.lst [.str s])) (h2 : H q = some (.lst [.str s])) (k : Q (.bl false) H) : rNeD K (.ref p) (.ref q) H Q := by
  refine rne_of (a := [()]) (b := [()]) (Enc.list (enc_strU hs)) (by decide) (dp_strU h) (dp_strU h2) ?_
  rw [decide_eq_true rfl]
  exact k
theorem v_slTake {xs : List V} {c : Nat} (h : H p = some (.lst xs)) (hc : c ≤ xs.length) (k : ∀ l H2, H l = none → Ex H H2 → H2 l = some (.lst (xs.take c)) → Q (.ref l) H2) : rSlL K (.ref p) none (some (c : Int)) H Q := by
  refine ⟨p, _, rfl, SqL.of h, fun l hl => k l _ hl (Evl.Ex.new hl) ?_⟩
  rw [upd_same]
  unfold cutV
  rw [HT.sIx_none, HT.sIx_nat, List.drop_zero, Nat.min_eq_left hc, Nat.sub_zero]
/-- values over a grid's rows -/
theorem lc_gridV {as : List Addr} {g : Grid} {j : Nat} {vs : List Nat} (G : GridAt H a as g) (hn : g.length ≤ 100000) (f : List (Option Nat) → V) (hw : ∀ x, wipe ((wipe σ vs).set j (some x)) vs = wipe σ vs)
    (he : ∀ (b : Addr) (row : List (Option Nat)) H' (Q' : VK), row ∈ g → RowAt H' b row → Ex H H' → (∀ H2, Ex H' H2 → Q' (f row) H2) → te ((wipe σ vs).set j (some (.ref b))) H' Q')
    (k : ∀ D H2, H D = none → Ex H H2 → H2 D = some (.lst (g.map f)) → Q (.ref D) H2) : LcR (gName j) tYes te vs σ Q (Itl K a) H := by
  intro D hD
  have hl : (as.map V.ref).length = g.length := by rw [List.length_map, G.row.len]
  refine lc_v (walk_list (K := K) (a := a) (xs := as.map V.ref)) y_list hD (fun H2 e2 => sqL_of G.top e2) (by rw [hl]; exact hn) (fun _ => true) (fun i => ((g[i]?).map f).getD .non) hw lc_yes (fun i x H2 hi hx _ e2 Q2 q2 => ?_) fun H2 e2 h2 => k D H2 hD e2 (by rw [h2, kept_all, hl, range_map])
  obtain ⟨b, hb, rfl⟩ := map_back hx
  obtain ⟨row, hrow, hr2⟩ := G.row.left hb
  rw [hrow] at q2
  exact he b row H2 Q2 (List.mem_of_getElem? hrow) (e2 _ _ hr2) e2 q2
/-- those of a range that pass -/
theorem lc_keepR {b n j : Nat} {vs : List Nat} {tt : TT} (hn : n ≤ 100000) (keep : Nat → Bool) (hw : ∀ x, wipe ((wipe σ vs).set j (some x)) vs = wipe σ vs)
    (ht : ∀ i H' (Q' : Bool → Hp → Prop), i < n → Ex H H' → (∀ H2, Ex H' H2 → Q' (keep i) H2) → tt ((wipe σ vs).set j (some (.int ((b : Int) + (i : Int))))) H' Q')
    (he : ∀ i H' (Q' : VK), i < n → keep i = true → Ex H H' → (∀ H2, Ex H' H2 → Q' (.int ((b : Int) + (i : Int))) H2) → te ((wipe σ vs).set j (some (.int ((b : Int) + (i : Int))))) H' Q')
    (k : ∀ D H2, H D = none → Ex H H2 → H2 D = some (.lst (((kept n keep).map fun i : Nat => (b : Int) + (i : Int)).map V.int)) → Q (.ref D) H2) : LcR (gName j) tt te vs σ Q (Itr (b : Int) n) H := by
  intro D hD
  refine lc_v walk_range y_range hD (fun _ _ => trivial) hn keep (fun i : Nat => .int ((b : Int) + (i : Int))) hw (fun i x H2 hi hx e2 Q2 q2 => ?_) (fun i x H2 hi hx hk e2 Q2 q2 => ?_) fun H2 e2 h2 => k D H2 hD e2 (by rw [h2, List.map_map]; rfl)
  · rw [hx]
    exact ht i H2 Q2 hi e2 q2
  · rw [hx]
    exact he i H2 Q2 hi hk e2 q2
end
theorem kept_first {g : Grid} {b n : Nat} : firstFull g b (b + n) = ((kept n fun i => fullLeg g (b + i)).map fun i => b + i).head? := by
  unfold firstFull kept
  rw [show b + n - b = n by omega, List.range'_eq_map_range, List.find?_map, List.head?_map, List.head?_filter]
  have e : (fun i => fullLeg g (b + i)) = (fullLeg g ∘ fun x => b + x) := rfl
  rw [e]
theorem keptP_valid {seats n c : Nat} {ps : List P3} (h : ∀ q ∈ ps, q.1 < seats ∧ q.2.1 < q.2.2 ∧ q.2.2 ≤ n) : ∀ q ∈ keptP ps c, q.1 < seats ∧ q.2.1 < q.2.2 ∧ q.2.2 ≤ n := by
  intro q m
  unfold keptP at m
  obtain ⟨x, mx, rfl⟩ := List.mem_map.mp m
  obtain ⟨m1, m2⟩ := List.mem_filter.mp mx
  have := h x m1
  have m3 := of_decide_eq_true m2
  dsimp only
  omega
theorem goneP_valid {seats n c : Nat} {ps : List P3} (h : ∀ q ∈ ps, q.1 < seats ∧ q.2.1 < q.2.2 ∧ q.2.2 ≤ n) : ∀ q ∈ goneP ps c, q.1 < seats ∧ q.2.1 < q.2.2 ∧ q.2.2 ≤ n := by
  intro q m
  unfold goneP at m
  obtain ⟨x, mx, rfl⟩ := List.mem_map.mp m
  obtain ⟨m1, m2⟩ := List.mem_filter.mp mx
  have := h x m1
  have m3 := of_decide_eq_true m2
  dsimp only
  omega
theorem covers_in {ps : List P3} {seats n s l : Nat} (h : ∀ q ∈ ps, q.1 < seats ∧ q.2.1 < q.2.2 ∧ q.2.2 ≤ n) (c : covers ps s l) : s < seats ∧ l < n := by
  obtain ⟨q, m, h1, h2, h3⟩ := c
  have := h q m
  omega
theorem Good.leave_rows {T : Tr} (G : Good T) {t c : Nat} {ps : List P3} (m : (t, ps) ∈ T.sold) : markAll (markAll T.rows ps none) (keptP ps c) (some t) = markAll T.rows (goneP ps c) none := by
  obtain ⟨b, e, hb, he, w⟩ := G.way _ m
  have hv : ∀ q ∈ ps, q.1 < T.rows.length ∧ q.2.1 < q.2.2 ∧ q.2.2 ≤ T.stops - 1 := w.valid he
  have hk := keptP_valid (c := c) hv
  have hg := goneP_valid (c := c) hv
  have r1 := markAll_row none ps T.rows G.wf.legs
  refine grid_ext (n := T.stops - 1) (by rw [markAll_len, markAll_len, markAll_len]) (markAll_row _ _ _ r1) (markAll_row _ _ _ G.wf.legs) fun s l _ _ => ?_
  rw [markAll_cell (n := T.stops - 1) _ _ r1 fun q m => by rw [markAll_len]; exact ⟨(hk q m).1, (hk q m).2.2⟩, markAll_cell (n := T.stops - 1) _ _ G.wf.legs fun q m => ⟨(hv q m).1, (hv q m).2.2⟩, markAll_cell (n := T.stops - 1) _ _ G.wf.legs fun q m => ⟨(hg q m).1, (hg q m).2.2⟩]
  by_cases hc : covers ps s l
  · obtain ⟨i1, i2⟩ := covers_in hv hc
    by_cases hl : l < c
    · rw [if_pos (covers_kept.mpr ⟨hc, hl⟩), if_neg (fun z => by have := (covers_gone.mp z).2; omega)]
      exact ((G.cell s l t i1 i2).mpr ⟨_, m, rfl, hc⟩).symm
    · rw [if_neg (fun z => by have := (covers_kept.mp z).2; omega), if_pos hc, if_pos (covers_gone.mpr ⟨hc, by omega⟩)]
  · rw [if_neg (fun z => hc (covers_kept.mp z).1), if_neg hc, if_neg (fun z => hc (covers_gone.mp z).1)]
theorem run_sell_yes {T : Tr} {a b : Int} (h : (T.run ⟨.sell, a, b⟩).word = "") : ∃ b' e' : Nat, a = (b' : Int) ∧ b = (e' : Int) ∧ b' < e' ∧ e' < T.stops ∧ firstFull T.rows b' e' = none ∧ T.run ⟨.sell, a, b⟩ = ⟨"", .num T.coming, T.sell b' e'⟩ := by
  have e0 : T.run ⟨.sell, a, b⟩ = runSell T a b := rfl
  rw [e0] at h ⊢
  unfold runSell at h ⊢
  split at h
  · rename_i hs
    rw [if_pos hs]
    split at h
    · rename_i hf
      rw [if_pos hf]
      obtain ⟨h1, h2, h3⟩ := hs
      exact ⟨a.toNat, b.toNat, by omega, by omega, by omega, by omega, hf, rfl⟩
    · exact absurd (show ("full" : Str) = "" from h) (by decide +kernel)
  · exact absurd (show ("stretch" : Str) = "" from h) (by decide +kernel)
theorem run_none {T : Tr} {k : Kind} {t b : Int} (hk : k ≠ .sell) (h : getS T.sold t = none) : T.run ⟨k, t, b⟩ = ⟨"ticket", .non, T⟩ := by
  cases k with
  | sell => exact absurd rfl hk
  | back =>
    show runBack T t = _
    unfold runBack
    rw [h]
  | leave =>
    show runLeave T t b = _
    unfold runLeave
    rw [h]
  | reseat => exact run_reseat_no h
theorem run_back {T : Tr} {n : Nat} {b : Int} {ps : List P3} (h : getS T.sold (n : Int) = some ps) : T.run ⟨.back, (n : Int), b⟩ = ⟨"", .parts ps, T.back n ps⟩ := by
  show runBack T (n : Int) = _
  unfold runBack
  rw [h]
  rfl
theorem run_leave {T : Tr} {n : Nat} {b : Int} {ps : List P3} (h : getS T.sold (n : Int) = some ps) (hb : ((hdP ps).2.1 : Int) < b ∧ b < ((ltP ps).2.2 : Int)) : T.run ⟨.leave, (n : Int), b⟩ = ⟨"", .parts (goneP ps b.toNat), T.leave n b.toNat ps⟩ := by
  show runLeave T (n : Int) b = _
  unfold runLeave
  rw [h]
  dsimp only
  rw [if_pos hb]
  rfl
theorem run_leave_no {T : Tr} {n : Nat} {b : Int} {ps : List P3} (h : getS T.sold (n : Int) = some ps) (hb : ¬ (((hdP ps).2.1 : Int) < b ∧ b < ((ltP ps).2.2 : Int))) : T.run ⟨.leave, (n : Int), b⟩ = ⟨"stop", .non, T⟩ := by
  show runLeave T (n : Int) b = _
  unfold runLeave
  rw [h]
  dsimp only
  rw [if_neg hb]
theorem run_sell_no {T : Tr} {a b : Int} (h : (T.run ⟨.sell, a, b⟩).word ≠ "") : ∃ w : Str, w ≠ "" ∧ (PyData.str w).canLay0 = true ∧ T.run ⟨.sell, a, b⟩ = ⟨w, .non, T⟩ := by
  have e0 : T.run ⟨.sell, a, b⟩ = runSell T a b := rfl
  rw [e0] at h ⊢
  unfold runSell at h ⊢
  split at h
  · rename_i hs
    rw [if_pos hs]
    split at h
    · exact absurd rfl h
    · rename_i hf
      rw [if_neg hf]
      exact ⟨_, by decide +kernel, by decide +kernel, rfl⟩
  · rename_i hs
    rw [if_neg hs]
    exact ⟨_, by decide +kernel, by decide +kernel, rfl⟩
def spFF (K : PySem.W.Frag) : Sp := fun vs H Q _ => ∃ (r l t : Addr) (as : List Addr) (g : Grid) (n b e : Nat), vs = [.ref r, .ref l, .ref t] ∧ GridAt H r as g ∧ (∀ row ∈ g, row.length = n) ∧ g.length ≤ 1000 ∧ n ≤ 1000 ∧ b < e ∧ e ≤ n ∧ (∀ l, b ≤ l → l < e → fullLeg g l = false) ∧ PartsAt H l (found g b e) ∧ H t = some (.tup [.int (b : Int), .int (e : Int)]) ∧ ∀ H', Ex H H' → Q (.bl true) H'
def spRowOf6 (K : PySem.W.Frag) : Sp := fun vs H Q _ => ∃ (S : Addr → Prop) (p d : Addr) (T : Tr) (a b : Int), vs = [.ref p, .ref d] ∧ TrainAt K H S p T ∧ DeedAt H d ⟨.sell, a, b⟩ ∧
  ((T.run ⟨.sell, a, b⟩).word = "" → ∀ H' l, Ex H H' → H l = none → PartsAt H' l (found T.rows a.toNat b.toNat) → Q (.ref l) H') ∧ ((T.run ⟨.sell, a, b⟩).word ≠ "" → ∀ H' l, Ex H H' → H l = none → H' l = some (.lst [.str (T.run ⟨.sell, a, b⟩).word]) → Q (.ref l) H')
def spOffer6 (K : PySem.W.Frag) : Sp := fun vs H Q _ => ∃ (S : Addr → Prop) (p r t : Addr) (as : List Addr) (T : Tr) (b e : Nat), vs = [.ref p, .ref r, .ref t] ∧ TrainAt K H S p T ∧ GridAt H r as T.rows ∧ H t = some (.tup [.int (b : Int), .int (e : Int)]) ∧ b < e ∧ e < T.stops ∧ ∀ H', Ex H H' → Q (.bl true) H'
def spSoldAnew (K : PySem.W.Frag) : Sp := fun vs H Q _ => ∃ (S : Addr → Prop) (p r c st : Addr) (as : List Addr) (T : Tr) (t : Nat) (g : Grid) (n b e : Nat), vs = [.ref p, .ref r, .ref c, .int (t : Int), .ref st] ∧ TrainAt K H S p T ∧ getS T.sold (t : Int) = some (found g b e) ∧ GridAt H r as g ∧ as.Nodup ∧ r ∉ as ∧ (∀ row ∈ g, row.length = n) ∧ g.length ≤ 1000 ∧ n ≤ 1000 ∧ b < e ∧ e ≤ n ∧ (∀ l, b ≤ l → l < e → fullLeg g l = false) ∧ PartsAt H c (found g b e) ∧ H st = some (.tup [.int (b : Int), .int (e : Int)]) ∧ ∀ H', Beside as H H' → GridAt H' r as (markAll g (found g b e) (some t)) → Q (.bl true) H'
end Lg

namespace Lg
open PySem PySem.Spec PyProof.Rows L2
/-! ### k14: two trains, two worlds, and what was handed out -/
def Own (S U : Nat → Addr → Prop) (a : Addr) : Prop := ∃ j, j < 2 ∧ (S j a ∨ U j a)
def setN {α : Type} (f : Nat → α) (j : Nat) (x : α) : Nat → α := fun i => if i = j then x else f i
theorem setN_same {α : Type} (f : Nat → α) (j : Nat) (x : α) : setN f j x j = x := if_pos rfl
theorem setN_ne {α : Type} {f : Nat → α} {i j : Nat} {x : α} (h : i ≠ j) : setN f j x i = f i := if_neg h
structure Duo (K : PySem.W.Frag) (H0 H : Hp) (p w : Nat → Addr) (T : Nat → Tr) (S U : Nat → Addr → Prop) : Prop where
  ex : Ex H0 H
  two : ∀ j, j < 2 → Two K H (p j) (w j) (T j) (T j) (S j) (U j)
  fresh : ∀ a, Own S U a → H0 a = none
  dj : ∀ i j, i < 2 → j < 2 → i ≠ j → ∀ a, S i a ∨ U i a → ¬ (S j a ∨ U j a)
section
variable {K : PySem.W.Frag} {H0 H H' : Hp} {p w : Nat → Addr} {T : Nat → Tr} {S U : Nat → Addr → Prop}
theorem Duo.live (D : Duo K H0 H p w T S U) {a : Addr} (h : Own S U a) : ∃ o, H a = some o := by
  obtain ⟨j, hj, h⟩ := h
  rcases h with h | h
  · exact (D.two j hj).aS a h
  · exact (D.two j hj).aU a h
theorem Duo.keep (D : Duo K H0 H p w T S U) (e : Ex H0 H') (k : ∀ a o, Own S U a → H a = some o → H' a = some o) (kt : ∀ a xs, H a = some (.tup xs) → H' a = some (.tup xs)) : Duo K H0 H' p w T S U where
  ex := e
  two j hj := by
    have t := D.two j hj
    refine ⟨t.tr.mono (fun a o s h => k a o ⟨j, hj, .inl s⟩ h) kt, t.wo.mono (fun a o s h => k a o ⟨j, hj, .inr s⟩ h) kt, t.dj, fun a s => ?_, fun a s => ?_⟩
    · obtain ⟨o, h⟩ := t.aS a s
      exact ⟨o, k a o ⟨j, hj, .inl s⟩ h⟩
    · obtain ⟨o, h⟩ := t.aU a s
      exact ⟨o, k a o ⟨j, hj, .inr s⟩ h⟩
  fresh := D.fresh
  dj := D.dj
theorem Duo.more (D : Duo K H0 H p w T S U) (e : Ex H H') : Duo K H0 H' p w T S U := D.keep (D.ex.trans e) (fun a o _ h => e a o h) fun a xs h => e a _ h
theorem own_new {j : Nat} {S' U' : Addr → Prop} (hj : j < 2) (m : Mv H H' (fun a => S j a ∨ U j a) (fun a => S' a ∨ U' a)) {a : Addr} (h : Own (setN S j S') (setN U j U') a) : Own S U a ∨ H a = none := by
  obtain ⟨i, hi, h⟩ := h
  by_cases e : i = j
  · subst e
    rw [setN_same, setN_same] at h
    rcases m.new a h with z | z
    · exact .inl ⟨i, hi, z⟩
    · exact .inr z
  · rw [setN_ne e, setN_ne e] at h
    exact .inl ⟨i, hi, h⟩
theorem Duo.step (D : Duo K H0 H p w T S U) {j : Nat} (hj : j < 2) {T' : Tr} {S' U' : Addr → Prop} (m : Mv H H' (fun a => S j a ∨ U j a) (fun a => S' a ∨ U' a)) (t : Two K H' (p j) (w j) T' T' S' U') : Duo K H0 H' p w (setN T j T') (setN S j S') (setN U j U') := by
  have live : ∀ i, i < 2 → ∀ a, S i a ∨ U i a → H a ≠ none := fun i hi a h z => by
    obtain ⟨o, ho⟩ := D.live ⟨i, hi, h⟩
    rw [z] at ho
    cases ho
  refine ⟨fun a o h => m.keep a o (fun z => ?_) (D.ex a o h), fun i hi => ?_, fun a h => ?_, fun i k hi hk hik a h1 h2 => ?_⟩
  · rw [D.fresh a ⟨j, hj, z⟩] at h
    cases h
  · by_cases e : i = j
    · subst e
      rw [setN_same, setN_same, setN_same]
      exact t
    · rw [setN_ne e, setN_ne e, setN_ne e]
      have q := D.two i hi
      have off := D.dj i j hi hj e
      refine ⟨q.tr.mono (fun a o s h => m.keep a o (off a (.inl s)) h) m.tups, q.wo.mono (fun a o s h => m.keep a o (off a (.inr s)) h) m.tups, q.dj, fun a s => ?_, fun a s => ?_⟩
      · obtain ⟨o, h⟩ := q.aS a s
        exact ⟨o, m.keep a o (off a (.inl s)) h⟩
      · obtain ⟨o, h⟩ := q.aU a s
        exact ⟨o, m.keep a o (off a (.inr s)) h⟩
  · rcases own_new hj m h with z | z
    · exact D.fresh a z
    · exact Evl.fresh_back D.ex z
  · by_cases e : i = j
    · subst e
      rw [setN_same, setN_same] at h1
      rw [setN_ne (fun z => hik z.symm), setN_ne (fun z => hik z.symm)] at h2
      rcases m.new a h1 with z | z
      · exact D.dj i k hi hk hik a z h2
      · exact live k hk a h2 z
    · rw [setN_ne e, setN_ne e] at h1
      by_cases e2 : k = j
      · subst e2
        rw [setN_same, setN_same] at h2
        rcases m.new a h2 with z | z
        · exact D.dj i k hi hk hik a h1 z
        · exact live i hi a h1 z
      · rw [setN_ne e2, setN_ne e2] at h2
        exact D.dj i k hi hk hik a h1 h2
/-- all that the law holds -/
structure St (K : PySem.W.Frag) (H0 H : Hp) (p w : Nat → Addr) (T : Nat → Tr) (S U : Nat → Addr → Prop) (X : Addr → Prop) (lt lw lc kp : Addr) (vs : List V) (ks : List Addr) : Prop where
  duo : Duo K H0 H p w T S U
  hlt : H lt = some (.lst [.ref (p 0), .ref (p 1)])
  hlw : H lw = some (.lst [.ref (w 0), .ref (w 1)])
  cel : CellsAt H lc vs
  hkp : H kp = some (.lst (ks.map V.ref))
  off : ∀ a, a = lt ∨ a = lw ∨ a = lc ∨ a = kp → ¬ (Own S U a ∨ X a)
  kept : ∀ k ∈ ks, KeptAt H (fun a => Own S U a ∨ X a) kp kp k
  nk : H0 kp = none ∧ lt ≠ kp ∧ lw ≠ kp ∧ lc ≠ kp
variable {X X' : Addr → Prop} {lt lw lc kp : Addr} {vs : List V} {ks : List Addr}
theorem St.at_ (Z : St K H0 H p w T S U X lt lw lc kp vs ks) {a : Addr} (h : a = lt ∨ a = lw ∨ a = lc ∨ a = kp) : ∃ o, H a = some o := by
  rcases h with rfl | rfl | rfl | rfl
  · exact ⟨_, Z.hlt⟩
  · exact ⟨_, Z.hlw⟩
  · exact ⟨_, Z.cel.1⟩
  · exact ⟨_, Z.hkp⟩
theorem St.more (Z : St K H0 H p w T S U X lt lw lc kp vs ks) (e : Ex H H') (hX : ∀ a, X' a → X a ∨ H a = none) : St K H0 H' p w T S U X' lt lw lc kp vs ks := by
  have key : ∀ a o, ¬ (Own S U a ∨ X a) → H a = some o → ¬ (Own S U a ∨ X' a) := fun a o n h z => by
    rcases z with z | z
    · exact n (.inl z)
    · rcases hX a z with z | z
      · exact n (.inr z)
      · rw [h] at z
        cases z
  refine ⟨Z.duo.more e, e _ _ Z.hlt, e _ _ Z.hlw, Z.cel.mono (fun o h => e _ _ h) (fun a xs h => e _ _ h), e _ _ Z.hkp, fun a h => ?_, fun k m => (Z.kept k m).to (fun a o _ _ _ h => e a o h) (fun a xs h => e a _ h) key, Z.nk⟩
  obtain ⟨o, ho⟩ := Z.at_ h
  exact key a o (Z.off a h) ho
theorem St.step (Z : St K H0 H p w T S U X lt lw lc kp vs ks) {j : Nat} (hj : j < 2) {T' : Tr} {S' U' : Addr → Prop} (m : Mv H H' (fun a => S j a ∨ U j a) (fun a => S' a ∨ U' a)) (t : Two K H' (p j) (w j) T' T' S' U') (hX : ∀ a, X' a → Own S U a ∨ H a = none) :
    St K H0 H' p w (setN T j T') (setN S j S') (setN U j U') X' lt lw lc kp vs ks := by
  have key : ∀ a o, ¬ (Own S U a ∨ X a) → H a = some o → ¬ (Own (setN S j S') (setN U j U') a ∨ X' a) := fun a o n h z => by
    have z2 : Own S U a ∨ H a = none := z.elim (own_new hj m) (hX a)
    rcases z2 with z | z
    · exact n (.inl z)
    · rw [h] at z
      cases z
  have kp' : ∀ a o, ¬ (Own S U a ∨ X a) → H a = some o → H' a = some o := fun a o n h => m.keep a o (fun z => n (.inl ⟨j, hj, z⟩)) h
  refine ⟨Z.duo.step hj m t, kp' _ _ (Z.off _ (.inl rfl)) Z.hlt, kp' _ _ (Z.off _ (.inr (.inl rfl))) Z.hlw, Z.cel.mono (fun o h => kp' _ _ (Z.off _ (.inr (.inr (.inl rfl)))) h) m.tups, kp' _ _ (Z.off _ (.inr (.inr (.inr rfl)))) Z.hkp, fun a h => ?_, fun k mk => (Z.kept k mk).to (fun a o n _ _ h => kp' a o n h) m.tups key, Z.nk⟩
  obtain ⟨o, ho⟩ := Z.at_ h
  exact key a o (Z.off a h) ho
theorem St.grow {l k c : Addr} {xs : List V} {xss : List (List Int)} (Z : St K H0 H p w T S U (fun a => a = l) lt lw lc kp vs ks) (nl : ¬ Own S U l) (l0 : H0 l = none) (hl : H l = some (.lst xs)) (fr : ∀ a o, a ≠ l → a ≠ kp → H a = some o → H' a = some o) (h1 : H' kp = some (.lst ((ks ++ [k]).map V.ref))) (h2 : H' k = some (.lst [.ref l, .ref c])) (t1 : TupsAt H' l xss) (t2 : TupsAt H' c xss) (nk : H k = none) (nc : H c = none) : St K H0 H' p w T S U (fun _ => False) lt lw lc kp vs (ks ++ [k]) := by
  have okp := Z.off kp (.inr (.inr (.inr rfl)))
  have kt : ∀ a xs, H a = some (.tup xs) → H' a = some (.tup xs) := fun a xs h => fr a _ (ne_of h hl (fun z => by cases z)) (ne_of h Z.hkp (fun z => by cases z)) h
  have nlk : l ≠ kp := fun z => okp (.inr z.symm)
  have D : Duo K H0 H' p w T S U := by
    refine Z.duo.keep (fun a o h => fr a o (fun z => ?_) (fun z => ?_) (Z.duo.ex a o h)) (fun a o s h => fr a o (fun z => nl (z ▸ s)) (fun z => okp (.inl (z ▸ s))) h) kt
    · rw [z, l0] at h
      cases h
    · rw [z, Z.nk.1] at h
      cases h
  have fo : ∀ a, H a = none → ¬ (Own S U a ∨ False) ∧ a ≠ kp := fun a h => ⟨fun z => by
    rcases z with z | z
    · obtain ⟨o, ho⟩ := Z.duo.live z
      rw [h] at ho
      cases ho
    · exact z, fun z => by
    rw [z, Z.hkp] at h
    cases h⟩
  have ne : ∀ a, a = lt ∨ a = lw ∨ a = lc ∨ a = kp → a ≠ l := fun a h z => Z.off a h (.inr z)
  refine ⟨D, fr _ _ (ne _ (.inl rfl)) Z.nk.2.1 Z.hlt, fr _ _ (ne _ (.inr (.inl rfl))) Z.nk.2.2.1 Z.hlw, Z.cel.mono (fun o h => fr _ _ (ne _ (.inr (.inr (.inl rfl)))) Z.nk.2.2.2 h) kt, h1, fun a h z => Z.off a h (z.elim .inl (fun z => z.elim)), fun k' m => ?_, Z.nk⟩
  rcases List.mem_append.mp m with m | m
  · exact (Z.kept k' m).to (fun a o n _ n2 h => fr a o (fun z => n (.inr z)) n2 h) kt fun a o n _ z => n (z.elim .inl (fun z => z.elim))
  · rw [List.mem_singleton.mp m]
    refine ⟨l, c, xss, h2, t1, t2, fun a ha => ?_⟩
    rcases ha with rfl | rfl | rfl
    · exact ⟨(fo _ nk).1, (fo _ nk).2, (fo _ nk).2⟩
    · exact ⟨fun z => z.elim nl id, nlk, nlk⟩
    · exact ⟨(fo _ nc).1, (fo _ nc).2, (fo _ nc).2⟩
end
def spChanged (K : PySem.W.Frag) : Sp := fun vs H Q _ => ∃ (v : V) (kp : Addr) (ks : List Addr), vs = [v, .ref kp] ∧ H kp = some (.lst (ks.map V.ref)) ∧ ks.length ≤ 100000 ∧
  ((v = .non ∧ Q .non H) ∨ ∃ (l : Addr) (xs : List V), v = .ref l ∧ l ≠ kp ∧ H l = some (.lst xs) ∧ xs.length ≤ 100000 ∧
    ∀ H' k c xss, (∀ a o, a ≠ l → a ≠ kp → H a = some o → H' a = some o) → H' kp = some (.lst ((ks ++ [k]).map V.ref)) → H' k = some (.lst [.ref l, .ref c]) → TupsAt H' l xss → TupsAt H' c xss → H k = none → H c = none → Q .non H')
theorem c_changedX {K : PySem.W.Frag} {H0 H : Hp} {p w : Nat → Addr} {T : Nat → Tr} {S U : Nat → Addr → Prop} {lt lw lc kp l : Addr} {vs xs : List V} {ks : List Addr} {Q : VK} {E : XK}
    (Z : St K H0 H p w T S U (fun a => a = l) lt lw lc kp vs ks) (nl : ¬ Own S U l) (l0 : H0 l = none) (hl : H l = some (.lst xs)) (hx : xs.length ≤ 100000) (hks : ks.length ≤ 100000)
    (k : ∀ H2 ks', ks'.length = ks.length + 1 → (∀ a o, a ≠ kp → a ≠ l → H a = some o → H2 a = some o) → St K H0 H2 p w T S U (fun _ => False) lt lw lc kp vs ks' → Q .non H2) : spChanged K [.ref l, .ref kp] H Q E := by
  refine ⟨_, kp, ks, rfl, Z.hkp, hks, .inr ⟨l, xs, rfl, fun z => Z.off kp (.inr (.inr (.inr rfl))) (.inr z.symm), hl, hx, fun H' kk c xss fr h1 h2 t1 t2 nk nc => ?_⟩⟩
  exact k H' (ks ++ [kk]) (by rw [List.length_append]; rfl) (fun a o n n2 h => fr a o n2 n h) (Z.grow nl l0 hl fr h1 h2 t1 t2 nk nc)
theorem c_changed {K : PySem.W.Frag} {H0 H H1 : Hp} {p w : Nat → Addr} {T : Nat → Tr} {S U : Nat → Addr → Prop} {X : Addr → Prop} {lt lw lc kp l : Addr} {vs xs : List V} {ks : List Addr} {Q : VK} {E : XK}
    (Z : St K H0 H p w T S U X lt lw lc kp vs ks) (n : H l = none) (e : Ex H H1) (hl : H1 l = some (.lst xs)) (hx : xs.length ≤ 100000) (hks : ks.length ≤ 100000)
    (k : ∀ H2 ks', ks'.length = ks.length + 1 → (∀ a o, a ≠ kp → H a = some o → H2 a = some o) → St K H0 H2 p w T S U (fun _ => False) lt lw lc kp vs ks' → Q .non H2) : spChanged K [.ref l, .ref kp] H1 Q E := by
  refine c_changedX (Z.more e (X' := fun a => a = l) (fun a z => .inr (by rw [z]; exact n))) (fun z => ?_) (Evl.fresh_back Z.duo.ex n) hl hx hks fun H2 ks' h1 fr Z2 => k H2 ks' h1 (fun a o na h => fr a o na (fun z => ?_) (e _ _ h)) Z2
  · obtain ⟨o, ho⟩ := Z.duo.live z
    rw [n] at ho
    cases ho
  · rw [z, n] at h
    cases h
theorem c_changedN {K : PySem.W.Frag} {H : Hp} {kp : Addr} {ks : List Addr} {Q : VK} {E : XK} (h : H kp = some (.lst (ks.map V.ref))) (hks : ks.length ≤ 100000) (k : Q .non H) : spChanged K [.non, .ref kp] H Q E := ⟨_, kp, ks, rfl, h, hks, .inl ⟨rfl, k⟩⟩
def duo {α : Type} (x y : α) : Nat → α := fun j => if j = 0 then x else y
theorem duo_at {f : Nat → Addr} {j : Nat} (h : j < 2) : [f 0, f 1][j]? = some (f j) := by
  match j, h with
  | 0, _ => rfl
  | 1, _ => rfl
theorem Duo.start {K : PySem.W.Frag} {H H1 H2 H3 H4 H5 : Hp} {p0 p1 w0 w1 : Addr} {T : Tr} {S0 S1 U0 U1 : Addr → Prop} (P0 : Play K H H1 p0 T S0) (P1 : Play K H1 H2 p1 T S1) (e3 : Ex H2 H3) (e4 : Ex H3 H4) (W0 : WorldAt H4 U0 w0 T) (u0 : ∀ a, U0 a → H3 a = none ∧ ∃ o, H4 a = some o) (e5 : Ex H4 H5) (W1 : WorldAt H5 U1 w1 T) (u1 : ∀ a, U1 a → H4 a = none ∧ ∃ o, H5 a = some o) :
    Duo K H H5 (duo p0 p1) (duo w0 w1) (fun _ => T) (duo S0 S1) (duo U0 U1) := by
  have no : ∀ {h h' : Hp} {a : Addr}, (∃ o, h a = some o) → Ex h h' → h' a = none → False := fun ⟨o, ho⟩ e n => by
    have := e _ _ ho
    rw [n] at this
    cases this
  have nx : ∀ {h h' : Hp} {a : Addr}, (∃ o, h a = some o) → Ex h h' → ∃ o, h' a = some o := fun ⟨o, ho⟩ e => ⟨o, e _ _ ho⟩
  have x1 := P0.ex
  have x2 := P1.ex
  have s01 : ∀ a, S0 a → ¬ S1 a := fun a h z => no (P0.live a h) (Evl.Ex.refl _) (P1.fresh a z)
  have s0u0 : ∀ a, S0 a → ¬ U0 a := fun a h z => no (P0.live a h) (x2.trans e3) (u0 a z).1
  have s0u1 : ∀ a, S0 a → ¬ U1 a := fun a h z => no (P0.live a h) ((x2.trans e3).trans e4) (u1 a z).1
  have s1u0 : ∀ a, S1 a → ¬ U0 a := fun a h z => no (P1.live a h) e3 (u0 a z).1
  have s1u1 : ∀ a, S1 a → ¬ U1 a := fun a h z => no (P1.live a h) (e3.trans e4) (u1 a z).1
  have u01 : ∀ a, U0 a → ¬ U1 a := fun a h z => no (u0 a h).2 (Evl.Ex.refl _) (u1 a z).1
  have cs : ∀ j, j < 2 → j = 0 ∨ j = 1 := fun j h => by omega
  refine ⟨x1.trans (x2.trans (e3.trans (e4.trans e5))), fun j hj => ?_, fun a ⟨j, hj, h⟩ => ?_, fun i j hi hj hij a h z => ?_⟩
  · rcases cs j hj with rfl | rfl
    · exact ⟨P0.tr.ex (x2.trans (e3.trans (e4.trans e5))), W0.ex e5, s0u0, fun a h => nx (P0.live a h) (x2.trans (e3.trans (e4.trans e5))), fun a h => nx (u0 a h).2 e5⟩
    · exact ⟨P1.tr.ex (e3.trans (e4.trans e5)), W1, s1u1, fun a h => nx (P1.live a h) (e3.trans (e4.trans e5)), fun a h => (u1 a h).2⟩
  · rcases cs j hj with rfl | rfl
    · rcases h with h | h
      · exact P0.fresh a h
      · exact Evl.fresh_back (x1.trans (x2.trans e3)) (u0 a h).1
    · rcases h with h | h
      · exact Evl.fresh_back x1 (P1.fresh a h)
      · exact Evl.fresh_back (x1.trans (x2.trans (e3.trans e4))) (u1 a h).1
  · rcases cs i hi with rfl | rfl
    · rcases cs j hj with rfl | rfl
      · exact hij rfl
      · rcases h with h | h
        · rcases z with z | z
          · exact s01 a h z
          · exact s0u1 a h z
        · rcases z with z | z
          · exact s1u0 a z h
          · exact u01 a h z
    · rcases cs j hj with rfl | rfl
      · rcases h with h | h
        · rcases z with z | z
          · exact s01 a z h
          · exact s1u0 a h z
        · rcases z with z | z
          · exact s0u1 a z h
          · exact u01 a z h
      · exact hij rfl
theorem v_slTop2 {K : PySem.W.Frag} {H : Hp} {Q : VK} {p : Addr} {xs : List V} (h : H p = some (.lst xs)) (k : ∀ l H2, H l = none → Ex H H2 → H2 l = some (.lst (xs.take 2)) → Q (.ref l) H2) : rSlL K (.ref p) none (some 2) H Q := by
  refine ⟨p, _, rfl, SqL.of h, fun l hl => k l _ hl (Evl.Ex.new hl) ?_⟩
  rw [upd_same]
  unfold cutV
  rw [HT.sIx_none, show (2 : Int) = ((2 : Nat) : Int) from rfl, HT.sIx_nat, List.drop_zero, Nat.sub_zero]
  by_cases hc : 2 ≤ xs.length
  · rw [Nat.min_eq_left hc]
  · rw [Nat.min_eq_right (by omega), List.take_of_length_le (Nat.le_refl _), List.take_of_length_le (by omega)]
theorem run_kind {T : Tr} {x : Deed} (h : x.k ≠ .sell) : (T.run x).res = .non ∨ ∃ ps, (T.run x).res = .parts ps := by
  obtain ⟨k, a, b⟩ := x
  cases k with
  | sell => exact absurd rfl h
  | back =>
    show (runBack T a).res = .non ∨ ∃ ps, (runBack T a).res = .parts ps
    unfold runBack
    split
    · exact .inl rfl
    · exact .inr ⟨_, rfl⟩
  | leave =>
    show (runLeave T a b).res = .non ∨ ∃ ps, (runLeave T a b).res = .parts ps
    unfold runLeave
    split
    · exact .inl rfl
    · split
      · exact .inr ⟨_, rfl⟩
      · exact .inl rfl
  | reseat =>
    show (runReseat T a).res = .non ∨ ∃ ps, (runReseat T a).res = .parts ps
    unfold runReseat
    split
    · exact .inl rfl
    · exact .inr ⟨_, rfl⟩
def Fit (n1 n2 i : Nat) (T : Tr) : Prop := Good T ∧ T.stops = n2 ∧ T.rows.length = n1 ∧ T.coming ≤ i
/-- a deed, done by a train and by its world -/
theorem St.deed {K : PySem.W.Frag} {H0 H H1 H2 : Hp} {p w : Nat → Addr} {T : Nat → Tr} {S U : Nat → Addr → Prop} {X : Addr → Prop} {lt lw lc kp : Addr} {vs : List V} {ks : List Addr} {j : Nat} {x : Deed} {S' U' : Addr → Prop} {v : V} {n1 n2 i : Nat}
    (Z : St K H0 H p w T S U X lt lw lc kp vs ks) (hj : j < 2) (F : ∀ j, j < 2 → Fit n1 n2 i (T j)) (mv : Mv H H1 (S j) S') (A : TrainAt K H1 S' (p j) ((T j).run x).tr) (rv : ResV H H1 (S j) S' ((T j).run x).res v) (mv2 : Mv H1 H2 (U j) U') (W : WorldAt H2 U' (w j) ((T j).run x).tr) :
    ∃ (T2 : Nat → Tr) (S2 U2 : Nat → Addr → Prop), St K H0 H2 p w T2 S2 U2 (fun a => v = .ref a) lt lw lc kp vs ks ∧ (∀ j, j < 2 → Fit n1 n2 (i + 1) (T2 j)) ∧
      ∀ l, v = .ref l → ¬ Own S2 U2 l ∧ H0 l = none ∧ ∀ ps, ((T j).run x).res = .parts ps → PartsAt H2 l ps := by
  have D := Z.duo
  obtain ⟨S2, two2, hS2⟩ := (D.two j hj).train mv A
  obtain ⟨U2, two3, hU2⟩ := two2.world mv2 W
  obtain ⟨G', hst', hrl', hco1, hco2⟩ := (F j hj).1.run x
  have m1 : Mv H H1 (fun a => S j a ∨ U j a) (fun a => S2 a ∨ U j a) := ⟨mv.orL.keep, mv.tups, fun a h => mv.orL.new a (h.imp (fun z => (hS2 a z).1) id)⟩
  have m2 : Mv H1 H2 (fun a => S2 a ∨ U j a) (fun a => S2 a ∨ U2 a) := ⟨fun a o n h => mv2.keep a o (fun z => n (.inr z)) h, mv2.tups, fun a h => h.elim (fun z => .inl (.inl z)) (fun z => (hU2 a z).2.imp .inr id)⟩
  have live : ∀ {a}, Own S U a → H a ≠ none := fun h z => by
    obtain ⟨o, ho⟩ := D.live h
    rw [z] at ho
    cases ho
  have told : ∀ l, v = .ref l → ∃ ps, ((T j).run x).res = .parts ps ∧ (S j l ∨ H l = none) ∧ ¬ S' l ∧ PartsAt H1 l ps := fun l hl => by
    revert rv
    cases ((T j).run x).res with
    | non =>
      intro rv
      have rv : v = .non := rv
      rw [rv] at hl
      cases hl
    | num n =>
      intro rv
      have rv : v = .int n := rv
      rw [rv] at hl
      cases hl
    | parts ps =>
      rintro ⟨l', h1, h2, h3, h4⟩
      rw [h1] at hl
      cases hl
      exact ⟨ps, rfl, h2, h3, h4⟩
  refine ⟨_, _, _, Z.step hj (m1.trans m2) two3 (X' := fun a => v = .ref a) fun a h => ?_, fun k hk => ?_, fun l hl => ?_⟩
  · obtain ⟨ps, _, h2, _⟩ := told a h
    exact h2.imp (fun z => ⟨j, hj, .inl z⟩) id
  · by_cases e : k = j
    · subst e
      rw [setN_same]
      obtain ⟨f1, f2, f3, f4⟩ := F k hk
      exact ⟨G', by omega, by omega, by omega⟩
    · rw [setN_ne e]
      obtain ⟨f1, f2, f3, f4⟩ := F k hk
      exact ⟨f1, f2, f3, by omega⟩
  · obtain ⟨ps, hr, h2, h3, h4⟩ := told l hl
    have nU : ¬ U j l := fun z => by
      rcases h2 with h | h
      · exact (D.two j hj).dj l h z
      · exact live ⟨j, hj, .inr z⟩ h
    have nH1 : H1 l ≠ none := fun z => by
      obtain ⟨ts, h, _⟩ := h4
      rw [z] at h
      cases h
    refine ⟨fun ⟨k, hk, h⟩ => ?_, ?_, fun ps' hp => ?_⟩
    · by_cases e : k = j
      · subst e
        rw [setN_same, setN_same] at h
        rcases h with h | h
        · exact h3 (hS2 l h).1
        · rcases (hU2 l h).2 with z | z
          · exact nU z
          · exact nH1 z
      · rw [setN_ne e, setN_ne e] at h
        rcases h2 with z | z
        · exact D.dj k j hk hj e l h (.inl z)
        · exact live ⟨k, hk, h⟩ z
    · rcases h2 with z | z
      · exact D.fresh l ⟨j, hj, .inl z⟩
      · exact Evl.fresh_back D.ex z
    · rw [hr] at hp
      cases hp
      exact parts_at h4 (fun o z => mv2.keep _ _ nU z) mv2.tups
end Lg

namespace Lg
open PySem PySem.Spec PyProof.Rows L2 TL
/-! ### texts: the plain side -/
def isNum (l : List Nat) : Bool := l.all (fun c => decide (48 ≤ c) && decide (c ≤ 57)) && !l.isEmpty && decide (l.length ≤ 9) && (decide (l.length = 1) || decide (l.head? ≠ some 48))
def numOf (z : Str) : Option Nat := if isNum (tl z) = true then some (NumText.digitsVal (tl z)) else none
def numbersOf (z w : Str) : Option (List Nat) := match Txt.split z " " with
  | [] => none
  | a :: r => if a = w then r.mapM numOf else none
def goesBad (acc : List P3) (a b : Nat) : Bool := match acc.getLast? with
  | some q => decide (q.2.2 ≠ b) || decide (q.1 = a)
  | none => false
def partsGo (T : Tr) : List P3 → List Nat → Str × List P3
  | acc, a :: b :: c :: r => if ¬ a < T.rows.length then ("seat", acc) else if ¬ (b < c ∧ c < T.stops) then ("stretch", acc) else if goesBad acc a b = true then ("stretch", acc)
    else if reach (T.rows[a]?.getD []) b < c then ("shared", acc) else partsGo T (acc ++ [(a, b, c)]) r
  | acc, _ => ("", acc)
def Tr.put (T : Tr) (t : Nat) (ps : List P3) : Tr := { T with rows := markAll T.rows ps (some t), sold := putS T.sold t ps, coming := t + 1 }
def readGo (c : Nat) : Tr → List (List Nat) → Str × Tr
  | T, (t :: ns) :: r => if c ≤ t ∨ t < T.coming then ("ticket", T) else if (partsGo T [] ns).1 = "" then readGo c (T.put t (partsGo T [] ns).2) r else ((partsGo T [] ns).1, T)
  | T, _ => ("", T)
def headOk (h : List Nat) (ts : List (List Nat)) : Bool := decide (h.length = 3) && ts.all fun t => decide (3 < t.length) && decide (t.length % 3 = 1)
def readH (h : List Nat) (ts : List (List Nat)) : Str × Tr := match h with
  | [a, b, c] => if 1 ≤ a ∧ a ≤ 60 ∧ 2 ≤ b ∧ b ≤ 60 then ((readGo c (Tr.new a b) ts).1, { (readGo c (Tr.new a b) ts).2 with coming := c }) else ("train", Tr.new 1 2)
  | _ => ("text", Tr.new 1 2)
def readT (z : Str) : Str × Tr := match Txt.split z "\n" with
  | [] => ("text", Tr.new 1 2)
  | a :: r => match numbersOf a "train", r.mapM (fun x => numbersOf x "ticket") with
    | some h, some ts => if headOk h ts = true then readH h ts else ("text", Tr.new 1 2)
    | _, _ => ("text", Tr.new 1 2)
/-- a number's text -/
def nT (n : Nat) : Str := Str.ofString (toString ((n : Nat) : Int))
def partW (q : P3) : List Str := [nT q.1, nT q.2.1, nT q.2.2]
def wordsT (x : Nat × List P3) : List Str := "ticket" :: nT x.1 :: (x.2.map partW).flatten
def headW (T : Tr) : List Str := ["train", nT T.rows.length, nT T.stops, nT T.coming]
def textT (T : Tr) : Str := Txt.join "\n" (Txt.join " " (headW T) :: T.sold.map fun x => Txt.join " " (wordsT x))
theorem log_ok {n : Nat} (h : n < 1000000000) : ((n : Int)).natAbs.log2 < 1920 := by
  rw [Int.natAbs_natCast]
  by_cases h0 : n = 0
  · rw [h0]
    decide
  · exact Nat.lt_of_lt_of_le ((Nat.log2_lt h0 (k := 30)).mpr (Nat.lt_of_lt_of_le h (by decide))) (by decide)
section
variable {K : PySem.W.Frag} {σ : L2.St} {H : Hp} {Q : VK} {nx bk ct : L2.St → Hp → Prop} {rt : VK}
theorem fr_str {z : Str} {g : TG} {tb : TS} (Pv : Nat → L2.St → Hp → Prop) (h0 : Pv 0 σ H)
    (hs : ∀ (i c : Nat) σ H, (tl z)[i]? = some c → Pv i σ H → g (.str ⟨#[c]⟩) σ H fun σ2 H2 => tb ⟨Pv (i + 1), rt, nx, Pv (i + 1)⟩ σ2 H2) (hd : ∀ σ H, Pv (tl z).length σ H → nx σ H) : ForR g tb ⟨nx, rt, bk, ct⟩ σ (Its z) H := by
  have hsz : (tl z).length = z.cps.size := by unfold tl; rw [Array.length_toList]
  refine ⟨fun i m σ H => m = (tl z).length - i ∧ i ≤ (tl z).length ∧ Pv i σ H, ⟨_, rfl, Nat.zero_le _, h0⟩, ?_⟩
  rintro i m σ H ⟨rfl, hi, p⟩
  by_cases hlt : i < (tl z).length
  · refine .inr ⟨show i < z.cps.size by rw [← hsz]; exact hlt, Pv (i + 1), fun σ' H' p' => ⟨_, by omega, rfl, hlt, p'⟩, fun x H' y => ?_⟩
    obtain ⟨rfl, c, hc, rfl⟩ := y
    exact hs i c σ _ (by rw [← hc]; unfold tl; rw [Array.getElem?_toList]) p
  · have e : i = (tl z).length := by omega
    subst e
    exact .inl ⟨show z.cps.size ≤ (tl z).length by rw [hsz]; exact Nat.le_refl _, hd σ H p⟩
theorem fr_range3 {lo c : Int} {n : Nat} {g : TG} {tb : TS} (Pv : Nat → L2.St → Hp → Prop) (h0 : Pv 0 σ H)
    (hs : ∀ (i : Nat) σ H, i < n → Pv i σ H → g (.int (lo + (i : Int) * c)) σ H fun σ2 H2 => tb ⟨Pv (i + 1), rt, nx, Pv (i + 1)⟩ σ2 H2) (hd : ∀ σ H, Pv n σ H → nx σ H) : ForR g tb ⟨nx, rt, bk, ct⟩ σ (Itc lo c n) H := by
  refine ⟨fun i m σ H => m = n - i ∧ i ≤ n ∧ Pv i σ H, ⟨_, rfl, Nat.zero_le _, h0⟩, ?_⟩
  rintro i m σ H ⟨rfl, hi, p⟩
  by_cases hlt : i < n
  · refine .inr ⟨hlt, Pv (i + 1), fun σ' H' p' => ⟨_, by omega, rfl, hlt, p'⟩, fun x H' y => ?_⟩
    obtain ⟨rfl, rfl⟩ := y
    exact hs i σ _ hlt p
  · have e : i = n := by omega
    subst e
    exact .inl ⟨Nat.le_refl _, hd σ H p⟩
theorem s_tM1 {r : V → List V → Hp → VK → Prop} {to te : TE} (h : to σ H fun x H1 => (∃ a, x = .str a) ∧ te σ H1 fun y H2 => r x [y] H2 Q) : tM1 r to te σ H Q := h
theorem s_strAnd {a : Str} {P : Prop} (k : P) : (∃ b, V.str a = .str b) ∧ P := ⟨⟨a, rfl⟩, k⟩
theorem v_split {a b : Str} (hb : (b.length == 0) = false) (hz : a.length + 2 ≤ sizeLine) (k : ∀ l H2, H l = none → Ex H H2 → H2 l = some (.lst ((Txt.split a b).map V.str)) → Q (.ref l) H2) :
    ∃ a' b', V.str a = .str a' ∧ [V.str b] = [.str b'] ∧ (b'.length == 0) = false ∧ a'.length + 2 ≤ sizeLine ∧ rNewStrs (Txt.split a' b') H Q :=
  ⟨a, b, rfl, rfl, hb, hz, fun l hl => k l _ hl (Evl.Ex.new hl) upd_same⟩
end
theorem figs {c : Nat} : c ∈ (("0123456789" : Str)).cps.toList ↔ 48 ≤ c ∧ c ≤ 57 := by
  rw [show (("0123456789" : Str)).cps.toList = [48, 49, 50, 51, 52, 53, 54, 55, 56, 57] by decide +kernel]
  simp only [List.mem_cons, List.not_mem_nil, or_false]
  omega
theorem nT_tl (n : Nat) : tl (nT n) = numL n := tl_num n
theorem nT_len {n : Nat} (h : n < 1000000000) : (nT n).length ≤ 9 := by
  rw [len_tl, nT_tl]
  exact numL_len (k := 9) (by decide) h
theorem joinL_len (S : List Nat) : ∀ ps : List (List Nat), (joinL S ps).length ≤ (ps.map List.length).sum + ps.length * S.length
  | [] => Nat.zero_le _
  | [p] => by simp [joinL]
  | p :: q :: r => by
    have ih := joinL_len S (q :: r)
    simp only [joinL, List.length_append, List.map_cons, List.sum_cons, List.length_cons] at ih ⊢
    have e : (r.length + 1 + 1) * S.length = (r.length + 1) * S.length + S.length := by rw [Nat.add_mul, Nat.one_mul]
    omega
theorem join_len (y : Str) (ps : List Str) : (Txt.join y ps).length ≤ (ps.map (·.length)).sum + ps.length * y.length := by
  rw [len_tl, join_eq, tl_join]
  have h := joinL_len (tl y) (ps.map tl)
  rw [List.map_map, List.length_map, ← len_tl] at h
  have e : (List.length ∘ tl) = fun x : Str => x.length := by
    funext x
    exact (len_tl x).symm
  rw [e] at h
  exact h
theorem sum_le {b : Nat} : ∀ {l : List Nat}, (∀ x ∈ l, x ≤ b) → l.sum ≤ l.length * b
  | [], _ => Nat.zero_le _
  | x :: r, h => by
    have h1 := h x List.mem_cons_self
    have h2 := sum_le (l := r) fun y m => h y (List.mem_cons_of_mem _ m)
    rw [List.sum_cons, List.length_cons, Nat.add_mul, Nat.one_mul]
    omega
theorem sum_len {b : Nat} {ps : List Str} (h : ∀ x ∈ ps, x.length ≤ b) : (ps.map (·.length)).sum ≤ ps.length * b := by
  have := sum_le (l := ps.map (·.length)) (b := b) fun n m => by
    obtain ⟨x, mx, rfl⟩ := List.mem_map.mp m
    exact h x mx
  rwa [List.length_map] at this
theorem head_text (x y z : Str) : (("train " : Str) ++ x ++ " " ++ y ++ " " ++ z) = Txt.join " " ["train", x, y, z] := by
  apply ext_tl
  rw [join_eq, tl_join]
  simp only [tl_append, List.map_cons, List.map_nil, joinL]
  rw [show tl ("train " : Str) = tl ("train" : Str) ++ tl (" " : Str) by decide +kernel]
  simp only [List.append_assoc]
theorem words_len {x : Nat × List P3} {seats e b : Nat} (h : x.1 < 1000000000) (w : Way seats b e x.2) (hs : seats ≤ 60) (he : e ≤ 60) : (∀ y ∈ wordsT x, y.length ≤ 9) ∧ (wordsT x).length = 2 + 3 * x.2.length := by
  refine ⟨fun y m => ?_, ?_⟩
  · unfold wordsT at m
    rcases List.mem_cons.mp m with rfl | m
    · decide +kernel
    rcases List.mem_cons.mp m with rfl | m
    · exact nT_len h
    obtain ⟨l, ml, my⟩ := List.mem_flatten.mp m
    obtain ⟨q, mq, rfl⟩ := List.mem_map.mp ml
    have := w.mem q mq
    unfold partW at my
    simp only [List.mem_cons, List.not_mem_nil, or_false] at my
    rcases my with rfl | rfl | rfl
    · exact nT_len (by omega)
    · exact nT_len (by omega)
    · exact nT_len (by omega)
  · unfold wordsT
    rw [List.length_cons, List.length_cons, List.length_flatten, List.map_map]
    have e : (List.length ∘ partW) = fun _ => 3 := by
      funext q
      rfl
    rw [e, List.map_const', List.sum_replicate_nat]
    omega
theorem flat_len (ps : List P3) : ((ps.map partW).flatten).length = 3 * ps.length := by
  rw [List.length_flatten, List.map_map]
  have e : (List.length ∘ partW) = fun _ => 3 := by
    funext q
    rfl
  rw [e, List.map_const', List.sum_replicate_nat]
  omega
theorem flat_snoc {ps : List P3} {j : Nat} {q : P3} (h : ps[j]? = some q) : ((ps.take (j + 1)).map partW).flatten = ((ps.take j).map partW).flatten ++ partW q := by
  rw [take_snoc h, List.map_append, List.flatten_append]
  simp
theorem joinL_snoc (S q : List Nat) : ∀ {ps : List (List Nat)}, ps ≠ [] → joinL S (ps ++ [q]) = joinL S ps ++ (S ++ q)
  | [], h => absurd rfl h
  | [p], _ => rfl
  | p :: p2 :: r, _ => by
    have ih := joinL_snoc S q (ps := p2 :: r) (by simp)
    show p ++ (S ++ joinL S ((p2 :: r) ++ [q])) = p ++ (S ++ joinL S (p2 :: r)) ++ (S ++ q)
    rw [ih]
    simp only [List.append_assoc]
theorem join_snoc {y : Str} {ws : List Str} (h : ws ≠ []) (a : Str) : Txt.join y (ws ++ [a]) = Txt.join y ws ++ y ++ a := by
  apply ext_tl
  rw [join_eq, join_eq, tl_join, tl_append, tl_append, tl_join, List.map_append, List.map_cons, List.map_nil, joinL_snoc _ _ (by simpa using h), List.append_assoc]
theorem row_snoc {n j : Nat} {ps : List P3} {q : P3} (h : ps[j]? = some q) : Txt.join " " (wordsT (n, ps.take (j + 1))) = Txt.join " " (wordsT (n, ps.take j)) ++ " " ++ nT q.1 ++ " " ++ nT q.2.1 ++ " " ++ nT q.2.2 := by
  have e : wordsT (n, ps.take (j + 1)) = ((wordsT (n, ps.take j) ++ [nT q.1]) ++ [nT q.2.1]) ++ [nT q.2.2] := by
    unfold wordsT
    dsimp only
    rw [flat_snoc h]
    unfold partW
    simp only [List.cons_append, List.append_assoc, List.nil_append]
  have ne : wordsT (n, ps.take j) ≠ [] := by
    unfold wordsT
    simp
  rw [e, join_snoc (by simp), join_snoc (by simp), join_snoc ne]
theorem row_len {n : Nat} {ps : List P3} (h : n < 1000000000) (hq : ∀ q ∈ ps, q.1 < 1000 ∧ q.2.1 < 1000 ∧ q.2.2 < 1000) : (Txt.join " " (wordsT (n, ps))).length ≤ 30 * ps.length + 20 := by
  have hl : (wordsT (n, ps)).length = 2 + 3 * ps.length := by
    unfold wordsT
    rw [List.length_cons, List.length_cons, flat_len]
    dsimp only
    omega
  have hy : ∀ y ∈ wordsT (n, ps), y.length ≤ 9 := fun y m => by
    unfold wordsT at m
    rcases List.mem_cons.mp m with rfl | m
    · decide +kernel
    rcases List.mem_cons.mp m with rfl | m
    · exact nT_len h
    obtain ⟨l, ml, my⟩ := List.mem_flatten.mp m
    obtain ⟨q, mq, rfl⟩ := List.mem_map.mp ml
    have := hq q mq
    unfold partW at my
    simp only [List.mem_cons, List.not_mem_nil, or_false] at my
    rcases my with rfl | rfl | rfl
    · exact nT_len (by omega)
    · exact nT_len (by omega)
    · exact nT_len (by omega)
  have h1 := join_len " " (wordsT (n, ps))
  have h2 := sum_len hy
  rw [show (" " : Str).length = 1 by decide +kernel, hl] at h1
  rw [hl] at h2
  omega
theorem ticket_text (n : Nat) : (("ticket " : Str) ++ nT n) = Txt.join " " (wordsT (n, [])) := by
  apply ext_tl
  rw [join_eq, tl_join, tl_append]
  show _ = joinL _ [tl ("ticket" : Str), tl (nT n)]
  rw [show tl ("ticket " : Str) = tl ("ticket" : Str) ++ tl (" " : Str) by decide +kernel]
  show _ = tl ("ticket" : Str) ++ (tl (" " : Str) ++ tl (nT n))
  rw [List.append_assoc]
theorem text_sum {T0 : Tr} (G : Good T0) (hco : T0.coming < 2000) : ((Txt.join " " (headW T0) :: T0.sold.map fun x => Txt.join " " (wordsT x)).map (·.length)).sum + (Txt.join " " (headW T0) :: T0.sold.map fun x => Txt.join " " (wordsT x)).length * ("\n" : Str).length ≤ 16777216 := by
  have wf := G.wf
  have w1 := wf.s1
  have w2 := wf.s2
  have w3 := wf.t1
  have w4 := wf.t2
  have hmany := G.many
  have ls : (" " : Str).length = 1 := by decide +kernel
  have h1 : ∀ y ∈ (Txt.join " " (headW T0) :: T0.sold.map fun x => Txt.join " " (wordsT x)), y.length ≤ 3000 := fun y m => by
    rcases List.mem_cons.mp m with rfl | m
    · have := join_len " " (headW T0)
      have e : ((headW T0).map (·.length)).sum ≤ 40 := by
        have h5 : ("train" : Str).length = 5 := by decide +kernel
        show ("train" : Str).length + ((nT T0.rows.length).length + ((nT T0.stops).length + ((nT T0.coming).length + 0))) ≤ 40
        have := nT_len (n := T0.rows.length) (by omega)
        have := nT_len (n := T0.stops) (by omega)
        have := nT_len (n := T0.coming) (by omega)
        omega
      rw [ls] at this
      have : (headW T0).length = 4 := rfl
      omega
    · obtain ⟨x, mx, rfl⟩ := List.mem_map.mp m
      obtain ⟨b, e, hb, he, w⟩ := G.way x mx
      have hlow := G.low x mx
      have hlen := w.len
      have wl := words_len (x := x) (by omega) w w2 (by omega)
      have h2 := join_len " " (wordsT x)
      have h3 := sum_len wl.1
      rw [ls, wl.2] at h2
      rw [wl.2] at h3
      omega
  have h2 := sum_len h1
  have ln : ("\n" : Str).length = 1 := by decide +kernel
  rw [ln]
  rw [List.length_cons, List.length_map] at *
  omega
theorem mapM_some {α β : Type} {f : α → Option β} (d : β) : ∀ {r : List α} {ns : List β}, r.mapM f = some ns → r.map (fun z => (f z).getD d) = ns ∧ ∀ z ∈ r, ∃ n, f z = some n
  | [], ns, h => by
    rw [List.mapM_nil] at h
    cases h
    exact ⟨rfl, fun z m => by cases m⟩
  | a :: r, ns, h => by
    rw [List.mapM_cons] at h
    cases ha : f a with
    | none =>
      rw [ha] at h
      cases h
    | some n =>
      cases hr : r.mapM f with
      | none =>
        rw [ha, hr] at h
        cases h
      | some ms =>
        rw [ha, hr] at h
        cases h
        obtain ⟨h1, h2⟩ := mapM_some d hr
        refine ⟨by rw [List.map_cons, ha, h1]; rfl, fun z m => ?_⟩
        rcases List.mem_cons.mp m with rfl | m
        · exact ⟨n, ha⟩
        · exact h2 z m
theorem mapM_of {α β : Type} {f : α → Option β} {g : α → β} : ∀ {r : List α}, (∀ z ∈ r, f z = some (g z)) → r.mapM f = some (r.map g)
  | [], _ => rfl
  | a :: r, h => by
    rw [List.mapM_cons, h a List.mem_cons_self, mapM_of (r := r) fun z m => h z (List.mem_cons_of_mem _ m)]
    rfl
theorem numOf_len {z : Str} {n : Nat} (h : numOf z = some n) : z.length ≤ 9 := by
  unfold numOf at h
  split at h
  · rename_i h1
    unfold isNum at h1
    simp only [Bool.and_eq_true, decide_eq_true_eq] at h1
    rw [len_tl]
    exact h1.1.2
  · cases h
theorem v_slDrop1 {K : PySem.W.Frag} {H : Hp} {Q : VK} {p : Addr} {x : V} {xs : List V} (h : H p = some (.lst (x :: xs))) (k : ∀ l H2, H l = none → Ex H H2 → H2 l = some (.lst xs) → Q (.ref l) H2) : rSlL K (.ref p) (some 1) none H Q := by
  refine ⟨p, _, rfl, SqL.of h, fun l hl => k l _ hl (Evl.Ex.new hl) ?_⟩
  rw [upd_same]
  unfold cutV
  rw [HT.sIx_none, show (1 : Int) = ((1 : Nat) : Int) from rfl, HT.sIx_nat, List.length_cons, Nat.min_eq_left (by omega), List.drop_one, List.tail_cons, List.take_of_length_le (by omega)]
theorem rg3 {m : Nat} (hm : m % 3 = 0) (hb : m ≤ 1000000) : RgC 1 ((m + 1 : Nat) : Int) 3 (m / 3) := by
  have e : Builtin.Range.rangeSize 1 ((m + 1 : Nat) : Int) 3 = ((m / 3 : Nat) : Int) := by
    unfold Builtin.Range.rangeSize
    rw [if_pos (by decide)]
    split <;> omega
  refine ⟨by decide, by decide, ?_, e⟩
  obtain ⟨j, hj⟩ : ∃ j : Int, j = ((m + 1 : Nat) : Int) := ⟨_, rfl⟩
  obtain ⟨k, hk⟩ : ∃ k : Int, k = ((m / 3 : Nat) : Int) := ⟨_, rfl⟩
  have h1 : 1 ≤ j ∧ j ≤ 1000001 := by omega
  have h2 : 0 ≤ k ∧ k ≤ 1000000 ∧ 3 * k + 1 = j := by omega
  rw [← hj, ← hk] at e
  rw [← hj]
  clear hj hk
  have f : ∀ i : Int, -9000000 ≤ i → i ≤ 9000000 → Builtin.Range.rangeFitsLong i = true := fun i a b => by
    unfold Builtin.Range.rangeFitsLong
    rw [decide_eq_true (show -(2 ^ 63) ≤ i by omega), decide_eq_true (show i < 2 ^ 63 by omega)]
    rfl
  unfold Builtin.Range.small
  rw [e]
  rw [f 1 (by omega) (by omega), f j (by omega) (by omega), f 3 (by omega) (by omega), f k (by omega) (by omega), if_pos (by decide), f (j + (3 - 1)) (by omega) (by omega), Bool.or_true]
  rfl
theorem drop3 {ns : List Nat} {i : Nat} (h : 3 * i + 2 < ns.length) : ∃ a b c, ns[3 * i]? = some a ∧ ns[3 * i + 1]? = some b ∧ ns[3 * i + 2]? = some c ∧ ns.drop (3 * i) = a :: b :: c :: ns.drop (3 * (i + 1)) := by
  refine ⟨ns[3 * i], ns[3 * i + 1], ns[3 * i + 2], List.getElem?_eq_getElem (by omega), List.getElem?_eq_getElem (by omega), List.getElem?_eq_getElem (by omega), ?_⟩
  rw [List.drop_eq_getElem_cons (by omega), List.drop_eq_getElem_cons (i := 3 * i + 1) (by omega), List.drop_eq_getElem_cons (i := 3 * i + 1 + 1) (by omega)]
  rfl
theorem partsGo_cons (T : Tr) (acc : List P3) (a b c : Nat) (r : List Nat) : partsGo T acc (a :: b :: c :: r) = (if ¬ a < T.rows.length then (("seat" : Str), acc) else if ¬ (b < c ∧ c < T.stops) then (("stretch" : Str), acc) else if goesBad acc a b = true then (("stretch" : Str), acc)
    else if reach (T.rows[a]?.getD []) b < c then (("shared" : Str), acc) else partsGo T (acc ++ [(a, b, c)]) r) := by rw [partsGo]
theorem PartsAt.snoc {H H' : Hp} {l t : Addr} {ps : List P3} {a b c : Nat} (h : PartsAt H l ps) (nt : l ≠ t) (ht : H t = some (.tup [.int (a : Int), .int (b : Int), .int (c : Int)])) (ch : Ch H H' l) (ts : List Addr) (hl : H l = some (.lst (ts.map V.ref))) (h' : H' l = some (.lst (ts.map V.ref ++ [.ref t]))) : PartsAt H' l (ps ++ [(a, b, c)]) := by
  obtain ⟨us, h1, h2⟩ := h
  have e : us = ts := by
    rw [hl] at h1
    have h3 : ts.map V.ref = us.map V.ref := by injection h1 with z; injection z
    have inj : ∀ {x y : List Addr}, x.map V.ref = y.map V.ref → x = y := fun {x} => by
      induction x with
      | nil =>
        intro y h
        cases y with
        | nil => rfl
        | cons y r => cases h
      | cons x r ih =>
        intro y h
        cases y with
        | nil => cases h
        | cons y q =>
          injection h with h4 h5
          injection h4 with h4
          rw [h4, ih h5]
    exact (inj h3).symm
  subst e
  refine ⟨us ++ [t], by rw [h', List.map_append]; rfl, (h2.mono fun x y z => ?_).snoc ?_⟩
  · exact ch_tup ch z
  · exact ch_tup ch ht
theorem readGo_cons (c : Nat) (T : Tr) (t : Nat) (ns : List Nat) (r : List (List Nat)) : readGo c T ((t :: ns) :: r) = (if c ≤ t ∨ t < T.coming then (("ticket" : Str), T) else if (partsGo T [] ns).1 = "" then readGo c (T.put t (partsGo T [] ns).2) r else ((partsGo T [] ns).1, T)) := by rw [readGo]
theorem partsGo_valid (T : Tr) : ∀ (ns : List Nat) (acc : List P3), (∀ q ∈ acc, q.1 < T.rows.length ∧ q.2.1 < q.2.2 ∧ q.2.2 < T.stops) → ∀ q ∈ (partsGo T acc ns).2, q.1 < T.rows.length ∧ q.2.1 < q.2.2 ∧ q.2.2 < T.stops
  | [], acc, h => by rw [partsGo]; exact h; exact fun _ _ _ _ z => by cases z
  | [a], acc, h => by rw [partsGo]; exact h; exact fun _ _ _ _ z => by cases z
  | [a, b], acc, h => by rw [partsGo]; exact h; exact fun _ _ _ _ z => by cases z
  | a :: b :: c :: r, acc, h => by
    rw [partsGo_cons]
    split
    · exact h
    · split
      · exact h
      · split
        · exact h
        · split
          · exact h
          · refine partsGo_valid T r _ fun q m => ?_
            rcases List.mem_append.mp m with m | m
            · exact h q m
            · rw [List.mem_singleton.mp m]
              dsimp only
              omega
def FlR (K : PySem.W.Frag) (f : Str) (nx : L2.St → Hp → Prop) (σ : L2.St) (y x : V) (H2 : Hp) : Prop := ∃ a C dx fs, x = .ref a ∧ H2 a = some (.ins C dx fs) ∧ Cls K C ∧ NoAttr K C f ∧ fs.length < 1000 ∧ nx σ (upd H2 a (.ins C dx (putF f y fs)))
theorem s_sFld {K : PySem.W.Frag} {σ : L2.St} {H : Hp} {nx bk ct : L2.St → Hp → Prop} {rt : VK} {ta tv : TE} {f : Str} (h : tv σ H fun y H1 => ta σ H1 fun x H2 => FlR K f nx σ y x H2) : sFld K ta tv f ⟨nx, rt, bk, ct⟩ σ H := h
theorem v_fldC {K : PySem.W.Frag} {σ : L2.St} {H : Hp} {nx : L2.St → Hp → Prop} {S : Addr → Prop} {p : Addr} {T : Tr} {c : Nat} (A : TrainAt K H S p T) (hc : Cls K (He.ga K "Train")) (hn : NoAttr K (He.ga K "Train") "coming") (k : ∀ H2, Mv H H2 S S → TrainAt K H2 S p { T with coming := c } → nx σ H2) : FlR K "coming" nx σ (.int (c : Int)) (.ref p) H := by
  obtain ⟨dx, r, d, hp, nx'⟩ := A.next
  obtain ⟨mv, A'⟩ := nx' c
  refine ⟨p, _, dx, _, rfl, hp, hc, hn, (by show 4 < 1000; decide), ?_⟩
  rw [put_coming]
  exact k _ mv A'
/-! ### promises -/
def spNumber (K : PySem.W.Frag) : Sp := fun vs H Q E => ∃ z : Str, vs = [.str z] ∧ z.length ≤ 90000 ∧ (∀ n, numOf z = some n → Q (.int (n : Int)) H) ∧ (numOf z = none → E (cls K "NoText") none H)
def spNumbersOf (K : PySem.W.Frag) : Sp := fun vs H Q _ => ∃ (z w : Str) (ns : List Nat), vs = [.str z, .str w] ∧ z.length ≤ 90000 ∧ ns.length ≤ 90000 ∧ numbersOf z w = some ns ∧
  ∀ H' l, Ex H H' → H l = none → H' l = some (.lst ((ns.map fun n : Nat => (n : Int)).map V.int)) → Q (.ref l) H'
structure WordX (K : PySem.W.Frag) (H : Hp) (word : Str) (E : XK) : Prop where
  seat : word = "seat" → ∀ H', Ex H H' → E (cls K "NoSeat") none H'
  stretch : word = "stretch" → ∀ H', Ex H H' → E (cls K "NoStretch") none H'
  shared : word = "shared" → ∀ H', Ex H H' → E (cls K "Shared") none H'
  ticket : word = "ticket" → ∀ H', Ex H H' → E (cls K "NoTicket") none H'
  train : word = "train" → ∀ H', Ex H H' → E (cls K "NoTrain") none H'
  text : word = "text" → ∀ H', Ex H H' → E (cls K "NoText") none H'
def spPartsOf (K : PySem.W.Frag) : Sp := fun vs H Q E => ∃ (S : Addr → Prop) (p l : Addr) (T : Tr) (t : Nat) (ns : List Nat), vs = [.ref p, .ref l] ∧ TrainAt K H S p T ∧ H l = some (.lst (((t :: ns).map fun n : Nat => (n : Int)).map V.int)) ∧ ns.length % 3 = 0 ∧ ns.length ≤ 90000 ∧
  ((partsGo T [] ns).1 = "" → ∀ H' r, Ex H H' → H r = none → PartsAt H' r (partsGo T [] ns).2 → Q (.ref r) H') ∧ WordX K H (partsGo T [] ns).1 E
def spRead (K : PySem.W.Frag) : Sp := fun vs H Q _ => ∃ (z a : Str) (r : List Str) (h0 h1 h2 : Nat) (ts : List (List Nat)) (T : Tr), vs = [.str z] ∧ z.length ≤ 16700000 ∧ Txt.split z "\n" = a :: r ∧ r.length ≤ 3000 ∧ (∀ x ∈ a :: r, x.length ≤ 90000) ∧
  numbersOf a "train" = some [h0, h1, h2] ∧ r.mapM (fun x => numbersOf x "ticket") = some ts ∧ (∀ t ∈ ts, 3 < t.length ∧ t.length % 3 = 1 ∧ t.length ≤ 90000) ∧ 1 ≤ h0 ∧ h0 ≤ 60 ∧ 2 ≤ h1 ∧ h1 ≤ 60 ∧ readGo h2 (Tr.new h0 h1) ts = (("" : Str), T) ∧ Good { T with coming := h2 } ∧
  ∀ H' S p, Play K H H' p { T with coming := h2 } S → Q (.ref p) H'
def spWritten (K : PySem.W.Frag) : Sp := fun vs H Q _ => ∃ (S : Addr → Prop) (p : Addr) (T : Tr), vs = [.ref p] ∧ TrainAt K H S p T ∧ Good T ∧ T.coming < 2000 ∧ ∀ H', Ex H H' → Q (.str (textT T)) H'
def spTextOf (K : PySem.W.Frag) : Sp := fun vs H Q _ => ∃ (U : Addr → Prop) (w : Addr) (T : Tr), vs = [.ref w] ∧ WorldAt H U w T ∧ Good T ∧ T.coming < 2000 ∧ ∀ H', Ex H H' → Q (.str (textT T)) H'
end Lg

namespace Lg
open PySem PySem.Spec PyProof.Rows L2 TL
/-! ### a written text, read -/
theorem numL_head : ∀ n : Nat, 0 < n → (numL n).head? ≠ some 48 := by
  intro n
  induction n using Nat.strongRecOn with
  | ind n ih =>
    intro h
    by_cases h10 : n < 10
    · rw [numL_lt h10, List.head?_cons]
      intro z
      have := Option.some.inj z
      omega
    · rw [numL_step (by omega), List.head?_append]
      have h1 := ih (n / 10) (by omega) (by omega)
      cases hd : (numL (n / 10)).head? with
      | none => exact absurd (List.head?_eq_none_iff.mp hd) (numL_ne _)
      | some c =>
        rw [hd] at h1
        exact h1
theorem numOf_nT {n : Nat} (h : n < 1000000000) : numOf (nT n) = some n := by
  have e : tl (nT n) = numL n := nT_tl n
  have hi : isNum (numL n) = true := by
    have h1 : (numL n).all (fun c => decide (48 ≤ c) && decide (c ≤ 57)) = true := by
      rw [List.all_eq_true]
      intro c m
      have := numL_digits n c m
      simp only [Bool.and_eq_true, decide_eq_true_eq]
      exact this
    have h2 : (numL n).isEmpty = false := by
      cases hn : numL n with
      | nil => exact absurd hn (numL_ne n)
      | cons x y => rfl
    unfold isNum
    rw [h1, h2, decide_eq_true (numL_len (k := 9) (by decide) h)]
    by_cases h0 : n = 0
    · rw [h0, decide_eq_true (show (numL 0).length = 1 by rw [numL_lt (by decide)]; rfl)]
      rfl
    · rw [decide_eq_true (numL_head n (by omega)), Bool.or_true]
      rfl
  unfold numOf
  rw [e, if_pos hi, numL_val]
theorem mapM_nT : ∀ {ns : List Nat}, (∀ n ∈ ns, n < 1000000000) → (ns.map nT).mapM numOf = some ns
  | [], _ => rfl
  | n :: r, h => by
    rw [List.map_cons, List.mapM_cons, numOf_nT (h n List.mem_cons_self), mapM_nT (ns := r) fun m z => h m (List.mem_cons_of_mem _ z)]
    rfl
theorem nT_free {n s : Nat} (h : s < 48 ∨ 57 < s) : s ∉ tl (nT n) := by
  rw [nT_tl]
  exact numL_free h
theorem numbersOf_join {w : Str} {ns : List Nat} (hw : 32 ∉ tl w) (h : ∀ n ∈ ns, n < 1000000000) : numbersOf (Txt.join " " (w :: ns.map nT)) w = some ns := by
  unfold numbersOf
  rw [split_join (y := " ") (s := 32) (S := []) (by decide +kernel) (by decide +kernel) (by simp) fun p m => ?_]
  · dsimp only
    rw [if_pos rfl, mapM_nT h]
  · rcases List.mem_cons.mp m with rfl | m
    · exact hw
    · obtain ⟨n, _, rfl⟩ := List.mem_map.mp m
      exact nT_free (by omega)
def numsT (x : Nat × List P3) : List Nat := x.1 :: (x.2.map fun q => [q.1, q.2.1, q.2.2]).flatten
theorem wordsT_eq (x : Nat × List P3) : wordsT x = ("ticket" : Str) :: (numsT x).map nT := by
  unfold wordsT numsT
  rw [List.map_cons, List.map_flatten, List.map_map]
  rfl
theorem partsGo_ok {T : Tr} {n e : Nat} (hn : n = T.rows.length) (he : e < T.stops) : ∀ (ps acc : List P3) (b : Nat), Way n b e ps → (∀ q, acc.getLast? = some q → q.2.2 = b ∧ ∀ p, ps.head? = some p → p.1 ≠ q.1) →
    (∀ p ∈ ps, ∀ row, T.rows[p.1]? = some row → p.2.2 ≤ reach row p.2.1) → partsGo T acc (ps.map fun q => [q.1, q.2.1, q.2.2]).flatten = (("" : Str), acc ++ ps)
  | [], acc, b, w, hl, hr => by
    rw [List.map_nil, List.flatten_nil, partsGo, List.append_nil]
    exact fun _ _ _ _ z => by cases z
  | p :: r, acc, b, w, hl, hr => by
    obtain ⟨w1, w2, w3, w4, w5⟩ := w
    have hle := w5.le
    have hb : goesBad acc p.1 p.2.1 = false := by
      unfold goesBad
      cases hla : acc.getLast? with
      | none => rfl
      | some q =>
        obtain ⟨h1, h2⟩ := hl q hla
        have h3 := h2 p rfl
        dsimp only
        rw [decide_eq_false (show ¬ q.2.2 ≠ p.2.1 by omega), decide_eq_false (show ¬ q.1 = p.1 from fun z => h3 z.symm)]
        rfl
    have hp : p.1 < T.rows.length := by omega
    have hrow := List.getElem?_eq_getElem hp
    have hre := hr p List.mem_cons_self _ hrow
    show partsGo T acc (p.1 :: p.2.1 :: p.2.2 :: (r.map fun q => [q.1, q.2.1, q.2.2]).flatten) = _
    rw [partsGo_cons, if_neg (fun z => z hp), if_neg (fun z => z ⟨by omega, by omega⟩), if_neg (by rw [hb]; exact Bool.false_ne_true), hrow, Option.getD_some, if_neg (by omega)]
    rw [partsGo_ok hn he r (acc ++ [(p.1, p.2.1, p.2.2)]) p.2.2 w5 (fun q hq => ?_) fun q m => hr q (List.mem_cons_of_mem _ m)]
    · rw [List.append_assoc]
      rfl
    · rw [List.getLast?_append, List.getLast?_singleton] at hq
      cases hq
      exact ⟨rfl, fun q hq => w4 q hq⟩
theorem readGo_ok {T : Tr} (G : Good T) : ∀ (rest done : List (Nat × List P3)) (cm : Nat), T.sold = done ++ rest → (∀ x ∈ rest, cm ≤ x.1) →
    ∃ TF, readGo T.coming ⟨T.stops, paintS done (Tr.new T.rows.length T.stops).rows, done, cm⟩ (rest.map numsT) = (("" : Str), TF) ∧ TF.rows = paintS T.sold (Tr.new T.rows.length T.stops).rows ∧ TF.sold = T.sold ∧ TF.stops = T.stops
  | [], done, cm, hs, hc => by
    rw [List.append_nil] at hs
    refine ⟨⟨T.stops, paintS done (Tr.new T.rows.length T.stops).rows, done, cm⟩, ?_, by rw [hs], hs.symm, rfl⟩
    rw [List.map_nil, readGo]
    exact fun _ _ _ z => by cases z
  | x :: rest, done, cm, hs, hc => by
    have wf := G.wf
    have w3 := wf.t1
    have wn := Tr.new_wf (seats := T.rows.length) (stops := T.stops) wf.s1 wf.s2 wf.t1 wf.t2
    have hg0l : (Tr.new T.rows.length T.stops).rows.length = T.rows.length := List.length_replicate
    have hg0r : ∀ row ∈ (Tr.new T.rows.length T.stops).rows, row.length = T.stops - 1 := wn.legs
    have hg0c : ∀ s l, cellOf (Tr.new T.rows.length T.stops).rows s l = none := fun _ _ => cell_new
    have hxi : T.sold[done.length]? = some x := by
      rw [hs, List.getElem?_append_right (Nat.le_refl _), Nat.sub_self]
      rfl
    have htk : T.sold.take done.length = done := by rw [hs, List.take_left']; rfl
    have mx := List.mem_of_getElem? hxi
    obtain ⟨b, e, hb, he, w⟩ := G.way x mx
    have hlow := G.low x mx
    have hcx := hc x List.mem_cons_self
    have hpr : T.rows.length = (paintS done (Tr.new T.rows.length T.stops).rows).length := by rw [paintS_len, hg0l]
    have hri : ∀ y ∈ rest, x.1 < y.1 := fun y my => by
      have hp := wf.rising
      rw [hs, List.map_append, List.map_cons] at hp
      have := (List.pairwise_append.mp hp).2.1
      exact (List.pairwise_cons.mp this).1 y.1 (List.mem_map.mpr ⟨y, my, rfl⟩)
    have hdo : ∀ y ∈ done, y.1 < x.1 := fun y my => by
      have hp := wf.rising
      rw [hs, List.map_append, List.map_cons] at hp
      exact (List.pairwise_append.mp hp).2.2 y.1 (List.mem_map.mpr ⟨y, my, rfl⟩) x.1 List.mem_cons_self
    have hpo := partsGo_ok (T := ⟨T.stops, paintS done (Tr.new T.rows.length T.stops).rows, done, cm⟩) hpr (show e < T.stops by omega) x.2 [] b w (fun q z => by cases z) fun q mq row hrow => by
      obtain ⟨j, hj⟩ := List.mem_iff_getElem?.mp mq
      have hq := w.mem q mq
      have hfree := G.paint_free hg0l hg0r hg0c hxi (c1 := q.1) (c2 := q.2.1) (c3 := q.2.2) hj
      rw [htk] at hfree
      have hr2 := paintS_row (n := T.stops - 1) done _ hg0r
      refine reach_far (q.2.2 - q.2.1) q.2.1 q.2.2 (Nat.le_refl _) (by omega) fun l l1 l2 => ?_
      have hf := hfree l l1 l2
      rw [markAll_cell (n := T.stops - 1) _ _ hr2 (fun q' m => by
        have := w.mem q' (List.mem_of_mem_take m)
        exact ⟨by omega, by omega⟩)] at hf
      have hf2 : cellOf (paintS done (Tr.new T.rows.length T.stops).rows) q.1 l = none := by
        split at hf
        · cases hf
        · exact hf
      have hrow : (paintS done (Tr.new T.rows.length T.stops).rows)[q.1]? = some row := hrow
      have h1 := cell_free hr2 (s := q.1) (l := l) (by omega) (by omega) hf2
      obtain ⟨h2, h3⟩ := List.getElem?_eq_some_iff.mp hrow
      rw [← h3]
      exact h1
    rw [List.nil_append] at hpo
    obtain ⟨TF, h1, h2, h3, h4⟩ := readGo_ok G rest (done ++ [x]) (x.1 + 1) (by rw [hs, List.append_assoc]; rfl) fun y my => hri y my
    refine ⟨TF, ?_, h2, h3, h4⟩
    rw [List.map_cons]
    show readGo T.coming _ ((x.1 :: (x.2.map fun q => [q.1, q.2.1, q.2.2]).flatten) :: rest.map numsT) = _
    rw [readGo_cons, if_neg (fun z => z.elim (fun z => by omega) (fun z => by
      have z : x.1 < cm := z
      omega)), hpo, if_pos rfl, ← h1]
    have e1 : putS done x.1 x.2 = done ++ [x] := putS_new hdo
    have e2 : markAll (paintS done (Tr.new T.rows.length T.stops).rows) x.2 (some x.1) = paintS (done ++ [x]) (Tr.new T.rows.length T.stops).rows := (paintS_snoc done x _).symm
    unfold Tr.put
    dsimp only
    rw [e1, e2]
theorem numsT_len (x : Nat × List P3) : (numsT x).length = 1 + 3 * x.2.length := by
  unfold numsT
  rw [List.length_cons, List.length_flatten, List.map_map]
  have e : (List.length ∘ fun q : P3 => [q.1, q.2.1, q.2.2]) = fun _ => 3 := by
    funext q
    rfl
  rw [e, List.map_const', List.sum_replicate_nat]
  omega
theorem joinL_mem {S : List Nat} {c : Nat} : ∀ {ps : List (List Nat)}, c ∈ joinL S ps → c ∈ S ∨ ∃ p ∈ ps, c ∈ p
  | [], h => by cases h
  | [p], h => .inr ⟨p, List.mem_singleton.mpr rfl, h⟩
  | p :: q :: r, h => by
    have h : c ∈ p ++ (S ++ joinL S (q :: r)) := h
    rcases List.mem_append.mp h with h | h
    · exact .inr ⟨p, List.mem_cons_self, h⟩
    · rcases List.mem_append.mp h with h | h
      · exact .inl h
      · rcases joinL_mem h with h | ⟨p', m, h⟩
        · exact .inl h
        · exact .inr ⟨p', List.mem_cons_of_mem _ m, h⟩
theorem line_free {w : Str} {ns : List Nat} (hw : 10 ∉ tl w) : 10 ∉ tl (Txt.join " " (w :: ns.map nT)) := fun h => by
  rw [join_eq, tl_join] at h
  rcases joinL_mem h with h3 | ⟨p, m, h3⟩
  · exact absurd h3 (by decide +kernel)
  · obtain ⟨z, mz, rfl⟩ := List.mem_map.mp m
    rcases List.mem_cons.mp mz with rfl | mz
    · exact hw h3
    · obtain ⟨n, _, rfl⟩ := List.mem_map.mp mz
      exact nT_free (by omega) h3
theorem Good.nums_lt {T : Tr} (G : Good T) (hc : T.coming < 2000) {x : Nat × List P3} (mx : x ∈ T.sold) : (∀ n ∈ numsT x, n < 1000000000) ∧ 0 < x.2.length ∧ x.2.length ≤ 60 := by
  have wf := G.wf
  have w2 := wf.s2
  have w4 := wf.t2
  obtain ⟨b, e, hb, he, w⟩ := G.way x mx
  have hlow := G.low x mx
  have hlen := w.len
  refine ⟨fun n m => ?_, List.length_pos_iff.mpr (w.ne hb), by omega⟩
  unfold numsT at m
  rcases List.mem_cons.mp m with rfl | m
  · omega
  obtain ⟨l, ml, my⟩ := List.mem_flatten.mp m
  obtain ⟨q, mq, rfl⟩ := List.mem_map.mp ml
  have := w.mem q mq
  simp only [List.mem_cons, List.not_mem_nil, or_false] at my
  rcases my with rfl | rfl | rfl <;> omega
theorem c_read {K : PySem.W.Frag} {H : Hp} {Q : VK} {E : XK} {T : Tr} (G : Good T) (hc : T.coming < 2000) (k : ∀ H' S p, Play K H H' p T S → Q (.ref p) H') : spRead K [.str (textT T)] H Q E := by
  have wf := G.wf
  have w1 := wf.s1
  have w2 := wf.s2
  have w3 := wf.t1
  have w4 := wf.t2
  have hmany := G.many
  have hh : headW T = ("train" : Str) :: [T.rows.length, T.stops, T.coming].map nT := rfl
  have ht10 : 10 ∉ tl ("ticket" : Str) := by decide +kernel
  have hr10 : 10 ∉ tl ("train" : Str) := by decide +kernel
  have ht32 : 32 ∉ tl ("ticket" : Str) := by decide +kernel
  have hr32 : 32 ∉ tl ("train" : Str) := by decide +kernel
  have hsp : Txt.split (textT T) "\n" = Txt.join " " (headW T) :: T.sold.map fun x => Txt.join " " (wordsT x) := by
    unfold textT
    refine split_join (s := 10) (S := []) (by decide +kernel) (by decide +kernel) (by simp) fun p m => ?_
    rcases List.mem_cons.mp m with rfl | m
    · rw [hh]
      exact line_free hr10
    · obtain ⟨x, _, rfl⟩ := List.mem_map.mp m
      rw [wordsT_eq]
      exact line_free ht10
  have hrl : ∀ x ∈ T.sold, (Txt.join " " (wordsT x)).length ≤ 3000 := fun x mx => by
    obtain ⟨b, e, hb, he, w⟩ := G.way x mx
    have hlow := G.low x mx
    have hl := w.len
    have := row_len (n := x.1) (ps := x.2) (by omega) fun q m => by
      have := w.mem q m
      omega
    exact Nat.le_trans this (by omega)
  have hhl : (Txt.join " " (headW T)).length ≤ 3000 := by
    have := join_len " " (headW T)
    have e : ((headW T).map (·.length)).sum ≤ 40 := by
      have h5 : ("train" : Str).length = 5 := by decide +kernel
      show ("train" : Str).length + ((nT T.rows.length).length + ((nT T.stops).length + ((nT T.coming).length + 0))) ≤ 40
      have := nT_len (n := T.rows.length) (by omega)
      have := nT_len (n := T.stops) (by omega)
      have := nT_len (n := T.coming) (by omega)
      omega
    rw [show (" " : Str).length = 1 by decide +kernel] at this
    have : (headW T).length = 4 := rfl
    omega
  have hlen : (textT T).length ≤ 16700000 := by
    have h1 := join_len "\n" (Txt.join " " (headW T) :: T.sold.map fun x => Txt.join " " (wordsT x))
    have h2 := sum_len (b := 3000) (ps := Txt.join " " (headW T) :: T.sold.map fun x => Txt.join " " (wordsT x)) fun y m => by
      rcases List.mem_cons.mp m with rfl | m
      · exact hhl
      · obtain ⟨x, mx, rfl⟩ := List.mem_map.mp m
        exact hrl x mx
    rw [show ("\n" : Str).length = 1 by decide +kernel] at h1
    rw [List.length_cons, List.length_map] at h1 h2
    show (Txt.join "\n" (Txt.join " " (headW T) :: T.sold.map fun x => Txt.join " " (wordsT x))).length ≤ _
    omega
  obtain ⟨TF, g1, g2, g3, g4⟩ := readGo_ok G T.sold [] 0 rfl fun x _ => Nat.zero_le _
  have hg0l : (Tr.new T.rows.length T.stops).rows.length = T.rows.length := List.length_replicate
  have wn := Tr.new_wf (seats := T.rows.length) (stops := T.stops) w1 w2 w3 w4
  rw [G.paint_all hg0l wn.legs fun _ _ => cell_new] at g2
  have hTF : ({ TF with coming := T.coming } : Tr) = T := by
    obtain ⟨a, b, c, d⟩ := TF
    obtain ⟨a', b', c', d'⟩ := T
    dsimp only at g2 g3 g4
    subst g2 g3 g4
    rfl
  refine ⟨textT T, _, _, T.rows.length, T.stops, T.coming, T.sold.map numsT, TF, rfl, hlen, hsp, by rw [List.length_map]; omega, fun x m => ?_, ?_, ?_, fun t m => ?_, w1, w2, w3, w4, g1, by rw [hTF]; exact G, fun H' S p P => k H' S p (by rw [hTF] at P; exact P)⟩
  · rcases List.mem_cons.mp m with rfl | m
    · exact Nat.le_trans hhl (by decide)
    · obtain ⟨y, my, rfl⟩ := List.mem_map.mp m
      exact Nat.le_trans (hrl y my) (by decide)
  · rw [hh]
    exact numbersOf_join hr32 fun n m => by
      simp only [List.mem_cons, List.not_mem_nil, or_false] at m
      rcases m with rfl | rfl | rfl <;> omega
  · have key : ∀ l : List (Nat × List P3), (∀ x ∈ l, x ∈ T.sold) → (l.map fun x => Txt.join " " (wordsT x)).mapM (fun x => numbersOf x "ticket") = some (l.map numsT) := by
      intro l
      induction l with
      | nil => exact fun _ => rfl
      | cons x r ih =>
        intro hl
        rw [List.map_cons, List.mapM_cons, wordsT_eq, numbersOf_join ht32 (G.nums_lt hc (hl x List.mem_cons_self)).1, ih fun y my => hl y (List.mem_cons_of_mem _ my)]
        rfl
    exact key T.sold fun _ h => h
  · obtain ⟨x, mx, rfl⟩ := List.mem_map.mp m
    have h1 := G.nums_lt hc mx
    have h2 := numsT_len x
    omega
def spPacks12 (K : PySem.W.Frag) : Sp := fun vs H Q _ => ∃ (S U : Addr → Prop) (p w : Addr) (T : Tr), vs = [.ref p, .ref w] ∧ TrainAt K H S p T ∧ WorldAt H U w T ∧ Good T ∧ T.coming < 90000 ∧ ∀ H', Ex H H' → Q (.bl true) H'
end Lg

namespace Lg
open PySem PySem.Spec PyProof.Rows L2
/-! ### what a deed told, compared -/
def p3D (q : P3) : PyData := .tuple [.int (q.1 : Int), .int (q.2.1 : Int), .int (q.2.2 : Int)]
def resD : Res → PyData
  | .non => .none
  | .num n => .int (n : Int)
  | .parts ps => .list ((ps.map p3I).map fun xs => PyData.tuple (xs.map PyData.int))
def outD (o : Out) : PyData := .tuple [.str o.word, resD o.res]
/-- a value that tells a deed's result -/
def ResAt (H : Hp) : Res → V → Prop
  | .non, v => v = .non
  | .num n, v => v = .int (n : Int)
  | .parts ps, v => ∃ l, v = .ref l ∧ PartsAt H l ps
theorem v_neR {K : PySem.W.Frag} {H : Hp} {Q : VK} {x y : V} {d : PyData} (h1 : Dp K H x d) (h2 : Dp K H y d) (hl : d.canLay0 = true) (he : PyData.eqv d d = true) (hd : d.depth ≤ 64) (k : Q (.bl false) H) : rNeD K x y H Q := by
  have E : Enc (fun _ : Unit => d) 64 := ⟨fun x y => by rw [he]; exact (decide_eq_true rfl).symm, fun _ => hl, fun _ => hd⟩
  refine rne_of (a := ()) (b := ()) E (Nat.le_refl _) h1 h2 ?_
  rw [decide_eq_true rfl]
  exact k
theorem dp_res {K : PySem.W.Frag} {H : Hp} {v : V} : ∀ {r : Res}, ResAt H r v → Dp K H v (resD r)
  | .non, h => by
    rw [show v = .non from h]
    exact .non
  | .num n, h => by
    rw [show v = .int (n : Int) from h]
    exact .int n
  | .parts ps, h => by
    obtain ⟨l, rfl, hP⟩ := h
    obtain ⟨ts, h1, h2⟩ := hP.tups
    exact .lst (SqL.of h1) (dpAll ⟨by rw [List.length_map, List.length_map, h2.len], fun i x y hx hy => by
      obtain ⟨a, ha, rfl⟩ := map_back hx
      obtain ⟨xs, hxs, rfl⟩ := map_back hy
      exact dp_tup (h2.at_ _ _ _ ha hxs)⟩)
theorem dp_out {K : PySem.W.Frag} {H : Hp} {t : Addr} {v : V} {o : Out} (h : H t = some (.tup [.str o.word, v])) (hr : ResAt H o.res v) : Dp K H (.ref t) (outD o) :=
  .tup (SqT.of h) (dpAll ⟨rfl, fun i x y hx hy => by
    match i with
    | 0 => cases hx; cases hy; exact .str _
    | 1 => cases hx; cases hy; exact dp_res hr
    | i + 2 => cases hx⟩)
theorem resD_ok : ∀ r : Res, (resD r).canLay0 = true ∧ (resD r).depth ≤ 2
  | .non => ⟨rfl, Nat.zero_le _⟩
  | .num n => ⟨rfl, Nat.zero_le _⟩
  | .parts ps => ⟨(Enc.list (Enc.tup enc_int)).lay (ps.map p3I), (Enc.list (Enc.tup enc_int)).dep (ps.map p3I)⟩
theorem outD_ok {o : Out} (hw : (PyData.str o.word).canLay0 = true) : (outD o).canLay0 = true ∧ (outD o).depth ≤ 64 := by
  obtain ⟨h1, h2⟩ := resD_ok o.res
  unfold outD
  constructor
  · simp only [PyData.canLay0, PyData.canLayAll0, Bool.and_eq_true] at hw ⊢
    exact ⟨hw, h1, trivial⟩
  · simp only [PyData.depth, PyData.depthAll]
    omega
theorem run_word_lay (T : Tr) (x : Deed) : (PyData.str (T.run x).word).canLay0 = true := by
  obtain ⟨k, a, b⟩ := x
  cases k with
  | sell =>
    show (PyData.str (runSell T a b).word).canLay0 = true
    unfold runSell
    split
    · split <;> (dsimp only; decide +kernel)
    · dsimp only
      decide +kernel
  | back =>
    show (PyData.str (runBack T a).word).canLay0 = true
    unfold runBack
    split <;> (dsimp only; decide +kernel)
  | leave =>
    show (PyData.str (runLeave T a b).word).canLay0 = true
    unfold runLeave
    split
    · dsimp only
      decide +kernel
    · split <;> (dsimp only; decide +kernel)
  | reseat =>
    show (PyData.str (runReseat T a).word).canLay0 = true
    unfold runReseat
    split <;> (dsimp only; decide +kernel)
theorem v_neOut {K : PySem.W.Frag} {H : Hp} {Q : VK} {t u : Addr} {v v' : V} {T : Tr} {x : Deed} (h1 : H t = some (.tup [.str (T.run x).word, v])) (r1 : ResAt H (T.run x).res v) (h2 : H u = some (.tup [.str (T.run x).word, v'])) (r2 : ResAt H (T.run x).res v') (k : Q (.bl false) H) : rNeD K (.ref t) (.ref u) H Q := by
  obtain ⟨e1, e2⟩ := outD_ok (run_word_lay T x)
  exact v_neR (dp_out h1 r1) (dp_out h2 r2) e1 (PySem.SeqAt.eqv_refl _ e1) e2 k
/-- two trains and a world -/
structure Tri (K : PySem.W.Frag) (H0 H : Hp) (p o w : Addr) (T1 T2 T3 : Tr) (S R U : Addr → Prop) : Prop where
  ex : Ex H0 H
  tr : TrainAt K H S p T1
  ot : TrainAt K H R o T2
  wo : WorldAt H U w T3
  fresh : ∀ a, S a ∨ R a ∨ U a → H0 a = none
  live : ∀ a, S a ∨ R a ∨ U a → ∃ x, H a = some x
  d1 : ∀ a, S a → ¬ R a
  d2 : ∀ a, S a → ¬ U a
  d3 : ∀ a, R a → ¬ U a
section
variable {K : PySem.W.Frag} {H0 H H' : Hp} {p o w : Addr} {T1 T2 T3 : Tr} {S R U : Addr → Prop}
theorem Tri.more (D : Tri K H0 H p o w T1 T2 T3 S R U) (e : Ex H H') : Tri K H0 H' p o w T1 T2 T3 S R U :=
  ⟨D.ex.trans e, D.tr.ex e, D.ot.ex e, D.wo.ex e, D.fresh, fun a h => by
    obtain ⟨x, hx⟩ := D.live a h
    exact ⟨x, e _ _ hx⟩, D.d1, D.d2, D.d3⟩
theorem Tri.swap (D : Tri K H0 H p o w T1 T2 T3 S R U) : Tri K H0 H o p w T2 T1 T3 R S U :=
  ⟨D.ex, D.ot, D.tr, D.wo, fun a h => D.fresh a (by rcases h with h | h | h <;> simp [h]), fun a h => D.live a (by rcases h with h | h | h <;> simp [h]), fun a h z => D.d1 a z h, D.d3, D.d2⟩
theorem Tri.train {T1' : Tr} {S' : Addr → Prop} (D : Tri K H0 H p o w T1 T2 T3 S R U) (m : Mv H H' S S') (A : TrainAt K H' S' p T1') : ∃ S2, Tri K H0 H' p o w T1' T2 T3 S2 R U ∧ ∀ a, S2 a → S' a ∧ (S a ∨ H a = none) := by
  obtain ⟨S2, h2, t2⟩ := A.there
  have new : ∀ a, S2 a → S a ∨ H a = none := fun a h => m.new a (h2 a h).1
  have k : ∀ a x, ¬ S a → H a = some x → H' a = some x := m.keep
  have nn : ∀ a, R a ∨ U a → ¬ S a := fun a h z => h.elim (D.d1 a z) (D.d2 a z)
  have no : ∀ a, R a ∨ U a → ¬ S2 a := fun a h z => by
    rcases new a z with y | y
    · exact nn a h y
    · obtain ⟨x, hx⟩ := D.live a (.inr h)
      rw [y] at hx
      cases hx
  refine ⟨S2, ⟨fun a x h => k a x (fun z => ?_) (D.ex a x h), t2, D.ot.mono (fun a x s h => k a x (nn a (.inl s)) h) m.tups, D.wo.mono (fun a x s h => k a x (nn a (.inr s)) h) m.tups, fun a h => ?_, fun a h => ?_, fun a s z => no a (.inl z) s, fun a s z => no a (.inr z) s, D.d3⟩, fun a s => ⟨(h2 a s).1, new a s⟩⟩
  · rw [D.fresh a (.inl z)] at h
    cases h
  · rcases h with h | h
    · rcases new a h with y | y
      · exact D.fresh a (.inl y)
      · exact Evl.fresh_back D.ex y
    · exact D.fresh a (.inr h)
  · rcases h with h | h
    · exact (h2 a h).2
    · obtain ⟨x, hx⟩ := D.live a (.inr h)
      exact ⟨x, k a x (nn a h) hx⟩
theorem Tri.world {T3' : Tr} {U' : Addr → Prop} (D : Tri K H0 H p o w T1 T2 T3 S R U) (m : Mv H H' U U') (W : WorldAt H' U' w T3') : ∃ U2, Tri K H0 H' p o w T1 T2 T3' S R U2 ∧ ∀ a, U2 a → U' a ∧ (U a ∨ H a = none) := by
  obtain ⟨U2, h2, t2⟩ := W.there
  have new : ∀ a, U2 a → U a ∨ H a = none := fun a h => m.new a (h2 a h).1
  have k : ∀ a x, ¬ U a → H a = some x → H' a = some x := m.keep
  have nn : ∀ a, S a ∨ R a → ¬ U a := fun a h => h.elim (D.d2 a) (D.d3 a)
  have lv : ∀ a, S a ∨ R a → ∃ x, H a = some x := fun a h => D.live a (h.imp id .inl)
  have no : ∀ a, S a ∨ R a → ¬ U2 a := fun a h z => by
    rcases new a z with y | y
    · exact nn a h y
    · obtain ⟨x, hx⟩ := lv a h
      rw [y] at hx
      cases hx
  refine ⟨U2, ⟨fun a x h => k a x (fun z => ?_) (D.ex a x h), D.tr.mono (fun a x s h => k a x (nn a (.inl s)) h) m.tups, D.ot.mono (fun a x s h => k a x (nn a (.inr s)) h) m.tups, t2, fun a h => ?_, fun a h => ?_, D.d1, fun a s => no a (.inl s), fun a s => no a (.inr s)⟩, fun a s => ⟨(h2 a s).1, new a s⟩⟩
  · rw [D.fresh a (.inr (.inr z))] at h
    cases h
  · rcases h with h | h | h
    · exact D.fresh a (.inl h)
    · exact D.fresh a (.inr (.inl h))
    · rcases new a h with y | y
      · exact D.fresh a (.inr (.inr y))
      · exact Evl.fresh_back D.ex y
  · rcases h with h | h | h
    · obtain ⟨x, hx⟩ := lv a (.inl h)
      exact ⟨x, k a x (nn a (.inl h)) hx⟩
    · obtain ⟨x, hx⟩ := lv a (.inr h)
      exact ⟨x, k a x (nn a (.inr h)) hx⟩
    · exact (h2 a h).2
/-- a train that was just read stands beside the train and its world -/
theorem Tri.start (ex : Ex H0 H) (two : Two K H p w T1 T3 S U) (fr : ∀ a, S a ∨ U a → H0 a = none) (P : Play K H H' o T2 R) : Tri K H0 H' p o w T1 T2 T3 S R U := by
  have lv : ∀ a, S a ∨ U a → ∃ x, H a = some x := fun a h => h.elim (two.aS a) (two.aU a)
  have no : ∀ a, S a ∨ U a → ¬ R a := fun a h z => by
    obtain ⟨x, hx⟩ := lv a h
    rw [P.fresh a z] at hx
    cases hx
  refine ⟨ex.trans P.ex, two.tr.ex P.ex, P.tr, two.wo.ex P.ex, fun a h => ?_, fun a h => ?_, fun a s => no a (.inl s), two.dj, fun a r u => no a (.inr u) r⟩
  · rcases h with h | h | h
    · exact fr a (.inl h)
    · exact Evl.fresh_back ex (P.fresh a h)
    · exact fr a (.inr h)
  · rcases h with h | h | h
    · obtain ⟨x, hx⟩ := lv a (.inl h)
      exact ⟨x, P.ex _ _ hx⟩
    · exact P.live a h
    · obtain ⟨x, hx⟩ := lv a (.inr h)
      exact ⟨x, P.ex _ _ hx⟩
end
theorem ResAt.keep {H H' : Hp} {v : V} : ∀ {r : Res}, ResAt H r v → (∀ l, v = .ref l → ∀ o, H l = some o → H' l = some o) → (∀ a xs, H a = some (.tup xs) → H' a = some (.tup xs)) → ResAt H' r v
  | .non, h, _, _ => h
  | .num n, h, _, _ => h
  | .parts ps, h, k, kt => by
    obtain ⟨l, rfl, hP⟩ := h
    exact ⟨l, rfl, parts_at hP (fun o z => k l rfl o z) kt⟩
theorem ResW.at_ {H H' : Hp} {U : Addr → Prop} {v : V} : ∀ {r : Res}, ResW H H' U r v → ResAt H' r v ∧ ∀ l, v = .ref l → U l ∨ H l = none
  | .non, h => ⟨h, fun l e => by
    rw [show v = .non from h] at e
    cases e⟩
  | .num n, h => ⟨h, fun l e => by
    rw [show v = .int n from h] at e
    cases e⟩
  | .parts ps, h => by
    obtain ⟨l, rfl, h1, h2⟩ := h
    exact ⟨⟨l, rfl, h2⟩, fun l' e => by
      cases e
      exact h1⟩
theorem ResV.at_ {H H' : Hp} {S S' : Addr → Prop} {v : V} : ∀ {r : Res}, ResV H H' S S' r v → ResAt H' r v ∧ ∀ l, v = .ref l → S l ∨ H l = none
  | .non, h => ⟨h, fun l e => by
    rw [show v = .non from h] at e
    cases e⟩
  | .num n, h => ⟨h, fun l e => by
    rw [show v = .int n from h] at e
    cases e⟩
  | .parts ps, h => by
    obtain ⟨l, rfl, h1, _, h2⟩ := h
    exact ⟨⟨l, rfl, h2⟩, fun l' e => by
      cases e
      exact h1⟩
end Lg

namespace Lg.K12
open PySem PySem.Spec PyProof.Rows L2 Lg
local macro_rules | `(tactic| fail "t") => `(tactic| first
  | assumption
  | ((with_reducible apply Lg.e_sq); (focus fail "t"))
  | ((with_reducible apply Lg.e_sqL); (focus assumption); (focus fail "t"))
  | ((with_reducible apply Lg.e_at); (focus assumption); (focus fail "t"))
  | ((with_reducible apply Lg.e_mvT); (focus assumption); (focus fail "t"))
  | ((with_reducible apply Lg.ch_tup); (focus assumption); (focus fail "t"))
  | ((with_reducible apply Lg.e_mv); (focus assumption); (focus assumption); (focus fail "t"))
  | ((with_reducible apply Lg.ch_lst); (focus assumption); (focus assumption); (focus fail "t"))
  | ((with_reducible apply Lg.e_play); (focus fail "t"))
  | ((with_reducible apply Lg.e_tr); (focus assumption); (focus fail "t"))
  | ((with_reducible apply Lg.e_playE); (focus assumption); (focus fail "t"))
  | ((with_reducible apply Lg.e_grid); (focus assumption); (focus fail "t"))
  | ((with_reducible apply Lg.e_parts); (focus assumption); (focus fail "t"))
  | ((with_reducible apply Lg.e_world); (focus assumption); (focus fail "t"))
  | ((with_reducible apply Lg.e_row); (focus assumption); (focus fail "t"))
  | ((with_reducible apply Lg.e_deed); (focus assumption); (focus fail "t"))
  | ((with_reducible apply Lg.e_mvG); (focus assumption); (focus assumption); (focus assumption); (focus fail "t"))
  | ((with_reducible apply Lg.e_mvP); (focus assumption); (focus assumption); (focus fail "t"))
  | ((with_reducible apply Lg.ch_parts); (focus assumption); (focus assumption); (focus fail "t"))
  | ((with_reducible apply Lg.e_bsT); (focus assumption); (focus assumption); (focus fail "t"))
  | ((with_reducible apply Lg.e_bs); (focus assumption); (focus assumption); (focus fail "t"))
  | ((with_reducible apply Lg.e_bsP); (focus assumption); (focus assumption); (focus assumption); (focus fail "t"))
  | ((with_reducible apply Lg.chd_tup); (focus assumption); (focus fail "t"))
  | ((with_reducible apply Lg.chd_lst); (focus assumption); (focus fail "t"))
  | ((with_reducible apply Lg.ch_dic); (focus assumption); (focus fail "t"))
  | ((with_reducible apply Lg.ch_grid); (focus assumption); (focus assumption); (focus assumption); (focus fail "t"))
  | ((with_reducible apply Lg.e_mvD); (focus assumption); (focus fail "t"))
  | ((with_reducible apply Lg.e_chD); (focus assumption); (focus fail "t")))
local macro_rules | `(tactic| fail "s") => `(tactic| first
  | ((with_reducible apply Lg.s_var); (focus exact rfl))
  | with_reducible apply Lg.s_c
  | with_reducible apply Lg.s_cons
  | with_reducible apply Lg.s_nil
  | with_reducible apply Lg.s_op
  | with_reducible apply Lg.s_calls
  | with_reducible apply Lg.s_bl
  | with_reducible apply Lg.s_tTest
  | with_reducible apply Lg.s_tB
  | with_reducible apply Lg.s_cb
  | with_reducible apply Lg.s_seq
  | with_reducible apply Lg.s_asg
  | with_reducible apply Lg.s_gname
  | with_reducible apply Lg.s_drop
  | with_reducible apply Lg.s_ret
  | with_reducible apply Lg.s_retN
  | with_reducible apply Lg.s_next
  | with_reducible apply Lg.s_if
  | with_reducible apply Lg.s_tAnd
  | with_reducible apply Lg.s_tOr
  | with_reducible apply Lg.s_tNot
  | with_reducible apply Lg.s_tAndV
  | with_reducible apply Lg.s_tOrV
  | with_reducible apply Lg.s_tNotV
  | with_reducible apply Lg.s_un
  | with_reducible apply Lg.s_meth
  | with_reducible apply Lg.s_tup
  | with_reducible apply Lg.s_lst
  | with_reducible apply Lg.s_chain
  | with_reducible apply Lg.s_bm
  | with_reducible apply Lg.s_gSub
  | with_reducible apply Lg.s_for
  | with_reducible apply Lg.s_iL
  | with_reducible apply Lg.s_iT
  | with_reducible apply Lg.s_iR1
  | with_reducible apply Lg.s_iR2
  | with_reducible apply Lg.s_lc
  | with_reducible apply Lg.s_sl
  | with_reducible apply Lg.s_noPart
  | with_reducible apply Lg.s_wbody
  | with_reducible apply Lg.s_part
  | with_reducible apply Lg.v_part
  | with_reducible apply Lg.v_eqI
  | with_reducible apply Lg.v_neI
  | with_reducible apply Lg.v_eqS
  | with_reducible apply Lg.v_neS
  | with_reducible apply Lg.v_eqO
  | with_reducible apply Lg.v_neO
  | with_reducible apply Lg.v_isO
  | with_reducible apply Lg.v_notO
  | with_reducible apply Lg.v_isN
  | with_reducible apply Lg.v_isI
  | with_reducible apply Lg.v_notN
  | with_reducible apply Lg.v_notI
  | with_reducible apply Lg.v_notR
  | with_reducible apply Lg.v_isR
  | with_reducible apply Lg.v_I0
  | with_reducible apply Lg.v_U
  | ((with_reducible apply Lg.v_I); (focus first | (show (0 : Int) < _; decide) | (exact ⟨by decide, by decide⟩) | (exact ⟨by decide, by decide, by decide⟩) | (exact .inl ⟨by decide, by decide⟩) | (exact .inr ⟨by decide, by decide⟩) | (exact .inl ⟨by omega, by omega⟩) | (exact .inr ⟨by omega, by omega⟩)))
  | ((with_reducible apply Lg.v_ixT); (focus fail "t"); (focus exact rfl))
  | ((with_reducible apply Lg.v_ixL); (focus fail "t"); (focus exact rfl))
  | ((with_reducible apply Lg.v_lenL); (focus fail "t"))
  | ((with_reducible apply Lg.v_lenT); (focus fail "t"))
  | ((with_reducible apply Lg.v_inI); (focus fail "t"))
  | ((with_reducible apply Lg.v_ninI); (focus fail "t"))
  | ((with_reducible apply Lg.v_eqG); (focus fail "t"); (focus fail "t"))
  | ((with_reducible apply Lg.v_neG); (focus fail "t"); (focus fail "t"))
  | ((with_reducible apply Lg.s_methT); (focus fail "t"); (focus first | exact fun _ _ _ _ => nf_sell | exact fun _ _ _ _ => nf_back | exact fun _ _ _ _ => nf_leave | exact fun _ _ _ _ => nf_reseat | exact fun _ _ _ _ => nf_parts | exact fun _ _ _ _ => nf_tickets | exact fun _ _ _ _ => nf_row | exact fun _ _ _ _ => nf_blocked | exact fun _ _ _ _ => nf_farthest | exact fun _ _ _ _ => nf_holder | exact fun _ _ _ _ => nf_load | exact fun _ _ _ _ => nf_size | exact fun _ _ _ _ => nf_mark | exact fun _ _ _ _ => nf_take | exact fun _ _ _ _ => nf_need_stretch | exact fun _ _ _ _ => nf_need_seat | exact fun _ _ _ _ => nf_need_leg))
  | ((with_reducible apply Lg.s_tyL); (focus fail "t"))
  | ((with_reducible apply Lg.v_iL); (focus fail "t"))
  | ((with_reducible apply Lg.v_iT); (focus fail "t"))
  | ((with_reducible apply Lg.v_iP); (focus fail "t"))
  | ((with_reducible apply Lg.v_lenP); (focus fail "t"))
  | ((with_reducible apply Lg.v_ixP0); (focus fail "t"); (focus assumption); intro _ _)
  | ((with_reducible apply Lg.v_ixPl); (focus fail "t"); (focus assumption); intro _ _)
  | ((with_reducible apply Lg.v_ixG); (focus fail "t"); (focus first | omega | (simp only [markAll_len, foldl_len, setCell_len]; omega)); intro _ _ _ _ _ _)
  | ((with_reducible apply Lg.v_ixR); (focus fail "t"); (focus omega); intro _ _)
  | ((with_reducible apply Lg.v_iRow); (focus fail "t"))
  | ((with_reducible apply Lg.v_iG); (focus fail "t"))
  | ((with_reducible apply Lg.v_lenG); (focus fail "t"))
  | (with_reducible apply iteT)
  | (with_reducible apply iteF)
  | (with_reducible apply Lg.iteNone1)
  | (with_reducible apply Lg.iteNone2)
  | (with_reducible apply Lg.iteSome1)
  | (with_reducible apply Lg.iteSome2)
  | (with_reducible apply Lg.iteNT)
  | (with_reducible apply Lg.iteNF)
  | (with_reducible apply Lg.iteEq)
  | (with_reducible apply Lg.iteEqN)
  | ((with_reducible apply Lg.iteLit); (focus decide +kernel))
  | ((with_reducible apply Lg.iteLitN); (focus decide +kernel))
  | ((with_reducible apply Lg.iteDno); (focus first | omega | assumption))
  | ((with_reducible apply Lg.iteDyes); (focus first | omega | assumption | (with_reducible exact rfl)))
  | ((with_reducible apply Lg.iteNno); (focus first | omega | assumption))
  | ((with_reducible apply Lg.iteNyes); (focus first | omega | assumption | (simp only [List.length_cons, List.length_nil]; done) | (simp only [List.length_cons, List.length_nil]; omega))))
local macro_rules | `(tactic| fail "z") => `(tactic| first
  | omega
  | (show _ ≤ sizeLine; decide)
  | (show _ < sizeLine; decide)
  | (refine Nat.le_trans (m := 3000000) ?_ (show 3000000 ≤ sizeLine by decide); (try simp only [List.length_map, keys_len, List.length_cons, List.length_nil, List.length_append, List.length_singleton]); omega)
  | (refine Nat.lt_of_le_of_lt (m := 3000000) ?_ (show 3000000 < sizeLine by decide); (try simp only [List.length_map, keys_len, List.length_cons, List.length_nil, List.length_append, List.length_singleton]); omega)
  | (simp only [List.length_map, keys_len, List.length_cons, List.length_nil, List.length_append, List.length_singleton]; omega)
  | assumption)
local macro_rules | `(tactic| fail "s") => `(tactic| first
  | with_reducible apply Lg.s_rem
  | with_reducible apply Lg.s_make
  | ((with_reducible apply Lg.c_seats); intro _ _ _)
  | ((with_reducible apply Lg.c_stops); intro _ _ _)
  | ((with_reducible apply Lg.v_make); (focus assumption); (focus assumption); (focus assumption); (focus assumption); (focus exact rfl); intro _ _ _ _)
  | ((with_reducible apply Lg.c_cells); (focus fail "t"); (focus assumption); intro _ _ _ _ _ _)
  | ((with_reducible apply Lg.v_popAt); (focus fail "t"); (focus fail "z"); (focus fail "z"); intro _ _ _ _)
  | ((with_reducible apply Lg.v_setL); (focus fail "t"); (focus assumption); intro _ _ _)
  | with_reducible apply Lg.v_isOB
  | ((with_reducible apply Lg.v_index); (focus fail "t"); (focus assumption); (focus assumption))
  | ((with_reducible apply Lg.v_rem); (focus fail "t"); (focus assumption); intro _ _ _)
  | with_reducible apply Lg.s_dput
  | with_reducible apply Lg.s_dget
  | ((with_reducible apply Lg.s_dnew); intro _ _ _ _ _)
  | ((with_reducible apply Lg.v_dput); (focus fail "t"); (focus fail "z"); intro _ _ _)
  | ((with_reducible apply Lg.v_dget); (focus fail "t"); (focus assumption))
  | ((with_reducible apply Lg.nw_t); (focus fail "z"); intro _ _ _ _ _)
  | ((with_reducible apply Lg.nw_l); (focus fail "z"); intro _ _ _ _ _)
  | ((with_reducible apply Lg.v_cat); (focus fail "t"); (focus fail "t"); (focus fail "z"); intro _ _ _ _ _)
  | ((with_reducible apply Lg.v_list); (focus fail "t"); intro _ _ _ _ _)
  | ((with_reducible apply Lg.v_slI); (focus fail "t"); intro _ _ _ _ _ _ _)
  | ((with_reducible apply Lg.v_slL); (focus fail "t"); intro _ _ _ _ _)
  | ((with_reducible apply Lg.c_size); (focus fail "t"); intro _ _ _ _ _)
  | ((with_reducible apply Lg.c_tickets); (focus fail "t"); intro _ _ _ _ _)
  | ((with_reducible apply Lg.c_mixed); (focus first | decide | fail "z"); intro _ _ _ _)
  | ((with_reducible apply Lg.c_cellAt); (focus fail "t"); (focus first | decide | omega))
  | ((with_reducible apply Lg.v_ixA); (focus fail "t"); (focus assumption))
  | ((with_reducible apply Lg.v_ixE); (focus fail "t"); (focus assumption))
  | ((with_reducible apply Lg.c_parts); (focus fail "t"); (focus assumption); intro _ _ _ _ _)
  | ((with_reducible apply Lg.v_ixI); (focus fail "t"); (focus first | omega | (simp only [List.length_map] at *; omega)); intro _ _)
  | ((with_reducible apply Lg.v_ixN); (focus fail "t"); (focus omega); intro _ _)
  | ((with_reducible apply Lg.c_isL); (focus fail "t"))
  | ((with_reducible apply Lg.c_isT); (focus fail "t"))
  | ((with_reducible apply Lg.v_rep); (focus fail "t"); (focus omega); (focus decide); intro _ _ _ _ _)
  | with_reducible apply Lg.c_wholeI
  | with_reducible apply Lg.c_wholeN
  | ((with_reducible apply Lg.c_numbers); (focus fail "t"); (focus fail "t"); (focus fail "z"); (focus fail "z"))
  | ((with_reducible apply Lg.c_rows); (focus fail "t"); (focus fail "t"); (focus fail "z"); (focus fail "z"); intro _ _)
  | ((with_reducible apply Lg.c_grid); (focus fail "t"); (focus assumption); (focus omega); (focus omega); (focus omega); intro _ _ _ _ _ _ _ _ _)
  | ((with_reducible apply Lg.c_holder); (focus fail "t"); (focus omega); (focus omega))
  | ((with_reducible apply Lg.v_append); (focus fail "t"); (focus fail "z"); intro _ _ _)
  | ((with_reducible apply Lg.v_iR1); (focus omega))
  | ((with_reducible apply Lg.v_iR1'); (focus omega))
  | ((with_reducible apply Lg.v_iR2); (focus omega); (focus omega)))
local macro_rules | `(tactic| fail "s") => `(tactic| first
  | ((with_reducible apply Lg.v_slTake); (focus fail "t"); (focus fail "z"); intro _ _ _ _ _))
local macro_rules | `(tactic| fail "s") => `(tactic| first
  | ((with_reducible apply Lg.v_slTop2); (focus fail "t"); intro _ _ _ _ _))
local macro_rules | `(tactic| fail "s") => `(tactic| first
  | with_reducible apply Lg.s_tM1
  | with_reducible apply Lg.s_strAnd)
local macro_rules | `(tactic| fail "s") => `(tactic| first
  | ((with_reducible apply Lg.v_slDrop1); (focus fail "t"); intro _ _ _ _ _))
local macro_rules | `(tactic| fail "s") => `(tactic| first
  | with_reducible apply Lg.s_sFld)
def top (i : Nat) : Stmt := PySem.Challenge.pw_legseats_k12_written_and_read.main.body.getD i (.Pass ⟨0, 0, 0, 0⟩)
abbrev s_law_seats : Stmt := top 35
abbrev s_law_cell_at : Stmt := top 32
abbrev s_law_stops : Stmt := top 36
abbrev s_law_world : Stmt := top 41
abbrev s_Train_init : Stmt := inClass (top 19) 0
abbrev s_law_built : Stmt := top 55
abbrev s_law_laid : Stmt := top 47
abbrev s_law_cells : Stmt := top 48
abbrev s_law_mixed : Stmt := top 34
abbrev s_law_stretch_by : Stmt := top 45
abbrev s_law_deed_by : Stmt := top 46
abbrev s_Train_need_stretch : Stmt := inClass (top 19) 4
abbrev s_first_full : Stmt := top 15
abbrev s_Train_blocked : Stmt := inClass (top 19) 6
abbrev s_reach : Stmt := top 12
abbrev s_best_seat : Stmt := top 13
abbrev s_found_parts : Stmt := top 14
abbrev s_Train_row : Stmt := inClass (top 19) 7
abbrev s_Train_mark : Stmt := inClass (top 19) 8
abbrev s_Train_take : Stmt := inClass (top 19) 9
abbrev s_Train_sell : Stmt := inClass (top 19) 10
abbrev s_Train_parts : Stmt := inClass (top 19) 3
abbrev s_Train_back : Stmt := inClass (top 19) 11
abbrev s_Train_leave : Stmt := inClass (top 19) 12
abbrev s_Train_reseat : Stmt := inClass (top 19) 13
abbrev s_law_told : Stmt := top 50
abbrev s_law_class : Stmt := top 49
abbrev s_law_word : Stmt := top 51
abbrev s_law_full : Stmt := top 38
abbrev s_law_reach : Stmt := top 37
abbrev s_law_found : Stmt := top 39
abbrev s_law_mark : Stmt := top 40
abbrev s_law_sold_by : Stmt := top 43
abbrev s_law_left : Stmt := top 42
abbrev s_law_done_by : Stmt := top 44
abbrev s_Train_size : Stmt := inClass (top 19) 1
abbrev s_Train_tickets : Stmt := inClass (top 19) 2
abbrev s_written : Stmt := top 23
abbrev s_law_text_of : Stmt := top 61
abbrev s_number : Stmt := top 24
abbrev s_numbers_of : Stmt := top 25
abbrev s_Train_need_seat : Stmt := inClass (top 19) 5
abbrev s_Train_farthest : Stmt := inClass (top 19) 14
abbrev s_parts_of : Stmt := top 26
abbrev s_read : Stmt := top 27
abbrev s_stretch_of : Stmt := top 29
abbrev s_packed : Stmt := top 30
abbrev s_law_whole : Stmt := top 33
abbrev s_law_packs : Stmt := top 60
abbrev s_Train_need_leg : Stmt := inClass (top 19) 15
abbrev s_Train_load : Stmt := inClass (top 19) 17
abbrev s_law_offered : Stmt := top 56
abbrev s_law_rows : Stmt := top 52
abbrev s_law_offers : Stmt := top 57
abbrev s_law_told_of : Stmt := top 58
abbrev s_law_tells : Stmt := top 59
abbrev s_law_numbers : Stmt := top 53
abbrev s_Train_holder : Stmt := inClass (top 19) 16
abbrev s_law_like : Stmt := top 54
abbrev s_law : Stmt := top 62
def fnL : List He.DefD := [⟨("_law_seats", none), "_law_seats", "_law_seats", defArgs s_law_seats, defBody s_law_seats, defScope s_law_seats, [], []⟩,
  ⟨("_law_cell_at", none), "_law_cell_at", "_law_cell_at", defArgs s_law_cell_at, defBody s_law_cell_at, defScope s_law_cell_at, [], []⟩,
  ⟨("_law_stops", none), "_law_stops", "_law_stops", defArgs s_law_stops, defBody s_law_stops, defScope s_law_stops, [], []⟩,
  ⟨("_law_world", none), "_law_world", "_law_world", defArgs s_law_world, defBody s_law_world, defScope s_law_world, [], []⟩,
  ⟨("Train", some "__init__"), "__init__", "Train.__init__", defArgs s_Train_init, defBody s_Train_init, defScope s_Train_init, [], []⟩,
  ⟨("_law_built", none), "_law_built", "_law_built", defArgs s_law_built, defBody s_law_built, defScope s_law_built, [], []⟩,
  ⟨("_law_laid", none), "_law_laid", "_law_laid", defArgs s_law_laid, defBody s_law_laid, defScope s_law_laid, [], []⟩,
  ⟨("_law_cells", none), "_law_cells", "_law_cells", defArgs s_law_cells, defBody s_law_cells, defScope s_law_cells, [], []⟩,
  ⟨("_law_mixed", none), "_law_mixed", "_law_mixed", defArgs s_law_mixed, defBody s_law_mixed, defScope s_law_mixed, [], []⟩,
  ⟨("_law_stretch_by", none), "_law_stretch_by", "_law_stretch_by", defArgs s_law_stretch_by, defBody s_law_stretch_by, defScope s_law_stretch_by, [], []⟩,
  ⟨("_law_deed_by", none), "_law_deed_by", "_law_deed_by", defArgs s_law_deed_by, defBody s_law_deed_by, defScope s_law_deed_by, [], []⟩,
  ⟨("Train", some "need_stretch"), "need_stretch", "Train.need_stretch", defArgs s_Train_need_stretch, defBody s_Train_need_stretch, defScope s_Train_need_stretch, [], []⟩,
  ⟨("first_full", none), "first_full", "first_full", defArgs s_first_full, defBody s_first_full, defScope s_first_full, [], []⟩,
  ⟨("Train", some "blocked"), "blocked", "Train.blocked", defArgs s_Train_blocked, defBody s_Train_blocked, defScope s_Train_blocked, [], []⟩,
  ⟨("reach", none), "reach", "reach", defArgs s_reach, defBody s_reach, defScope s_reach, [], []⟩,
  ⟨("best_seat", none), "best_seat", "best_seat", defArgs s_best_seat, defBody s_best_seat, defScope s_best_seat, [], []⟩,
  ⟨("found_parts", none), "found_parts", "found_parts", defArgs s_found_parts, defBody s_found_parts, defScope s_found_parts, [], []⟩,
  ⟨("Train", some "row"), "row", "Train.row", defArgs s_Train_row, defBody s_Train_row, defScope s_Train_row, [], []⟩,
  ⟨("Train", some "mark"), "mark", "Train.mark", defArgs s_Train_mark, defBody s_Train_mark, defScope s_Train_mark, [], []⟩,
  ⟨("Train", some "take"), "take", "Train.take", defArgs s_Train_take, defBody s_Train_take, defScope s_Train_take, [], []⟩,
  ⟨("Train", some "sell"), "sell", "Train.sell", defArgs s_Train_sell, defBody s_Train_sell, defScope s_Train_sell, [], []⟩,
  ⟨("Train", some "parts"), "parts", "Train.parts", defArgs s_Train_parts, defBody s_Train_parts, defScope s_Train_parts, [], []⟩,
  ⟨("Train", some "back"), "back", "Train.back", defArgs s_Train_back, defBody s_Train_back, defScope s_Train_back, [], []⟩,
  ⟨("Train", some "leave"), "leave", "Train.leave", defArgs s_Train_leave, defBody s_Train_leave, defScope s_Train_leave, [], []⟩,
  ⟨("Train", some "reseat"), "reseat", "Train.reseat", defArgs s_Train_reseat, defBody s_Train_reseat, defScope s_Train_reseat, [], []⟩,
  ⟨("_law_told", none), "_law_told", "_law_told", defArgs s_law_told, defBody s_law_told, defScope s_law_told, [], []⟩,
  ⟨("_law_class", none), "_law_class", "_law_class", defArgs s_law_class, defBody s_law_class, defScope s_law_class, [], []⟩,
  ⟨("_law_word", none), "_law_word", "_law_word", defArgs s_law_word, defBody s_law_word, defScope s_law_word, [], []⟩,
  ⟨("_law_full", none), "_law_full", "_law_full", defArgs s_law_full, defBody s_law_full, defScope s_law_full, [], []⟩,
  ⟨("_law_reach", none), "_law_reach", "_law_reach", defArgs s_law_reach, defBody s_law_reach, defScope s_law_reach, [], []⟩,
  ⟨("_law_found", none), "_law_found", "_law_found", defArgs s_law_found, defBody s_law_found, defScope s_law_found, [], []⟩,
  ⟨("_law_mark", none), "_law_mark", "_law_mark", defArgs s_law_mark, defBody s_law_mark, defScope s_law_mark, [], []⟩,
  ⟨("_law_sold_by", none), "_law_sold_by", "_law_sold_by", defArgs s_law_sold_by, defBody s_law_sold_by, defScope s_law_sold_by, [], []⟩,
  ⟨("_law_left", none), "_law_left", "_law_left", defArgs s_law_left, defBody s_law_left, defScope s_law_left, [], []⟩,
  ⟨("_law_done_by", none), "_law_done_by", "_law_done_by", defArgs s_law_done_by, defBody s_law_done_by, defScope s_law_done_by, [], []⟩,
  ⟨("Train", some "size"), "size", "Train.size", defArgs s_Train_size, defBody s_Train_size, defScope s_Train_size, [], []⟩,
  ⟨("Train", some "tickets"), "tickets", "Train.tickets", defArgs s_Train_tickets, defBody s_Train_tickets, defScope s_Train_tickets, [], []⟩,
  ⟨("written", none), "written", "written", defArgs s_written, defBody s_written, defScope s_written, [], []⟩,
  ⟨("_law_text_of", none), "_law_text_of", "_law_text_of", defArgs s_law_text_of, defBody s_law_text_of, defScope s_law_text_of, [], []⟩,
  ⟨("number", none), "number", "number", defArgs s_number, defBody s_number, defScope s_number, [], []⟩,
  ⟨("numbers_of", none), "numbers_of", "numbers_of", defArgs s_numbers_of, defBody s_numbers_of, defScope s_numbers_of, [], []⟩,
  ⟨("Train", some "need_seat"), "need_seat", "Train.need_seat", defArgs s_Train_need_seat, defBody s_Train_need_seat, defScope s_Train_need_seat, [], []⟩,
  ⟨("Train", some "farthest"), "farthest", "Train.farthest", defArgs s_Train_farthest, defBody s_Train_farthest, defScope s_Train_farthest, [], []⟩,
  ⟨("parts_of", none), "parts_of", "parts_of", defArgs s_parts_of, defBody s_parts_of, defScope s_parts_of, [], []⟩,
  ⟨("read", none), "read", "read", defArgs s_read, defBody s_read, defScope s_read, [], []⟩,
  ⟨("stretch_of", none), "stretch_of", "stretch_of", defArgs s_stretch_of, defBody s_stretch_of, defScope s_stretch_of, [], []⟩,
  ⟨("packed", none), "packed", "packed", defArgs s_packed, defBody s_packed, defScope s_packed, [], []⟩,
  ⟨("_law_whole", none), "_law_whole", "_law_whole", defArgs s_law_whole, defBody s_law_whole, defScope s_law_whole, [], []⟩,
  ⟨("_law_packs", none), "_law_packs", "_law_packs", defArgs s_law_packs, defBody s_law_packs, defScope s_law_packs, [], []⟩,
  ⟨("Train", some "need_leg"), "need_leg", "Train.need_leg", defArgs s_Train_need_leg, defBody s_Train_need_leg, defScope s_Train_need_leg, [], []⟩,
  ⟨("Train", some "load"), "load", "Train.load", defArgs s_Train_load, defBody s_Train_load, defScope s_Train_load, [], []⟩,
  ⟨("_law_offered", none), "_law_offered", "_law_offered", defArgs s_law_offered, defBody s_law_offered, defScope s_law_offered, [], []⟩,
  ⟨("_law_rows", none), "_law_rows", "_law_rows", defArgs s_law_rows, defBody s_law_rows, defScope s_law_rows, [], []⟩,
  ⟨("_law_offers", none), "_law_offers", "_law_offers", defArgs s_law_offers, defBody s_law_offers, defScope s_law_offers, [], []⟩,
  ⟨("_law_told_of", none), "_law_told_of", "_law_told_of", defArgs s_law_told_of, defBody s_law_told_of, defScope s_law_told_of, [], []⟩,
  ⟨("_law_tells", none), "_law_tells", "_law_tells", defArgs s_law_tells, defBody s_law_tells, defScope s_law_tells, [], []⟩,
  ⟨("_law_numbers", none), "_law_numbers", "_law_numbers", defArgs s_law_numbers, defBody s_law_numbers, defScope s_law_numbers, [], []⟩,
  ⟨("Train", some "holder"), "holder", "Train.holder", defArgs s_Train_holder, defBody s_Train_holder, defScope s_Train_holder, [], []⟩,
  ⟨("_law_like", none), "_law_like", "_law_like", defArgs s_law_like, defBody s_law_like, defScope s_law_like, [], []⟩,
  ⟨("law", none), "law", "law", defArgs s_law, defBody s_law, defScope s_law, [], []⟩]
def faL : List He.Fa := [.free "len",
  .free "isinstance",
  .free "str",
  .free "range",
  .glo "Train",
  .glo "_law_seats",
  .glo "_law_cell_at",
  .glo "_law_stops",
  .glo "_law_world",
  .int "MOST_STOPS" (60),
  .int "MOST_SEATS" (60),
  .exc "NoTrain",
  .glo "NoTrain",
  .exm "NoTrain" "SeatError" true,
  .mkr "Train",
  .cls "Train",
  .noat "Train" "stops",
  .noat "Train" "rows",
  .noat "Train" "sold",
  .noat "Train" "coming",
  .glo "_law_built",
  .glo "_law_laid",
  .glo "_law_cells",
  .free "tuple",
  .free "max",
  .glo "_law_mixed",
  .free "min",
  .glo "_law_stretch_by",
  .glo "_law_deed_by",
  .glo "SeatError",
  .exc "Full",
  .glo "Full",
  .exm "Full" "SeatError" true,
  .exc "NoStretch",
  .glo "NoStretch",
  .exm "NoStretch" "SeatError" true,
  .meth "Train" "need_stretch",
  .free "all",
  .glo "first_full",
  .meth "Train" "blocked",
  .free "enumerate",
  .glo "reach",
  .glo "best_seat",
  .glo "found_parts",
  .meth "Train" "row",
  .meth "Train" "mark",
  .meth "Train" "take",
  .meth "Train" "sell",
  .exc "NoTicket",
  .glo "NoTicket",
  .exm "NoTicket" "SeatError" true,
  .free "list",
  .meth "Train" "parts",
  .meth "Train" "back",
  .exc "NoStop",
  .glo "NoStop",
  .exm "NoStop" "SeatError" true,
  .meth "Train" "leave",
  .meth "Train" "reseat",
  .glo "_law_told",
  .glo "NoSeat",
  .glo "NoLeg",
  .glo "Shared",
  .glo "NoText",
  .free "ValueError",
  .glo "_law_class",
  .glo "_law_word",
  .glo "_law_full",
  .glo "_law_reach",
  .glo "_law_found",
  .glo "_law_mark",
  .glo "_law_sold_by",
  .glo "_law_left",
  .glo "_law_done_by",
  .meth "Train" "size",
  .free "sorted",
  .meth "Train" "tickets",
  .glo "written",
  .glo "_law_text_of",
  .exc "NoText",
  .exm "NoText" "SeatError" true,
  .str "FIGURES" "0123456789",
  .int "MANY_FIGURES" (9),
  .free "int",
  .glo "number",
  .glo "numbers_of",
  .exc "Shared",
  .exm "Shared" "SeatError" true,
  .exc "NoSeat",
  .exm "NoSeat" "SeatError" true,
  .meth "Train" "need_seat",
  .meth "Train" "farthest",
  .glo "parts_of",
  .glo "read",
  .glo "stretch_of",
  .glo "packed",
  .free "bool",
  .glo "_law_whole",
  .glo "_law_packs",
  .exc "NoLeg",
  .exm "NoLeg" "SeatError" true,
  .meth "Train" "need_leg",
  .meth "Train" "load",
  .glo "_law_offered",
  .glo "_law_rows",
  .glo "_law_offers",
  .glo "_law_told_of",
  .glo "_law_tells",
  .glo "_law_numbers",
  .meth "Train" "holder",
  .glo "_law_like",
  .glo "law"]
def exL : PySem.W.Frag → Bool := fun K => excAll K
abbrev Tx (K : PySem.W.Frag) (mg : Str → Option Value) : Prop := Txt faL fnL exL K mg
section
variable {P : Program} {w : World} {K : PySem.W.Frag} {mg : Str → Option Value} {base : Heap}
theorem sc_law_seats : FnScope ["_law_cell"] ["_law_cell"] (defScope s_law_seats) := ⟨rfl, rfl, rfl, by decide +kernel, rfl, by decide +kernel, by decide +kernel⟩
theorem c_law_seats (T : Tx K mg) : Cal P w K mg base 1 "_law_seats" spSeats := by
  refine T.cal 0 5 rfl rfl sc_law_seats (fun _ _ _ _ _ _ us hl => match us, hl with | [_], _ => rfl) (fun vs H Q E h => ?_) fun cdv A outer s H vs Q E hr h => ?_
  · first | (obtain ⟨_, rfl, _⟩ := h; rfl) | (obtain ⟨_, _, rfl, _⟩ := h; rfl) | (obtain ⟨_, _, _, rfl, _⟩ := h; rfl) | (obtain ⟨_, _, _, _, rfl, _⟩ := h; rfl) | (obtain ⟨_, _, _, _, _, rfl, _⟩ := h; rfl) | (obtain ⟨_, _, _, _, _, _, rfl, _⟩ := h; rfl) | (obtain ⟨_, _, _, _, _, _, _, rfl, _⟩ := h; rfl) | (obtain ⟨_, _, _, _, _, _, _, _, rfl, _⟩ := h; rfl) | (obtain ⟨_, _, _, _, _, _, _, _, _, rfl, _⟩ := h; rfl) | (obtain ⟨_, _, _, _, _, _, _, _, _, _, rfl, _⟩ := h; rfl) | (obtain ⟨_, _, _, _, _, _, _, _, _, _, _, rfl, _⟩ := h; rfl) | (obtain ⟨_, _, _, _, _, _, _, _, _, _, _, _, rfl, _⟩ := h; rfl) | (obtain ⟨_, _, _, _, _, _, _, _, _, _, _, _, _, rfl, _⟩ := h; rfl) | (obtain ⟨_, _, _, _, _, _, _, _, _, _, _, _, _, _, rfl, _⟩ := h; rfl) | (obtain ⟨_, _, _, _, _, _, _, _, _, _, _, _, _, _, _, rfl, _⟩ := h; rfl)
  · refine ⟨_, (pss_cons (ps_if (pt_cmpR op_eq (pe_op op_mod (pe_op op_fdiv (pv 0) pe_int) pe_int) pe_int (nomark _))
        (pss_one (ps_ret (pe_op op_add pe_int (pe_op op_mod (pe_op op_fdiv (pv 0) pe_int) pe_int))))
        pss_nil)
      (pss_cons (ps_if (pt_cmpR op_eq (pe_op op_mod (pe_op op_fdiv (pv 0) pe_int) pe_int) pe_int (nomark _))
        (pss_one (ps_ret (pe_op op_add pe_int (pe_op op_mod (pe_op op_fdiv (pv 0) pe_int) pe_int))))
        pss_nil)
      (pss_one (ps_ret (pe_op op_add pe_int (pe_op op_mod (pv 0) pe_int)))))), ?_⟩
    obtain ⟨c, rfl, q⟩ := h
    have qi : ∀ z : Int, 1 ≤ z → z ≤ 60 → Q (.int z) H := fun z h1 h2 => by
      have := q z.toNat (by omega) (by omega)
      rw [Int.toNat_of_nonneg (by omega)] at this
      exact this
    refine ⟨_, rfl, _, _, rfl, rfl, ⟨by decide, by decide⟩, _, _, rfl, rfl, (by show (0 : Int) < 8; decide), rfl, _, rfl, ?_⟩
    refine iteD (fun _ => ?_) (fun _ => ?_)
    · refine ⟨_, rfl, _, _, rfl, rfl, ⟨by decide, by decide⟩, _, _, rfl, rfl, (by show (0 : Int) < 11; decide), _, _, rfl, rfl, ?_⟩
      have h1 := Int.emod_nonneg (c / 40) (b := 11) (by decide)
      have h2 := Int.emod_lt_of_pos (c / 40) (b := 11) (by decide)
      exact qi _ (by omega) (by omega)
    refine ⟨_, rfl, _, _, rfl, rfl, ⟨by decide, by decide⟩, _, _, rfl, rfl, (by show (0 : Int) < 8; decide), rfl, _, rfl, ?_⟩
    refine iteD (fun _ => ?_) (fun _ => ?_)
    · refine ⟨_, rfl, _, _, rfl, rfl, ⟨by decide, by decide⟩, _, _, rfl, rfl, (by show (0 : Int) < 44; decide), _, _, rfl, rfl, ?_⟩
      have h1 := Int.emod_nonneg (c / 40) (b := 44) (by decide)
      have h2 := Int.emod_lt_of_pos (c / 40) (b := 44) (by decide)
      exact qi _ (by omega) (by omega)
    refine ⟨_, rfl, _, _, rfl, rfl, (by show (0 : Int) < 5; decide), _, _, rfl, rfl, ?_⟩
    have h1 := Int.emod_nonneg c (b := 5) (by decide)
    have h2 := Int.emod_lt_of_pos c (b := 5) (by decide)
    exact qi _ (by omega) (by omega)
theorem sc_law_cell_at : FnScope ["_law_script", "_law_k"] ["_law_script", "_law_k"] (defScope s_law_cell_at) := ⟨rfl, rfl, rfl, by decide +kernel, rfl, by decide +kernel, by decide +kernel⟩
theorem c_law_cell_at (T : Tx K mg) : Cal P w K mg base 1 "_law_cell_at" (spCellAt K) := by
  refine T.cal 1 6 rfl rfl sc_law_cell_at (fun _ _ _ _ _ _ us hl => match us, hl with | [_, _], _ => rfl) (fun vs H Q E h => ?_) fun cdv A outer s H vs Q E hr h => ?_
  · first | (obtain ⟨_, rfl, _⟩ := h; rfl) | (obtain ⟨_, _, rfl, _⟩ := h; rfl) | (obtain ⟨_, _, _, rfl, _⟩ := h; rfl) | (obtain ⟨_, _, _, _, rfl, _⟩ := h; rfl) | (obtain ⟨_, _, _, _, _, rfl, _⟩ := h; rfl) | (obtain ⟨_, _, _, _, _, _, rfl, _⟩ := h; rfl) | (obtain ⟨_, _, _, _, _, _, _, rfl, _⟩ := h; rfl) | (obtain ⟨_, _, _, _, _, _, _, _, rfl, _⟩ := h; rfl) | (obtain ⟨_, _, _, _, _, _, _, _, _, rfl, _⟩ := h; rfl) | (obtain ⟨_, _, _, _, _, _, _, _, _, _, rfl, _⟩ := h; rfl) | (obtain ⟨_, _, _, _, _, _, _, _, _, _, _, rfl, _⟩ := h; rfl) | (obtain ⟨_, _, _, _, _, _, _, _, _, _, _, _, rfl, _⟩ := h; rfl) | (obtain ⟨_, _, _, _, _, _, _, _, _, _, _, _, _, rfl, _⟩ := h; rfl) | (obtain ⟨_, _, _, _, _, _, _, _, _, _, _, _, _, _, rfl, _⟩ := h; rfl) | (obtain ⟨_, _, _, _, _, _, _, _, _, _, _, _, _, _, _, rfl, _⟩ := h; rfl)
  · refine ⟨_, (pss_cons (ps_if (pt_cmpR op_lt (pv 1) (pe_callB (len_k K) (by rfl) (T.free 0) PySem.boot_len (pa_cons (pv 0) pa_nil)) (nomark _))
        (pss_one (ps_ret (pe_ix (ix_l K) (pv 0) (pv 1) (fun _ _ => rfl))))
        pss_nil)
      (pss_one (ps_ret pe_int))), ?_⟩
    obtain ⟨a, ns, k, rfl, hS, q⟩ := h
    refine ⟨_, rfl, _, rfl, a, _, rfl, .inl hS, _, _, rfl, rfl, _, rfl, ?_⟩
    rw [List.length_map]
    refine iteD (fun h1 => ?_) (fun h1 => ?_)
    · have hk : k < ns.length := by omega
      have e := List.getElem?_eq_getElem hk
      refine ⟨_, rfl, _, rfl, a, _, _, _, rfl, rfl, hS, at_of rfl (map_get e), ?_⟩
      unfold cellAt at q
      rw [e] at q
      exact q
    · have hk : ns.length ≤ k := by omega
      unfold cellAt at q
      rw [List.getElem?_eq_none hk] at q
      exact q
theorem sc_law_stops : FnScope ["_law_cell"] ["_law_cell"] (defScope s_law_stops) := ⟨rfl, rfl, rfl, by decide +kernel, rfl, by decide +kernel, by decide +kernel⟩
theorem c_law_stops (T : Tx K mg) : Cal P w K mg base 1 "_law_stops" spStops := by
  refine T.cal 2 7 rfl rfl sc_law_stops (fun _ _ _ _ _ _ us hl => match us, hl with | [_], _ => rfl) (fun vs H Q E h => ?_) fun cdv A outer s H vs Q E hr h => ?_
  · first | (obtain ⟨_, rfl, _⟩ := h; rfl) | (obtain ⟨_, _, rfl, _⟩ := h; rfl) | (obtain ⟨_, _, _, rfl, _⟩ := h; rfl) | (obtain ⟨_, _, _, _, rfl, _⟩ := h; rfl) | (obtain ⟨_, _, _, _, _, rfl, _⟩ := h; rfl) | (obtain ⟨_, _, _, _, _, _, rfl, _⟩ := h; rfl) | (obtain ⟨_, _, _, _, _, _, _, rfl, _⟩ := h; rfl) | (obtain ⟨_, _, _, _, _, _, _, _, rfl, _⟩ := h; rfl) | (obtain ⟨_, _, _, _, _, _, _, _, _, rfl, _⟩ := h; rfl) | (obtain ⟨_, _, _, _, _, _, _, _, _, _, rfl, _⟩ := h; rfl) | (obtain ⟨_, _, _, _, _, _, _, _, _, _, _, rfl, _⟩ := h; rfl) | (obtain ⟨_, _, _, _, _, _, _, _, _, _, _, _, rfl, _⟩ := h; rfl) | (obtain ⟨_, _, _, _, _, _, _, _, _, _, _, _, _, rfl, _⟩ := h; rfl) | (obtain ⟨_, _, _, _, _, _, _, _, _, _, _, _, _, _, rfl, _⟩ := h; rfl) | (obtain ⟨_, _, _, _, _, _, _, _, _, _, _, _, _, _, _, rfl, _⟩ := h; rfl)
  · refine ⟨_, (pss_cons (ps_if (pt_cmpR op_eq (pe_op op_mod (pe_op op_fdiv (pv 0) pe_int) pe_int) pe_int (nomark _))
        (pss_one (ps_ret (pe_op op_add pe_int (pe_op op_mod (pe_op op_fdiv (pv 0) pe_int) pe_int))))
        pss_nil)
      (pss_cons (ps_if (pt_cmpR op_eq (pe_op op_mod (pe_op op_fdiv (pv 0) pe_int) pe_int) pe_int (nomark _))
        (pss_one (ps_ret (pe_op op_add pe_int (pe_op op_mod (pe_op op_fdiv (pv 0) pe_int) pe_int))))
        pss_nil)
      (pss_one (ps_ret (pe_op op_add pe_int (pe_op op_mod (pv 0) pe_int)))))), ?_⟩
    obtain ⟨c, rfl, q⟩ := h
    have qi : ∀ z : Int, 2 ≤ z → z ≤ 60 → Q (.int z) H := fun z h1 h2 => by
      have := q z.toNat (by omega) (by omega)
      rw [Int.toNat_of_nonneg (by omega)] at this
      exact this
    refine ⟨_, rfl, _, _, rfl, rfl, ⟨by decide, by decide⟩, _, _, rfl, rfl, (by show (0 : Int) < 8; decide), rfl, _, rfl, ?_⟩
    refine iteD (fun _ => ?_) (fun _ => ?_)
    · refine ⟨_, rfl, _, _, rfl, rfl, ⟨by decide, by decide⟩, _, _, rfl, rfl, (by show (0 : Int) < 11; decide), _, _, rfl, rfl, ?_⟩
      have h1 := Int.emod_nonneg (c / 64) (b := 11) (by decide)
      have h2 := Int.emod_lt_of_pos (c / 64) (b := 11) (by decide)
      exact qi _ (by omega) (by omega)
    refine ⟨_, rfl, _, _, rfl, rfl, ⟨by decide, by decide⟩, _, _, rfl, rfl, (by show (0 : Int) < 8; decide), rfl, _, rfl, ?_⟩
    refine iteD (fun _ => ?_) (fun _ => ?_)
    · refine ⟨_, rfl, _, _, rfl, rfl, ⟨by decide, by decide⟩, _, _, rfl, rfl, (by show (0 : Int) < 40; decide), _, _, rfl, rfl, ?_⟩
      have h1 := Int.emod_nonneg (c / 64) (b := 40) (by decide)
      have h2 := Int.emod_lt_of_pos (c / 64) (b := 40) (by decide)
      exact qi _ (by omega) (by omega)
    refine ⟨_, rfl, _, _, rfl, rfl, (by show (0 : Int) < 8; decide), _, _, rfl, rfl, ?_⟩
    have h1 := Int.emod_nonneg c (b := 8) (by decide)
    have h2 := Int.emod_lt_of_pos c (b := 8) (by decide)
    exact qi _ (by omega) (by omega)
theorem sc_law_world : FnScope ["_law_seats_here", "_law_stops_here", "_law_seat"] ["_law_seats_here", "_law_stops_here"] (defScope s_law_world) := ⟨rfl, rfl, rfl, by decide +kernel, rfl, by decide +kernel, by decide +kernel⟩
theorem c_law_world (T : Tx K mg) : Cal P w K mg base 1 "_law_world" spWorldNew := by
  refine T.cal 3 8 rfl rfl sc_law_world (fun _ _ _ _ _ _ us hl => match us, hl with | [_, _], _ => rfl) (fun vs H Q E h => ?_) fun cdv A outer s H vs Q E hr h => ?_
  · first | (obtain ⟨_, rfl, _⟩ := h; rfl) | (obtain ⟨_, _, rfl, _⟩ := h; rfl) | (obtain ⟨_, _, _, rfl, _⟩ := h; rfl) | (obtain ⟨_, _, _, _, rfl, _⟩ := h; rfl) | (obtain ⟨_, _, _, _, _, rfl, _⟩ := h; rfl) | (obtain ⟨_, _, _, _, _, _, rfl, _⟩ := h; rfl) | (obtain ⟨_, _, _, _, _, _, _, rfl, _⟩ := h; rfl) | (obtain ⟨_, _, _, _, _, _, _, _, rfl, _⟩ := h; rfl) | (obtain ⟨_, _, _, _, _, _, _, _, _, rfl, _⟩ := h; rfl) | (obtain ⟨_, _, _, _, _, _, _, _, _, _, rfl, _⟩ := h; rfl) | (obtain ⟨_, _, _, _, _, _, _, _, _, _, _, rfl, _⟩ := h; rfl) | (obtain ⟨_, _, _, _, _, _, _, _, _, _, _, _, rfl, _⟩ := h; rfl) | (obtain ⟨_, _, _, _, _, _, _, _, _, _, _, _, _, rfl, _⟩ := h; rfl) | (obtain ⟨_, _, _, _, _, _, _, _, _, _, _, _, _, _, rfl, _⟩ := h; rfl) | (obtain ⟨_, _, _, _, _, _, _, _, _, _, _, _, _, _, _, rfl, _⟩ := h; rfl)
  · refine ⟨_, (pss_one (ps_ret (pe_lst (pa_cons (pe_lc (own := [("_law_seat", 2)]) (g := gName 2) rfl sc_law_world.nd (pi_range1 (by rfl) (T.free 3) (pa_cons (pv 0) pa_nil)) (blkOk_by (N := ["_law_seats_here", "_law_stops_here", "_law_seat"]) (sc := defScope s_law_world) (by decide +kernel)) (fun _ _ _ _ _ => pg_name (i := 2) sc_law_world.nd rfl (Or.inl rfl)) (fun _ _ _ _ _ => pts_nil) (fun _ _ _ _ _ => (pe_op op_rep (pe_lst (pa_cons pe_non pa_nil)) (pe_op op_sub (pv 1) pe_int)))) (pa_cons (pe_lst pa_nil) (pa_cons (pe_lst pa_nil) (pa_cons pe_int pa_nil))))))), ?_⟩
    obtain ⟨seats, stops, rfl, h1, h2, h3, h4, q⟩ := h
    refine ⟨_, rfl, _, rfl, by omega, by omega, fun D hD => ?_⟩
    refine lc_new walk_range y_range hD (fun _ _ => trivial) (by omega) (fun _ => true) (fun _ o => o = .lst ((List.replicate (stops - 1) (none : Option Nat)).map oV)) (fun _ => rfl) lc_yes ?_ ?_
    · rintro k x H2 hk rfl _ e2 hD2 Q2 q3
      refine ⟨by show 1 ≤ sizeLine; decide, fun l0 hl0 => ?_⟩
      refine ⟨_, rfl, _, _, rfl, rfl, _, _, _, rfl, rfl, upd_same, by omega, by omega, ?_, fun l1 hl1 => ?_⟩
      · show 1 * ((stops : Int) - 1).toNat ≤ sizeLine
        refine Nat.le_trans (m := 100) (by omega) (by decide)
      · have hb : ((stops : Int) - 1).toNat = stops - 1 := by omega
        obtain ⟨n1, n2⟩ := fresh_upd hl1
        refine q3 l1 _ _ n2 (fun c o hc => ?_) upd_same ?_
        · rw [upd_ne (ne_of_none hc n2), upd_ne (ne_of_none hc hl0)]
          exact hc
        · rw [hb, rep_none]
    intro H3 as e3 hD3 nd fr hall
    rw [kept_all] at hall
    have hrows : All2 (RowAt H3) as (Tr.new seats stops).rows := all_rows (n := ((seats : Int)).toNat) hall |> fun h => by
      have : ((seats : Int)).toNat = seats := by omega
      rw [this] at h
      exact h
    refine ⟨by show 0 ≤ sizeLine; decide, fun so hso => ?_⟩
    refine ⟨by show 0 ≤ sizeLine; decide, fun pa hpa => ?_⟩
    refine ⟨by show 4 ≤ sizeLine; decide, fun w hw => ?_⟩
    obtain ⟨a1, a2⟩ := fresh_upd hpa
    obtain ⟨b1, b2⟩ := fresh_upd hw
    obtain ⟨c1, c2⟩ := fresh_upd b2
    have E1 := Evl.Ex.new (o := .lst []) hso
    have E2 := Evl.Ex.new (o := .lst []) hpa
    have E3 := Evl.Ex.new (o := .lst [.ref D, .ref so, .ref pa, .int 0]) hw
    have Eall : Ex H3 _ := E1.trans (E2.trans E3)
    have inas : ∀ a ∈ as, ∃ o, H3 a = some o := fun a m => by
      obtain ⟨y, _, z⟩ := hrows.mem_left m
      exact ⟨_, z⟩
    have nas : ∀ a, H3 a = none → a ∉ as := fun a ha m => by
      obtain ⟨o, z⟩ := inas a m
      rw [z] at ha
      cases ha
    have hDso : D ≠ so := ne_of_none hD3 hso
    have hDpa : D ≠ pa := ne_of_none hD3 a2
    have hDw : D ≠ w := ne_of_none hD3 c2
    refine q _ (fun a => a ∈ [w, D, so, pa] ++ as) w (e3.trans Eall) ⟨D, so, pa, as, [], ⟨upd_same, ⟨Eall _ _ hD3, hrows.mono fun _ _ z => Eall _ _ z⟩, (E2.trans E3) _ _ upd_same, E3 _ _ upd_same, All2.nil, ?_, fun l m => (by cases m)⟩, fun a m => by rw [List.append_nil] at m; exact m⟩ fun a m => ?_
    · refine List.nodup_append.mpr ⟨?_, nd, ?_⟩
      · simp only [List.nodup_cons, List.mem_cons, List.not_mem_nil, or_false, not_or, not_false_eq_true, List.nodup_nil, and_true]
        exact ⟨⟨hDw.symm, c1, b1⟩, ⟨hDso, hDpa⟩, a1.symm⟩
      · intro a ma b mb
        rintro rfl
        simp only [List.mem_cons, List.not_mem_nil, or_false] at ma
        rcases ma with rfl | rfl | rfl | rfl
        · exact nas _ c2 mb
        · exact (fr _ mb).2 rfl
        · exact nas _ hso mb
        · exact nas _ a2 mb
    · rcases List.mem_append.mp m with m | m
      · simp only [List.mem_cons, List.not_mem_nil, or_false] at m
        rcases m with rfl | rfl | rfl | rfl
        · exact ⟨Evl.fresh_back e3 c2, _, upd_same⟩
        · exact ⟨hD, _, Eall _ _ hD3⟩
        · exact ⟨Evl.fresh_back e3 hso, _, (E2.trans E3) _ _ upd_same⟩
        · exact ⟨Evl.fresh_back e3 a2, _, E3 _ _ upd_same⟩
      · obtain ⟨o, z⟩ := inas a m
        exact ⟨(fr a m).1, _, Eall _ _ z⟩
theorem sc_Train_init : FnScope ["self", "seats", "stops", "seat"] ["self", "seats", "stops"] (defScope s_Train_init) := ⟨rfl, rfl, rfl, by decide +kernel, rfl, by decide +kernel, by decide +kernel⟩
theorem k_Train (T : Tx K mg) : Mak P w K mg base 1 "Train" (He.ga K "Train") (spInit K) := by
  refine T.mak 4 14 4 rfl rfl rfl sc_Train_init (fun _ _ _ _ _ _ us hl => match us, hl with | [_, _, _], _ => rfl) (fun vs H Q E h => ?_) fun cdv A outer s H vs Q E hr h => ?_
  · first | (obtain ⟨_, rfl, _⟩ := h; rfl) | (obtain ⟨_, _, rfl, _⟩ := h; rfl) | (obtain ⟨_, _, _, rfl, _⟩ := h; rfl) | (obtain ⟨_, _, _, _, rfl, _⟩ := h; rfl) | (obtain ⟨_, _, _, _, _, rfl, _⟩ := h; rfl) | (obtain ⟨_, _, _, _, _, _, rfl, _⟩ := h; rfl) | (obtain ⟨_, _, _, _, _, _, _, rfl, _⟩ := h; rfl) | (obtain ⟨_, _, _, _, _, _, _, _, rfl, _⟩ := h; rfl) | (obtain ⟨_, _, _, _, _, _, _, _, _, rfl, _⟩ := h; rfl) | (obtain ⟨_, _, _, _, _, _, _, _, _, _, rfl, _⟩ := h; rfl) | (obtain ⟨_, _, _, _, _, _, _, _, _, _, _, rfl, _⟩ := h; rfl) | (obtain ⟨_, _, _, _, _, _, _, _, _, _, _, _, rfl, _⟩ := h; rfl) | (obtain ⟨_, _, _, _, _, _, _, _, _, _, _, _, _, rfl, _⟩ := h; rfl) | (obtain ⟨_, _, _, _, _, _, _, _, _, _, _, _, _, _, rfl, _⟩ := h; rfl) | (obtain ⟨_, _, _, _, _, _, _, _, _, _, _, _, _, _, _, rfl, _⟩ := h; rfl)
  · refine ⟨_, (pss_cons (ps_if (PW.pt (pw_or (pt_not (pt_chain op_le op_le pe_int (pv 1) (pe_gi rfl (T.int 10)))) (pw_or1 (pt_not (pt_chain op_le op_le pe_int (pv 2) (pe_gi rfl (T.int 9)))))))
        (pss_one (ps_raise rfl (takes_of rfl rfl rfl rfl) (pmk_x T 11 12 rfl rfl)))
        pss_nil)
      (pss_cons (ps_fld (pv 0) (pv 2) rfl)
      (pss_cons (ps_fld (pv 0) (pe_lc (own := [("seat", 3)]) (g := gName 3) rfl sc_Train_init.nd (pi_range1 (by rfl) (T.free 3) (pa_cons (pv 1) pa_nil)) (blkOk_by (N := ["self", "seats", "stops", "seat"]) (sc := defScope s_Train_init) (by decide +kernel)) (fun _ _ _ _ _ => pg_name (i := 3) sc_Train_init.nd rfl (Or.inl rfl)) (fun _ _ _ _ _ => pts_nil) (fun _ _ _ _ _ => (pe_op op_rep (pe_lst (pa_cons pe_non pa_nil)) (pe_op op_sub (pv 2) pe_int)))) rfl)
      (pss_cons (ps_fld (pv 0) pe_dnewK rfl)
      (pss_one (ps_fld (pv 0) pe_int rfl)))))), ?_⟩
    obtain ⟨p, dx, a, b, rfl, hp, q1, q2⟩ := h
    refine ⟨_, rfl, _, _, rfl, rfl, _, rfl, ?_⟩
    refine iteD (fun h1 => ?_) (fun h1 => ?_)
    rotate_left
    · exact ⟨_, rfl, iteT (iteT (q2 fun z => h1 z.1))⟩
    refine ⟨_, _, rfl, rfl, _, rfl, ?_⟩
    refine iteN (fun h2 => ?_) (fun h2 => ?_)
    · exact iteT (q2 fun z => h2 z.2.1)
    refine ⟨_, rfl, _, _, rfl, rfl, _, rfl, ?_⟩
    refine iteD (fun h3 => ?_) (fun h3 => ?_)
    rotate_left
    · exact ⟨_, rfl, iteT (q2 fun z => h3 z.2.2.1)⟩
    refine ⟨_, _, rfl, rfl, _, rfl, ?_⟩
    refine iteN (fun h4 => ?_) (fun h4 => ?_)
    · exact q2 fun z => h4 z.2.2.2
    refine ⟨_, rfl, _, rfl, p, _, dx, _, rfl, hp, (T.cls 15), (T.noat 16), (by show 0 < 1000; decide), ?_⟩
    refine ⟨_, rfl, _, rfl, by omega, by omega, fun D hD => ?_⟩
    have hpD : p ≠ D := fun z => by
      rw [z, upd_same] at hD
      cases hD
    refine lc_new walk_range y_range hD (fun _ _ => trivial) (by omega) (fun _ => true) (fun _ o => o = .lst ((List.replicate (b.toNat - 1) (none : Option Nat)).map oV)) (fun _ => rfl) lc_yes ?_ ?_
    · rintro k x H2 hk rfl _ e2 hD2 Q2 q3
      refine ⟨by show 1 ≤ sizeLine; decide, fun l0 hl0 => ?_⟩
      refine ⟨_, rfl, _, _, rfl, rfl, _, _, _, rfl, rfl, upd_same, by omega, by omega, ?_, fun l1 hl1 => ?_⟩
      · show 1 * (b - 1).toNat ≤ sizeLine
        refine Nat.le_trans (m := 100) (by omega) (by decide)
      · have hb : (b - 1).toNat = b.toNat - 1 := by omega
        obtain ⟨n1, n2⟩ := fresh_upd hl1
        refine q3 l1 _ _ n2 (fun c o hc => ?_) upd_same ?_
        · rw [upd_ne (ne_of_none hc n2), upd_ne (ne_of_none hc hl0)]
          exact hc
        · rw [hb, rep_none]
    intro H3 as e3 hD3 nd fr hall
    rw [kept_all] at hall
    have hp3 := e3 _ _ (upd_same (H := H) (a := p) (o := .ins (He.ga K "Train") dx (putF "stops" (.int b) [])))
    refine ⟨_, rfl, p, _, dx, _, rfl, hp3, (T.cls 15), (T.noat 17), (by show 1 < 1000; decide), ?_⟩
    refine fun d hd => ?_
    obtain ⟨hdp, hd3⟩ := fresh_upd hd
    refine ⟨_, rfl, p, _, dx, _, rfl, (by rw [upd_ne hdp.symm]; exact upd_same), (T.cls 15), (T.noat 18), ?_, ?_⟩
    · refine Nat.lt_of_le_of_lt (putF_len _ _ _) ?_
      show 1 + 1 < 1000
      decide
    refine ⟨_, rfl, p, _, dx, _, rfl, upd_same, (T.cls 15), (T.noat 19), ?_, ?_⟩
    · refine Nat.lt_of_le_of_lt (putF_len _ _ _) ?_
      refine Nat.lt_of_le_of_lt (Nat.add_le_add_right (putF_len _ _ _) 1) ?_
      show 1 + 1 + 1 < 1000
      decide
    have hfs : putF "coming" (.int 0) (putF "sold" (.ref d) (putF "rows" (.ref D) (putF "stops" (.int b) []))) = trF b.toNat D d 0 := by
      have hb : (b.toNat : Int) = b := by omega
      rw [← put_all, hb]
      rfl
    have hnp : ∀ c ∈ as, c ≠ p := fun c m z => by
      have := (fr c m).1
      rw [z, upd_same] at this
      cases this
    have hnd : ∀ c ∈ as, c ≠ d := fun c m z => by
      obtain ⟨i, hi, e⟩ := List.mem_iff_getElem.mp m
      obtain ⟨_, _, o, eo, _⟩ := hall.right (i := i) (y := c) (by rw [List.getElem?_eq_getElem hi, e])
      rw [z, hd3] at eo
      cases eo
    have hDd : D ≠ d := fun z => by
      rw [z, hd3] at hD3
      cases hD3
    have hDp : D ≠ p := hpD.symm
    refine q1 ⟨h1, h2, h3, h4⟩ _ (fun c => c = p ∨ c = D ∨ c = d ∨ c ∈ as) (fun c o hc ho => ?_) (fun c hc => ?_) ?_
    · have h0 : upd H p (.ins (He.ga K "Train") dx (putF "stops" (.int b) [])) c = some o := by rw [upd_ne hc]; exact ho
      have h5 := e3 _ _ h0
      rw [upd_ne hc, upd_ne hc, upd_ne (ne_of_none h5 hd3), upd_ne hc]
      exact h5
    · rcases hc with hc | hc | hc | hc
      · exact .inl hc
      · rw [hc]
        exact .inr (fresh_upd hD).2
      · rw [hc]
        exact .inr (fresh_upd (Evl.fresh_back e3 hd3)).2
      · exact .inr (fresh_upd (fr c hc).1).2
    · refine ⟨D, d, as, [], ⟨Tr.new_wf (by omega) (by omega) (by omega) (by omega), ⟨dx, ?_⟩, ⟨?_, ?_⟩, nd, fun m => (fr D m).2 rfl, rfl, ?_, fun e m => (by cases m), fun e m => (by cases m)⟩, .inl rfl, .inr (.inl rfl), .inr (.inr (.inl rfl)), fun c m => .inr (.inr (.inr m)), fun e m => (by cases m)⟩
      · rw [upd_same, hfs]
        rfl
      · rw [upd_ne hDp, upd_ne hDp, upd_ne hDd, upd_ne hDp]
        exact hD3
      · have ha : (a - 0).toNat = a.toNat := by omega
        refine (all_rows (n := a.toNat) hall).monoM fun c row m _ r => ?_
        show _ = _
        rw [upd_ne (hnp c m), upd_ne (hnp c m), upd_ne (hnd c m), upd_ne (hnp c m)]
        exact r
      · rw [upd_ne hdp, upd_ne hdp, upd_same]
        rfl
theorem sc_law_built : FnScope ["_law_script", "_law_seats_here", "_law_stops_here"] ["_law_script"] (defScope s_law_built) := ⟨rfl, rfl, rfl, by decide +kernel, rfl, by decide +kernel, by decide +kernel⟩
theorem c_law_built (T : Tx K mg) : Cal P w K mg base 3 "_law_built" (spBuilt K) := by
  refine T.cal 5 20 rfl rfl sc_law_built (fun _ _ _ _ _ _ us hl => match us, hl with | [_], _ => rfl) (fun vs H Q E h => ?_) fun cdv A outer s H vs Q E hr h => ?_
  · first | (obtain ⟨_, rfl, _⟩ := h; rfl) | (obtain ⟨_, _, rfl, _⟩ := h; rfl) | (obtain ⟨_, _, _, rfl, _⟩ := h; rfl) | (obtain ⟨_, _, _, _, rfl, _⟩ := h; rfl) | (obtain ⟨_, _, _, _, _, rfl, _⟩ := h; rfl) | (obtain ⟨_, _, _, _, _, _, rfl, _⟩ := h; rfl) | (obtain ⟨_, _, _, _, _, _, _, rfl, _⟩ := h; rfl) | (obtain ⟨_, _, _, _, _, _, _, _, rfl, _⟩ := h; rfl) | (obtain ⟨_, _, _, _, _, _, _, _, _, rfl, _⟩ := h; rfl) | (obtain ⟨_, _, _, _, _, _, _, _, _, _, rfl, _⟩ := h; rfl) | (obtain ⟨_, _, _, _, _, _, _, _, _, _, _, rfl, _⟩ := h; rfl) | (obtain ⟨_, _, _, _, _, _, _, _, _, _, _, _, rfl, _⟩ := h; rfl) | (obtain ⟨_, _, _, _, _, _, _, _, _, _, _, _, _, rfl, _⟩ := h; rfl) | (obtain ⟨_, _, _, _, _, _, _, _, _, _, _, _, _, _, rfl, _⟩ := h; rfl) | (obtain ⟨_, _, _, _, _, _, _, _, _, _, _, _, _, _, _, rfl, _⟩ := h; rfl)
  · refine ⟨_, (pss_cons (ps_set (i := 1) sc_law_built.nd rfl (Or.inl rfl) (pe_c (c_law_seats T) hr pz (pa_cons (pe_c (c_law_cell_at T) hr pz (pa_cons (pv 0) (pa_cons pe_int pa_nil))) pa_nil)))
      (pss_cons (ps_set (i := 2) sc_law_built.nd rfl (Or.inl rfl) (pe_c (c_law_stops T) hr pz (pa_cons (pe_c (c_law_cell_at T) hr pz (pa_cons (pv 0) (pa_cons pe_int pa_nil))) pa_nil)))
      (pss_one (ps_ret (pe_lst (pa_cons (pe_k (k_Train T) hr pz (pa_cons (pv 1) (pa_cons (pv 2) pa_nil))) (pa_cons (pe_c (c_law_world T) hr pz (pa_cons (pv 1) (pa_cons (pv 2) pa_nil))) pa_nil))))))), ?_⟩
    obtain ⟨sa, ns, rfl, hS, q⟩ := h
    refine ⟨_, rfl, sa, ns, 0, rfl, hS, _, rfl, fun n1 hn1 hn2 => ?_⟩
    refine ⟨_, rfl, sa, ns, 1, rfl, hS, _, rfl, fun n2 hn3 hn4 => ?_⟩
    refine ⟨_, rfl, _, rfl, fun p dx np ndx nex => ?_⟩
    refine ⟨p, dx, n1, n2, rfl, upd_same, fun hok H1 S keep new A1 => ⟨rfl, ?_⟩, fun hbad => absurd (by omega) hbad⟩
    have A1' : TrainAt K H1 S p (Tr.new n1 n2) := A1
    have e1 : Ex H H1 := fun a o h => keep a o (ne_of_none h np) (by rw [upd_ne (ne_of_none h np), upd_ne (ne_of_none h ndx)]; exact h)
    obtain ⟨S0, hS0, A0⟩ := A1'.there
    refine ⟨_, rfl, _, rfl, n1, n2, rfl, hn1, hn2, hn3, hn4, fun H2 U w e2 W2 hU => ?_⟩
    have A2 := A0.ex e2
    refine ⟨by show 2 ≤ sizeLine; decide, fun l fl => ?_⟩
    have e3 := Evl.Ex.new (o := .lst [.ref p, .ref w]) fl
    have two : Two K H2 p w (Tr.new n1 n2) (Tr.new n1 n2) S0 U := ⟨A2, W2, fun a s u => (by
      obtain ⟨o, ho⟩ := (hS0 a s).2
      rw [(hU a u).1] at ho
      cases ho), fun a s => (by
      obtain ⟨o, ho⟩ := (hS0 a s).2
      exact ⟨o, e2 _ _ ho⟩), fun a u => (hU a u).2⟩
    refine q n1 n2 hn1 hn2 hn3 hn4 _ S0 U p w l (e1.trans (e2.trans e3)) (two.ex e3) (fun a z => ?_) upd_same
    rcases z with z | z
    · rcases new a (hS0 a z).1 with y | y
      · rw [y]
        exact np
      · exact (fresh_upd (fresh_upd y).2).2
    · exact Evl.fresh_back e1 (hU a z).1
theorem sc_law_laid : FnScope ["_law_seats_here", "_law_stops_here", "_law_far", "_law_deeds", "_law_leg", "_law_seat", "_law_whole_here"] ["_law_seats_here", "_law_stops_here", "_law_far"] (defScope s_law_laid) := ⟨rfl, rfl, rfl, by decide +kernel, rfl, by decide +kernel, by decide +kernel⟩
theorem c_law_laid (T : Tx K mg) : Cal P w K mg base 1 "_law_laid" (spLaid K) := by
  refine T.cal 6 21 rfl rfl sc_law_laid (fun _ _ _ _ _ _ us hl => match us, hl with | [_, _, _], _ => rfl) (fun vs H Q E h => ?_) fun cdv A outer s H vs Q E hr h => ?_
  · first | (obtain ⟨_, rfl, _⟩ := h; rfl) | (obtain ⟨_, _, rfl, _⟩ := h; rfl) | (obtain ⟨_, _, _, rfl, _⟩ := h; rfl) | (obtain ⟨_, _, _, _, rfl, _⟩ := h; rfl) | (obtain ⟨_, _, _, _, _, rfl, _⟩ := h; rfl) | (obtain ⟨_, _, _, _, _, _, rfl, _⟩ := h; rfl) | (obtain ⟨_, _, _, _, _, _, _, rfl, _⟩ := h; rfl) | (obtain ⟨_, _, _, _, _, _, _, _, rfl, _⟩ := h; rfl) | (obtain ⟨_, _, _, _, _, _, _, _, _, rfl, _⟩ := h; rfl) | (obtain ⟨_, _, _, _, _, _, _, _, _, _, rfl, _⟩ := h; rfl) | (obtain ⟨_, _, _, _, _, _, _, _, _, _, _, rfl, _⟩ := h; rfl) | (obtain ⟨_, _, _, _, _, _, _, _, _, _, _, _, rfl, _⟩ := h; rfl) | (obtain ⟨_, _, _, _, _, _, _, _, _, _, _, _, _, rfl, _⟩ := h; rfl) | (obtain ⟨_, _, _, _, _, _, _, _, _, _, _, _, _, _, rfl, _⟩ := h; rfl) | (obtain ⟨_, _, _, _, _, _, _, _, _, _, _, _, _, _, _, rfl, _⟩ := h; rfl)
  · refine ⟨_, (pss_cons (ps_set (i := 3) sc_law_laid.nd rfl (Or.inl rfl) (pe_lst pa_nil))
      (pss_cons (ps_for (passes_of rfl) rfl (pi_range1 (by rfl) (T.free 3) (pa_cons (pe_op op_sub (pv 1) pe_int) pa_nil)) (pg_name (i := 4) sc_law_laid.nd rfl (Or.inl rfl))
        (pss_one (ps_for (passes_of rfl) rfl (pi_range1 (by rfl) (T.free 3) (pa_cons (pv 0) pa_nil)) (pg_name (i := 5) sc_law_laid.nd rfl (Or.inl rfl))
          (pss_one (ps_expr (pe_bm PySem.F.plainAttrs_list PySem.F.slot_list_append PySem.F.type_list_append mt_append (pv 3) (pa_cons (pe_tup (pa_cons pe_str (pa_cons (pv 4) (pa_cons (pe_op op_add (pv 4) pe_int) pa_nil)))) pa_nil)))))))
      (pss_cons (ps_for (passes_of rfl) rfl (pi_range1 (by rfl) (T.free 3) (pa_cons (pe_op op_sub (pv 1) pe_int) pa_nil)) (pg_name (i := 4) sc_law_laid.nd rfl (Or.inl rfl))
        (pss_one (ps_expr (pe_bm PySem.F.plainAttrs_list PySem.F.slot_list_append PySem.F.type_list_append mt_append (pv 3) (pa_cons (pe_tup (pa_cons pe_str (pa_cons (pe_op op_add (pe_op op_mul (pv 4) (pv 0)) (pe_op op_mod (pe_op op_add (pe_op op_mul (pv 4) (pe_op op_add pe_int (pe_op op_mod (pv 2) pe_int))) (pe_op op_fdiv (pv 2) pe_int)) (pv 0))) (pa_cons pe_int pa_nil)))) pa_nil)))))
      (pss_cons (ps_set (i := 6) sc_law_laid.nd rfl (Or.inl rfl) (pe_op op_mul (pv 0) (pe_op op_sub (pv 1) pe_int)))
      (pss_one (ps_ret (pe_op op_cat (pv 3) (pe_lst (pa_cons (pe_tup (pa_cons pe_str (pa_cons (pe_op op_mod (pe_op op_fdiv (pv 2) pe_int) pe_int) (pa_cons (pe_op op_sub (pv 1) pe_int) pa_nil)))) (pa_cons (pe_tup (pa_cons pe_str (pa_cons (pv 6) (pa_cons (pe_op op_mod (pe_op op_fdiv (pv 2) pe_int) (pv 1)) pa_nil)))) (pa_cons (pe_tup (pa_cons pe_str (pa_cons (pv 6) (pa_cons pe_int pa_nil)))) pa_nil))))))))))), ?_⟩
    obtain ⟨seats, stops, far, rfl, h1, h2, h3, h4, h5, q⟩ := h
    have big : (400 : Nat) < sizeLine := by decide
    have tup3 : 3 ≤ sizeLine := by decide
    have pow64 : (1000 : Int) < 2 ^ 64 ∧ (-(2 ^ 64) : Int) < 0 := by decide
    refine ⟨Nat.zero_le _, fun l hl => ?_⟩
    refine ⟨_, rfl, _, _, rfl, rfl, _, rfl, by omega, by omega, for_range (lo := 0) (n := ((stops : Int) - 1).toNat) (fun i σ H' => ∃ (xs : List V) (v1 v2 v3 : Option V), σ = [some (.int seats), some (.int stops), some (.int far), some (.ref l), v1, v2, v3] ∧ Ex H H' ∧ H' l = some (.lst xs) ∧ xs.length ≤ i * seats ∧ ∀ v ∈ xs, IsCell H' v)
      ⟨[], none, none, none, rfl, Evl.Ex.new hl, upd_same, Nat.zero_le _, fun v m => (by cases m)⟩ ?_ ?_⟩
    · rintro i σ H' hi ⟨xs, v1, v2, v3, rfl, ex, hL, hlen, hc⟩
      have hmul : (i + 1) * seats ≤ (stops - 1) * seats := Nat.mul_le_mul_right _ (by omega)
      have hmul2 : (stops - 1) * seats + seats = seats * stops := by
        have : stops = (stops - 1) + 1 := by omega
        rw [Nat.mul_comm seats, this, Nat.add_sub_cancel, Nat.succ_mul]
      rw [Nat.succ_mul] at hmul
      refine ⟨_, rfl, _, rfl, by omega, by omega, for_range (lo := 0) (n := (seats : Int).toNat) (fun j σ H2 => ∃ (xs : List V) (v2 v3 : Option V), σ = [some (.int seats), some (.int stops), some (.int far), some (.ref l), some (.int (0 + (i : Int))), v2, v3] ∧ Ex H H2 ∧ H2 l = some (.lst xs) ∧ xs.length ≤ i * seats + j ∧ ∀ v ∈ xs, IsCell H2 v)
        ⟨xs, v2, v3, rfl, ex, hL, hlen, hc⟩ ?_ ?_⟩
      · rintro j σ H2 hj ⟨xs, v2, v3, rfl, ex2, hL2, hlen2, hc2⟩
        refine ⟨_, rfl, .inl ⟨rfl, _, SqL.of hL2⟩, ?_⟩
        refine ⟨_, rfl, _, rfl, _, _, rfl, rfl, tup3, fun t ft => ?_⟩
        have hlt : l ≠ t := ne_of_none hL2 ft
        have e5 := Evl.Ex.new (o := .tup [.str "sell", .int (0 + (i : Int)), .int (0 + (i : Int) + 1)]) ft
        refine ⟨l, _, _, rfl, rfl, by rw [upd_ne hlt]; exact hL2, by omega, ?_⟩
        refine ⟨xs ++ [.ref t], _, _, rfl, Evl.Ex.mut (ex2.trans e5) hl, upd_same, by rw [List.length_append, List.length_singleton]; omega, fun v m => ?_⟩
        have kt : ∀ a us, upd H2 t (.tup [.str "sell", .int (0 + (i : Int)), .int (0 + (i : Int) + 1)]) a = some (.tup us) → upd (upd H2 t (.tup [.str "sell", .int (0 + (i : Int)), .int (0 + (i : Int) + 1)])) l (.lst (xs ++ [.ref t])) a = some (.tup us) := fun a us ha => by
          rw [upd_ne (fun z : a = l => by rw [z, upd_ne hlt, hL2] at ha; cases ha)]
          exact ha
        rcases List.mem_append.mp m with m | m
        · exact ((hc2 v m).mono fun a us ha => e5 _ _ ha).mono kt
        · rw [List.mem_singleton.mp m]
          exact .inr ⟨t, ⟨.sell, _, _⟩, rfl, kt _ _ upd_same⟩
      · rintro σ H2 ⟨xs, v2, v3, rfl, ex2, hL2, hlen2, hc2⟩
        refine ⟨xs, _, _, _, rfl, ex2, hL2, ?_, hc2⟩
        rw [Nat.succ_mul]
        omega
    · rintro σ H' ⟨xs, v1, v2, v3, rfl, ex, hL, hlen, hc⟩
      have hst : ((stops : Int) - 1).toNat = stops - 1 := by omega
      rw [hst] at hlen
      have hmul2 : (stops - 1) * seats + seats = seats * stops := by
        have : stops = (stops - 1) + 1 := by omega
        rw [Nat.mul_comm seats, this, Nat.add_sub_cancel, Nat.succ_mul]
      refine ⟨_, rfl, _, _, rfl, rfl, _, rfl, by omega, by omega, for_range (lo := 0) (n := ((stops : Int) - 1).toNat) (fun i σ H2 => ∃ (xs : List V) (v1 v2 v3 : Option V), σ = [some (.int seats), some (.int stops), some (.int far), some (.ref l), v1, v2, v3] ∧ Ex H H2 ∧ H2 l = some (.lst xs) ∧ xs.length ≤ (stops - 1) * seats + i ∧ ∀ v ∈ xs, IsCell H2 v)
        ⟨xs, v1, v2, v3, rfl, ex, hL, hlen, hc⟩ ?_ ?_⟩
      · rintro j σ H2 hj ⟨xs, v1, v2, v3, rfl, ex2, hL2, hlen2, hc2⟩
        refine ⟨_, rfl, .inl ⟨rfl, _, SqL.of hL2⟩, ?_⟩
        refine ⟨_, rfl, _, rfl, _, _, rfl, rfl, .inl ⟨by omega, by omega⟩, _, rfl, _, rfl, _, _, rfl, rfl, (by show (0 : Int) < 3; decide), _, _, rfl, rfl, _, _, rfl, rfl, .inl ⟨by omega, by omega⟩, _, rfl, _, _, rfl, rfl, ⟨by decide, by decide⟩, _, _, rfl, rfl, _, rfl, _, _, rfl, rfl, (by show (0 : Int) < (seats : Int); omega), _, _, rfl, rfl, tup3, fun t ft => ?_⟩
        show ∃ _, _
        have hlt : l ≠ t := ne_of_none hL2 ft
        generalize hz : (fun i j => V.int (i + j)) ((0 + (j : Int)) * (seats : Int)) (((0 + (j : Int)) * (1 + far % 3) + far / 3) % (seats : Int)) = zv
        obtain ⟨z, rfl⟩ : ∃ z : Int, zv = .int z := ⟨_, hz.symm⟩
        have e5 := Evl.Ex.new (o := .tup [.str "back", .int z, .int 0]) ft
        refine ⟨l, _, _, rfl, rfl, by rw [upd_ne hlt]; exact hL2, by omega, ?_⟩
        refine ⟨xs ++ [.ref t], _, _, _, rfl, Evl.Ex.mut (ex2.trans e5) hl, upd_same, by rw [List.length_append, List.length_singleton]; omega, fun v m => ?_⟩
        have kt : ∀ a us, upd H2 t (.tup [.str "back", .int z, .int 0]) a = some (.tup us) → upd (upd H2 t (.tup [.str "back", .int z, .int 0])) l (.lst (xs ++ [.ref t])) a = some (.tup us) := fun a us ha => by
          rw [upd_ne (fun z : a = l => by rw [z, upd_ne hlt, hL2] at ha; cases ha)]
          exact ha
        rcases List.mem_append.mp m with m | m
        · exact ((hc2 v m).mono fun a us ha => e5 _ _ ha).mono kt
        · rw [List.mem_singleton.mp m]
          exact .inr ⟨t, ⟨.back, _, _⟩, rfl, kt _ _ upd_same⟩
      · rintro σ H2 ⟨xs, v1, v2, v3, rfl, ex2, hL2, hlen2, hc2⟩
        refine ⟨_, rfl, _, rfl, _, _, rfl, rfl, _, _, rfl, rfl, .inl ⟨by omega, by omega⟩, ?_⟩
        refine ⟨_, rfl, ?_⟩
        refine ⟨_, rfl, _, _, rfl, rfl, ⟨by decide, by decide⟩, _, _, rfl, rfl, (by show (0 : Int) < 2; decide), _, rfl, _, _, rfl, rfl, tup3, fun t1 f1 => ?_⟩
        refine ⟨_, rfl, _, rfl, _, _, rfl, rfl, ⟨by decide, by decide⟩, _, rfl, _, _, rfl, rfl, (by show (0 : Int) < (stops : Int); omega), tup3, fun t2 f2 => ?_⟩
        refine ⟨_, rfl, tup3, fun t3 f3 => ?_⟩
        refine ⟨tup3, fun l2 fl2 => ?_⟩
        have e1 := Evl.Ex.new (o := .tup [.str "sell", .int (far / 9 % 2), .int ((stops : Int) - 1)]) f1
        have e2 := Evl.Ex.new (o := .tup [.str "leave", .int ((seats : Int) * ((stops : Int) - 1)), .int (far / 18 % (stops : Int))]) f2
        have e3 := Evl.Ex.new (o := .tup [.str "reseat", .int ((seats : Int) * ((stops : Int) - 1)), .int 0]) f3
        have e4 := Evl.Ex.new (o := .lst [.ref t1, .ref t2, .ref t3]) fl2
        have E4 := e1.trans (e2.trans (e3.trans e4))
        refine ⟨l, l2, _, _, rfl, rfl, E4 _ _ hL2, upd_same, by show _ + 3 ≤ _; omega, fun l3 fl3 => ?_⟩
        have e5 := Evl.Ex.new (o := .lst (xs ++ [.ref t1, .ref t2, .ref t3])) fl3
        refine q _ l3 _ (ex2.trans (E4.trans e5)) (Evl.fresh_back (ex2.trans E4) fl3) upd_same (by rw [List.length_append]; show _ + 3 ≤ 400; omega) fun v m => ?_
        rcases List.mem_append.mp m with m | m
        · exact (hc2 v m).mono fun a us ha => (E4.trans e5) _ _ ha
        · simp only [List.mem_cons, List.not_mem_nil, or_false] at m
          rcases m with rfl | rfl | rfl
          · exact .inr ⟨t1, ⟨.sell, _, _⟩, rfl, (e2.trans (e3.trans (e4.trans e5))) _ _ upd_same⟩
          · exact .inr ⟨t2, ⟨.leave, _, _⟩, rfl, (e3.trans (e4.trans e5)) _ _ upd_same⟩
          · exact .inr ⟨t3, ⟨.reseat, _, _⟩, rfl, (e4.trans e5) _ _ upd_same⟩
theorem sc_law_cells : FnScope ["_law_script", "_law_far", "_law_seats_here", "_law_stops_here", "_law_k"] ["_law_script"] (defScope s_law_cells) := ⟨rfl, rfl, rfl, by decide +kernel, rfl, by decide +kernel, by decide +kernel⟩
theorem c_law_cells (T : Tx K mg) : Cal P w K mg base 2 "_law_cells" (spCells K) := by
  refine T.cal 7 22 rfl rfl sc_law_cells (fun _ _ _ _ _ _ us hl => match us, hl with | [_], _ => rfl) (fun vs H Q E h => ?_) fun cdv A outer s H vs Q E hr h => ?_
  · first | (obtain ⟨_, rfl, _⟩ := h; rfl) | (obtain ⟨_, _, rfl, _⟩ := h; rfl) | (obtain ⟨_, _, _, rfl, _⟩ := h; rfl) | (obtain ⟨_, _, _, _, rfl, _⟩ := h; rfl) | (obtain ⟨_, _, _, _, _, rfl, _⟩ := h; rfl) | (obtain ⟨_, _, _, _, _, _, rfl, _⟩ := h; rfl) | (obtain ⟨_, _, _, _, _, _, _, rfl, _⟩ := h; rfl) | (obtain ⟨_, _, _, _, _, _, _, _, rfl, _⟩ := h; rfl) | (obtain ⟨_, _, _, _, _, _, _, _, _, rfl, _⟩ := h; rfl) | (obtain ⟨_, _, _, _, _, _, _, _, _, _, rfl, _⟩ := h; rfl) | (obtain ⟨_, _, _, _, _, _, _, _, _, _, _, rfl, _⟩ := h; rfl) | (obtain ⟨_, _, _, _, _, _, _, _, _, _, _, _, rfl, _⟩ := h; rfl) | (obtain ⟨_, _, _, _, _, _, _, _, _, _, _, _, _, rfl, _⟩ := h; rfl) | (obtain ⟨_, _, _, _, _, _, _, _, _, _, _, _, _, _, rfl, _⟩ := h; rfl) | (obtain ⟨_, _, _, _, _, _, _, _, _, _, _, _, _, _, _, rfl, _⟩ := h; rfl)
  · refine ⟨_, (pss_cons (ps_set (i := 1) sc_law_cells.nd rfl (Or.inr rfl) (pe_c (c_law_cell_at T) hr pz (pa_cons (pv 0) (pa_cons pe_int pa_nil))))
      (pss_cons (ps_set (i := 2) sc_law_cells.nd rfl (Or.inl rfl) (pe_c (c_law_seats T) hr pz (pa_cons (pe_c (c_law_cell_at T) hr pz (pa_cons (pv 0) (pa_cons pe_int pa_nil))) pa_nil)))
      (pss_cons (ps_set (i := 3) sc_law_cells.nd rfl (Or.inl rfl) (pe_c (c_law_stops T) hr pz (pa_cons (pe_c (c_law_cell_at T) hr pz (pa_cons (pv 0) (pa_cons pe_int pa_nil))) pa_nil)))
      (pss_cons (ps_if (PW.pt (pw_and (pt_cmpR op_eq (pe_op op_mod (pv 1) pe_int) pe_int (nomark _)) (pw_and1 (pt_cmpR op_lt (pe_op op_mul (pv 2) (pv 3)) pe_int (nomark _)))))
        (pss_one (ps_ret (pe_op op_cat (pe_c (c_law_laid T) hr pz (pa_cons (pv 2) (pa_cons (pv 3) (pa_cons (pe_op op_fdiv (pv 1) pe_int) pa_nil)))) (pe_slice (sl_k K) (pv 0) (po_some pe_int) (po_some pe_int)))))
        pss_nil)
      (pss_cons (ps_if (PW.pt (pw_and (pt_cmpR op_eq (pe_op op_mod (pv 1) pe_int) pe_int (nomark _)) (pw_and1 (pt_cmpR op_lt (pe_op op_mul (pv 2) (pv 3)) pe_int (nomark _)))))
        (pss_one (ps_ret (pe_op op_cat (pe_lc (own := [("_law_k", 4)]) (g := gName 4) rfl sc_law_cells.nd (pi_range1 (by rfl) (T.free 3) (pa_cons (pe_op op_add pe_int (pe_op op_mod (pe_op op_fdiv (pv 1) pe_int) pe_int)) pa_nil)) (blkOk_by (N := ["_law_script", "_law_far", "_law_seats_here", "_law_stops_here", "_law_k"]) (sc := defScope s_law_cells) (by decide +kernel)) (fun _ _ _ _ _ => pg_name (i := 4) sc_law_cells.nd rfl (Or.inl rfl)) (fun _ _ _ _ _ => pts_nil) (fun _ _ _ _ _ => (pe_op op_add (pe_op op_fdiv (pv 1) pe_int) (pe_op op_mul pe_int (pv 4))))) (pe_slice (sl_k K) (pv 0) (po_some pe_int) (po_some pe_int)))))
        pss_nil)
      (pss_cons (ps_if (pt_cmpR op_eq (pe_op op_mod (pv 1) pe_int) pe_int (nomark _))
        (pss_one (ps_ret (pe_op op_cat (pe_lc (own := [("_law_k", 4)]) (g := gName 4) rfl sc_law_cells.nd (pi_range1 (by rfl) (T.free 3) (pa_cons (pe_op op_add pe_int (pe_op op_mod (pe_op op_fdiv (pv 1) pe_int) pe_int)) pa_nil)) (blkOk_by (N := ["_law_script", "_law_far", "_law_seats_here", "_law_stops_here", "_law_k"]) (sc := defScope s_law_cells) (by decide +kernel)) (fun _ _ _ _ _ => pg_name (i := 4) sc_law_cells.nd rfl (Or.inl rfl)) (fun _ _ _ _ _ => pts_nil) (fun _ _ _ _ _ => (pe_op op_mul pe_int (pe_op op_add (pe_op op_fdiv (pv 1) pe_int) (pe_op op_mul pe_int (pv 4)))))) (pe_slice (sl_k K) (pv 0) (po_some pe_int) (po_some pe_int)))))
        pss_nil)
      (pss_one (ps_ret (pe_slice (sl_k K) (pv 0) (po_some pe_int) (po_some pe_int)))))))))), ?_⟩
    obtain ⟨sa, ns, rfl, hS, hlen, q⟩ := h
    have big : (400 : Nat) + 100 < sizeLine := by decide
    have cutm : ∀ lo hi, ∀ v ∈ cutV (ns.map V.int) lo hi, ∃ i, v = V.int i := fun lo hi v m => by
      obtain ⟨i, _, rfl⟩ := List.mem_map.mp (cut_mem m)
      exact ⟨i, rfl⟩
    have cutl : ∀ lo hi, (cutV (ns.map V.int) lo hi).length ≤ 63 := fun lo hi => Nat.le_trans (cut_len _ _ _) (by rw [List.length_map]; exact hlen)
    refine ⟨_, rfl, sa, ns, 2, rfl, hS, ?_⟩
    generalize cellAt ns 2 = far
    refine ⟨_, rfl, sa, ns, 0, rfl, hS, _, rfl, fun n1 hn1 hn2 => ?_⟩
    refine ⟨_, rfl, sa, ns, 1, rfl, hS, _, rfl, fun n2 hn3 hn4 => ?_⟩
    refine ⟨_, rfl, _, _, rfl, rfl, (by show (0 : Int) < 4; decide), rfl, _, rfl, ?_⟩
    refine iteD (fun _ => ?_) (fun _ => iteF ?_)
    · refine ⟨_, rfl, _, rfl, _, _, rfl, rfl, .inl ⟨by omega, by omega⟩, _, _, rfl, rfl, _, rfl, ?_⟩
      refine iteD (fun hlt => ?_) (fun _ => ?_)
      · have hprod : n1 * n2 < 240 := by
          have h : ((n1 * n2 : Nat) : Int) < 240 := by
            rw [Int.natCast_mul]
            assumption
          omega
        refine ⟨_, rfl, _, rfl, _, rfl, _, _, rfl, rfl, ⟨by decide, by decide⟩, n1, n2, _, rfl, hn1, hn3, hn2, hn4, hprod, fun H1 l1 xs e1 fl1 hl1 hx hc => ?_⟩
        refine ⟨_, rfl, _, rfl, _, rfl, sa, _, rfl, sqL_ex hS e1, fun p fp => ?_⟩
        have e3 := Evl.Ex.new (o := .lst (cutV (ns.map V.int) (some 3) (some 40))) fp
        have hc3 := cutl (some 3) (some 40)
        refine ⟨l1, p, _, _, rfl, rfl, e3 _ _ hl1, upd_same, by omega, fun l fl => ?_⟩
        have e4 := Evl.Ex.new (o := .lst (xs ++ cutV (ns.map V.int) (some 3) (some 40))) fl
        refine q _ l _ (e1.trans (e3.trans e4)) (Evl.fresh_back (e1.trans e3) fl) ⟨upd_same, by rw [List.length_append]; omega, fun v m => ?_⟩
        rcases List.mem_append.mp m with m | m
        · exact (hc v m).mono fun a us ha => (e3.trans e4) _ _ ha
        · exact .inl (cutm _ _ v m)
      · refine ⟨_, rfl, _, _, rfl, rfl, (by show (0 : Int) < 8; decide), rfl, _, rfl, ?_⟩
        refine iteD (fun _ => ?_) (fun _ => iteF ?_)
        · refine ⟨_, rfl, _, rfl, _, _, rfl, rfl, .inl ⟨by omega, by omega⟩, _, _, rfl, rfl, _, rfl, ?_⟩
          refine iteD (fun _ => ?_) (fun _ => ?_)
          · have hm1 := Int.emod_nonneg (far / 8) (b := 90) (by decide)
            have hm2 := Int.emod_lt_of_pos (far / 8) (b := 90) (by decide)
            refine ⟨_, rfl, _, _, rfl, rfl, ⟨by decide, by decide⟩, _, _, rfl, rfl, (by show (0 : Int) < 90; decide), _, _, rfl, rfl, _, rfl, by omega, by omega, fun D hD => ?_⟩
            refine lc_v walk_range y_range hD (fun _ _ => trivial) (by omega) (fun _ => true) (fun k => .int (far / 8 + 17 * (0 + (k : Int)))) (fun _ => rfl) lc_yes ?_ ?_
            · rintro k x H2 hk rfl _ e2 Q2 q2
              exact ⟨_, rfl, _, _, rfl, rfl, ⟨by decide, by decide⟩, _, rfl, _, _, rfl, rfl, .inl ⟨by decide, by decide⟩, _, _, rfl, rfl, q2 H2 (Evl.Ex.refl H2)⟩
            · intro H2 e2 hD2
              rw [kept_all] at hD2
              refine ⟨_, rfl, _, rfl, _, rfl, sa, _, rfl, sqL_ex hS e2, fun p fp => ?_⟩
              have e3 := Evl.Ex.new (o := .lst (cutV (ns.map V.int) (some 3) (some 13))) fp
              have hc3 := cutl (some 3) (some 13)
              refine ⟨D, p, _, _, rfl, rfl, e3 _ _ hD2, upd_same, ?_, fun l fl => ?_⟩
              · rw [List.length_map, List.length_range]
                omega
              · have e4 := Evl.Ex.new (o := .lst (((List.range (60 + far / 8 % 90).toNat).map fun (k : Nat) => V.int (far / 8 + 17 * (0 + (k : Int)))) ++ cutV (ns.map V.int) (some 3) (some 13))) fl
                refine q _ l _ (e2.trans (e3.trans e4)) (Evl.fresh_back (e2.trans e3) fl) ⟨upd_same, ?_, fun v m => ?_⟩
                · rw [List.length_append, List.length_map, List.length_range]
                  omega
                · rcases List.mem_append.mp m with m | m
                  · obtain ⟨k, _, rfl⟩ := List.mem_map.mp m
                    exact .inl ⟨_, rfl⟩
                  · exact .inl (cutm _ _ v m)
          · refine ⟨_, rfl, _, _, rfl, rfl, (by show (0 : Int) < 8; decide), rfl, _, rfl, ?_⟩
            refine iteD (fun _ => ?_) (fun _ => ?_)
            · have hm1 := Int.emod_nonneg (far / 8) (b := 90) (by decide)
              have hm2 := Int.emod_lt_of_pos (far / 8) (b := 90) (by decide)
              refine ⟨_, rfl, _, _, rfl, rfl, ⟨by decide, by decide⟩, _, _, rfl, rfl, (by show (0 : Int) < 90; decide), _, _, rfl, rfl, _, rfl, by omega, by omega, fun D hD => ?_⟩
              refine lc_v walk_range y_range hD (fun _ _ => trivial) (by omega) (fun _ => true) (fun k => .int (9 * (far / 8 + 5 * (0 + (k : Int))))) (fun _ => rfl) lc_yes ?_ ?_
              · rintro k x H2 hk rfl _ e2 Q2 q2
                exact ⟨_, rfl, _, _, rfl, rfl, ⟨by decide, by decide⟩, _, rfl, _, _, rfl, rfl, .inl ⟨by decide, by decide⟩, _, _, rfl, rfl, _, _, rfl, rfl, .inl ⟨by decide, by decide⟩, q2 H2 (Evl.Ex.refl H2)⟩
              · intro H2 e2 hD2
                rw [kept_all] at hD2
                refine ⟨_, rfl, _, rfl, _, rfl, sa, _, rfl, sqL_ex hS e2, fun p fp => ?_⟩
                have e3 := Evl.Ex.new (o := .lst (cutV (ns.map V.int) (some 3) (some 13))) fp
                have hc3 := cutl (some 3) (some 13)
                refine ⟨D, p, _, _, rfl, rfl, e3 _ _ hD2, upd_same, ?_, fun l fl => ?_⟩
                · rw [List.length_map, List.length_range]
                  omega
                · have e4 := Evl.Ex.new (o := .lst (((List.range (60 + far / 8 % 90).toNat).map fun (k : Nat) => V.int (9 * (far / 8 + 5 * (0 + (k : Int))))) ++ cutV (ns.map V.int) (some 3) (some 13))) fl
                  refine q _ l _ (e2.trans (e3.trans e4)) (Evl.fresh_back (e2.trans e3) fl) ⟨upd_same, ?_, fun v m => ?_⟩
                  · rw [List.length_append, List.length_map, List.length_range]
                    omega
                  · rcases List.mem_append.mp m with m | m
                    · obtain ⟨k, _, rfl⟩ := List.mem_map.mp m
                      exact .inl ⟨_, rfl⟩
                    · exact .inl (cutm _ _ v m)
            · refine ⟨_, rfl, _, rfl, _, rfl, sa, _, rfl, hS, fun l fl => ?_⟩
              exact q _ l _ (Evl.Ex.new fl) fl ⟨upd_same, Nat.le_trans (cutl _ _) (by decide), fun v m => .inl (cutm _ _ v m)⟩
        · refine ⟨_, rfl, _, _, rfl, rfl, (by show (0 : Int) < 8; decide), rfl, _, rfl, ?_⟩
          refine iteD (fun _ => ?_) (fun _ => ?_)
          · have hm1 := Int.emod_nonneg (far / 8) (b := 90) (by decide)
            have hm2 := Int.emod_lt_of_pos (far / 8) (b := 90) (by decide)
            refine ⟨_, rfl, _, _, rfl, rfl, ⟨by decide, by decide⟩, _, _, rfl, rfl, (by show (0 : Int) < 90; decide), _, _, rfl, rfl, _, rfl, by omega, by omega, fun D hD => ?_⟩
            refine lc_v walk_range y_range hD (fun _ _ => trivial) (by omega) (fun _ => true) (fun k => .int (9 * (far / 8 + 5 * (0 + (k : Int))))) (fun _ => rfl) lc_yes ?_ ?_
            · rintro k x H2 hk rfl _ e2 Q2 q2
              exact ⟨_, rfl, _, _, rfl, rfl, ⟨by decide, by decide⟩, _, rfl, _, _, rfl, rfl, .inl ⟨by decide, by decide⟩, _, _, rfl, rfl, _, _, rfl, rfl, .inl ⟨by decide, by decide⟩, q2 H2 (Evl.Ex.refl H2)⟩
            · intro H2 e2 hD2
              rw [kept_all] at hD2
              refine ⟨_, rfl, _, rfl, _, rfl, sa, _, rfl, sqL_ex hS e2, fun p fp => ?_⟩
              have e3 := Evl.Ex.new (o := .lst (cutV (ns.map V.int) (some 3) (some 13))) fp
              have hc3 := cutl (some 3) (some 13)
              refine ⟨D, p, _, _, rfl, rfl, e3 _ _ hD2, upd_same, ?_, fun l fl => ?_⟩
              · rw [List.length_map, List.length_range]
                omega
              · have e4 := Evl.Ex.new (o := .lst (((List.range (60 + far / 8 % 90).toNat).map fun (k : Nat) => V.int (9 * (far / 8 + 5 * (0 + (k : Int))))) ++ cutV (ns.map V.int) (some 3) (some 13))) fl
                refine q _ l _ (e2.trans (e3.trans e4)) (Evl.fresh_back (e2.trans e3) fl) ⟨upd_same, ?_, fun v m => ?_⟩
                · rw [List.length_append, List.length_map, List.length_range]
                  omega
                · rcases List.mem_append.mp m with m | m
                  · obtain ⟨k, _, rfl⟩ := List.mem_map.mp m
                    exact .inl ⟨_, rfl⟩
                  · exact .inl (cutm _ _ v m)
          · refine ⟨_, rfl, _, rfl, _, rfl, sa, _, rfl, hS, fun l fl => ?_⟩
            exact q _ l _ (Evl.Ex.new fl) fl ⟨upd_same, Nat.le_trans (cutl _ _) (by decide), fun v m => .inl (cutm _ _ v m)⟩
    · refine ⟨_, rfl, _, _, rfl, rfl, (by show (0 : Int) < 8; decide), rfl, _, rfl, ?_⟩
      refine iteD (fun _ => ?_) (fun _ => iteF ?_)
      · refine ⟨_, rfl, _, rfl, _, _, rfl, rfl, .inl ⟨by omega, by omega⟩, _, _, rfl, rfl, _, rfl, ?_⟩
        refine iteD (fun _ => ?_) (fun _ => ?_)
        · have hm1 := Int.emod_nonneg (far / 8) (b := 90) (by decide)
          have hm2 := Int.emod_lt_of_pos (far / 8) (b := 90) (by decide)
          refine ⟨_, rfl, _, _, rfl, rfl, ⟨by decide, by decide⟩, _, _, rfl, rfl, (by show (0 : Int) < 90; decide), _, _, rfl, rfl, _, rfl, by omega, by omega, fun D hD => ?_⟩
          refine lc_v walk_range y_range hD (fun _ _ => trivial) (by omega) (fun _ => true) (fun k => .int (far / 8 + 17 * (0 + (k : Int)))) (fun _ => rfl) lc_yes ?_ ?_
          · rintro k x H2 hk rfl _ e2 Q2 q2
            exact ⟨_, rfl, _, _, rfl, rfl, ⟨by decide, by decide⟩, _, rfl, _, _, rfl, rfl, .inl ⟨by decide, by decide⟩, _, _, rfl, rfl, q2 H2 (Evl.Ex.refl H2)⟩
          · intro H2 e2 hD2
            rw [kept_all] at hD2
            refine ⟨_, rfl, _, rfl, _, rfl, sa, _, rfl, sqL_ex hS e2, fun p fp => ?_⟩
            have e3 := Evl.Ex.new (o := .lst (cutV (ns.map V.int) (some 3) (some 13))) fp
            have hc3 := cutl (some 3) (some 13)
            refine ⟨D, p, _, _, rfl, rfl, e3 _ _ hD2, upd_same, ?_, fun l fl => ?_⟩
            · rw [List.length_map, List.length_range]
              omega
            · have e4 := Evl.Ex.new (o := .lst (((List.range (60 + far / 8 % 90).toNat).map fun (k : Nat) => V.int (far / 8 + 17 * (0 + (k : Int)))) ++ cutV (ns.map V.int) (some 3) (some 13))) fl
              refine q _ l _ (e2.trans (e3.trans e4)) (Evl.fresh_back (e2.trans e3) fl) ⟨upd_same, ?_, fun v m => ?_⟩
              · rw [List.length_append, List.length_map, List.length_range]
                omega
              · rcases List.mem_append.mp m with m | m
                · obtain ⟨k, _, rfl⟩ := List.mem_map.mp m
                  exact .inl ⟨_, rfl⟩
                · exact .inl (cutm _ _ v m)
        · refine ⟨_, rfl, _, _, rfl, rfl, (by show (0 : Int) < 8; decide), rfl, _, rfl, ?_⟩
          refine iteD (fun _ => ?_) (fun _ => ?_)
          · have hm1 := Int.emod_nonneg (far / 8) (b := 90) (by decide)
            have hm2 := Int.emod_lt_of_pos (far / 8) (b := 90) (by decide)
            refine ⟨_, rfl, _, _, rfl, rfl, ⟨by decide, by decide⟩, _, _, rfl, rfl, (by show (0 : Int) < 90; decide), _, _, rfl, rfl, _, rfl, by omega, by omega, fun D hD => ?_⟩
            refine lc_v walk_range y_range hD (fun _ _ => trivial) (by omega) (fun _ => true) (fun k => .int (9 * (far / 8 + 5 * (0 + (k : Int))))) (fun _ => rfl) lc_yes ?_ ?_
            · rintro k x H2 hk rfl _ e2 Q2 q2
              exact ⟨_, rfl, _, _, rfl, rfl, ⟨by decide, by decide⟩, _, rfl, _, _, rfl, rfl, .inl ⟨by decide, by decide⟩, _, _, rfl, rfl, _, _, rfl, rfl, .inl ⟨by decide, by decide⟩, q2 H2 (Evl.Ex.refl H2)⟩
            · intro H2 e2 hD2
              rw [kept_all] at hD2
              refine ⟨_, rfl, _, rfl, _, rfl, sa, _, rfl, sqL_ex hS e2, fun p fp => ?_⟩
              have e3 := Evl.Ex.new (o := .lst (cutV (ns.map V.int) (some 3) (some 13))) fp
              have hc3 := cutl (some 3) (some 13)
              refine ⟨D, p, _, _, rfl, rfl, e3 _ _ hD2, upd_same, ?_, fun l fl => ?_⟩
              · rw [List.length_map, List.length_range]
                omega
              · have e4 := Evl.Ex.new (o := .lst (((List.range (60 + far / 8 % 90).toNat).map fun (k : Nat) => V.int (9 * (far / 8 + 5 * (0 + (k : Int))))) ++ cutV (ns.map V.int) (some 3) (some 13))) fl
                refine q _ l _ (e2.trans (e3.trans e4)) (Evl.fresh_back (e2.trans e3) fl) ⟨upd_same, ?_, fun v m => ?_⟩
                · rw [List.length_append, List.length_map, List.length_range]
                  omega
                · rcases List.mem_append.mp m with m | m
                  · obtain ⟨k, _, rfl⟩ := List.mem_map.mp m
                    exact .inl ⟨_, rfl⟩
                  · exact .inl (cutm _ _ v m)
          · refine ⟨_, rfl, _, rfl, _, rfl, sa, _, rfl, hS, fun l fl => ?_⟩
            exact q _ l _ (Evl.Ex.new fl) fl ⟨upd_same, Nat.le_trans (cutl _ _) (by decide), fun v m => .inl (cutm _ _ v m)⟩
      · refine ⟨_, rfl, _, _, rfl, rfl, (by show (0 : Int) < 8; decide), rfl, _, rfl, ?_⟩
        refine iteD (fun _ => ?_) (fun _ => ?_)
        · have hm1 := Int.emod_nonneg (far / 8) (b := 90) (by decide)
          have hm2 := Int.emod_lt_of_pos (far / 8) (b := 90) (by decide)
          refine ⟨_, rfl, _, _, rfl, rfl, ⟨by decide, by decide⟩, _, _, rfl, rfl, (by show (0 : Int) < 90; decide), _, _, rfl, rfl, _, rfl, by omega, by omega, fun D hD => ?_⟩
          refine lc_v walk_range y_range hD (fun _ _ => trivial) (by omega) (fun _ => true) (fun k => .int (9 * (far / 8 + 5 * (0 + (k : Int))))) (fun _ => rfl) lc_yes ?_ ?_
          · rintro k x H2 hk rfl _ e2 Q2 q2
            exact ⟨_, rfl, _, _, rfl, rfl, ⟨by decide, by decide⟩, _, rfl, _, _, rfl, rfl, .inl ⟨by decide, by decide⟩, _, _, rfl, rfl, _, _, rfl, rfl, .inl ⟨by decide, by decide⟩, q2 H2 (Evl.Ex.refl H2)⟩
          · intro H2 e2 hD2
            rw [kept_all] at hD2
            refine ⟨_, rfl, _, rfl, _, rfl, sa, _, rfl, sqL_ex hS e2, fun p fp => ?_⟩
            have e3 := Evl.Ex.new (o := .lst (cutV (ns.map V.int) (some 3) (some 13))) fp
            have hc3 := cutl (some 3) (some 13)
            refine ⟨D, p, _, _, rfl, rfl, e3 _ _ hD2, upd_same, ?_, fun l fl => ?_⟩
            · rw [List.length_map, List.length_range]
              omega
            · have e4 := Evl.Ex.new (o := .lst (((List.range (60 + far / 8 % 90).toNat).map fun (k : Nat) => V.int (9 * (far / 8 + 5 * (0 + (k : Int))))) ++ cutV (ns.map V.int) (some 3) (some 13))) fl
              refine q _ l _ (e2.trans (e3.trans e4)) (Evl.fresh_back (e2.trans e3) fl) ⟨upd_same, ?_, fun v m => ?_⟩
              · rw [List.length_append, List.length_map, List.length_range]
                omega
              · rcases List.mem_append.mp m with m | m
                · obtain ⟨k, _, rfl⟩ := List.mem_map.mp m
                  exact .inl ⟨_, rfl⟩
                · exact .inl (cutm _ _ v m)
        · refine ⟨_, rfl, _, rfl, _, rfl, sa, _, rfl, hS, fun l fl => ?_⟩
          exact q _ l _ (Evl.Ex.new fl) fl ⟨upd_same, Nat.le_trans (cutl _ _) (by decide), fun v m => .inl (cutm _ _ v m)⟩
theorem sc_law_mixed : FnScope ["_law_cell", "_law_k", "_law_many", "_law_some", "_law_made"] ["_law_cell", "_law_k", "_law_many"] (defScope s_law_mixed) := ⟨rfl, rfl, rfl, by decide +kernel, rfl, by decide +kernel, by decide +kernel⟩
theorem c_law_mixed (T : Tx K mg) : Cal P w K mg base 1 "_law_mixed" spMixed := by
  refine T.cal 8 25 rfl rfl sc_law_mixed (fun _ _ _ _ _ _ us hl => match us, hl with | [_, _, _], _ => rfl) (fun vs H Q E h => ?_) fun cdv A outer s H vs Q E hr h => ?_
  · first | (obtain ⟨_, rfl, _⟩ := h; rfl) | (obtain ⟨_, _, rfl, _⟩ := h; rfl) | (obtain ⟨_, _, _, rfl, _⟩ := h; rfl) | (obtain ⟨_, _, _, _, rfl, _⟩ := h; rfl) | (obtain ⟨_, _, _, _, _, rfl, _⟩ := h; rfl) | (obtain ⟨_, _, _, _, _, _, rfl, _⟩ := h; rfl) | (obtain ⟨_, _, _, _, _, _, _, rfl, _⟩ := h; rfl) | (obtain ⟨_, _, _, _, _, _, _, _, rfl, _⟩ := h; rfl) | (obtain ⟨_, _, _, _, _, _, _, _, _, rfl, _⟩ := h; rfl) | (obtain ⟨_, _, _, _, _, _, _, _, _, _, rfl, _⟩ := h; rfl) | (obtain ⟨_, _, _, _, _, _, _, _, _, _, _, rfl, _⟩ := h; rfl) | (obtain ⟨_, _, _, _, _, _, _, _, _, _, _, _, rfl, _⟩ := h; rfl) | (obtain ⟨_, _, _, _, _, _, _, _, _, _, _, _, _, rfl, _⟩ := h; rfl) | (obtain ⟨_, _, _, _, _, _, _, _, _, _, _, _, _, _, rfl, _⟩ := h; rfl) | (obtain ⟨_, _, _, _, _, _, _, _, _, _, _, _, _, _, _, rfl, _⟩ := h; rfl)
  · refine ⟨_, (pss_cons (ps_set (i := 3) sc_law_mixed.nd rfl (Or.inl rfl) (pe_lst (pa_cons pe_int (pa_cons pe_int (pa_cons pe_int (pa_cons pe_int (pa_cons pe_int (pa_cons pe_int (pa_cons pe_int (pa_cons pe_int (pa_cons pe_int (pa_cons pe_int (pa_cons pe_int pa_nil)))))))))))))
      (pss_cons (ps_set (i := 4) sc_law_mixed.nd rfl (Or.inl rfl) (pe_op op_mod (pe_op op_mul (pe_op op_add (pv 0) (pe_op op_mul pe_int (pv 1))) pe_int) (pe_ix (ix_l K) (pv 3) (pe_op op_mod (pv 1) pe_int) (fun _ _ => rfl))))
      (pss_one (ps_ret (pe_op op_mod (pe_op op_mod (pe_op op_add (pe_op op_add (pe_op op_mul (pe_op op_mul (pv 4) (pv 4)) pe_int) (pv 4)) (pv 1)) pe_int) (pv 2)))))), ?_⟩
    obtain ⟨c, k, m, rfl, hm, q⟩ := h
    refine ⟨by show 11 ≤ sizeLine; decide, fun l hl => ?_⟩
    have hk : 0 ≤ k % 11 ∧ k % 11 < 11 := ⟨Int.emod_nonneg _ (by decide), Int.emod_lt_of_pos _ (by decide)⟩
    have key : ∀ (ms : List Int) (xs : List V), xs = ms.map V.int → ms.length = 11 → (∀ x ∈ ms, 0 < x ∧ x < 100000) → ∃ v, atI xs (k % 11) = some (.int v) ∧ 0 < v ∧ v < 100000 := fun ms xs ex hl hb => by
      have hj : (k % 11).toNat < ms.length := by omega
      exact ⟨ms[(k % 11).toNat], at_of (j := (k % 11).toNat) (by omega) (by rw [ex]; exact map_get (List.getElem?_eq_getElem hj)), hb _ (List.getElem_mem hj)⟩
    obtain ⟨v, hv, hv1, hv2⟩ := key [99991, 99989, 99971, 99961, 99929, 99923, 99907, 99901, 99881, 99877, 99871] _ rfl rfl (by decide)
    have hd : 0 ≤ (c + 7 * k) * 48271 % v ∧ (c + 7 * k) * 48271 % v < v := ⟨Int.emod_nonneg _ (by omega), Int.emod_lt_of_pos _ hv1⟩
    refine ⟨_, rfl, _, rfl, _, _, rfl, rfl, .inl ⟨by decide, by decide⟩, _, _, rfl, rfl, _, _, rfl, rfl, .inr ⟨by decide, by decide⟩, _, rfl, _, rfl, _, _, rfl, rfl, (by show (0 : Int) < 11; decide), l, _, _, _, rfl, rfl, SqL.of upd_same, hv, _, _, rfl, rfl, hv1, ?_⟩
    refine ⟨_, rfl, _, rfl, _, _, rfl, rfl, .inl ⟨?_, ?_⟩, _, _, rfl, rfl, .inr ⟨by decide, by decide⟩, _, rfl, _, _, rfl, rfl, _, rfl, _, _, rfl, rfl, _, _, rfl, rfl, (by show (0 : Int) < 1000003; decide), _, rfl, _, _, rfl, rfl, hm, ?_⟩
    · have : (-(2 ^ 64) : Int) < 0 := by decide
      omega
    · have : (100000 : Int) < 2 ^ 64 := by decide
      omega
    · have hz : ∀ z : Int, 0 ≤ z % 1000003 % m ∧ z % 1000003 % m < m := fun z => ⟨Int.emod_nonneg _ (by omega), Int.emod_lt_of_pos _ hm⟩
      have fin : ∀ z : Int, 0 ≤ z ∧ z < m → Q (.int z) (upd H l (.lst [.int 99991, .int 99989, .int 99971, .int 99961, .int 99929, .int 99923, .int 99907, .int 99901, .int 99881, .int 99877, .int 99871])) := fun z hz => by
        have := q z.toNat _ (by omega) (Evl.Ex.new (o := .lst [.int 99991, .int 99989, .int 99971, .int 99961, .int 99929, .int 99923, .int 99907, .int 99901, .int 99881, .int 99877, .int 99871]) hl)
        rw [Int.toNat_of_nonneg hz.1] at this
        exact this
      exact fin _ (hz _)
theorem sc_law_stretch_by : FnScope ["_law_cell", "_law_stops_here", "_law_begin", "_law_end"] ["_law_cell", "_law_stops_here"] (defScope s_law_stretch_by) := ⟨rfl, rfl, rfl, by decide +kernel, rfl, by decide +kernel, by decide +kernel⟩
theorem c_law_stretch_by (T : Tx K mg) : Cal P w K mg base 2 "_law_stretch_by" spStretchBy := by
  refine T.cal 9 27 rfl rfl sc_law_stretch_by (fun _ _ _ _ _ _ us hl => match us, hl with | [_, _], _ => rfl) (fun vs H Q E h => ?_) fun cdv A outer s H vs Q E hr h => ?_
  · first | (obtain ⟨_, rfl, _⟩ := h; rfl) | (obtain ⟨_, _, rfl, _⟩ := h; rfl) | (obtain ⟨_, _, _, rfl, _⟩ := h; rfl) | (obtain ⟨_, _, _, _, rfl, _⟩ := h; rfl) | (obtain ⟨_, _, _, _, _, rfl, _⟩ := h; rfl) | (obtain ⟨_, _, _, _, _, _, rfl, _⟩ := h; rfl) | (obtain ⟨_, _, _, _, _, _, _, rfl, _⟩ := h; rfl) | (obtain ⟨_, _, _, _, _, _, _, _, rfl, _⟩ := h; rfl) | (obtain ⟨_, _, _, _, _, _, _, _, _, rfl, _⟩ := h; rfl) | (obtain ⟨_, _, _, _, _, _, _, _, _, _, rfl, _⟩ := h; rfl) | (obtain ⟨_, _, _, _, _, _, _, _, _, _, _, rfl, _⟩ := h; rfl) | (obtain ⟨_, _, _, _, _, _, _, _, _, _, _, _, rfl, _⟩ := h; rfl) | (obtain ⟨_, _, _, _, _, _, _, _, _, _, _, _, _, rfl, _⟩ := h; rfl) | (obtain ⟨_, _, _, _, _, _, _, _, _, _, _, _, _, _, rfl, _⟩ := h; rfl) | (obtain ⟨_, _, _, _, _, _, _, _, _, _, _, _, _, _, _, rfl, _⟩ := h; rfl)
  · refine ⟨_, (pss_cons (ps_set (i := 2) sc_law_stretch_by.nd rfl (Or.inl rfl) (pe_c (c_law_mixed T) hr pz (pa_cons (pv 0) (pa_cons pe_int (pa_cons (pe_op op_sub (pv 1) pe_int) pa_nil)))))
      (pss_cons (ps_if (pt_cmpR op_eq (pe_op op_mod (pe_op op_fdiv (pv 0) pe_int) pe_int) pe_int (nomark _))
        (pss_one (ps_set (i := 2) sc_law_stretch_by.nd rfl (Or.inl rfl) pe_int))
        pss_nil)
      (pss_cons (ps_set (i := 3) sc_law_stretch_by.nd rfl (Or.inl rfl) (pe_op op_add (pe_op op_add (pv 2) pe_int) (pe_c (c_law_mixed T) hr pz (pa_cons (pv 0) (pa_cons pe_int (pa_cons (pe_op op_sub (pe_op op_sub (pv 1) pe_int) (pv 2)) pa_nil))))))
      (pss_cons (ps_if (pt_cmpR op_eq (pe_op op_mod (pe_op op_fdiv (pv 0) pe_int) pe_int) pe_int (nomark _))
        (pss_one (ps_set (i := 3) sc_law_stretch_by.nd rfl (Or.inl rfl) (pe_callB (call_min2 rfl) (by rfl) (T.free 26) (by decide +kernel) (pa_cons (pe_op op_add (pe_op op_add (pv 2) pe_int) (pe_op op_mod (pe_op op_fdiv (pv 0) pe_int) pe_int)) (pa_cons (pe_op op_sub (pv 1) pe_int) pa_nil)))))
        pss_nil)
      (pss_one (ps_ret (pe_tup (pa_cons (pv 2) (pa_cons (pv 3) pa_nil))))))))), ?_⟩
    obtain ⟨c, n, rfl, hn, q⟩ := h
    have fin : ∀ (z e : Int) H2, Ex H H2 → 0 ≤ z → z < e → e < n → (2 ≤ sizeLine ∧ ∀ t, H2 t = none → Q (.ref t) (upd H2 t (.tup [.int z, .int e]))) := fun z e H2 e2 h1 h2 h3 => ⟨by decide, fun t ft => by
      have e4 := Evl.Ex.new (o := .tup [.int z, .int e]) ft
      have ez : ((z.toNat : Nat) : Int) = z := by omega
      have ee : ((e.toNat : Nat) : Int) = e := by omega
      exact q _ t z.toNat e.toNat (e2.trans e4) (by rw [ez, ee]; exact upd_same) (by omega) (by omega)⟩
    have h3 := Int.emod_nonneg (c / 81) (b := 3) (by decide)
    have h4 := Int.emod_lt_of_pos (c / 81) (b := 3) (by decide)
    refine ⟨_, rfl, _, rfl, _, _, rfl, rfl, c, 1, (n : Int) - 1, rfl, by omega, fun b H1 hb e1 => ?_⟩
    refine ⟨_, rfl, _, _, rfl, rfl, ⟨by decide, by decide⟩, _, _, rfl, rfl, (by show (0 : Int) < 3; decide), rfl, _, rfl, ?_⟩
    refine iteD (fun _ => ?_) (fun _ => ?_)
    · refine ⟨_, rfl, _, _, rfl, rfl, _, rfl, _, rfl, _, _, rfl, rfl, _, rfl, _, _, rfl, rfl, c, 2, (n : Int) - 1 - 0, rfl, by omega, fun v H3 hv e3 => ⟨_, _, rfl, rfl, ?_⟩⟩
      refine ⟨_, rfl, _, _, rfl, rfl, ⟨by decide, by decide⟩, _, _, rfl, rfl, (by show (0 : Int) < 3; decide), rfl, _, rfl, ?_⟩
      refine iteD (fun _ => ?_) (fun _ => ?_)
      · refine ⟨_, rfl, _, _, rfl, rfl, _, rfl, _, _, rfl, rfl, ⟨by decide, by decide⟩, _, _, rfl, rfl, (by show (0 : Int) < 3; decide), _, _, rfl, rfl, _, rfl, _, _, rfl, rfl, _, _, rfl, ?_⟩
        exact ⟨_, rfl, _, rfl, fin _ _ H3 (e1.trans e3) (by omega) (by split <;> omega) (by split <;> omega)⟩
      · exact ⟨_, rfl, _, rfl, fin _ _ H3 (e1.trans e3) (by omega) (by omega) (by omega)⟩
    · refine ⟨_, rfl, _, _, rfl, rfl, _, rfl, _, rfl, _, _, rfl, rfl, _, rfl, _, _, rfl, rfl, c, 2, (n : Int) - 1 - b, rfl, by omega, fun v H3 hv e3 => ⟨_, _, rfl, rfl, ?_⟩⟩
      refine ⟨_, rfl, _, _, rfl, rfl, ⟨by decide, by decide⟩, _, _, rfl, rfl, (by show (0 : Int) < 3; decide), rfl, _, rfl, ?_⟩
      refine iteD (fun _ => ?_) (fun _ => ?_)
      · refine ⟨_, rfl, _, _, rfl, rfl, _, rfl, _, _, rfl, rfl, ⟨by decide, by decide⟩, _, _, rfl, rfl, (by show (0 : Int) < 3; decide), _, _, rfl, rfl, _, rfl, _, _, rfl, rfl, _, _, rfl, ?_⟩
        exact ⟨_, rfl, _, rfl, fin _ _ H3 (e1.trans e3) (by omega) (by split <;> omega) (by split <;> omega)⟩
      · exact ⟨_, rfl, _, rfl, fin _ _ H3 (e1.trans e3) (by omega) (by omega) (by omega)⟩
theorem sc_law_deed_by : FnScope ["_law_cell", "_law_sold", "_law_stops_here", "_law_way", "_law_some", "_law_ticket", "_law_kind", "_law_stretch", "_law_end"] ["_law_cell", "_law_sold", "_law_stops_here"] (defScope s_law_deed_by) := ⟨rfl, rfl, rfl, by decide +kernel, rfl, by decide +kernel, by decide +kernel⟩
theorem c_law_deed_by (T : Tx K mg) : Cal P w K mg base 3 "_law_deed_by" (spDeedBy K) := by
  refine T.cal 10 28 rfl rfl sc_law_deed_by (fun _ _ _ _ _ _ us hl => match us, hl with | [_, _, _], _ => rfl) (fun vs H Q E h => ?_) fun cdv A outer s H vs Q E hr h => ?_
  · first | (obtain ⟨_, rfl, _⟩ := h; rfl) | (obtain ⟨_, _, rfl, _⟩ := h; rfl) | (obtain ⟨_, _, _, rfl, _⟩ := h; rfl) | (obtain ⟨_, _, _, _, rfl, _⟩ := h; rfl) | (obtain ⟨_, _, _, _, _, rfl, _⟩ := h; rfl) | (obtain ⟨_, _, _, _, _, _, rfl, _⟩ := h; rfl) | (obtain ⟨_, _, _, _, _, _, _, rfl, _⟩ := h; rfl) | (obtain ⟨_, _, _, _, _, _, _, _, rfl, _⟩ := h; rfl) | (obtain ⟨_, _, _, _, _, _, _, _, _, rfl, _⟩ := h; rfl) | (obtain ⟨_, _, _, _, _, _, _, _, _, _, rfl, _⟩ := h; rfl) | (obtain ⟨_, _, _, _, _, _, _, _, _, _, _, rfl, _⟩ := h; rfl) | (obtain ⟨_, _, _, _, _, _, _, _, _, _, _, _, rfl, _⟩ := h; rfl) | (obtain ⟨_, _, _, _, _, _, _, _, _, _, _, _, _, rfl, _⟩ := h; rfl) | (obtain ⟨_, _, _, _, _, _, _, _, _, _, _, _, _, _, rfl, _⟩ := h; rfl) | (obtain ⟨_, _, _, _, _, _, _, _, _, _, _, _, _, _, _, rfl, _⟩ := h; rfl)
  · refine ⟨_, (pss_cons (ps_if (pt_val (pe_callB (isi_k K) (by rfl) (T.free 1) (by decide +kernel) (pa_cons (pv 0) (pa_cons (pe_bltn (v := .ty "tuple") rfl (T.free 23) (by decide +kernel) rfl) pa_nil))))
        (pss_one (ps_ret (pv 0)))
        pss_nil)
      (pss_cons (ps_set (i := 3) sc_law_deed_by.nd rfl (Or.inl rfl) (pe_ix (ix_l K) (pe_lst (pa_cons pe_int (pa_cons pe_int (pa_cons pe_int (pa_cons pe_int (pa_cons pe_int (pa_cons pe_int (pa_cons pe_int (pa_cons pe_int (pa_cons pe_int pa_nil)))))))))) (pe_op op_mod (pv 0) pe_int) (fun _ _ => rfl)))
      (pss_cons (ps_set (i := 4) sc_law_deed_by.nd rfl (Or.inl rfl) (pe_op op_cat (pv 1) (pe_lst (pa_cons pe_int pa_nil))))
      (pss_cons (ps_set (i := 5) sc_law_deed_by.nd rfl (Or.inl rfl) (pe_ix (ix_l K) (pv 4) (pe_c (c_law_mixed T) hr pz (pa_cons (pv 0) (pa_cons pe_int (pa_cons (pe_callB (call_max2 rfl) (by rfl) (T.free 24) (by decide +kernel) (pa_cons pe_int (pa_cons (pe_callB (len_k K) (by rfl) (T.free 0) PySem.boot_len (pa_cons (pv 1) pa_nil)) pa_nil))) pa_nil)))) (fun _ _ => rfl)))
      (pss_cons (ps_if (pt_cmpR op_eq (pv 3) pe_int (nomark _))
        (pss_one (ps_ret (pe_tup (pa_cons pe_str (pa_cons (pv 5) (pa_cons pe_int pa_nil))))))
        pss_nil)
      (pss_cons (ps_if (pt_cmpR op_eq (pv 3) pe_int (nomark _))
        (pss_one (ps_ret (pe_tup (pa_cons pe_str (pa_cons (pv 5) (pa_cons (pe_op op_sub (pe_c (c_law_mixed T) hr pz (pa_cons (pv 0) (pa_cons pe_int (pa_cons (pe_op op_add (pv 2) pe_int) pa_nil)))) pe_int) pa_nil))))))
        pss_nil)
      (pss_cons (ps_if (pt_cmpR op_eq (pv 3) pe_int (nomark _))
        (pss_one (ps_ret (pe_tup (pa_cons pe_str (pa_cons (pv 5) (pa_cons pe_int pa_nil))))))
        pss_nil)
      (pss_cons (ps_if (PW.pt (pw_and (pt_cmpR op_eq (pv 3) pe_int (nomark _)) (pw_and1 (pt_cmpR op_eq (pe_op op_mod (pe_op op_fdiv (pv 0) pe_int) pe_int) pe_int (nomark _)))))
        (pss_cons (ps_set (i := 6) sc_law_deed_by.nd rfl (Or.inl rfl) (pe_ix (ix_l K) (pe_lst (pa_cons pe_str (pa_cons pe_str (pa_cons pe_str pa_nil)))) (pe_op op_mod (pe_op op_fdiv (pv 0) pe_int) pe_int) (fun _ _ => rfl)))
        (pss_one (ps_ret (pe_tup (pa_cons (pv 6) (pa_cons (pe_ix (ix_l K) (pe_lst (pa_cons (pe_un un_neg pe_int) (pa_cons (pe_op op_add (pe_callB (len_k K) (by rfl) (T.free 0) PySem.boot_len (pa_cons (pv 1) pa_nil)) pe_int) (pa_cons (pe_op op_add (pv 5) pe_int) (pa_cons (pe_op op_pow pe_int pe_int) pa_nil))))) (pe_op op_mod (pe_op op_fdiv (pv 0) pe_int) pe_int) (fun _ _ => rfl)) (pa_cons pe_int pa_nil)))))))
        pss_nil)
      (pss_cons (ps_set (i := 7) sc_law_deed_by.nd rfl (Or.inl rfl) (pe_c (c_law_stretch_by T) hr pz (pa_cons (pv 0) (pa_cons (pv 2) pa_nil))))
      (pss_cons (ps_if (pt_cmpR op_eq (pv 3) pe_int (nomark _))
        (pss_cons (ps_set (i := 8) sc_law_deed_by.nd rfl (Or.inl rfl) (pe_ix (ix_l K) (pe_lst (pa_cons (pe_ix (ix_t K) (pv 7) pe_int (fun _ _ => rfl)) (pa_cons (pe_op op_sub (pe_ix (ix_t K) (pv 7) pe_int (fun _ _ => rfl)) pe_int) (pa_cons (pv 2) (pa_cons (pe_op op_pow pe_int pe_int) pa_nil))))) (pe_op op_mod (pe_op op_fdiv (pv 0) pe_int) pe_int) (fun _ _ => rfl)))
        (pss_one (ps_ret (pe_tup (pa_cons pe_str (pa_cons (pe_ix (ix_l K) (pe_lst (pa_cons (pe_ix (ix_t K) (pv 7) pe_int (fun _ _ => rfl)) (pa_cons (pe_un un_neg pe_int) pa_nil))) (pe_op op_mod (pe_op op_fdiv (pv 0) pe_int) pe_int) (fun _ _ => rfl)) (pa_cons (pv 8) pa_nil)))))))
        pss_nil)
      (pss_one (ps_ret (pe_tup (pa_cons pe_str (pa_cons (pe_ix (ix_t K) (pv 7) pe_int (fun _ _ => rfl)) (pa_cons (pe_ix (ix_t K) (pv 7) pe_int (fun _ _ => rfl)) pa_nil)))))))))))))))), ?_⟩
    obtain ⟨v, so, ks, n, rfl, hv, hso, hks, hn2, hn, q⟩ := h
    rcases hv with ⟨c, rfl⟩ | ⟨d, x, rfl, hd⟩
    rotate_left
    · refine ⟨_, rfl, _, .ty "tuple", _, _, true, rfl, .ty _, .base (.tup hd), kit_ty (by decide +kernel), _, rfl, iteT ?_⟩
      exact ⟨_, rfl, q H d x (Evl.Ex.refl H) hd⟩
    refine ⟨_, rfl, _, .ty "tuple", _, _, false, rfl, .ty _, .base (.int c), kit_ty (by decide +kernel), _, rfl, iteF ?_⟩
    -- a deed made
    have made : ∀ (k : Kind) (a b : Int) H2, Ex H H2 → (3 ≤ sizeLine ∧ ∀ t, H2 t = none → Q (.ref t) (upd H2 t (.tup [.str k.str, .int a, .int b]))) := fun k a b H2 e2 => ⟨by decide, fun t ft => by
      have e4 := Evl.Ex.new (o := .tup [.str k.str, .int a, .int b]) ft
      exact q _ t ⟨k, a, b⟩ (e2.trans e4) upd_same⟩
    refine ⟨by show 9 ≤ sizeLine; decide, fun l1 f1 => ?_⟩
    obtain ⟨wv, hwv, ⟨way, rfl⟩⟩ := at_mod (xs := [.int 0, .int 0, .int 0, .int 0, .int 1, .int 2, .int 3, .int 0, .int 4]) (P := fun x => ∃ i : Int, x = .int i) (c := c) (m := 9) (fun x m => by
      simp only [List.mem_cons, List.not_mem_nil, or_false] at m
      rcases m with rfl | rfl | rfl | rfl | rfl | rfl | rfl | rfl | rfl <;> exact ⟨_, rfl⟩) rfl (by decide)
    refine ⟨_, rfl, _, _, rfl, rfl, (by show (0 : Int) < 9; decide), l1, _, _, _, rfl, rfl, SqL.of upd_same, hwv, ?_⟩
    have e1 := Evl.Ex.new (o := .lst [.int 0, .int 0, .int 0, .int 0, .int 1, .int 2, .int 3, .int 0, .int 4]) f1
    clear hwv
    have hso1 := e1 _ _ hso
    refine ⟨_, rfl, by show 1 ≤ sizeLine; decide, fun l2 f2 => ?_⟩
    have e2 := Evl.Ex.new (o := .lst [.int 0]) f2
    refine ⟨so, l2, _, _, rfl, rfl, e2 _ _ hso1, upd_same, ?_, fun l3 f3 => ?_⟩
    · rw [List.length_map]
      exact Nat.le_trans (m := 1000001) (by show _ + 1 ≤ _; omega) (by decide)
    have e3 := Evl.Ex.new (o := .lst (ks.map V.int ++ [.int 0])) f3
    have E3 := e1.trans (e2.trans e3)
    have hso3 := E3 _ _ hso
    refine ⟨_, rfl, _, rfl, _, rfl, so, _, rfl, .inl (SqL.of hso3), _, _, rfl, c, 3, _, rfl, (by split <;> omega), fun v H4 hv e4 => ?_⟩
    have hl3 : H4 l3 = some (.lst (ks.map V.int ++ [.int 0])) := e4 _ _ upd_same
    obtain ⟨z, hz⟩ : ∃ z : Int, (ks.map V.int ++ [.int 0])[v]? = some (.int z) := by
      rw [List.length_map] at hv
      by_cases c1 : v < ks.length
      · exact ⟨ks[v], by rw [List.getElem?_append_left (by rw [List.length_map]; exact c1)]; exact map_get (List.getElem?_eq_getElem c1)⟩
      · have hv0 : v = ks.length := by
          split at hv <;> omega
        refine ⟨0, ?_⟩
        rw [List.getElem?_append_right (by rw [List.length_map]; omega), List.length_map, hv0, Nat.sub_self]
        rfl
    refine ⟨l3, _, _, .int z, rfl, rfl, SqL.of hl3, at_of (j := v) rfl hz, ?_⟩
    have E4 := E3.trans e4
    refine ⟨_, rfl, rfl, _, rfl, ?_⟩
    refine iteD (fun _ => ?_) (fun _ => ?_)
    · exact ⟨_, rfl, made .back z 0 H4 E4⟩
    refine ⟨_, rfl, rfl, _, rfl, ?_⟩
    refine iteD (fun _ => ?_) (fun _ => ?_)
    · exact ⟨_, rfl, _, rfl, _, rfl, _, _, rfl, rfl, c, 4, (n : Int) + 2, rfl, by omega, fun v2 H6 hv2 e6 => ⟨_, _, rfl, rfl, made .leave z _ H6 (E4.trans e6)⟩⟩
    refine ⟨_, rfl, rfl, _, rfl, ?_⟩
    refine iteD (fun _ => ?_) (fun _ => ?_)
    · exact ⟨_, rfl, made .reseat z 0 H4 E4⟩
    refine ⟨_, rfl, rfl, _, rfl, ?_⟩
    refine iteD (fun _ => ?_) (fun _ => iteF ?_)
    · refine ⟨_, rfl, _, _, rfl, rfl, ⟨by decide, by decide⟩, _, _, rfl, rfl, (by show (0 : Int) < 2; decide), rfl, _, rfl, ?_⟩
      refine iteD (fun _ => ?_) (fun _ => ?_)
      · refine ⟨by show 3 ≤ sizeLine; decide, fun l4 f4 => ?_⟩
        obtain ⟨kv, hkv, ⟨k, rfl⟩⟩ := at_mod (xs := [.str "back", .str "leave", .str "reseat"]) (P := fun x => ∃ k : Kind, x = .str k.str) (c := c / 18) (m := 3) (fun x m => by
          simp only [List.mem_cons, List.not_mem_nil, or_false] at m
          rcases m with rfl | rfl | rfl
          · exact ⟨.back, rfl⟩
          · exact ⟨.leave, rfl⟩
          · exact ⟨.reseat, rfl⟩) rfl (by decide)
        have e5 := Evl.Ex.new (o := .lst [.str "back", .str "leave", .str "reseat"]) f4
        refine ⟨_, rfl, _, _, rfl, rfl, ⟨by decide, by decide⟩, _, _, rfl, rfl, (by show (0 : Int) < 3; decide), l4, _, _, _, rfl, rfl, SqL.of upd_same, hkv, ?_⟩
        have hso5 := e5 _ _ (e4 _ _ hso3)
        refine ⟨_, rfl, _, rfl, _, rfl, so, _, rfl, .inl (SqL.of hso5), _, _, rfl, rfl, _, rfl, _, _, rfl, rfl, _, _, rfl, rfl, ⟨by decide, by decide, by decide⟩, by show 4 ≤ sizeLine; decide, fun l5 f5 => ?_⟩
        obtain ⟨iv, hiv, ⟨i, rfl⟩⟩ := at_mod (xs := [.int (-1), .int (((ks.map V.int).length : Int) + 400), .int (z + 1), .int (10 ^ 12)]) (P := fun x => ∃ i : Int, x = .int i) (c := c / 54) (m := 4) (fun x m => by
          simp only [List.mem_cons, List.not_mem_nil, or_false] at m
          rcases m with rfl | rfl | rfl | rfl <;> exact ⟨_, rfl⟩) rfl (by show 0 < 4; decide)
        refine ⟨_, rfl, _, _, rfl, rfl, ⟨by decide, by decide⟩, _, _, rfl, rfl, (by show (0 : Int) < 4; decide), l5, _, _, _, rfl, rfl, SqL.of upd_same, hiv, ?_⟩
        exact made k i 1 _ (E4.trans (e5.trans (Evl.Ex.new f5)))
      · refine ⟨_, rfl, _, rfl, c, n, rfl, hn2, fun H6 t b e e6 ht hbe hen => ?_⟩
        refine ⟨_, rfl, rfl, _, rfl, ?_⟩
        refine iteD (fun _ => ?_) (fun _ => ?_)
        · refine ⟨_, rfl, t, _, _, _, rfl, rfl, SqT.of ht, at_of (j := 0) rfl rfl, _, rfl, t, _, _, _, rfl, rfl, SqT.of ht, at_of (j := 0) rfl rfl, _, _, rfl, rfl, _, rfl, _, _, rfl, rfl, ⟨by decide, by decide, by decide⟩, by show 4 ≤ sizeLine; decide, fun l6 f6 => ?_⟩
          obtain ⟨iv, hiv, ⟨i, rfl⟩⟩ := at_mod (xs := [.int b, .int ((b : Int) - 1), .int n, .int (10 ^ 12)]) (P := fun x => ∃ i : Int, x = .int i) (c := c / 18) (m := 4) (fun x m => by
            simp only [List.mem_cons, List.not_mem_nil, or_false] at m
            rcases m with rfl | rfl | rfl | rfl <;> exact ⟨_, rfl⟩) rfl (by show 0 < 4; decide)
          refine ⟨_, rfl, _, _, rfl, rfl, ⟨by decide, by decide⟩, _, _, rfl, rfl, (by show (0 : Int) < 4; decide), l6, _, _, _, rfl, rfl, SqL.of upd_same, hiv, ?_⟩
          have e7 := Evl.Ex.new (o := .lst [.int b, .int ((b : Int) - 1), .int n, .int (10 ^ 12)]) f6
          refine ⟨_, rfl, t, _, _, _, rfl, rfl, SqT.of (e7 _ _ ht), at_of (j := 0) rfl rfl, _, rfl, by show 2 ≤ sizeLine; decide, fun l7 f7 => ?_⟩
          obtain ⟨jv, hjv, ⟨j, rfl⟩⟩ := at_mod (xs := [.int b, .int (-1)]) (P := fun x => ∃ i : Int, x = .int i) (c := c / 72) (m := 2) (fun x m => by
            simp only [List.mem_cons, List.not_mem_nil, or_false] at m
            rcases m with rfl | rfl <;> exact ⟨_, rfl⟩) rfl (by show 0 < 2; decide)
          have e8 := Evl.Ex.new (o := .lst [.int b, .int (-1)]) f7
          refine ⟨_, rfl, _, _, rfl, rfl, ⟨by decide, by decide⟩, _, _, rfl, rfl, (by show (0 : Int) < 2; decide), l7, _, _, _, rfl, rfl, SqL.of upd_same, hjv, ?_⟩
          exact ⟨_, rfl, made .sell j i _ (E4.trans (e6.trans (e7.trans e8)))⟩
        · exact ⟨_, rfl, t, _, _, _, rfl, rfl, SqT.of ht, at_of (j := 0) rfl rfl, _, rfl, t, _, _, _, rfl, rfl, SqT.of ht, at_of (j := 1) rfl rfl, made .sell b e _ (E4.trans e6)⟩
    · refine ⟨_, rfl, _, rfl, c, n, rfl, hn2, fun H6 t b e e6 ht hbe hen => ?_⟩
      refine ⟨_, rfl, rfl, _, rfl, ?_⟩
      refine iteD (fun _ => ?_) (fun _ => ?_)
      · refine ⟨_, rfl, t, _, _, _, rfl, rfl, SqT.of ht, at_of (j := 0) rfl rfl, _, rfl, t, _, _, _, rfl, rfl, SqT.of ht, at_of (j := 0) rfl rfl, _, _, rfl, rfl, _, rfl, _, _, rfl, rfl, ⟨by decide, by decide, by decide⟩, by show 4 ≤ sizeLine; decide, fun l6 f6 => ?_⟩
        obtain ⟨iv, hiv, ⟨i, rfl⟩⟩ := at_mod (xs := [.int b, .int ((b : Int) - 1), .int n, .int (10 ^ 12)]) (P := fun x => ∃ i : Int, x = .int i) (c := c / 18) (m := 4) (fun x m => by
          simp only [List.mem_cons, List.not_mem_nil, or_false] at m
          rcases m with rfl | rfl | rfl | rfl <;> exact ⟨_, rfl⟩) rfl (by show 0 < 4; decide)
        refine ⟨_, rfl, _, _, rfl, rfl, ⟨by decide, by decide⟩, _, _, rfl, rfl, (by show (0 : Int) < 4; decide), l6, _, _, _, rfl, rfl, SqL.of upd_same, hiv, ?_⟩
        have e7 := Evl.Ex.new (o := .lst [.int b, .int ((b : Int) - 1), .int n, .int (10 ^ 12)]) f6
        refine ⟨_, rfl, t, _, _, _, rfl, rfl, SqT.of (e7 _ _ ht), at_of (j := 0) rfl rfl, _, rfl, by show 2 ≤ sizeLine; decide, fun l7 f7 => ?_⟩
        obtain ⟨jv, hjv, ⟨j, rfl⟩⟩ := at_mod (xs := [.int b, .int (-1)]) (P := fun x => ∃ i : Int, x = .int i) (c := c / 72) (m := 2) (fun x m => by
          simp only [List.mem_cons, List.not_mem_nil, or_false] at m
          rcases m with rfl | rfl <;> exact ⟨_, rfl⟩) rfl (by show 0 < 2; decide)
        have e8 := Evl.Ex.new (o := .lst [.int b, .int (-1)]) f7
        refine ⟨_, rfl, _, _, rfl, rfl, ⟨by decide, by decide⟩, _, _, rfl, rfl, (by show (0 : Int) < 2; decide), l7, _, _, _, rfl, rfl, SqL.of upd_same, hjv, ?_⟩
        exact ⟨_, rfl, made .sell j i _ (E4.trans (e6.trans (e7.trans e8)))⟩
      · exact ⟨_, rfl, t, _, _, _, rfl, rfl, SqT.of ht, at_of (j := 0) rfl rfl, _, rfl, t, _, _, _, rfl, rfl, SqT.of ht, at_of (j := 1) rfl rfl, made .sell b e _ (E4.trans e6)⟩
theorem sc_Train_need_stretch : FnScope ["self", "begin", "end"] ["self", "begin", "end"] (defScope s_Train_need_stretch) := ⟨rfl, rfl, rfl, by decide +kernel, rfl, by decide +kernel, by decide +kernel⟩
theorem m_Train_need_stretch (T : Tx K mg) : Met P w K mg base 1 (He.ga K "Train") "need_stretch" (spNeedStretch K) := by
  refine T.met 11 36 15 rfl rfl rfl sc_Train_need_stretch (fun _ _ _ _ _ _ us hl => match us, hl with | [_, _, _], _ => rfl) (fun vs H Q E h => ?_) fun cdv A outer s H vs Q E hr h => ?_
  · first | (obtain ⟨_, rfl, _⟩ := h; rfl) | (obtain ⟨_, _, rfl, _⟩ := h; rfl) | (obtain ⟨_, _, _, rfl, _⟩ := h; rfl) | (obtain ⟨_, _, _, _, rfl, _⟩ := h; rfl) | (obtain ⟨_, _, _, _, _, rfl, _⟩ := h; rfl) | (obtain ⟨_, _, _, _, _, _, rfl, _⟩ := h; rfl) | (obtain ⟨_, _, _, _, _, _, _, rfl, _⟩ := h; rfl) | (obtain ⟨_, _, _, _, _, _, _, _, rfl, _⟩ := h; rfl) | (obtain ⟨_, _, _, _, _, _, _, _, _, rfl, _⟩ := h; rfl) | (obtain ⟨_, _, _, _, _, _, _, _, _, _, rfl, _⟩ := h; rfl) | (obtain ⟨_, _, _, _, _, _, _, _, _, _, _, rfl, _⟩ := h; rfl) | (obtain ⟨_, _, _, _, _, _, _, _, _, _, _, _, rfl, _⟩ := h; rfl) | (obtain ⟨_, _, _, _, _, _, _, _, _, _, _, _, _, rfl, _⟩ := h; rfl) | (obtain ⟨_, _, _, _, _, _, _, _, _, _, _, _, _, _, rfl, _⟩ := h; rfl) | (obtain ⟨_, _, _, _, _, _, _, _, _, _, _, _, _, _, _, rfl, _⟩ := h; rfl)
  · refine ⟨_, (pss_one (ps_if (pt_not (pt_chain3 op_le op_lt op_lt pe_int (pv 1) (pv 2) (fld_k K (pv 0) rfl)))
        (pss_one (ps_raise rfl (takes_of rfl rfl rfl rfl) (pmk_x T 33 34 rfl rfl)))
        pss_nil)), ?_⟩
    obtain ⟨S, p, T0, b, e, rfl, A0, q1, q2⟩ := h
    obtain ⟨dx, r, d, hp⟩ := A0.ins
    refine ⟨_, rfl, _, _, rfl, rfl, _, rfl, ?_⟩
    refine iteD (fun h1 => ?_) (fun h1 => ?_)
    · refine ⟨_, rfl, _, _, rfl, rfl, _, rfl, ?_⟩
      refine iteD (fun h2 => ?_) (fun h2 => ?_)
      · refine ⟨_, rfl, p, _, dx, _, _, rfl, hp, (T.cls 15), (T.noat 16), lk_stops, _, _, rfl, rfl, _, rfl, ?_⟩
        refine iteN (fun h3 => ?_) (fun h3 => ?_)
        · exact q2 fun z => h3 z.2.2
        · exact q1 ⟨h1, h2, h3⟩
      · exact iteT (q2 fun z => h2 z.2.1)
    · exact iteT (q2 fun z => h1 z.1)
theorem sc_first_full : FnScope ["rows", "begin", "end", "leg", "row"] ["rows", "begin", "end"] (defScope s_first_full) := ⟨rfl, rfl, rfl, by decide +kernel, rfl, by decide +kernel, by decide +kernel⟩
theorem c_first_full (T : Tx K mg) : Cal P w K mg base 1 "first_full" spFirstFull := by
  refine T.cal 12 38 rfl rfl sc_first_full (fun _ _ _ _ _ _ us hl => match us, hl with | [_, _, _], _ => rfl) (fun vs H Q E h => ?_) fun cdv A outer s H vs Q E hr h => ?_
  · first | (obtain ⟨_, rfl, _⟩ := h; rfl) | (obtain ⟨_, _, rfl, _⟩ := h; rfl) | (obtain ⟨_, _, _, rfl, _⟩ := h; rfl) | (obtain ⟨_, _, _, _, rfl, _⟩ := h; rfl) | (obtain ⟨_, _, _, _, _, rfl, _⟩ := h; rfl) | (obtain ⟨_, _, _, _, _, _, rfl, _⟩ := h; rfl) | (obtain ⟨_, _, _, _, _, _, _, rfl, _⟩ := h; rfl) | (obtain ⟨_, _, _, _, _, _, _, _, rfl, _⟩ := h; rfl) | (obtain ⟨_, _, _, _, _, _, _, _, _, rfl, _⟩ := h; rfl) | (obtain ⟨_, _, _, _, _, _, _, _, _, _, rfl, _⟩ := h; rfl) | (obtain ⟨_, _, _, _, _, _, _, _, _, _, _, rfl, _⟩ := h; rfl) | (obtain ⟨_, _, _, _, _, _, _, _, _, _, _, _, rfl, _⟩ := h; rfl) | (obtain ⟨_, _, _, _, _, _, _, _, _, _, _, _, _, rfl, _⟩ := h; rfl) | (obtain ⟨_, _, _, _, _, _, _, _, _, _, _, _, _, _, rfl, _⟩ := h; rfl) | (obtain ⟨_, _, _, _, _, _, _, _, _, _, _, _, _, _, _, rfl, _⟩ := h; rfl)
  · refine ⟨_, (pss_cons (ps_for (passes_of rfl) rfl (pi_range2 (by rfl) (T.free 3) (pa_cons (pv 1) (pa_cons (pv 2) pa_nil))) (pg_name (i := 3) sc_first_full.nd rfl (Or.inr rfl))
        (pss_one (ps_if (pt_val (pe_callB (all_k K rfl) (by rfl) (T.free 37) (by decide +kernel) (pa_cons (pe_lc (own := [("row", 4)]) (g := gName 4) rfl sc_first_full.nd (pi_l K (pv 0)) (blkOk_by (N := ["rows", "begin", "end", "leg", "row"]) (sc := defScope s_first_full) (by decide +kernel)) (fun _ _ _ _ _ => pg_name (i := 4) sc_first_full.nd rfl (Or.inl rfl)) (fun _ _ _ _ _ => pts_nil) (fun _ _ _ _ _ => (pe_cmpR op_notN1 (pe_ix (ix_l K) (pv 4) (pv 3) (fun _ _ => rfl)) pe_non (nomark _)))) pa_nil)))
          (pss_one (ps_ret (pv 3)))
          pss_nil)))
      (pss_one (ps_ret pe_non))), ?_⟩
    obtain ⟨r, as, g, b, e, rfl, G, hg, he, hb, hl, q⟩ := h
    refine ⟨_, rfl, _, rfl, _, _, rfl, ⟨by omega, by omega, by omega, by omega⟩, for_range (lo := (b : Int)) (n := ((e : Int) - b).toNat) (fun i σ H' => Ex H H' ∧ (∃ v, σ = [some (.ref r), some (.int b), some (.int e), v, none]) ∧ (List.range' b i).find? (fullLeg g) = none)
      ⟨Evl.Ex.refl H, ⟨none, rfl⟩, rfl⟩ ?_ ?_⟩
    · rintro i σ H' hi ⟨ex, ⟨v, rfl⟩, hno⟩
      have hie : b + i < e := by omega
      refine ⟨_, rfl, r, rfl, ⟨_, sqL_of G.top ex⟩, fun D hD => ?_⟩
      refine lc_v (walk_list (xs := as.map V.ref)) y_list hD (fun H2 e2 => sqL_of G.top (ex.trans e2)) (by rw [List.length_map, G.row.len]; omega) (fun _ => true)
        (fun k => .bl (((g[k]?).map fun row => held row (b + i)).getD false)) (fun _ => rfl) lc_yes ?_ ?_
      · intro k x H2 hk hx _ e2 Q2 q2
        obtain ⟨a, ha, rfl⟩ := map_back hx
        obtain ⟨row, hrow, hr2⟩ := G.row.left ha
        have hlr : b + i < row.length := Nat.lt_of_lt_of_le hie (hl row (List.mem_of_getElem? hrow))
        have hc := List.getElem?_eq_getElem hlr
        refine ⟨_, rfl, _, rfl, a, _, _, oV row[b + i], rfl, rfl, SqL.of (e2 _ _ (ex _ _ hr2)), at_of (j := b + i) (by rw [Int.natCast_add]) (map_get hc), rfl, ?_⟩
        have q3 := q2 H2 (Evl.Ex.refl H2)
        rw [hrow, Option.map_some, Option.getD_some, held_at hc] at q3
        rw [oV_some]
        exact q3
      · intro H2 e2 hD2
        rw [kept_all] at hD2
        refine ⟨D, (List.range (as.map V.ref).length).map fun k => ((g[k]?).map fun row => held row (b + i)).getD false, rfl, ?_, _, rfl, ?_⟩
        · refine SqL.of ?_
          rw [hD2, List.map_map]
          rfl
        have hb2 : ((List.range (as.map V.ref).length).map fun k => ((g[k]?).map fun row => held row (b + i)).getD false).all id = fullLeg g (b + i) := by
          rw [List.length_map, G.row.len]
          exact all_map_range g (fun row => held row (b + i)) _ fun k row hk => by rw [hk]; rfl
        rw [hb2]
        refine iteB (fun hf => ?_) (fun hf => ?_)
        · refine ⟨_, rfl, ?_⟩
          have hfind : firstFull g b e = some (b + i) := by
            unfold firstFull
            have es := range_split (b := b) (i := i) (n := e - b) (by omega)
            rw [es, List.find?_append, hno, Option.none_or, List.find?_cons, hf]
          have q3 := q H2 (ex.trans e2)
          rw [hfind] at q3
          exact q3
        · refine ⟨ex.trans e2, ⟨_, rfl⟩, ?_⟩
          rw [List.range'_1_concat, List.find?_append, hno, Option.none_or, List.find?_cons, hf]
          rfl
    · rintro σ H' ⟨ex, ⟨v, rfl⟩, hno⟩
      have q3 := q H' ex
      have hn : ((e : Int) - b).toNat = e - b := by omega
      rw [hn] at hno
      have hfind : firstFull g b e = none := hno
      rw [hfind] at q3
      exact q3
theorem sc_Train_blocked : FnScope ["self", "begin", "end"] ["self", "begin", "end"] (defScope s_Train_blocked) := ⟨rfl, rfl, rfl, by decide +kernel, rfl, by decide +kernel, by decide +kernel⟩
theorem m_Train_blocked (T : Tx K mg) : Met P w K mg base 2 (He.ga K "Train") "blocked" (spBlocked K) := by
  refine T.met 13 39 15 rfl rfl rfl sc_Train_blocked (fun _ _ _ _ _ _ us hl => match us, hl with | [_, _, _], _ => rfl) (fun vs H Q E h => ?_) fun cdv A outer s H vs Q E hr h => ?_
  · first | (obtain ⟨_, rfl, _⟩ := h; rfl) | (obtain ⟨_, _, rfl, _⟩ := h; rfl) | (obtain ⟨_, _, _, rfl, _⟩ := h; rfl) | (obtain ⟨_, _, _, _, rfl, _⟩ := h; rfl) | (obtain ⟨_, _, _, _, _, rfl, _⟩ := h; rfl) | (obtain ⟨_, _, _, _, _, _, rfl, _⟩ := h; rfl) | (obtain ⟨_, _, _, _, _, _, _, rfl, _⟩ := h; rfl) | (obtain ⟨_, _, _, _, _, _, _, _, rfl, _⟩ := h; rfl) | (obtain ⟨_, _, _, _, _, _, _, _, _, rfl, _⟩ := h; rfl) | (obtain ⟨_, _, _, _, _, _, _, _, _, _, rfl, _⟩ := h; rfl) | (obtain ⟨_, _, _, _, _, _, _, _, _, _, _, rfl, _⟩ := h; rfl) | (obtain ⟨_, _, _, _, _, _, _, _, _, _, _, _, rfl, _⟩ := h; rfl) | (obtain ⟨_, _, _, _, _, _, _, _, _, _, _, _, _, rfl, _⟩ := h; rfl) | (obtain ⟨_, _, _, _, _, _, _, _, _, _, _, _, _, _, rfl, _⟩ := h; rfl) | (obtain ⟨_, _, _, _, _, _, _, _, _, _, _, _, _, _, _, rfl, _⟩ := h; rfl)
  · refine ⟨_, (pss_cons (ps_expr (pe_m (m_Train_need_stretch T) hr (pr (takes_of rfl rfl rfl rfl)) (pv 0) (pa_cons (pv 1) (pa_cons (pv 2) pa_nil))))
      (pss_one (ps_ret (pe_c (c_first_full T) hr pz (pa_cons (fld_k K (pv 0) rfl) (pa_cons (pv 1) (pa_cons (pv 2) pa_nil))))))), ?_⟩
    obtain ⟨S, p, T0, b, e, rfl, A0, q1, q2⟩ := h
    obtain ⟨r, d, as, ls, R, z⟩ := id A0
    obtain ⟨dx, hp⟩ := R.ins
    refine ⟨_, rfl, _, _, _, rfl, hp, trF_no (by decide +kernel) (by decide +kernel) (by decide +kernel) (by decide +kernel), _, rfl, _, rfl, S, p, T0, b, e, rfl, A0, fun hs => ?_, q2⟩
    obtain ⟨h1, h2, h3⟩ := id hs
    have w2 := R.wf.s2
    have w3 := R.wf.t2
    have w1 := R.wf.t1
    refine ⟨_, rfl, p, _, dx, _, _, rfl, hp, (T.cls 15), (T.noat 17), lk_rows, _, rfl, _, rfl, r, as, T0.rows, b.toNat, e.toNat, ?_, R.grid, by omega, by omega, by omega, fun row hr => ?_, q1 hs⟩
    · show [V.ref r, V.int b, V.int e] = [V.ref r, V.int (b.toNat : Int), V.int (e.toNat : Int)]
      rw [Int.toNat_of_nonneg h1, Int.toNat_of_nonneg (by omega)]
    · rw [R.wf.legs row hr]
      omega
theorem sc_reach : FnScope ["row", "stop"] ["row", "stop"] (defScope s_reach) := ⟨rfl, rfl, rfl, by decide +kernel, rfl, by decide +kernel, by decide +kernel⟩
theorem c_reach (T : Tx K mg) : Cal P w K mg base 1 "reach" (spReach K) := by
  refine T.cal 14 41 rfl rfl sc_reach (fun _ _ _ _ _ _ us hl => match us, hl with | [_, _], _ => rfl) (fun vs H Q E h => ?_) fun cdv A outer s H vs Q E hr h => ?_
  · first | (obtain ⟨_, rfl, _⟩ := h; rfl) | (obtain ⟨_, _, rfl, _⟩ := h; rfl) | (obtain ⟨_, _, _, rfl, _⟩ := h; rfl) | (obtain ⟨_, _, _, _, rfl, _⟩ := h; rfl) | (obtain ⟨_, _, _, _, _, rfl, _⟩ := h; rfl) | (obtain ⟨_, _, _, _, _, _, rfl, _⟩ := h; rfl) | (obtain ⟨_, _, _, _, _, _, _, rfl, _⟩ := h; rfl) | (obtain ⟨_, _, _, _, _, _, _, _, rfl, _⟩ := h; rfl) | (obtain ⟨_, _, _, _, _, _, _, _, _, rfl, _⟩ := h; rfl) | (obtain ⟨_, _, _, _, _, _, _, _, _, _, rfl, _⟩ := h; rfl) | (obtain ⟨_, _, _, _, _, _, _, _, _, _, _, rfl, _⟩ := h; rfl) | (obtain ⟨_, _, _, _, _, _, _, _, _, _, _, _, rfl, _⟩ := h; rfl) | (obtain ⟨_, _, _, _, _, _, _, _, _, _, _, _, _, rfl, _⟩ := h; rfl) | (obtain ⟨_, _, _, _, _, _, _, _, _, _, _, _, _, _, rfl, _⟩ := h; rfl) | (obtain ⟨_, _, _, _, _, _, _, _, _, _, _, _, _, _, _, rfl, _⟩ := h; rfl)
  · refine ⟨_, (pss_cons (ps_while (passes_of rfl) (PW.pt (pw_and (pt_cmpR op_lt (pv 1) (pe_callB (len_k K) (by rfl) (T.free 0) PySem.boot_len (pa_cons (pv 0) pa_nil)) (nomark _)) (pw_and1 (pt_cmpR op_isN1 (pe_ix (ix_l K) (pv 0) (pv 1) (fun _ _ => rfl)) pe_non (nomark _)))))
        (pss_one (ps_set (i := 1) sc_reach.nd rfl (Or.inl rfl) (pe_op op_add (pv 1) pe_int))))
      (pss_one (ps_ret (pv 1)))), ?_⟩
    obtain ⟨a, row, s, rfl, hS, q⟩ := h
    refine ⟨fun m σ H' => ∃ s' : Nat, σ = [some (.ref a), some (.int s')] ∧ H' = H ∧ m = row.length - s' ∧ reach row s' = reach row s, ⟨_, s, rfl, rfl, rfl, rfl⟩, ?_⟩
    rintro m σ H' ⟨s', rfl, rfl, rfl, hr'⟩
    refine ⟨_, rfl, _, rfl, a, _, rfl, .inl hS, _, _, rfl, rfl, _, rfl, ?_⟩
    refine iteD (fun h1 => ?_) (fun h1 => ?_)
    · have h2 : s' < row.length := by
        rw [List.length_map] at h1
        omega
      have hc := List.getElem?_eq_getElem h2
      refine ⟨_, rfl, _, rfl, a, _, _, oV row[s'], rfl, rfl, hS, at_of rfl (map_get hc), rfl, _, rfl, ?_⟩
      rw [oV_none]
      cases ec : row[s'] with
      | none =>
        refine iteT ?_
        rw [ec] at hc
        refine ⟨fun σ' H'' => σ' = [some (.ref a), some (.int ((s' + 1 : Nat) : Int))] ∧ H'' = H', fun σ' H'' e => ⟨_, ?_, s' + 1, e.1, e.2, rfl, ?_⟩, ?_⟩
        · omega
        · rw [← reach_yes hc]
          exact hr'
        · exact ⟨_, rfl, _, _, rfl, rfl, rfl, rfl⟩
      | some t =>
        refine iteF ?_
        rw [ec] at hc
        refine ⟨_, rfl, ?_⟩
        rw [reach_no hc] at hr'
        rw [hr']
        exact q
    · have h2 : row.length ≤ s' := by
        rw [List.length_map] at h1
        omega
      refine iteF ?_
      refine ⟨_, rfl, ?_⟩
      rw [reach_out h2] at hr'
      rw [hr']
      exact q
theorem sc_best_seat : FnScope ["rows", "stop", "end", "best", "far", "seat", "row", "leads"] ["rows", "stop", "end"] (defScope s_best_seat) := ⟨rfl, rfl, rfl, by decide +kernel, rfl, by decide +kernel, by decide +kernel⟩
theorem c_best_seat (T : Tx K mg) : Cal P w K mg base 2 "best_seat" spBest := by
  refine T.cal 15 42 rfl rfl sc_best_seat (fun _ _ _ _ _ _ us hl => match us, hl with | [_, _, _], _ => rfl) (fun vs H Q E h => ?_) fun cdv A outer s H vs Q E hr h => ?_
  · first | (obtain ⟨_, rfl, _⟩ := h; rfl) | (obtain ⟨_, _, rfl, _⟩ := h; rfl) | (obtain ⟨_, _, _, rfl, _⟩ := h; rfl) | (obtain ⟨_, _, _, _, rfl, _⟩ := h; rfl) | (obtain ⟨_, _, _, _, _, rfl, _⟩ := h; rfl) | (obtain ⟨_, _, _, _, _, _, rfl, _⟩ := h; rfl) | (obtain ⟨_, _, _, _, _, _, _, rfl, _⟩ := h; rfl) | (obtain ⟨_, _, _, _, _, _, _, _, rfl, _⟩ := h; rfl) | (obtain ⟨_, _, _, _, _, _, _, _, _, rfl, _⟩ := h; rfl) | (obtain ⟨_, _, _, _, _, _, _, _, _, _, rfl, _⟩ := h; rfl) | (obtain ⟨_, _, _, _, _, _, _, _, _, _, _, rfl, _⟩ := h; rfl) | (obtain ⟨_, _, _, _, _, _, _, _, _, _, _, _, rfl, _⟩ := h; rfl) | (obtain ⟨_, _, _, _, _, _, _, _, _, _, _, _, _, rfl, _⟩ := h; rfl) | (obtain ⟨_, _, _, _, _, _, _, _, _, _, _, _, _, _, rfl, _⟩ := h; rfl) | (obtain ⟨_, _, _, _, _, _, _, _, _, _, _, _, _, _, _, rfl, _⟩ := h; rfl)
  · refine ⟨_, (pss_cons (ps_set (i := 3) sc_best_seat.nd rfl (Or.inl rfl) pe_int)
      (pss_cons (ps_set (i := 4) sc_best_seat.nd rfl (Or.inl rfl) (pv 1))
      (pss_cons (ps_for (passes_of rfl) rfl (pi_enum (by rfl) (T.free 40) (pa_cons (pv 0) pa_nil)) (pg_tup rfl (pgs_cons (pg_name (i := 5) sc_best_seat.nd rfl (Or.inl rfl)) (pgs_cons (pg_name (i := 6) sc_best_seat.nd rfl (Or.inl rfl)) pgs_nil)))
        (pss_cons (ps_set (i := 7) sc_best_seat.nd rfl (Or.inl rfl) (pe_callB (call_min2 rfl) (by rfl) (T.free 26) (by decide +kernel) (pa_cons (pe_c (c_reach T) hr pz (pa_cons (pv 6) (pa_cons (pv 1) pa_nil))) (pa_cons (pv 2) pa_nil))))
        (pss_one (ps_if (pt_cmpR op_gt (pv 7) (pv 4) (nomark _))
          (pss_cons (ps_set (i := 3) sc_best_seat.nd rfl (Or.inl rfl) (pv 5))
          (pss_one (ps_set (i := 4) sc_best_seat.nd rfl (Or.inl rfl) (pv 7))))
          pss_nil))))
      (pss_one (ps_ret (pe_tup (pa_cons (pv 3) (pa_cons (pv 4) pa_nil)))))))), ?_⟩
    obtain ⟨r, as, g, s0, e, rfl, G, q⟩ := h
    refine ⟨_, rfl, _, rfl, r, _, rfl, SqL.of G.top, ?_⟩
    refine for_it (walk_enum (xs := as.map V.ref)) (fun i σ H' => Ex H H' ∧ ∃ (best far : Nat) (v1 v2 v3 : Option V), σ = [some (.ref r), some (.int s0), some (.int e), some (.int best), some (.int far), v1, v2, v3] ∧ bestFrom s0 e (g.drop i) i best far = bestSeat g s0 e)
      ⟨Evl.Ex.refl H, 0, s0, none, none, none, rfl, rfl⟩ (fun i σ H' _ p => sqL_of G.top p.1) ?_ ?_
    · rintro i x σ H' H2 hi ⟨ex, best, far, v1, v2, v3, rfl, hb⟩ ⟨t, x1, x2, rfl, ht, rfl, e1, e2⟩
      cases Option.some.inj e1
      obtain ⟨a, ha, rfl⟩ := map_back e2
      obtain ⟨row, hrow, hr2⟩ := G.row.left ha
      have ex2 := ex.trans (Evl.Ex.new (o := .tup [.int (i : Int), .ref a]) ht)
      refine ⟨t, _, rfl, SqT.of upd_same, rfl, _, _, rfl, _, _, rfl, rfl, ?_⟩
      refine ⟨_, rfl, _, rfl, a, row, s0, rfl, SqL.of (ex2 _ _ hr2), _, rfl, _, _, rfl, ?_⟩
      have hm : (if (e : Int) < (reach row s0 : Int) then (e : Int) else (reach row s0 : Int)) = ((min (reach row s0) e : Nat) : Int) := by
        split <;> omega
      rw [hm]
      have hd : g.drop i = row :: g.drop (i + 1) := by
        have hl := lt_of_get hrow
        rw [List.drop_eq_getElem_cons hl]
        rw [List.getElem?_eq_getElem hl] at hrow
        rw [Option.some.inj hrow]
      rw [hd] at hb
      unfold bestFrom at hb
      refine ⟨_, rfl, _, rfl, _, _, rfl, rfl, _, rfl, ?_⟩
      refine iteD (fun h1 => ?_) (fun h1 => ?_)
      · rw [if_pos (by omega)] at hb
        exact ⟨_, rfl, _, rfl, ex2, i, min (reach row s0) e, _, _, _, rfl, hb⟩
      · rw [if_neg (by omega)] at hb
        exact ⟨ex2, best, far, _, _, _, rfl, hb⟩
    · rintro σ H' ⟨ex, best, far, v1, v2, v3, rfl, hb⟩
      refine ⟨_, rfl, _, rfl, by show 2 ≤ sizeLine; decide, fun t ht => ?_⟩
      have hn : g.drop (as.map V.ref).length = [] := by
        rw [List.length_map, G.row.len]
        exact List.drop_eq_nil_of_le (Nat.le_refl _)
      rw [hn] at hb
      have hb2 : (best, far) = bestSeat g s0 e := hb
      refine q _ t (ex.trans (Evl.Ex.new ht)) ?_
      rw [upd_same, ← hb2]
theorem sc_found_parts : FnScope ["rows", "begin", "end", "parts", "stop", "best"] ["rows", "begin", "end"] (defScope s_found_parts) := ⟨rfl, rfl, rfl, by decide +kernel, rfl, by decide +kernel, by decide +kernel⟩
theorem c_found_parts (T : Tx K mg) : Cal P w K mg base 3 "found_parts" spFound := by
  refine T.cal 16 43 rfl rfl sc_found_parts (fun _ _ _ _ _ _ us hl => match us, hl with | [_, _, _], _ => rfl) (fun vs H Q E h => ?_) fun cdv A outer s H vs Q E hr h => ?_
  · first | (obtain ⟨_, rfl, _⟩ := h; rfl) | (obtain ⟨_, _, rfl, _⟩ := h; rfl) | (obtain ⟨_, _, _, rfl, _⟩ := h; rfl) | (obtain ⟨_, _, _, _, rfl, _⟩ := h; rfl) | (obtain ⟨_, _, _, _, _, rfl, _⟩ := h; rfl) | (obtain ⟨_, _, _, _, _, _, rfl, _⟩ := h; rfl) | (obtain ⟨_, _, _, _, _, _, _, rfl, _⟩ := h; rfl) | (obtain ⟨_, _, _, _, _, _, _, _, rfl, _⟩ := h; rfl) | (obtain ⟨_, _, _, _, _, _, _, _, _, rfl, _⟩ := h; rfl) | (obtain ⟨_, _, _, _, _, _, _, _, _, _, rfl, _⟩ := h; rfl) | (obtain ⟨_, _, _, _, _, _, _, _, _, _, _, rfl, _⟩ := h; rfl) | (obtain ⟨_, _, _, _, _, _, _, _, _, _, _, _, rfl, _⟩ := h; rfl) | (obtain ⟨_, _, _, _, _, _, _, _, _, _, _, _, _, rfl, _⟩ := h; rfl) | (obtain ⟨_, _, _, _, _, _, _, _, _, _, _, _, _, _, rfl, _⟩ := h; rfl) | (obtain ⟨_, _, _, _, _, _, _, _, _, _, _, _, _, _, _, rfl, _⟩ := h; rfl)
  · refine ⟨_, (pss_cons (ps_set (i := 3) sc_found_parts.nd rfl (Or.inl rfl) (pe_lst pa_nil))
      (pss_cons (ps_set (i := 4) sc_found_parts.nd rfl (Or.inl rfl) (pv 1))
      (pss_cons (ps_while (passes_of rfl) (pt_cmpR op_lt (pv 4) (pv 2) (nomark _))
        (pss_cons (ps_set (i := 5) sc_found_parts.nd rfl (Or.inl rfl) (pe_c (c_best_seat T) hr pz (pa_cons (pv 0) (pa_cons (pv 4) (pa_cons (pv 2) pa_nil)))))
        (pss_cons (ps_if (pt_cmpR op_eq (pe_ix (ix_t K) (pv 5) pe_int (fun _ _ => rfl)) (pv 4) (nomark _))
          (pss_one (ps_ret (pv 3)))
          pss_nil)
        (pss_cons (ps_expr (pe_bm PySem.F.plainAttrs_list PySem.F.slot_list_append PySem.F.type_list_append mt_append (pv 3) (pa_cons (pe_tup (pa_cons (pe_ix (ix_t K) (pv 5) pe_int (fun _ _ => rfl)) (pa_cons (pv 4) (pa_cons (pe_ix (ix_t K) (pv 5) pe_int (fun _ _ => rfl)) pa_nil)))) pa_nil)))
        (pss_one (ps_set (i := 4) sc_found_parts.nd rfl (Or.inl rfl) (pe_ix (ix_t K) (pv 5) pe_int (fun _ _ => rfl))))))))
      (pss_one (ps_ret (pv 3)))))), ?_⟩
    obtain ⟨r, as, g, b, e, rfl, G, he, q⟩ := h
    refine ⟨Nat.zero_le _, fun l hl => ?_⟩
    refine ⟨_, rfl, ?_⟩
    refine ⟨fun m σ H' => ∃ (s0 : Nat) (acc : List P3) (ts : List Addr) (v : Option V), σ = [some (.ref r), some (.int b), some (.int e), some (.ref l), some (.int s0), v] ∧ m = e - s0 ∧ Ex H H' ∧ H' l = some (.lst (ts.map V.ref)) ∧ All2 (PartAt H') ts acc ∧ acc.length ≤ s0 ∧
        acc ++ found g s0 e = found g b e, ⟨_, b, [], [], none, rfl, rfl, Evl.Ex.new hl, upd_same, All2.nil, Nat.zero_le _, rfl⟩, ?_⟩
    rintro m σ H' ⟨s0, acc, ts, v, rfl, rfl, ex, hL, hP, hlen, hf⟩
    refine ⟨_, rfl, _, rfl, _, _, rfl, rfl, _, rfl, ?_⟩
    refine iteD (fun h1 => ?_) (fun h1 => ?_)
    · refine ⟨fun σ' H'' => ∃ (acc : List P3) (ts : List Addr) (v : Option V), σ' = [some (.ref r), some (.int b), some (.int e), some (.ref l), some (.int (bestSeat g s0 e).2), v] ∧ s0 < (bestSeat g s0 e).2 ∧ Ex H H'' ∧ H'' l = some (.lst (ts.map V.ref)) ∧ All2 (PartAt H'') ts acc ∧
          acc.length ≤ (bestSeat g s0 e).2 ∧ acc ++ found g (bestSeat g s0 e).2 e = found g b e, fun σ' H'' ⟨acc, ts, v, h0, h2, h3, h4, h5, h6, h7⟩ => ⟨_, by omega, _, acc, ts, v, h0, rfl, h3, h4, h5, h6, h7⟩, ?_⟩
      refine ⟨_, rfl, _, rfl, _, rfl, r, as, g, s0, e, rfl, G.mono ex, fun H2 t e2 ht => ?_⟩
      refine ⟨_, rfl, t, _, _, _, rfl, rfl, SqT.of ht, at_of (j := 1) rfl rfl, _, rfl, rfl, _, rfl, ?_⟩
      refine iteD (fun h2 => ?_) (fun h2 => ?_)
      · have h3 : (bestSeat g s0 e).2 = s0 := by
          have := V.int.inj h2
          omega
        rw [found_none h3, List.append_nil] at hf
        refine ⟨_, rfl, q H2 l (ex.trans e2) hl ⟨ts, e2 _ _ hL, ?_⟩⟩
        rw [← hf]
        exact hP.mono fun _ _ z => e2 _ _ z
      · have h3 : (bestSeat g s0 e).2 ≠ s0 := fun z => h2 (by rw [z])
        have hon := best_on h3
        rw [found_on (by omega) h3] at hf
        refine ⟨_, rfl, .inl ⟨rfl, _, SqL.of (e2 _ _ hL)⟩, ?_⟩
        refine ⟨_, rfl, t, _, _, _, rfl, rfl, SqT.of ht, at_of (j := 0) rfl rfl, _, rfl, _, rfl, t, _, _, _, rfl, rfl, SqT.of ht, at_of (j := 1) rfl rfl, by show 3 ≤ sizeLine; decide, fun u hu => ?_⟩
        have hlu : l ≠ u := ne_of_none (e2 _ _ hL) hu
        refine ⟨l, _, _, rfl, rfl, by rw [upd_ne hlu]; exact e2 _ _ hL, ?_, ?_⟩
        · rw [List.length_map, hP.len]
          exact Nat.lt_of_le_of_lt (show acc.length ≤ 1000 by omega) (by decide)
        have htl : t ≠ l := ne_of ht (e2 _ _ hL) (fun z => by cases z)
        have htu : t ≠ u := ne_of_none ht hu
        refine ⟨_, rfl, t, _, _, _, rfl, rfl, SqT.of (by rw [upd_ne htl, upd_ne htu]; exact ht), at_of (j := 1) rfl rfl, ?_⟩
        refine ⟨acc ++ [((bestSeat g s0 e).1, s0, (bestSeat g s0 e).2)], ts ++ [u], _, rfl, hon.2.1, Evl.Ex.mut ((ex.trans e2).trans (Evl.Ex.new hu)) hl, ?_, ?_, ?_, ?_⟩
        · rw [upd_same, List.map_append]
          rfl
        · refine All2.snoc (hP.mono fun x y z => ?_) ?_
          · have zx : H2 x = some (.tup (pV y)) := e2 _ _ z
            show upd (upd H2 u _) l _ x = _
            rw [upd_ne (ne_of zx (e2 _ _ hL) (fun z => by cases z)), upd_ne (ne_of_none zx hu)]
            exact zx
          · show upd (upd H2 u _) l _ u = _
            rw [upd_ne hlu.symm, upd_same]
            rfl
        · rw [List.length_append, List.length_singleton]
          omega
        · rw [List.append_assoc]
          exact hf
    · have h2 := found_stop (g := g) (s := s0) (e := e) (by omega)
      rw [h2, List.append_nil] at hf
      refine ⟨_, rfl, q H' l ex hl ⟨ts, hL, ?_⟩⟩
      rw [← hf]
      exact hP
theorem sc_Train_row : FnScope ["self", "begin", "end"] ["self", "begin", "end"] (defScope s_Train_row) := ⟨rfl, rfl, rfl, by decide +kernel, rfl, by decide +kernel, by decide +kernel⟩
theorem m_Train_row (T : Tx K mg) : Met P w K mg base 4 (He.ga K "Train") "row" (spRow K) := by
  refine T.met 17 44 15 rfl rfl rfl sc_Train_row (fun _ _ _ _ _ _ us hl => match us, hl with | [_, _, _], _ => rfl) (fun vs H Q E h => ?_) fun cdv A outer s H vs Q E hr h => ?_
  · first | (obtain ⟨_, rfl, _⟩ := h; rfl) | (obtain ⟨_, _, rfl, _⟩ := h; rfl) | (obtain ⟨_, _, _, rfl, _⟩ := h; rfl) | (obtain ⟨_, _, _, _, rfl, _⟩ := h; rfl) | (obtain ⟨_, _, _, _, _, rfl, _⟩ := h; rfl) | (obtain ⟨_, _, _, _, _, _, rfl, _⟩ := h; rfl) | (obtain ⟨_, _, _, _, _, _, _, rfl, _⟩ := h; rfl) | (obtain ⟨_, _, _, _, _, _, _, _, rfl, _⟩ := h; rfl) | (obtain ⟨_, _, _, _, _, _, _, _, _, rfl, _⟩ := h; rfl) | (obtain ⟨_, _, _, _, _, _, _, _, _, _, rfl, _⟩ := h; rfl) | (obtain ⟨_, _, _, _, _, _, _, _, _, _, _, rfl, _⟩ := h; rfl) | (obtain ⟨_, _, _, _, _, _, _, _, _, _, _, _, rfl, _⟩ := h; rfl) | (obtain ⟨_, _, _, _, _, _, _, _, _, _, _, _, _, rfl, _⟩ := h; rfl) | (obtain ⟨_, _, _, _, _, _, _, _, _, _, _, _, _, _, rfl, _⟩ := h; rfl) | (obtain ⟨_, _, _, _, _, _, _, _, _, _, _, _, _, _, _, rfl, _⟩ := h; rfl)
  · refine ⟨_, (pss_cons (ps_if (pt_cmpR op_notN1 (pe_m (m_Train_blocked T) hr (pr (takes_of rfl rfl rfl rfl)) (pv 0) (pa_cons (pv 1) (pa_cons (pv 2) pa_nil))) pe_non (nomark _))
        (pss_one (ps_raise rfl (takes_of rfl rfl rfl rfl) (pmk_x T 30 31 rfl rfl)))
        pss_nil)
      (pss_one (ps_ret (pe_c (c_found_parts T) hr pz (pa_cons (fld_k K (pv 0) rfl) (pa_cons (pv 1) (pa_cons (pv 2) pa_nil))))))), ?_⟩
    obtain ⟨S, p, T0, b, e, rfl, A0, q1, q2, q3⟩ := h
    obtain ⟨dx, r, d, hp⟩ := A0.ins
    refine ⟨_, rfl, p, _, _, rfl, hp, nf_blocked, _, rfl, _, rfl, S, p, T0, b, e, rfl, A0, fun hs H2 e2 => ?_, q3⟩
    refine ⟨rfl, _, rfl, ?_⟩
    rw [oV_some]
    refine iteB (fun h1 => ?_) (fun h1 => ?_)
    · refine q2 hs (fun z => ?_) H2 e2
      rw [z] at h1
      cases h1
    · have hn : firstFull T0.rows b.toNat e.toNat = none := Option.isSome_eq_false_iff.mp h1 |> Option.isNone_iff_eq_none.mp
      have A2 := A0.ex e2
      obtain ⟨r, d, as, ent, R, z⟩ := id A2
      obtain ⟨dx, hp2⟩ := R.ins
      obtain ⟨h1, h2, h3⟩ := id hs
      have w3 := R.wf.t2
      refine ⟨_, rfl, p, _, dx, _, _, rfl, hp2, (T.cls 15), (T.noat 17), lk_rows, _, rfl, _, rfl, r, as, T0.rows, b.toNat, e.toNat, ?_, R.grid, by omega, fun H3 l e3 hl hP => q1 hs hn H3 l (e2.trans e3) (Evl.fresh_back e2 hl) hP⟩
      show [V.ref r, V.int b, V.int e] = [V.ref r, V.int (b.toNat : Int), V.int (e.toNat : Int)]
      rw [Int.toNat_of_nonneg h1, Int.toNat_of_nonneg (by omega)]
theorem sc_Train_mark : FnScope ["self", "parts", "held", "part", "leg"] ["self", "parts", "held"] (defScope s_Train_mark) := ⟨rfl, rfl, rfl, by decide +kernel, rfl, by decide +kernel, by decide +kernel⟩
theorem m_Train_mark (T : Tx K mg) : Met P w K mg base 1 (He.ga K "Train") "mark" (spMark K) := by
  refine T.met 18 45 15 rfl rfl rfl sc_Train_mark (fun _ _ _ _ _ _ us hl => match us, hl with | [_, _, _], _ => rfl) (fun vs H Q E h => ?_) fun cdv A outer s H vs Q E hr h => ?_
  · first | (obtain ⟨_, rfl, _⟩ := h; rfl) | (obtain ⟨_, _, rfl, _⟩ := h; rfl) | (obtain ⟨_, _, _, rfl, _⟩ := h; rfl) | (obtain ⟨_, _, _, _, rfl, _⟩ := h; rfl) | (obtain ⟨_, _, _, _, _, rfl, _⟩ := h; rfl) | (obtain ⟨_, _, _, _, _, _, rfl, _⟩ := h; rfl) | (obtain ⟨_, _, _, _, _, _, _, rfl, _⟩ := h; rfl) | (obtain ⟨_, _, _, _, _, _, _, _, rfl, _⟩ := h; rfl) | (obtain ⟨_, _, _, _, _, _, _, _, _, rfl, _⟩ := h; rfl) | (obtain ⟨_, _, _, _, _, _, _, _, _, _, rfl, _⟩ := h; rfl) | (obtain ⟨_, _, _, _, _, _, _, _, _, _, _, rfl, _⟩ := h; rfl) | (obtain ⟨_, _, _, _, _, _, _, _, _, _, _, _, rfl, _⟩ := h; rfl) | (obtain ⟨_, _, _, _, _, _, _, _, _, _, _, _, _, rfl, _⟩ := h; rfl) | (obtain ⟨_, _, _, _, _, _, _, _, _, _, _, _, _, _, rfl, _⟩ := h; rfl) | (obtain ⟨_, _, _, _, _, _, _, _, _, _, _, _, _, _, _, rfl, _⟩ := h; rfl)
  · refine ⟨_, (pss_one (ps_for (passes_of rfl) rfl (pi_l K (pv 1)) (pg_name (i := 3) sc_Train_mark.nd rfl (Or.inl rfl))
        (pss_one (ps_for (passes_of rfl) rfl (pi_range2 (by rfl) (T.free 3) (pa_cons (pe_ix (ix_t K) (pv 3) pe_int (fun _ _ => rfl)) (pa_cons (pe_ix (ix_t K) (pv 3) pe_int (fun _ _ => rfl)) pa_nil))) (pg_name (i := 4) sc_Train_mark.nd rfl (Or.inl rfl))
          (pss_one (ps_asg (pv 2) (pg_sub (pe_ix (ix_l K) (fld_k K (pv 0) rfl) (pe_ix (ix_t K) (pv 3) pe_int (fun _ _ => rfl)) (fun _ _ => rfl)) (pv 4) set_list))))))), ?_⟩
    obtain ⟨S, p, T0, l, ps, hh, rfl, A0, ⟨ts, hl, hP⟩, hv, q⟩ := h
    refine ⟨_, rfl, l, rfl, ⟨_, SqL.of hl⟩, for_list (K := K) (a := l) (xs := ts.map V.ref) (fun i σ H' => ∃ v1 v2, σ = [some (.ref p), some (.ref l), some (oV hh), v1, v2] ∧ Mv H H' S S ∧ H' l = some (.lst (ts.map V.ref)) ∧ TrainAt K H' S p { T0 with rows := markAll T0.rows (ps.take i) hh })
      ⟨none, none, rfl, Mv.refl H S, hl, A0⟩ (fun i σ H' _ ⟨_, _, _, _, z, _⟩ => SqL.of z) ?_ ?_⟩
    · rintro i x σ H' hi ⟨v1, v2, rfl, mv, hl2, A⟩
      obtain ⟨t, ht, rfl⟩ := map_back hi
      obtain ⟨⟨c1, c2, c3⟩, hc, hpt⟩ := hP.left ht
      have hval := hv _ (List.mem_of_getElem? hc)
      have hpt2 : H' t = some (.tup [.int (c1 : Int), .int (c2 : Int), .int (c3 : Int)]) := mv.tups _ _ hpt
      have htake : ps.take (i + 1) = ps.take i ++ [(c1, c2, c3)] := by
        have hl3 := lt_of_get hc
        rw [List.take_succ_eq_append_getElem hl3]
        rw [List.getElem?_eq_getElem hl3] at hc
        rw [Option.some.inj hc]
      have w4 := A0.wf.t2
      dsimp only at hval
      refine ⟨_, rfl, t, _, _, _, rfl, rfl, SqT.of hpt2, at_of (j := 1) rfl rfl, _, rfl, t, _, _, _, rfl, rfl, SqT.of hpt2, at_of (j := 2) rfl rfl, _, _, rfl, ⟨by omega, by omega, by omega, by omega⟩, ?_⟩
      refine for_range (lo := (c2 : Int)) (n := ((c3 : Int) - c2).toNat) (fun j σ H2 => ∃ v2, σ = [some (.ref p), some (.ref l), some (oV hh), some (.ref t), v2] ∧ Mv H H2 S S ∧ H2 l = some (.lst (ts.map V.ref)) ∧
          TrainAt K H2 S p { T0 with rows := (List.range' c2 j).foldl (fun g leg => setCell g c1 leg hh) (markAll T0.rows (ps.take i) hh) }) ⟨v2, rfl, mv, hl2, A⟩ ?_ ?_
      · rintro j σ H2 hj ⟨v2, rfl, mv2, hl3, A2⟩
        have hpt3 : H2 t = some (.tup [.int (c1 : Int), .int (c2 : Int), .int (c3 : Int)]) := mv2.tups _ _ hpt
        have hlen : ((List.range' c2 j).foldl (fun g leg => setCell g c1 leg hh) (markAll T0.rows (ps.take i) hh)).length = T0.rows.length := by
          have h1 := foldl_len c1 hh (List.range' c2 j) (markAll T0.rows (ps.take i) hh)
          rw [h1, markAll_len]
        obtain ⟨dx, r, d, as, a, row, hp, hr, ha, hrow, hleg, mv3, A3⟩ := A2.cell (seat := c1) (leg := c2 + j) hh (by show c1 < List.length _; rw [hlen]; exact hval.1) (by show c2 + j < T0.stops - 1; omega)
        refine ⟨_, rfl, _, rfl, p, _, dx, _, _, rfl, hp, (T.cls 15), (T.noat 17), lk_rows, _, rfl, t, _, _, _, rfl, rfl, SqT.of hpt3, at_of (j := 0) rfl rfl, r, _, _, .ref a, rfl, rfl, SqL.of hr, at_of rfl (map_get ha), ?_⟩
        refine ⟨_, rfl, a, _, _, c2 + j, rfl, rfl, hrow, ?_, ?_⟩
        · rw [List.length_map, show (c2 : Int) + (j : Int) = ((c2 + j : Nat) : Int) by omega]
          exact ixN_nat hleg
        · rw [← List.map_set]
          refine ⟨_, rfl, mv2.trans mv3, ?_, ?_⟩
          · have hrl : 1 ≤ row.length := by omega
            rw [upd_ne (row_ne hrow hrl hl3)]
            exact hl3
          · have e1 : List.range' c2 (j + 1) = List.range' c2 j ++ [c2 + j] := List.range'_1_concat
            rw [e1, List.foldl_append]
            exact A3
      · rintro σ H2 ⟨v2, rfl, mv2, hl3, A2⟩
        refine ⟨_, _, rfl, mv2, hl3, ?_⟩
        rw [htake]
        have e2 : markAll T0.rows (ps.take i ++ [(c1, c2, c3)]) hh = markPart (markAll T0.rows (ps.take i) hh) hh (c1, c2, c3) := by
          unfold markAll
          rw [List.foldl_append]
          rfl
        rw [e2]
        have e3 : ((c3 : Int) - c2).toNat = c3 - c2 := by omega
        rw [e3] at A2
        exact A2
    · rintro σ H' ⟨v1, v2, rfl, mv, hl2, A⟩
      have e : ps.take (ts.map V.ref).length = ps := by rw [List.length_map, hP.len, List.take_length]
      rw [e] at A
      exact q H' mv (by rw [hl2, hl]) A
theorem sc_Train_take : FnScope ["self", "ticket", "parts"] ["self", "ticket", "parts"] (defScope s_Train_take) := ⟨rfl, rfl, rfl, by decide +kernel, rfl, by decide +kernel, by decide +kernel⟩
theorem m_Train_take (T : Tx K mg) : Met P w K mg base 2 (He.ga K "Train") "take" (spTake K) := by
  refine T.met 19 46 15 rfl rfl rfl sc_Train_take (fun _ _ _ _ _ _ us hl => match us, hl with | [_, _, _], _ => rfl) (fun vs H Q E h => ?_) fun cdv A outer s H vs Q E hr h => ?_
  · first | (obtain ⟨_, rfl, _⟩ := h; rfl) | (obtain ⟨_, _, rfl, _⟩ := h; rfl) | (obtain ⟨_, _, _, rfl, _⟩ := h; rfl) | (obtain ⟨_, _, _, _, rfl, _⟩ := h; rfl) | (obtain ⟨_, _, _, _, _, rfl, _⟩ := h; rfl) | (obtain ⟨_, _, _, _, _, _, rfl, _⟩ := h; rfl) | (obtain ⟨_, _, _, _, _, _, _, rfl, _⟩ := h; rfl) | (obtain ⟨_, _, _, _, _, _, _, _, rfl, _⟩ := h; rfl) | (obtain ⟨_, _, _, _, _, _, _, _, _, rfl, _⟩ := h; rfl) | (obtain ⟨_, _, _, _, _, _, _, _, _, _, rfl, _⟩ := h; rfl) | (obtain ⟨_, _, _, _, _, _, _, _, _, _, _, rfl, _⟩ := h; rfl) | (obtain ⟨_, _, _, _, _, _, _, _, _, _, _, _, rfl, _⟩ := h; rfl) | (obtain ⟨_, _, _, _, _, _, _, _, _, _, _, _, _, rfl, _⟩ := h; rfl) | (obtain ⟨_, _, _, _, _, _, _, _, _, _, _, _, _, _, rfl, _⟩ := h; rfl) | (obtain ⟨_, _, _, _, _, _, _, _, _, _, _, _, _, _, _, rfl, _⟩ := h; rfl)
  · refine ⟨_, (pss_cons (ps_dput (hu_of hr) (fld_k K (pv 0) rfl) (pv 1) (pv 2) rfl)
      (pss_one (ps_expr (pe_m (m_Train_mark T) hr pz (pv 0) (pa_cons (pv 2) (pa_cons (pv 1) pa_nil)))))), ?_⟩
    obtain ⟨S, p, T0, t, l, ps, rfl, A0, hP, hS, hv, hlen, hkey, q⟩ := h
    obtain ⟨r, d, as, ent, R, sp, sr, sd, sa, sl⟩ := id A0
    obtain ⟨dx, hp⟩ := R.ins
    obtain ⟨ts, hl, hP2⟩ := hP
    have hdl : d ≠ l := ne_of R.dict hl (fun z => by cases z)
    have hdp : d ≠ p := ne_of R.dict hp (fun z => by cases z)
    have hel : (entD ent).length < sizeLine := by
      have : (entD ent).length = T0.sold.length := by
        rw [R.sold]
        unfold entD entS
        rw [List.length_map, List.length_map]
      rw [this]
      exact Nat.lt_trans hlen (by decide)
    refine ⟨_, rfl, _, rfl, p, _, dx, _, _, rfl, hp, (T.cls 15), (T.noat 18), lk_sold, _, rfl, d, _, rfl, DPut.k (k := Sum.inl (t : Int)) R.dict hel, ?_⟩
    have R2 := R.put t l ps hS sd (fun m => sa l m) hkey hl hP2
    have hl2 : upd H d (.dK (putK (entD ent) (Sum.inl (t : Int)) (.ref l))) l = some (.lst (ts.map V.ref)) := by
      rw [upd_ne hdl.symm]
      exact hl
    obtain ⟨dx2, hp2⟩ := R2.ins
    have A2 : TrainAt K (upd H d (.dK (putK (entD ent) (Sum.inl (t : Int)) (.ref l)))) (fun a => S a ∨ a = l) p { T0 with sold := putS T0.sold t ps } :=
      ⟨r, d, as, _, R2, .inl sp, .inl sr, .inl sd, fun a m => .inl (sa a m), fun x m => ent_in (Z := fun a => S a ∨ a = l) m (fun y my => .inl (sl y my)) (.inr rfl)⟩
    refine ⟨_, rfl, p, _, _, rfl, hp2, nf_mark, _, rfl, _, rfl, _, p, _, l, ps, some t, rfl, A2, ⟨ts, hl2, hP2.mono fun u y z => ?_⟩, hv, fun H3 mv3 hl3 A3 => ?_⟩
    · show upd H d _ u = _
      rw [upd_ne (ne_of z R.dict (fun z => by cases z))]
      exact z
    · refine q H3 (fun a o hs ha => ?_) (fun a xs ha => ?_) A3
      · have had : a ≠ d := fun z => hs (by rw [z]; exact sd)
        by_cases hal : a = l
        · rw [hal] at ha ⊢
          rw [hl3, hl2, ← hl]
          exact ha
        · exact mv3.keep a o (fun z => z.elim hs hal) (by rw [upd_ne had]; exact ha)
      · refine mv3.tups a xs ?_
        rw [upd_ne (ne_of ha R.dict (fun z => by cases z))]
        exact ha
theorem sc_Train_sell : FnScope ["self", "begin", "end", "parts"] ["self", "begin", "end"] (defScope s_Train_sell) := ⟨rfl, rfl, rfl, by decide +kernel, rfl, by decide +kernel, by decide +kernel⟩
theorem m_Train_sell (T : Tx K mg) : Met P w K mg base 5 (He.ga K "Train") "sell" (spSell K) := by
  refine T.met 20 47 15 rfl rfl rfl sc_Train_sell (fun _ _ _ _ _ _ us hl => match us, hl with | [_, _, _], _ => rfl) (fun vs H Q E h => ?_) fun cdv A outer s H vs Q E hr h => ?_
  · first | (obtain ⟨_, rfl, _⟩ := h; rfl) | (obtain ⟨_, _, rfl, _⟩ := h; rfl) | (obtain ⟨_, _, _, rfl, _⟩ := h; rfl) | (obtain ⟨_, _, _, _, rfl, _⟩ := h; rfl) | (obtain ⟨_, _, _, _, _, rfl, _⟩ := h; rfl) | (obtain ⟨_, _, _, _, _, _, rfl, _⟩ := h; rfl) | (obtain ⟨_, _, _, _, _, _, _, rfl, _⟩ := h; rfl) | (obtain ⟨_, _, _, _, _, _, _, _, rfl, _⟩ := h; rfl) | (obtain ⟨_, _, _, _, _, _, _, _, _, rfl, _⟩ := h; rfl) | (obtain ⟨_, _, _, _, _, _, _, _, _, _, rfl, _⟩ := h; rfl) | (obtain ⟨_, _, _, _, _, _, _, _, _, _, _, rfl, _⟩ := h; rfl) | (obtain ⟨_, _, _, _, _, _, _, _, _, _, _, _, rfl, _⟩ := h; rfl) | (obtain ⟨_, _, _, _, _, _, _, _, _, _, _, _, _, rfl, _⟩ := h; rfl) | (obtain ⟨_, _, _, _, _, _, _, _, _, _, _, _, _, _, rfl, _⟩ := h; rfl) | (obtain ⟨_, _, _, _, _, _, _, _, _, _, _, _, _, _, _, rfl, _⟩ := h; rfl)
  · refine ⟨_, (pss_cons (ps_set (i := 3) sc_Train_sell.nd rfl (Or.inl rfl) (pe_m (m_Train_row T) hr (pr (takes_of rfl rfl rfl rfl)) (pv 0) (pa_cons (pv 1) (pa_cons (pv 2) pa_nil))))
      (pss_cons (ps_expr (pe_m (m_Train_take T) hr pz (pv 0) (pa_cons (fld_k K (pv 0) rfl) (pa_cons (pv 3) pa_nil))))
      (pss_cons (ps_fld (pv 0) (pe_op op_add (fld_k K (pv 0) rfl) pe_int) rfl)
      (pss_one (ps_ret (pe_op op_sub (fld_k K (pv 0) rfl) pe_int)))))), ?_⟩
    obtain ⟨S, p, T0, b, e, rfl, A0, hb, hlen, q1, q2, q3⟩ := h
    obtain ⟨dx, r, d, hp⟩ := A0.ins
    refine ⟨_, rfl, p, _, _, rfl, hp, nf_row, _, rfl, _, rfl, S, p, T0, b, e, rfl, A0, fun hs hn H2 l e2 hl hP => ?_, q2, q3⟩
    obtain ⟨S0, hS0, A1⟩ := A0.there
    have A2 := A1.ex e2
    have hnl : ¬ S0 l := fun z => by
      obtain ⟨_, o, ho⟩ := hS0 l z
      rw [ho] at hl
      cases hl
    have hval : Valid T0 (found T0.rows b.toNat e.toNat) := fun x m => by
      have := found_valid _ _ (Nat.le_refl _) x m
      have h3 := hs.2.2
      omega
    obtain ⟨dx, r, d, hp2⟩ := A2.ins
    refine ⟨_, rfl, p, _, _, rfl, hp2, nf_take, _, rfl, p, _, dx, _, _, rfl, hp2, (T.cls 15), (T.noat 19), lk_coming, _, rfl, S0, p, T0, T0.coming, l, _, rfl, A2, hP, hnl, hval, hlen, .inr hb, fun H3 k3 t3 A3 => ?_⟩
    obtain ⟨dx, r, d, hp3, nx⟩ := A3.next
    refine ⟨_, rfl, p, _, dx, _, _, rfl, hp3, (T.cls 15), (T.noat 19), lk_coming, _, _, rfl, rfl, _, rfl, p, _, dx, _, rfl, hp3, (T.cls 15), (T.noat 19), (by show 4 < 1000; decide), ?_⟩
    have ec : putF "coming" (.int ((T0.coming : Int) + 1)) (trF T0.stops r d T0.coming) = trF T0.stops r d (T0.coming + 1) := put_coming
    obtain ⟨mv4, A4⟩ := nx (T0.coming + 1)
    refine ⟨_, rfl, p, _, dx, _, _, rfl, by rw [upd_same]; exact congrArg (fun z => some (HO.ins (He.ga K "Train") dx z)) ec, (T.cls 15), (T.noat 19), lk_coming, _, _, rfl, rfl, ?_⟩
    have e1 : ((T0.coming + 1 : Nat) : Int) - 1 = (T0.coming : Int) := by omega
    show Q (.int (((T0.coming + 1 : Nat) : Int) - 1)) (upd H3 p (.ins (He.ga K "Train") dx (putF "coming" (.int ((T0.coming : Int) + 1)) (trF T0.stops r d T0.coming))))
    rw [e1, ec]
    refine q1 hs hn _ (fun a => S0 a ∨ a = l) (Mv.mk (fun a o na ha => ?_) (fun a xs ha => ?_) fun a ha => ?_) A4
    · have na0 : ¬ S0 a := fun z => na (hS0 a z).1
      have h2 := e2 a o ha
      have hal : a ≠ l := ne_of_none ha hl
      exact mv4.keep a o (fun z => z.elim na0 hal) (k3 a o na0 h2)
    · exact mv4.tups a xs (t3 a xs (e2 a _ ha))
    · rcases ha with ha | ha
      · exact .inl (hS0 a ha).1
      · rw [ha]
        exact .inr hl
theorem sc_Train_parts : FnScope ["self", "ticket"] ["self", "ticket"] (defScope s_Train_parts) := ⟨rfl, rfl, rfl, by decide +kernel, rfl, by decide +kernel, by decide +kernel⟩
theorem m_Train_parts (T : Tx K mg) : Met P w K mg base 1 (He.ga K "Train") "parts" (spParts K) := by
  refine T.met 21 52 15 rfl rfl rfl sc_Train_parts (fun _ _ _ _ _ _ us hl => match us, hl with | [_, _], _ => rfl) (fun vs H Q E h => ?_) fun cdv A outer s H vs Q E hr h => ?_
  · first | (obtain ⟨_, rfl, _⟩ := h; rfl) | (obtain ⟨_, _, rfl, _⟩ := h; rfl) | (obtain ⟨_, _, _, rfl, _⟩ := h; rfl) | (obtain ⟨_, _, _, _, rfl, _⟩ := h; rfl) | (obtain ⟨_, _, _, _, _, rfl, _⟩ := h; rfl) | (obtain ⟨_, _, _, _, _, _, rfl, _⟩ := h; rfl) | (obtain ⟨_, _, _, _, _, _, _, rfl, _⟩ := h; rfl) | (obtain ⟨_, _, _, _, _, _, _, _, rfl, _⟩ := h; rfl) | (obtain ⟨_, _, _, _, _, _, _, _, _, rfl, _⟩ := h; rfl) | (obtain ⟨_, _, _, _, _, _, _, _, _, _, rfl, _⟩ := h; rfl) | (obtain ⟨_, _, _, _, _, _, _, _, _, _, _, rfl, _⟩ := h; rfl) | (obtain ⟨_, _, _, _, _, _, _, _, _, _, _, _, rfl, _⟩ := h; rfl) | (obtain ⟨_, _, _, _, _, _, _, _, _, _, _, _, _, rfl, _⟩ := h; rfl) | (obtain ⟨_, _, _, _, _, _, _, _, _, _, _, _, _, _, rfl, _⟩ := h; rfl) | (obtain ⟨_, _, _, _, _, _, _, _, _, _, _, _, _, _, _, rfl, _⟩ := h; rfl)
  · refine ⟨_, (pss_cons (ps_if (pt_cmp (pc_dnotin (hu_of hr) (pv 1) (fld_k K (pv 0) rfl)))
        (pss_one (ps_raise rfl (takes_of rfl rfl rfl rfl) (pmk_x T 48 49 rfl rfl)))
        pss_nil)
      (pss_one (ps_ret (pe_callTy (list_k K) (by rfl) (T.free 51) (by decide +kernel) (pa_cons (pe_dget (hu_of hr) (fld_k K (pv 0) rfl) (pv 1) (fun _ _ => rfl)) pa_nil))))), ?_⟩
    obtain ⟨S, p, T0, t, rfl, A0, q1, q2⟩ := h
    obtain ⟨r, d, as, ent, R, z⟩ := id A0
    obtain ⟨dx, hp⟩ := R.ins
    have hg : getS T0.sold t = (ent.find? fun x => decide ((x.1 : Int) = t)).map fun x => x.2.2 := by rw [R.sold, entS_get]
    refine ⟨_, rfl, _, rfl, p, _, dx, _, _, rfl, hp, (T.cls 15), (T.noat 18), lk_sold, d, _, rfl, DGet.k (k := Sum.inl t) R.dict, _, rfl, ?_⟩
    rw [entD_get]
    cases ef : ent.find? fun x => decide ((x.1 : Int) = t) with
    | none =>
      rw [ef] at hg
      exact iteT (q2 hg)
    | some x =>
      rw [ef] at hg
      obtain ⟨mx, ex⟩ := find_some ef
      obtain ⟨ts, hl, hP⟩ := R.prt x mx
      refine iteF ?_
      refine ⟨_, rfl, p, _, dx, _, _, rfl, hp, (T.cls 15), (T.noat 18), lk_sold, _, rfl, d, .ref x.2.1, rfl, ?_, x.2.1, _, rfl, .inl (SqL.of hl), fun l hl2 => ?_⟩
      · have := DGet.k (k := Sum.inl t) R.dict
        rw [entD_get, ef] at this
        exact this
      · have en := Evl.Ex.new (o := .lst (ts.map V.ref)) hl2
        exact q1 _ hg _ l en hl2 ⟨ts, upd_same, hP.mono fun _ _ z => en _ _ z⟩
theorem sc_Train_back : FnScope ["self", "ticket", "parts"] ["self", "ticket"] (defScope s_Train_back) := ⟨rfl, rfl, rfl, by decide +kernel, rfl, by decide +kernel, by decide +kernel⟩
theorem m_Train_back (T : Tx K mg) : Met P w K mg base 2 (He.ga K "Train") "back" (spBack K) := by
  refine T.met 22 53 15 rfl rfl rfl sc_Train_back (fun _ _ _ _ _ _ us hl => match us, hl with | [_, _], _ => rfl) (fun vs H Q E h => ?_) fun cdv A outer s H vs Q E hr h => ?_
  · first | (obtain ⟨_, rfl, _⟩ := h; rfl) | (obtain ⟨_, _, rfl, _⟩ := h; rfl) | (obtain ⟨_, _, _, rfl, _⟩ := h; rfl) | (obtain ⟨_, _, _, _, rfl, _⟩ := h; rfl) | (obtain ⟨_, _, _, _, _, rfl, _⟩ := h; rfl) | (obtain ⟨_, _, _, _, _, _, rfl, _⟩ := h; rfl) | (obtain ⟨_, _, _, _, _, _, _, rfl, _⟩ := h; rfl) | (obtain ⟨_, _, _, _, _, _, _, _, rfl, _⟩ := h; rfl) | (obtain ⟨_, _, _, _, _, _, _, _, _, rfl, _⟩ := h; rfl) | (obtain ⟨_, _, _, _, _, _, _, _, _, _, rfl, _⟩ := h; rfl) | (obtain ⟨_, _, _, _, _, _, _, _, _, _, _, rfl, _⟩ := h; rfl) | (obtain ⟨_, _, _, _, _, _, _, _, _, _, _, _, rfl, _⟩ := h; rfl) | (obtain ⟨_, _, _, _, _, _, _, _, _, _, _, _, _, rfl, _⟩ := h; rfl) | (obtain ⟨_, _, _, _, _, _, _, _, _, _, _, _, _, _, rfl, _⟩ := h; rfl) | (obtain ⟨_, _, _, _, _, _, _, _, _, _, _, _, _, _, _, rfl, _⟩ := h; rfl)
  · refine ⟨_, (pss_cons (ps_set (i := 2) sc_Train_back.nd rfl (Or.inl rfl) (pe_m (m_Train_parts T) hr (pr (takes_of rfl rfl rfl rfl)) (pv 0) (pa_cons (pv 1) pa_nil)))
      (pss_cons (ps_expr (pe_m (m_Train_mark T) hr pz (pv 0) (pa_cons (pv 2) (pa_cons pe_non pa_nil))))
      (pss_cons (ps_expr (pe_dpop1 (fld_k K (pv 0) rfl) (pv 1) ⟨by rfl, by rfl, by rfl, by rfl⟩))
      (pss_one (ps_ret (pv 2)))))), ?_⟩
    obtain ⟨S, p, T0, t, rfl, A0, G, D⟩ := h
    obtain ⟨dx, r, d, hp⟩ := A0.ins
    unfold runBack at D
    refine ⟨_, rfl, p, _, _, rfl, hp, nf_parts, _, rfl, S, p, T0, t, rfl, A0, fun ps hps H1 l e1 hl hP => ?_, fun hn => ?_⟩
    rotate_left
    · rw [hn] at D
      exact D.ticket rfl H (Evl.Ex.refl H)
    rw [hps] at D
    obtain ⟨n, rfl, mn⟩ := getS_mem hps
    obtain ⟨b, e, hb, he, w⟩ := G.way _ mn
    obtain ⟨S0, hS0, A1⟩ := A0.there
    have A2 := A1.ex e1
    have hnl : ¬ S0 l := fun z => by
      obtain ⟨_, o, ho⟩ := hS0 l z
      rw [ho] at hl
      cases hl
    obtain ⟨dx, r, d, hp2⟩ := A2.ins
    refine ⟨_, rfl, p, _, _, rfl, hp2, nf_mark, _, rfl, S0, p, T0, l, ps, none, rfl, A2, hP, w.valid he, fun H3 mv3 hl3 A3 => ?_⟩
    obtain ⟨dx, r, d, ent, hp3, hd3, hs3, nx⟩ := A3.drop
    obtain ⟨mv4, A4⟩ := nx n
    have hps3 : valV (entD ent) (Sum.inl (n : Int)) ≠ none := fun z => by
      rw [entD_get] at z
      have h2 : getS T0.sold (n : Int) = (ent.find? fun x => decide ((x.1 : Int) = n)).map fun x => x.2.2 := by
        rw [show T0.sold = entS ent from hs3, entS_get]
      rw [h2] at hps
      cases ef : ent.find? fun x => decide ((x.1 : Int) = n) with
      | none =>
        rw [ef] at hps
        cases hps
      | some x =>
        rw [ef] at z
        cases z
    obtain ⟨v, hv⟩ := Option.ne_none_iff_exists'.mp hps3
    refine ⟨_, rfl, p, _, dx, _, _, rfl, hp3, (T.cls 15), (T.noat 18), lk_sold, d, rfl, .inl ⟨_, .inl hd3⟩, _, rfl, entD ent, Sum.inl (n : Int), v, hd3, rfl, hv, ?_⟩
    refine ⟨_, rfl, D.ok rfl _ S0 _ ⟨fun a o na ha => ?_, fun a xs ha => mv4.tups _ _ (mv3.tups _ _ (e1 _ _ ha)), fun a z => .inl (hS0 a z).1⟩ A4 ⟨l, rfl, .inr hl, hnl, ?_⟩⟩
    · have na0 : ¬ S0 a := fun z => na (hS0 a z).1
      exact mv4.keep a o na0 (mv3.keep a o na0 (e1 _ _ ha))
    · obtain ⟨ts, q1, q2⟩ := hP
      have hl4 : H3 l = some (.lst (ts.map V.ref)) := by rw [hl3]; exact q1
      exact ⟨ts, mv4.keep _ _ hnl hl4, q2.mono fun u q z => mv4.tups _ _ (mv3.tups _ _ z)⟩
theorem sc_Train_leave : FnScope ["self", "ticket", "stop", "parts", "kept", "gone", "part"] ["self", "ticket", "stop"] (defScope s_Train_leave) := ⟨rfl, rfl, rfl, by decide +kernel, rfl, by decide +kernel, by decide +kernel⟩
theorem m_Train_leave (T : Tx K mg) : Met P w K mg base 2 (He.ga K "Train") "leave" (spLeave K) := by
  refine T.met 23 57 15 rfl rfl rfl sc_Train_leave (fun _ _ _ _ _ _ us hl => match us, hl with | [_, _, _], _ => rfl) (fun vs H Q E h => ?_) fun cdv A outer s H vs Q E hr h => ?_
  · first | (obtain ⟨_, rfl, _⟩ := h; rfl) | (obtain ⟨_, _, rfl, _⟩ := h; rfl) | (obtain ⟨_, _, _, rfl, _⟩ := h; rfl) | (obtain ⟨_, _, _, _, rfl, _⟩ := h; rfl) | (obtain ⟨_, _, _, _, _, rfl, _⟩ := h; rfl) | (obtain ⟨_, _, _, _, _, _, rfl, _⟩ := h; rfl) | (obtain ⟨_, _, _, _, _, _, _, rfl, _⟩ := h; rfl) | (obtain ⟨_, _, _, _, _, _, _, _, rfl, _⟩ := h; rfl) | (obtain ⟨_, _, _, _, _, _, _, _, _, rfl, _⟩ := h; rfl) | (obtain ⟨_, _, _, _, _, _, _, _, _, _, rfl, _⟩ := h; rfl) | (obtain ⟨_, _, _, _, _, _, _, _, _, _, _, rfl, _⟩ := h; rfl) | (obtain ⟨_, _, _, _, _, _, _, _, _, _, _, _, rfl, _⟩ := h; rfl) | (obtain ⟨_, _, _, _, _, _, _, _, _, _, _, _, _, rfl, _⟩ := h; rfl) | (obtain ⟨_, _, _, _, _, _, _, _, _, _, _, _, _, _, rfl, _⟩ := h; rfl) | (obtain ⟨_, _, _, _, _, _, _, _, _, _, _, _, _, _, _, rfl, _⟩ := h; rfl)
  · refine ⟨_, (pss_cons (ps_set (i := 3) sc_Train_leave.nd rfl (Or.inl rfl) (pe_m (m_Train_parts T) hr (pr (takes_of rfl rfl rfl rfl)) (pv 0) (pa_cons (pv 1) pa_nil)))
      (pss_cons (ps_if (pt_not (pt_chain op_lt op_lt (pe_ix (ix_t K) (pe_ix (ix_l K) (pv 3) pe_int (fun _ _ => rfl)) pe_int (fun _ _ => rfl)) (pv 2) (pe_ix (ix_t K) (pe_ix (ix_l K) (pv 3) (pe_un un_neg pe_int) (fun _ _ => rfl)) pe_int (fun _ _ => rfl))))
        (pss_one (ps_raise rfl (takes_of rfl rfl rfl rfl) (pmk_x T 54 55 rfl rfl)))
        pss_nil)
      (pss_cons (ps_setLc (i := 4) (own := [("part", 6)]) (g := gName 6)  rfl sc_Train_leave.nd rfl rfl (sw_true rfl rfl rfl (by decide +kernel)) (pi_l K (pv 3)) (blkOk_by (N := ["self", "ticket", "stop", "parts", "kept", "gone", "part"]) (sc := defScope s_Train_leave) (by decide +kernel)) (fun _ _ _ _ _ => pg_name (i := 6) sc_Train_leave.nd rfl (Or.inl rfl)) (fun _ _ _ _ _ => (pts_one (pt_cmpR op_lt (pe_ix (ix_t K) (pv 6) pe_int (fun _ _ => rfl)) (pv 2) (nomark _)))) (fun _ _ _ _ _ => (pe_tup (pa_cons (pe_ix (ix_t K) (pv 6) pe_int (fun _ _ => rfl)) (pa_cons (pe_ix (ix_t K) (pv 6) pe_int (fun _ _ => rfl)) (pa_cons (pe_callB (call_min2 rfl) (by rfl) (T.free 26) (by decide +kernel) (pa_cons (pe_ix (ix_t K) (pv 6) pe_int (fun _ _ => rfl)) (pa_cons (pv 2) pa_nil))) pa_nil))))))
      (pss_cons (ps_setLc (i := 5) (own := [("part", 6)]) (g := gName 6)  rfl sc_Train_leave.nd rfl rfl (sw_true rfl rfl rfl (by decide +kernel)) (pi_l K (pv 3)) (blkOk_by (N := ["self", "ticket", "stop", "parts", "kept", "gone", "part"]) (sc := defScope s_Train_leave) (by decide +kernel)) (fun _ _ _ _ _ => pg_name (i := 6) sc_Train_leave.nd rfl (Or.inl rfl)) (fun _ _ _ _ _ => (pts_one (pt_cmpR op_gt (pe_ix (ix_t K) (pv 6) pe_int (fun _ _ => rfl)) (pv 2) (nomark _)))) (fun _ _ _ _ _ => (pe_tup (pa_cons (pe_ix (ix_t K) (pv 6) pe_int (fun _ _ => rfl)) (pa_cons (pe_callB (call_max2 rfl) (by rfl) (T.free 24) (by decide +kernel) (pa_cons (pe_ix (ix_t K) (pv 6) pe_int (fun _ _ => rfl)) (pa_cons (pv 2) pa_nil))) (pa_cons (pe_ix (ix_t K) (pv 6) pe_int (fun _ _ => rfl)) pa_nil))))))
      (pss_cons (ps_expr (pe_m (m_Train_mark T) hr pz (pv 0) (pa_cons (pv 5) (pa_cons pe_non pa_nil))))
      (pss_cons (ps_dput (hu_of hr) (fld_k K (pv 0) rfl) (pv 1) (pv 4) rfl)
      (pss_one (ps_ret (pv 5))))))))), ?_⟩
    obtain ⟨S, p, T0, t, c, rfl, A0, G, few, D⟩ := h
    obtain ⟨dx, r, d, hp⟩ := A0.ins
    unfold runLeave at D
    refine ⟨_, rfl, p, _, _, rfl, hp, nf_parts, _, rfl, S, p, T0, t, rfl, A0, fun ps hps H1 l e1 hl hP => ?_, fun hn => ?_⟩
    rotate_left
    · rw [hn] at D
      exact D.ticket rfl H (Evl.Ex.refl H)
    rw [hps] at D
    dsimp only at D
    obtain ⟨n, rfl, mn⟩ := getS_mem hps
    obtain ⟨b, e, hb, he, w⟩ := G.way _ mn
    dsimp only at w
    have wf := G.wf
    have w2 := wf.t2
    have hlen0 : T0.sold.length < 1000000 := Nat.lt_of_le_of_lt G.many few
    have hpl : ps.length ≤ 100000 := by
      have := w.len
      omega
    have hne := w.ne hb
    obtain ⟨eb, ee⟩ := w.hd hb
    obtain ⟨ts, hl1, hP1⟩ := hP
    obtain ⟨t0, t1, at0, at1, g0, g1⟩ := parts_ends hl1 hP1 hne
    refine ⟨_, rfl, l, _, _, .ref t0, rfl, rfl, SqL.of hl1, at0, t0, _, _, _, rfl, rfl, SqT.of g0, at_of (j := 1) rfl rfl, _, rfl, _, _, rfl, rfl, _, rfl, ?_⟩
    refine iteD (fun h1 => ?_) (fun h1 => ?_)
    rotate_left
    · rw [if_neg (fun z => h1 z.1)] at D
      exact ⟨_, rfl, iteT (D.stop rfl H1 e1)⟩
    refine ⟨_, rfl, _, rfl, l, _, _, .ref t1, rfl, rfl, SqL.of hl1, at1, t1, _, _, _, rfl, rfl, SqT.of g1, at_of (j := 2) rfl rfl, _, _, rfl, rfl, _, rfl, ?_⟩
    refine iteN (fun h2 => ?_) (fun h2 => ?_)
    · rw [if_neg (fun z => h2 z.2)] at D
      exact D.stop rfl H1 e1
    rw [if_pos ⟨h1, h2⟩] at D
    have hc : (c.toNat : Int) = c := by omega
    refine ⟨_, rfl, l, rfl, ⟨_, SqL.of hl1⟩, fun D1 f1 => ?_⟩
    refine lc_parts f1 hl1 hP1 hpl (fun q => decide (q.2.1 < c.toNat)) (fun q => (q.1, q.2.1, min q.2.2 c.toNat)) (fun _ => rfl) (fun q t H2 mq e2 hq Q2 k => ?_) (fun q t H2 mq hf e2 hq Q2 k => ?_) ?_
    · refine ⟨_, rfl, t, _, _, _, rfl, rfl, SqT.of hq, at_of (j := 1) rfl rfl, _, rfl, _, _, rfl, rfl, _, rfl, ?_⟩
      have : decide ((q.2.1 : Int) < c) = decide (q.2.1 < c.toNat) := decide_eq_decide.mpr (by omega)
      rw [this]
      exact k
    · refine ⟨_, rfl, t, _, _, _, rfl, rfl, SqT.of hq, at_of (j := 0) rfl rfl, _, rfl, t, _, _, _, rfl, rfl, SqT.of hq, at_of (j := 1) rfl rfl, _, rfl, t, _, _, _, rfl, rfl, SqT.of hq, at_of (j := 2) rfl rfl, _, rfl, _, _, rfl, ?_⟩
      have hm : (if c < (q.2.2 : Int) then c else (q.2.2 : Int)) = ((min q.2.2 c.toNat : Nat) : Int) := by split <;> omega
      rw [hm]
      exact ⟨by show 3 ≤ sizeLine; decide, fun a ha => k a ha⟩
    intro H2 e2 PK
    have hl2 := e2 _ _ hl1
    have hP2 : All2 (PartAt H2) ts ps := hP1.mono fun _ _ z => e2 _ _ z
    refine ⟨_, rfl, l, rfl, ⟨_, SqL.of hl2⟩, fun D2 f2 => ?_⟩
    refine lc_parts f2 hl2 hP2 hpl (fun q => decide (c.toNat < q.2.2)) (fun q => (q.1, max q.2.1 c.toNat, q.2.2)) (fun _ => rfl) (fun q t H2 mq e2 hq Q2 k => ?_) (fun q t H2 mq hf e2 hq Q2 k => ?_) ?_
    · refine ⟨_, rfl, t, _, _, _, rfl, rfl, SqT.of hq, at_of (j := 2) rfl rfl, _, rfl, _, _, rfl, rfl, _, rfl, ?_⟩
      have : decide ((q.2.2 : Int) > c) = decide (c.toNat < q.2.2) := decide_eq_decide.mpr (by omega)
      rw [this]
      exact k
    · refine ⟨_, rfl, t, _, _, _, rfl, rfl, SqT.of hq, at_of (j := 0) rfl rfl, _, rfl, t, _, _, _, rfl, rfl, SqT.of hq, at_of (j := 1) rfl rfl, _, rfl, _, _, rfl, ?_⟩
      have hm : (if c > (q.2.1 : Int) then c else (q.2.1 : Int)) = ((max q.2.1 c.toNat : Nat) : Int) := by split <;> omega
      rw [hm]
      exact ⟨_, rfl, t, _, _, _, rfl, rfl, SqT.of hq, at_of (j := 2) rfl rfl, by show 3 ≤ sizeLine; decide, fun a ha => k a ha⟩
    intro H3 e3 PG
    obtain ⟨S0, hS0, B0⟩ := A0.there
    have B3 := ((B0.ex e1).ex e2).ex e3
    have E3 : Ex H H3 := e1.trans (e2.trans e3)
    have f1H : H D1 = none := Evl.fresh_back e1 f1
    have f2H : H D2 = none := Evl.fresh_back (e1.trans e2) f2
    have nS : ∀ a, H a = none → ¬ S0 a := fun a ha z => by
      obtain ⟨_, o, ho⟩ := hS0 a z
      rw [ho] at ha
      cases ha
    have wg := gone_way w (s := c.toNat) (by omega) (by omega)
    obtain ⟨dx, r, d, hp3⟩ := B3.ins
    refine ⟨_, rfl, p, _, _, rfl, hp3, nf_mark, _, rfl, S0, p, T0, D2, goneP ps c.toNat, none, rfl, B3, PG, wg.valid he, fun H4 mv4 hl4 B4 => ?_⟩
    obtain ⟨r, d, as, ent, R, sp, sr, sd, sa, sl⟩ := id B4
    obtain ⟨dx, hp4⟩ := R.ins
    have hel : (entD ent).length < sizeLine := by
      have : (entD ent).length = T0.sold.length := by
        rw [show T0.sold = _ from R.sold]
        unfold entD entS
        rw [List.length_map, List.length_map]
      rw [this]
      exact Nat.lt_trans hlen0 (by decide)
    obtain ⟨us, hk3, hK3⟩ := PK.mono e3
    have hk4 : H4 D1 = some (.lst (us.map V.ref)) := mv4.keep _ _ (nS _ f1H) hk3
    have R2 := R.put n D1 (keptP ps c.toNat) (nS _ f1H) sd (fun m => sa D1 m) (.inl ⟨_, mn, rfl⟩) hk4 (hK3.mono fun _ _ z => mv4.tups _ _ z)
    refine ⟨_, rfl, _, rfl, p, _, dx, _, _, rfl, hp4, (T.cls 15), (T.noat 18), lk_sold, _, rfl, d, _, rfl, DPut.k (k := Sum.inl (n : Int)) R.dict hel, ?_⟩
    refine ⟨_, rfl, D.ok rfl _ (fun a => S0 a ∨ a = D1) _ ⟨fun a o na ha => ?_, fun a xs ha => ?_, fun a z => ?_⟩ ⟨r, d, as, _, R2, .inl sp, .inl sr, .inl sd, fun a m => .inl (sa a m), fun x m => ent_in (Z := fun a => S0 a ∨ a = D1) m (fun y my => .inl (sl y my)) (.inr rfl)⟩ ⟨D2, rfl, .inr f2H, fun z => ?_, ?_⟩⟩
    · have na0 : ¬ S0 a := fun z => na (hS0 a z).1
      have had : a ≠ d := fun z => na0 (by rw [z]; exact sd)
      rw [upd_ne had]
      exact mv4.keep a o na0 (E3 _ _ ha)
    · have := mv4.tups a xs (E3 _ _ ha)
      rw [upd_ne (ne_of this R.dict (fun z => by cases z))]
      exact this
    · rcases z with z | z
      · exact .inl (hS0 a z).1
      · rw [z]
        exact .inr f1H
    · rcases z with z | z
      · exact nS _ f2H z
      · obtain ⟨vs, hv, _⟩ := PK
        rw [z, hv] at f2
        cases f2
    · obtain ⟨vs, q1, q2⟩ := PG
      have hg4 : H4 D2 = some (.lst (vs.map V.ref)) := by rw [hl4]; exact q1
      refine ⟨vs, ?_, q2.mono fun u q z => ?_⟩
      · rw [upd_ne (ne_of hg4 R.dict (fun z => by cases z))]
        exact hg4
      · have z2 : H4 u = some (.tup (pV q)) := mv4.tups _ _ z
        show upd H4 d _ u = _
        rw [upd_ne (ne_of z2 R.dict (fun z => by cases z))]
        exact z2
theorem sc_Train_reseat : FnScope ["self", "ticket", "parts"] ["self", "ticket"] (defScope s_Train_reseat) := ⟨rfl, rfl, rfl, by decide +kernel, rfl, by decide +kernel, by decide +kernel⟩
theorem m_Train_reseat (T : Tx K mg) : Met P w K mg base 4 (He.ga K "Train") "reseat" (spReseat K) := by
  refine T.met 24 58 15 rfl rfl rfl sc_Train_reseat (fun _ _ _ _ _ _ us hl => match us, hl with | [_, _], _ => rfl) (fun vs H Q E h => ?_) fun cdv A outer s H vs Q E hr h => ?_
  · first | (obtain ⟨_, rfl, _⟩ := h; rfl) | (obtain ⟨_, _, rfl, _⟩ := h; rfl) | (obtain ⟨_, _, _, rfl, _⟩ := h; rfl) | (obtain ⟨_, _, _, _, rfl, _⟩ := h; rfl) | (obtain ⟨_, _, _, _, _, rfl, _⟩ := h; rfl) | (obtain ⟨_, _, _, _, _, _, rfl, _⟩ := h; rfl) | (obtain ⟨_, _, _, _, _, _, _, rfl, _⟩ := h; rfl) | (obtain ⟨_, _, _, _, _, _, _, _, rfl, _⟩ := h; rfl) | (obtain ⟨_, _, _, _, _, _, _, _, _, rfl, _⟩ := h; rfl) | (obtain ⟨_, _, _, _, _, _, _, _, _, _, rfl, _⟩ := h; rfl) | (obtain ⟨_, _, _, _, _, _, _, _, _, _, _, rfl, _⟩ := h; rfl) | (obtain ⟨_, _, _, _, _, _, _, _, _, _, _, _, rfl, _⟩ := h; rfl) | (obtain ⟨_, _, _, _, _, _, _, _, _, _, _, _, _, rfl, _⟩ := h; rfl) | (obtain ⟨_, _, _, _, _, _, _, _, _, _, _, _, _, _, rfl, _⟩ := h; rfl) | (obtain ⟨_, _, _, _, _, _, _, _, _, _, _, _, _, _, _, rfl, _⟩ := h; rfl)
  · refine ⟨_, (pss_cons (ps_set (i := 2) sc_Train_reseat.nd rfl (Or.inl rfl) (pe_m (m_Train_parts T) hr (pr (takes_of rfl rfl rfl rfl)) (pv 0) (pa_cons (pv 1) pa_nil)))
      (pss_cons (ps_expr (pe_m (m_Train_mark T) hr pz (pv 0) (pa_cons (pv 2) (pa_cons pe_non pa_nil))))
      (pss_cons (ps_expr (pe_m (m_Train_take T) hr pz (pv 0) (pa_cons (pv 1) (pa_cons (pe_c (c_found_parts T) hr pz (pa_cons (fld_k K (pv 0) rfl) (pa_cons (pe_ix (ix_t K) (pe_ix (ix_l K) (pv 2) pe_int (fun _ _ => rfl)) pe_int (fun _ _ => rfl)) (pa_cons (pe_ix (ix_t K) (pe_ix (ix_l K) (pv 2) (pe_un un_neg pe_int) (fun _ _ => rfl)) pe_int (fun _ _ => rfl)) pa_nil)))) pa_nil))))
      (pss_one (ps_ret (pe_m (m_Train_parts T) hr (pr (takes_of rfl rfl rfl rfl)) (pv 0) (pa_cons (pv 1) pa_nil))))))), ?_⟩
    obtain ⟨S, p, T0, t, rfl, A0, G, few, D⟩ := h
    obtain ⟨dx, r, d, hp⟩ := A0.ins
    unfold runReseat at D
    refine ⟨_, rfl, p, _, _, rfl, hp, nf_parts, _, rfl, S, p, T0, t, rfl, A0, fun ps hps H1 l e1 hl hP => ?_, fun hn => ?_⟩
    rotate_left
    · rw [hn] at D
      exact D.ticket rfl H (Evl.Ex.refl H)
    rw [hps] at D
    dsimp only at D
    obtain ⟨n, rfl, mn⟩ := getS_mem hps
    obtain ⟨b, e, hb, he, w⟩ := G.way _ mn
    dsimp only at w
    have wf := G.wf
    have w2 := wf.t2
    have hlen0 : T0.sold.length < 1000000 := Nat.lt_of_le_of_lt G.many few
    have hne := w.ne hb
    obtain ⟨eb, ee⟩ := w.hd hb
    obtain ⟨en, wn, fr⟩ := newP_way wf w hb he
    have Gn := G.reseat mn
    obtain ⟨S0, hS0, B0⟩ := A0.there
    have B1 := B0.ex e1
    have nS : ∀ a, H a = none → ¬ S0 a := fun a ha z => by
      obtain ⟨_, o, ho⟩ := hS0 a z
      rw [ho] at ha
      cases ha
    obtain ⟨dx, r, d, hp1⟩ := B1.ins
    refine ⟨_, rfl, p, _, _, rfl, hp1, nf_mark, _, rfl, S0, p, T0, l, ps, none, rfl, B1, hP, w.valid he, fun H2 mv2 hl2 B2 => ?_⟩
    obtain ⟨ts, hl1, hP1⟩ := hP
    rw [hl1] at hl2
    obtain ⟨t0, t1, at0, at1, g0, g1⟩ := parts_ends hl2 (hP1.mono fun _ _ z => mv2.tups _ _ z) hne
    obtain ⟨S1, hS1, C2⟩ := B2.there
    obtain ⟨r, d, as, ent, R, z0⟩ := id C2
    obtain ⟨dx, hp2⟩ := R.ins
    refine ⟨_, rfl, p, _, _, rfl, hp2, nf_take, _, rfl, _, rfl, p, _, dx, _, _, rfl, hp2, (T.cls 15), (T.noat 17), lk_rows, _, rfl, l, _, _, .ref t0, rfl, rfl, SqL.of hl2, at0, t0, _, _, _, rfl, rfl, SqT.of g0, at_of (j := 1) rfl rfl, _, rfl, _, rfl, l, _, _, .ref t1, rfl, rfl, SqL.of hl2, at1, t1, _, _, _, rfl, rfl, SqT.of g1, at_of (j := 2) rfl rfl, r, as, _, (hdP ps).2.1, (ltP ps).2.2, rfl, R.grid, by omega, fun H3 l3 e3 hl3 P3 => ?_⟩
    have C3 := C2.ex e3
    have nS1 : ∀ a, H2 a = none → ¬ S1 a := fun a ha z => by
      obtain ⟨_, o, ho⟩ := hS1 a z
      rw [ho] at ha
      cases ha
    have to2 : ∀ a o, ¬ S0 a → H a = some o → H2 a = some o := fun a o na ha => mv2.keep a o na (e1 _ _ ha)
    have back2 : ∀ a, H2 a = none → S a ∨ H a = none := fun a ha => by
      by_cases c : S0 a
      · exact .inl (hS0 a c).1
      · cases ho : H a with
        | none => exact .inr rfl
        | some o =>
          rw [to2 a o c ho] at ha
          cases ha
    have vn : Valid (T0.mark ps none) (newP T0 ps) := fun q mq => by
      have := wn.valid he q mq
      refine ⟨?_, this.2⟩
      show _ < (markAll _ _ _).length
      rw [markAll_len]
      exact this.1
    refine ⟨S1, p, T0.mark ps none, n, l3, newP T0 ps, rfl, C3, P3, nS1 _ hl3, vn, hlen0, .inl ⟨_, mn, rfl⟩, fun H4 k4 t4 C4 => ?_⟩
    have eT : (T0.mark ps none).take n (newP T0 ps) = T0.reseat n ps := rfl
    rw [eT] at C4
    obtain ⟨S2, hS2, D4⟩ := C4.there
    obtain ⟨dx, r, d, hp4⟩ := D4.ins
    have hg : getS (T0.reseat n ps).sold (n : Int) = some (newP T0 ps) := getS_putS Gn.wf.rising
    refine ⟨_, rfl, p, _, _, rfl, hp4, nf_parts, _, rfl, S2, p, _, (n : Int), rfl, D4, fun ps5 hps5 H5 l5 e5 hl5 hP5 => ?_, fun z => (by rw [hg] at z; cases z)⟩
    rw [hg] at hps5
    cases hps5
    refine D.ok rfl H5 S2 _ ⟨fun a o na ha => ?_, fun a xs ha => ?_, fun a z => ?_⟩ (D4.ex e5) ⟨l5, rfl, ?_, fun z => ?_, hP5⟩
    · have na0 : ¬ S0 a := fun z => na (hS0 a z).1
      have na1 : ¬ S1 a := fun z => na0 (hS1 a z).1
      exact e5 _ _ (k4 a o na1 (e3 _ _ (to2 a o na0 ha)))
    · exact e5 _ _ (t4 a xs (e3 _ _ (mv2.tups a xs (e1 _ _ ha))))
    · rcases (hS2 a z).1 with z1 | z1
      · exact .inl (hS0 a (hS1 a z1).1).1
      · rw [z1]
        exact back2 l3 hl3
    · by_cases c : S0 l5
      · exact .inl (hS0 l5 c).1
      · refine .inr ?_
        cases ho : H l5 with
        | none => rfl
        | some o =>
          rw [k4 l5 o (fun z => c (hS1 l5 z).1) (e3 _ _ (to2 l5 o c ho))] at hl5
          cases hl5
    · obtain ⟨_, o, ho⟩ := hS2 l5 z
      rw [ho] at hl5
      cases hl5
theorem sc_law_told : FnScope ["_law_train", "_law_deed"] ["_law_train", "_law_deed"] (defScope s_law_told) := ⟨rfl, rfl, rfl, by decide +kernel, rfl, by decide +kernel, by decide +kernel⟩
theorem c_law_told (T : Tx K mg) : Cal P w K mg base 6 "_law_told" (spTold K) := by
  refine T.cal 25 59 rfl rfl sc_law_told (fun _ _ _ _ _ _ us hl => match us, hl with | [_, _], _ => rfl) (fun vs H Q E h => ?_) fun cdv A outer s H vs Q E hr h => ?_
  · first | (obtain ⟨_, rfl, _⟩ := h; rfl) | (obtain ⟨_, _, rfl, _⟩ := h; rfl) | (obtain ⟨_, _, _, rfl, _⟩ := h; rfl) | (obtain ⟨_, _, _, _, rfl, _⟩ := h; rfl) | (obtain ⟨_, _, _, _, _, rfl, _⟩ := h; rfl) | (obtain ⟨_, _, _, _, _, _, rfl, _⟩ := h; rfl) | (obtain ⟨_, _, _, _, _, _, _, rfl, _⟩ := h; rfl) | (obtain ⟨_, _, _, _, _, _, _, _, rfl, _⟩ := h; rfl) | (obtain ⟨_, _, _, _, _, _, _, _, _, rfl, _⟩ := h; rfl) | (obtain ⟨_, _, _, _, _, _, _, _, _, _, rfl, _⟩ := h; rfl) | (obtain ⟨_, _, _, _, _, _, _, _, _, _, _, rfl, _⟩ := h; rfl) | (obtain ⟨_, _, _, _, _, _, _, _, _, _, _, _, rfl, _⟩ := h; rfl) | (obtain ⟨_, _, _, _, _, _, _, _, _, _, _, _, _, rfl, _⟩ := h; rfl) | (obtain ⟨_, _, _, _, _, _, _, _, _, _, _, _, _, _, rfl, _⟩ := h; rfl) | (obtain ⟨_, _, _, _, _, _, _, _, _, _, _, _, _, _, _, rfl, _⟩ := h; rfl)
  · refine ⟨_, (pss_cons (ps_if (pt_cmpR op_eq (pe_ix (ix_t K) (pv 1) pe_int (fun _ _ => rfl)) pe_str (nomark _))
        (pss_one (ps_ret (pe_m (m_Train_sell T) hr (pr (takes_of rfl rfl rfl rfl)) (pv 0) (pa_cons (pe_ix (ix_t K) (pv 1) pe_int (fun _ _ => rfl)) (pa_cons (pe_ix (ix_t K) (pv 1) pe_int (fun _ _ => rfl)) pa_nil)))))
        pss_nil)
      (pss_cons (ps_if (pt_cmpR op_eq (pe_ix (ix_t K) (pv 1) pe_int (fun _ _ => rfl)) pe_str (nomark _))
        (pss_one (ps_ret (pe_m (m_Train_back T) hr (pr (takes_of rfl rfl rfl rfl)) (pv 0) (pa_cons (pe_ix (ix_t K) (pv 1) pe_int (fun _ _ => rfl)) pa_nil))))
        pss_nil)
      (pss_cons (ps_if (pt_cmpR op_eq (pe_ix (ix_t K) (pv 1) pe_int (fun _ _ => rfl)) pe_str (nomark _))
        (pss_one (ps_ret (pe_m (m_Train_leave T) hr (pr (takes_of rfl rfl rfl rfl)) (pv 0) (pa_cons (pe_ix (ix_t K) (pv 1) pe_int (fun _ _ => rfl)) (pa_cons (pe_ix (ix_t K) (pv 1) pe_int (fun _ _ => rfl)) pa_nil)))))
        pss_nil)
      (pss_one (ps_ret (pe_m (m_Train_reseat T) hr (pr (takes_of rfl rfl rfl rfl)) (pv 0) (pa_cons (pe_ix (ix_t K) (pv 1) pe_int (fun _ _ => rfl)) pa_nil))))))), ?_⟩
    obtain ⟨S, p, T0, d, ⟨k, a, b⟩, rfl, A0, G, few, hd, D⟩ := h
    have hd' : H d = some (.tup [.str k.str, .int a, .int b]) := hd
    obtain ⟨dx, r, d0, hp⟩ := A0.ins
    have hlen0 : T0.sold.length < 1000000 := Nat.lt_of_le_of_lt G.many few
    refine ⟨_, rfl, d, _, _, _, rfl, rfl, SqT.of hd', at_of (j := 0) rfl rfl, rfl, _, rfl, ?_⟩
    refine iteD (fun h1 => ?_) (fun h1 => ?_)
    · have hk : k = .sell := by
        cases k with
        | sell => rfl
        | back => exact absurd (V.str.inj h1) (by decide +kernel)
        | leave => exact absurd (V.str.inj h1) (by decide +kernel)
        | reseat => exact absurd (V.str.inj h1) (by decide +kernel)
      subst hk
      have D' : DeedSp K H S p (runSell T0 a b) Q E := D
      unfold runSell at D'
      refine ⟨_, rfl, p, _, _, rfl, hp, nf_sell, _, rfl, d, _, _, _, rfl, rfl, SqT.of hd', at_of (j := 1) rfl rfl, _, rfl, d, _, _, _, rfl, rfl, SqT.of hd', at_of (j := 2) rfl rfl, S, p, T0, a, b, rfl, A0, G.low, hlen0, fun hs hf H' S' mv A' => ?_, fun hs hf H' e => ?_, fun hb => ?_⟩
      · rw [if_pos hs, if_pos hf] at D'
        exact D'.ok rfl H' S' _ mv A' rfl
      · rw [if_pos hs, if_neg hf] at D'
        exact D'.full rfl H' e
      · rw [if_neg hb] at D'
        exact D'.stretch rfl H (Evl.Ex.refl H)
    refine ⟨_, rfl, d, _, _, _, rfl, rfl, SqT.of hd', at_of (j := 0) rfl rfl, rfl, _, rfl, ?_⟩
    refine iteD (fun h2 => ?_) (fun h2 => ?_)
    · have hk : k = .back := by
        cases k with
        | back => rfl
        | sell => exact absurd (V.str.inj h2) (by decide +kernel)
        | leave => exact absurd (V.str.inj h2) (by decide +kernel)
        | reseat => exact absurd (V.str.inj h2) (by decide +kernel)
      subst hk
      exact ⟨_, rfl, p, _, _, rfl, hp, nf_back, _, rfl, d, _, _, _, rfl, rfl, SqT.of hd', at_of (j := 1) rfl rfl, S, p, T0, a, rfl, A0, G, D⟩
    refine ⟨_, rfl, d, _, _, _, rfl, rfl, SqT.of hd', at_of (j := 0) rfl rfl, rfl, _, rfl, ?_⟩
    refine iteD (fun h3 => ?_) (fun h3 => ?_)
    · have hk : k = .leave := by
        cases k with
        | leave => rfl
        | sell => exact absurd (V.str.inj h3) (by decide +kernel)
        | back => exact absurd (V.str.inj h3) (by decide +kernel)
        | reseat => exact absurd (V.str.inj h3) (by decide +kernel)
      subst hk
      exact ⟨_, rfl, p, _, _, rfl, hp, nf_leave, _, rfl, d, _, _, _, rfl, rfl, SqT.of hd', at_of (j := 1) rfl rfl, _, rfl, d, _, _, _, rfl, rfl, SqT.of hd', at_of (j := 2) rfl rfl, S, p, T0, a, b, rfl, A0, G, few, D⟩
    have hk : k = .reseat := by
      cases k with
      | reseat => rfl
      | sell => exact absurd rfl h1
      | back => exact absurd rfl h2
      | leave => exact absurd rfl h3
    subst hk
    exact ⟨_, rfl, p, _, _, rfl, hp, nf_reseat, _, rfl, d, _, _, _, rfl, rfl, SqT.of hd', at_of (j := 1) rfl rfl, S, p, T0, a, rfl, A0, G, few, D⟩
theorem sc_law_class : FnScope ["_law_e", "_law_words"] ["_law_e"] (defScope s_law_class) := ⟨rfl, rfl, rfl, by decide +kernel, rfl, by decide +kernel, by decide +kernel⟩
theorem h_law_class (T : Tx K mg) : CalP P w K mg base 1 "_law_class" (spClass K) := by
  refine T.calP 26 65 rfl rfl sc_law_class (fun _ _ _ _ _ _ us hl => match us, hl with | [_], _ => rfl) (fun p vs H Q E h => ?_) fun cdv A outer s H vs Q p hr h => ?_
  · first | (obtain ⟨_, rfl, _⟩ := h; rfl) | (obtain ⟨_, _, rfl, _⟩ := h; rfl) | (obtain ⟨_, _, _, rfl, _⟩ := h; rfl) | (obtain ⟨_, _, _, _, rfl, _⟩ := h; rfl) | (obtain ⟨_, _, _, _, _, rfl, _⟩ := h; rfl) | (obtain ⟨_, _, _, _, _, _, rfl, _⟩ := h; rfl) | (obtain ⟨_, _, _, _, _, _, _, rfl, _⟩ := h; rfl) | (obtain ⟨_, _, _, _, _, _, _, _, rfl, _⟩ := h; rfl) | (obtain ⟨_, _, _, _, _, _, _, _, _, rfl, _⟩ := h; rfl) | (obtain ⟨_, _, _, _, _, _, _, _, _, _, rfl, _⟩ := h; rfl) | (obtain ⟨_, _, _, _, _, _, _, _, _, _, _, rfl, _⟩ := h; rfl) | (obtain ⟨_, _, _, _, _, _, _, _, _, _, _, _, rfl, _⟩ := h; rfl) | (obtain ⟨_, _, _, _, _, _, _, _, _, _, _, _, _, rfl, _⟩ := h; rfl) | (obtain ⟨_, _, _, _, _, _, _, _, _, _, _, _, _, _, rfl, _⟩ := h; rfl) | (obtain ⟨_, _, _, _, _, _, _, _, _, _, _, _, _, _, _, rfl, _⟩ := h; rfl)
  · obtain ⟨D, hD, rfl, hz, hf, q⟩ := h; obtain ⟨hC, hk, hv⟩ := excAll_ok T.x hD
    refine ⟨_, (pss_cons (ps_set (i := 1) sc_law_class.nd rfl (Or.inl rfl) (pe_lst pa_nil))
      (pss_cons (ps_if (pt_val (pe_callB (call_isP (List.mem_singleton.mpr rfl) hC hz hf) (by rfl) (T.free 1) (by decide +kernel) (pa_cons (pv 0) (pa_cons (pe_glob (v := .ref _) rfl (T.glo 12) rfl) pa_nil))))
        (pss_one (ps_expr (pe_bm PySem.F.plainAttrs_list PySem.F.slot_list_append PySem.F.type_list_append mt_append (pv 1) (pa_cons pe_str pa_nil))))
        pss_nil)
      (pss_cons (ps_if (pt_val (pe_callB (call_isP (List.mem_singleton.mpr rfl) hC hz hf) (by rfl) (T.free 1) (by decide +kernel) (pa_cons (pv 0) (pa_cons (pe_glob (v := .ref _) rfl (T.glo 34) rfl) pa_nil))))
        (pss_one (ps_expr (pe_bm PySem.F.plainAttrs_list PySem.F.slot_list_append PySem.F.type_list_append mt_append (pv 1) (pa_cons pe_str pa_nil))))
        pss_nil)
      (pss_cons (ps_if (pt_val (pe_callB (call_isP (List.mem_singleton.mpr rfl) hC hz hf) (by rfl) (T.free 1) (by decide +kernel) (pa_cons (pv 0) (pa_cons (pe_glob (v := .ref _) rfl (T.glo 60) rfl) pa_nil))))
        (pss_one (ps_expr (pe_bm PySem.F.plainAttrs_list PySem.F.slot_list_append PySem.F.type_list_append mt_append (pv 1) (pa_cons pe_str pa_nil))))
        pss_nil)
      (pss_cons (ps_if (pt_val (pe_callB (call_isP (List.mem_singleton.mpr rfl) hC hz hf) (by rfl) (T.free 1) (by decide +kernel) (pa_cons (pv 0) (pa_cons (pe_glob (v := .ref _) rfl (T.glo 55) rfl) pa_nil))))
        (pss_one (ps_expr (pe_bm PySem.F.plainAttrs_list PySem.F.slot_list_append PySem.F.type_list_append mt_append (pv 1) (pa_cons pe_str pa_nil))))
        pss_nil)
      (pss_cons (ps_if (pt_val (pe_callB (call_isP (List.mem_singleton.mpr rfl) hC hz hf) (by rfl) (T.free 1) (by decide +kernel) (pa_cons (pv 0) (pa_cons (pe_glob (v := .ref _) rfl (T.glo 61) rfl) pa_nil))))
        (pss_one (ps_expr (pe_bm PySem.F.plainAttrs_list PySem.F.slot_list_append PySem.F.type_list_append mt_append (pv 1) (pa_cons pe_str pa_nil))))
        pss_nil)
      (pss_cons (ps_if (pt_val (pe_callB (call_isP (List.mem_singleton.mpr rfl) hC hz hf) (by rfl) (T.free 1) (by decide +kernel) (pa_cons (pv 0) (pa_cons (pe_glob (v := .ref _) rfl (T.glo 49) rfl) pa_nil))))
        (pss_one (ps_expr (pe_bm PySem.F.plainAttrs_list PySem.F.slot_list_append PySem.F.type_list_append mt_append (pv 1) (pa_cons pe_str pa_nil))))
        pss_nil)
      (pss_cons (ps_if (pt_val (pe_callB (call_isP (List.mem_singleton.mpr rfl) hC hz hf) (by rfl) (T.free 1) (by decide +kernel) (pa_cons (pv 0) (pa_cons (pe_glob (v := .ref _) rfl (T.glo 31) rfl) pa_nil))))
        (pss_one (ps_expr (pe_bm PySem.F.plainAttrs_list PySem.F.slot_list_append PySem.F.type_list_append mt_append (pv 1) (pa_cons pe_str pa_nil))))
        pss_nil)
      (pss_cons (ps_if (pt_val (pe_callB (call_isP (List.mem_singleton.mpr rfl) hC hz hf) (by rfl) (T.free 1) (by decide +kernel) (pa_cons (pv 0) (pa_cons (pe_glob (v := .ref _) rfl (T.glo 62) rfl) pa_nil))))
        (pss_one (ps_expr (pe_bm PySem.F.plainAttrs_list PySem.F.slot_list_append PySem.F.type_list_append mt_append (pv 1) (pa_cons pe_str pa_nil))))
        pss_nil)
      (pss_cons (ps_if (pt_val (pe_callB (call_isP (List.mem_singleton.mpr rfl) hC hz hf) (by rfl) (T.free 1) (by decide +kernel) (pa_cons (pv 0) (pa_cons (pe_glob (v := .ref _) rfl (T.glo 63) rfl) pa_nil))))
        (pss_one (ps_expr (pe_bm PySem.F.plainAttrs_list PySem.F.slot_list_append PySem.F.type_list_append mt_append (pv 1) (pa_cons pe_str pa_nil))))
        pss_nil)
      (pss_cons (ps_if (PW.pt (pw_and (pt_cmpR op_eq (pe_callB (len_k K) (by rfl) (T.free 0) PySem.boot_len (pa_cons (pv 1) pa_nil)) pe_int (nomark _)) (pw_and1 (pt_val (pe_callB (call_isP (List.mem_singleton.mpr rfl) hC hz hf) (by rfl) (T.free 1) (by decide +kernel) (pa_cons (pv 0) (pa_cons (pe_bltn (v := .ty "ValueError") rfl (T.free 64) (by decide +kernel) rfl) pa_nil)))))))
        (pss_one (ps_ret (pe_ix (ix_l K) (pv 1) pe_int (fun _ _ => rfl))))
        pss_nil)
      (pss_one (ps_ret pe_str))))))))))))), ?_⟩
    refine ⟨Nat.zero_le _, fun l hl => ?_⟩
    have h0 : upd H l (.lst []) l = some (.lst []) := upd_same
    have l0 : ([] : List V).length ≤ 0 := Nat.le_refl 0
    refine cls_step h0 l0 (by decide) (hk "NoTrain" (by decide +kernel)) fun H1 e1 h1 l1 => ?_
    refine cls_step h1 l1 (by decide) (hk "NoStretch" (by decide +kernel)) fun H2 e2 h2 l2 => ?_
    refine cls_step h2 l2 (by decide) (hk "NoSeat" (by decide +kernel)) fun H3 e3 h3 l3 => ?_
    refine cls_step h3 l3 (by decide) (hk "NoStop" (by decide +kernel)) fun H4 e4 h4 l4 => ?_
    refine cls_step h4 l4 (by decide) (hk "NoLeg" (by decide +kernel)) fun H5 e5 h5 l5 => ?_
    refine cls_step h5 l5 (by decide) (hk "NoTicket" (by decide +kernel)) fun H6 e6 h6 l6 => ?_
    refine cls_step h6 l6 (by decide) (hk "Full" (by decide +kernel)) fun H7 e7 h7 l7 => ?_
    refine cls_step h7 l7 (by decide) (hk "Shared" (by decide +kernel)) fun H8 e8 h8 l8 => ?_
    refine cls_step h8 l8 (by decide) (hk "NoText" (by decide +kernel)) fun H9 e9 h9 l9 => ?_
    have hw : H9 l = some (.lst [.str (excW D)]) := by
      rw [← wordsOf_eq D hD]
      exact h9
    have ex : Evl.Ex H H9 := fun c o hc => by
      have hne : c ≠ l := ne_of_none hc hl
      refine e9 c o hne (e8 c o hne (e7 c o hne (e6 c o hne (e5 c o hne (e4 c o hne (e3 c o hne (e2 c o hne (e1 c o hne ?_))))))))
      rw [upd_ne hne]
      exact hc
    refine ⟨_, rfl, l, _, rfl, .inl (SqL.of hw), rfl, _, rfl, ?_⟩
    refine iteT ?_
    refine ⟨_, rfl, .ty "ValueError", .type "ValueError", true, rfl, fun u r => r, hv, _, rfl, ?_⟩
    refine iteT ?_
    exact ⟨_, rfl, l, _, _, _, rfl, rfl, SqL.of hw, rfl, q H9 ex⟩
theorem sc_law_word : FnScope ["_law_train", "_law_deed", "_law_e"] ["_law_train", "_law_deed"] (defScope s_law_word) := ⟨rfl, rfl, rfl, by decide +kernel, rfl, by decide +kernel, by decide +kernel⟩
theorem c_law_word (T : Tx K mg) : Cal P w K mg base 7 "_law_word" (spWord K) := by
  refine T.cal 27 66 rfl rfl sc_law_word (fun _ _ _ _ _ _ us hl => match us, hl with | [_, _], _ => rfl) (fun vs H Q E h => ?_) fun cdv A outer s H vs Q E hr h => ?_
  · first | (obtain ⟨_, rfl, _⟩ := h; rfl) | (obtain ⟨_, _, rfl, _⟩ := h; rfl) | (obtain ⟨_, _, _, rfl, _⟩ := h; rfl) | (obtain ⟨_, _, _, _, rfl, _⟩ := h; rfl) | (obtain ⟨_, _, _, _, _, rfl, _⟩ := h; rfl) | (obtain ⟨_, _, _, _, _, _, rfl, _⟩ := h; rfl) | (obtain ⟨_, _, _, _, _, _, _, rfl, _⟩ := h; rfl) | (obtain ⟨_, _, _, _, _, _, _, _, rfl, _⟩ := h; rfl) | (obtain ⟨_, _, _, _, _, _, _, _, _, rfl, _⟩ := h; rfl) | (obtain ⟨_, _, _, _, _, _, _, _, _, _, rfl, _⟩ := h; rfl) | (obtain ⟨_, _, _, _, _, _, _, _, _, _, _, rfl, _⟩ := h; rfl) | (obtain ⟨_, _, _, _, _, _, _, _, _, _, _, _, rfl, _⟩ := h; rfl) | (obtain ⟨_, _, _, _, _, _, _, _, _, _, _, _, _, rfl, _⟩ := h; rfl) | (obtain ⟨_, _, _, _, _, _, _, _, _, _, _, _, _, _, rfl, _⟩ := h; rfl) | (obtain ⟨_, _, _, _, _, _, _, _, _, _, _, _, _, _, _, rfl, _⟩ := h; rfl)
  · refine ⟨_, (pss_one (ps_try_as (i := 2) rfl rfl sc_law_word.nd rfl rfl ⟨rfl, by decide, Or.inl (T.glo 29)⟩ takes0
        (fun W pn xe tk po => (pss_one (ps_ret (pe_tup (pa_cons pe_str (pa_cons (pe_c (c_law_told T) hr (pr tk) (pa_cons (pv 0) (pa_cons (pv 1) pa_nil))) pa_nil))))))
        (fun a oe cls d pn hz hf => (pss_one (ps_ret (pe_tup (pa_cons (pe_hz (h_law_class T) hr hz hf (pa_cons (pv 2) pa_nil)) (pa_cons pe_non pa_nil)))))))), ?_⟩
    obtain ⟨S, p, T0, d, x, rfl, A0, G, few, hd, q⟩ := h
    have hne : ∀ w : Str, w ≠ "" → (T0.run x).word = w → (T0.run x).res = .non ∧ (T0.run x).tr = T0 := fun w hw e => run_refused T0 x (by rw [e]; exact hw)
    have out : ∀ (X : Str), excW X ≠ "" → excW X = excW X → ∀ w, (T0.run x).word = w → excW X = w → ∀ H3, Ex H H3 → (2 ≤ sizeLine ∧ ∀ t, H3 t = none → Q (.ref t) (upd H3 t (.tup [.str (excW X), .non]))) := fun X hX _ w hw e H3 e3 => ⟨by decide, fun t ft => by
      have e4 := Evl.Ex.new (o := .tup [.str (excW X), .non]) ft
      obtain ⟨h1, h2⟩ := hne w (by rw [← e]; exact hX) hw
      refine q _ S t .non (Mv.ex (e3.trans e4)) (by rw [h2]; exact A0.ex (e3.trans e4)) (by rw [hw, ← e]; exact upd_same) (by rw [h1]; rfl)⟩
    refine ⟨_, rfl, _, rfl, S, p, T0, d, x, rfl, A0, G, few, hd, ?_⟩
    constructor
    · exact fun hw H' S' v mv A' R => ⟨by show 2 ≤ sizeLine; decide, fun t ft => by
        have e4 := Evl.Ex.new (o := .tup [.str "", v]) ft
        exact q _ S' t v (mv.trans (Mv.ex e4)) (A'.ex e4) (by rw [hw]; exact upd_same) (R.ex e4)⟩
    · exact fun hw H2 e2 => ⟨true, (T.exm 50), fun _ a0 na oe hz hf => ⟨_, rfl, "NoTicket", by decide +kernel, rfl, hz, hf, fun H3 e3 => out "NoTicket" (by decide +kernel) rfl _ hw (by decide +kernel) H3 (e2.trans e3)⟩, fun z => nomatch z⟩
    · exact fun hw H2 e2 => ⟨true, (T.exm 56), fun _ a0 na oe hz hf => ⟨_, rfl, "NoStop", by decide +kernel, rfl, hz, hf, fun H3 e3 => out "NoStop" (by decide +kernel) rfl _ hw (by decide +kernel) H3 (e2.trans e3)⟩, fun z => nomatch z⟩
    · exact fun hw H2 e2 => ⟨true, (T.exm 35), fun _ a0 na oe hz hf => ⟨_, rfl, "NoStretch", by decide +kernel, rfl, hz, hf, fun H3 e3 => out "NoStretch" (by decide +kernel) rfl _ hw (by decide +kernel) H3 (e2.trans e3)⟩, fun z => nomatch z⟩
    · exact fun hw H2 e2 => ⟨true, (T.exm 32), fun _ a0 na oe hz hf => ⟨_, rfl, "Full", by decide +kernel, rfl, hz, hf, fun H3 e3 => out "Full" (by decide +kernel) rfl _ hw (by decide +kernel) H3 (e2.trans e3)⟩, fun z => nomatch z⟩
theorem sc_law_full : FnScope ["_law_rows_here", "_law_begin", "_law_end", "_law_leg", "_law_row"] ["_law_rows_here", "_law_begin", "_law_end"] (defScope s_law_full) := ⟨rfl, rfl, rfl, by decide +kernel, rfl, by decide +kernel, by decide +kernel⟩
theorem c_law_full (T : Tx K mg) : Cal P w K mg base 1 "_law_full" spFirstFull := by
  refine T.cal 28 67 rfl rfl sc_law_full (fun _ _ _ _ _ _ us hl => match us, hl with | [_, _, _], _ => rfl) (fun vs H Q E h => ?_) fun cdv A outer s H vs Q E hr h => ?_
  · first | (obtain ⟨_, rfl, _⟩ := h; rfl) | (obtain ⟨_, _, rfl, _⟩ := h; rfl) | (obtain ⟨_, _, _, rfl, _⟩ := h; rfl) | (obtain ⟨_, _, _, _, rfl, _⟩ := h; rfl) | (obtain ⟨_, _, _, _, _, rfl, _⟩ := h; rfl) | (obtain ⟨_, _, _, _, _, _, rfl, _⟩ := h; rfl) | (obtain ⟨_, _, _, _, _, _, _, rfl, _⟩ := h; rfl) | (obtain ⟨_, _, _, _, _, _, _, _, rfl, _⟩ := h; rfl) | (obtain ⟨_, _, _, _, _, _, _, _, _, rfl, _⟩ := h; rfl) | (obtain ⟨_, _, _, _, _, _, _, _, _, _, rfl, _⟩ := h; rfl) | (obtain ⟨_, _, _, _, _, _, _, _, _, _, _, rfl, _⟩ := h; rfl) | (obtain ⟨_, _, _, _, _, _, _, _, _, _, _, _, rfl, _⟩ := h; rfl) | (obtain ⟨_, _, _, _, _, _, _, _, _, _, _, _, _, rfl, _⟩ := h; rfl) | (obtain ⟨_, _, _, _, _, _, _, _, _, _, _, _, _, _, rfl, _⟩ := h; rfl) | (obtain ⟨_, _, _, _, _, _, _, _, _, _, _, _, _, _, _, rfl, _⟩ := h; rfl)
  · refine ⟨_, (pss_cons (ps_for (passes_of rfl) rfl (pi_range2 (by rfl) (T.free 3) (pa_cons (pv 1) (pa_cons (pv 2) pa_nil))) (pg_name (i := 3) sc_law_full.nd rfl (Or.inr rfl))
        (pss_one (ps_if (pt_val (pe_callB (all_k K rfl) (by rfl) (T.free 37) (by decide +kernel) (pa_cons (pe_lc (own := [("_law_row", 4)]) (g := gName 4) rfl sc_law_full.nd (pi_l K (pv 0)) (blkOk_by (N := ["_law_rows_here", "_law_begin", "_law_end", "_law_leg", "_law_row"]) (sc := defScope s_law_full) (by decide +kernel)) (fun _ _ _ _ _ => pg_name (i := 4) sc_law_full.nd rfl (Or.inl rfl)) (fun _ _ _ _ _ => pts_nil) (fun _ _ _ _ _ => (pe_cmpR op_notN1 (pe_ix (ix_l K) (pv 4) (pv 3) (fun _ _ => rfl)) pe_non (nomark _)))) pa_nil)))
          (pss_one (ps_ret (pv 3)))
          pss_nil)))
      (pss_one (ps_ret pe_non))), ?_⟩
    obtain ⟨r, as, g, b, e, rfl, G, hg, he, hb, hl, q⟩ := h
    refine ⟨_, rfl, _, rfl, _, _, rfl, ⟨by omega, by omega, by omega, by omega⟩, for_range (lo := (b : Int)) (n := ((e : Int) - b).toNat) (fun i σ H' => Ex H H' ∧ (∃ v, σ = [some (.ref r), some (.int b), some (.int e), v, none]) ∧ (List.range' b i).find? (fullLeg g) = none)
      ⟨Evl.Ex.refl H, ⟨none, rfl⟩, rfl⟩ ?_ ?_⟩
    · rintro i σ H' hi ⟨ex, ⟨v, rfl⟩, hno⟩
      have hie : b + i < e := by omega
      refine ⟨_, rfl, r, rfl, ⟨_, sqL_of G.top ex⟩, fun D hD => ?_⟩
      refine lc_v (walk_list (xs := as.map V.ref)) y_list hD (fun H2 e2 => sqL_of G.top (ex.trans e2)) (by rw [List.length_map, G.row.len]; omega) (fun _ => true)
        (fun k => .bl (((g[k]?).map fun row => held row (b + i)).getD false)) (fun _ => rfl) lc_yes ?_ ?_
      · intro k x H2 hk hx _ e2 Q2 q2
        obtain ⟨a, ha, rfl⟩ := map_back hx
        obtain ⟨row, hrow, hr2⟩ := G.row.left ha
        have hlr : b + i < row.length := Nat.lt_of_lt_of_le hie (hl row (List.mem_of_getElem? hrow))
        have hc := List.getElem?_eq_getElem hlr
        refine ⟨_, rfl, _, rfl, a, _, _, oV row[b + i], rfl, rfl, SqL.of (e2 _ _ (ex _ _ hr2)), at_of (j := b + i) (by rw [Int.natCast_add]) (map_get hc), rfl, ?_⟩
        have q3 := q2 H2 (Evl.Ex.refl H2)
        rw [hrow, Option.map_some, Option.getD_some, held_at hc] at q3
        rw [oV_some]
        exact q3
      · intro H2 e2 hD2
        rw [kept_all] at hD2
        refine ⟨D, (List.range (as.map V.ref).length).map fun k => ((g[k]?).map fun row => held row (b + i)).getD false, rfl, ?_, _, rfl, ?_⟩
        · refine SqL.of ?_
          rw [hD2, List.map_map]
          rfl
        have hb2 : ((List.range (as.map V.ref).length).map fun k => ((g[k]?).map fun row => held row (b + i)).getD false).all id = fullLeg g (b + i) := by
          rw [List.length_map, G.row.len]
          exact all_map_range g (fun row => held row (b + i)) _ fun k row hk => by rw [hk]; rfl
        rw [hb2]
        refine iteB (fun hf => ?_) (fun hf => ?_)
        · refine ⟨_, rfl, ?_⟩
          have hfind : firstFull g b e = some (b + i) := by
            unfold firstFull
            have es := range_split (b := b) (i := i) (n := e - b) (by omega)
            rw [es, List.find?_append, hno, Option.none_or, List.find?_cons, hf]
          have q3 := q H2 (ex.trans e2)
          rw [hfind] at q3
          exact q3
        · refine ⟨ex.trans e2, ⟨_, rfl⟩, ?_⟩
          rw [List.range'_1_concat, List.find?_append, hno, Option.none_or, List.find?_cons, hf]
          rfl
    · rintro σ H' ⟨ex, ⟨v, rfl⟩, hno⟩
      have q3 := q H' ex
      have hn : ((e : Int) - b).toNat = e - b := by omega
      rw [hn] at hno
      have hfind : firstFull g b e = none := hno
      rw [hfind] at q3
      exact q3
theorem sc_law_reach : FnScope ["_law_row", "_law_stop"] ["_law_row", "_law_stop"] (defScope s_law_reach) := ⟨rfl, rfl, rfl, by decide +kernel, rfl, by decide +kernel, by decide +kernel⟩
theorem c_law_reach (T : Tx K mg) : Cal P w K mg base 1 "_law_reach" (spReach K) := by
  refine T.cal 29 68 rfl rfl sc_law_reach (fun _ _ _ _ _ _ us hl => match us, hl with | [_, _], _ => rfl) (fun vs H Q E h => ?_) fun cdv A outer s H vs Q E hr h => ?_
  · first | (obtain ⟨_, rfl, _⟩ := h; rfl) | (obtain ⟨_, _, rfl, _⟩ := h; rfl) | (obtain ⟨_, _, _, rfl, _⟩ := h; rfl) | (obtain ⟨_, _, _, _, rfl, _⟩ := h; rfl) | (obtain ⟨_, _, _, _, _, rfl, _⟩ := h; rfl) | (obtain ⟨_, _, _, _, _, _, rfl, _⟩ := h; rfl) | (obtain ⟨_, _, _, _, _, _, _, rfl, _⟩ := h; rfl) | (obtain ⟨_, _, _, _, _, _, _, _, rfl, _⟩ := h; rfl) | (obtain ⟨_, _, _, _, _, _, _, _, _, rfl, _⟩ := h; rfl) | (obtain ⟨_, _, _, _, _, _, _, _, _, _, rfl, _⟩ := h; rfl) | (obtain ⟨_, _, _, _, _, _, _, _, _, _, _, rfl, _⟩ := h; rfl) | (obtain ⟨_, _, _, _, _, _, _, _, _, _, _, _, rfl, _⟩ := h; rfl) | (obtain ⟨_, _, _, _, _, _, _, _, _, _, _, _, _, rfl, _⟩ := h; rfl) | (obtain ⟨_, _, _, _, _, _, _, _, _, _, _, _, _, _, rfl, _⟩ := h; rfl) | (obtain ⟨_, _, _, _, _, _, _, _, _, _, _, _, _, _, _, rfl, _⟩ := h; rfl)
  · refine ⟨_, (pss_cons (ps_while (passes_of rfl) (PW.pt (pw_and (pt_cmpR op_lt (pv 1) (pe_callB (len_k K) (by rfl) (T.free 0) PySem.boot_len (pa_cons (pv 0) pa_nil)) (nomark _)) (pw_and1 (pt_cmpR op_isN1 (pe_ix (ix_l K) (pv 0) (pv 1) (fun _ _ => rfl)) pe_non (nomark _)))))
        (pss_one (ps_set (i := 1) sc_law_reach.nd rfl (Or.inl rfl) (pe_op op_add (pv 1) pe_int))))
      (pss_one (ps_ret (pv 1)))), ?_⟩
    obtain ⟨a, row, s, rfl, hS, q⟩ := h
    refine ⟨fun m σ H' => ∃ s' : Nat, σ = [some (.ref a), some (.int s')] ∧ H' = H ∧ m = row.length - s' ∧ reach row s' = reach row s, ⟨_, s, rfl, rfl, rfl, rfl⟩, ?_⟩
    rintro m σ H' ⟨s', rfl, rfl, rfl, hr'⟩
    refine ⟨_, rfl, _, rfl, a, _, rfl, .inl hS, _, _, rfl, rfl, _, rfl, ?_⟩
    refine iteD (fun h1 => ?_) (fun h1 => ?_)
    · have h2 : s' < row.length := by
        rw [List.length_map] at h1
        omega
      have hc := List.getElem?_eq_getElem h2
      refine ⟨_, rfl, _, rfl, a, _, _, oV row[s'], rfl, rfl, hS, at_of rfl (map_get hc), rfl, _, rfl, ?_⟩
      rw [oV_none]
      cases ec : row[s'] with
      | none =>
        refine iteT ?_
        rw [ec] at hc
        refine ⟨fun σ' H'' => σ' = [some (.ref a), some (.int ((s' + 1 : Nat) : Int))] ∧ H'' = H', fun σ' H'' e => ⟨_, ?_, s' + 1, e.1, e.2, rfl, ?_⟩, ?_⟩
        · omega
        · rw [← reach_yes hc]
          exact hr'
        · exact ⟨_, rfl, _, _, rfl, rfl, rfl, rfl⟩
      | some t =>
        refine iteF ?_
        rw [ec] at hc
        refine ⟨_, rfl, ?_⟩
        rw [reach_no hc] at hr'
        rw [hr']
        exact q
    · have h2 : row.length ≤ s' := by
        rw [List.length_map] at h1
        omega
      refine iteF ?_
      refine ⟨_, rfl, ?_⟩
      rw [reach_out h2] at hr'
      rw [hr']
      exact q
theorem sc_law_found : FnScope ["_law_rows_here", "_law_begin", "_law_end", "_law_found_here", "_law_leads", "_law_row"] ["_law_rows_here", "_law_begin", "_law_end"] (defScope s_law_found) := ⟨rfl, rfl, rfl, by decide +kernel, rfl, by decide +kernel, by decide +kernel⟩
theorem c_law_found (T : Tx K mg) : Cal P w K mg base 2 "_law_found" (spFoundL K) := by
  refine T.cal 30 69 rfl rfl sc_law_found (fun _ _ _ _ _ _ us hl => match us, hl with | [_, _, _], _ => rfl) (fun vs H Q E h => ?_) fun cdv A outer s H vs Q E hr h => ?_
  · first | (obtain ⟨_, rfl, _⟩ := h; rfl) | (obtain ⟨_, _, rfl, _⟩ := h; rfl) | (obtain ⟨_, _, _, rfl, _⟩ := h; rfl) | (obtain ⟨_, _, _, _, rfl, _⟩ := h; rfl) | (obtain ⟨_, _, _, _, _, rfl, _⟩ := h; rfl) | (obtain ⟨_, _, _, _, _, _, rfl, _⟩ := h; rfl) | (obtain ⟨_, _, _, _, _, _, _, rfl, _⟩ := h; rfl) | (obtain ⟨_, _, _, _, _, _, _, _, rfl, _⟩ := h; rfl) | (obtain ⟨_, _, _, _, _, _, _, _, _, rfl, _⟩ := h; rfl) | (obtain ⟨_, _, _, _, _, _, _, _, _, _, rfl, _⟩ := h; rfl) | (obtain ⟨_, _, _, _, _, _, _, _, _, _, _, rfl, _⟩ := h; rfl) | (obtain ⟨_, _, _, _, _, _, _, _, _, _, _, _, rfl, _⟩ := h; rfl) | (obtain ⟨_, _, _, _, _, _, _, _, _, _, _, _, _, rfl, _⟩ := h; rfl) | (obtain ⟨_, _, _, _, _, _, _, _, _, _, _, _, _, _, rfl, _⟩ := h; rfl) | (obtain ⟨_, _, _, _, _, _, _, _, _, _, _, _, _, _, _, rfl, _⟩ := h; rfl)
  · refine ⟨_, (pss_cons (ps_set (i := 3) sc_law_found.nd rfl (Or.inl rfl) (pe_lst pa_nil))
      (pss_cons (ps_while (passes_of rfl) (pt_cmpR op_lt (pv 1) (pv 2) (nomark _))
        (pss_cons (ps_setLc (i := 4) (own := [("_law_row", 5)]) (g := gName 5)  rfl sc_law_found.nd rfl rfl (sw_true rfl rfl rfl (by decide +kernel)) (pi_l K (pv 0)) (blkOk_by (N := ["_law_rows_here", "_law_begin", "_law_end", "_law_found_here", "_law_leads", "_law_row"]) (sc := defScope s_law_found) (by decide +kernel)) (fun _ _ _ _ _ => pg_name (i := 5) sc_law_found.nd rfl (Or.inl rfl)) (fun _ _ _ _ _ => pts_nil) (fun _ _ _ _ _ => (pe_callB (call_min2 rfl) (by rfl) (T.free 26) (by decide +kernel) (pa_cons (pe_c (c_law_reach T) hr pz (pa_cons (pv 5) (pa_cons (pv 1) pa_nil))) (pa_cons (pv 2) pa_nil)))))
        (pss_cons (ps_expr (pe_bm PySem.F.plainAttrs_list PySem.F.slot_list_append PySem.F.type_list_append mt_append (pv 3) (pa_cons (pe_tup (pa_cons (pe_bm PySem.F.plainAttrs_list PySem.F.slot_list_index PySem.F.type_list_index (idx_k K) (pv 4) (pa_cons (pe_callB (max_k K rfl) (by rfl) (T.free 24) (by decide +kernel) (pa_cons (pv 4) pa_nil)) pa_nil)) (pa_cons (pv 1) (pa_cons (pe_callB (max_k K rfl) (by rfl) (T.free 24) (by decide +kernel) (pa_cons (pv 4) pa_nil)) pa_nil)))) pa_nil)))
        (pss_one (ps_set (i := 1) sc_law_found.nd rfl (Or.inr rfl) (pe_callB (max_k K rfl) (by rfl) (T.free 24) (by decide +kernel) (pa_cons (pv 4) pa_nil)))))))
      (pss_one (ps_ret (pv 3))))), ?_⟩
    obtain ⟨r, as, g, n, b, e, rfl, G, hrl, hbe, hen, hn, hgl, hfree, q⟩ := h
    refine ⟨Nat.zero_le _, fun l hl => ?_⟩
    refine ⟨fun m σ H' => ∃ (s0 : Nat) (acc : List P3) (ts : List Addr) (v1 v2 : Option V), σ = [some (.ref r), some (.int s0), some (.int e), some (.ref l), v1, v2] ∧ m = e - s0 ∧ b ≤ s0 ∧ s0 ≤ e ∧ Ex H H' ∧ H' l = some (.lst (ts.map V.ref)) ∧ All2 (PartAt H') ts acc ∧ acc.length ≤ s0 ∧
        acc ++ found g s0 e = found g b e, ⟨_, b, [], [], none, none, rfl, rfl, Nat.le_refl _, hbe, Evl.Ex.new hl, upd_same, All2.nil, Nat.zero_le _, rfl⟩, ?_⟩
    rintro m σ H' ⟨s0, acc, ts, v1, v2, rfl, rfl, hb0, he0, ex, hL, hP, hlen, hf⟩
    refine ⟨_, rfl, _, rfl, _, _, rfl, rfl, _, rfl, ?_⟩
    refine iteD (fun h1 => ?_) (fun h1 => ?_)
    · obtain ⟨i, row, g1, g2, g3, g4, g5⟩ := best_spec (leads_on hrl (by omega) hen (hfree s0 hb0 (by omega)))
      have hb : (bestSeat g s0 e).2 ≠ s0 := by
        rw [g2]
        show min _ _ ≠ s0
        omega
      rw [found_on (by omega) hb, g2] at hf
      dsimp only at hf
      generalize hfar : min (reach row s0) e = far at *
      have hfe : far ≤ e := by omega
      refine ⟨fun σ' H'' => ∃ (acc : List P3) (ts : List Addr) (v1 v2 : Option V), σ' = [some (.ref r), some (.int far), some (.int e), some (.ref l), v1, v2] ∧ Ex H H'' ∧ H'' l = some (.lst (ts.map V.ref)) ∧ All2 (PartAt H'') ts acc ∧
          acc.length ≤ far ∧ acc ++ found g far e = found g b e, fun σ' H'' ⟨acc, ts, v1, v2, h0, h3, h4, h5, h6, h7⟩ => ⟨_, by omega, far, acc, ts, v1, v2, h0, rfl, by omega, hfe, h3, h4, h5, h6, h7⟩, ?_⟩
      refine ⟨_, rfl, r, rfl, ⟨_, sqL_of G.top ex⟩, fun D hD => ?_⟩
      have hglen : (as.map V.ref).length = g.length := by rw [List.length_map, G.row.len]
      refine lc_v (walk_list (K := K) (a := r) (xs := as.map V.ref)) y_list hD (fun H2 e2 => sqL_of G.top (ex.trans e2)) (by rw [hglen]; omega) (fun _ => true) (fun k => .int (((g[k]?).map fun row => ((min (reach row s0) e : Nat) : Int)).getD 0)) (fun _ => rfl) lc_yes ?_ ?_
      · intro k x H2 hk hx _ e2 Q2 q2
        obtain ⟨a, ha, rfl⟩ := map_back hx
        obtain ⟨row2, hrow2, hr2⟩ := G.row.left ha
        have hr3 : RowAt H2 a row2 := e2 _ _ (ex _ _ hr2)
        refine ⟨_, rfl, _, rfl, a, row2, s0, rfl, SqL.of hr3, _, rfl, _, _, rfl, ?_⟩
        have q3 := q2 H2 (Evl.Ex.refl H2)
        rw [hrow2, Option.map_some, Option.getD_some] at q3
        have hm : (if (e : Int) < (reach row2 s0 : Int) then (e : Int) else (reach row2 s0 : Int)) = ((min (reach row2 s0) e : Nat) : Int) := by split <;> omega
        rw [hm]
        exact q3
      · intro H2 e2 hD2
        rw [kept_all, hglen] at hD2
        have hns : (List.range g.length).map (fun k => V.int (((g[k]?).map fun row => ((min (reach row s0) e : Nat) : Int)).getD 0)) = (g.map fun row => ((min (reach row s0) e : Nat) : Int)).map V.int := by
          rw [← range_map g (fun row => ((min (reach row s0) e : Nat) : Int)) 0, List.map_map]
          rfl
        rw [hns] at hD2
        have hpos : 0 < (g.map fun row => ((min (reach row s0) e : Nat) : Int)).length := by
          rw [List.length_map]
          have := lt_of_get g1
          omega
        have uniq : ∀ m : Int, m ∈ (g.map fun row => ((min (reach row s0) e : Nat) : Int)) → (∀ y, y ∈ (g.map fun row => ((min (reach row s0) e : Nat) : Int)) → y ≤ m) → m = (far : Int) := fun m hm hmax => by
          obtain ⟨row2, mr, rfl⟩ := List.mem_map.mp hm
          have h1 := g4 row2 mr
          have h2 := hmax _ (List.mem_map.mpr ⟨row, List.mem_of_getElem? g1, rfl⟩)
          rw [hfar] at h2
          omega
        have hL2 := e2 _ _ hL
        refine ⟨_, rfl, .inl ⟨rfl, _, SqL.of hL2⟩, ?_⟩
        refine ⟨_, rfl, .inl ⟨rfl, _, SqL.of hD2⟩, _, rfl, D, _, rfl, SqL.of hD2, hpos, fun m hm hmax => ?_⟩
        obtain rfl := uniq m hm hmax
        refine ⟨D, _, .int (far : Int), i, .int (far : Int), rfl, rfl, SqL.of hD2, rfl, flat_ints _, ?_, ?_, ?_, ?_⟩
        · rw [List.getElem?_map, List.getElem?_map, g1]
          show some (V.int ((min (reach row s0) e : Nat) : Int)) = _
          rw [hfar]
        · show ((far : Int) == (far : Int)) = true
          exact beq_self_eq_true _
        · intro m z hmi hz
          obtain ⟨y, hy, rfl⟩ := map_back hz
          obtain ⟨row2, hr2, rfl⟩ := map_back hy
          have := g5 m row2 hmi hr2
          show (((min (reach row2 s0) e : Nat) : Int) == (far : Int)) = false
          exact beq_eq_false_iff_ne.mpr (by omega)
        refine ⟨_, rfl, _, rfl, D, _, rfl, SqL.of hD2, hpos, fun m hm hmax => ?_⟩
        obtain rfl := uniq m hm hmax
        refine ⟨by show 3 ≤ sizeLine; decide, fun u hu => ?_⟩
        have hlu : l ≠ u := ne_of_none hL2 hu
        have hDu : D ≠ u := ne_of_none hD2 hu
        have hlD : l ≠ D := ne_of_none hL hD
        refine ⟨l, _, _, rfl, rfl, by rw [upd_ne hlu]; exact hL2, ?_, ?_⟩
        · rw [List.length_map, hP.len]
          exact Nat.lt_of_le_of_lt (show acc.length ≤ 1000 by omega) (by decide)
        refine ⟨_, rfl, D, _, rfl, SqL.of (by rw [upd_ne hlD.symm, upd_ne hDu]; exact hD2), hpos, fun m hm hmax => ?_⟩
        obtain rfl := uniq m hm hmax
        refine ⟨acc ++ [(i, s0, far)], ts ++ [u], _, _, rfl, Evl.Ex.mut ((ex.trans e2).trans (Evl.Ex.new hu)) hl, ?_, ?_, ?_, ?_⟩
        · rw [upd_same, List.map_append]
          rfl
        · refine All2.snoc (hP.mono fun x y z => ?_) ?_
          · have zx : H2 x = some (.tup (pV y)) := e2 _ _ z
            show upd (upd H2 u _) l _ x = _
            rw [upd_ne (ne_of zx hL2 (fun z => by cases z)), upd_ne (ne_of_none zx hu)]
            exact zx
          · show upd (upd H2 u _) l _ u = _
            rw [upd_ne hlu.symm, upd_same]
            rfl
        · rw [List.length_append, List.length_singleton]
          omega
        · rw [List.append_assoc]
          exact hf
    · have h2 := found_stop (g := g) (s := s0) (e := e) (by omega)
      rw [h2, List.append_nil] at hf
      refine ⟨_, rfl, q H' l ex hl ⟨ts, hL, ?_⟩⟩
      rw [← hf]
      exact hP
theorem sc_law_mark : FnScope ["_law_rows_here", "_law_row", "_law_held", "_law_one", "_law_leg"] ["_law_rows_here", "_law_row", "_law_held"] (defScope s_law_mark) := ⟨rfl, rfl, rfl, by decide +kernel, rfl, by decide +kernel, by decide +kernel⟩
theorem c_law_mark (T : Tx K mg) : Cal P w K mg base 1 "_law_mark" (spMarkW K) := by
  refine T.cal 31 70 rfl rfl sc_law_mark (fun _ _ _ _ _ _ us hl => match us, hl with | [_, _, _], _ => rfl) (fun vs H Q E h => ?_) fun cdv A outer s H vs Q E hr h => ?_
  · first | (obtain ⟨_, rfl, _⟩ := h; rfl) | (obtain ⟨_, _, rfl, _⟩ := h; rfl) | (obtain ⟨_, _, _, rfl, _⟩ := h; rfl) | (obtain ⟨_, _, _, _, rfl, _⟩ := h; rfl) | (obtain ⟨_, _, _, _, _, rfl, _⟩ := h; rfl) | (obtain ⟨_, _, _, _, _, _, rfl, _⟩ := h; rfl) | (obtain ⟨_, _, _, _, _, _, _, rfl, _⟩ := h; rfl) | (obtain ⟨_, _, _, _, _, _, _, _, rfl, _⟩ := h; rfl) | (obtain ⟨_, _, _, _, _, _, _, _, _, rfl, _⟩ := h; rfl) | (obtain ⟨_, _, _, _, _, _, _, _, _, _, rfl, _⟩ := h; rfl) | (obtain ⟨_, _, _, _, _, _, _, _, _, _, _, rfl, _⟩ := h; rfl) | (obtain ⟨_, _, _, _, _, _, _, _, _, _, _, _, rfl, _⟩ := h; rfl) | (obtain ⟨_, _, _, _, _, _, _, _, _, _, _, _, _, rfl, _⟩ := h; rfl) | (obtain ⟨_, _, _, _, _, _, _, _, _, _, _, _, _, _, rfl, _⟩ := h; rfl) | (obtain ⟨_, _, _, _, _, _, _, _, _, _, _, _, _, _, _, rfl, _⟩ := h; rfl)
  · refine ⟨_, (pss_one (ps_for (passes_of rfl) rfl (pi_l K (pv 1)) (pg_name (i := 3) sc_law_mark.nd rfl (Or.inl rfl))
        (pss_one (ps_for (passes_of rfl) rfl (pi_range2 (by rfl) (T.free 3) (pa_cons (pe_ix (ix_t K) (pv 3) pe_int (fun _ _ => rfl)) (pa_cons (pe_ix (ix_t K) (pv 3) pe_int (fun _ _ => rfl)) pa_nil))) (pg_name (i := 4) sc_law_mark.nd rfl (Or.inl rfl))
          (pss_one (ps_asg (pv 2) (pg_sub (pe_ix (ix_l K) (pv 0) (pe_ix (ix_t K) (pv 3) pe_int (fun _ _ => rfl)) (fun _ _ => rfl)) (pv 4) set_list))))))), ?_⟩
    obtain ⟨r, as, g, n, l, ps, hh, rfl, G0, nd, nr, nl, hlen, ⟨ts, hl, hP⟩, hv, hn, q⟩ := h
    refine ⟨_, rfl, l, rfl, ⟨_, SqL.of hl⟩, for_list (K := K) (a := l) (xs := ts.map V.ref) (fun i σ H' => ∃ v1 v2, σ = [some (.ref r), some (.ref l), some (oV hh), v1, v2] ∧ (∀ a o, a ∉ as → H a = some o → H' a = some o) ∧ GridAt H' r as (markAll g (ps.take i) hh))
      ⟨none, none, rfl, fun _ _ _ h => h, G0⟩ (fun i σ H' _ ⟨_, _, _, k, _⟩ => SqL.of (k _ _ nl hl)) ?_ ?_⟩
    · rintro i x σ H' hi ⟨v1, v2, rfl, k1, G1⟩
      obtain ⟨t, ht, rfl⟩ := map_back hi
      obtain ⟨⟨c1, c2, c3⟩, hc, hpt⟩ := hP.left ht
      have hval := hv _ (List.mem_of_getElem? hc)
      have nt : ∀ t xs, H t = some (.tup xs) → t ∉ as := fun t xs h m => by
        obtain ⟨y, _, q⟩ := G0.row.mem_left m
        rw [show H t = _ from q] at h
        cases h
      have hpt1 := hpt
      unfold PartAt at hpt1
      have hpt2 : H' t = some (.tup [.int (c1 : Int), .int (c2 : Int), .int (c3 : Int)]) := k1 _ _ (nt _ _ hpt1) hpt1
      have htake : ps.take (i + 1) = ps.take i ++ [(c1, c2, c3)] := by
        have hl3 := lt_of_get hc
        rw [List.take_succ_eq_append_getElem hl3]
        rw [List.getElem?_eq_getElem hl3] at hc
        rw [Option.some.inj hc]
      dsimp only at hval
      refine ⟨_, rfl, t, _, _, _, rfl, rfl, SqT.of hpt2, at_of (j := 1) rfl rfl, _, rfl, t, _, _, _, rfl, rfl, SqT.of hpt2, at_of (j := 2) rfl rfl, _, _, rfl, ⟨by omega, by omega, by omega, by omega⟩, ?_⟩
      refine for_range (lo := (c2 : Int)) (n := ((c3 : Int) - c2).toNat) (fun j σ H2 => ∃ v2, σ = [some (.ref r), some (.ref l), some (oV hh), some (.ref t), v2] ∧ (∀ a o, a ∉ as → H a = some o → H2 a = some o) ∧
          GridAt H2 r as ((List.range' c2 j).foldl (fun g leg => setCell g c1 leg hh) (markAll g (ps.take i) hh))) ⟨v2, rfl, k1, G1⟩ ?_ ?_
      · rintro j σ H2 hj ⟨v2, rfl, k2, G2⟩
        have hpt3 : H2 t = some (.tup [.int (c1 : Int), .int (c2 : Int), .int (c3 : Int)]) := k2 _ _ (nt _ _ hpt1) hpt1
        have hln : ((List.range' c2 j).foldl (fun g leg => setCell g c1 leg hh) (markAll g (ps.take i) hh)).length = g.length := by
          have h1 := foldl_len c1 hh (List.range' c2 j) (markAll g (ps.take i) hh)
          rw [h1, markAll_len]
        have hrows : ∀ row ∈ ((List.range' c2 j).foldl (fun g leg => setCell g c1 leg hh) (markAll g (ps.take i) hh)), row.length = n := by
          have key : ∀ (ls : List Nat) (g : Grid), (∀ row ∈ g, row.length = n) → ∀ row ∈ ls.foldl (fun g leg => setCell g c1 leg hh) g, row.length = n := by
            intro ls
            induction ls with
            | nil => exact fun g h => h
            | cons y r ih => exact fun g h => ih _ (setCell_row h)
          exact key _ _ (markAll_row hh _ _ hlen)
        have hs : c1 < ((List.range' c2 j).foldl (fun g leg => setCell g c1 leg hh) (markAll g (ps.take i) hh)).length := by rw [hln]; exact hval.1
        have hr := List.getElem?_eq_getElem hs
        obtain ⟨a, ha, hrow⟩ := G2.row.right hr
        have hl1 := hrows _ (List.getElem_mem hs)
        have G3 := G2.cell nd nr (seat := c1) (leg := c2 + j) hh ha hr
        refine ⟨_, rfl, _, rfl, _, rfl, t, _, _, _, rfl, rfl, SqT.of hpt3, at_of (j := 0) rfl rfl, r, _, _, .ref a, rfl, rfl, SqL.of G2.top, at_of rfl (map_get ha), ?_⟩
        refine ⟨_, rfl, a, _, _, c2 + j, rfl, rfl, hrow, ?_, ?_⟩
        · rw [List.length_map, show (c2 : Int) + (j : Int) = ((c2 + j : Nat) : Int) by omega]
          exact ixN_nat (by omega)
        · rw [← List.map_set]
          refine ⟨_, rfl, fun b o nb hb => ?_, ?_⟩
          · rw [upd_ne (fun z : b = a => nb (by rw [z]; exact List.mem_of_getElem? ha))]
            exact k2 b o nb hb
          · have e1 : List.range' c2 (j + 1) = List.range' c2 j ++ [c2 + j] := List.range'_1_concat
            rw [e1, List.foldl_append]
            exact G3
      · rintro σ H2 ⟨v2, rfl, k2, G2⟩
        refine ⟨_, _, rfl, k2, ?_⟩
        rw [htake]
        have e2 : markAll g (ps.take i ++ [(c1, c2, c3)]) hh = markPart (markAll g (ps.take i) hh) hh (c1, c2, c3) := by
          unfold markAll
          rw [List.foldl_append]
          rfl
        rw [e2]
        have e3 : ((c3 : Int) - c2).toNat = c3 - c2 := by omega
        rw [e3] at G2
        exact G2
    · rintro σ H' ⟨v1, v2, rfl, k1, G1⟩
      have e : ps.take (ts.map V.ref).length = ps := by rw [List.length_map, hP.len, List.take_length]
      rw [e] at G1
      exact q H' k1 G1
theorem sc_law_sold_by : FnScope ["_law_world_here", "_law_begin", "_law_end", "_law_found_here"] ["_law_world_here", "_law_begin", "_law_end"] (defScope s_law_sold_by) := ⟨rfl, rfl, rfl, by decide +kernel, rfl, by decide +kernel, by decide +kernel⟩
theorem c_law_sold_by (T : Tx K mg) : Cal P w K mg base 3 "_law_sold_by" (spSoldBy K) := by
  refine T.cal 32 71 rfl rfl sc_law_sold_by (fun _ _ _ _ _ _ us hl => match us, hl with | [_, _, _], _ => rfl) (fun vs H Q E h => ?_) fun cdv A outer s H vs Q E hr h => ?_
  · first | (obtain ⟨_, rfl, _⟩ := h; rfl) | (obtain ⟨_, _, rfl, _⟩ := h; rfl) | (obtain ⟨_, _, _, rfl, _⟩ := h; rfl) | (obtain ⟨_, _, _, _, rfl, _⟩ := h; rfl) | (obtain ⟨_, _, _, _, _, rfl, _⟩ := h; rfl) | (obtain ⟨_, _, _, _, _, _, rfl, _⟩ := h; rfl) | (obtain ⟨_, _, _, _, _, _, _, rfl, _⟩ := h; rfl) | (obtain ⟨_, _, _, _, _, _, _, _, rfl, _⟩ := h; rfl) | (obtain ⟨_, _, _, _, _, _, _, _, _, rfl, _⟩ := h; rfl) | (obtain ⟨_, _, _, _, _, _, _, _, _, _, rfl, _⟩ := h; rfl) | (obtain ⟨_, _, _, _, _, _, _, _, _, _, _, rfl, _⟩ := h; rfl) | (obtain ⟨_, _, _, _, _, _, _, _, _, _, _, _, rfl, _⟩ := h; rfl) | (obtain ⟨_, _, _, _, _, _, _, _, _, _, _, _, _, rfl, _⟩ := h; rfl) | (obtain ⟨_, _, _, _, _, _, _, _, _, _, _, _, _, _, rfl, _⟩ := h; rfl) | (obtain ⟨_, _, _, _, _, _, _, _, _, _, _, _, _, _, _, rfl, _⟩ := h; rfl)
  · refine ⟨_, (pss_cons (ps_if (PW.pt (pw_or (pt_cmpR op_lt (pv 1) pe_int (nomark _)) (pw_or (pt_cmpR op_ge (pv 1) (pv 2) (nomark _)) (pw_or1 (pt_cmpR op_gt (pv 2) (pe_callB (len_k K) (by rfl) (T.free 0) PySem.boot_len (pa_cons (pe_ix (ix_l K) (pe_ix (ix_l K) (pv 0) pe_int (fun _ _ => rfl)) pe_int (fun _ _ => rfl)) pa_nil)) (nomark _))))))
        (pss_one (ps_ret (pe_tup (pa_cons pe_str (pa_cons pe_non pa_nil)))))
        pss_nil)
      (pss_cons (ps_if (pt_cmpR op_notN1 (pe_c (c_law_full T) hr pz (pa_cons (pe_ix (ix_l K) (pv 0) pe_int (fun _ _ => rfl)) (pa_cons (pv 1) (pa_cons (pv 2) pa_nil)))) pe_non (nomark _))
        (pss_one (ps_ret (pe_tup (pa_cons pe_str (pa_cons pe_non pa_nil)))))
        pss_nil)
      (pss_cons (ps_set (i := 3) sc_law_sold_by.nd rfl (Or.inl rfl) (pe_c (c_law_found T) hr pz (pa_cons (pe_ix (ix_l K) (pv 0) pe_int (fun _ _ => rfl)) (pa_cons (pv 1) (pa_cons (pv 2) pa_nil)))))
      (pss_cons (ps_expr (pe_c (c_law_mark T) hr pz (pa_cons (pe_ix (ix_l K) (pv 0) pe_int (fun _ _ => rfl)) (pa_cons (pv 3) (pa_cons (pe_ix (ix_l K) (pv 0) pe_int (fun _ _ => rfl)) pa_nil)))))
      (pss_cons (ps_expr (pe_bm PySem.F.plainAttrs_list PySem.F.slot_list_append PySem.F.type_list_append mt_append (pe_ix (ix_l K) (pv 0) pe_int (fun _ _ => rfl)) (pa_cons (pe_ix (ix_l K) (pv 0) pe_int (fun _ _ => rfl)) pa_nil)))
      (pss_cons (ps_expr (pe_bm PySem.F.plainAttrs_list PySem.F.slot_list_append PySem.F.type_list_append mt_append (pe_ix (ix_l K) (pv 0) pe_int (fun _ _ => rfl)) (pa_cons (pv 3) pa_nil)))
      (pss_cons (ps_asg (pe_op op_add (pe_ix (ix_l K) (pv 0) pe_int (fun _ _ => rfl)) pe_int) (pg_sub (pv 0) pe_int set_list))
      (pss_one (ps_ret (pe_tup (pa_cons pe_str (pa_cons (pe_op op_sub (pe_ix (ix_l K) (pv 0) pe_int (fun _ _ => rfl)) pe_int) pa_nil)))))))))))), ?_⟩
    obtain ⟨U, w, T0, a, b, rfl, W0, G, few, D⟩ := h
    obtain ⟨r, so, pa, as, ls, R, hU⟩ := id W0
    have N := wne R.nd
    have wf := G.wf
    have w1 := wf.s1
    have w2 := wf.s2
    have w3 := wf.t1
    have w4 := wf.t2
    have hlen0 : T0.sold.length < 1000000 := Nat.lt_of_le_of_lt G.many few
    have g0 := List.getElem?_eq_getElem (l := T0.rows) (i := 0) w1
    obtain ⟨a0, ha0, hrow0⟩ := R.grid.row.right g0
    have hl0 : (T0.rows[0].map oV).length = T0.stops - 1 := by rw [List.length_map]; exact wf.legs _ (List.getElem_mem w1)
    have back : ∀ (word : Str), (runSell T0 a b).word = word → (runSell T0 a b).res = .non → (runSell T0 a b).tr = T0 → ∀ H2, Ex H H2 → (2 ≤ sizeLine ∧ ∀ t, H2 t = none → Q (.ref t) (upd H2 t (.tup [.str word, .non]))) := fun word h1 h2 h3 H2 e2 => ⟨by decide, fun t ft => by
      have e4 := Evl.Ex.new (o := .tup [.str word, .non]) ft
      exact D _ U t .non (Mv.ex (e2.trans e4)) (by rw [h3]; exact W0.ex (e2.trans e4)) (by rw [h1]; exact upd_same) (by rw [h2]; rfl)⟩
    have bad : ¬ Str3 T0 a b → (2 ≤ sizeLine ∧ ∀ t, H t = none → Q (.ref t) (upd H t (.tup [.str "stretch", .non]))) := fun hs => back "stretch" (by unfold runSell; rw [if_neg hs]) (by unfold runSell; rw [if_neg hs]) (by unfold runSell; rw [if_neg hs]) H (Evl.Ex.refl H)
    refine ⟨_, rfl, _, _, rfl, rfl, _, rfl, ?_⟩
    refine iteD (fun h1 => iteT (bad fun z => ?_)) (fun h1 => ?_)
    · have := z.1
      omega
    refine ⟨_, rfl, _, rfl, _, _, rfl, rfl, _, rfl, ?_⟩
    refine iteD (fun h2 => iteT (bad fun z => ?_)) (fun h2 => ?_)
    · have := z.2.1
      omega
    refine ⟨_, rfl, _, rfl, w, _, _, .ref r, rfl, rfl, SqL.of R.hw, at_of (j := 0) rfl rfl, r, _, _, .ref a0, rfl, rfl, SqL.of R.grid.top, at_of (j := 0) rfl (map_get ha0), a0, _, rfl, .inl (SqL.of hrow0), _, _, rfl, rfl, _, rfl, ?_⟩
    rw [hl0]
    refine iteD (fun h3 => bad fun z => ?_) (fun h3 => ?_)
    · have := z.2.2
      omega
    have hs : Str3 T0 a b := ⟨by omega, by omega, by omega⟩
    obtain ⟨an, rfl⟩ : ∃ n : Nat, a = n := ⟨a.toNat, by omega⟩
    obtain ⟨bn, rfl⟩ : ∃ n : Nat, b = n := ⟨b.toNat, by omega⟩
    refine ⟨_, rfl, w, _, _, .ref r, rfl, rfl, SqL.of R.hw, at_of (j := 0) rfl rfl, _, rfl, _, rfl, r, as, T0.rows, an, bn, rfl, R.grid, by omega, by omega, by omega, fun row m => by rw [wf.legs row m]; omega, fun H1 e1 => ?_⟩
    refine ⟨rfl, _, rfl, ?_⟩
    rw [oV_some]
    refine iteB (fun hf => ?_) (fun hf => ?_)
    · have hne : firstFull T0.rows ((an : Int)).toNat ((bn : Int)).toNat ≠ none := fun z => by
        have z : firstFull T0.rows an bn = none := z
        rw [z] at hf
        cases hf
      exact back "full" (by unfold runSell; rw [if_pos hs, if_neg hne]) (by unfold runSell; rw [if_pos hs, if_neg hne]) (by unfold runSell; rw [if_pos hs, if_neg hne]) H1 e1
    have hn : firstFull T0.rows an bn = none := Option.isSome_eq_false_iff.mp hf |> Option.isNone_iff_eq_none.mp
    have er : runSell T0 (an : Int) (bn : Int) = ⟨"", .num T0.coming, T0.sell an bn⟩ := by
      unfold runSell
      rw [if_pos hs, if_pos (show firstFull T0.rows ((an : Int)).toNat ((bn : Int)).toNat = none from hn)]
      rfl
    rw [er] at D
    have G1 := R.grid.mono e1
    have hw1 := e1 _ _ R.hw
    refine ⟨_, rfl, w, _, _, .ref r, rfl, rfl, SqL.of hw1, at_of (j := 0) rfl rfl, _, rfl, _, rfl, r, as, T0.rows, T0.stops - 1, an, bn, rfl, G1, wf.legs, by omega, by omega, by omega, by omega, full_none.mp hn, fun H2 l e2 hl hP => ?_⟩
    have hw2 := e2 _ _ hw1
    have G2 := G1.mono e2
    obtain ⟨wy, _⟩ := found_way wf.legs (e := bn) (by omega) _ an (Nat.le_refl _) (by omega) (full_none.mp hn)
    have E2 : Ex H H2 := e1.trans e2
    have hlH : H l = none := Evl.fresh_back e1 hl
    have old : ∀ c o, H c = some o → l ≠ c := fun c o h z => by
      rw [← z, hlH] at h
      cases h
    have nla : l ∉ as := fun m => by
      obtain ⟨y, _, z⟩ := R.grid.row.mem_left m
      exact old l _ z rfl
    refine ⟨_, rfl, w, _, _, .ref r, rfl, rfl, SqL.of hw2, at_of (j := 0) rfl rfl, _, rfl, _, rfl, w, _, _, .int T0.coming, rfl, rfl, SqL.of hw2, at_of (j := 3) rfl rfl, r, as, T0.rows, T0.stops - 1, l, found T0.rows an bn, some T0.coming, rfl, G2, N.nd, N.ra, nla, wf.legs, hP, fun q m => wy.valid (by omega) q m, by omega, fun H3 k3 G3 => ?_⟩
    have hw3 := k3 _ _ N.wa hw2
    have hso3 := k3 _ _ N.sa (E2 _ _ R.hso)
    have hpa3 := k3 _ _ N.pa_ (E2 _ _ R.hpa)
    have hll : ∀ x xs, H2 x = some (.tup xs) → H3 x = some (.tup xs) := fun x xs h => k3 x _ (fun m => by
      obtain ⟨y, _, z⟩ := G2.row.mem_left m
      rw [show H2 x = _ from z] at h
      cases h) h
    obtain ⟨us, hl2, hP2⟩ := hP
    have hl3 := k3 _ _ nla hl2
    have hlso : l ≠ so := old so _ R.hso
    have hlpa : l ≠ pa := old pa _ R.hpa
    have hlw : l ≠ w := old w _ R.hw
    have hlr : l ≠ r := old r _ R.grid.top
    refine ⟨_, rfl, w, _, _, .ref so, rfl, rfl, SqL.of hw3, at_of (j := 1) rfl rfl, .inl ⟨rfl, _, SqL.of hso3⟩, ?_⟩
    refine ⟨_, rfl, w, _, _, .int T0.coming, rfl, rfl, SqL.of hw3, at_of (j := 3) rfl rfl, so, _, _, rfl, rfl, hso3, ?_, ?_⟩
    · rw [List.length_map, List.length_map]
      exact Nat.lt_trans hlen0 (by decide)
    have n4 : ∀ c, c ≠ so → upd H3 so (.lst ((T0.sold.map fun x => (x.1 : Int)).map V.int ++ [.int T0.coming])) c = H3 c := fun c h => upd_ne h
    refine ⟨_, rfl, w, _, _, .ref pa, rfl, rfl, SqL.of (by rw [n4 _ N.ws]; exact hw3), at_of (j := 2) rfl rfl, .inl ⟨rfl, _, SqL.of (by rw [n4 _ N.sp.symm]; exact hpa3)⟩, ?_⟩
    refine ⟨_, rfl, pa, _, _, rfl, rfl, (by rw [n4 _ N.sp.symm]; exact hpa3), ?_, ?_⟩
    · rw [List.length_map, R.prt.len, List.length_map]
      exact Nat.lt_trans hlen0 (by decide)
    have n5 : ∀ c, c ≠ so → c ≠ pa → upd (upd H3 so (.lst ((T0.sold.map fun x => (x.1 : Int)).map V.int ++ [.int T0.coming]))) pa (.lst (ls.map V.ref ++ [.ref l])) c = H3 c := fun c h h2 => by rw [upd_ne h2, upd_ne h]
    refine ⟨_, rfl, w, _, _, .int T0.coming, rfl, rfl, SqL.of (by rw [n5 _ N.ws N.wp]; exact hw3), at_of (j := 3) rfl rfl, _, _, rfl, rfl, _, rfl, w, _, _, 3, rfl, rfl, (by rw [n5 _ N.ws N.wp]; exact hw3), rfl, ?_⟩
    have n6 : ∀ c, c ≠ so → c ≠ pa → c ≠ w → upd (upd (upd H3 so (.lst ((T0.sold.map fun x => (x.1 : Int)).map V.int ++ [.int T0.coming]))) pa (.lst (ls.map V.ref ++ [.ref l]))) w (.lst [.ref r, .ref so, .ref pa, .int ((T0.coming : Int) + 1)]) c = H3 c := fun c h h2 h3 => by rw [upd_ne h3, upd_ne h2, upd_ne h]
    refine ⟨_, rfl, w, _, _, .int ((T0.coming : Int) + 1), rfl, rfl, SqL.of upd_same, at_of (j := 3) rfl rfl, _, _, rfl, rfl, ?_⟩
    refine ⟨by show 2 ≤ sizeLine; decide, fun t ft => ?_⟩
    have e1' : (T0.coming : Int) + 1 - 1 = (T0.coming : Int) := by omega
    show Q (.ref t) (upd _ t (.tup [.str "", .int ((T0.coming : Int) + 1 - 1)]))
    rw [e1']
    have ft' : upd (upd (upd H3 so (.lst ((T0.sold.map fun x => (x.1 : Int)).map V.int ++ [.int T0.coming]))) pa (.lst (ls.map V.ref ++ [.ref l]))) w (.lst [.ref r, .ref so, .ref pa, .int ((T0.coming : Int) + 1)]) t = none := ft
    obtain ⟨t1, t2⟩ := fresh_upd ft'
    obtain ⟨t3, t4⟩ := fresh_upd t2
    obtain ⟨t5, t6⟩ := fresh_upd t4
    have e7 := Evl.Ex.new (o := .tup [.str "", .int (T0.coming : Int)]) ft'
    have est : T0.sell an bn = ⟨T0.stops, markAll T0.rows (found T0.rows an bn) (some T0.coming), T0.sold ++ [(T0.coming, found T0.rows an bn)], T0.coming + 1⟩ := by
      unfold Tr.sell
      rw [putS_new G.low]
    have tupk : ∀ x xs, H3 x = some (.tup xs) → upd (upd (upd H3 so (.lst ((T0.sold.map fun x => (x.1 : Int)).map V.int ++ [.int T0.coming]))) pa (.lst (ls.map V.ref ++ [.ref l]))) w (.lst [.ref r, .ref so, .ref pa, .int ((T0.coming : Int) + 1)]) x = some (.tup xs) := fun x xs h => by
      rw [n6 x (ne_of h hso3 (fun z => by cases z)) (ne_of h hpa3 (fun z => by cases z)) (ne_of h hw3 (fun z => by cases z))]
      exact h
    refine D _ (fun a => U a ∨ a = l) t _ ⟨fun a o na ha => ?_, fun a xs ha => e7 _ _ (tupk _ _ (hll _ _ (E2 _ _ ha))), fun a z => ?_⟩ ?_ upd_same rfl
    · have na0 : ∀ c, c ∈ [w, r, so, pa] ++ as ++ ls → a ≠ c := fun c m z => na (by rw [z]; exact hU c m)
      have ma : a ∉ as := fun m => na0 a (by simp [m]) rfl
      refine e7 _ _ ?_
      rw [n6 a (na0 _ (by simp)) (na0 _ (by simp)) (na0 _ (by simp))]
      exact k3 a o ma (E2 _ _ ha)
    · rcases z with z | z
      · exact .inl z
      · rw [z]
        exact .inr hlH
    · show WorldAt _ _ w (T0.sell an bn)
      rw [est]
      refine ⟨r, so, pa, as, ls ++ [l], ⟨e7 _ _ ?_, ⟨e7 _ _ ?_, G3.row.monoM fun c row m _ z => e7 _ _ ?_⟩, e7 _ _ ?_, e7 _ _ ?_, ?_, R.nd, fun c m => ?_⟩, fun c m => ?_⟩
      · rw [upd_same, Int.natCast_succ]
      · rw [n6 r N.rs N.rp N.wr.symm]
        exact G3.top
      · rw [n6 c (fun z => N.sa (z ▸ m)) (fun z => N.pa_ (z ▸ m)) (fun z => N.wa (z ▸ m))]
        exact z
      · rw [upd_ne N.ws.symm, upd_ne N.sp, upd_same, List.map_append, List.map_append]
        rfl
      · rw [upd_ne N.wp.symm, upd_same, List.map_append]
        rfl
      · rw [List.map_append]
        refine All2.snoc (R.prt.monoM fun c qs m _ ⟨vs, q1, q2⟩ => ?_) ?_
        rotate_left
        · obtain ⟨z1, z2, z3, z4, z5⟩ := lne (R.lf c m)
          refine ⟨vs, e7 _ _ ?_, q2.mono fun x y z => e7 _ _ (tupk _ _ (hll _ _ (E2 _ _ z)))⟩
          rw [n6 c z3 z4 z1]
          exact k3 c _ z5 (E2 _ _ q1)
        · refine ⟨us, e7 _ _ ?_, hP2.mono fun x y z => e7 _ _ (tupk _ _ (hll _ _ z))⟩
          rw [n6 l hlso hlpa hlw]
          exact hl3
      · rcases List.mem_append.mp m with m | m
        · exact R.lf c m
        · rw [List.mem_singleton.mp m]
          simp only [List.cons_append, List.nil_append, List.mem_cons, not_or]
          exact ⟨hlw, hlr, hlso, hlpa, nla⟩
      · rcases List.mem_append.mp m with m | m
        · exact .inl (hU c (List.mem_append_left _ m))
        · rcases List.mem_append.mp m with m | m
          · exact .inl (hU c (List.mem_append_right _ m))
          · exact .inr (List.mem_singleton.mp m)
theorem sc_law_left : FnScope ["_law_found_here", "_law_stop", "_law_kept", "_law_gone", "_law_one"] ["_law_found_here", "_law_stop"] (defScope s_law_left) := ⟨rfl, rfl, rfl, by decide +kernel, rfl, by decide +kernel, by decide +kernel⟩
theorem c_law_left (T : Tx K mg) : Cal P w K mg base 1 "_law_left" (spLeft K) := by
  refine T.cal 33 72 rfl rfl sc_law_left (fun _ _ _ _ _ _ us hl => match us, hl with | [_, _], _ => rfl) (fun vs H Q E h => ?_) fun cdv A outer s H vs Q E hr h => ?_
  · first | (obtain ⟨_, rfl, _⟩ := h; rfl) | (obtain ⟨_, _, rfl, _⟩ := h; rfl) | (obtain ⟨_, _, _, rfl, _⟩ := h; rfl) | (obtain ⟨_, _, _, _, rfl, _⟩ := h; rfl) | (obtain ⟨_, _, _, _, _, rfl, _⟩ := h; rfl) | (obtain ⟨_, _, _, _, _, _, rfl, _⟩ := h; rfl) | (obtain ⟨_, _, _, _, _, _, _, rfl, _⟩ := h; rfl) | (obtain ⟨_, _, _, _, _, _, _, _, rfl, _⟩ := h; rfl) | (obtain ⟨_, _, _, _, _, _, _, _, _, rfl, _⟩ := h; rfl) | (obtain ⟨_, _, _, _, _, _, _, _, _, _, rfl, _⟩ := h; rfl) | (obtain ⟨_, _, _, _, _, _, _, _, _, _, _, rfl, _⟩ := h; rfl) | (obtain ⟨_, _, _, _, _, _, _, _, _, _, _, _, rfl, _⟩ := h; rfl) | (obtain ⟨_, _, _, _, _, _, _, _, _, _, _, _, _, rfl, _⟩ := h; rfl) | (obtain ⟨_, _, _, _, _, _, _, _, _, _, _, _, _, _, rfl, _⟩ := h; rfl) | (obtain ⟨_, _, _, _, _, _, _, _, _, _, _, _, _, _, _, rfl, _⟩ := h; rfl)
  · refine ⟨_, (pss_cons (ps_setLc (i := 2) (own := [("_law_one", 4)]) (g := gName 4)  rfl sc_law_left.nd rfl rfl (sw_true rfl rfl rfl (by decide +kernel)) (pi_l K (pv 0)) (blkOk_by (N := ["_law_found_here", "_law_stop", "_law_kept", "_law_gone", "_law_one"]) (sc := defScope s_law_left) (by decide +kernel)) (fun _ _ _ _ _ => pg_name (i := 4) sc_law_left.nd rfl (Or.inl rfl)) (fun _ _ _ _ _ => (pts_one (pt_cmpR op_lt (pe_ix (ix_t K) (pv 4) pe_int (fun _ _ => rfl)) (pv 1) (nomark _)))) (fun _ _ _ _ _ => (pe_tup (pa_cons (pe_ix (ix_t K) (pv 4) pe_int (fun _ _ => rfl)) (pa_cons (pe_ix (ix_t K) (pv 4) pe_int (fun _ _ => rfl)) (pa_cons (pe_callB (call_min2 rfl) (by rfl) (T.free 26) (by decide +kernel) (pa_cons (pe_ix (ix_t K) (pv 4) pe_int (fun _ _ => rfl)) (pa_cons (pv 1) pa_nil))) pa_nil))))))
      (pss_cons (ps_setLc (i := 3) (own := [("_law_one", 4)]) (g := gName 4)  rfl sc_law_left.nd rfl rfl (sw_true rfl rfl rfl (by decide +kernel)) (pi_l K (pv 0)) (blkOk_by (N := ["_law_found_here", "_law_stop", "_law_kept", "_law_gone", "_law_one"]) (sc := defScope s_law_left) (by decide +kernel)) (fun _ _ _ _ _ => pg_name (i := 4) sc_law_left.nd rfl (Or.inl rfl)) (fun _ _ _ _ _ => (pts_one (pt_cmpR op_gt (pe_ix (ix_t K) (pv 4) pe_int (fun _ _ => rfl)) (pv 1) (nomark _)))) (fun _ _ _ _ _ => (pe_tup (pa_cons (pe_ix (ix_t K) (pv 4) pe_int (fun _ _ => rfl)) (pa_cons (pe_callB (call_max2 rfl) (by rfl) (T.free 24) (by decide +kernel) (pa_cons (pe_ix (ix_t K) (pv 4) pe_int (fun _ _ => rfl)) (pa_cons (pv 1) pa_nil))) (pa_cons (pe_ix (ix_t K) (pv 4) pe_int (fun _ _ => rfl)) pa_nil))))))
      (pss_one (ps_ret (pe_tup (pa_cons (pv 2) (pa_cons (pv 3) pa_nil))))))), ?_⟩
    obtain ⟨l, ps, c, rfl, ⟨ts, hl1, hP1⟩, hpl, q⟩ := h
    refine ⟨_, rfl, l, rfl, ⟨_, SqL.of hl1⟩, fun D1 f1 => ?_⟩
    refine lc_parts f1 hl1 hP1 hpl (fun q => decide (q.2.1 < c)) (fun q => (q.1, q.2.1, min q.2.2 c)) (fun _ => rfl) (fun q t H2 mq e2 hq Q2 k => ?_) (fun q t H2 mq hf e2 hq Q2 k => ?_) ?_
    · refine ⟨_, rfl, t, _, _, _, rfl, rfl, SqT.of hq, at_of (j := 1) rfl rfl, _, rfl, _, _, rfl, rfl, _, rfl, ?_⟩
      have : decide ((q.2.1 : Int) < (c : Int)) = decide (q.2.1 < c) := decide_eq_decide.mpr (by omega)
      rw [this]
      exact k
    · refine ⟨_, rfl, t, _, _, _, rfl, rfl, SqT.of hq, at_of (j := 0) rfl rfl, _, rfl, t, _, _, _, rfl, rfl, SqT.of hq, at_of (j := 1) rfl rfl, _, rfl, t, _, _, _, rfl, rfl, SqT.of hq, at_of (j := 2) rfl rfl, _, rfl, _, _, rfl, ?_⟩
      have hm : (if (c : Int) < (q.2.2 : Int) then (c : Int) else (q.2.2 : Int)) = ((min q.2.2 c : Nat) : Int) := by split <;> omega
      rw [hm]
      exact ⟨by show 3 ≤ sizeLine; decide, fun a ha => k a ha⟩
    intro H2 e2 PK
    have hl2 := e2 _ _ hl1
    have hP2 : All2 (PartAt H2) ts ps := hP1.mono fun _ _ z => e2 _ _ z
    refine ⟨_, rfl, l, rfl, ⟨_, SqL.of hl2⟩, fun D2 f2 => ?_⟩
    refine lc_parts f2 hl2 hP2 hpl (fun q => decide (c < q.2.2)) (fun q => (q.1, max q.2.1 c, q.2.2)) (fun _ => rfl) (fun q t H2 mq e2 hq Q2 k => ?_) (fun q t H2 mq hf e2 hq Q2 k => ?_) ?_
    · refine ⟨_, rfl, t, _, _, _, rfl, rfl, SqT.of hq, at_of (j := 2) rfl rfl, _, rfl, _, _, rfl, rfl, _, rfl, ?_⟩
      have : decide ((q.2.2 : Int) > (c : Int)) = decide (c < q.2.2) := decide_eq_decide.mpr (by omega)
      rw [this]
      exact k
    · refine ⟨_, rfl, t, _, _, _, rfl, rfl, SqT.of hq, at_of (j := 0) rfl rfl, _, rfl, t, _, _, _, rfl, rfl, SqT.of hq, at_of (j := 1) rfl rfl, _, rfl, _, _, rfl, ?_⟩
      have hm : (if (c : Int) > (q.2.1 : Int) then (c : Int) else (q.2.1 : Int)) = ((max q.2.1 c : Nat) : Int) := by split <;> omega
      rw [hm]
      exact ⟨_, rfl, t, _, _, _, rfl, rfl, SqT.of hq, at_of (j := 2) rfl rfl, by show 3 ≤ sizeLine; decide, fun a ha => k a ha⟩
    intro H3 e3 PG
    refine ⟨_, rfl, _, rfl, by show 2 ≤ sizeLine; decide, fun t ft => ?_⟩
    have e4 := Evl.Ex.new (o := .tup [.ref D1, .ref D2]) ft
    exact q _ t D1 D2 (e2.trans (e3.trans e4)) upd_same f1 (Evl.fresh_back e2 f2) (PK.mono (e3.trans e4)) (PG.mono e4)
theorem sc_law_done_by : FnScope ["_law_world_here", "_law_deed", "_law_at", "_law_found_here", "_law_both"] ["_law_world_here", "_law_deed"] (defScope s_law_done_by) := ⟨rfl, rfl, rfl, by decide +kernel, rfl, by decide +kernel, by decide +kernel⟩
theorem c_law_done_by (T : Tx K mg) : Cal P w K mg base 4 "_law_done_by" (spDoneBy K) := by
  refine T.cal 34 73 rfl rfl sc_law_done_by (fun _ _ _ _ _ _ us hl => match us, hl with | [_, _], _ => rfl) (fun vs H Q E h => ?_) fun cdv A outer s H vs Q E hr h => ?_
  · first | (obtain ⟨_, rfl, _⟩ := h; rfl) | (obtain ⟨_, _, rfl, _⟩ := h; rfl) | (obtain ⟨_, _, _, rfl, _⟩ := h; rfl) | (obtain ⟨_, _, _, _, rfl, _⟩ := h; rfl) | (obtain ⟨_, _, _, _, _, rfl, _⟩ := h; rfl) | (obtain ⟨_, _, _, _, _, _, rfl, _⟩ := h; rfl) | (obtain ⟨_, _, _, _, _, _, _, rfl, _⟩ := h; rfl) | (obtain ⟨_, _, _, _, _, _, _, _, rfl, _⟩ := h; rfl) | (obtain ⟨_, _, _, _, _, _, _, _, _, rfl, _⟩ := h; rfl) | (obtain ⟨_, _, _, _, _, _, _, _, _, _, rfl, _⟩ := h; rfl) | (obtain ⟨_, _, _, _, _, _, _, _, _, _, _, rfl, _⟩ := h; rfl) | (obtain ⟨_, _, _, _, _, _, _, _, _, _, _, _, rfl, _⟩ := h; rfl) | (obtain ⟨_, _, _, _, _, _, _, _, _, _, _, _, _, rfl, _⟩ := h; rfl) | (obtain ⟨_, _, _, _, _, _, _, _, _, _, _, _, _, _, rfl, _⟩ := h; rfl) | (obtain ⟨_, _, _, _, _, _, _, _, _, _, _, _, _, _, _, rfl, _⟩ := h; rfl)
  · refine ⟨_, (pss_cons (ps_if (pt_cmpR op_eq (pe_ix (ix_t K) (pv 1) pe_int (fun _ _ => rfl)) pe_str (nomark _))
        (pss_one (ps_ret (pe_c (c_law_sold_by T) hr pz (pa_cons (pv 0) (pa_cons (pe_ix (ix_t K) (pv 1) pe_int (fun _ _ => rfl)) (pa_cons (pe_ix (ix_t K) (pv 1) pe_int (fun _ _ => rfl)) pa_nil))))))
        pss_nil)
      (pss_cons (ps_if (pt_cmpR (notin_k K) (pe_ix (ix_t K) (pv 1) pe_int (fun _ _ => rfl)) (pe_ix (ix_l K) (pv 0) pe_int (fun _ _ => rfl)) (by rfl))
        (pss_one (ps_ret (pe_tup (pa_cons pe_str (pa_cons pe_non pa_nil)))))
        pss_nil)
      (pss_cons (ps_set (i := 2) sc_law_done_by.nd rfl (Or.inl rfl) (pe_bm PySem.F.plainAttrs_list PySem.F.slot_list_index PySem.F.type_list_index (idx_k K) (pe_ix (ix_l K) (pv 0) pe_int (fun _ _ => rfl)) (pa_cons (pe_ix (ix_t K) (pv 1) pe_int (fun _ _ => rfl)) pa_nil)))
      (pss_cons (ps_set (i := 3) sc_law_done_by.nd rfl (Or.inl rfl) (pe_ix (ix_l K) (pe_ix (ix_l K) (pv 0) pe_int (fun _ _ => rfl)) (pv 2) (fun _ _ => rfl)))
      (pss_cons (ps_if (pt_cmpR op_eq (pe_ix (ix_t K) (pv 1) pe_int (fun _ _ => rfl)) pe_str (nomark _))
        (pss_cons (ps_if (PW.pt (pw_or (pt_cmpR op_le (pe_ix (ix_t K) (pv 1) pe_int (fun _ _ => rfl)) (pe_ix (ix_t K) (pe_ix (ix_l K) (pv 3) pe_int (fun _ _ => rfl)) pe_int (fun _ _ => rfl)) (nomark _)) (pw_or1 (pt_cmpR op_ge (pe_ix (ix_t K) (pv 1) pe_int (fun _ _ => rfl)) (pe_ix (ix_t K) (pe_ix (ix_l K) (pv 3) (pe_un un_neg pe_int) (fun _ _ => rfl)) pe_int (fun _ _ => rfl)) (nomark _)))))
          (pss_one (ps_ret (pe_tup (pa_cons pe_str (pa_cons pe_non pa_nil)))))
          pss_nil)
        (pss_cons (ps_set (i := 4) sc_law_done_by.nd rfl (Or.inl rfl) (pe_c (c_law_left T) hr pz (pa_cons (pv 3) (pa_cons (pe_ix (ix_t K) (pv 1) pe_int (fun _ _ => rfl)) pa_nil))))
        (pss_cons (ps_expr (pe_c (c_law_mark T) hr pz (pa_cons (pe_ix (ix_l K) (pv 0) pe_int (fun _ _ => rfl)) (pa_cons (pe_ix (ix_t K) (pv 4) pe_int (fun _ _ => rfl)) (pa_cons pe_non pa_nil)))))
        (pss_cons (ps_asg (pe_ix (ix_t K) (pv 4) pe_int (fun _ _ => rfl)) (pg_sub (pe_ix (ix_l K) (pv 0) pe_int (fun _ _ => rfl)) (pv 2) set_list))
        (pss_one (ps_ret (pe_tup (pa_cons pe_str (pa_cons (pe_ix (ix_t K) (pv 4) pe_int (fun _ _ => rfl)) pa_nil)))))))))
        pss_nil)
      (pss_cons (ps_expr (pe_c (c_law_mark T) hr pz (pa_cons (pe_ix (ix_l K) (pv 0) pe_int (fun _ _ => rfl)) (pa_cons (pv 3) (pa_cons pe_non pa_nil)))))
      (pss_cons (ps_if (pt_cmpR op_eq (pe_ix (ix_t K) (pv 1) pe_int (fun _ _ => rfl)) pe_str (nomark _))
        (pss_cons (ps_expr (pe_bm PySem.F.plainAttrs_list PySem.F.slot_list_pop PySem.F.type_list_pop mt_popAt (pe_ix (ix_l K) (pv 0) pe_int (fun _ _ => rfl)) (pa_cons (pv 2) pa_nil)))
        (pss_cons (ps_expr (pe_bm PySem.F.plainAttrs_list PySem.F.slot_list_pop PySem.F.type_list_pop mt_popAt (pe_ix (ix_l K) (pv 0) pe_int (fun _ _ => rfl)) (pa_cons (pv 2) pa_nil)))
        (pss_one (ps_ret (pe_tup (pa_cons pe_str (pa_cons (pv 3) pa_nil)))))))
        pss_nil)
      (pss_cons (ps_asg (pe_c (c_law_found T) hr pz (pa_cons (pe_ix (ix_l K) (pv 0) pe_int (fun _ _ => rfl)) (pa_cons (pe_ix (ix_t K) (pe_ix (ix_l K) (pv 3) pe_int (fun _ _ => rfl)) pe_int (fun _ _ => rfl)) (pa_cons (pe_ix (ix_t K) (pe_ix (ix_l K) (pv 3) (pe_un un_neg pe_int) (fun _ _ => rfl)) pe_int (fun _ _ => rfl)) pa_nil)))) (pg_sub (pe_ix (ix_l K) (pv 0) pe_int (fun _ _ => rfl)) (pv 2) set_list))
      (pss_cons (ps_expr (pe_c (c_law_mark T) hr pz (pa_cons (pe_ix (ix_l K) (pv 0) pe_int (fun _ _ => rfl)) (pa_cons (pe_ix (ix_l K) (pe_ix (ix_l K) (pv 0) pe_int (fun _ _ => rfl)) (pv 2) (fun _ _ => rfl)) (pa_cons (pe_ix (ix_t K) (pv 1) pe_int (fun _ _ => rfl)) pa_nil)))))
      (pss_one (ps_ret (pe_tup (pa_cons pe_str (pa_cons (pe_ix (ix_l K) (pe_ix (ix_l K) (pv 0) pe_int (fun _ _ => rfl)) (pv 2) (fun _ _ => rfl)) pa_nil)))))))))))))), ?_⟩
    obtain ⟨U, w, T0, d, ⟨k, a, b⟩, rfl, W0, G, few, hd, D⟩ := h
    have hd' : H d = some (.tup [.str k.str, .int a, .int b]) := hd
    refine ⟨_, rfl, d, _, _, _, rfl, rfl, SqT.of hd', at_of (j := 0) rfl rfl, rfl, _, rfl, ?_⟩
    refine iteD (fun h1 => ?_) (fun h1 => ?_)
    · have hk : k = .sell := by
        cases k with
        | sell => rfl
        | back => exact absurd (V.str.inj h1) (by decide +kernel)
        | leave => exact absurd (V.str.inj h1) (by decide +kernel)
        | reseat => exact absurd (V.str.inj h1) (by decide +kernel)
      subst hk
      exact ⟨_, rfl, _, rfl, d, _, _, _, rfl, rfl, SqT.of hd', at_of (j := 1) rfl rfl, _, rfl, d, _, _, _, rfl, rfl, SqT.of hd', at_of (j := 2) rfl rfl, U, w, T0, a, b, rfl, W0, G, few, D⟩
    obtain ⟨r, so, pa, as, ls, R, hU⟩ := id W0
    have N := wne R.nd
    have wf := G.wf
    have w2 := wf.s2
    have w4 := wf.t2
    have back : ∀ (word : Str), (T0.run ⟨k, a, b⟩).word = word → word ≠ "" → ∀ H2, Ex H H2 → (2 ≤ sizeLine ∧ ∀ t, H2 t = none → Q (.ref t) (upd H2 t (.tup [.str word, .non]))) := fun word h1 hne H2 e2 => ⟨by decide, fun t ft => by
      have e4 := Evl.Ex.new (o := .tup [.str word, .non]) ft
      obtain ⟨h2, h3⟩ := run_refused T0 ⟨k, a, b⟩ (by rw [h1]; exact hne)
      exact D _ U t .non (Mv.ex (e2.trans e4)) (by rw [h3]; exact W0.ex (e2.trans e4)) (by rw [h1]; exact upd_same) (by rw [h2]; rfl)⟩
    refine ⟨_, rfl, d, _, _, _, rfl, rfl, SqT.of hd', at_of (j := 1) rfl rfl, _, rfl, w, _, _, .ref so, rfl, rfl, SqL.of R.hw, at_of (j := 1) rfl rfl, so, _, rfl, .inl (SqL.of R.hso), rfl, flat_ints _, _, rfl, ?_⟩
    rw [in_sold]
    cases hg : getS T0.sold a with
    | none =>
      refine iteT (back "ticket" ?_ (by decide +kernel) H (Evl.Ex.refl H))
      cases k with
      | sell => exact absurd rfl h1
      | back =>
        show (runBack T0 a).word = _
        unfold runBack
        rw [hg]
      | leave =>
        show (runLeave T0 a b).word = _
        unfold runLeave
        rw [hg]
      | reseat =>
        show (runReseat T0 a).word = _
        unfold runReseat
        rw [hg]
    | some ps =>
    refine iteF ?_
    obtain ⟨i, n, rfl, hi, ho⟩ := getS_ix hg wf.rising
    have mn := List.mem_of_getElem? hi
    obtain ⟨b0, e0, hb0, he0, wy⟩ := G.way _ mn
    dsimp only at wy
    have hne := wy.ne hb0
    obtain ⟨eb, ee⟩ := wy.hd hb0
    have hpl : ps.length ≤ 100000 := by
      have := wy.len
      omega
    have hi2 : ((T0.sold.map fun x => (x.1 : Int)).map V.int)[i]? = some (.int (n : Int)) := by
      rw [List.getElem?_map, List.getElem?_map, hi]
      rfl
    have hps : (T0.sold.map (·.2))[i]? = some ps := map_get hi
    obtain ⟨l, hl, hP⟩ := R.prt.right hps
    have ml := List.mem_of_getElem? hl
    have hla := map_get (f := V.ref) hl
    refine ⟨_, rfl, w, _, _, .ref so, rfl, rfl, SqL.of R.hw, at_of (j := 1) rfl rfl, .inl ⟨rfl, _, SqL.of R.hso⟩, ?_⟩
    refine ⟨_, rfl, d, _, _, _, rfl, rfl, SqT.of hd', at_of (j := 1) rfl rfl, so, _, .int (n : Int), i, .int (n : Int), rfl, rfl, SqL.of R.hso, rfl, flat_ints _, hi2, beq_self_eq_true _, ?_, ?_⟩
    · intro m z hm hz
      obtain ⟨y, hy, rfl⟩ := map_back hz
      obtain ⟨x, hx, rfl⟩ := map_back hy
      have := ho m x hx (by omega)
      exact beq_eq_false_iff_ne.mpr (fun z => this (Int.ofNat_inj.mp z))
    refine ⟨_, rfl, w, _, _, .ref pa, rfl, rfl, SqL.of R.hw, at_of (j := 2) rfl rfl, _, rfl, pa, _, _, .ref l, rfl, rfl, SqL.of R.hpa, at_of (j := i) rfl hla, ?_⟩
    have hnl := R.lf l ml
    obtain ⟨z1, z2, z3, z4, z5⟩ := lne hnl
    obtain ⟨ts, hl1, hP1⟩ := id hP
    obtain ⟨t0, t1, at0, at1, g0, g1⟩ := parts_ends hl1 hP1 hne
    refine ⟨_, rfl, d, _, _, _, rfl, rfl, SqT.of hd', at_of (j := 0) rfl rfl, rfl, _, rfl, ?_⟩
    refine iteD (fun h2 => ?_) (fun h2 => ?_)
    · have hk : k = .leave := by
        cases k with
        | leave => rfl
        | sell => exact absurd rfl h1
        | back => exact absurd (V.str.inj h2) (by decide +kernel)
        | reseat => exact absurd (V.str.inj h2) (by decide +kernel)
      subst hk
      have er : T0.run ⟨.leave, (n : Int), b⟩ = if ((hdP ps).2.1 : Int) < b ∧ b < ((ltP ps).2.2 : Int) then ⟨"", .parts (goneP ps b.toNat), T0.leave n b.toNat ps⟩ else ⟨"stop", .non, T0⟩ := by
        show runLeave T0 n b = _
        unfold runLeave
        rw [hg]
        rfl
      have stp : ¬ (((hdP ps).2.1 : Int) < b ∧ b < ((ltP ps).2.2 : Int)) → ∀ H2, Ex H H2 → (2 ≤ sizeLine ∧ ∀ t, H2 t = none → Q (.ref t) (upd H2 t (.tup [.str "stop", .non]))) := fun hc => back "stop" (by rw [er, if_neg hc]) (by decide +kernel)
      refine ⟨_, rfl, d, _, _, _, rfl, rfl, SqT.of hd', at_of (j := 2) rfl rfl, _, rfl, l, _, _, .ref t0, rfl, rfl, SqL.of hl1, at0, t0, _, _, _, rfl, rfl, SqT.of g0, at_of (j := 1) rfl rfl, _, _, rfl, rfl, _, rfl, ?_⟩
      refine iteD (fun c1 => iteT (stp (fun z => by omega) H (Evl.Ex.refl H))) (fun c1 => ?_)
      refine ⟨_, rfl, d, _, _, _, rfl, rfl, SqT.of hd', at_of (j := 2) rfl rfl, _, rfl, _, rfl, l, _, _, .ref t1, rfl, rfl, SqL.of hl1, at1, t1, _, _, _, rfl, rfl, SqT.of g1, at_of (j := 2) rfl rfl, _, _, rfl, rfl, _, rfl, ?_⟩
      refine iteD (fun c2 => stp (fun z => by omega) H (Evl.Ex.refl H)) (fun c2 => ?_)
      rw [if_pos ⟨by omega, by omega⟩] at er
      obtain ⟨bn, rfl⟩ : ∃ x : Nat, b = x := ⟨b.toNat, by omega⟩
      rw [Int.toNat_natCast] at er
      rw [er] at D
      have wg := gone_way wy (s := bn) (by omega) (by omega)
      refine ⟨_, rfl, _, rfl, d, _, _, _, rfl, rfl, SqT.of hd', at_of (j := 2) rfl rfl, l, ps, bn, rfl, hP, hpl, fun H1 t kk gg e1 ht fk fg PK PG => ?_⟩
      have R1 := R.ex e1
      have old : ∀ c o x, H x = none → H c = some o → x ≠ c := fun c o x hx h z => by
        rw [← z, hx] at h
        cases h
      have fr : ∀ x, H x = none → x ∉ [w, r, so, pa] ++ as := fun x hx m => by
        rcases List.mem_append.mp m with m | m
        · simp only [List.mem_cons, List.not_mem_nil, or_false] at m
          rcases m with m | m | m | m
          · exact old _ _ x hx R.hw m
          · exact old _ _ x hx R.grid.top m
          · exact old _ _ x hx R.hso m
          · exact old _ _ x hx R.hpa m
        · obtain ⟨y, _, z⟩ := R.grid.row.mem_left m
          exact old _ _ x hx z rfl
      have nk := fr _ fk
      have ng := fr _ fg
      refine ⟨_, rfl, w, _, _, .ref r, rfl, rfl, SqL.of R1.hw, at_of (j := 0) rfl rfl, _, rfl, t, _, _, .ref gg, rfl, rfl, SqT.of ht, at_of (j := 1) rfl rfl, r, as, T0.rows, T0.stops - 1, gg, goneP ps bn, none, rfl, R1.grid, N.nd, N.ra, (lne ng).2.2.2.2, wf.legs, PG, fun q m => wg.valid he0 q m, by omega, fun H2 k2 G2 => ?_⟩
      have tk2 : ∀ x xs, H1 x = some (.tup xs) → H2 x = some (.tup xs) := fun x xs h => k2 x _ (nas_tup R1.grid h) h
      have R2 := R1.rows k2 G2
      have ht2 := tk2 _ _ ht
      have PK2 := parts_at PK (fun o h => k2 _ o (lne nk).2.2.2.2 h) tk2
      have PG2 := parts_at PG (fun o h => k2 _ o (lne ng).2.2.2.2 h) tk2
      refine ⟨_, rfl, t, _, _, .ref kk, rfl, rfl, SqT.of ht2, at_of (j := 0) rfl rfl, _, rfl, w, _, _, .ref pa, rfl, rfl, SqL.of R2.hw, at_of (j := 2) rfl rfl, _, rfl, pa, _, _, i, rfl, rfl, R2.hpa, ?_, ?_⟩
      · rw [List.length_map]
        exact ixN_nat (lt_of_get hl)
      rw [← List.map_set]
      have R3 := R2.setp (i := i) (n := n) PK2 nk (x := (n, ps)) hi rfl
      have k3 : ∀ c o, c ≠ pa → H2 c = some o → upd H2 pa (.lst ((ls.set i kk).map V.ref)) c = some o := fun c o hc h => by
        rw [upd_ne hc]
        exact h
      have tk3 : ∀ x xs, H2 x = some (.tup xs) → upd H2 pa (.lst ((ls.set i kk).map V.ref)) x = some (.tup xs) := fun x xs h => k3 x _ (ne_of h R2.hpa (fun z => by cases z)) h
      refine ⟨_, rfl, t, _, _, .ref gg, rfl, rfl, SqT.of (tk3 _ _ ht2), at_of (j := 1) rfl rfl, by show 2 ≤ sizeLine; decide, fun t4 f4 => ?_⟩
      have e4 := Evl.Ex.new (o := .tup [.str "", .ref gg]) f4
      have R4 := R3.ex e4
      have PG4 := (parts_at PG2 (fun o h => k3 _ o (lne ng).2.2.2.1 h) tk3).mono e4
      refine D _ (fun a => U a ∨ a = kk) t4 (.ref gg) ⟨fun c o na hc => ?_, fun c xs hc => e4 _ _ (tk3 _ _ (tk2 _ _ (e1 _ _ hc))), fun c z => ?_⟩ ⟨r, so, pa, as, ls.set i kk, ?_, fun c m => ?_⟩ upd_same ⟨gg, rfl, .inr fg, PG4⟩
      · exact e4 _ _ (k3 _ _ (fun z => na (by rw [z]; exact hU pa (by simp))) (k2 _ _ (fun m => na (hU c (by simp [m]))) (e1 _ _ hc)))
      · rcases z with z | rfl
        · exact .inl z
        · exact .inr fk
      · have : T0.leave n bn ps = { T0 with rows := markAll T0.rows (goneP ps bn) none, sold := T0.sold.set i (n, keptP ps bn) } := by
          unfold Tr.leave
          rw [putS_ix hi ho]
        rw [this]
        exact R4
      · rcases List.mem_append.mp m with m | m
        · exact .inl (hU c (List.mem_append_left _ m))
        · rcases List.mem_or_eq_of_mem_set m with m | m
          · exact .inl (hU c (List.mem_append_right _ m))
          · exact .inr m
    refine ⟨_, rfl, w, _, _, .ref r, rfl, rfl, SqL.of R.hw, at_of (j := 0) rfl rfl, _, rfl, r, as, T0.rows, T0.stops - 1, l, ps, none, rfl, R.grid, N.nd, N.ra, z5, wf.legs, hP, fun q m => wy.valid he0 q m, by omega, fun H1 k1 G1 => ?_⟩
    have R1 := R.rows k1 G1
    have tk1 : ∀ x xs, H x = some (.tup xs) → H1 x = some (.tup xs) := fun x xs h => k1 x _ (nas_tup R.grid h) h
    have P1 := parts_at hP (fun o h => k1 _ o z5 h) tk1
    have hd1 := tk1 _ _ hd'
    refine ⟨_, rfl, d, _, _, _, rfl, rfl, SqT.of hd1, at_of (j := 0) rfl rfl, rfl, _, rfl, ?_⟩
    have hil : i < T0.sold.length := lt_of_get hi
    have hlen0 : T0.sold.length < 1000000 := Nat.lt_of_le_of_lt G.many few
    refine iteD (fun h3 => ?_) (fun h3 => ?_)
    · have hk : k = .back := by
        cases k with
        | back => rfl
        | sell => exact absurd rfl h1
        | leave => exact absurd rfl h2
        | reseat => exact absurd (V.str.inj h3) (by decide +kernel)
      subst hk
      have er : T0.run ⟨.back, (n : Int), b⟩ = ⟨"", .parts ps, T0.back n ps⟩ := by
        show runBack T0 n = _
        unfold runBack
        rw [hg]
        rfl
      rw [er] at D
      have hsl : ((T0.sold.map fun x => (x.1 : Int)).map V.int).length = T0.sold.length := by rw [List.length_map, List.length_map]
      have hll : (ls.map V.ref).length = T0.sold.length := by rw [List.length_map, R.prt.len, List.length_map]
      refine ⟨_, rfl, w, _, _, .ref so, rfl, rfl, SqL.of R1.hw, at_of (j := 1) rfl rfl, .inl ⟨rfl, _, SqL.of R1.hso⟩, ?_⟩
      refine ⟨_, rfl, so, _, (i : Int), i, _, rfl, rfl, R1.hso, by omega, by omega, ?_, hi2, ?_⟩
      · rw [hsl]
        exact seqIndex_of (by omega) (by omega)
      have n2 : ∀ c, c ≠ so → upd H1 so (.lst (((T0.sold.map fun x => (x.1 : Int)).map V.int).eraseIdx i)) c = H1 c := fun c h => upd_ne h
      refine ⟨_, rfl, w, _, _, .ref pa, rfl, rfl, SqL.of (by rw [n2 _ N.ws]; exact R1.hw), at_of (j := 2) rfl rfl, .inl ⟨rfl, _, SqL.of (by rw [n2 _ N.sp.symm]; exact R1.hpa)⟩, ?_⟩
      refine ⟨_, rfl, pa, _, (i : Int), i, _, rfl, rfl, (by rw [n2 _ N.sp.symm]; exact R1.hpa), by omega, by omega, ?_, hla, ?_⟩
      · rw [hll]
        exact seqIndex_of (by omega) (by omega)
      have R2 := R1.pop i
      have k2 : ∀ c o, c ≠ so → c ≠ pa → H1 c = some o → upd (upd H1 so (.lst (((T0.sold.map fun x => (x.1 : Int)).map V.int).eraseIdx i))) pa (.lst ((ls.map V.ref).eraseIdx i)) c = some o := fun c o h1 h2 h => by
        rw [upd_ne h2, upd_ne h1]
        exact h
      have tk2 : ∀ x xs, H1 x = some (.tup xs) → upd (upd H1 so (.lst (((T0.sold.map fun x => (x.1 : Int)).map V.int).eraseIdx i))) pa (.lst ((ls.map V.ref).eraseIdx i)) x = some (.tup xs) := fun x xs h => k2 x _ (ne_of h R1.hso (fun z => by cases z)) (ne_of h R1.hpa (fun z => by cases z)) h
      refine ⟨_, rfl, by show 2 ≤ sizeLine; decide, fun t4 f4 => ?_⟩
      have e4 := Evl.Ex.new (o := .tup [.str "", .ref l]) f4
      have R4 := R2.ex e4
      have P4 := (parts_at P1 (fun o h => k2 _ o z3 z4 h) tk2).mono e4
      refine D _ U t4 (.ref l) ⟨fun c o na hc => ?_, fun c xs hc => e4 _ _ (tk2 _ _ (tk1 _ _ hc)), fun c z => .inl z⟩ ⟨r, so, pa, as, ls.eraseIdx i, ?_, fun c m => ?_⟩ upd_same ⟨l, rfl, .inl (hU l (List.mem_append_right _ ml)), P4⟩
      · exact e4 _ _ (k2 _ _ (fun z => na (by rw [z]; exact hU so (by simp))) (fun z => na (by rw [z]; exact hU pa (by simp))) (k1 _ _ (fun m => na (hU c (by simp [m]))) hc))
      · have : T0.back n ps = { T0 with rows := markAll T0.rows ps none, sold := T0.sold.eraseIdx i } := by
          unfold Tr.back
          rw [dropS_ix hi ho]
        rw [this]
        exact R4
      · rcases List.mem_append.mp m with m | m
        · exact hU c (List.mem_append_left _ m)
        · exact hU c (List.mem_append_right _ (List.mem_of_mem_eraseIdx m))
    have hk : k = .reseat := by
      cases k with
      | reseat => rfl
      | sell => exact absurd rfl h1
      | back => exact absurd rfl h3
      | leave => exact absurd rfl h2
    subst hk
    have er : T0.run ⟨.reseat, (n : Int), b⟩ = ⟨"", .parts (newP T0 ps), T0.reseat n ps⟩ := by
      show runReseat T0 n = _
      unfold runReseat
      rw [hg]
      rfl
    rw [er] at D
    obtain ⟨en, wn, fr⟩ := newP_way wf wy hb0 he0
    have hl1' := k1 _ _ z5 hl1
    have G1l : ∀ row ∈ markAll T0.rows ps none, row.length = T0.stops - 1 := markAll_row none _ _ wf.legs
    have G1n : (markAll T0.rows ps none).length = T0.rows.length := markAll_len _ _ _
    refine ⟨_, rfl, w, _, _, .ref r, rfl, rfl, SqL.of R1.hw, at_of (j := 0) rfl rfl, _, rfl, l, _, _, .ref t0, rfl, rfl, SqL.of hl1', at0, t0, _, _, _, rfl, rfl, SqT.of (tk1 _ _ g0), at_of (j := 1) rfl rfl, _, rfl, _, rfl, l, _, _, .ref t1, rfl, rfl, SqL.of hl1', at1, t1, _, _, _, rfl, rfl, SqT.of (tk1 _ _ g1), at_of (j := 2) rfl rfl,
      r, as, markAll T0.rows ps none, T0.stops - 1, (hdP ps).2.1, (ltP ps).2.2, rfl, G1, G1l, by omega, by omega, by omega, by omega, (by rw [eb, ee]; exact own_free wf wy he0), fun H2 l2 e2 fl2 P2 => ?_⟩
    have R2 := R1.ex e2
    have old : ∀ c o x, H1 x = none → H1 c = some o → x ≠ c := fun c o x hx h z => by
      rw [← z, hx] at h
      cases h
    have n2 : l2 ∉ [w, r, so, pa] ++ as := fun m => by
      rcases List.mem_append.mp m with m | m
      · simp only [List.mem_cons, List.not_mem_nil, or_false] at m
        rcases m with m | m | m | m
        · exact old _ _ l2 fl2 R1.hw m
        · exact old _ _ l2 fl2 R1.grid.top m
        · exact old _ _ l2 fl2 R1.hso m
        · exact old _ _ l2 fl2 R1.hpa m
      · obtain ⟨y, _, z⟩ := R1.grid.row.mem_left m
        exact old _ _ l2 fl2 z rfl
    refine ⟨_, rfl, w, _, _, .ref pa, rfl, rfl, SqL.of R2.hw, at_of (j := 2) rfl rfl, _, rfl, pa, _, _, i, rfl, rfl, R2.hpa, ?_, ?_⟩
    · rw [List.length_map]
      exact ixN_nat (lt_of_get hl)
    rw [← List.map_set]
    have P2' : PartsAt H2 l2 (newP T0 ps) := P2
    have R3 := R2.setp (i := i) (n := n) P2' n2 (x := (n, ps)) hi rfl
    have k3 : ∀ c o, c ≠ pa → H2 c = some o → upd H2 pa (.lst ((ls.set i l2).map V.ref)) c = some o := fun c o hc h => by
      rw [upd_ne hc]
      exact h
    have tk3 : ∀ x xs, H2 x = some (.tup xs) → upd H2 pa (.lst ((ls.set i l2).map V.ref)) x = some (.tup xs) := fun x xs h => k3 x _ (ne_of h R2.hpa (fun z => by cases z)) h
    have P3 := parts_at P2' (fun o h => k3 _ o (lne n2).2.2.2.1 h) tk3
    have hl3 : ((ls.set i l2).map V.ref)[i]? = some (.ref l2) := by
      rw [List.getElem?_map, List.getElem?_set, if_pos rfl, if_pos (lt_of_get hl)]
      rfl
    have vn : ∀ q ∈ newP T0 ps, q.1 < (markAll T0.rows ps none).length ∧ q.2.1 < q.2.2 ∧ q.2.2 ≤ T0.stops - 1 := fun q m => by
      have := wn.valid he0 q m
      rw [G1n]
      exact this
    refine ⟨_, rfl, w, _, _, .ref r, rfl, rfl, SqL.of R3.hw, at_of (j := 0) rfl rfl, _, rfl, w, _, _, .ref pa, rfl, rfl, SqL.of R3.hw, at_of (j := 2) rfl rfl, _, rfl, pa, _, _, .ref l2, rfl, rfl, SqL.of R3.hpa, at_of (j := i) rfl hl3, _, rfl, d, _, _, _, rfl, rfl, SqT.of (tk3 _ _ (e2 _ _ hd1)), at_of (j := 1) rfl rfl,
      r, as, markAll T0.rows ps none, T0.stops - 1, l2, newP T0 ps, some n, rfl, R3.grid, N.nd, N.ra, (lne n2).2.2.2.2, G1l, P3, vn, by omega, fun H4 k4 G4 => ?_⟩
    have R4 := R3.rows k4 G4
    have tk4 : ∀ x xs, _ → H4 x = some (.tup xs) := fun x xs h => k4 x _ (nas_tup R3.grid h) h
    have P4 := parts_at P3 (fun o h => k4 _ o (lne n2).2.2.2.2 h) tk4
    refine ⟨_, rfl, w, _, _, .ref pa, rfl, rfl, SqL.of R4.hw, at_of (j := 2) rfl rfl, _, rfl, pa, _, _, .ref l2, rfl, rfl, SqL.of R4.hpa, at_of (j := i) rfl hl3, by show 2 ≤ sizeLine; decide, fun t5 f5 => ?_⟩
    have e5 := Evl.Ex.new (o := .tup [.str "", .ref l2]) f5
    have R5 := R4.ex e5
    have hl2n : H l2 = none := by
      cases ho2 : H l2 with
      | none => rfl
      | some o =>
        rw [k1 l2 o (lne n2).2.2.2.2 ho2] at fl2
        cases fl2
    refine D _ (fun a => U a ∨ a = l2) t5 (.ref l2) ⟨fun c o na hc => ?_, fun c xs hc => e5 _ _ (tk4 _ _ (tk3 _ _ (e2 _ _ (tk1 _ _ hc)))), fun c z => ?_⟩ ⟨r, so, pa, as, ls.set i l2, ?_, fun c m => ?_⟩ upd_same ⟨l2, rfl, .inr hl2n, P4.mono e5⟩
    · have ma : c ∉ as := fun m => na (hU c (by simp [m]))
      exact e5 _ _ (k4 _ _ ma (k3 _ _ (fun z => na (by rw [z]; exact hU pa (by simp))) (e2 _ _ (k1 _ _ ma hc))))
    · rcases z with z | rfl
      · exact .inl z
      · cases ho2 : H c with
        | none => exact .inr rfl
        | some o =>
          by_cases ma : c ∈ as
          · exact absurd ma (lne n2).2.2.2.2
          · rw [k1 c o ma ho2] at fl2
            cases fl2
    · have : T0.reseat n ps = { T0 with rows := markAll (markAll T0.rows ps none) (newP T0 ps) (some n), sold := T0.sold.set i (n, newP T0 ps) } := by
        unfold Tr.reseat
        rw [putS_ix hi ho]
      rw [this]
      exact R5
    · rcases List.mem_append.mp m with m | m
      · exact .inl (hU c (List.mem_append_left _ m))
      · rcases List.mem_or_eq_of_mem_set m with m | m
        · exact .inl (hU c (List.mem_append_right _ m))
        · exact .inr m
theorem sc_Train_size : FnScope ["self"] ["self"] (defScope s_Train_size) := ⟨rfl, rfl, rfl, by decide +kernel, rfl, by decide +kernel, by decide +kernel⟩
theorem m_Train_size (T : Tx K mg) : Met P w K mg base 1 (He.ga K "Train") "size" (spSize K) := by
  refine T.met 35 74 15 rfl rfl rfl sc_Train_size (fun _ _ _ _ _ _ us hl => match us, hl with | [_], _ => rfl) (fun vs H Q E h => ?_) fun cdv A outer s H vs Q E hr h => ?_
  · first | (obtain ⟨_, rfl, _⟩ := h; rfl) | (obtain ⟨_, _, rfl, _⟩ := h; rfl) | (obtain ⟨_, _, _, rfl, _⟩ := h; rfl) | (obtain ⟨_, _, _, _, rfl, _⟩ := h; rfl) | (obtain ⟨_, _, _, _, _, rfl, _⟩ := h; rfl) | (obtain ⟨_, _, _, _, _, _, rfl, _⟩ := h; rfl) | (obtain ⟨_, _, _, _, _, _, _, rfl, _⟩ := h; rfl) | (obtain ⟨_, _, _, _, _, _, _, _, rfl, _⟩ := h; rfl) | (obtain ⟨_, _, _, _, _, _, _, _, _, rfl, _⟩ := h; rfl) | (obtain ⟨_, _, _, _, _, _, _, _, _, _, rfl, _⟩ := h; rfl) | (obtain ⟨_, _, _, _, _, _, _, _, _, _, _, rfl, _⟩ := h; rfl) | (obtain ⟨_, _, _, _, _, _, _, _, _, _, _, _, rfl, _⟩ := h; rfl) | (obtain ⟨_, _, _, _, _, _, _, _, _, _, _, _, _, rfl, _⟩ := h; rfl) | (obtain ⟨_, _, _, _, _, _, _, _, _, _, _, _, _, _, rfl, _⟩ := h; rfl) | (obtain ⟨_, _, _, _, _, _, _, _, _, _, _, _, _, _, _, rfl, _⟩ := h; rfl)
  · refine ⟨_, (pss_one (ps_ret (pe_tup (pa_cons (pe_callB (len_k K) (by rfl) (T.free 0) PySem.boot_len (pa_cons (fld_k K (pv 0) rfl) pa_nil)) (pa_cons (fld_k K (pv 0) rfl) pa_nil))))), ?_⟩
    obtain ⟨S, p, T0, rfl, A0, q⟩ := h
    obtain ⟨r, d, as, ls, R, _⟩ := A0
    obtain ⟨dx, hp⟩ := R.ins
    refine ⟨_, rfl, p, _, dx, _, _, rfl, hp, (T.cls 15), (T.noat 17), lk_rows, r, _, rfl, .inl (SqL.of R.grid.top), _, rfl, p, _, dx, _, _, rfl, hp, (T.cls 15), (T.noat 16), lk_stops, (by show 2 ≤ sizeLine; decide), fun t ht => ?_⟩
    have hl : ((as.map V.ref).length : Int) = (T0.rows.length : Int) := by rw [List.length_map, R.grid.row.len]
    have q2 := q t ht
    rw [← hl] at q2
    exact q2
theorem sc_Train_tickets : FnScope ["self"] ["self"] (defScope s_Train_tickets) := ⟨rfl, rfl, rfl, by decide +kernel, rfl, by decide +kernel, by decide +kernel⟩
theorem m_Train_tickets (T : Tx K mg) : Met P w K mg base 1 (He.ga K "Train") "tickets" (spTickets K) := by
  refine T.met 36 76 15 rfl rfl rfl sc_Train_tickets (fun _ _ _ _ _ _ us hl => match us, hl with | [_], _ => rfl) (fun vs H Q E h => ?_) fun cdv A outer s H vs Q E hr h => ?_
  · first | (obtain ⟨_, rfl, _⟩ := h; rfl) | (obtain ⟨_, _, rfl, _⟩ := h; rfl) | (obtain ⟨_, _, _, rfl, _⟩ := h; rfl) | (obtain ⟨_, _, _, _, rfl, _⟩ := h; rfl) | (obtain ⟨_, _, _, _, _, rfl, _⟩ := h; rfl) | (obtain ⟨_, _, _, _, _, _, rfl, _⟩ := h; rfl) | (obtain ⟨_, _, _, _, _, _, _, rfl, _⟩ := h; rfl) | (obtain ⟨_, _, _, _, _, _, _, _, rfl, _⟩ := h; rfl) | (obtain ⟨_, _, _, _, _, _, _, _, _, rfl, _⟩ := h; rfl) | (obtain ⟨_, _, _, _, _, _, _, _, _, _, rfl, _⟩ := h; rfl) | (obtain ⟨_, _, _, _, _, _, _, _, _, _, _, rfl, _⟩ := h; rfl) | (obtain ⟨_, _, _, _, _, _, _, _, _, _, _, _, rfl, _⟩ := h; rfl) | (obtain ⟨_, _, _, _, _, _, _, _, _, _, _, _, _, rfl, _⟩ := h; rfl) | (obtain ⟨_, _, _, _, _, _, _, _, _, _, _, _, _, _, rfl, _⟩ := h; rfl) | (obtain ⟨_, _, _, _, _, _, _, _, _, _, _, _, _, _, _, rfl, _⟩ := h; rfl)
  · refine ⟨_, (pss_one (ps_ret (pe_callB (cr_sortedD rfl) (by rfl) (T.free 75) (by decide +kernel) (pa_cons (fld_k K (pv 0) rfl) pa_nil)))), ?_⟩
    obtain ⟨S, p, T0, rfl, A0, q⟩ := h
    obtain ⟨r, d, as, ent, R, _⟩ := A0
    obtain ⟨dx, hp⟩ := R.ins
    refine ⟨_, rfl, p, _, dx, _, _, rfl, hp, (T.cls 15), (T.noat 18), lk_sold, d, _, T0.sold.map fun x => (x.1 : Int), rfl, .inl R.dict, ?_, fun ys l hperm hsort hl => ?_⟩
    · rw [R.sold]
      exact entD_keys ent
    · have e : ys = T0.sold.map fun x => (x.1 : Int) := sorted_is hperm hsort R.wf.rising
      have q2 := q l hl
      rw [e, List.map_map]
      exact q2
theorem sc_written : FnScope ["train", "size", "rows", "ticket", "words", "part"] ["train"] (defScope s_written) := ⟨rfl, rfl, rfl, by decide +kernel, rfl, by decide +kernel, by decide +kernel⟩
theorem c_written (T : Tx K mg) : Cal P w K mg base 2 "written" (spWritten K) := by
  refine T.cal 37 77 rfl rfl sc_written (fun _ _ _ _ _ _ us hl => match us, hl with | [_], _ => rfl) (fun vs H Q E h => ?_) fun cdv A outer s H vs Q E hr h => ?_
  · first | (obtain ⟨_, rfl, _⟩ := h; rfl) | (obtain ⟨_, _, rfl, _⟩ := h; rfl) | (obtain ⟨_, _, _, rfl, _⟩ := h; rfl) | (obtain ⟨_, _, _, _, rfl, _⟩ := h; rfl) | (obtain ⟨_, _, _, _, _, rfl, _⟩ := h; rfl) | (obtain ⟨_, _, _, _, _, _, rfl, _⟩ := h; rfl) | (obtain ⟨_, _, _, _, _, _, _, rfl, _⟩ := h; rfl) | (obtain ⟨_, _, _, _, _, _, _, _, rfl, _⟩ := h; rfl) | (obtain ⟨_, _, _, _, _, _, _, _, _, rfl, _⟩ := h; rfl) | (obtain ⟨_, _, _, _, _, _, _, _, _, _, rfl, _⟩ := h; rfl) | (obtain ⟨_, _, _, _, _, _, _, _, _, _, _, rfl, _⟩ := h; rfl) | (obtain ⟨_, _, _, _, _, _, _, _, _, _, _, _, rfl, _⟩ := h; rfl) | (obtain ⟨_, _, _, _, _, _, _, _, _, _, _, _, _, rfl, _⟩ := h; rfl) | (obtain ⟨_, _, _, _, _, _, _, _, _, _, _, _, _, _, rfl, _⟩ := h; rfl) | (obtain ⟨_, _, _, _, _, _, _, _, _, _, _, _, _, _, _, rfl, _⟩ := h; rfl)
  · refine ⟨_, (pss_cons (ps_set (i := 1) sc_written.nd rfl (Or.inl rfl) (pe_m0 (m_Train_size T) hr pz (pv 0)))
      (pss_cons (ps_set (i := 2) sc_written.nd rfl (Or.inl rfl) (pe_lst (pa_cons (pe_op op_add_str (pe_op op_add_str (pe_op op_add_str (pe_op op_add_str (pe_op op_add_str pe_str (pe_callTy call_str_int (by rfl) (T.free 2) (by decide +kernel) (pa_cons (pe_ix (ix_t K) (pv 1) pe_int (fun _ _ => rfl)) pa_nil))) pe_str) (pe_callTy call_str_int (by rfl) (T.free 2) (by decide +kernel) (pa_cons (pe_ix (ix_t K) (pv 1) pe_int (fun _ _ => rfl)) pa_nil))) pe_str) (pe_callTy call_str_int (by rfl) (T.free 2) (by decide +kernel) (pa_cons (fld_k K (pv 0) rfl) pa_nil))) pa_nil)))
      (pss_cons (ps_for (passes_of rfl) rfl (pi_l K (pe_m0 (m_Train_tickets T) hr pz (pv 0))) (pg_name (i := 3) sc_written.nd rfl (Or.inl rfl))
        (pss_cons (ps_set (i := 4) sc_written.nd rfl (Or.inl rfl) (pe_lst (pa_cons pe_str (pa_cons (pe_callTy call_str_int (by rfl) (T.free 2) (by decide +kernel) (pa_cons (pv 3) pa_nil)) pa_nil))))
        (pss_cons (ps_for (passes_of rfl) rfl (pi_l K (pe_m (m_Train_parts T) hr pz (pv 0) (pa_cons (pv 3) pa_nil))) (pg_name (i := 5) sc_written.nd rfl (Or.inl rfl))
          (pss_one (ps_set (i := 4) sc_written.nd rfl (Or.inl rfl) (pe_op op_cat (pv 4) (pe_lst (pa_cons (pe_callTy call_str_int (by rfl) (T.free 2) (by decide +kernel) (pa_cons (pe_ix (ix_t K) (pv 5) pe_int (fun _ _ => rfl)) pa_nil)) (pa_cons (pe_callTy call_str_int (by rfl) (T.free 2) (by decide +kernel) (pa_cons (pe_ix (ix_t K) (pv 5) pe_int (fun _ _ => rfl)) pa_nil)) (pa_cons (pe_callTy call_str_int (by rfl) (T.free 2) (by decide +kernel) (pa_cons (pe_ix (ix_t K) (pv 5) pe_int (fun _ _ => rfl)) pa_nil)) pa_nil))))))))
        (pss_one (ps_expr (pe_bm PySem.F.plainAttrs_list PySem.F.slot_list_append PySem.F.type_list_append mt_append (pv 2) (pa_cons (pe_join pe_str (pv 4)) pa_nil)))))))
      (pss_one (ps_ret (pe_join pe_str (pv 2))))))), ?_⟩
    obtain ⟨S, p, T0, rfl, A0, G, hco, q⟩ := h
    have wf := A0.wf
    have w1 := wf.s1
    have w2 := wf.s2
    have w3 := wf.t1
    have w4 := wf.t2
    have hmany := G.many
    have hkl := keys_len T0
    have sl : ∀ n, n ≤ 3000000 → n ≤ sizeLine := fun n h => Nat.le_trans h (by decide)
    have l1 := nT_len (n := T0.rows.length) (by omega)
    have l2 := nT_len (n := T0.stops) (by omega)
    have l3 := nT_len (n := T0.coming) (by omega)
    have ll : ∀ a b : Str, (a ++ b).length = a.length + b.length := fun a b => by rw [TL.len_tl, TL.tl_append, List.length_append, ← TL.len_tl, ← TL.len_tl]
    have lt : ("train " : Str).length = 6 := by decide +kernel
    have ls : (" " : Str).length = 1 := by decide +kernel
    (repeat fail "s")
    rename_i ts H1 nts e1 hts
    have l1 : (Str.ofString (toString ((T0.rows.length : Nat) : Int))).length ≤ 9 := l1
    have l2 : (Str.ofString (toString ((T0.stops : Nat) : Int))).length ≤ 9 := l2
    have l3 : (Str.ofString (toString ((T0.coming : Nat) : Int))).length ≤ 9 := l3
    refine ⟨_, rfl, log_ok (by omega), ?_⟩
    refine ⟨_, _, rfl, rfl, sl _ (by simp only [ll, lt, ls]; omega), ?_⟩
    (repeat fail "s")
    refine ⟨_, _, rfl, rfl, sl _ (by simp only [ll, lt, ls]; omega), ?_⟩
    (repeat fail "s")
    refine ⟨_, rfl, log_ok (by omega), ?_⟩
    refine ⟨_, _, rfl, rfl, sl _ (by simp only [ll, lt, ls]; omega), ?_⟩
    (repeat fail "s")
    refine ⟨_, _, rfl, rfl, sl _ (by simp only [ll, lt, ls]; omega), ?_⟩
    (repeat fail "s")
    have A1 := A0.ex e1
    obtain ⟨dx, r0, d0, hp1⟩ := A1.ins
    refine ⟨_, rfl, p, _, dx, _, _, rfl, hp1, (T.cls 15), (T.noat 19), lk_coming, ?_⟩
    refine ⟨_, rfl, log_ok (by omega), ?_⟩
    refine ⟨_, _, rfl, rfl, sl _ (by simp only [ll, lt, ls]; omega), ?_⟩
    rw [show ("train " : Str) ++ Str.ofString (toString ((T0.rows.length : Nat) : Int)) ++ " " ++ Str.ofString (toString ((T0.stops : Nat) : Int)) ++ " " ++ Str.ofString (toString ((T0.coming : Nat) : Int)) = Txt.join " " (headW T0) from head_text _ _ _]
    clear hp1
    (repeat fail "s")
    rename_i rw_ H2 nrw e2 hrw tk H3 ntk e3 htk
    have hkl2 : ((keys T0).map V.int).length = T0.sold.length := by rw [List.length_map, keys_len]
    (repeat fail "s")
    have nrwH : H rw_ = none := Evl.fresh_back e1 nrw
    have nrt : rw_ ≠ tk := ne_of_none hrw ntk
    refine fr_list (xs := (keys T0).map V.int) (fun i σ H' => ∃ (v3 v4 v5 : Option V), σ = [some (.ref p), some (.ref ts), some (.ref rw_), v3, v4, v5] ∧ Ex H H' ∧ H' tk = some (.lst ((keys T0).map V.int)) ∧ H' rw_ = some (.lst ((Txt.join " " (headW T0) :: (T0.sold.take i).map fun x => Txt.join " " (wordsT x)).map V.str)))
      ⟨_, _, _, rfl, e1.trans (e2.trans e3), htk, (by fail "t")⟩ (fun i σ H' _ ⟨_, _, _, _, _, h, _⟩ => SqL.of h) ?_ ?_
    · rintro i z σ H4 hz ⟨v3, v4, v5, rfl, x4, htk4, hrw4⟩
      obtain ⟨z, hz2, rfl⟩ := map_back hz
      have hi := lt_of_get hz
      rw [hkl2] at hi
      have hxi := List.getElem?_eq_getElem hi
      have mx := List.getElem_mem hi
      obtain ⟨x, hx⟩ : ∃ x, x = T0.sold[i] := ⟨_, rfl⟩
      rw [← hx] at hxi mx
      have hki : (keys T0)[i]? = some (x.1 : Int) := map_get hxi
      rw [hki] at hz2
      cases hz2
      have hg := getS_of wf.rising mx
      obtain ⟨b, e, hb, he, w⟩ := G.way x mx
      have hlow := G.low x mx
      have hlen := w.len
      have wl := words_len (x := x) (by omega) w w2 (by omega)
      have A4 := A0.ex x4
      (repeat fail "s")
      refine ⟨_, rfl, log_ok (by omega), ?_⟩
      (repeat fail "s")
      rename_i wd H5 nwd e5 hwd l H6 nl e6 hl
      have nwr : wd ≠ rw_ := (ne_of_none hrw4 nwd).symm
      refine fr_parts (ps := x.2) (Hb := H6) (fun j σ' H' => ∃ (wd : Addr) (v5 : Option V), σ' = [some (.ref p), some (.ref ts), some (.ref rw_), some (.int (x.1 : Int)), some (.ref wd), v5] ∧ wd ≠ rw_ ∧ Ex H6 H' ∧ H' wd = some (.lst ((("ticket" : Str) :: nT x.1 :: ((x.2.take j).map partW).flatten).map V.str))) hl
        ⟨wd, _, rfl, nwr, Evl.Ex.refl _, e6 _ _ hwd⟩ (fun j σ' H' _ ⟨_, _, _, _, e, _⟩ => KeepP.ex e) ?_ ?_
      · rintro j t c1 c2 c3 σ' H7 hj ht ⟨wd', v5, rfl, _, x7, hwd7⟩
        have hmq := w.mem _ (List.mem_of_getElem? hj)
        dsimp only at hmq
        have hjl := lt_of_get hj
        (repeat fail "s")
        refine ⟨_, rfl, log_ok (by omega), ?_⟩
        (repeat fail "s")
        refine ⟨_, rfl, log_ok (by omega), ?_⟩
        (repeat fail "s")
        refine ⟨_, rfl, log_ok (by omega), ?_⟩
        (repeat fail "s")
        rename_i u H8 nu e8 hu
        have hu : H8 u = some (.lst ((partW (c1, c2, c3)).map V.str)) := hu
        refine v_cat (e8 _ _ hwd7) hu (sl _ (by
          rw [List.length_map, List.length_map, List.length_cons, List.length_cons, flat_len, List.length_take]
          show _ + 3 ≤ _
          omega)) fun wd2 H9 n9 e9 h9 => ?_
        refine ⟨wd2, _, rfl, (ne_of_none (e8 _ _ (x7 _ _ (e6 _ _ (e5 _ _ hrw4)))) n9).symm, (x7.trans e8).trans e9, ?_⟩
        rw [h9, flat_snoc hj, ← List.map_append]
        rfl
      · rintro σ' H7 ⟨wd', v5, rfl, nwr', x7, hwd7⟩
        rw [List.take_length] at hwd7
        have hrw7 := x7 _ _ (e6 _ _ (e5 _ _ hrw4))
        have htk7 := x7 _ _ (e6 _ _ (e5 _ _ htk4))
        have hwd7 : H7 wd' = some (.lst ((wordsT x).map V.str)) := hwd7
        (repeat fail "s")
        refine ⟨_, _, wordsT x, rfl, rfl, .inl (SqL.of hwd7), ?_, ?_⟩
        · have := sum_len wl.1
          rw [ls, wl.2] at *
          omega
        refine s_nil ?_
        refine v_append hrw7 ?_ fun H8 c8 h8 => ?_
        · rw [List.length_map, List.length_cons, List.length_map, List.length_take]
          exact Nat.lt_of_lt_of_le (show _ < 3000000 by omega) (by decide)
        refine ⟨_, _, _, rfl, c8.ex (x4.trans (e5.trans (e6.trans x7))) nrwH, c8.keep _ _ nrt.symm htk7, ?_⟩
        rw [h8, take_snoc hxi, List.map_append, List.map_cons, List.map_cons, List.map_append]
        rfl
    · rintro σ H4 ⟨v3, v4, v5, rfl, x4, htk4, hrw4⟩
      rw [hkl2, List.take_length] at hrw4
      (repeat fail "s")
      refine ⟨_, _, _, rfl, rfl, .inl (SqL.of hrw4), ?_, ?_⟩
      · have h1 : ∀ y ∈ (Txt.join " " (headW T0) :: T0.sold.map fun x => Txt.join " " (wordsT x)), y.length ≤ 3000 := fun y m => by
          rcases List.mem_cons.mp m with rfl | m
          · have := join_len " " (headW T0)
            have e : ((headW T0).map (·.length)).sum ≤ 40 := by
              have h5 : ("train" : Str).length = 5 := by decide +kernel
              show ("train" : Str).length + ((nT T0.rows.length).length + ((nT T0.stops).length + ((nT T0.coming).length + 0))) ≤ 40
              have := nT_len (n := T0.rows.length) (by omega)
              have := nT_len (n := T0.stops) (by omega)
              have := nT_len (n := T0.coming) (by omega)
              omega
            rw [ls] at this
            have : (headW T0).length = 4 := rfl
            omega
          · obtain ⟨x, mx, rfl⟩ := List.mem_map.mp m
            obtain ⟨b, e, hb, he, w⟩ := G.way x mx
            have hlow := G.low x mx
            have hlen := w.len
            have wl := words_len (x := x) (by omega) w w2 (by omega)
            have h2 := join_len " " (wordsT x)
            have h3 := sum_len wl.1
            rw [ls, wl.2] at h2
            rw [wl.2] at h3
            omega
        have h2 := sum_len h1
        have ln : ("\n" : Str).length = 1 := by decide +kernel
        rw [ln]
        rw [List.length_cons, List.length_map] at *
        omega
      exact q H4 x4
theorem sc_law_text_of : FnScope ["_law_world_here", "_law_rows_here", "_law_k", "_law_row", "_law_one"] ["_law_world_here"] (defScope s_law_text_of) := ⟨rfl, rfl, rfl, by decide +kernel, rfl, by decide +kernel, by decide +kernel⟩
theorem c_law_text_of (T : Tx K mg) : Cal P w K mg base 1 "_law_text_of" (spTextOf K) := by
  refine T.cal 38 78 rfl rfl sc_law_text_of (fun _ _ _ _ _ _ us hl => match us, hl with | [_], _ => rfl) (fun vs H Q E h => ?_) fun cdv A outer s H vs Q E hr h => ?_
  · first | (obtain ⟨_, rfl, _⟩ := h; rfl) | (obtain ⟨_, _, rfl, _⟩ := h; rfl) | (obtain ⟨_, _, _, rfl, _⟩ := h; rfl) | (obtain ⟨_, _, _, _, rfl, _⟩ := h; rfl) | (obtain ⟨_, _, _, _, _, rfl, _⟩ := h; rfl) | (obtain ⟨_, _, _, _, _, _, rfl, _⟩ := h; rfl) | (obtain ⟨_, _, _, _, _, _, _, rfl, _⟩ := h; rfl) | (obtain ⟨_, _, _, _, _, _, _, _, rfl, _⟩ := h; rfl) | (obtain ⟨_, _, _, _, _, _, _, _, _, rfl, _⟩ := h; rfl) | (obtain ⟨_, _, _, _, _, _, _, _, _, _, rfl, _⟩ := h; rfl) | (obtain ⟨_, _, _, _, _, _, _, _, _, _, _, rfl, _⟩ := h; rfl) | (obtain ⟨_, _, _, _, _, _, _, _, _, _, _, _, rfl, _⟩ := h; rfl) | (obtain ⟨_, _, _, _, _, _, _, _, _, _, _, _, _, rfl, _⟩ := h; rfl) | (obtain ⟨_, _, _, _, _, _, _, _, _, _, _, _, _, _, rfl, _⟩ := h; rfl) | (obtain ⟨_, _, _, _, _, _, _, _, _, _, _, _, _, _, _, rfl, _⟩ := h; rfl)
  · refine ⟨_, (pss_cons (ps_set (i := 1) sc_law_text_of.nd rfl (Or.inl rfl) (pe_lst (pa_cons (pe_join pe_str (pe_lst (pa_cons pe_str (pa_cons (pe_callTy call_str_int (by rfl) (T.free 2) (by decide +kernel) (pa_cons (pe_callB (len_k K) (by rfl) (T.free 0) PySem.boot_len (pa_cons (pe_ix (ix_l K) (pv 0) pe_int (fun _ _ => rfl)) pa_nil)) pa_nil)) (pa_cons (pe_callTy call_str_int (by rfl) (T.free 2) (by decide +kernel) (pa_cons (pe_op op_add (pe_callB (len_k K) (by rfl) (T.free 0) PySem.boot_len (pa_cons (pe_ix (ix_l K) (pe_ix (ix_l K) (pv 0) pe_int (fun _ _ => rfl)) pe_int (fun _ _ => rfl)) pa_nil)) pe_int) pa_nil)) (pa_cons (pe_callTy call_str_int (by rfl) (T.free 2) (by decide +kernel) (pa_cons (pe_ix (ix_l K) (pv 0) pe_int (fun _ _ => rfl)) pa_nil)) pa_nil)))))) pa_nil)))
      (pss_cons (ps_for (passes_of rfl) rfl (pi_range1 (by rfl) (T.free 3) (pa_cons (pe_callB (len_k K) (by rfl) (T.free 0) PySem.boot_len (pa_cons (pe_ix (ix_l K) (pv 0) pe_int (fun _ _ => rfl)) pa_nil)) pa_nil)) (pg_name (i := 2) sc_law_text_of.nd rfl (Or.inl rfl))
        (pss_cons (ps_set (i := 3) sc_law_text_of.nd rfl (Or.inl rfl) (pe_op op_add_str pe_str (pe_callTy call_str_int (by rfl) (T.free 2) (by decide +kernel) (pa_cons (pe_ix (ix_l K) (pe_ix (ix_l K) (pv 0) pe_int (fun _ _ => rfl)) (pv 2) (fun _ _ => rfl)) pa_nil))))
        (pss_cons (ps_for (passes_of rfl) rfl (pi_l K (pe_ix (ix_l K) (pe_ix (ix_l K) (pv 0) pe_int (fun _ _ => rfl)) (pv 2) (fun _ _ => rfl))) (pg_name (i := 4) sc_law_text_of.nd rfl (Or.inl rfl))
          (pss_one (ps_set (i := 3) sc_law_text_of.nd rfl (Or.inl rfl) (pe_op op_add_str (pe_op op_add_str (pe_op op_add_str (pe_op op_add_str (pe_op op_add_str (pe_op op_add_str (pv 3) pe_str) (pe_callTy call_str_int (by rfl) (T.free 2) (by decide +kernel) (pa_cons (pe_ix (ix_t K) (pv 4) pe_int (fun _ _ => rfl)) pa_nil))) pe_str) (pe_callTy call_str_int (by rfl) (T.free 2) (by decide +kernel) (pa_cons (pe_ix (ix_t K) (pv 4) pe_int (fun _ _ => rfl)) pa_nil))) pe_str) (pe_callTy call_str_int (by rfl) (T.free 2) (by decide +kernel) (pa_cons (pe_ix (ix_t K) (pv 4) pe_int (fun _ _ => rfl)) pa_nil))))))
        (pss_one (ps_expr (pe_bm PySem.F.plainAttrs_list PySem.F.slot_list_append PySem.F.type_list_append mt_append (pv 1) (pa_cons (pv 3) pa_nil)))))))
      (pss_one (ps_ret (pe_join pe_str (pv 1)))))), ?_⟩
    obtain ⟨U, w, T0, rfl, W0, G, hco, q⟩ := h
    have wf := G.wf
    have w1 := wf.s1
    have w2 := wf.s2
    have w3 := wf.t1
    have w4 := wf.t2
    have hmany := G.many
    have hkl := keys_len T0
    have sl : ∀ n, n ≤ 3000000 → n ≤ sizeLine := fun n h => Nat.le_trans h (by decide)
    have l1 := nT_len (n := T0.rows.length) (by omega)
    have l2 := nT_len (n := T0.stops) (by omega)
    have l3 := nT_len (n := T0.coming) (by omega)
    have ll : ∀ a b : Str, (a ++ b).length = a.length + b.length := fun a b => by rw [TL.len_tl, TL.tl_append, List.length_append, ← TL.len_tl, ← TL.len_tl]
    have lt : ("ticket " : Str).length = 7 := by decide +kernel
    have ls : (" " : Str).length = 1 := by decide +kernel
    have l5 : ("train" : Str).length = 5 := by decide +kernel
    obtain ⟨r, so, pa, as, ls_, R, hU⟩ := id W0
    have hw := R.hw
    have hso : H so = some (.lst ((keys T0).map V.int)) := R.hso
    have hpa := R.hpa
    have GR := R.grid
    have g0 := List.getElem?_eq_getElem (l := T0.rows) (i := 0) w1
    have hl0 : T0.rows[0].length = T0.stops - 1 := wf.legs _ (List.getElem_mem w1)
    (repeat fail "s")
    refine ⟨_, rfl, log_ok (by omega), ?_⟩
    (repeat fail "s")
    obtain ⟨a0, ha0, hrow0⟩ := GR.row.right g0
    have hrow0 : H a0 = some (.lst (T0.rows[0].map oV)) := hrow0
    refine v_ixL (SqL.of GR.top) (at_of (j := 0) rfl (map_get ha0)) ?_
    (repeat fail "s")
    rw [List.length_map, hl0, show ((T0.stops - 1 : Nat) : Int) + 1 = (T0.stops : Int) by omega]
    refine ⟨_, rfl, log_ok (by omega), ?_⟩
    (repeat fail "s")
    refine ⟨_, rfl, log_ok (by omega), ?_⟩
    (repeat fail "s")
    rename_i h4 H1 nh4 e1 hh4
    have hh4 : H1 h4 = some (.lst ((headW T0).map V.str)) := hh4
    refine ⟨_, _, headW T0, rfl, rfl, .inl (SqL.of hh4), ?_, ?_⟩
    · show ("train" : Str).length + ((nT T0.rows.length).length + ((nT T0.stops).length + ((nT T0.coming).length + 0))) + 4 * (" " : Str).length ≤ _
      omega
    (repeat fail "s")
    rename_i rw_ H2 nrw e2 hrw
    have hkl2 : ((keys T0).map V.int).length = T0.sold.length := by rw [List.length_map, keys_len]
    have nrwH : H rw_ = none := Evl.fresh_back e1 nrw
    have x2 := e1.trans e2
    (repeat fail "s")
    clear e1 e2
    refine fr_range (n := ((keys T0).map V.int).length) (fun i σ H' => ∃ (v2 v3 v4 : Option V), σ = [some (.ref w), some (.ref rw_), v2, v3, v4] ∧ Ex H H' ∧ H' rw_ = some (.lst ((Txt.join " " (headW T0) :: (T0.sold.take i).map fun x => Txt.join " " (wordsT x)).map V.str)))
      ⟨_, _, _, rfl, x2, hrw⟩ ?_ ?_
    · rintro i σ H3 hi ⟨v2, v3, v4, rfl, x3, hrw3⟩
      rw [hkl2] at hi
      have hxi := List.getElem?_eq_getElem hi
      have mx := List.getElem_mem hi
      obtain ⟨x, hx⟩ : ∃ x, x = T0.sold[i] := ⟨_, rfl⟩
      rw [← hx] at hxi mx
      have hki : (keys T0)[i]? = some (x.1 : Int) := map_get hxi
      obtain ⟨b, e, hb, he, wy⟩ := G.way x mx
      have hlow := G.low x mx
      have hlen := wy.len
      have lx := nT_len (n := x.1) (by omega)
      have lx2 : (Str.ofString (toString ((x.1 : Nat) : Int))).length ≤ 9 := lx
      obtain ⟨li, hli, hPi⟩ := R.prt.right (map_get (f := fun x => x.2) hxi)
      clear x2
      (repeat fail "s")
      refine ⟨_, rfl, log_ok (by omega), ?_⟩
      refine ⟨_, _, rfl, rfl, sl _ (by simp only [lt]; omega), ?_⟩
      rw [show ("ticket " : Str) ++ Str.ofString (toString ((x.1 : Nat) : Int)) = Txt.join " " (wordsT (x.1, [])) from ticket_text x.1]
      have hli3 : PartsAt H3 li x.2 := PartsAt.mono x3 hPi
      (repeat fail "s")
      refine fr_parts (ps := x.2) (Hb := H3) (fun j σ' H' => ∃ (v4 : Option V), σ' = [some (.ref w), some (.ref rw_), some (.int (i : Int)), some (.str (Txt.join " " (wordsT (x.1, x.2.take j)))), v4] ∧ Ex H3 H') hli3
        ⟨_, rfl, Evl.Ex.refl _⟩ (fun j σ' H' _ ⟨_, _, e⟩ => KeepP.ex e) ?_ ?_
      · rintro j t c1 c2 c3 σ' H4 hj ht ⟨v4, rfl, x4⟩
        have hmq := wy.mem _ (List.mem_of_getElem? hj)
        dsimp only at hmq
        have hjl := lt_of_get hj
        have hrl := row_len (n := x.1) (ps := x.2.take j) (by omega) (fun q m => by
          have := wy.mem q (List.mem_of_mem_take m)
          omega)
        rw [List.length_take] at hrl
        have m1 : (Str.ofString (toString ((c1 : Nat) : Int))).length ≤ 9 := nT_len (n := c1) (by omega)
        have m2 : (Str.ofString (toString ((c2 : Nat) : Int))).length ≤ 9 := nT_len (n := c2) (by omega)
        have m3 : (Str.ofString (toString ((c3 : Nat) : Int))).length ≤ 9 := nT_len (n := c3) (by omega)
        (repeat fail "s")
        refine ⟨_, _, rfl, rfl, sl _ (by simp only [ll, ls]; omega), ?_⟩
        (repeat fail "s")
        refine ⟨_, rfl, log_ok (by omega), ?_⟩
        refine ⟨_, _, rfl, rfl, sl _ (by simp only [ll, ls]; omega), ?_⟩
        (repeat fail "s")
        refine ⟨_, _, rfl, rfl, sl _ (by simp only [ll, ls]; omega), ?_⟩
        (repeat fail "s")
        refine ⟨_, rfl, log_ok (by omega), ?_⟩
        refine ⟨_, _, rfl, rfl, sl _ (by simp only [ll, ls]; omega), ?_⟩
        (repeat fail "s")
        refine ⟨_, _, rfl, rfl, sl _ (by simp only [ll, ls]; omega), ?_⟩
        (repeat fail "s")
        refine ⟨_, rfl, log_ok (by omega), ?_⟩
        refine ⟨_, _, rfl, rfl, sl _ (by simp only [ll, ls]; omega), ?_⟩
        refine ⟨some (.ref t), ?_, x4⟩
        rw [row_snoc hj]
        rfl
      · rintro σ' H4 ⟨v4, rfl, x4⟩
        rw [List.take_length]
        have hrw4 := x4 _ _ hrw3
        (repeat fail "s")
        refine v_append hrw4 ?_ fun H5 c5 h5 => ?_
        · rw [List.length_map, List.length_cons, List.length_map, List.length_take]
          exact Nat.lt_of_lt_of_le (show _ < 3000000 by omega) (by decide)
        refine ⟨_, _, _, rfl, c5.ex (x3.trans x4) nrwH, ?_⟩
        rw [h5, take_snoc hxi, List.map_append, List.map_cons, List.map_cons, List.map_append]
        rfl
    · rintro σ H3 ⟨v2, v3, v4, rfl, x3, hrw3⟩
      rw [hkl2, List.take_length] at hrw3
      (repeat fail "s")
      refine ⟨_, _, _, rfl, rfl, .inl (SqL.of hrw3), text_sum G hco, ?_⟩
      exact q H3 x3
theorem sc_number : FnScope ["word", "sign"] ["word"] (defScope s_number) := ⟨rfl, rfl, rfl, by decide +kernel, rfl, by decide +kernel, by decide +kernel⟩
theorem c_number (T : Tx K mg) : Cal P w K mg base 1 "number" (spNumber K) := by
  refine T.cal 39 84 rfl rfl sc_number (fun _ _ _ _ _ _ us hl => match us, hl with | [_], _ => rfl) (fun vs H Q E h => ?_) fun cdv A outer s H vs Q E hr h => ?_
  · first | (obtain ⟨_, rfl, _⟩ := h; rfl) | (obtain ⟨_, _, rfl, _⟩ := h; rfl) | (obtain ⟨_, _, _, rfl, _⟩ := h; rfl) | (obtain ⟨_, _, _, _, rfl, _⟩ := h; rfl) | (obtain ⟨_, _, _, _, _, rfl, _⟩ := h; rfl) | (obtain ⟨_, _, _, _, _, _, rfl, _⟩ := h; rfl) | (obtain ⟨_, _, _, _, _, _, _, rfl, _⟩ := h; rfl) | (obtain ⟨_, _, _, _, _, _, _, _, rfl, _⟩ := h; rfl) | (obtain ⟨_, _, _, _, _, _, _, _, _, rfl, _⟩ := h; rfl) | (obtain ⟨_, _, _, _, _, _, _, _, _, _, rfl, _⟩ := h; rfl) | (obtain ⟨_, _, _, _, _, _, _, _, _, _, _, rfl, _⟩ := h; rfl) | (obtain ⟨_, _, _, _, _, _, _, _, _, _, _, _, rfl, _⟩ := h; rfl) | (obtain ⟨_, _, _, _, _, _, _, _, _, _, _, _, _, rfl, _⟩ := h; rfl) | (obtain ⟨_, _, _, _, _, _, _, _, _, _, _, _, _, _, rfl, _⟩ := h; rfl) | (obtain ⟨_, _, _, _, _, _, _, _, _, _, _, _, _, _, _, rfl, _⟩ := h; rfl)
  · refine ⟨_, (pss_cons (ps_for (passes_of rfl) rfl (pi_str (pv 0)) (pg_name (i := 1) sc_number.nd rfl (Or.inl rfl))
        (pss_one (ps_if (pt_cmpR op_notInS (pv 1) (pe_gi rfl (T.str 81)) (by rfl))
          (pss_one (ps_raise rfl (takes_of rfl rfl rfl rfl) (pmk_x T 79 63 rfl rfl)))
          pss_nil)))
      (pss_cons (ps_if (PW.pt (pw_or (pt_cmpR op_eq (pv 0) pe_str (nomark _)) (pw_or (pt_cmpR op_gt (pe_callB call_len_str (by rfl) (T.free 0) PySem.boot_len (pa_cons (pv 0) pa_nil)) (pe_gi rfl (T.int 82)) (nomark _)) (pw_or1 (PW.pt (pw_and (pt_cmpR op_eq (pe_ix ix_str (pv 0) pe_int (fun _ _ => rfl)) pe_str (nomark _)) (pw_and1 (pt_cmpR op_gt (pe_callB call_len_str (by rfl) (T.free 0) PySem.boot_len (pa_cons (pv 0) pa_nil)) pe_int (nomark _)))))))))
        (pss_one (ps_raise rfl (takes_of rfl rfl rfl rfl) (pmk_x T 79 63 rfl rfl)))
        pss_nil)
      (pss_one (ps_ret (pe_callTy call_int_str (by rfl) (T.free 83) (by decide +kernel) (pa_cons (pv 0) pa_nil)))))), ?_⟩
    obtain ⟨z, rfl, hz, q1, q2⟩ := h
    have hlz : (TL.tl z).length = z.length := (TL.len_tl z).symm
    have no : isNum (TL.tl z) = false → numOf z = none := fun h => by
      unfold numOf
      rw [h]
      rfl
    (repeat fail "s")
    refine ⟨_, rfl, z, rfl, ?_⟩
    refine fr_str (fun i σ H' => ∃ v1 : Option V, σ = [some (.str z), v1] ∧ H' = H ∧ ∀ k c, k < i → (TL.tl z)[k]? = some c → 48 ≤ c ∧ c ≤ 57) ⟨_, rfl, rfl, fun k c h => absurd h (by omega)⟩ ?_ ?_
    · rintro i c σ H' hc ⟨v1, rfl, rfl, hd⟩
      (repeat fail "s")
      refine ⟨c, _, rfl, rfl, ?_⟩
      (repeat fail "s")
      refine iteN (fun hn => ?_) (fun hy => ?_)
      · refine q2 (no ?_)
        have hall : (TL.tl z).all (fun c => decide (48 ≤ c) && decide (c ≤ 57)) = false := by
          rw [List.all_eq_false]
          refine ⟨c, List.mem_of_getElem? hc, ?_⟩
          have := mt figs.mpr hn
          simp only [Bool.and_eq_true, decide_eq_true_eq]
          exact this
        unfold isNum
        rw [hall]
        rfl
      · (repeat fail "s")
        refine ⟨_, rfl, rfl, fun k c' hk hc' => ?_⟩
        by_cases e : k = i
        · subst e
          rw [hc] at hc'
          cases hc'
          exact figs.mp hy
        · exact hd k c' (by omega) hc'
    · rintro σ H' ⟨v1, rfl, rfl, hd⟩
      have hne0 : TL.tl z ≠ [] → z ≠ "" := fun h e => h (by rw [e]; decide +kernel)
      have hsz : z.length ≤ sizeLine := Nat.le_trans hz (by decide)
      have hall : (TL.tl z).all (fun c => decide (48 ≤ c) && decide (c ≤ 57)) = true := by
        rw [List.all_eq_true]
        intro c m
        obtain ⟨k, hk⟩ := List.mem_iff_getElem?.mp m
        have := hd k c (lt_of_get hk) hk
        simp only [Bool.and_eq_true, decide_eq_true_eq]
        exact this
      (repeat fail "s")
      refine iteD (fun he => ?_) (fun he => ?_)
      · (repeat fail "s")
        refine q2 (no ?_)
        rw [he]
        decide +kernel
      have hne : TL.tl z ≠ [] := fun e => he (TL.ext_tl (e.trans (by decide +kernel)))
      (repeat fail "s")
      refine ⟨_, rfl, hsz, ?_⟩
      (repeat fail "s")
      refine iteD (fun h9 => ?_) (fun h9 => ?_)
      · (repeat fail "s")
        refine q2 (no ?_)
        unfold isNum
        rw [decide_eq_false (show ¬ (TL.tl z).length ≤ 9 by omega), Bool.and_false, Bool.false_and]
      (repeat fail "s")
      obtain ⟨c, r, hcr⟩ := List.exists_cons_of_ne_nil hne
      have hcr2 : z.cps.toList = c :: r := hcr
      refine ⟨z, 0, c, rfl, rfl, hsz, (by rw [hcr2]; simp [atI, ixN]), ?_⟩
      have h0 : (⟨#[c]⟩ : Str) = "0" ↔ c = 48 := ⟨fun e => by
        have : TL.tl (⟨#[c]⟩ : Str) = TL.tl ("0" : Str) := congrArg TL.tl e
        rw [show TL.tl (⟨#[c]⟩ : Str) = [c] from rfl, show TL.tl ("0" : Str) = [48] by decide +kernel] at this
        exact (List.cons.inj this).1, fun e => by
        rw [e]
        decide +kernel⟩
      have bad : c = 48 → 1 < z.length → numOf z = none := fun hc hl => by
        refine no ?_
        unfold isNum
        rw [hcr, List.head?_cons, hc, decide_eq_false (show ¬ (48 :: r).length = 1 by rw [hc] at hcr; rw [← hcr]; omega)]
        simp
      have fin : (c = 48 → ¬ 1 < z.length) → numOf z = some (NumText.digitsVal (TL.tl z)) := fun hc => by
        have h1 : isNum (TL.tl z) = true := by
          unfold isNum
          rw [hall, decide_eq_true (show (TL.tl z).length ≤ 9 by omega)]
          have h2 : (TL.tl z).isEmpty = false := by rw [hcr]; rfl
          rw [h2]
          by_cases hc48 : c = 48
          · rw [decide_eq_true (show (TL.tl z).length = 1 by
              have := hc hc48
              have h3 : 0 < (TL.tl z).length := by rw [hcr]; exact Nat.zero_lt_succ _
              omega)]
            rfl
          · rw [decide_eq_true (show (TL.tl z).head? ≠ some 48 by rw [hcr, List.head?_cons]; exact fun z => hc48 (Option.some.inj z)), Bool.or_true]
            rfl
        unfold numOf
        rw [if_pos h1]
      have int_ : (c = 48 → ¬ 1 < z.length) → ∃ a n, [V.str z] = [V.str a] ∧ PySem.intText? a = some n ∧ a.length ≤ 640 ∧ Q (.int n) H' := fun hc => by
        refine ⟨z, ((NumText.digitsVal (TL.tl z) : Nat) : Int), rfl, PySem.intText_digits (fun d m => ?_) hne (by omega), by omega, q1 _ (fin hc)⟩
        have := List.all_eq_true.mp hall d m
        simp only [Bool.and_eq_true, decide_eq_true_eq] at this
        exact this
      (repeat fail "s")
      refine iteD (fun hc => ?_) (fun hc => ?_)
      · (repeat fail "s")
        refine ⟨_, rfl, hsz, ?_⟩
        (repeat fail "s")
        refine iteD (fun hl => ?_) (fun hl => ?_)
        · (repeat fail "s")
          exact q2 (bad (h0.mp hc) (by omega))
        · (repeat fail "s")
          exact int_ fun _ h => hl (by omega)
      · (repeat fail "s")
        exact int_ fun h => absurd (h0.mpr h) hc
theorem sc_numbers_of : FnScope ["row", "word", "words", "one"] ["row", "word"] (defScope s_numbers_of) := ⟨rfl, rfl, rfl, by decide +kernel, rfl, by decide +kernel, by decide +kernel⟩
theorem c_numbers_of (T : Tx K mg) : Cal P w K mg base 2 "numbers_of" (spNumbersOf K) := by
  refine T.cal 40 85 rfl rfl sc_numbers_of (fun _ _ _ _ _ _ us hl => match us, hl with | [_, _], _ => rfl) (fun vs H Q E h => ?_) fun cdv A outer s H vs Q E hr h => ?_
  · first | (obtain ⟨_, rfl, _⟩ := h; rfl) | (obtain ⟨_, _, rfl, _⟩ := h; rfl) | (obtain ⟨_, _, _, rfl, _⟩ := h; rfl) | (obtain ⟨_, _, _, _, rfl, _⟩ := h; rfl) | (obtain ⟨_, _, _, _, _, rfl, _⟩ := h; rfl) | (obtain ⟨_, _, _, _, _, _, rfl, _⟩ := h; rfl) | (obtain ⟨_, _, _, _, _, _, _, rfl, _⟩ := h; rfl) | (obtain ⟨_, _, _, _, _, _, _, _, rfl, _⟩ := h; rfl) | (obtain ⟨_, _, _, _, _, _, _, _, _, rfl, _⟩ := h; rfl) | (obtain ⟨_, _, _, _, _, _, _, _, _, _, rfl, _⟩ := h; rfl) | (obtain ⟨_, _, _, _, _, _, _, _, _, _, _, rfl, _⟩ := h; rfl) | (obtain ⟨_, _, _, _, _, _, _, _, _, _, _, _, rfl, _⟩ := h; rfl) | (obtain ⟨_, _, _, _, _, _, _, _, _, _, _, _, _, rfl, _⟩ := h; rfl) | (obtain ⟨_, _, _, _, _, _, _, _, _, _, _, _, _, _, rfl, _⟩ := h; rfl) | (obtain ⟨_, _, _, _, _, _, _, _, _, _, _, _, _, _, _, rfl, _⟩ := h; rfl)
  · refine ⟨_, (pss_cons (ps_set (i := 2) sc_numbers_of.nd rfl (Or.inl rfl) (pe_split (pv 0) pe_str))
      (pss_cons (ps_if (pt_cmpR op_ne (pe_ix (ix_l K) (pv 2) pe_int (fun _ _ => rfl)) (pv 1) (nomark _))
        (pss_one (ps_raise rfl (takes_of rfl rfl rfl rfl) (pmk_x T 79 63 rfl rfl)))
        pss_nil)
      (pss_one (ps_ret (pe_lc (own := [("one", 3)]) (g := gName 3) rfl sc_numbers_of.nd (pi_l K (pe_slice (sl_k K) (pv 2) (po_some pe_int) po_none)) (blkOk_by (N := ["row", "word", "words", "one"]) (sc := defScope s_numbers_of) (by decide +kernel)) (fun _ _ _ _ _ => pg_name (i := 3) sc_numbers_of.nd rfl (Or.inl rfl)) (fun _ _ _ _ _ => pts_nil) (fun _ _ _ _ _ => (pe_c (c_number T) hr pz (pa_cons (pv 3) pa_nil)))))))), ?_⟩
    obtain ⟨z, w, ns, rfl, hz, hn, hns, q⟩ := h
    have hspl : ∃ r, Txt.split z " " = w :: r ∧ r.mapM numOf = some ns := by
      unfold numbersOf at hns
      cases hs : Txt.split z " " with
      | nil =>
        rw [hs] at hns
        cases hns
      | cons a r =>
        rw [hs] at hns
        dsimp only at hns
        split at hns
        · rename_i e
          subst e
          exact ⟨r, rfl, hns⟩
        · cases hns
    obtain ⟨r, hr, hm⟩ := hspl
    obtain ⟨hmap, hall⟩ := mapM_some 0 hm
    have hrl : r.length = ns.length := by rw [← hmap, List.length_map]
    (repeat fail "s")
    refine v_split (by decide +kernel) (Nat.le_trans (show _ ≤ 3000000 by omega) (by decide)) fun wd H1 nwd e1 hwd => ?_
    rw [hr] at hwd
    have hwd : H1 wd = some (.lst (.str w :: r.map V.str)) := hwd
    (repeat fail "s")
    refine v_ixL (SqL.of hwd) (at_of (j := 0) rfl rfl) ?_
    (repeat fail "s")
    rename_i t H2 nt e2 ht
    refine lc_vL (SqL.of ht) (by rw [List.length_map]; omega) (fun x => match x with | .str s => .int (((numOf s).getD 0 : Nat) : Int) | _ => .non) (fun _ => rfl) (fun i x H3 Q3 hi e3 q3 => ?_) fun D H3 nD e3 hD => ?_
    · obtain ⟨s1, hs1, rfl⟩ := map_back hi
      obtain ⟨n, hn1⟩ := hall s1 (List.mem_of_getElem? hs1)
      (repeat fail "s")
      refine ⟨s1, rfl, by have := numOf_len hn1; omega, fun m hm => ?_, fun h => by rw [h] at hn1; cases hn1⟩
      rw [hn1] at hm
      cases hm
      have q4 : Q3 (.int (((numOf s1).getD 0 : Nat) : Int)) H3 := q3 H3 (Evl.Ex.refl H3)
      rw [hn1] at q4
      exact q4
    · (repeat fail "s")
      refine q H3 D (e1.trans (e2.trans e3)) (Evl.fresh_back (e1.trans e2) nD) ?_
      rw [hD, ← hmap, List.map_map, List.map_map, List.map_map]
      rfl
theorem sc_Train_need_seat : FnScope ["self", "seat"] ["self", "seat"] (defScope s_Train_need_seat) := ⟨rfl, rfl, rfl, by decide +kernel, rfl, by decide +kernel, by decide +kernel⟩
theorem m_Train_need_seat (T : Tx K mg) : Met P w K mg base 1 (He.ga K "Train") "need_seat" (spNeedSeat K) := by
  refine T.met 41 90 15 rfl rfl rfl sc_Train_need_seat (fun _ _ _ _ _ _ us hl => match us, hl with | [_, _], _ => rfl) (fun vs H Q E h => ?_) fun cdv A outer s H vs Q E hr h => ?_
  · first | (obtain ⟨_, rfl, _⟩ := h; rfl) | (obtain ⟨_, _, rfl, _⟩ := h; rfl) | (obtain ⟨_, _, _, rfl, _⟩ := h; rfl) | (obtain ⟨_, _, _, _, rfl, _⟩ := h; rfl) | (obtain ⟨_, _, _, _, _, rfl, _⟩ := h; rfl) | (obtain ⟨_, _, _, _, _, _, rfl, _⟩ := h; rfl) | (obtain ⟨_, _, _, _, _, _, _, rfl, _⟩ := h; rfl) | (obtain ⟨_, _, _, _, _, _, _, _, rfl, _⟩ := h; rfl) | (obtain ⟨_, _, _, _, _, _, _, _, _, rfl, _⟩ := h; rfl) | (obtain ⟨_, _, _, _, _, _, _, _, _, _, rfl, _⟩ := h; rfl) | (obtain ⟨_, _, _, _, _, _, _, _, _, _, _, rfl, _⟩ := h; rfl) | (obtain ⟨_, _, _, _, _, _, _, _, _, _, _, _, rfl, _⟩ := h; rfl) | (obtain ⟨_, _, _, _, _, _, _, _, _, _, _, _, _, rfl, _⟩ := h; rfl) | (obtain ⟨_, _, _, _, _, _, _, _, _, _, _, _, _, _, rfl, _⟩ := h; rfl) | (obtain ⟨_, _, _, _, _, _, _, _, _, _, _, _, _, _, _, rfl, _⟩ := h; rfl)
  · refine ⟨_, (pss_one (ps_if (pt_not (pt_chain op_le op_lt pe_int (pv 1) (pe_callB (len_k K) (by rfl) (T.free 0) PySem.boot_len (pa_cons (fld_k K (pv 0) rfl) pa_nil))))
        (pss_one (ps_raise rfl (takes_of rfl rfl rfl rfl) (pmk_x T 88 60 rfl rfl)))
        pss_nil)), ?_⟩
    obtain ⟨S, p, T0, s, rfl, A0, q1, q2⟩ := h
    obtain ⟨r, d, as, ls, R, _⟩ := A0
    obtain ⟨dx, hp⟩ := R.ins
    refine ⟨_, rfl, _, _, rfl, rfl, _, rfl, ?_⟩
    refine iteD (fun h1 => ?_) (fun h1 => ?_)
    · refine ⟨_, rfl, p, _, dx, _, _, rfl, hp, (T.cls 15), (T.noat 17), lk_rows, r, _, rfl, .inl (SqL.of R.grid.top), _, _, rfl, rfl, _, rfl, ?_⟩
      have hl : ((as.map V.ref).length : Int) = (T0.rows.length : Int) := by rw [List.length_map, R.grid.row.len]
      rw [hl]
      refine iteN (fun h3 => ?_) (fun h3 => ?_)
      · exact q2 fun z => h3 z.2
      · exact q1 ⟨h1, h3⟩
    · exact ⟨_, rfl, iteT (q2 fun z => h1 z.1)⟩
theorem sc_Train_farthest : FnScope ["self", "seat", "stop"] ["self", "seat", "stop"] (defScope s_Train_farthest) := ⟨rfl, rfl, rfl, by decide +kernel, rfl, by decide +kernel, by decide +kernel⟩
theorem m_Train_farthest (T : Tx K mg) : Met P w K mg base 2 (He.ga K "Train") "farthest" (spFarthest K) := by
  refine T.met 42 91 15 rfl rfl rfl sc_Train_farthest (fun _ _ _ _ _ _ us hl => match us, hl with | [_, _, _], _ => rfl) (fun vs H Q E h => ?_) fun cdv A outer s H vs Q E hr h => ?_
  · first | (obtain ⟨_, rfl, _⟩ := h; rfl) | (obtain ⟨_, _, rfl, _⟩ := h; rfl) | (obtain ⟨_, _, _, rfl, _⟩ := h; rfl) | (obtain ⟨_, _, _, _, rfl, _⟩ := h; rfl) | (obtain ⟨_, _, _, _, _, rfl, _⟩ := h; rfl) | (obtain ⟨_, _, _, _, _, _, rfl, _⟩ := h; rfl) | (obtain ⟨_, _, _, _, _, _, _, rfl, _⟩ := h; rfl) | (obtain ⟨_, _, _, _, _, _, _, _, rfl, _⟩ := h; rfl) | (obtain ⟨_, _, _, _, _, _, _, _, _, rfl, _⟩ := h; rfl) | (obtain ⟨_, _, _, _, _, _, _, _, _, _, rfl, _⟩ := h; rfl) | (obtain ⟨_, _, _, _, _, _, _, _, _, _, _, rfl, _⟩ := h; rfl) | (obtain ⟨_, _, _, _, _, _, _, _, _, _, _, _, rfl, _⟩ := h; rfl) | (obtain ⟨_, _, _, _, _, _, _, _, _, _, _, _, _, rfl, _⟩ := h; rfl) | (obtain ⟨_, _, _, _, _, _, _, _, _, _, _, _, _, _, rfl, _⟩ := h; rfl) | (obtain ⟨_, _, _, _, _, _, _, _, _, _, _, _, _, _, _, rfl, _⟩ := h; rfl)
  · refine ⟨_, (pss_cons (ps_expr (pe_m (m_Train_need_seat T) hr (pr (takes_of rfl rfl rfl rfl)) (pv 0) (pa_cons (pv 1) pa_nil)))
      (pss_cons (ps_if (pt_not (pt_chain op_le op_lt pe_int (pv 2) (fld_k K (pv 0) rfl)))
        (pss_one (ps_raise rfl (takes_of rfl rfl rfl rfl) (pmk_x T 54 55 rfl rfl)))
        pss_nil)
      (pss_one (ps_ret (pe_c (c_reach T) hr pz (pa_cons (pe_ix (ix_l K) (fld_k K (pv 0) rfl) (pv 1) (fun _ _ => rfl)) (pa_cons (pv 2) pa_nil))))))), ?_⟩
    obtain ⟨S, p, T0, s, t, rfl, A0, q1, q2, q3⟩ := h
    obtain ⟨r, d, as, ls, R, z⟩ := id A0
    obtain ⟨dx, hp⟩ := R.ins
    refine ⟨_, rfl, _, _, _, rfl, hp, trF_no (by decide +kernel) (by decide +kernel) (by decide +kernel) (by decide +kernel), _, rfl, S, p, T0, s, rfl, A0, fun hs => ?_, q2⟩
    refine ⟨_, rfl, _, _, rfl, rfl, _, rfl, ?_⟩
    refine iteD (fun h1 => ?_) (fun h1 => ?_)
    · refine ⟨_, rfl, p, _, dx, _, _, rfl, hp, (T.cls 15), (T.noat 16), lk_stops, _, _, rfl, rfl, _, rfl, ?_⟩
      refine iteN (fun h3 => ?_) (fun h3 => ?_)
      · exact q3 hs fun z => h3 z.2
      · have hi : s.toNat < T0.rows.length := by omega
        have hrow := List.getElem?_eq_getElem hi
        obtain ⟨a, ha, hr2⟩ := R.grid.row.right hrow
        refine ⟨_, rfl, p, _, dx, _, _, rfl, hp, (T.cls 15), (T.noat 17), lk_rows, _, rfl, r, _, _, .ref a, rfl, rfl, SqL.of R.grid.top, at_of (j := s.toNat) (by omega) (map_get ha), _, rfl, a, T0.rows[s.toNat], t.toNat, ?_, SqL.of hr2, q1 _ ⟨hs.1, hrow⟩ ⟨h1, h3⟩⟩
        rw [Int.toNat_of_nonneg h1]
    · exact ⟨_, rfl, iteT (q3 hs fun z => h1 z.1)⟩
theorem sc_parts_of : FnScope ["train", "numbers", "parts", "at", "part"] ["train", "numbers"] (defScope s_parts_of) := ⟨rfl, rfl, rfl, by decide +kernel, rfl, by decide +kernel, by decide +kernel⟩
theorem c_parts_of (T : Tx K mg) : Cal P w K mg base 3 "parts_of" (spPartsOf K) := by
  refine T.cal 43 92 rfl rfl sc_parts_of (fun _ _ _ _ _ _ us hl => match us, hl with | [_, _], _ => rfl) (fun vs H Q E h => ?_) fun cdv A outer s H vs Q E hr h => ?_
  · first | (obtain ⟨_, rfl, _⟩ := h; rfl) | (obtain ⟨_, _, rfl, _⟩ := h; rfl) | (obtain ⟨_, _, _, rfl, _⟩ := h; rfl) | (obtain ⟨_, _, _, _, rfl, _⟩ := h; rfl) | (obtain ⟨_, _, _, _, _, rfl, _⟩ := h; rfl) | (obtain ⟨_, _, _, _, _, _, rfl, _⟩ := h; rfl) | (obtain ⟨_, _, _, _, _, _, _, rfl, _⟩ := h; rfl) | (obtain ⟨_, _, _, _, _, _, _, _, rfl, _⟩ := h; rfl) | (obtain ⟨_, _, _, _, _, _, _, _, _, rfl, _⟩ := h; rfl) | (obtain ⟨_, _, _, _, _, _, _, _, _, _, rfl, _⟩ := h; rfl) | (obtain ⟨_, _, _, _, _, _, _, _, _, _, _, rfl, _⟩ := h; rfl) | (obtain ⟨_, _, _, _, _, _, _, _, _, _, _, _, rfl, _⟩ := h; rfl) | (obtain ⟨_, _, _, _, _, _, _, _, _, _, _, _, _, rfl, _⟩ := h; rfl) | (obtain ⟨_, _, _, _, _, _, _, _, _, _, _, _, _, _, rfl, _⟩ := h; rfl) | (obtain ⟨_, _, _, _, _, _, _, _, _, _, _, _, _, _, _, rfl, _⟩ := h; rfl)
  · refine ⟨_, (pss_cons (ps_set (i := 2) sc_parts_of.nd rfl (Or.inl rfl) (pe_lst pa_nil))
      (pss_cons (ps_for (passes_of rfl) rfl (pi_range3 (by rfl) (T.free 3) (pa_cons pe_int (pa_cons (pe_callB (len_k K) (by rfl) (T.free 0) PySem.boot_len (pa_cons (pv 1) pa_nil)) (pa_cons pe_int pa_nil)))) (pg_name (i := 3) sc_parts_of.nd rfl (Or.inl rfl))
        (pss_cons (ps_set (i := 4) sc_parts_of.nd rfl (Or.inl rfl) (pe_tup (pa_cons (pe_ix (ix_l K) (pv 1) (pv 3) (fun _ _ => rfl)) (pa_cons (pe_ix (ix_l K) (pv 1) (pe_op op_add (pv 3) pe_int) (fun _ _ => rfl)) (pa_cons (pe_ix (ix_l K) (pv 1) (pe_op op_add (pv 3) pe_int) (fun _ _ => rfl)) pa_nil)))))
        (pss_cons (ps_expr (pe_m (m_Train_need_seat T) hr (pr (takes_of rfl rfl rfl rfl)) (pv 0) (pa_cons (pe_ix (ix_t K) (pv 4) pe_int (fun _ _ => rfl)) pa_nil)))
        (pss_cons (ps_expr (pe_m (m_Train_need_stretch T) hr (pr (takes_of rfl rfl rfl rfl)) (pv 0) (pa_cons (pe_ix (ix_t K) (pv 4) pe_int (fun _ _ => rfl)) (pa_cons (pe_ix (ix_t K) (pv 4) pe_int (fun _ _ => rfl)) pa_nil))))
        (pss_cons (ps_if (PW.pt (pw_and (pt_truth (pv 2) (by intro _; rfl)) (pw_and1 (PW.pt (pw_or (pt_cmpR op_ne (pe_ix (ix_t K) (pe_ix (ix_l K) (pv 2) (pe_un un_neg pe_int) (fun _ _ => rfl)) pe_int (fun _ _ => rfl)) (pe_ix (ix_t K) (pv 4) pe_int (fun _ _ => rfl)) (nomark _)) (pw_or1 (pt_cmpR op_eq (pe_ix (ix_t K) (pe_ix (ix_l K) (pv 2) (pe_un un_neg pe_int) (fun _ _ => rfl)) pe_int (fun _ _ => rfl)) (pe_ix (ix_t K) (pv 4) pe_int (fun _ _ => rfl)) (nomark _))))))))
          (pss_one (ps_raise rfl (takes_of rfl rfl rfl rfl) (pmk_x T 33 34 rfl rfl)))
          pss_nil)
        (pss_cons (ps_if (pt_cmpR op_lt (pe_m (m_Train_farthest T) hr (pr (takes_of rfl rfl rfl rfl)) (pv 0) (pa_cons (pe_ix (ix_t K) (pv 4) pe_int (fun _ _ => rfl)) (pa_cons (pe_ix (ix_t K) (pv 4) pe_int (fun _ _ => rfl)) pa_nil))) (pe_ix (ix_t K) (pv 4) pe_int (fun _ _ => rfl)) (nomark _))
          (pss_one (ps_raise rfl (takes_of rfl rfl rfl rfl) (pmk_x T 86 62 rfl rfl)))
          pss_nil)
        (pss_one (ps_expr (pe_bm PySem.F.plainAttrs_list PySem.F.slot_list_append PySem.F.type_list_append mt_append (pv 2) (pa_cons (pv 4) pa_nil))))))))))
      (pss_one (ps_ret (pv 2))))), ?_⟩
    obtain ⟨S, p, l, T0, t, ns, rfl, A0, hl, hm, hn, q1, q2⟩ := h
    have wf := A0.wf
    have w2 := wf.s2
    have w4 := wf.t2
    have hll : (((t :: ns).map fun n : Nat => (n : Int)).map V.int).length = ns.length + 1 := by rw [List.length_map, List.length_map, List.length_cons]
    (repeat fail "s")
    rename_i r0 H1 nr0 e1 hr0
    refine s_cons ?_
    (repeat fail "s")
    refine ⟨1, ((ns.length + 1 : Nat) : Int), 3, ns.length / 3, by rw [hll], rg3 hm (by omega), ?_⟩
    have hg : ∀ k, (ns.map fun n : Nat => (n : Int))[k]? = (ns[k]?).map fun n : Nat => (n : Int) := fun k => List.getElem?_map ..
    refine fr_range3 (fun i σ H' => ∃ (acc : List P3) (v3 v4 : Option V), σ = [some (.ref p), some (.ref l), some (.ref r0), v3, v4] ∧ Ex H H' ∧ PartsAt H' r0 acc ∧ acc.length ≤ i ∧ partsGo T0 [] ns = partsGo T0 acc (ns.drop (3 * i)))
      ⟨[], _, _, rfl, e1, ⟨[], hr0, All2.nil⟩, Nat.le_refl _, rfl⟩ ?_ ?_
    · rintro i σ H2 hi ⟨acc, v3, v4, rfl, x2, hP, hal, hgo⟩
      obtain ⟨a, b, c, ha, hb, hc, hd⟩ := drop3 (ns := ns) (i := i) (by omega)
      rw [hd] at hgo
      have hl2 := x2 _ _ hl
      have at1 : ∀ (k x : Nat) (z : Int), ns[k]? = some x → z = ((k + 1 : Nat) : Int) → atI (((t :: ns).map fun n : Nat => (n : Int)).map V.int) z = some (.int (x : Int)) := fun k x z h hz => at_of (j := k + 1) hz (by
        rw [List.getElem?_map, List.getElem?_map, List.getElem?_cons_succ, h]
        rfl)
      (repeat fail "s")
      refine v_ixL (SqL.of hl2) (at1 _ _ _ ha (by omega)) ?_
      (repeat fail "s")
      refine v_ixL (SqL.of hl2) (at1 _ _ _ hb (by omega)) ?_
      (repeat fail "s")
      refine v_ixL (SqL.of hl2) (at1 _ _ _ hc (by omega)) ?_
      (repeat fail "s")
      rename_i u H3 nu e3 hu
      have X3 := x2.trans e3
      have A3 := A0.ex X3
      have hP3 : PartsAt H3 r0 acc := PartsAt.mono e3 hP
      have nr0u : r0 ≠ u := by
        obtain ⟨ts, h, _⟩ := hP
        exact ne_of_none h nu
      clear e3 hP
      rw [partsGo_cons] at hgo
      refine ⟨S, p, T0, (a : Int), rfl, A3, fun hs => ?_, fun hs => q2.seat (by rw [hgo, if_pos (show ¬ a < T0.rows.length from fun z => hs ⟨by omega, by omega⟩)]) _ X3⟩
      have hs : a < T0.rows.length := by omega
      rw [if_neg (show ¬ ¬ a < T0.rows.length from fun z => z hs)] at hgo
      (repeat fail "s")
      refine ⟨S, p, T0, (b : Int), (c : Int), rfl, A3, fun hs2 => ?_, fun hs2 => q2.stretch (by rw [hgo, if_pos (show ¬ (b < c ∧ c < T0.stops) from fun z => hs2 ⟨by omega, by omega, by omega⟩)]) _ X3⟩
      obtain ⟨_, hs2, hs3⟩ := hs2
      have hs2 : b < c ∧ c < T0.stops := ⟨by omega, by omega⟩
      rw [if_neg (show ¬ ¬ (b < c ∧ c < T0.stops) from fun z => z hs2)] at hgo
      (repeat fail "s")
      obtain ⟨ts, hr3, hT3⟩ := id hP3
      have htl := hT3.len
      have htr : TruV K (.ref r0) H3 (!(ts.map V.ref).isEmpty) := .inl ⟨_, SqL.of hr3, rfl⟩
      have hte : (ts.map V.ref).isEmpty = acc.isEmpty := by
        cases ts with
        | nil =>
          cases acc with
          | nil => rfl
          | cons x y => cases htl
        | cons z y =>
          cases acc with
          | nil => cases htl
          | cons x y => rfl
      rw [hte] at htr
      refine ⟨_, htr, ?_⟩
      cases hla : acc.getLast? with
      | none =>
        have hacc : acc.isEmpty = true := by
          rw [List.getLast?_eq_none_iff.mp hla]
          rfl
        have hbad : goesBad acc a b = false := by
          unfold goesBad
          rw [hla]
        rw [hacc]
        (repeat fail "s")
        rw [if_neg (show ¬ goesBad acc a b = true by rw [hbad]; exact Bool.false_ne_true)] at hgo
        refine ⟨S, p, T0, (a : Int), (b : Int), rfl, A3, fun row hrw _ => ?_, fun h => absurd ⟨by omega, by omega⟩ h, fun _ h => absurd ⟨by omega, by omega⟩ h⟩
        have hrw : T0.rows[a]? = some row := hrw.2
        rw [hrw] at hgo
        dsimp only [Option.getD_some] at hgo
        rw [show ((b : Int)).toNat = b from Int.toNat_natCast b]
        (repeat fail "s")
        refine iteD (fun hr => ?_) (fun hr => ?_)
        · (repeat fail "s")
          refine q2.shared ?_ _ X3
          rw [hgo, if_pos (by omega)]
        rw [if_neg (by omega)] at hgo
        (repeat fail "s")
        rename_i H4 c4 h4
        exact ⟨acc ++ [(a, b, c)], _, _, rfl, c4.ex X3 nr0, hP3.snoc nr0u hu c4 ts hr3 h4, by rw [List.length_append]; show _ + 1 ≤ _; omega, hgo⟩
      | some q =>
        have hne : acc ≠ [] := fun z => by
          rw [z] at hla
          cases hla
        have hacc : acc.isEmpty = false := by
          cases acc with
          | nil => exact absurd rfl hne
          | cons x y => rfl
        have hlt : ltP acc = q := by
          unfold ltP
          rw [hla]
          rfl
        subst hlt
        rw [hacc]
        (repeat fail "s")
        refine iteN (fun h => ?_) (fun h => ?_)
        · (repeat fail "s")
          refine q2.stretch ?_ _ X3
          rw [hgo, if_pos]
          unfold goesBad
          rw [hla]
          dsimp only
          rw [decide_eq_true (show (ltP acc).2.2 ≠ b by omega)]
          rfl
        (repeat fail "s")
        refine iteD (fun h2 => ?_) (fun h2 => ?_)
        · (repeat fail "s")
          refine q2.stretch ?_ _ X3
          rw [hgo, if_pos]
          unfold goesBad
          rw [hla]
          dsimp only
          rw [decide_eq_true (show (ltP acc).1 = a by omega), Bool.or_true]
        have hbad : goesBad acc a b = false := by
          unfold goesBad
          rw [hla]
          dsimp only
          rw [decide_eq_false (show ¬ (ltP acc).2.2 ≠ b by omega), decide_eq_false (show ¬ (ltP acc).1 = a by omega)]
          rfl
        (repeat fail "s")
        rw [if_neg (show ¬ goesBad acc a b = true by rw [hbad]; exact Bool.false_ne_true)] at hgo
        refine ⟨S, p, T0, (a : Int), (b : Int), rfl, A3, fun row hrw _ => ?_, fun h => absurd ⟨by omega, by omega⟩ h, fun _ h => absurd ⟨by omega, by omega⟩ h⟩
        have hrw : T0.rows[a]? = some row := hrw.2
        rw [hrw] at hgo
        dsimp only [Option.getD_some] at hgo
        rw [show ((b : Int)).toNat = b from Int.toNat_natCast b]
        (repeat fail "s")
        refine iteD (fun hr => ?_) (fun hr => ?_)
        · (repeat fail "s")
          refine q2.shared ?_ _ X3
          rw [hgo, if_pos (by omega)]
        rw [if_neg (by omega)] at hgo
        (repeat fail "s")
        rename_i H4 c4 h4
        exact ⟨acc ++ [(a, b, c)], _, _, rfl, c4.ex X3 nr0, hP3.snoc nr0u hu c4 ts hr3 h4, by rw [List.length_append]; show _ + 1 ≤ _; omega, hgo⟩
    · rintro σ H2 ⟨acc, v3, v4, rfl, x2, hP, hal, hgo⟩
      have hgo2 : partsGo T0 [] ns = (("" : Str), acc) := by
        rw [hgo, List.drop_of_length_le (by omega), partsGo]
        exact fun _ _ _ _ z => by cases z
      (repeat fail "s")
      refine q1 (by rw [hgo2]) H2 r0 x2 nr0 ?_
      rw [hgo2]
      exact hP
theorem sc_read : FnScope ["text", "rows", "head", "tickets", "train", "one", "row"] ["text"] (defScope s_read) := ⟨rfl, rfl, rfl, by decide +kernel, rfl, by decide +kernel, by decide +kernel⟩
theorem c_read (T : Tx K mg) : Cal P w K mg base 4 "read" (spRead K) := by
  refine T.cal 44 93 rfl rfl sc_read (fun _ _ _ _ _ _ us hl => match us, hl with | [_], _ => rfl) (fun vs H Q E h => ?_) fun cdv A outer s H vs Q E hr h => ?_
  · first | (obtain ⟨_, rfl, _⟩ := h; rfl) | (obtain ⟨_, _, rfl, _⟩ := h; rfl) | (obtain ⟨_, _, _, rfl, _⟩ := h; rfl) | (obtain ⟨_, _, _, _, rfl, _⟩ := h; rfl) | (obtain ⟨_, _, _, _, _, rfl, _⟩ := h; rfl) | (obtain ⟨_, _, _, _, _, _, rfl, _⟩ := h; rfl) | (obtain ⟨_, _, _, _, _, _, _, rfl, _⟩ := h; rfl) | (obtain ⟨_, _, _, _, _, _, _, _, rfl, _⟩ := h; rfl) | (obtain ⟨_, _, _, _, _, _, _, _, _, rfl, _⟩ := h; rfl) | (obtain ⟨_, _, _, _, _, _, _, _, _, _, rfl, _⟩ := h; rfl) | (obtain ⟨_, _, _, _, _, _, _, _, _, _, _, rfl, _⟩ := h; rfl) | (obtain ⟨_, _, _, _, _, _, _, _, _, _, _, _, rfl, _⟩ := h; rfl) | (obtain ⟨_, _, _, _, _, _, _, _, _, _, _, _, _, rfl, _⟩ := h; rfl) | (obtain ⟨_, _, _, _, _, _, _, _, _, _, _, _, _, _, rfl, _⟩ := h; rfl) | (obtain ⟨_, _, _, _, _, _, _, _, _, _, _, _, _, _, _, rfl, _⟩ := h; rfl)
  · refine ⟨_, (pss_cons (ps_set (i := 1) sc_read.nd rfl (Or.inl rfl) (pe_split (pv 0) pe_str))
      (pss_cons (ps_set (i := 2) sc_read.nd rfl (Or.inl rfl) (pe_c (c_numbers_of T) hr (pr (takes_of rfl rfl rfl rfl)) (pa_cons (pe_ix (ix_l K) (pv 1) pe_int (fun _ _ => rfl)) (pa_cons pe_str pa_nil))))
      (pss_cons (ps_setLc (i := 3) (own := [("row", 6)]) (g := gName 6)  rfl sc_read.nd rfl rfl (sw_true rfl rfl rfl (by decide +kernel)) (pi_l K (pe_slice (sl_k K) (pv 1) (po_some pe_int) po_none)) (blkOk_by (N := ["text", "rows", "head", "tickets", "train", "one", "row"]) (sc := defScope s_read) (by decide +kernel)) (fun _ _ _ _ _ => pg_name (i := 6) sc_read.nd rfl (Or.inl rfl)) (fun _ _ _ _ _ => pts_nil) (fun _ _ _ _ _ => (pe_c (c_numbers_of T) hr pz (pa_cons (pv 6) (pa_cons pe_str pa_nil)))))
      (pss_cons (ps_if (PW.pt (pw_or (pt_cmpR op_ne (pe_callB (len_k K) (by rfl) (T.free 0) PySem.boot_len (pa_cons (pv 2) pa_nil)) pe_int (nomark _)) (pw_or1 (pt_not (pt_val (pe_callB (all_k K rfl) (by rfl) (T.free 37) (by decide +kernel) (pa_cons (pe_lc (own := [("one", 5)]) (g := gName 5) rfl sc_read.nd (pi_l K (pv 3)) (blkOk_by (N := ["text", "rows", "head", "tickets", "train", "one", "row"]) (sc := defScope s_read) (by decide +kernel)) (fun _ _ _ _ _ => pg_name (i := 5) sc_read.nd rfl (Or.inl rfl)) (fun _ _ _ _ _ => pts_nil) (fun _ _ _ _ _ => (pe_and (pe_cmpR op_gt (pe_callB (len_k K) (by rfl) (T.free 0) PySem.boot_len (pa_cons (pv 5) pa_nil)) pe_int (nomark _)) (pe_one (pe_cmpR op_eq (pe_op op_mod (pe_callB (len_k K) (by rfl) (T.free 0) PySem.boot_len (pa_cons (pv 5) pa_nil)) pe_int) pe_int (nomark _)))))) pa_nil)))))))
        (pss_one (ps_raise rfl (takes_of rfl rfl rfl rfl) (pmk_x T 79 63 rfl rfl)))
        pss_nil)
      (pss_cons (ps_set (i := 4) sc_read.nd rfl (Or.inl rfl) (pe_k (k_Train T) hr (pr (takes_of rfl rfl rfl rfl)) (pa_cons (pe_ix (ix_l K) (pv 2) pe_int (fun _ _ => rfl)) (pa_cons (pe_ix (ix_l K) (pv 2) pe_int (fun _ _ => rfl)) pa_nil))))
      (pss_cons (ps_for (passes_of rfl) rfl (pi_l K (pv 3)) (pg_name (i := 5) sc_read.nd rfl (Or.inl rfl))
        (pss_cons (ps_if (PW.pt (pw_or (pt_cmpR op_ge (pe_ix (ix_l K) (pv 5) pe_int (fun _ _ => rfl)) (pe_ix (ix_l K) (pv 2) pe_int (fun _ _ => rfl)) (nomark _)) (pw_or1 (pt_cmpR op_lt (pe_ix (ix_l K) (pv 5) pe_int (fun _ _ => rfl)) (fld_k K (pv 4) rfl) (nomark _)))))
          (pss_one (ps_raise rfl (takes_of rfl rfl rfl rfl) (pmk_x T 48 49 rfl rfl)))
          pss_nil)
        (pss_cons (ps_expr (pe_m (m_Train_take T) hr pz (pv 4) (pa_cons (pe_ix (ix_l K) (pv 5) pe_int (fun _ _ => rfl)) (pa_cons (pe_c (c_parts_of T) hr (pr (takes_of rfl rfl rfl rfl)) (pa_cons (pv 4) (pa_cons (pv 5) pa_nil))) pa_nil))))
        (pss_one (ps_fld (pv 4) (pe_op op_add (pe_ix (ix_l K) (pv 5) pe_int (fun _ _ => rfl)) pe_int) rfl)))))
      (pss_cons (ps_fld (pv 4) (pe_ix (ix_l K) (pv 2) pe_int (fun _ _ => rfl)) rfl)
      (pss_one (ps_ret (pv 4)))))))))), ?_⟩
    obtain ⟨z, a, r, h0, h1, h2, ts, TF, rfl, hz, hsp, hrl, hxl, hhd, hts, hok, a1, a2, a3, a4, hgo, GF, q⟩ := h
    obtain ⟨hmap, hall⟩ := mapM_some [] hts
    have htl : r.length = ts.length := by rw [← hmap, List.length_map]
    (repeat fail "s")
    refine v_split (by decide +kernel) (Nat.le_trans (show _ ≤ 16700002 by omega) (by decide)) fun rw_ H1 nrw e1 hrw => ?_
    rw [hsp] at hrw
    have hrw : H1 rw_ = some (.lst (.str a :: r.map V.str)) := hrw
    (repeat fail "s")
    refine v_ixL (SqL.of hrw) (at_of (j := 0) rfl rfl) ?_
    (repeat fail "s")
    refine ⟨a, "train", [h0, h1, h2], rfl, hxl a List.mem_cons_self, by show 3 ≤ 90000; decide, hhd, fun H2 hd e2 nhd hhd2 => ?_⟩
    have hhd2 : H2 hd = some (.lst [.int (h0 : Int), .int (h1 : Int), .int (h2 : Int)]) := hhd2
    have nrd : rw_ ≠ hd := ne_of_none hrw nhd
    (repeat fail "s")
    rename_i t1 H3 nt1 e3 ht1
    intro D hD
    refine lc_new (walk_list (K := K) (a := t1) (xs := r.map V.str)) y_list hD (fun H e => sqL_of ht1 e) (by rw [List.length_map]; omega) (fun _ => true) (fun i o => ∃ t, ts[i]? = some t ∧ o = .lst ((t.map fun n : Nat => (n : Int)).map V.int)) (fun _ => rfl) lc_yes ?_ ?_
    · intro i x H4 hi hx _ e4 hD4 Q4 q4
      obtain ⟨s1, hs1, rfl⟩ := map_back hx
      have hsm := List.mem_of_getElem? hs1
      obtain ⟨t, ht⟩ := hall s1 hsm
      have hti : ts[i]? = some t := by
        rw [← hmap, List.getElem?_map, hs1, Option.map_some, ht]
        rfl
      have hokt := hok t (List.mem_of_getElem? hti)
      (repeat fail "s")
      refine ⟨s1, "ticket", t, rfl, hxl s1 (List.mem_cons_of_mem _ hsm), hokt.2.2, ht, fun H5 l e5 nl hl => ?_⟩
      exact q4 l H5 _ nl e5 hl ⟨t, hti, rfl⟩
    intro H4 as e4 hys nda fra hall4
    rw [kept_all, List.length_map, htl] at hall4
    have has : as.length = ts.length := by rw [← hall4.len, List.length_range]
    have hasl : (as.map V.ref).length = ts.length := by rw [List.length_map, has]
    have hat : ∀ (i : Nat) (b : Addr), as[i]? = some b → ∃ t, ts[i]? = some t ∧ H4 b = some (.lst ((t.map fun n : Nat => (n : Int)).map V.int)) := fun i b hb => by
      obtain ⟨k, hk, o, ho, t, ht, eo⟩ := hall4.right hb
      have hi := lt_of_get hk
      rw [List.length_range] at hi
      rw [List.getElem?_range hi] at hk
      cases hk
      exact ⟨t, ht, by rw [ho, eo]⟩
    clear hall4
    (repeat fail "s")
    refine lc_vL (SqL.of hys) (by rw [hasl, ← htl]; omega) (fun _ => .bl true) (fun _ => rfl) (fun i x H5 Q5 hi e5 q5 => ?_) fun D5 H5 n5 e5 h5 => ?_
    · obtain ⟨b, hb, rfl⟩ := map_back hi
      obtain ⟨t, ht, hbt⟩ := hat i b hb
      obtain ⟨o1, o2, o3⟩ := hok t (List.mem_of_getElem? ht)
      have hb5 := e5 _ _ hbt
      have hbl : ((t.map fun n : Nat => (n : Int)).map V.int).length = t.length := by rw [List.length_map, List.length_map]
      (repeat fail "s")
      rw [hbl, show decide ((t.length : Int) % 3 = 1) = true from decide_eq_true (by omega)]
      exact q5 H5 (Evl.Ex.refl H5)
    have h5 : H5 D5 = some (.lst ((as.map fun _ => true).map V.bl)) := by
      rw [h5, List.map_map, List.map_map]
      rfl
    (repeat fail "s")
    refine v_all (SqL.of h5) ?_
    rw [show ((as.map fun _ => true).all id) = true from by
      rw [List.all_map, List.all_eq_true]
      exact fun _ _ => rfl]
    (repeat fail "s")
    rename_i p S6 H6 P6
    have x6 := P6.ex
    have hys5 := e5 _ _ hys
    have hhd5 := e5 _ _ (e4 _ _ (e3 _ _ hhd2))
    have hat5 : ∀ (i : Nat) (b : Addr), as[i]? = some b → ∃ t, ts[i]? = some t ∧ H5 b = some (.lst ((t.map fun n : Nat => (n : Int)).map V.int)) := fun i b hb => by
      obtain ⟨t, h1, h2⟩ := hat i b hb
      exact ⟨t, h1, e5 _ _ h2⟩
    have X5 : Ex H H5 := (e1.trans e2).trans (e3.trans (e4.trans e5))
    clear hat e5 hys e4 e3 hhd2 e1 hrw e2
    have wf0 := P6.good.wf
    have hg0 : (Tr.new h0 h1).rows.length = h0 := List.length_replicate
    (repeat fail "s")
    refine fr_list (xs := as.map V.ref) (fun i σ H' => ∃ (Ti : Tr) (S : Addr → Prop) (v5 v6 : Option V), σ = [some (.str z), some (.ref rw_), some (.ref hd), some (.ref D), some (.ref p), v5, v6] ∧ Ex H5 H' ∧ TrainAt K H' S p Ti ∧ (∀ a, S a → H5 a = none) ∧ (∀ a, S a → ∃ o, H' a = some o) ∧ Ti.rows.length = h0 ∧ Ti.stops = h1 ∧ (∀ x ∈ Ti.sold, x.1 < Ti.coming) ∧ Ti.sold.length ≤ i ∧ readGo h2 (Tr.new h0 h1) ts = readGo h2 Ti (ts.drop i))
      ⟨_, S6, _, _, rfl, x6, P6.tr, P6.fresh, P6.live, hg0, rfl, fun x m => (by cases m), Nat.le_refl _, rfl⟩ (fun i σ H' _ ⟨_, _, _, _, _, x, _⟩ => SqL.of (x _ _ hys5)) ?_ ?_
    · rintro i x σ H7 hi ⟨Ti, S, v5, v6, rfl, x7, A7, fr7, lv7, hr7, hs7, hlow, hsl, hgo7⟩
      obtain ⟨b, hb, rfl⟩ := map_back hi
      have hi2 := lt_of_get hb
      obtain ⟨t, ht, hbt⟩ := hat5 i b hb
      obtain ⟨o1, o2, o3⟩ := hok t (List.mem_of_getElem? ht)
      obtain ⟨t0, ns, rfl⟩ : ∃ t0 ns, t = t0 :: ns := by
        cases t with
        | nil => exact absurd o1 (by decide)
        | cons x y => exact ⟨x, y, rfl⟩
      rw [List.length_cons] at o1 o2 o3
      have hdr : ts.drop i = (t0 :: ns) :: ts.drop (i + 1) := by
        obtain ⟨h1, h2⟩ := List.getElem?_eq_some_iff.mp ht
        rw [List.drop_eq_getElem_cons h1, h2]
      rw [hdr, readGo_cons, hgo] at hgo7
      have g1 : ¬ (h2 ≤ t0 ∨ t0 < Ti.coming) := fun z => by
        rw [if_pos z] at hgo7
        exact absurd (congrArg Prod.fst hgo7) (show ¬ ("" : Str) = "ticket" by decide +kernel)
      rw [if_neg g1] at hgo7
      have g2 : (partsGo Ti [] ns).1 = "" := by
        by_cases z : (partsGo Ti [] ns).1 = ""
        · exact z
        · rw [if_neg z] at hgo7
          exact (congrArg Prod.fst hgo7).symm
      rw [if_pos g2] at hgo7
      have hb7 : H7 b = some (.lst (.int (t0 : Int) :: (ns.map fun n : Nat => (n : Int)).map V.int)) := x7 _ _ hbt
      have hhd7 := x7 _ _ hhd5
      (repeat fail "s")
      refine v_ixL (SqL.of hb7) (at_of (j := 0) rfl rfl) ?_
      (repeat fail "s")
      refine v_ixL (SqL.of hb7) (at_of (j := 0) rfl rfl) ?_
      obtain ⟨dx, r0, d0, hp7⟩ := A7.ins
      refine ⟨_, rfl, p, _, dx, _, _, rfl, hp7, (T.cls 15), (T.noat 19), lk_coming, ?_⟩
      clear hp7
      (repeat fail "s")
      refine v_ixL (SqL.of hb7) (at_of (j := 0) rfl rfl) ?_
      (repeat fail "s")
      have hdiv : ns.length % 3 = 0 := by omega
      have nox : ∀ w : Str, w ≠ "" → (partsGo Ti [] ns).1 = w → False := fun w hw h => hw (h.symm.trans g2)
      refine ⟨S, p, b, Ti, t0, ns, rfl, A7, hb7, hdiv, by omega, fun _ H8 l e8 nl hP8 => ?_, ⟨fun h => (nox _ (by decide +kernel) h).elim, fun h => (nox _ (by decide +kernel) h).elim, fun h => (nox _ (by decide +kernel) h).elim, fun h => (nox _ (by decide +kernel) h).elim, fun h => (nox _ (by decide +kernel) h).elim, fun h => (nox _ (by decide +kernel) h).elim⟩⟩
      have nSl : ¬ S l := fun z => by
        obtain ⟨o, ho⟩ := lv7 l z
        rw [nl] at ho
        cases ho
      have hval := partsGo_valid Ti ns [] (fun q m => by cases m)
      have A8 := A7.ex e8
      (repeat fail "s")
      refine ⟨S, p, Ti, t0, l, (partsGo Ti [] ns).2, rfl, A8, hP8, nSl, fun q m => ?_, by omega, .inr fun x m => ?_, fun H9 keep9 kt9 A9 => ?_⟩
      · have := hval q m
        exact ⟨this.1, this.2.1, by omega⟩
      · have := hlow x m
        omega
      have hb9 : H9 b = some (.lst (.int (t0 : Int) :: (ns.map fun n : Nat => (n : Int)).map V.int)) := keep9 _ _ (fun z => by
        have h1 := fr7 b z
        rw [hbt] at h1
        cases h1) (e8 _ _ hb7)
      (repeat fail "s")
      refine v_ixL (SqL.of hb9) (at_of (j := 0) rfl rfl) ?_
      (repeat fail "s")
      rw [show (t0 : Int) + 1 = ((t0 + 1 : Nat) : Int) by omega]
      refine v_fldC A9 (T.cls 15) (T.noat 19) fun H10 mv10 A10 => ?_
      obtain ⟨S', hS', A10'⟩ := A10.there
      have nl5 : H5 l = none := Evl.fresh_back x7 nl
      have ex10 : Ex H5 H10 := fun a o h => by
        have n1 : ¬ S a := fun z => by
          have := fr7 a z
          rw [h] at this
          cases this
        have n2 : a ≠ l := fun z => by
          rw [z, nl5] at h
          cases h
        exact mv10.keep a o (fun z => z.elim n1 n2) (keep9 a o n1 (e8 _ _ (x7 _ _ h)))
      have hnew : putS Ti.sold t0 (partsGo Ti [] ns).2 = Ti.sold ++ [(t0, (partsGo Ti [] ns).2)] := putS_new fun x m => by
        have := hlow x m
        omega
      refine ⟨Ti.put t0 (partsGo Ti [] ns).2, S', _, _, rfl, ex10, A10', fun a h => ?_, fun a h => (hS' a h).2, (markAll_len _ _ _).trans hr7, hs7, fun x m => ?_, ?_, by rw [hgo]; exact hgo7⟩
      · rcases (hS' a h).1 with z | z
        · exact fr7 a z
        · rw [z]
          exact nl5
      · show x.1 < t0 + 1
        have m : x ∈ putS Ti.sold t0 (partsGo Ti [] ns).2 := m
        rw [hnew] at m
        rcases List.mem_append.mp m with m | m
        · have := hlow x m
          omega
        · rw [List.mem_singleton.mp m]
          exact Nat.lt_succ_self _
      · show (putS Ti.sold t0 (partsGo Ti [] ns).2).length ≤ i + 1
        rw [hnew, List.length_append]
        show _ + 1 ≤ _
        omega
    · rintro σ H7 ⟨Ti, S, v5, v6, rfl, x7, A7, fr7, lv7, hr7, hs7, hlow, hsl, hgo7⟩
      rw [hasl, List.drop_length, hgo, readGo] at hgo7
      rotate_left
      · exact fun _ _ _ z => by cases z
      have hTF : TF = Ti := congrArg Prod.snd hgo7
      subst hTF
      have hhd7 := x7 _ _ hhd5
      (repeat fail "s")
      refine v_fldC A7 (T.cls 15) (T.noat 19) fun H8 mv8 A8 => ?_
      obtain ⟨S', hS', A8'⟩ := A8.there
      (repeat fail "s")
      refine q H8 S' p ⟨X5.trans fun a o h => mv8.keep a o (fun z => ?_) (x7 _ _ h), A8', GF, fun a h => Evl.fresh_back X5 (fr7 a (hS' a h).1), fun a h => (hS' a h).2⟩
      have := fr7 a z
      rw [h] at this
      cases this
theorem sc_stretch_of : FnScope ["train", "ticket", "parts"] ["train", "ticket"] (defScope s_stretch_of) := ⟨rfl, rfl, rfl, by decide +kernel, rfl, by decide +kernel, by decide +kernel⟩
theorem c_stretch_of (T : Tx K mg) : Cal P w K mg base 2 "stretch_of" (spStretchOf K) := by
  refine T.cal 45 94 rfl rfl sc_stretch_of (fun _ _ _ _ _ _ us hl => match us, hl with | [_, _], _ => rfl) (fun vs H Q E h => ?_) fun cdv A outer s H vs Q E hr h => ?_
  · first | (obtain ⟨_, rfl, _⟩ := h; rfl) | (obtain ⟨_, _, rfl, _⟩ := h; rfl) | (obtain ⟨_, _, _, rfl, _⟩ := h; rfl) | (obtain ⟨_, _, _, _, rfl, _⟩ := h; rfl) | (obtain ⟨_, _, _, _, _, rfl, _⟩ := h; rfl) | (obtain ⟨_, _, _, _, _, _, rfl, _⟩ := h; rfl) | (obtain ⟨_, _, _, _, _, _, _, rfl, _⟩ := h; rfl) | (obtain ⟨_, _, _, _, _, _, _, _, rfl, _⟩ := h; rfl) | (obtain ⟨_, _, _, _, _, _, _, _, _, rfl, _⟩ := h; rfl) | (obtain ⟨_, _, _, _, _, _, _, _, _, _, rfl, _⟩ := h; rfl) | (obtain ⟨_, _, _, _, _, _, _, _, _, _, _, rfl, _⟩ := h; rfl) | (obtain ⟨_, _, _, _, _, _, _, _, _, _, _, _, rfl, _⟩ := h; rfl) | (obtain ⟨_, _, _, _, _, _, _, _, _, _, _, _, _, rfl, _⟩ := h; rfl) | (obtain ⟨_, _, _, _, _, _, _, _, _, _, _, _, _, _, rfl, _⟩ := h; rfl) | (obtain ⟨_, _, _, _, _, _, _, _, _, _, _, _, _, _, _, rfl, _⟩ := h; rfl)
  · refine ⟨_, (pss_cons (ps_set (i := 2) sc_stretch_of.nd rfl (Or.inl rfl) (pe_m (m_Train_parts T) hr pz (pv 0) (pa_cons (pv 1) pa_nil)))
      (pss_one (ps_ret (pe_tup (pa_cons (pe_ix (ix_t K) (pe_ix (ix_l K) (pv 2) pe_int (fun _ _ => rfl)) pe_int (fun _ _ => rfl)) (pa_cons (pe_ix (ix_t K) (pe_ix (ix_l K) (pv 2) (pe_un un_neg pe_int) (fun _ _ => rfl)) pe_int (fun _ _ => rfl)) pa_nil)))))), ?_⟩
    obtain ⟨S, p, T0, t, ps, rfl, A0, hg, hne, q⟩ := h
    (repeat fail "s")
    rename_i l H1 n1 e1 P1 _ _ _ _ u H2 n2 e2 h2
    exact q u H2 (Evl.fresh_back e1 n2) (e1.trans e2) h2
theorem sc_packed : FnScope ["train", "journeys", "ends", "seated", "journey", "seat", "ticket"] ["train"] (defScope s_packed) := ⟨rfl, rfl, rfl, by decide +kernel, rfl, by decide +kernel, by decide +kernel⟩
theorem c_packed (T : Tx K mg) : Cal P w K mg base 3 "packed" (spPacked K) := by
  refine T.cal 46 95 rfl rfl sc_packed (fun _ _ _ _ _ _ us hl => match us, hl with | [_], _ => rfl) (fun vs H Q E h => ?_) fun cdv A outer s H vs Q E hr h => ?_
  · first | (obtain ⟨_, rfl, _⟩ := h; rfl) | (obtain ⟨_, _, rfl, _⟩ := h; rfl) | (obtain ⟨_, _, _, rfl, _⟩ := h; rfl) | (obtain ⟨_, _, _, _, rfl, _⟩ := h; rfl) | (obtain ⟨_, _, _, _, _, rfl, _⟩ := h; rfl) | (obtain ⟨_, _, _, _, _, _, rfl, _⟩ := h; rfl) | (obtain ⟨_, _, _, _, _, _, _, rfl, _⟩ := h; rfl) | (obtain ⟨_, _, _, _, _, _, _, _, rfl, _⟩ := h; rfl) | (obtain ⟨_, _, _, _, _, _, _, _, _, rfl, _⟩ := h; rfl) | (obtain ⟨_, _, _, _, _, _, _, _, _, _, rfl, _⟩ := h; rfl) | (obtain ⟨_, _, _, _, _, _, _, _, _, _, _, rfl, _⟩ := h; rfl) | (obtain ⟨_, _, _, _, _, _, _, _, _, _, _, _, rfl, _⟩ := h; rfl) | (obtain ⟨_, _, _, _, _, _, _, _, _, _, _, _, _, rfl, _⟩ := h; rfl) | (obtain ⟨_, _, _, _, _, _, _, _, _, _, _, _, _, _, rfl, _⟩ := h; rfl) | (obtain ⟨_, _, _, _, _, _, _, _, _, _, _, _, _, _, _, rfl, _⟩ := h; rfl)
  · refine ⟨_, (pss_cons (ps_set (i := 1) sc_packed.nd rfl (Or.inl rfl) (pe_callB (cr_sortedN K hr.units) (by rfl) (T.free 75) (by decide +kernel) (pa_cons (pe_lc (own := [("ticket", 6)]) (g := gName 6) rfl sc_packed.nd (pi_l K (pe_m0 (m_Train_tickets T) hr pz (pv 0))) (blkOk_by (N := ["train", "journeys", "ends", "seated", "journey", "seat", "ticket"]) (sc := defScope s_packed) (by decide +kernel)) (fun _ _ _ _ _ => pg_name (i := 6) sc_packed.nd rfl (Or.inl rfl)) (fun _ _ _ _ _ => pts_nil) (fun _ _ _ _ _ => (pe_tup (pa_cons (pe_c (c_stretch_of T) hr pz (pa_cons (pv 0) (pa_cons (pv 6) pa_nil))) (pa_cons (pv 6) pa_nil))))) pa_nil)))
      (pss_cons (ps_set (i := 2) sc_packed.nd rfl (Or.inl rfl) (pe_lst pa_nil))
      (pss_cons (ps_set (i := 3) sc_packed.nd rfl (Or.inr rfl) pe_dnewK)
      (pss_cons (ps_for (passes_of rfl) rfl (pi_l K (pv 1)) (pg_name (i := 4) sc_packed.nd rfl (Or.inl rfl))
        (pss_cons (ps_set (i := 5) sc_packed.nd rfl (Or.inl rfl) pe_int)
        (Evl.pss_cut (ps_while (passes_of rfl) (PW.pt (pw_and (pt_cmpR op_lt (pv 5) (pe_callB (len_k K) (by rfl) (T.free 0) PySem.boot_len (pa_cons (pv 2) pa_nil)) (nomark _)) (pw_and1 (pt_cmpR op_gt (pe_ix (ix_l K) (pv 2) (pv 5) (fun _ _ => rfl)) (pe_ix (ix_t K) (pe_ix (ix_t K) (pv 4) pe_int (fun _ _ => rfl)) pe_int (fun _ _ => rfl)) (nomark _)))))
          (pss_one (ps_set (i := 5) sc_packed.nd rfl (Or.inl rfl) (pe_op op_add (pv 5) pe_int))))
        (Evl.pss_cut (ps_if (pt_cmpR op_eq (pv 5) (pe_callB (len_k K) (by rfl) (T.free 0) PySem.boot_len (pa_cons (pv 2) pa_nil)) (nomark _))
          (pss_one (ps_expr (pe_bm PySem.F.plainAttrs_list PySem.F.slot_list_append PySem.F.type_list_append mt_append (pv 2) (pa_cons pe_int pa_nil))))
          pss_nil)
        (pss_cons (ps_asg (pe_ix (ix_t K) (pe_ix (ix_t K) (pv 4) pe_int (fun _ _ => rfl)) pe_int (fun _ _ => rfl)) (pg_sub (pv 2) (pv 5) set_list))
        (pss_one (ps_dput (hu_of hr) (pv 3) (pe_ix (ix_t K) (pv 4) pe_int (fun _ _ => rfl)) (pv 5) rfl)))))))
      (pss_one (ps_ret (pe_lc (own := [("ticket", 6)]) (g := gName 6) rfl sc_packed.nd (pi_l K (pe_m0 (m_Train_tickets T) hr pz (pv 0))) (blkOk_by (N := ["train", "journeys", "ends", "seated", "journey", "seat", "ticket"]) (sc := defScope s_packed) (by decide +kernel)) (fun _ _ _ _ _ => pg_name (i := 6) sc_packed.nd rfl (Or.inl rfl)) (fun _ _ _ _ _ => pts_nil) (fun _ _ _ _ _ => (pe_tup (pa_cons (pv 6) (pa_cons (pe_dget (hu_of hr) (pv 3) (pv 6) (fun _ _ => rfl)) pa_nil))))))))))), ?_⟩
    obtain ⟨S, p, T0, rfl, A0, G, few, q⟩ := h
    have hmany := G.many
    have hkl := keys_len T0
    (repeat fail "s")
    rename_i lt H1 nlt e1 hlt
    have hklen : ((keys T0).map V.int).length = T0.sold.length := by rw [List.length_map, keys_len]
    refine lc_tupR (walk_list (K := K) (a := lt) (xs := (keys T0).map V.int)) y_list (fun H2 e2 => sqL_of hlt e2) (by rw [hklen]; omega) (fun _ => true) (NestAt T0.sold) (fun H H' i v kt ⟨a, u, x, h1, h2, h3, h4⟩ => ⟨a, u, x, h1, h2, kt _ _ h3, kt _ _ h4⟩) (fun _ => rfl) lc_yes (fun i x H2 hi hx _ e2 Q2 q2 => ?_) fun D H3 ys nD e3 hD hall => ?_
    · have hi' : i < T0.sold.length := by rw [hklen] at hi; exact hi
      have hxi := List.getElem?_eq_getElem hi'
      have hx2 : x = .int ((T0.sold[i]).1 : Int) := by
        unfold keys at hx
        rw [List.getElem?_map, List.getElem?_map, hxi] at hx
        exact (Option.some.inj hx).symm
      subst hx2
      have mx := List.getElem_mem hi'
      obtain ⟨b, e, hb, he, w⟩ := G.way _ mx
      have A2 : TrainAt K H2 S p T0 := (by fail "t")
      (repeat fail "s")
      refine ⟨S, p, T0, _, _, rfl, A2, getS_of G.wf.rising mx, w.ne hb, fun u H4 nu e4 hu => ?_⟩
      (repeat fail "s")
      rename_i a H5 na e5 ha
      exact q2 (.ref a) H5 (e4.trans e5) ⟨a, u, _, hxi, rfl, ha, e5 _ _ hu⟩
    rw [kept_all, hklen] at hall
    (repeat fail "s")
    have hysl : ys.length = T0.sold.length := by rw [← hall.len, List.length_range]
    refine ⟨D, ys, keyH H3, rfl, SqL.of hD, fun x m => ?_, fun zs l4 hsrt hprm nl4 => ?_⟩
    · obtain ⟨i, hi⟩ := List.mem_iff_getElem?.mp m
      obtain ⟨k, hk, a, u, x, h1, h2, h3, h4⟩ := hall.right hi
      refine ⟨a, u, h2, ?_, ?_⟩
      · rw [h2, keyH_of h3 h4]
        exact h3
      · rw [h2, keyH_of h3 h4]
        exact h4
    obtain ⟨js, hjp, hjs, hja⟩ := nest_sorted hall hprm hsrt
    have e4 : Ex H3 (upd H3 l4 (.lst zs)) := Evl.Ex.new nl4
    have h4 : upd H3 l4 (.lst zs) l4 = some (.lst zs) := upd_same
    generalize upd H3 l4 (.lst zs) = H4 at e4 h4 ⊢
    have x4 : Ex H H4 := e1.trans (e3.trans e4)
    have hzl : zs.length = T0.sold.length := by rw [hprm.length_eq, hysl]
    have hjl : js.length = T0.sold.length := by rw [hjp.length_eq, List.length_map]
    have hjm : ∀ j ∈ js, ∃ x ∈ T0.sold, j = jOf x := fun j m => by
      obtain ⟨x, mx, e⟩ := List.mem_map.mp (hjp.mem_iff.mp m)
      exact ⟨x, mx, e.symm⟩
    have hjn : (js.map (·.2.2)).Nodup := by
      refine (hjp.map (·.2.2)).nodup_iff.mpr ?_
      rw [List.map_map]
      have h := List.pairwise_map.mp G.wf.rising
      exact List.pairwise_map.mpr (h.imp fun {a b} z => Nat.ne_of_lt z)
    (repeat fail "s")
    rename_i el H5 nel e5 hel sd H6 nsd e6 hsd
    have nel4 : H4 el = none := nel
    have nsd4 : H4 sd = none := Evl.fresh_back e5 nsd
    refine fr_list (xs := zs) (fun i σ H' => ∃ (ends : List Nat) (f : Nat → Nat) (kvs : List (Key × V)) (v4 v5 v6 : Option V), σ = [some (.ref p), some (.ref l4), some (.ref el), some (.ref sd), v4, v5, v6] ∧ Ex H4 H' ∧ H' el = some (.lst (ends.map fun n : Nat => V.int (n : Int))) ∧ H' sd = some (.dK kvs) ∧ kvs.length ≤ i ∧ ends.length ≤ i ∧ (∀ j ∈ js.take i, valV kvs (Sum.inl (j.2.2 : Int)) = some (.int (f j.2.2 : Int))) ∧ ∀ most, (∀ leg, leg < T0.stops - 1 → load T0.rows leg ≤ most) → PackInv (js.take i) ends f most)
      ⟨[], fun _ => 0, [], _, _, _, rfl, e5.trans e6, (by fail "t"), hsd, Nat.zero_le _, Nat.zero_le _, fun j m => (by simp at m), fun most _ => by rw [List.take_zero]; exact PackInv.nil _ _⟩ (fun i σ H' _ ⟨_, _, _, _, _, _, _, x, _⟩ => SqL.of (x _ _ h4)) ?_ ?_
    · rintro i x σ H7 hi ⟨ends, f, kvs, v4, v5, v6, rfl, x7, hel7, hsd7, hkv, hen, hval, hpk⟩
      obtain ⟨⟨b, e, t⟩, hj, a, u, rfl, hta0, htu0⟩ := hja.left hi
      have hmj := List.mem_of_getElem? hj
      have hta : H4 a = some (.tup [.ref u, .int (t : Int)]) := e4 _ _ hta0
      have htu : H4 u = some (.tup [.int (b : Int), .int (e : Int)]) := e4 _ _ htu0
      obtain ⟨x, mx, hxj⟩ := hjm _ hmj
      obtain ⟨b1, e1', hb1, he1, w⟩ := G.way x mx
      have hh := w.hd hb1
      have hbe : b < e := by
        have h1 : b = _ := (congrArg (·.1) hxj).trans hh.1
        have h2 : e = _ := (congrArg (·.2.1) hxj).trans hh.2
        omega
      have hil := lt_of_get hj
      have htake : js.take (i + 1) = js.take i ++ [(b, e, t)] := by
        rw [List.take_succ_eq_append_getElem hil]
        rw [List.getElem?_eq_getElem hil] at hj
        rw [Option.some.inj hj]
      have hbs : ∀ j ∈ js.take i, j.1 ≤ b := fun j m => by
        obtain ⟨k, hk⟩ := List.mem_iff_getElem?.mp m
        have hk2 := lt_of_get hk
        rw [List.length_take] at hk2
        rw [List.getElem?_take_of_lt (by omega)] at hk
        have := List.pairwise_iff_getElem.mp hjs k i (lt_of_get hk) hil (by omega)
        rw [Option.some.inj ((List.getElem?_eq_getElem (lt_of_get hk)).symm.trans hk), Option.some.inj ((List.getElem?_eq_getElem hil).symm.trans hj)] at this
        exact this
      have hts : ∀ j ∈ js.take i, j.2.2 ≠ t := fun j m => by
        obtain ⟨k, hk⟩ := List.mem_iff_getElem?.mp m
        have hk2 := lt_of_get hk
        rw [List.length_take] at hk2
        rw [List.getElem?_take_of_lt (by omega)] at hk
        have := List.pairwise_iff_getElem.mp (List.pairwise_map.mp hjn) k i (lt_of_get hk) hil (by omega)
        rw [Option.some.inj ((List.getElem?_eq_getElem (lt_of_get hk)).symm.trans hk), Option.some.inj ((List.getElem?_eq_getElem hil).symm.trans hj)] at this
        exact this
      have hils : i < T0.sold.length := by omega
      (repeat fail "s")
      refine s_cut (fun σ' H' => ∃ s : Nat, σ' = [some (.ref p), some (.ref l4), some (.ref el), some (.ref sd), some (.ref a), some (.int (s : Int)), v6] ∧ H' = H7 ∧ (∀ (u e0 : Nat), u < s → ends[u]? = some e0 → b < e0) ∧ ((∃ e0, ends[s]? = some e0 ∧ e0 ≤ b) ∨ s = ends.length)) ?_ ?_
      · refine s_while (fun m σ H' => ∃ s : Nat, σ = [some (.ref p), some (.ref l4), some (.ref el), some (.ref sd), some (.ref a), some (.int (s : Int)), v6] ∧ H' = H7 ∧ m = ends.length - s ∧ s ≤ ends.length ∧ ∀ (u e0 : Nat), u < s → ends[u]? = some e0 → b < e0) ends.length
          ⟨0, rfl, rfl, rfl, Nat.zero_le _, fun u e0 h => absurd h (by omega)⟩ ?_
        rintro m σ H8 ⟨s, rfl, rfl, rfl, hs, hbef⟩
        (repeat fail "s")
        refine iteD (fun h1 => ?_) (fun h1 => ?_)
        · rw [List.length_map] at h1
          (repeat fail "s")
          rename_i e0 he0
          refine iteD (fun h2 => ?_) (fun h2 => ?_)
          · (repeat fail "s")
            refine ⟨_, by omega, s + 1, rfl, rfl, rfl, by omega, fun u e1 hu h => ?_⟩
            by_cases hus : u = s
            · rw [hus, he0] at h
              cases h
              omega
            · exact hbef u e1 (by omega) h
          · (repeat fail "s")
            exact ⟨s, rfl, rfl, hbef, .inl ⟨e0, he0, by omega⟩⟩
        · rw [List.length_map] at h1
          (repeat fail "s")
          exact ⟨s, rfl, rfl, hbef, .inr (by omega)⟩
      rintro σ8 H8 ⟨s, rfl, rfl, hbef, hcase⟩
      refine s_cut (fun σ' H' => ∃ ends0 : List Nat, σ' = [some (.ref p), some (.ref l4), some (.ref el), some (.ref sd), some (.ref a), some (.int (s : Int)), v6] ∧ Ex H4 H' ∧ H' el = some (.lst (ends0.map fun n : Nat => V.int (n : Int))) ∧ H' sd = some (.dK kvs) ∧ ((∃ e0, ends[s]? = some e0 ∧ e0 ≤ b ∧ ends0 = ends) ∨ (s = ends.length ∧ ends0 = ends ++ [0]))) ?_ ?_
      · (repeat fail "s")
        refine iteD (fun h1 => ?_) (fun h1 => ?_)
        · rw [List.length_map] at h1
          (repeat fail "s")
          rename_i H9 c9 h9
          have hsl : s = ends.length := by omega
          exact ⟨ends ++ [0], rfl, c9.ex x7 nel4, by rw [h9, List.map_append]; rfl, (by fail "t"), .inr ⟨hsl, rfl⟩⟩
        · rw [List.length_map] at h1
          (repeat fail "s")
          refine ⟨ends, rfl, x7, hel7, hsd7, .inl ?_⟩
          rcases hcase with ⟨e0, h2, h3⟩ | h2
          · exact ⟨e0, h2, h3, rfl⟩
          · omega
      rintro σ9 H9 ⟨ends0, rfl, x9, hel9, hsd9, hends⟩
      have hs0 : s < ends0.length := by
        rcases hends with ⟨e0, h1, _, rfl⟩ | ⟨h1, rfl⟩
        · exact lt_of_get h1
        · rw [List.length_append, List.length_singleton]
          omega
      (repeat fail "s")
      refine v_setL hel9 (ixN_nat (by rw [List.length_map]; exact hs0)) fun H10 c10 h10 => ?_
      have x10 := c10.ex x9 nel4
      have hsd10 : H10 sd = some (.dK kvs) := (by fail "t")
      clear c10
      have hels : H10 el = some (.lst ((ends0.set s e).map fun n : Nat => V.int (n : Int))) := by rw [h10, List.map_set]
      (repeat fail "s")
      rename_i H11 c11 h11
      refine ⟨ends0.set s e, setF f t s, _, _, _, _, rfl, c11.ex x10 nsd4, (by fail "t"), h11, ?_, ?_, fun j m => ?_, fun most hm => ?_⟩
      · have := putK_le kvs (Sum.inl (t : Int)) (V.int (s : Int))
        omega
      · rw [List.length_set]
        rcases hends with ⟨e0, h1, _, rfl⟩ | ⟨h1, rfl⟩
        · omega
        · rw [List.length_append, List.length_singleton]
          omega
      · rw [valV_put]
        rw [htake] at m
        rcases List.mem_append.mp m with m | m
        · have hne : ¬ (Sum.inl (j.2.2 : Int) : Key) = Sum.inl (t : Int) := fun z => hts j m (inl_iff.mp z)
          rw [if_neg hne, hval j m]
          unfold setF
          rw [if_neg (hts j m)]
        · rw [List.mem_singleton.mp m]
          dsimp only
          rw [if_pos rfl]
          unfold setF
          rw [if_pos rfl]
      · rw [htake]
        refine (hpk most hm).step hbs hbe hts ?_
        rcases hends with ⟨e0, h1, h2, rfl⟩ | ⟨h1, rfl⟩
        · exact .inl ⟨e0, h1, h2, rfl⟩
        · refine .inr ⟨h1, ?_, ?_⟩
          · rw [h1, List.set_append_right _ _ (Nat.le_refl _), Nat.sub_self]
            rfl
          · rw [h1]
            exact (hpk most hm).new_seat G hm (fun j m => hjm j (List.mem_of_mem_take m)) hbs (fun u e0 h => hbef u e0 (by rw [h1]; exact lt_of_get h) h) hts mx hxj
    rintro σ H7 ⟨ends, f, kvs, v4, v5, v6, rfl, x7, hel7, hsd7, hkv, hen, hval, hpk⟩
    have htk : js.take zs.length = js := by rw [hzl, ← hjl, List.take_length]
    rw [htk] at hval hpk
    have X7 : Ex H H7 := x4.trans x7
    have hok : PackOk T0 f := PackInv.ok hpk fun x mx => hjp.mem_iff.mpr (List.mem_map.mpr ⟨x, mx, rfl⟩)
    clear x4 e1 x7
    (repeat fail "s")
    rename_i lu H8 nlu e8 hlu
    refine lc_tupR (walk_list (K := K) (a := lu) (xs := (keys T0).map V.int)) y_list (fun H2 e2 => sqL_of hlu e2) (by rw [hklen]; omega) (fun _ => true) (fun H i v => ∃ a x, T0.sold[i]? = some x ∧ v = V.ref a ∧ H a = some (.tup [.int (x.1 : Int), .int (f x.1 : Int)])) (fun H H' i v kt ⟨a, x, h1, h2, h3⟩ => ⟨a, x, h1, h2, kt _ _ h3⟩) (fun _ => rfl) lc_yes (fun i x H2 hi hx _ e2 Q2 q2 => ?_) fun D9 H9 ws nD9 e9 hD9 hall9 => ?_
    · have hi' : i < T0.sold.length := by rw [hklen] at hi; exact hi
      have hxi := List.getElem?_eq_getElem hi'
      have hx2 : x = .int ((T0.sold[i]).1 : Int) := by
        unfold keys at hx
        rw [List.getElem?_map, List.getElem?_map, hxi] at hx
        exact (Option.some.inj hx).symm
      subst hx2
      have mx := List.getElem_mem hi'
      have hv := hval (jOf T0.sold[i]) (hjp.mem_iff.mpr (List.mem_map.mpr ⟨_, mx, rfl⟩))
      have hv2 : valV kvs (Sum.inl ((T0.sold[i]).1 : Int)) = some (.int (f (T0.sold[i]).1 : Int)) := hv
      have hsd2 : H2 sd = some (.dK kvs) := (by fail "t")
      (repeat fail "s")
      rename_i a H5 na e5 ha
      exact q2 (.ref a) H5 e5 ⟨a, _, hxi, rfl, ha⟩
    · rw [kept_all, hklen] at hall9
      have X9 : Ex H H9 := X7.trans (e8.trans e9)
      refine q H9 D9 f X9 (Evl.fresh_back (X7.trans e8) nD9) ?_ hok
      have key : ∀ n, n ≤ T0.sold.length → ∀ us : List V, us = ws.take n → ∃ ts : List Addr, us = ts.map V.ref ∧ All2 (fun t xs => H9 t = some (.tup (xs.map V.int))) ts ((T0.sold.take n).map fun x => [(x.1 : Int), (f x.1 : Int)]) := by
        intro n
        induction n with
        | zero => exact fun _ us h => ⟨[], by rw [h]; rfl, by rw [List.take_zero]; exact All2.nil⟩
        | succ n ih =>
          intro hn us h
          obtain ⟨ts, h1, h2⟩ := ih (by omega) _ rfl
          obtain ⟨v, hv, a, x, hx, rfl, ha⟩ := hall9.left (List.getElem?_range (show n < T0.sold.length by omega))
          refine ⟨ts ++ [a], ?_, ?_⟩
          · rw [h, List.take_succ, hv, h1, List.map_append]
            rfl
          · rw [List.take_succ, hx, List.map_append]
            exact h2.snoc ha
      obtain ⟨ts, h1, h2⟩ := key T0.sold.length (Nat.le_refl _) ws (by rw [List.take_of_length_le (by rw [← hall9.len, List.length_range]; exact Nat.le_refl _)])
      rw [List.take_length] at h2
      exact ⟨ts, by rw [hD9, h1], h2⟩
theorem sc_law_whole : FnScope ["_law_found_here"] ["_law_found_here"] (defScope s_law_whole) := ⟨rfl, rfl, rfl, by decide +kernel, rfl, by decide +kernel, by decide +kernel⟩
theorem c_law_whole (T : Tx K mg) : Cal P w K mg base 1 "_law_whole" spWhole := by
  refine T.cal 47 97 rfl rfl sc_law_whole (fun _ _ _ _ _ _ us hl => match us, hl with | [_], _ => rfl) (fun vs H Q E h => ?_) fun cdv A outer s H vs Q E hr h => ?_
  · first | (obtain ⟨_, rfl, _⟩ := h; rfl) | (obtain ⟨_, _, rfl, _⟩ := h; rfl) | (obtain ⟨_, _, _, rfl, _⟩ := h; rfl) | (obtain ⟨_, _, _, _, rfl, _⟩ := h; rfl) | (obtain ⟨_, _, _, _, _, rfl, _⟩ := h; rfl) | (obtain ⟨_, _, _, _, _, _, rfl, _⟩ := h; rfl) | (obtain ⟨_, _, _, _, _, _, _, rfl, _⟩ := h; rfl) | (obtain ⟨_, _, _, _, _, _, _, _, rfl, _⟩ := h; rfl) | (obtain ⟨_, _, _, _, _, _, _, _, _, rfl, _⟩ := h; rfl) | (obtain ⟨_, _, _, _, _, _, _, _, _, _, rfl, _⟩ := h; rfl) | (obtain ⟨_, _, _, _, _, _, _, _, _, _, _, rfl, _⟩ := h; rfl) | (obtain ⟨_, _, _, _, _, _, _, _, _, _, _, _, rfl, _⟩ := h; rfl) | (obtain ⟨_, _, _, _, _, _, _, _, _, _, _, _, _, rfl, _⟩ := h; rfl) | (obtain ⟨_, _, _, _, _, _, _, _, _, _, _, _, _, _, rfl, _⟩ := h; rfl) | (obtain ⟨_, _, _, _, _, _, _, _, _, _, _, _, _, _, _, rfl, _⟩ := h; rfl)
  · refine ⟨_, (pss_one (ps_ret (pe_and (pe_callB (isi_k K) (by rfl) (T.free 1) (by decide +kernel) (pa_cons (pv 0) (pa_cons (pe_bltn (v := .ty "int") rfl (T.free 83) (by decide +kernel) rfl) pa_nil))) (pe_one (pe_not (pe_callB (isi_k K) (by rfl) (T.free 1) (by decide +kernel) (pa_cons (pv 0) (pa_cons (pe_bltn (v := .ty "bool") rfl (T.free 96) (by decide +kernel) rfl) pa_nil)))))))), ?_⟩
    obtain ⟨x, rfl, hx, q⟩ := h
    rcases hx with rfl | ⟨b, rfl⟩ | ⟨i, rfl⟩ | ⟨z, rfl⟩ | ⟨a, xs, rfl, e⟩ | ⟨a, xs, rfl, e⟩
    · exact ⟨_, rfl, _, .ty "int", _, _, false, rfl, .ty _, .base .non, kit_ty (by decide +kernel), _, rfl, iteF q⟩
    · exact ⟨_, rfl, _, .ty "int", _, _, true, rfl, .ty _, .base (.bl b), kit_ty (by decide +kernel), _, rfl, iteT ⟨_, rfl, _, .ty "bool", _, _, true, rfl, .ty _, .base (.bl b), kit_ty (by decide +kernel), _, rfl, q⟩⟩
    · exact ⟨_, rfl, _, .ty "int", _, _, true, rfl, .ty _, .base (.int i), kit_ty (by decide +kernel), _, rfl, iteT ⟨_, rfl, _, .ty "bool", _, _, false, rfl, .ty _, .base (.int i), kit_ty (by decide +kernel), _, rfl, q⟩⟩
    · exact ⟨_, rfl, _, .ty "int", _, _, false, rfl, .ty _, .base (.str z), kit_ty (by decide +kernel), _, rfl, iteF q⟩
    · exact ⟨_, rfl, _, .ty "int", _, _, false, rfl, .ty _, .base (.lst e), kit_ty (by decide +kernel), _, rfl, iteF q⟩
    · exact ⟨_, rfl, _, .ty "int", _, _, false, rfl, .ty _, .base (.tup e), kit_ty (by decide +kernel), _, rfl, iteF q⟩
theorem sc_law_packs : FnScope ["_law_train", "_law_world_here", "_law_found_here", "_law_most", "_law_taken", "_law_k", "_law_one", "_law_leg", "_law_row", "_law_seat"] ["_law_train", "_law_world_here"] (defScope s_law_packs) := ⟨rfl, rfl, rfl, by decide +kernel, rfl, by decide +kernel, by decide +kernel⟩
theorem c_law_packs (T : Tx K mg) : Cal P w K mg base 4 "_law_packs" (spPacks12 K) := by
  refine T.cal 48 98 rfl rfl sc_law_packs (fun _ _ _ _ _ _ us hl => match us, hl with | [_, _], _ => rfl) (fun vs H Q E h => ?_) fun cdv A outer s H vs Q E hr h => ?_
  · first | (obtain ⟨_, rfl, _⟩ := h; rfl) | (obtain ⟨_, _, rfl, _⟩ := h; rfl) | (obtain ⟨_, _, _, rfl, _⟩ := h; rfl) | (obtain ⟨_, _, _, _, rfl, _⟩ := h; rfl) | (obtain ⟨_, _, _, _, _, rfl, _⟩ := h; rfl) | (obtain ⟨_, _, _, _, _, _, rfl, _⟩ := h; rfl) | (obtain ⟨_, _, _, _, _, _, _, rfl, _⟩ := h; rfl) | (obtain ⟨_, _, _, _, _, _, _, _, rfl, _⟩ := h; rfl) | (obtain ⟨_, _, _, _, _, _, _, _, _, rfl, _⟩ := h; rfl) | (obtain ⟨_, _, _, _, _, _, _, _, _, _, rfl, _⟩ := h; rfl) | (obtain ⟨_, _, _, _, _, _, _, _, _, _, _, rfl, _⟩ := h; rfl) | (obtain ⟨_, _, _, _, _, _, _, _, _, _, _, _, rfl, _⟩ := h; rfl) | (obtain ⟨_, _, _, _, _, _, _, _, _, _, _, _, _, rfl, _⟩ := h; rfl) | (obtain ⟨_, _, _, _, _, _, _, _, _, _, _, _, _, _, rfl, _⟩ := h; rfl) | (obtain ⟨_, _, _, _, _, _, _, _, _, _, _, _, _, _, _, rfl, _⟩ := h; rfl)
  · refine ⟨_, (pss_cons (ps_set (i := 2) sc_law_packs.nd rfl (Or.inl rfl) (pe_c (c_packed T) hr pz (pa_cons (pv 0) pa_nil)))
      (pss_cons (ps_if (PW.pt (pw_or (pt_not (pt_val (pe_callB (isi_k K) (by rfl) (T.free 1) (by decide +kernel) (pa_cons (pv 2) (pa_cons (pe_bltn (v := .ty "list") rfl (T.free 51) (by decide +kernel) rfl) pa_nil))))) (pw_or1 (pt_cmpR op_ne (pe_callB (len_k K) (by rfl) (T.free 0) PySem.boot_len (pa_cons (pv 2) pa_nil)) (pe_callB (len_k K) (by rfl) (T.free 0) PySem.boot_len (pa_cons (pe_ix (ix_l K) (pv 1) pe_int (fun _ _ => rfl)) pa_nil)) (nomark _)))))
        (pss_one (ps_ret pe_bl))
        pss_nil)
      (pss_cons (ps_set (i := 3) sc_law_packs.nd rfl (Or.inl rfl) (pe_callB (max_k K rfl) (by rfl) (T.free 24) (by decide +kernel) (pa_cons (pe_lc (own := [("_law_leg", 7)]) (g := gName 7) rfl sc_law_packs.nd (pi_range1 (by rfl) (T.free 3) (pa_cons (pe_callB (len_k K) (by rfl) (T.free 0) PySem.boot_len (pa_cons (pe_ix (ix_l K) (pe_ix (ix_l K) (pv 1) pe_int (fun _ _ => rfl)) pe_int (fun _ _ => rfl)) pa_nil)) pa_nil)) (blkOk_by (N := ["_law_train", "_law_world_here", "_law_found_here", "_law_most", "_law_taken", "_law_k", "_law_one", "_law_leg", "_law_row", "_law_seat"]) (sc := defScope s_law_packs) (by decide +kernel)) (fun _ _ _ _ _ => pg_name (i := 7) sc_law_packs.nd rfl (Or.inr rfl)) (fun _ _ _ _ _ => pts_nil) (fun _ _ _ _ _ => (pe_callB (len_k K) (by rfl) (T.free 0) PySem.boot_len (pa_cons (pe_lc (own := [("_law_row", 8)]) (g := gName 8) rfl sc_law_packs.nd (pi_l K (pe_ix (ix_l K) (pv 1) pe_int (fun _ _ => rfl))) (blkOk_in (by kernel_rfl)) (fun _ _ _ _ _ => pg_name (i := 8) sc_law_packs.nd rfl (Or.inl rfl)) (fun _ _ _ _ _ => (pts_one (pt_cmpR op_notN1 (pe_ix (ix_l K) (pv 8) (pv 7) (fun _ _ => rfl)) pe_non (nomark _)))) (fun _ _ _ _ _ => (pv 8))) pa_nil)))) pa_nil)))
      (pss_cons (ps_setLc (i := 4) (own := [("_law_seat", 9)]) (g := gName 9)  rfl sc_law_packs.nd rfl rfl (sw_true rfl rfl rfl (by decide +kernel)) (pi_range1 (by rfl) (T.free 3) (pa_cons (pv 3) pa_nil)) (blkOk_by (N := ["_law_train", "_law_world_here", "_law_found_here", "_law_most", "_law_taken", "_law_k", "_law_one", "_law_leg", "_law_row", "_law_seat"]) (sc := defScope s_law_packs) (by decide +kernel)) (fun _ _ _ _ _ => pg_name (i := 9) sc_law_packs.nd rfl (Or.inl rfl)) (fun _ _ _ _ _ => pts_nil) (fun _ _ _ _ _ => (pe_op op_rep (pe_lst (pa_cons pe_bl pa_nil)) (pe_callB (len_k K) (by rfl) (T.free 0) PySem.boot_len (pa_cons (pe_ix (ix_l K) (pe_ix (ix_l K) (pv 1) pe_int (fun _ _ => rfl)) pe_int (fun _ _ => rfl)) pa_nil)))))
      (pss_cons (ps_for (passes_of rfl) rfl (pi_range1 (by rfl) (T.free 3) (pa_cons (pe_callB (len_k K) (by rfl) (T.free 0) PySem.boot_len (pa_cons (pv 2) pa_nil)) pa_nil)) (pg_name (i := 5) sc_law_packs.nd rfl (Or.inl rfl))
        (pss_cons (ps_set (i := 6) sc_law_packs.nd rfl (Or.inl rfl) (pe_ix (ix_l K) (pv 2) (pv 5) (fun _ _ => rfl)))
        (pss_cons (ps_if (PW.pt (pw_or (pt_not (pt_val (pe_callB (isi_k K) (by rfl) (T.free 1) (by decide +kernel) (pa_cons (pv 6) (pa_cons (pe_bltn (v := .ty "tuple") rfl (T.free 23) (by decide +kernel) rfl) pa_nil))))) (pw_or (pt_cmpR op_ne (pe_callB (len_k K) (by rfl) (T.free 0) PySem.boot_len (pa_cons (pv 6) pa_nil)) pe_int (nomark _)) (pw_or (pt_not (pt_val (pe_c (c_law_whole T) hr pz (pa_cons (pe_ix (ix_t K) (pv 6) pe_int (fun _ _ => rfl)) pa_nil)))) (pw_or1 (pt_not (pt_val (pe_c (c_law_whole T) hr pz (pa_cons (pe_ix (ix_t K) (pv 6) pe_int (fun _ _ => rfl)) pa_nil)))))))))
          (pss_one (ps_ret pe_bl))
          pss_nil)
        (pss_cons (ps_if (PW.pt (pw_or (pt_cmpR op_ne (pe_ix (ix_t K) (pv 6) pe_int (fun _ _ => rfl)) (pe_ix (ix_l K) (pe_ix (ix_l K) (pv 1) pe_int (fun _ _ => rfl)) (pv 5) (fun _ _ => rfl)) (nomark _)) (pw_or (pt_cmpR op_lt (pe_ix (ix_t K) (pv 6) pe_int (fun _ _ => rfl)) pe_int (nomark _)) (pw_or1 (pt_cmpR op_ge (pe_ix (ix_t K) (pv 6) pe_int (fun _ _ => rfl)) (pv 3) (nomark _))))))
          (pss_one (ps_ret pe_bl))
          pss_nil)
        (pss_one (ps_for (passes_of rfl) rfl (pi_range2 (by rfl) (T.free 3) (pa_cons (pe_ix (ix_t K) (pe_ix (ix_l K) (pe_ix (ix_l K) (pe_ix (ix_l K) (pv 1) pe_int (fun _ _ => rfl)) (pv 5) (fun _ _ => rfl)) pe_int (fun _ _ => rfl)) pe_int (fun _ _ => rfl)) (pa_cons (pe_ix (ix_t K) (pe_ix (ix_l K) (pe_ix (ix_l K) (pe_ix (ix_l K) (pv 1) pe_int (fun _ _ => rfl)) (pv 5) (fun _ _ => rfl)) (pe_un un_neg pe_int) (fun _ _ => rfl)) pe_int (fun _ _ => rfl)) pa_nil))) (pg_name (i := 7) sc_law_packs.nd rfl (Or.inl rfl))
          (pss_cons (ps_if (pt_val (pe_ix (ix_l K) (pe_ix (ix_l K) (pv 4) (pe_ix (ix_t K) (pv 6) pe_int (fun _ _ => rfl)) (fun _ _ => rfl)) (pv 7) (fun _ _ => rfl)))
            (pss_one (ps_ret pe_bl))
            pss_nil)
          (pss_one (ps_asg pe_bl (pg_sub (pe_ix (ix_l K) (pv 4) (pe_ix (ix_t K) (pv 6) pe_int (fun _ _ => rfl)) (fun _ _ => rfl)) (pv 7) set_list))))))))))
      (pss_one (ps_ret pe_bl))))))), ?_⟩
    obtain ⟨S, U, p, w, T0, rfl, A0, W0, G, few, q⟩ := h
    have wf := G.wf
    have w1 := wf.s1
    have w2 := wf.s2
    have w3 := wf.t1
    have w4 := wf.t2
    have hmany := G.many
    have hkl := keys_len T0
    (repeat fail "s")
    refine ⟨S, p, T0, rfl, A0, G, few, fun H1 lf f e1 n1 tf hok => ?_⟩
    obtain ⟨tsf, hlf, hTf⟩ := id tf
    have hfl : (tsf.map V.ref).length = T0.sold.length := by rw [List.length_map, hTf.len, List.length_map]
    have hkl2 : ((keys T0).map V.int).length = T0.sold.length := by rw [List.length_map, keys_len]
    obtain ⟨r, so, pa, as, ls_, R0, hU⟩ := id W0
    have R := R0.ex e1
    have hw := R.hw
    have hso : H1 so = some (.lst ((keys T0).map V.int)) := R.hso
    have hpa := R.hpa
    have GR := R.grid
    have g0 := List.getElem?_eq_getElem (l := T0.rows) (i := 0) w1
    have hl0 : T0.rows[0].length = T0.stops - 1 := wf.legs _ (List.getElem_mem w1)
    obtain ⟨a0, ha0, hrow0⟩ := GR.row.right g0
    have hrow0 : H1 a0 = some (.lst (T0.rows[0].map oV)) := hrow0
    have hr0 : atI (as.map V.ref) 0 = some (.ref a0) := at_of (j := 0) rfl (map_get ha0)
    have hn0 : (T0.rows[0].map oV).length = T0.stops - 1 := by rw [List.length_map, hl0]
    (repeat fail "s")
    refine v_ixL (SqL.of GR.top) (at_of (j := 0) rfl (map_get ha0)) ?_
    refine s_nil ?_
    refine v_lenL (SqL.of hrow0) ?_
    rw [hn0]
    (repeat fail "s")
    refine lc_vR (n := T0.stops - 1) (by omega) (fun i => .int (load T0.rows i)) (fun _ => rfl) (fun i H' Q' hi e' k => ?_) fun D3 H3 n3 e3 h3 => ?_
    · have G' := GR.mono e'
      (repeat fail "s")
      intro D hD
      refine lc_load hD G' (by omega) i (fun row m => by rw [wf.legs row m]; omega) (fun _ => rfl) (fun a row h H4 hr hh Q4 q4 => ?_) (fun a H4 Q4 q4 => ⟨_, rfl, q4⟩) fun H4 ys e4 hD4 hys => ?_
      · have hil := lt_of_get hh
        (repeat fail "s")
        rename_i c hc
        rw [hh] at hc
        cases hc
        (repeat fail "s")
        exact q4
      · (repeat fail "s")
        rw [hys]
        exact k H4 e4
    (repeat fail "s")
    refine v_max (ns := (List.range (T0.stops - 1)).map fun i => (load T0.rows i : Int)) (SqL.of (by rw [h3, List.map_map]; rfl)) (by rw [List.length_map, List.length_range]; omega) fun most0 hm1 hm2 => ?_
    obtain ⟨leg0, hl0', hml⟩ := List.mem_map.mp hm1
    have hl0' := List.mem_range.mp hl0'
    obtain ⟨most, hmost⟩ : ∃ most, most = load T0.rows leg0 := ⟨_, rfl⟩
    rw [← hmost] at hml
    subst hml
    have hmm : ∀ leg, leg < T0.stops - 1 → load T0.rows leg ≤ most := fun leg hl => by
      have := hm2 (load T0.rows leg : Int) (List.mem_map.mpr ⟨leg, List.mem_range.mpr (by omega), rfl⟩)
      omega
    have hmle : most ≤ 60 := by
      rw [hmost]
      exact Nat.le_trans (List.length_filter_le _ _) w2
    have hw3 := e3 _ _ hw
    have GR3 := GR.mono e3
    (repeat fail "s")
    refine lc_newR (n := most) (o := .lst ((List.range (T0.stops - 1)).map fun _ => V.bl false)) (by omega) (fun _ => rfl) (fun i H' Q' hi e' k => ?_) fun tk asT H5 n5 e5 h5 hlT ndT nrT hT => ?_
    · have hrow' : H' a0 = some (.lst (T0.rows[0].map oV)) := e' _ _ (e3 _ _ hrow0)
      have hw' := e' _ _ hw3
      have GR' := GR3.mono e'
      (repeat fail "s")
      rename_i l0 H6 n6 e6 h6
      refine v_ixL (SqL.of (e6 _ _ GR'.top)) (at_of (j := 0) rfl (map_get ha0)) ?_
      refine s_nil ?_
      refine v_lenL (SqL.of (e6 _ _ hrow')) ?_
      rw [hn0]
      (repeat fail "s")
      rename_i b H7 n7 e7 h7
      refine k b H7 (Evl.fresh_back e6 n7) (e6.trans e7) ?_
      rw [h7, rep_flat, Int.toNat_natCast, List.map_const', List.length_range]
    have x5 : Ex H1 H5 := e3.trans e5
    have BG5 : BoolG H5 tk asT (T0.stops - 1) (fun _ _ => false) := ⟨h5, ndT, nrT, fun s a ha => (hT a (List.mem_of_getElem? ha)).2⟩
    (repeat fail "s")
    refine fr_range (n := (tsf.map V.ref).length) (fun i σ H' => ∃ (F : Nat → Nat → Bool) (v5 v6 v7 v8 v9 : Option V), σ = [some (.ref p), some (.ref w), some (.ref lf), some (.int (most : Int)), some (.ref tk), v5, v6, v7, v8, v9] ∧ Ex H1 H' ∧ BoolG H' tk asT (T0.stops - 1) F ∧ ∀ s l, F s l = true → ∃ x ∈ T0.sold.take i, f x.1 = s ∧ (jOf x).1 ≤ l ∧ l < (jOf x).2.1)
      ⟨_, _, _, _, _, _, rfl, x5, BG5, fun s l z => (by cases z)⟩ ?_ ?_
    · rintro i σ H6 hi ⟨F, v5, v6, v7, v8, v9, rfl, x6, BG6, hF⟩
      have hi' : i < T0.sold.length := by rw [hfl] at hi; exact hi
      have hxi := List.getElem?_eq_getElem hi'
      have mx := List.getElem_mem hi'
      obtain ⟨x, hx⟩ : ∃ x, x = T0.sold[i] := ⟨_, rfl⟩
      rw [← hx] at hxi mx
      obtain ⟨t, ht, hTt⟩ := hTf.right (by rw [List.getElem?_map, hxi]; rfl)
      have htup : H1 t = some (.tup [.int (x.1 : Int), .int (f x.1 : Int)]) := hTt
      have hfm := hok.1 most hmm x mx
      obtain ⟨b, e, hb, he, wy⟩ := G.way x mx
      have hh := wy.hd hb
      have hne := wy.ne hb
      have hki : (keys T0)[i]? = some (x.1 : Int) := map_get hxi
      obtain ⟨li, hli, hPi⟩ := R.prt.right (map_get (f := fun x => x.2) hxi)
      have hlf6 : H6 lf = some (.lst (tsf.map V.ref)) := x6 _ _ hlf
      clear x5 hw3 GR3 hw
      have hw := R.hw
      have hPi6 : PartsAt H6 li x.2 := PartsAt.mono x6 hPi
      (repeat fail "s")
      have hj1 : (jOf x).1 = b := hh.1
      have hj2 : (jOf x).2.1 = e := hh.2
      have htk : T0.sold.take (i + 1) = T0.sold.take i ++ [x] := by
        rw [List.take_succ, hxi]
        rfl
      refine fr_range2 (b := (hdP x.2).2.1) (n := (ltP x.2).2.2 - (hdP x.2).2.1) (fun j σ' H' => ∃ (F : Nat → Nat → Bool) (v11 v12 v13 : Option V), σ' = [some (.ref p), some (.ref w), some (.ref lf), some (.int (most : Int)), some (.ref tk), some (.int (i : Int)), some (.ref t), v11, v12, v13] ∧ Ex H1 H' ∧ BoolG H' tk asT (T0.stops - 1) F ∧ ∀ s l, F s l = true → (∃ y ∈ T0.sold.take i, f y.1 = s ∧ (jOf y).1 ≤ l ∧ l < (jOf y).2.1) ∨ (s = f x.1 ∧ b ≤ l ∧ l < b + j))
        ⟨F, _, _, _, rfl, x6, BG6, fun s l z => .inl (hF s l z)⟩ ?_ ?_
      · rintro j σ' H8 hj ⟨F, v11, v12, v13, rfl, x8, BG8, hF⟩
        have hlb : (hdP x.2).2.1 + j < T0.stops - 1 := by omega
        have hsl : f x.1 < asT.length := by omega
        have ha := List.getElem?_eq_getElem hsl
        have hrow := BG8.row _ _ ha
        obtain ⟨a, hadef⟩ : ∃ a, a = asT[f x.1] := ⟨_, rfl⟩
        rw [← hadef] at ha hrow
        have hF0 : F (f x.1) ((hdP x.2).2.1 + j) = false := by
          cases hc : F (f x.1) ((hdP x.2).2.1 + j) with
          | false => rfl
          | true =>
            rcases hF _ _ hc with ⟨y, my, hy1, hy2, hy3⟩ | ⟨_, h1, h2⟩
            · obtain ⟨m, hm⟩ := List.mem_iff_getElem?.mp my
              have hm2 := lt_of_get hm
              rw [List.length_take] at hm2
              rw [List.getElem?_take_of_lt (by omega)] at hm
              have hlt := List.pairwise_iff_getElem.mp (List.pairwise_map.mp wf.rising) m i (lt_of_get hm) hi' (by omega)
              rw [Option.some.inj ((List.getElem?_eq_getElem (lt_of_get hm)).symm.trans hm), ← hx] at hlt
              rcases hok.2 y (List.mem_of_getElem? hm) x mx (by omega) hy1 with h | h
              · omega
              · omega
            · omega
        have htup8 : H8 t = some (.tup [.int (x.1 : Int), .int (f x.1 : Int)]) := (by fail "t")
        (repeat fail "s")
        refine v_ixL (SqL.of BG8.top) (at_of rfl (map_get ha)) ?_
        (repeat fail "s")
        refine v_ixL (SqL.of hrow) (at_of rfl (by rw [List.getElem?_map, List.getElem?_range hlb]; rfl)) ?_
        (repeat fail "s")
        rw [hF0]
        (repeat fail "s")
        refine v_ixL (SqL.of BG8.top) (at_of rfl (map_get ha)) ?_
        (repeat fail "s")
        refine v_setL hrow (k := (hdP x.2).2.1 + j) (by rw [List.length_map, List.length_range]; exact ixN_nat hlb) fun H9 c9 h9 => ?_
        have BG9 := BG8.set ha c9 hlb h9
        refine ⟨_, _, _, _, rfl, c9.ex x8 (Evl.fresh_back e3 (hT a (List.mem_of_getElem? ha)).1), BG9, fun s l z => ?_⟩
        try dsimp only at z
        by_cases hsl2 : s = f x.1 ∧ l = (hdP x.2).2.1 + j
        · exact .inr ⟨hsl2.1, by omega, by omega⟩
        · rw [if_neg hsl2] at z
          rcases hF s l z with h | h
          · exact .inl h
          · exact .inr ⟨h.1, by omega, by omega⟩
      · rintro σ' H8 ⟨F, v11, v12, v13, rfl, x8, BG8, hF⟩
        refine ⟨F, _, _, _, _, _, rfl, x8, BG8, fun s l z => ?_⟩
        rw [htk]
        rcases hF s l z with ⟨y, my, h⟩ | ⟨h1, h2, h3⟩
        · exact ⟨y, List.mem_append_left _ my, h⟩
        · exact ⟨x, List.mem_append_right _ (List.mem_singleton.mpr rfl), h1.symm, by omega, by omega⟩
    rintro σ H6 ⟨F, v5, v6, v7, v8, v9, rfl, x6, BG6, _⟩
    (repeat fail "s")
    exact q H6 (e1.trans x6)
theorem sc_Train_need_leg : FnScope ["self", "leg"] ["self", "leg"] (defScope s_Train_need_leg) := ⟨rfl, rfl, rfl, by decide +kernel, rfl, by decide +kernel, by decide +kernel⟩
theorem m_Train_need_leg (T : Tx K mg) : Met P w K mg base 1 (He.ga K "Train") "need_leg" (spNeedLeg K) := by
  refine T.met 49 101 15 rfl rfl rfl sc_Train_need_leg (fun _ _ _ _ _ _ us hl => match us, hl with | [_, _], _ => rfl) (fun vs H Q E h => ?_) fun cdv A outer s H vs Q E hr h => ?_
  · first | (obtain ⟨_, rfl, _⟩ := h; rfl) | (obtain ⟨_, _, rfl, _⟩ := h; rfl) | (obtain ⟨_, _, _, rfl, _⟩ := h; rfl) | (obtain ⟨_, _, _, _, rfl, _⟩ := h; rfl) | (obtain ⟨_, _, _, _, _, rfl, _⟩ := h; rfl) | (obtain ⟨_, _, _, _, _, _, rfl, _⟩ := h; rfl) | (obtain ⟨_, _, _, _, _, _, _, rfl, _⟩ := h; rfl) | (obtain ⟨_, _, _, _, _, _, _, _, rfl, _⟩ := h; rfl) | (obtain ⟨_, _, _, _, _, _, _, _, _, rfl, _⟩ := h; rfl) | (obtain ⟨_, _, _, _, _, _, _, _, _, _, rfl, _⟩ := h; rfl) | (obtain ⟨_, _, _, _, _, _, _, _, _, _, _, rfl, _⟩ := h; rfl) | (obtain ⟨_, _, _, _, _, _, _, _, _, _, _, _, rfl, _⟩ := h; rfl) | (obtain ⟨_, _, _, _, _, _, _, _, _, _, _, _, _, rfl, _⟩ := h; rfl) | (obtain ⟨_, _, _, _, _, _, _, _, _, _, _, _, _, _, rfl, _⟩ := h; rfl) | (obtain ⟨_, _, _, _, _, _, _, _, _, _, _, _, _, _, _, rfl, _⟩ := h; rfl)
  · refine ⟨_, (pss_one (ps_if (pt_not (pt_chain op_le op_lt pe_int (pv 1) (pe_op op_sub (fld_k K (pv 0) rfl) pe_int)))
        (pss_one (ps_raise rfl (takes_of rfl rfl rfl rfl) (pmk_x T 99 61 rfl rfl)))
        pss_nil)), ?_⟩
    obtain ⟨S, p, T0, s, rfl, A0, q1, q2⟩ := h
    obtain ⟨dx, r, d, hp⟩ := A0.ins
    refine ⟨_, rfl, _, _, rfl, rfl, _, rfl, ?_⟩
    refine iteD (fun h1 => ?_) (fun h1 => ?_)
    · refine ⟨_, rfl, p, _, dx, _, _, rfl, hp, (T.cls 15), (T.noat 16), lk_stops, _, _, rfl, rfl, _, _, rfl, rfl, _, rfl, ?_⟩
      refine iteN (fun h3 => ?_) (fun h3 => ?_)
      · exact q2 fun z => h3 z.2
      · exact q1 ⟨h1, h3⟩
    · exact ⟨_, rfl, iteT (q2 fun z => h1 z.1)⟩
theorem sc_Train_load : FnScope ["self", "leg", "row"] ["self", "leg"] (defScope s_Train_load) := ⟨rfl, rfl, rfl, by decide +kernel, rfl, by decide +kernel, by decide +kernel⟩
theorem m_Train_load (T : Tx K mg) : Met P w K mg base 2 (He.ga K "Train") "load" (spLoad K) := by
  refine T.met 50 102 15 rfl rfl rfl sc_Train_load (fun _ _ _ _ _ _ us hl => match us, hl with | [_, _], _ => rfl) (fun vs H Q E h => ?_) fun cdv A outer s H vs Q E hr h => ?_
  · first | (obtain ⟨_, rfl, _⟩ := h; rfl) | (obtain ⟨_, _, rfl, _⟩ := h; rfl) | (obtain ⟨_, _, _, rfl, _⟩ := h; rfl) | (obtain ⟨_, _, _, _, rfl, _⟩ := h; rfl) | (obtain ⟨_, _, _, _, _, rfl, _⟩ := h; rfl) | (obtain ⟨_, _, _, _, _, _, rfl, _⟩ := h; rfl) | (obtain ⟨_, _, _, _, _, _, _, rfl, _⟩ := h; rfl) | (obtain ⟨_, _, _, _, _, _, _, _, rfl, _⟩ := h; rfl) | (obtain ⟨_, _, _, _, _, _, _, _, _, rfl, _⟩ := h; rfl) | (obtain ⟨_, _, _, _, _, _, _, _, _, _, rfl, _⟩ := h; rfl) | (obtain ⟨_, _, _, _, _, _, _, _, _, _, _, rfl, _⟩ := h; rfl) | (obtain ⟨_, _, _, _, _, _, _, _, _, _, _, _, rfl, _⟩ := h; rfl) | (obtain ⟨_, _, _, _, _, _, _, _, _, _, _, _, _, rfl, _⟩ := h; rfl) | (obtain ⟨_, _, _, _, _, _, _, _, _, _, _, _, _, _, rfl, _⟩ := h; rfl) | (obtain ⟨_, _, _, _, _, _, _, _, _, _, _, _, _, _, _, rfl, _⟩ := h; rfl)
  · refine ⟨_, (pss_cons (ps_expr (pe_m (m_Train_need_leg T) hr (pr (takes_of rfl rfl rfl rfl)) (pv 0) (pa_cons (pv 1) pa_nil)))
      (pss_one (ps_ret (pe_callB (len_k K) (by rfl) (T.free 0) PySem.boot_len (pa_cons (pe_lc (own := [("row", 2)]) (g := gName 2) rfl sc_Train_load.nd (pi_l K (fld_k K (pv 0) rfl)) (blkOk_by (N := ["self", "leg", "row"]) (sc := defScope s_Train_load) (by decide +kernel)) (fun _ _ _ _ _ => pg_name (i := 2) sc_Train_load.nd rfl (Or.inl rfl)) (fun _ _ _ _ _ => (pts_one (pt_cmpR op_notN1 (pe_ix (ix_l K) (pv 2) (pv 1) (fun _ _ => rfl)) pe_non (nomark _)))) (fun _ _ _ _ _ => (pv 2))) pa_nil))))), ?_⟩
    obtain ⟨S, p, T0, t, rfl, A0, q1, q2⟩ := h
    obtain ⟨r, d, as, ls, R, z⟩ := id A0
    obtain ⟨dx, hp⟩ := R.ins
    refine ⟨_, rfl, _, _, _, rfl, hp, trF_no (by decide +kernel) (by decide +kernel) (by decide +kernel) (by decide +kernel), _, rfl, S, p, T0, t, rfl, A0, fun ht => ?_, q2⟩
    have w2 := R.wf.s2
    refine ⟨_, rfl, p, _, dx, _, _, rfl, hp, (T.cls 15), (T.noat 17), lk_rows, r, rfl, ⟨_, SqL.of R.grid.top⟩, fun D hD => ?_⟩
    have key : ∀ (k : Nat) (x : V), (as.map V.ref)[k]? = some x → ∃ (a : Addr) (row : List (Option Nat)) (h : Option Nat), x = V.ref a ∧ T0.rows[k]? = some row ∧ RowAt H a row ∧ row[t.toNat]? = some h := by
      intro k x hx
      obtain ⟨a, ha, rfl⟩ := map_back hx
      obtain ⟨row, hrow, hr2⟩ := R.grid.row.left ha
      have hlr : t.toNat < row.length := by
        rw [R.wf.legs _ (List.mem_of_getElem? hrow)]
        have := R.wf.t1
        omega
      exact ⟨a, row, _, rfl, hrow, hr2, List.getElem?_eq_getElem hlr⟩
    refine lc_ex (walk_list (xs := as.map V.ref)) y_list hD (fun H2 e2 => sqL_of R.grid.top e2) (by rw [List.length_map, R.grid.row.len]; omega) (fun k => ((T0.rows[k]?).map fun row => held row t.toNat).getD false)
      (fun _ _ _ => True) (fun _ _ _ _ _ _ => trivial) (fun _ => rfl) ?_ ?_ ?_
    · intro k x H2 hk hx e2 Q2 q3
      obtain ⟨a, row, h, rfl, hrow, hr2, hc⟩ := key k x hx
      refine ⟨_, rfl, _, rfl, a, _, _, oV h, rfl, rfl, SqL.of (e2 _ _ hr2), at_of (j := t.toNat) (by omega) (map_get hc), rfl, _, rfl, ?_⟩
      have q4 := q3 H2 (Evl.Ex.refl H2)
      rw [hrow, Option.map_some, Option.getD_some, held_at hc] at q4
      rw [oV_some]
      exact q4
    · intro k x H2 hk hx hkeep e2 hD2 Q2 q3
      exact ⟨_, rfl, q3 x H2 H (Evl.Ex.refl H2) e2 hD trivial⟩
    · intro H2 ys e2 hD2 hall
      refine ⟨D, ys, rfl, .inl (SqL.of hD2), ?_⟩
      have hl : ys.length = load T0.rows t.toNat := by
        rw [← hall.len, List.length_map, R.grid.row.len]
        exact kept_filter T0.rows _ _ fun k row hk => by rw [hk]; rfl
      rw [hl]
      exact q1 ht H2 e2
theorem sc_law_offered : FnScope ["_law_train", "_law_begin", "_law_end", "_law_e"] ["_law_train", "_law_begin", "_law_end"] (defScope s_law_offered) := ⟨rfl, rfl, rfl, by decide +kernel, rfl, by decide +kernel, by decide +kernel⟩
theorem c_law_offered (T : Tx K mg) : Cal P w K mg base 5 "_law_offered" (spOffered K) := by
  refine T.cal 51 103 rfl rfl sc_law_offered (fun _ _ _ _ _ _ us hl => match us, hl with | [_, _, _], _ => rfl) (fun vs H Q E h => ?_) fun cdv A outer s H vs Q E hr h => ?_
  · first | (obtain ⟨_, rfl, _⟩ := h; rfl) | (obtain ⟨_, _, rfl, _⟩ := h; rfl) | (obtain ⟨_, _, _, rfl, _⟩ := h; rfl) | (obtain ⟨_, _, _, _, rfl, _⟩ := h; rfl) | (obtain ⟨_, _, _, _, _, rfl, _⟩ := h; rfl) | (obtain ⟨_, _, _, _, _, _, rfl, _⟩ := h; rfl) | (obtain ⟨_, _, _, _, _, _, _, rfl, _⟩ := h; rfl) | (obtain ⟨_, _, _, _, _, _, _, _, rfl, _⟩ := h; rfl) | (obtain ⟨_, _, _, _, _, _, _, _, _, rfl, _⟩ := h; rfl) | (obtain ⟨_, _, _, _, _, _, _, _, _, _, rfl, _⟩ := h; rfl) | (obtain ⟨_, _, _, _, _, _, _, _, _, _, _, rfl, _⟩ := h; rfl) | (obtain ⟨_, _, _, _, _, _, _, _, _, _, _, _, rfl, _⟩ := h; rfl) | (obtain ⟨_, _, _, _, _, _, _, _, _, _, _, _, _, rfl, _⟩ := h; rfl) | (obtain ⟨_, _, _, _, _, _, _, _, _, _, _, _, _, _, rfl, _⟩ := h; rfl) | (obtain ⟨_, _, _, _, _, _, _, _, _, _, _, _, _, _, _, rfl, _⟩ := h; rfl)
  · refine ⟨_, (pss_one (ps_try_as (i := 3) rfl rfl sc_law_offered.nd rfl rfl ⟨rfl, by decide, Or.inl (T.glo 29)⟩ takes0
        (fun W pn xe tk po => (pss_one (ps_ret (pe_lst (pa_cons pe_str (pa_cons (pe_m (m_Train_row T) hr (pr tk) (pv 0) (pa_cons (pv 1) (pa_cons (pv 2) pa_nil))) pa_nil))))))
        (fun a oe cls d pn hz hf => (pss_one (ps_ret (pe_lst (pa_cons (pe_hz (h_law_class T) hr hz hf (pa_cons (pv 3) pa_nil)) (pa_cons pe_non pa_nil)))))))), ?_⟩
    obtain ⟨S, p, T0, b, e, rfl, A0, hbe, hen, q1, q2⟩ := h
    obtain ⟨dx, r, d, hp⟩ := A0.ins
    refine ⟨_, rfl, p, _, _, rfl, hp, nf_row, _, rfl, _, rfl, S, p, T0, (b : Int), (e : Int), rfl, A0, fun _ hf H1 l e1 hl hP => ?_, fun _ hf H1 e1 => ?_, fun hb => absurd ⟨by omega, by omega, by omega⟩ hb⟩
    · refine ⟨by show 2 ≤ sizeLine; decide, fun t ft => ?_⟩
      have e2 := Evl.Ex.new (o := .lst [.str "", .ref l]) ft
      exact q1 hf _ t l (e1.trans e2) upd_same (PartsAt.mono e2 hP)
    · exact ⟨true, (T.exm 32), fun _ a0 na oe hz hf2 => ⟨_, rfl, "Full", by decide +kernel, rfl, hz, hf2, fun H' e => ⟨by show 2 ≤ sizeLine; decide, fun t ft => by
        have e2 := Evl.Ex.new (o := .lst [.str "full", .non]) ft
        have ew : excW "Full" = "full" := by decide +kernel
        rw [ew]
        exact q2 hf _ t (e1.trans (e.trans e2)) upd_same⟩⟩, fun z => nomatch z⟩
theorem sc_law_rows : FnScope ["_law_found_here", "_law_due", "_law_k", "_law_one"] ["_law_found_here", "_law_due"] (defScope s_law_rows) := ⟨rfl, rfl, rfl, by decide +kernel, rfl, by decide +kernel, by decide +kernel⟩
theorem c_law_rows (T : Tx K mg) : Cal P w K mg base 2 "_law_rows" (spRowsEq K) := by
  refine T.cal 52 104 rfl rfl sc_law_rows (fun _ _ _ _ _ _ us hl => match us, hl with | [_, _], _ => rfl) (fun vs H Q E h => ?_) fun cdv A outer s H vs Q E hr h => ?_
  · first | (obtain ⟨_, rfl, _⟩ := h; rfl) | (obtain ⟨_, _, rfl, _⟩ := h; rfl) | (obtain ⟨_, _, _, rfl, _⟩ := h; rfl) | (obtain ⟨_, _, _, _, rfl, _⟩ := h; rfl) | (obtain ⟨_, _, _, _, _, rfl, _⟩ := h; rfl) | (obtain ⟨_, _, _, _, _, _, rfl, _⟩ := h; rfl) | (obtain ⟨_, _, _, _, _, _, _, rfl, _⟩ := h; rfl) | (obtain ⟨_, _, _, _, _, _, _, _, rfl, _⟩ := h; rfl) | (obtain ⟨_, _, _, _, _, _, _, _, _, rfl, _⟩ := h; rfl) | (obtain ⟨_, _, _, _, _, _, _, _, _, _, rfl, _⟩ := h; rfl) | (obtain ⟨_, _, _, _, _, _, _, _, _, _, _, rfl, _⟩ := h; rfl) | (obtain ⟨_, _, _, _, _, _, _, _, _, _, _, _, rfl, _⟩ := h; rfl) | (obtain ⟨_, _, _, _, _, _, _, _, _, _, _, _, _, rfl, _⟩ := h; rfl) | (obtain ⟨_, _, _, _, _, _, _, _, _, _, _, _, _, _, rfl, _⟩ := h; rfl) | (obtain ⟨_, _, _, _, _, _, _, _, _, _, _, _, _, _, _, rfl, _⟩ := h; rfl)
  · refine ⟨_, (pss_cons (ps_if (PW.pt (pw_or (pt_not (pt_val (pe_callB (isi_k K) (by rfl) (T.free 1) (by decide +kernel) (pa_cons (pv 0) (pa_cons (pe_bltn (v := .ty "list") rfl (T.free 51) (by decide +kernel) rfl) pa_nil))))) (pw_or1 (pt_cmpR op_ne (pe_callB (len_k K) (by rfl) (T.free 0) PySem.boot_len (pa_cons (pv 0) pa_nil)) (pe_callB (len_k K) (by rfl) (T.free 0) PySem.boot_len (pa_cons (pv 1) pa_nil)) (nomark _)))))
        (pss_one (ps_ret pe_bl))
        pss_nil)
      (pss_cons (ps_for (passes_of rfl) rfl (pi_range1 (by rfl) (T.free 3) (pa_cons (pe_callB (len_k K) (by rfl) (T.free 0) PySem.boot_len (pa_cons (pv 1) pa_nil)) pa_nil)) (pg_name (i := 2) sc_law_rows.nd rfl (Or.inl rfl))
        (pss_cons (ps_if (PW.pt (pw_or (pt_not (pt_val (pe_callB (isi_k K) (by rfl) (T.free 1) (by decide +kernel) (pa_cons (pe_ix (ix_l K) (pv 0) (pv 2) (fun _ _ => rfl)) (pa_cons (pe_bltn (v := .ty "tuple") rfl (T.free 23) (by decide +kernel) rfl) pa_nil))))) (pw_or1 (pt_cmpR op_ne (pe_callB (len_k K) (by rfl) (T.free 0) PySem.boot_len (pa_cons (pe_ix (ix_l K) (pv 0) (pv 2) (fun _ _ => rfl)) pa_nil)) (pe_callB (len_k K) (by rfl) (T.free 0) PySem.boot_len (pa_cons (pe_ix (ix_l K) (pv 1) (pv 2) (fun _ _ => rfl)) pa_nil)) (nomark _)))))
          (pss_one (ps_ret pe_bl))
          pss_nil)
        (pss_one (ps_if (PW.pt (pw_or (pt_not (pt_val (pe_callB (all_k K rfl) (by rfl) (T.free 37) (by decide +kernel) (pa_cons (pe_lc (own := [("_law_one", 3)]) (g := gName 3) rfl sc_law_rows.nd (pi_t K (pe_ix (ix_l K) (pv 0) (pv 2) (fun _ _ => rfl))) (blkOk_by (N := ["_law_found_here", "_law_due", "_law_k", "_law_one"]) (sc := defScope s_law_rows) (by decide +kernel)) (fun _ _ _ _ _ => pg_name (i := 3) sc_law_rows.nd rfl (Or.inl rfl)) (fun _ _ _ _ _ => pts_nil) (fun _ _ _ _ _ => (pe_c (c_law_whole T) hr pz (pa_cons (pv 3) pa_nil)))) pa_nil)))) (pw_or1 (pt_cmpR (neD_k K hr.units) (pe_ix (ix_l K) (pv 0) (pv 2) (fun _ _ => rfl)) (pe_ix (ix_l K) (pv 1) (pv 2) (fun _ _ => rfl)) (nomark _)))))
          (pss_one (ps_ret pe_bl))
          pss_nil))))
      (pss_one (ps_ret pe_bl)))), ?_⟩
    obtain ⟨f, d, xs, ys, rfl, ⟨ts, hf, hT⟩, ⟨us, hd, hU⟩, hl1, hl2, hl3, q⟩ := h
    have lt : (ts.map V.ref).length = xs.length := by rw [List.length_map, hT.len]
    have lu : (us.map V.ref).length = ys.length := by rw [List.length_map, hU.len]
    refine ⟨_, rfl, _, .ty "list", _, _, true, rfl, .ty _, .base (.lst hf), kit_ty (by decide +kernel), _, rfl, iteF ?_⟩
    refine ⟨_, rfl, f, _, rfl, .inl (SqL.of hf), _, rfl, d, _, rfl, .inl (SqL.of hd), rfl, _, rfl, ?_⟩
    rw [lt, lu]
    refine iteN (fun h1 => ?_) (fun h1 => ?_)
    · have hne : xs ≠ ys := fun z => h1 (by rw [z])
      have q2 := q H (Evl.Ex.refl H)
      rw [decide_eq_false hne] at q2
      exact q2
    have hlen : xs.length = ys.length := by
      have := V.int.inj h1
      omega
    refine ⟨_, rfl, d, _, rfl, .inl (SqL.of hd), _, rfl, by rw [lu]; omega, by rw [lu]; omega, for_range (lo := 0) (n := ((us.map V.ref).length : Int).toNat) (fun i σ H' => Ex H H' ∧ (∃ v, σ = [some (.ref f), some (.ref d), v, none]) ∧ xs.take i = ys.take i)
      ⟨Evl.Ex.refl H, ⟨none, rfl⟩, rfl⟩ ?_ ?_⟩
    · rintro i σ H' hi ⟨ex, ⟨v, rfl⟩, ht⟩
      have hi2 : i < ys.length := by
        rw [lu] at hi
        omega
      have hi1 : i < xs.length := by omega
      have e1 := List.getElem?_eq_getElem hi1
      have e2 := List.getElem?_eq_getElem hi2
      obtain ⟨t, ht1, hx⟩ := hT.right e1
      obtain ⟨u, hu1, hy⟩ := hU.right e2
      have ez : (0 : Int) + (i : Int) = (i : Int) := Int.zero_add _
      have sf : SqL K H' f (ts.map V.ref) := sqL_of hf ex
      have sd : SqL K H' d (us.map V.ref) := sqL_of hd ex
      have fin : xs[i] ≠ ys[i] → ∀ H2, Ex H' H2 → Q (.bl false) H2 := fun hne H2 e2' => by
        have hne2 : xs ≠ ys := fun z => hne (by
          have e3 : xs[i]? = ys[i]? := by rw [z]
          rw [e1, e2] at e3
          exact Option.some.inj e3)
        have q2 := q H2 (ex.trans e2')
        rw [decide_eq_false hne2] at q2
        exact q2
      have cx : Nat.cast (List.map V.int xs[i]).length = (xs[i].length : Int) := by rw [List.length_map]
      have cy : Nat.cast (List.map V.int ys[i]).length = (ys[i].length : Int) := by rw [List.length_map]
      refine ⟨_, rfl, _, rfl, f, _, _, .ref t, rfl, rfl, sf, at_of (j := i) ez (map_get ht1), _, .ty "tuple", _, _, true, rfl, .ty _, .base (.tup (ex _ _ hx)), kit_ty (by decide +kernel), _, rfl, iteF ?_⟩
      refine ⟨_, rfl, _, rfl, f, _, _, .ref t, rfl, rfl, sf, at_of (j := i) ez (map_get ht1), t, _, rfl, .inr (SqT.of (ex _ _ hx)), _, rfl, _, rfl, d, _, _, .ref u, rfl, rfl, sd, at_of (j := i) ez (map_get hu1), u, _, rfl, .inr (SqT.of (ex _ _ hy)), rfl, _, rfl, ?_⟩
      rw [cx, cy]
      refine iteN (fun h2 => fin (fun z => h2 (by rw [z])) H' (Evl.Ex.refl H')) (fun _ => ?_)
      refine ⟨_, rfl, _, rfl, f, _, _, .ref t, rfl, rfl, sf, at_of (j := i) ez (map_get ht1), t, rfl, ⟨_, SqT.of (ex _ _ hx)⟩, fun D hD => ?_⟩
      refine lc_v (walk_tup (K := K) (a := t) (xs := xs[i].map V.int)) y_list hD (fun H2 e2 => SqT.of (e2 _ _ (ex _ _ hx))) (by rw [List.length_map]; have := hl3 _ (List.getElem_mem hi1); omega) (fun _ => true) (fun _ => .bl true) (fun _ => rfl) lc_yes ?_ ?_
      · intro k x H2 hk hxk _ e2 Q2 q2
        obtain ⟨z, _, rfl⟩ := map_back hxk
        exact ⟨_, rfl, .int z, rfl, .inr (.inr (.inl ⟨_, rfl⟩)), q2 H2 (Evl.Ex.refl H2)⟩
      · intro H2 e2' hD2
        rw [kept_all] at hD2
        refine ⟨D, (List.range (xs[i].map V.int).length).map fun _ => true, rfl, SqL.of (by rw [hD2, List.map_map]; rfl), _, rfl, ?_⟩
        have hall : ((List.range (xs[i].map V.int).length).map fun _ => true).all id = true := by
          rw [List.all_map]
          exact List.all_eq_true.mpr fun _ _ => rfl
        rw [hall]
        refine iteF ?_
        refine ⟨_, rfl, _, rfl, f, _, _, .ref t, rfl, rfl, sqL_ex sf e2', at_of (j := i) ez (map_get ht1), _, rfl, _, rfl, d, _, _, .ref u, rfl, rfl, sqL_ex sd e2', at_of (j := i) ez (map_get hu1), ?_⟩
        refine rne_of (Enc.tup enc_int) (by decide) (dp_tup (e2' _ _ (ex _ _ hx))) (dp_tup (e2' _ _ (ex _ _ hy))) ⟨_, rfl, ?_⟩
        refine iteN (fun h2 => fin h2 H2 e2') (fun h2 => ?_)
        refine ⟨ex.trans e2', ⟨_, rfl⟩, ?_⟩
        rw [List.take_succ_eq_append_getElem hi1, List.take_succ_eq_append_getElem hi2, ht, h2]
    · rintro σ H' ⟨ex, ⟨v, rfl⟩, ht⟩
      have he : xs = ys := by
        have e3 : ((us.map V.ref).length : Int).toNat = ys.length := by omega
        rw [e3, List.take_length, ← hlen, List.take_length] at ht
        exact ht
      have q2 := q H' ex
      rw [decide_eq_true he] at q2
      exact q2
theorem sc_law_offers : FnScope ["_law_train", "_law_rows_here", "_law_begin", "_law_end", "_law_found_here"] ["_law_train", "_law_rows_here", "_law_begin", "_law_end"] (defScope s_law_offers) := ⟨rfl, rfl, rfl, by decide +kernel, rfl, by decide +kernel, by decide +kernel⟩
theorem c_law_offers (T : Tx K mg) : Cal P w K mg base 6 "_law_offers" (spOffers K) := by
  refine T.cal 53 105 rfl rfl sc_law_offers (fun _ _ _ _ _ _ us hl => match us, hl with | [_, _, _, _], _ => rfl) (fun vs H Q E h => ?_) fun cdv A outer s H vs Q E hr h => ?_
  · first | (obtain ⟨_, rfl, _⟩ := h; rfl) | (obtain ⟨_, _, rfl, _⟩ := h; rfl) | (obtain ⟨_, _, _, rfl, _⟩ := h; rfl) | (obtain ⟨_, _, _, _, rfl, _⟩ := h; rfl) | (obtain ⟨_, _, _, _, _, rfl, _⟩ := h; rfl) | (obtain ⟨_, _, _, _, _, _, rfl, _⟩ := h; rfl) | (obtain ⟨_, _, _, _, _, _, _, rfl, _⟩ := h; rfl) | (obtain ⟨_, _, _, _, _, _, _, _, rfl, _⟩ := h; rfl) | (obtain ⟨_, _, _, _, _, _, _, _, _, rfl, _⟩ := h; rfl) | (obtain ⟨_, _, _, _, _, _, _, _, _, _, rfl, _⟩ := h; rfl) | (obtain ⟨_, _, _, _, _, _, _, _, _, _, _, rfl, _⟩ := h; rfl) | (obtain ⟨_, _, _, _, _, _, _, _, _, _, _, _, rfl, _⟩ := h; rfl) | (obtain ⟨_, _, _, _, _, _, _, _, _, _, _, _, _, rfl, _⟩ := h; rfl) | (obtain ⟨_, _, _, _, _, _, _, _, _, _, _, _, _, _, rfl, _⟩ := h; rfl) | (obtain ⟨_, _, _, _, _, _, _, _, _, _, _, _, _, _, _, rfl, _⟩ := h; rfl)
  · refine ⟨_, (pss_cons (ps_set (i := 4) sc_law_offers.nd rfl (Or.inl rfl) (pe_c (c_law_offered T) hr pz (pa_cons (pv 0) (pa_cons (pv 2) (pa_cons (pv 3) pa_nil)))))
      (pss_cons (ps_if (pt_cmpR op_notN1 (pe_c (c_law_full T) hr pz (pa_cons (pv 1) (pa_cons (pv 2) (pa_cons (pv 3) pa_nil)))) pe_non (nomark _))
        (pss_one (ps_ret (pe_cmpR op_eq (pe_ix (ix_l K) (pv 4) pe_int (fun _ _ => rfl)) pe_str (nomark _))))
        pss_nil)
      (pss_one (ps_ret (pe_and (pe_cmpR op_eq (pe_ix (ix_l K) (pv 4) pe_int (fun _ _ => rfl)) pe_str (nomark _)) (pe_one (pe_c (c_law_rows T) hr pz (pa_cons (pe_ix (ix_l K) (pv 4) pe_int (fun _ _ => rfl)) (pa_cons (pe_c (c_law_found T) hr pz (pa_cons (pv 1) (pa_cons (pv 2) (pa_cons (pv 3) pa_nil)))) pa_nil))))))))), ?_⟩
    obtain ⟨S, p, T0, r, as, b, e, rfl, A0, G0, hbe, hen, q⟩ := h
    have wf := A0.wf
    have w2 := wf.s2
    have w4 := wf.t2
    by_cases hf : firstFull T0.rows b e = none
    · refine ⟨_, rfl, _, rfl, _, rfl, S, p, T0, b, e, rfl, A0, hbe, hen, fun _ H1 t l e1 ht hP => ?_, fun hn => absurd hf hn⟩
      refine ⟨_, rfl, _, rfl, _, rfl, r, as, T0.rows, b, e, rfl, G0.mono e1, by omega, by omega, by omega, fun row m => by rw [wf.legs row m]; omega, fun H2 e2 => ?_⟩
      rw [hf]
      refine ⟨rfl, _, rfl, iteF ?_⟩
      have ht2 := e2 _ _ ht
      refine ⟨_, rfl, t, _, _, _, rfl, rfl, SqL.of ht2, at_of (j := 0) rfl rfl, rfl, _, rfl, iteT ?_⟩
      refine ⟨_, rfl, t, _, _, _, rfl, rfl, SqL.of ht2, at_of (j := 1) rfl rfl, _, rfl, _, rfl, _, rfl, r, as, T0.rows, T0.stops - 1, b, e, rfl, (G0.mono e1).mono e2, wf.legs, by omega, by omega, by omega, by omega, full_none.mp hf, fun H3 l3 e3 fl3 P3 => ?_⟩
      obtain ⟨wy, _⟩ := found_way wf.legs (e := e) (by omega) _ b (Nat.le_refl _) (by omega) (full_none.mp hf)
      have hlen := wy.len
      refine ⟨l, l3, (found T0.rows b e).map p3I, (found T0.rows b e).map p3I, rfl, (hP.mono (e2.trans e3)).tups, P3.tups, by rw [List.length_map]; omega, by rw [List.length_map]; omega, fun x m => ?_, fun H4 e4 => ?_⟩
      · obtain ⟨y, _, rfl⟩ := List.mem_map.mp m
        show 3 ≤ 100
        decide
      · rw [decide_eq_true rfl]
        exact q H4 (e1.trans (e2.trans (e3.trans e4)))
    · refine ⟨_, rfl, _, rfl, _, rfl, S, p, T0, b, e, rfl, A0, hbe, hen, fun hn => absurd hn hf, fun _ H1 t e1 ht => ?_⟩
      refine ⟨_, rfl, _, rfl, _, rfl, r, as, T0.rows, b, e, rfl, G0.mono e1, by omega, by omega, by omega, fun row m => by rw [wf.legs row m]; omega, fun H2 e2 => ?_⟩
      refine ⟨rfl, _, rfl, ?_⟩
      rw [oV_some]
      refine iteB (fun _ => ?_) (fun hn => absurd (Option.isSome_eq_false_iff.mp hn |> Option.isNone_iff_eq_none.mp) hf)
      have ht2 := e2 _ _ ht
      refine ⟨_, rfl, t, _, _, _, rfl, rfl, SqL.of ht2, at_of (j := 0) rfl rfl, rfl, ?_⟩
      exact q H2 (e1.trans e2)
theorem sc_law_told_of : FnScope ["_law_train", "_law_rows_here", "_law_cell", "_law_way", "_law_stops_here", "_law_stretch", "_law_legs", "_law_blocks", "_law_due", "_law_at", "_law_leg", "_law_row", "_law_seat"] ["_law_train", "_law_rows_here", "_law_cell", "_law_way"] (defScope s_law_told_of) := ⟨rfl, rfl, rfl, by decide +kernel, rfl, by decide +kernel, by decide +kernel⟩
theorem c_law_told_of (T : Tx K mg) : Cal P w K mg base 7 "_law_told_of" (spToldOf K) := by
  refine T.cal 54 106 rfl rfl sc_law_told_of (fun _ _ _ _ _ _ us hl => match us, hl with | [_, _, _, _], _ => rfl) (fun vs H Q E h => ?_) fun cdv A outer s H vs Q E hr h => ?_
  · first | (obtain ⟨_, rfl, _⟩ := h; rfl) | (obtain ⟨_, _, rfl, _⟩ := h; rfl) | (obtain ⟨_, _, _, rfl, _⟩ := h; rfl) | (obtain ⟨_, _, _, _, rfl, _⟩ := h; rfl) | (obtain ⟨_, _, _, _, _, rfl, _⟩ := h; rfl) | (obtain ⟨_, _, _, _, _, _, rfl, _⟩ := h; rfl) | (obtain ⟨_, _, _, _, _, _, _, rfl, _⟩ := h; rfl) | (obtain ⟨_, _, _, _, _, _, _, _, rfl, _⟩ := h; rfl) | (obtain ⟨_, _, _, _, _, _, _, _, _, rfl, _⟩ := h; rfl) | (obtain ⟨_, _, _, _, _, _, _, _, _, _, rfl, _⟩ := h; rfl) | (obtain ⟨_, _, _, _, _, _, _, _, _, _, _, rfl, _⟩ := h; rfl) | (obtain ⟨_, _, _, _, _, _, _, _, _, _, _, _, rfl, _⟩ := h; rfl) | (obtain ⟨_, _, _, _, _, _, _, _, _, _, _, _, _, rfl, _⟩ := h; rfl) | (obtain ⟨_, _, _, _, _, _, _, _, _, _, _, _, _, _, rfl, _⟩ := h; rfl) | (obtain ⟨_, _, _, _, _, _, _, _, _, _, _, _, _, _, _, rfl, _⟩ := h; rfl)
  · refine ⟨_, (pss_cons (ps_set (i := 4) sc_law_told_of.nd rfl (Or.inl rfl) (pe_op op_add (pe_callB (len_k K) (by rfl) (T.free 0) PySem.boot_len (pa_cons (pe_ix (ix_l K) (pv 1) pe_int (fun _ _ => rfl)) pa_nil)) pe_int))
      (pss_cons (ps_set (i := 5) sc_law_told_of.nd rfl (Or.inl rfl) (pe_c (c_law_stretch_by T) hr pz (pa_cons (pv 2) (pa_cons (pv 4) pa_nil))))
      (pss_cons (ps_if (pt_cmpR op_eq (pv 3) pe_int (nomark _))
        (pss_cons (ps_set (i := 6) sc_law_told_of.nd rfl (Or.inl rfl) (pe_listRg rfl (by rfl) (T.free 51) (prg_1 (by rfl) (T.free 3) (pe_op op_sub (pv 4) pe_int))))
        (pss_one (ps_ret (pe_cmpR (eqD_k K hr.units) (pe_lc (own := [("_law_leg", 10)]) (g := gName 10) rfl sc_law_told_of.nd (pi_l K (pv 6)) (blkOk_by (N := ["_law_train", "_law_rows_here", "_law_cell", "_law_way", "_law_stops_here", "_law_stretch", "_law_legs", "_law_blocks", "_law_due", "_law_at", "_law_leg", "_law_row", "_law_seat"]) (sc := defScope s_law_told_of) (by decide +kernel)) (fun _ _ _ _ _ => pg_name (i := 10) sc_law_told_of.nd rfl (Or.inl rfl)) (fun _ _ _ _ _ => pts_nil) (fun _ _ _ _ _ => (pe_m (m_Train_load T) hr pz (pv 0) (pa_cons (pv 10) pa_nil)))) (pe_lc (own := [("_law_leg", 10)]) (g := gName 10) rfl sc_law_told_of.nd (pi_l K (pv 6)) (blkOk_by (N := ["_law_train", "_law_rows_here", "_law_cell", "_law_way", "_law_stops_here", "_law_stretch", "_law_legs", "_law_blocks", "_law_due", "_law_at", "_law_leg", "_law_row", "_law_seat"]) (sc := defScope s_law_told_of) (by decide +kernel)) (fun _ _ _ _ _ => pg_name (i := 10) sc_law_told_of.nd rfl (Or.inr rfl)) (fun _ _ _ _ _ => pts_nil) (fun _ _ _ _ _ => (pe_callB (len_k K) (by rfl) (T.free 0) PySem.boot_len (pa_cons (pe_lc (own := [("_law_row", 11)]) (g := gName 11) rfl sc_law_told_of.nd (pi_l K (pv 1)) (blkOk_in (by kernel_rfl)) (fun _ _ _ _ _ => pg_name (i := 11) sc_law_told_of.nd rfl (Or.inl rfl)) (fun _ _ _ _ _ => (pts_one (pt_cmpR op_notN1 (pe_ix (ix_l K) (pv 11) (pv 10) (fun _ _ => rfl)) pe_non (nomark _)))) (fun _ _ _ _ _ => (pv 11))) pa_nil)))) (nomark _)))))
        pss_nil)
      (pss_cons (ps_if (pt_cmpR op_eq (pv 3) pe_int (nomark _))
        (pss_cons (ps_set (i := 7) sc_law_told_of.nd rfl (Or.inl rfl) (pe_m (m_Train_blocked T) hr pz (pv 0) (pa_cons (pe_ix (ix_t K) (pv 5) pe_int (fun _ _ => rfl)) (pa_cons (pe_ix (ix_t K) (pv 5) pe_int (fun _ _ => rfl)) pa_nil))))
        (pss_cons (ps_set (i := 8) sc_law_told_of.nd rfl (Or.inl rfl) (pe_c (c_law_full T) hr pz (pa_cons (pv 1) (pa_cons (pe_ix (ix_t K) (pv 5) pe_int (fun _ _ => rfl)) (pa_cons (pe_ix (ix_t K) (pv 5) pe_int (fun _ _ => rfl)) pa_nil)))))
        (pss_one (ps_ret (pe_or (pe_and (pe_cmpR op_isN1 (pv 7) pe_non (nomark _)) (pe_one (pe_cmpR op_isN1 (pv 8) pe_non (nomark _)))) (pe_one (pe_and (pe_cmpR op_notN1 (pv 8) pe_non (nomark _)) (pe_and (pe_c (c_law_whole T) hr pz (pa_cons (pv 7) pa_nil)) (pe_one (pe_cmpR op_eq (pv 7) (pv 8) (nomark _)))))))))))
        pss_nil)
      (pss_cons (ps_if (pt_cmpR op_eq (pv 3) pe_int (nomark _))
        (pss_one (ps_ret (pe_and (pe_c (c_law_offers T) hr pz (pa_cons (pv 0) (pa_cons (pv 1) (pa_cons (pe_ix (ix_t K) (pv 5) pe_int (fun _ _ => rfl)) (pa_cons (pe_ix (ix_t K) (pv 5) pe_int (fun _ _ => rfl)) pa_nil))))) (pe_one (pe_c (c_law_offers T) hr pz (pa_cons (pv 0) (pa_cons (pv 1) (pa_cons pe_int (pa_cons (pe_op op_sub (pv 4) pe_int) pa_nil)))))))))
        pss_nil)
      (pss_cons (ps_set (i := 9) sc_law_told_of.nd rfl (Or.inr rfl) (pe_c (c_law_mixed T) hr pz (pa_cons (pv 2) (pa_cons pe_int (pa_cons (pv 4) pa_nil)))))
      (pss_one (ps_ret (pe_cmpR (eqD_k K hr.units) (pe_lc (own := [("_law_seat", 12)]) (g := gName 12) rfl sc_law_told_of.nd (pi_range1 (by rfl) (T.free 3) (pa_cons (pe_callB (len_k K) (by rfl) (T.free 0) PySem.boot_len (pa_cons (pv 1) pa_nil)) pa_nil)) (blkOk_by (N := ["_law_train", "_law_rows_here", "_law_cell", "_law_way", "_law_stops_here", "_law_stretch", "_law_legs", "_law_blocks", "_law_due", "_law_at", "_law_leg", "_law_row", "_law_seat"]) (sc := defScope s_law_told_of) (by decide +kernel)) (fun _ _ _ _ _ => pg_name (i := 12) sc_law_told_of.nd rfl (Or.inl rfl)) (fun _ _ _ _ _ => pts_nil) (fun _ _ _ _ _ => (pe_m (m_Train_farthest T) hr pz (pv 0) (pa_cons (pv 12) (pa_cons (pv 9) pa_nil))))) (pe_lc (own := [("_law_row", 11)]) (g := gName 11) rfl sc_law_told_of.nd (pi_l K (pv 1)) (blkOk_by (N := ["_law_train", "_law_rows_here", "_law_cell", "_law_way", "_law_stops_here", "_law_stretch", "_law_legs", "_law_blocks", "_law_due", "_law_at", "_law_leg", "_law_row", "_law_seat"]) (sc := defScope s_law_told_of) (by decide +kernel)) (fun _ _ _ _ _ => pg_name (i := 11) sc_law_told_of.nd rfl (Or.inl rfl)) (fun _ _ _ _ _ => pts_nil) (fun _ _ _ _ _ => (pe_c (c_law_reach T) hr pz (pa_cons (pv 11) (pa_cons (pv 9) pa_nil))))) (nomark _)))))))))), ?_⟩
    obtain ⟨S, p, T0, r, as, c, way, rfl, A0, G0, q⟩ := h
    have wf := A0.wf
    have w1 := wf.s1
    have w2 := wf.s2
    have w3 := wf.t1
    have w4 := wf.t2
    have g0 := List.getElem?_eq_getElem (l := T0.rows) (i := 0) w1
    obtain ⟨a0, ha0, hrow0⟩ := G0.row.right g0
    have hl0 : (T0.rows[0].map oV).length = T0.stops - 1 := by rw [List.length_map]; exact wf.legs _ (List.getElem_mem w1)
    have has : (as.map V.ref).length = T0.rows.length := by rw [List.length_map, G0.row.len]
    have est : ((T0.stops - 1 : Nat) : Int) + 1 = (T0.stops : Int) := by omega
    refine ⟨_, rfl, r, _, _, .ref a0, rfl, rfl, SqL.of G0.top, at_of (j := 0) rfl (map_get ha0), a0, _, rfl, .inl (SqL.of hrow0), _, _, rfl, rfl, ?_⟩
    rw [hl0]
    show gName 4 (V.int (((T0.stops - 1 : Nat) : Int) + 1)) _ _ _
    rw [est]
    refine ⟨_, rfl, _, rfl, c, T0.stops, rfl, w3, fun H1 t b e e1 ht hbe hen => ?_⟩
    have A1 := A0.ex e1
    have G1 := G0.mono e1
    obtain ⟨dx, r1, d1, hp1⟩ := A1.ins
    refine ⟨_, rfl, rfl, _, rfl, ?_⟩
    refine iteD (fun _ => ?_) (fun _ => ?_)
    · refine ⟨_, rfl, _, _, rfl, rfl, _, rfl, RgOk.of_le (by omega) (by omega) (by omega) (by omega), fun lq fq => ?_⟩
      have hrg : rgV 0 ((T0.stops : Int) - 1) = (List.range (T0.stops - 1)).map fun k => V.int (0 + (k : Nat)) := by
        unfold rgV
        rw [show ((T0.stops : Int) - 1 - 0).toNat = T0.stops - 1 by omega]
      rw [hrg]
      have x1 := Evl.Ex.new (o := .lst ((List.range (T0.stops - 1)).map fun k => V.int (0 + (k : Nat)))) fq
      have hll : ((List.range (T0.stops - 1)).map fun k => V.int (0 + (k : Nat))).length = T0.stops - 1 := by rw [List.length_map, List.length_range]
      have xis : ∀ (k : Nat) (x : V), ((List.range (T0.stops - 1)).map fun k => V.int (0 + (k : Nat)))[k]? = some x → k < T0.stops - 1 ∧ x = .int (k : Int) := fun k x hx => by
        obtain ⟨y, hy, rfl⟩ := map_back hx
        have hk := lt_of_get hy
        rw [List.length_range] at hk
        rw [List.getElem?_range hk] at hy
        cases hy
        exact ⟨hk, by rw [Int.zero_add]⟩
      refine ⟨_, rfl, lq, rfl, ⟨_, SqL.of upd_same⟩, fun D hD => ?_⟩
      refine lc_v (walk_list (K := K) (a := lq) (xs := (List.range (T0.stops - 1)).map fun k => V.int (0 + (k : Nat)))) y_list hD (fun H2 e2 => SqL.of (e2 _ _ upd_same)) (by rw [hll]; omega) (fun _ => true) (fun k => .int (load T0.rows k)) (fun _ => rfl) lc_yes ?_ ?_
      · intro k x H2 hk hx _ e2 Q2 q2
        obtain ⟨hk2, rfl⟩ := xis k x hx
        have A2 := A1.ex (x1.trans e2)
        obtain ⟨dx, r2, d2, hp2⟩ := A2.ins
        exact ⟨_, rfl, p, _, _, rfl, hp2, nf_load, _, rfl, S, p, T0, (k : Int), rfl, A2, fun _ H3 e3 => q2 H3 e3, fun hb => absurd ⟨by omega, by omega⟩ hb⟩
      intro H2 e2 hD2
      rw [kept_all, hll] at hD2
      have hlq := e2 _ _ (upd_same (H := H1) (a := lq) (o := .lst ((List.range (T0.stops - 1)).map fun k => V.int (0 + (k : Nat)))))
      refine ⟨_, rfl, lq, rfl, ⟨_, SqL.of hlq⟩, fun D2 fD2 => ?_⟩
      have G2 := G1.mono (x1.trans e2)
      refine lc_v (walk_list (K := K) (a := lq) (xs := (List.range (T0.stops - 1)).map fun k => V.int (0 + (k : Nat)))) y_list fD2 (fun H3 e3 => SqL.of (e3 _ _ hlq)) (by rw [hll]; omega) (fun _ => true) (fun k => .int (load T0.rows k)) (fun _ => rfl) lc_yes ?_ ?_
      · intro k x H3 hk hx _ e3 Q2 q2
        obtain ⟨hk2, rfl⟩ := xis k x hx
        have G3 := G2.mono e3
        refine ⟨_, rfl, r, rfl, ⟨_, SqL.of G3.top⟩, fun D3 fD3 => ?_⟩
        refine lc_load fD3 G3 (by omega) k (fun row m => by rw [wf.legs row m]; exact hk2) (fun _ => rfl) (fun a row h H4 hr2 hc Q3 k3 => ?_) (fun a H4 Q3 k3 => ⟨_, rfl, k3⟩) ?_
        · refine ⟨_, rfl, _, rfl, a, _, _, oV h, rfl, rfl, SqL.of hr2, at_of (j := k) rfl (map_get hc), rfl, _, rfl, ?_⟩
          rw [oV_some]
          exact k3
        intro H4 ys e4 hD4 hyl
        refine ⟨D3, ys, rfl, .inl (SqL.of hD4), ?_⟩
        rw [hyl]
        exact q2 H4 e4
      intro H3 e3 hD3
      rw [kept_all, hll] at hD3
      have ei : (List.range (T0.stops - 1)).map (fun k => V.int (load T0.rows k : Int)) = ((List.range (T0.stops - 1)).map fun k => (load T0.rows k : Int)).map V.int := by rw [List.map_map]; rfl
      rw [ei] at hD2 hD3
      refine req_of (Enc.list enc_int) (by decide) (dp_ints (e3 _ _ hD2)) (dp_ints hD3) ?_
      rw [decide_eq_true rfl]
      exact q H3 (e1.trans (x1.trans (e2.trans e3)))
    refine ⟨_, rfl, rfl, _, rfl, ?_⟩
    refine iteD (fun _ => ?_) (fun _ => ?_)
    · refine ⟨_, rfl, p, _, _, rfl, hp1, nf_blocked, _, rfl, t, _, _, _, rfl, rfl, SqT.of ht, at_of (j := 0) rfl rfl, _, rfl, t, _, _, _, rfl, rfl, SqT.of ht, at_of (j := 1) rfl rfl, S, p, T0, (b : Int), (e : Int), rfl, A1, fun _ H2 e2 => ?_, fun hb => absurd ⟨by omega, by omega, by omega⟩ hb⟩
      have ht2 := e2 _ _ ht
      refine ⟨_, rfl, _, rfl, t, _, _, _, rfl, rfl, SqT.of ht2, at_of (j := 0) rfl rfl, _, rfl, t, _, _, _, rfl, rfl, SqT.of ht2, at_of (j := 1) rfl rfl, r, as, T0.rows, b, e, rfl, G1.mono e2, by omega, by omega, by omega, fun row m => by rw [wf.legs row m]; omega, fun H3 e3 => ?_⟩
      have fin := q H3 (e1.trans (e2.trans e3))
      have eff : firstFull T0.rows (b : Int).toNat (e : Int).toNat = firstFull T0.rows b e := rfl
      rw [eff]
      cases hf : firstFull T0.rows b e with
      | none =>
        refine ⟨_, rfl, rfl, _, rfl, iteD (fun _ => ?_) (fun hn => absurd rfl hn)⟩
        refine ⟨_, rfl, rfl, _, rfl, iteD (fun _ => ?_) (fun hn => absurd rfl hn)⟩
        exact fin
      | some f =>
        refine ⟨_, rfl, rfl, _, rfl, iteD (fun z => (by cases z)) (fun _ => ?_)⟩
        refine ⟨_, rfl, iteF ?_⟩
        refine ⟨_, rfl, rfl, _, rfl, iteN (fun _ => ?_) (fun z => (by cases z))⟩
        refine ⟨_, rfl, _, rfl, .inr (.inr (.inl ⟨_, rfl⟩)), _, rfl, iteT ?_⟩
        refine ⟨_, rfl, _, rfl, rfl, ?_⟩
        rw [decide_eq_true rfl]
        exact fin
    refine ⟨_, rfl, rfl, _, rfl, ?_⟩
    refine iteD (fun _ => ?_) (fun _ => ?_)
    · refine ⟨_, rfl, _, rfl, _, rfl, t, _, _, _, rfl, rfl, SqT.of ht, at_of (j := 0) rfl rfl, _, rfl, t, _, _, _, rfl, rfl, SqT.of ht, at_of (j := 1) rfl rfl, S, p, T0, r, as, b, e, rfl, A1, G1, hbe, hen, fun H2 e2 => ⟨_, rfl, iteT ?_⟩⟩
      refine ⟨_, rfl, _, rfl, _, rfl, _, _, rfl, rfl, S, p, T0, r, as, 0, T0.stops - 1, ?_, A1.ex e2, G1.mono e2, by omega, by omega, fun H3 e3 => q H3 (e1.trans (e2.trans e3))⟩
      rw [show ((T0.stops - 1 : Nat) : Int) = (T0.stops : Int) - 1 by omega]
      rfl
    refine ⟨_, rfl, _, rfl, c, 6, (T0.stops : Int), rfl, by omega, fun v H2 hv e2 => ?_⟩
    have A2 := A1.ex e2
    have G2 := G1.mono e2
    refine ⟨_, rfl, r, _, rfl, .inl (SqL.of G2.top), _, rfl, by omega, by omega, fun D hD => ?_⟩
    rw [has]
    have vv : ∀ (k : Nat) (row : List (Option Nat)), T0.rows[k]? = some row → V.int (((T0.rows[k]?).map fun row => (reach row v : Int)).getD 0) = V.int (reach row v : Int) := fun k row hk => by rw [hk]; rfl
    refine lc_v walk_range y_range hD (fun _ _ => trivial) (by omega) (fun _ => true) (fun k => .int (((T0.rows[k]?).map fun row => (reach row v : Int)).getD 0)) (fun _ => rfl) lc_yes ?_ ?_
    · rintro k x H3 hk rfl _ e3 Q2 q2
      have hk2 : k < T0.rows.length := by omega
      have gk := List.getElem?_eq_getElem hk2
      have q3 := q2 H3 (Evl.Ex.refl H3)
      rw [vv k _ gk] at q3
      have A3 := A2.ex e3
      obtain ⟨dx, r3, d3, hp3⟩ := A3.ins
      have ez : (0 : Int) + (k : Int) = (k : Int) := Int.zero_add _
      refine ⟨_, rfl, p, _, _, rfl, hp3, nf_farthest, _, rfl, _, rfl, S, p, T0, (k : Int), (v : Int), by rw [ez], A3, fun row hr hh => ?_, fun hb => absurd ⟨by omega, by omega⟩ hb, fun _ hb => absurd ⟨by omega, by omega⟩ hb⟩
      have er : row = T0.rows[k] := by
        have := hr.2
        rw [Int.toNat_natCast, gk] at this
        exact (Option.some.inj this).symm
      rw [er]
      exact q3
    intro H3 e3 hD3
    rw [kept_all] at hD3
    refine ⟨_, rfl, r, rfl, ⟨_, sqL_of G2.top e3⟩, fun D2 fD2 => ?_⟩
    refine lc_v (walk_list (K := K) (a := r) (xs := as.map V.ref)) y_list fD2 (fun H4 e4 => sqL_of G2.top (e3.trans e4)) (by rw [has]; omega) (fun _ => true) (fun k => .int (((T0.rows[k]?).map fun row => (reach row v : Int)).getD 0)) (fun _ => rfl) lc_yes ?_ ?_
    · intro k x H4 hk hx _ e4 Q2 q2
      obtain ⟨a, ha, rfl⟩ := map_back hx
      obtain ⟨row, hrow, hr2⟩ := G2.row.left ha
      have q3 := q2 H4 (Evl.Ex.refl H4)
      rw [vv k _ hrow] at q3
      exact ⟨_, rfl, _, rfl, a, row, v, rfl, SqL.of (e4 _ _ (e3 _ _ hr2)), q3⟩
    intro H4 e4 hD4
    rw [kept_all, has] at hD4
    have ei : (List.range T0.rows.length).map (fun k => V.int (((T0.rows[k]?).map fun row => (reach row v : Int)).getD 0)) = ((List.range T0.rows.length).map fun k => ((T0.rows[k]?).map fun row => (reach row v : Int)).getD 0).map V.int := by rw [List.map_map]; rfl
    have hn0 : ((T0.rows.length : Nat) : Int).toNat = T0.rows.length := by omega
    rw [hn0, ei] at hD3
    rw [ei] at hD4
    refine req_of (Enc.list enc_int) (by decide) (dp_ints (e4 _ _ hD3)) (dp_ints hD4) ?_
    rw [decide_eq_true rfl]
    exact q H4 (e1.trans (e2.trans (e3.trans e4)))
theorem sc_law_tells : FnScope ["_law_train", "_law_world_here", "_law_cell", "_law_order", "_law_way"] ["_law_train", "_law_world_here", "_law_cell"] (defScope s_law_tells) := ⟨rfl, rfl, rfl, by decide +kernel, rfl, by decide +kernel, by decide +kernel⟩
theorem c_law_tells (T : Tx K mg) : Cal P w K mg base 8 "_law_tells" (spTells K) := by
  refine T.cal 55 107 rfl rfl sc_law_tells (fun _ _ _ _ _ _ us hl => match us, hl with | [_, _, _], _ => rfl) (fun vs H Q E h => ?_) fun cdv A outer s H vs Q E hr h => ?_
  · first | (obtain ⟨_, rfl, _⟩ := h; rfl) | (obtain ⟨_, _, rfl, _⟩ := h; rfl) | (obtain ⟨_, _, _, rfl, _⟩ := h; rfl) | (obtain ⟨_, _, _, _, rfl, _⟩ := h; rfl) | (obtain ⟨_, _, _, _, _, rfl, _⟩ := h; rfl) | (obtain ⟨_, _, _, _, _, _, rfl, _⟩ := h; rfl) | (obtain ⟨_, _, _, _, _, _, _, rfl, _⟩ := h; rfl) | (obtain ⟨_, _, _, _, _, _, _, _, rfl, _⟩ := h; rfl) | (obtain ⟨_, _, _, _, _, _, _, _, _, rfl, _⟩ := h; rfl) | (obtain ⟨_, _, _, _, _, _, _, _, _, _, rfl, _⟩ := h; rfl) | (obtain ⟨_, _, _, _, _, _, _, _, _, _, _, rfl, _⟩ := h; rfl) | (obtain ⟨_, _, _, _, _, _, _, _, _, _, _, _, rfl, _⟩ := h; rfl) | (obtain ⟨_, _, _, _, _, _, _, _, _, _, _, _, _, rfl, _⟩ := h; rfl) | (obtain ⟨_, _, _, _, _, _, _, _, _, _, _, _, _, _, rfl, _⟩ := h; rfl) | (obtain ⟨_, _, _, _, _, _, _, _, _, _, _, _, _, _, _, rfl, _⟩ := h; rfl)
  · refine ⟨_, (pss_cons (ps_set (i := 3) sc_law_tells.nd rfl (Or.inl rfl) (pe_ix (ix_l K) (pe_lst (pa_cons (pe_lst (pa_cons pe_int (pa_cons pe_int (pa_cons pe_int (pa_cons pe_int pa_nil))))) (pa_cons (pe_lst (pa_cons pe_int (pa_cons pe_int (pa_cons pe_int (pa_cons pe_int pa_nil))))) (pa_cons (pe_lst (pa_cons pe_int (pa_cons pe_int (pa_cons pe_int (pa_cons pe_int pa_nil))))) (pa_cons (pe_lst (pa_cons pe_int (pa_cons pe_int (pa_cons pe_int (pa_cons pe_int pa_nil))))) pa_nil))))) (pe_c (c_law_mixed T) hr pz (pa_cons (pv 2) (pa_cons pe_int (pa_cons pe_int pa_nil)))) (fun _ _ => rfl)))
      (pss_one (ps_ret (pe_callB (all_k K rfl) (by rfl) (T.free 37) (by decide +kernel) (pa_cons (pe_lc (own := [("_law_way", 4)]) (g := gName 4) rfl sc_law_tells.nd (pi_l K (pv 3)) (blkOk_by (N := ["_law_train", "_law_world_here", "_law_cell", "_law_order", "_law_way"]) (sc := defScope s_law_tells) (by decide +kernel)) (fun _ _ _ _ _ => pg_name (i := 4) sc_law_tells.nd rfl (Or.inl rfl)) (fun _ _ _ _ _ => pts_nil) (fun _ _ _ _ _ => (pe_c (c_law_told_of T) hr pz (pa_cons (pv 0) (pa_cons (pe_ix (ix_l K) (pv 1) pe_int (fun _ _ => rfl)) (pa_cons (pe_op op_add (pv 2) (pe_op op_mul pe_int (pv 4))) (pa_cons (pv 4) pa_nil))))))) pa_nil))))), ?_⟩
    obtain ⟨S, U, p, w, T0, c, rfl, A0, W0, q⟩ := h
    have s4 : 4 ≤ sizeLine := by decide
    refine ⟨s4, fun l1 f1 => ?_⟩
    refine ⟨s4, fun l2 f2 => ?_⟩
    refine ⟨s4, fun l3 f3 => ?_⟩
    refine ⟨s4, fun l4 f4 => ?_⟩
    refine ⟨s4, fun l5 f5 => ?_⟩
    have x1 := Evl.Ex.new (o := .lst [.int 0, .int 1, .int 2, .int 3]) f1
    have x2 := Evl.Ex.new (o := .lst [.int 3, .int 1, .int 0, .int 2]) f2
    have x3 := Evl.Ex.new (o := .lst [.int 2, .int 0, .int 3, .int 1]) f3
    have x4 := Evl.Ex.new (o := .lst [.int 1, .int 2, .int 3, .int 0]) f4
    have x5 := Evl.Ex.new (o := .lst [.ref l1, .ref l2, .ref l3, .ref l4]) f5
    refine ⟨_, rfl, c, 7, 4, rfl, by decide, fun v H2 hv e2 => ?_⟩
    have X : Ex H H2 := x1.trans (x2.trans (x3.trans (x4.trans (x5.trans e2))))
    obtain ⟨ov, hov, lo, ks, rfl, hlo, hks⟩ := at_lt (xs := [.ref l1, .ref l2, .ref l3, .ref l4]) (P := fun x => ∃ (l : Addr) (ks : List Int), x = .ref l ∧ H2 l = some (.lst (ks.map V.int)) ∧ ks.length = 4) (fun x m => by
      simp only [List.mem_cons, List.not_mem_nil, or_false] at m
      rcases m with rfl | rfl | rfl | rfl
      · exact ⟨_, [0, 1, 2, 3], rfl, (x2.trans (x3.trans (x4.trans (x5.trans e2)))) _ _ upd_same, rfl⟩
      · exact ⟨_, [3, 1, 0, 2], rfl, (x3.trans (x4.trans (x5.trans e2))) _ _ upd_same, rfl⟩
      · exact ⟨_, [2, 0, 3, 1], rfl, (x4.trans (x5.trans e2)) _ _ upd_same, rfl⟩
      · exact ⟨_, [1, 2, 3, 0], rfl, (x5.trans e2) _ _ upd_same, rfl⟩) (v := v) (by show v < 4; omega)
    refine ⟨l5, _, _, _, rfl, rfl, SqL.of (e2 _ _ upd_same), at_of (j := v) rfl hov, ?_⟩
    have A2 := A0.ex X
    have W2 := W0.ex X
    refine ⟨_, rfl, lo, rfl, ⟨_, SqL.of hlo⟩, fun D hD => ?_⟩
    have hkl : (ks.map V.int).length = 4 := by rw [List.length_map, hks]
    refine lc_v (walk_list (K := K) (a := lo) (xs := ks.map V.int)) y_list hD (fun H3 e3 => SqL.of (e3 _ _ hlo)) (by rw [hkl]; decide) (fun _ => true) (fun _ => .bl true) (fun _ => rfl) lc_yes ?_ ?_
    · intro k x H3 hk hx _ e3 Q2 q2
      obtain ⟨i, _, rfl⟩ := map_back hx
      have W3 := W2.ex e3
      obtain ⟨r, so, pa, as, ls, R, hU⟩ := id W3
      exact ⟨_, rfl, _, rfl, w, _, _, .ref r, rfl, rfl, SqL.of R.hw, at_of (j := 0) rfl rfl, _, rfl, _, rfl, _, _, rfl, rfl, .inl ⟨by decide, by decide⟩, _, _, rfl, rfl, _, rfl, S, p, T0, r, as, _, _, rfl, A2.ex e3, R.grid, q2⟩
    intro H3 e3 hD3
    rw [kept_all] at hD3
    refine ⟨D, (List.range (ks.map V.int).length).map fun _ => true, rfl, SqL.of (by rw [hD3, List.map_map]; rfl), ?_⟩
    have hall : ((List.range (ks.map V.int).length).map fun _ => true).all id = true := by
      rw [List.all_map]
      exact List.all_eq_true.mpr fun _ _ => rfl
    rw [hall]
    exact q H3 (X.trans e3)
theorem sc_law_numbers : FnScope ["_law_found_here", "_law_due", "_law_k"] ["_law_found_here", "_law_due"] (defScope s_law_numbers) := ⟨rfl, rfl, rfl, by decide +kernel, rfl, by decide +kernel, by decide +kernel⟩
theorem c_law_numbers (T : Tx K mg) : Cal P w K mg base 2 "_law_numbers" (spNumbers K) := by
  refine T.cal 56 108 rfl rfl sc_law_numbers (fun _ _ _ _ _ _ us hl => match us, hl with | [_, _], _ => rfl) (fun vs H Q E h => ?_) fun cdv A outer s H vs Q E hr h => ?_
  · first | (obtain ⟨_, rfl, _⟩ := h; rfl) | (obtain ⟨_, _, rfl, _⟩ := h; rfl) | (obtain ⟨_, _, _, rfl, _⟩ := h; rfl) | (obtain ⟨_, _, _, _, rfl, _⟩ := h; rfl) | (obtain ⟨_, _, _, _, _, rfl, _⟩ := h; rfl) | (obtain ⟨_, _, _, _, _, _, rfl, _⟩ := h; rfl) | (obtain ⟨_, _, _, _, _, _, _, rfl, _⟩ := h; rfl) | (obtain ⟨_, _, _, _, _, _, _, _, rfl, _⟩ := h; rfl) | (obtain ⟨_, _, _, _, _, _, _, _, _, rfl, _⟩ := h; rfl) | (obtain ⟨_, _, _, _, _, _, _, _, _, _, rfl, _⟩ := h; rfl) | (obtain ⟨_, _, _, _, _, _, _, _, _, _, _, rfl, _⟩ := h; rfl) | (obtain ⟨_, _, _, _, _, _, _, _, _, _, _, _, rfl, _⟩ := h; rfl) | (obtain ⟨_, _, _, _, _, _, _, _, _, _, _, _, _, rfl, _⟩ := h; rfl) | (obtain ⟨_, _, _, _, _, _, _, _, _, _, _, _, _, _, rfl, _⟩ := h; rfl) | (obtain ⟨_, _, _, _, _, _, _, _, _, _, _, _, _, _, _, rfl, _⟩ := h; rfl)
  · refine ⟨_, (pss_cons (ps_if (PW.pt (pw_or (pt_not (pt_val (pe_callB (isi_k K) (by rfl) (T.free 1) (by decide +kernel) (pa_cons (pv 0) (pa_cons (pe_bltn (v := .ty "list") rfl (T.free 51) (by decide +kernel) rfl) pa_nil))))) (pw_or1 (pt_cmpR op_ne (pe_callB (len_k K) (by rfl) (T.free 0) PySem.boot_len (pa_cons (pv 0) pa_nil)) (pe_callB (len_k K) (by rfl) (T.free 0) PySem.boot_len (pa_cons (pv 1) pa_nil)) (nomark _)))))
        (pss_one (ps_ret pe_bl))
        pss_nil)
      (pss_cons (ps_for (passes_of rfl) rfl (pi_range1 (by rfl) (T.free 3) (pa_cons (pe_callB (len_k K) (by rfl) (T.free 0) PySem.boot_len (pa_cons (pv 1) pa_nil)) pa_nil)) (pg_name (i := 2) sc_law_numbers.nd rfl (Or.inl rfl))
        (pss_one (ps_if (PW.pt (pw_or (pt_not (pt_val (pe_c (c_law_whole T) hr pz (pa_cons (pe_ix (ix_l K) (pv 0) (pv 2) (fun _ _ => rfl)) pa_nil)))) (pw_or1 (pt_cmpR op_ne (pe_ix (ix_l K) (pv 0) (pv 2) (fun _ _ => rfl)) (pe_ix (ix_l K) (pv 1) (pv 2) (fun _ _ => rfl)) (nomark _)))))
          (pss_one (ps_ret pe_bl))
          pss_nil)))
      (pss_one (ps_ret pe_bl)))), ?_⟩
    obtain ⟨f, d, ns, ms, rfl, hf, hd, hl1, hl2, q⟩ := h
    refine ⟨_, rfl, _, .ty "list", _, _, true, rfl, .ty _, .base (.lst hf), kit_ty (by decide +kernel), _, rfl, ?_⟩
    refine iteF ?_
    refine ⟨_, rfl, f, _, rfl, .inl (SqL.of hf), _, rfl, d, _, rfl, .inl (SqL.of hd), rfl, _, rfl, ?_⟩
    rw [List.length_map, List.length_map]
    refine iteN (fun h1 => ?_) (fun h1 => ?_)
    · have hne : ns ≠ ms := fun z => h1 (by rw [z])
      rw [decide_eq_false hne] at q
      exact q
    have hlen : ns.length = ms.length := by
      have := V.int.inj h1
      omega
    refine ⟨_, rfl, d, _, rfl, .inl (SqL.of hd), _, rfl, by rw [List.length_map]; omega, by rw [List.length_map]; omega, for_range (lo := 0) (n := ((ms.map V.int).length : Int).toNat) (fun i σ H' => H' = H ∧ (∃ v, σ = [some (.ref f), some (.ref d), v]) ∧ ns.take i = ms.take i)
      ⟨rfl, ⟨none, rfl⟩, rfl⟩ ?_ ?_⟩
    · rintro i σ H' hi ⟨rfl, ⟨v, rfl⟩, ht⟩
      have hi2 : i < ms.length := by
        rw [List.length_map] at hi
        omega
      have hi1 : i < ns.length := by omega
      have e1 := List.getElem?_eq_getElem hi1
      have e2 := List.getElem?_eq_getElem hi2
      have ez : (0 : Int) + (i : Int) = (i : Int) := Int.zero_add _
      refine ⟨_, rfl, _, rfl, f, _, _, .int ns[i], rfl, rfl, SqL.of hf, at_of (j := i) ez (map_get e1), .int ns[i], rfl, .inr (.inr (.inl ⟨_, rfl⟩)), _, rfl, ?_⟩
      refine iteF ?_
      refine ⟨_, rfl, _, rfl, f, _, _, .int ns[i], rfl, rfl, SqL.of hf, at_of (j := i) ez (map_get e1), _, rfl, _, rfl, d, _, _, .int ms[i], rfl, rfl, SqL.of hd, at_of (j := i) ez (map_get e2), rfl, _, rfl, ?_⟩
      refine iteN (fun h2 => ?_) (fun h2 => ?_)
      · have hne : ns ≠ ms := fun z => h2 (by
          have e3 : ns[i]? = ms[i]? := by rw [z]
          rw [e1, e2] at e3
          rw [Option.some.inj e3])
        rw [decide_eq_false hne] at q
        exact q
      · refine ⟨rfl, ⟨_, rfl⟩, ?_⟩
        rw [List.take_succ_eq_append_getElem hi1, List.take_succ_eq_append_getElem hi2, ht, V.int.inj h2]
    · rintro σ H' ⟨rfl, ⟨v, rfl⟩, ht⟩
      have he : ns = ms := by
        rw [List.length_map] at ht
        have e3 : ((ms.length : Int)).toNat = ms.length := by omega
        rw [e3, List.take_length, ← hlen, List.take_length] at ht
        exact ht
      rw [decide_eq_true he] at q
      exact q
theorem sc_Train_holder : FnScope ["self", "seat", "leg"] ["self", "seat", "leg"] (defScope s_Train_holder) := ⟨rfl, rfl, rfl, by decide +kernel, rfl, by decide +kernel, by decide +kernel⟩
theorem m_Train_holder (T : Tx K mg) : Met P w K mg base 2 (He.ga K "Train") "holder" (spHolder K) := by
  refine T.met 57 109 15 rfl rfl rfl sc_Train_holder (fun _ _ _ _ _ _ us hl => match us, hl with | [_, _, _], _ => rfl) (fun vs H Q E h => ?_) fun cdv A outer s H vs Q E hr h => ?_
  · first | (obtain ⟨_, rfl, _⟩ := h; rfl) | (obtain ⟨_, _, rfl, _⟩ := h; rfl) | (obtain ⟨_, _, _, rfl, _⟩ := h; rfl) | (obtain ⟨_, _, _, _, rfl, _⟩ := h; rfl) | (obtain ⟨_, _, _, _, _, rfl, _⟩ := h; rfl) | (obtain ⟨_, _, _, _, _, _, rfl, _⟩ := h; rfl) | (obtain ⟨_, _, _, _, _, _, _, rfl, _⟩ := h; rfl) | (obtain ⟨_, _, _, _, _, _, _, _, rfl, _⟩ := h; rfl) | (obtain ⟨_, _, _, _, _, _, _, _, _, rfl, _⟩ := h; rfl) | (obtain ⟨_, _, _, _, _, _, _, _, _, _, rfl, _⟩ := h; rfl) | (obtain ⟨_, _, _, _, _, _, _, _, _, _, _, rfl, _⟩ := h; rfl) | (obtain ⟨_, _, _, _, _, _, _, _, _, _, _, _, rfl, _⟩ := h; rfl) | (obtain ⟨_, _, _, _, _, _, _, _, _, _, _, _, _, rfl, _⟩ := h; rfl) | (obtain ⟨_, _, _, _, _, _, _, _, _, _, _, _, _, _, rfl, _⟩ := h; rfl) | (obtain ⟨_, _, _, _, _, _, _, _, _, _, _, _, _, _, _, rfl, _⟩ := h; rfl)
  · refine ⟨_, (pss_cons (ps_expr (pe_m (m_Train_need_seat T) hr (pr (takes_of rfl rfl rfl rfl)) (pv 0) (pa_cons (pv 1) pa_nil)))
      (pss_cons (ps_expr (pe_m (m_Train_need_leg T) hr (pr (takes_of rfl rfl rfl rfl)) (pv 0) (pa_cons (pv 2) pa_nil)))
      (pss_one (ps_ret (pe_ix (ix_l K) (pe_ix (ix_l K) (fld_k K (pv 0) rfl) (pv 1) (fun _ _ => rfl)) (pv 2) (fun _ _ => rfl)))))), ?_⟩
    obtain ⟨S, p, T0, s, t, rfl, A0, q1, q2, q3⟩ := h
    obtain ⟨r, d, as, ls, R, z⟩ := id A0
    obtain ⟨dx, hp⟩ := R.ins
    refine ⟨_, rfl, _, _, _, rfl, hp, trF_no (by decide +kernel) (by decide +kernel) (by decide +kernel) (by decide +kernel), _, rfl, S, p, T0, s, rfl, A0, fun hs => ?_, q2⟩
    refine ⟨_, rfl, _, _, _, rfl, hp, trF_no (by decide +kernel) (by decide +kernel) (by decide +kernel) (by decide +kernel), _, rfl, S, p, T0, t, rfl, A0, fun ht => ?_, q3 hs⟩
    have hi : s.toNat < T0.rows.length := by omega
    have hrow := List.getElem?_eq_getElem hi
    obtain ⟨a, ha, hr2⟩ := R.grid.row.right hrow
    have hlr : t.toNat < T0.rows[s.toNat].length := by
      rw [R.wf.legs _ (List.mem_of_getElem? hrow)]
      have := R.wf.t1
      omega
    have hc := List.getElem?_eq_getElem hlr
    exact ⟨_, rfl, p, _, dx, _, _, rfl, hp, (T.cls 15), (T.noat 17), lk_rows, _, rfl, r, _, _, .ref a, rfl, rfl, SqL.of R.grid.top, at_of (j := s.toNat) (by omega) (map_get ha), _, rfl, a, _, _, _, rfl, rfl, SqL.of hr2, at_of (j := t.toNat) (by omega) (map_get hc), q1 _ _ ⟨hs.1, hrow⟩ ⟨ht.1, hc⟩⟩
theorem sc_law_like : FnScope ["_law_train", "_law_world_here", "_law_stops_here", "_law_k", "_law_seat", "_law_leg", "_law_held"] ["_law_train", "_law_world_here"] (defScope s_law_like) := ⟨rfl, rfl, rfl, by decide +kernel, rfl, by decide +kernel, by decide +kernel⟩
theorem c_law_like (T : Tx K mg) : Cal P w K mg base 3 "_law_like" (spLike K) := by
  refine T.cal 58 110 rfl rfl sc_law_like (fun _ _ _ _ _ _ us hl => match us, hl with | [_, _], _ => rfl) (fun vs H Q E h => ?_) fun cdv A outer s H vs Q E hr h => ?_
  · first | (obtain ⟨_, rfl, _⟩ := h; rfl) | (obtain ⟨_, _, rfl, _⟩ := h; rfl) | (obtain ⟨_, _, _, rfl, _⟩ := h; rfl) | (obtain ⟨_, _, _, _, rfl, _⟩ := h; rfl) | (obtain ⟨_, _, _, _, _, rfl, _⟩ := h; rfl) | (obtain ⟨_, _, _, _, _, _, rfl, _⟩ := h; rfl) | (obtain ⟨_, _, _, _, _, _, _, rfl, _⟩ := h; rfl) | (obtain ⟨_, _, _, _, _, _, _, _, rfl, _⟩ := h; rfl) | (obtain ⟨_, _, _, _, _, _, _, _, _, rfl, _⟩ := h; rfl) | (obtain ⟨_, _, _, _, _, _, _, _, _, _, rfl, _⟩ := h; rfl) | (obtain ⟨_, _, _, _, _, _, _, _, _, _, _, rfl, _⟩ := h; rfl) | (obtain ⟨_, _, _, _, _, _, _, _, _, _, _, _, rfl, _⟩ := h; rfl) | (obtain ⟨_, _, _, _, _, _, _, _, _, _, _, _, _, rfl, _⟩ := h; rfl) | (obtain ⟨_, _, _, _, _, _, _, _, _, _, _, _, _, _, rfl, _⟩ := h; rfl) | (obtain ⟨_, _, _, _, _, _, _, _, _, _, _, _, _, _, _, rfl, _⟩ := h; rfl)
  · refine ⟨_, (pss_cons (ps_set (i := 2) sc_law_like.nd rfl (Or.inl rfl) (pe_op op_add (pe_callB (len_k K) (by rfl) (T.free 0) PySem.boot_len (pa_cons (pe_ix (ix_l K) (pe_ix (ix_l K) (pv 1) pe_int (fun _ _ => rfl)) pe_int (fun _ _ => rfl)) pa_nil)) pe_int))
      (pss_cons (ps_if (PW.pt (pw_or (pt_cmpR (neD_k K hr.units) (pe_m0 (m_Train_size T) hr pz (pv 0)) (pe_tup (pa_cons (pe_callB (len_k K) (by rfl) (T.free 0) PySem.boot_len (pa_cons (pe_ix (ix_l K) (pv 1) pe_int (fun _ _ => rfl)) pa_nil)) (pa_cons (pv 2) pa_nil))) (nomark _)) (pw_or1 (pt_not (pt_val (pe_c (c_law_numbers T) hr pz (pa_cons (pe_m0 (m_Train_tickets T) hr pz (pv 0)) (pa_cons (pe_ix (ix_l K) (pv 1) pe_int (fun _ _ => rfl)) pa_nil))))))))
        (pss_one (ps_ret pe_bl))
        pss_nil)
      (pss_cons (ps_for (passes_of rfl) rfl (pi_range1 (by rfl) (T.free 3) (pa_cons (pe_callB (len_k K) (by rfl) (T.free 0) PySem.boot_len (pa_cons (pe_ix (ix_l K) (pv 1) pe_int (fun _ _ => rfl)) pa_nil)) pa_nil)) (pg_name (i := 3) sc_law_like.nd rfl (Or.inl rfl))
        (pss_one (ps_if (pt_not (pt_val (pe_c (c_law_rows T) hr pz (pa_cons (pe_m (m_Train_parts T) hr pz (pv 0) (pa_cons (pe_ix (ix_l K) (pe_ix (ix_l K) (pv 1) pe_int (fun _ _ => rfl)) (pv 3) (fun _ _ => rfl)) pa_nil)) (pa_cons (pe_ix (ix_l K) (pe_ix (ix_l K) (pv 1) pe_int (fun _ _ => rfl)) (pv 3) (fun _ _ => rfl)) pa_nil)))))
          (pss_one (ps_ret pe_bl))
          pss_nil)))
      (pss_cons (ps_for (passes_of rfl) rfl (pi_range1 (by rfl) (T.free 3) (pa_cons (pe_callB (len_k K) (by rfl) (T.free 0) PySem.boot_len (pa_cons (pe_ix (ix_l K) (pv 1) pe_int (fun _ _ => rfl)) pa_nil)) pa_nil)) (pg_name (i := 4) sc_law_like.nd rfl (Or.inl rfl))
        (pss_one (ps_for (passes_of rfl) rfl (pi_range1 (by rfl) (T.free 3) (pa_cons (pe_op op_sub (pv 2) pe_int) pa_nil)) (pg_name (i := 5) sc_law_like.nd rfl (Or.inl rfl))
          (pss_cons (ps_set (i := 6) sc_law_like.nd rfl (Or.inl rfl) (pe_m (m_Train_holder T) hr pz (pv 0) (pa_cons (pv 4) (pa_cons (pv 5) pa_nil))))
          (pss_one (ps_if (PW.pt (pw_or (PW.pt (pw_and (pt_cmpR op_notN1 (pv 6) pe_non (nomark _)) (pw_and1 (pt_not (pt_val (pe_c (c_law_whole T) hr pz (pa_cons (pv 6) pa_nil))))))) (pw_or1 (pt_cmpR op_ne (pv 6) (pe_ix (ix_l K) (pe_ix (ix_l K) (pe_ix (ix_l K) (pv 1) pe_int (fun _ _ => rfl)) (pv 4) (fun _ _ => rfl)) (pv 5) (fun _ _ => rfl)) (nomark _)))))
            (pss_one (ps_ret pe_bl))
            pss_nil))))))
      (pss_one (ps_ret pe_bl)))))), ?_⟩
    obtain ⟨S, U, p, w, T0, rfl, A0, W0, G, few, q⟩ := h
    have wf := G.wf
    have w1 := wf.s1
    have w2 := wf.s2
    have w3 := wf.t1
    have w4 := wf.t2
    obtain ⟨r, so, pa, as, ls, R, hU⟩ := id W0
    have g0 := List.getElem?_eq_getElem (l := T0.rows) (i := 0) w1
    obtain ⟨a0, ha0, hrow0⟩ := R.grid.row.right g0
    have hl0 : (T0.rows[0].map oV).length = T0.stops - 1 := by rw [List.length_map]; exact wf.legs _ (List.getElem_mem w1)
    have has : (as.map V.ref).length = T0.rows.length := by rw [List.length_map, R.grid.row.len]
    have est : ((T0.stops - 1 : Nat) : Int) + 1 = (T0.stops : Int) := by omega
    have hmany := G.many
    refine ⟨_, rfl, w, _, _, .ref r, rfl, rfl, SqL.of R.hw, at_of (j := 0) rfl rfl, r, _, _, .ref a0, rfl, rfl, SqL.of R.grid.top, at_of (j := 0) rfl (map_get ha0), a0, _, rfl, .inl (SqL.of hrow0), _, _, rfl, rfl, ?_⟩
    rw [hl0]
    show gName 2 (V.int (((T0.stops - 1 : Nat) : Int) + 1)) _ _ _
    rw [est]
    obtain ⟨dx, r1, d1, hp⟩ := A0.ins
    refine ⟨_, rfl, p, _, _, rfl, hp, nf_size, S, p, T0, rfl, A0, fun t ft => ?_⟩
    have x1 := Evl.Ex.new (o := .tup [.int (T0.rows.length : Int), .int (T0.stops : Int)]) ft
    have R1 := R.ex x1
    refine ⟨_, rfl, w, _, _, .ref r, rfl, rfl, SqL.of R1.hw, at_of (j := 0) rfl rfl, r, _, rfl, .inl (SqL.of R1.grid.top), _, rfl, by show 2 ≤ sizeLine; decide, fun t2 ft2 => ?_⟩
    rw [has]
    have x2 := Evl.Ex.new (o := .tup [.int (T0.rows.length : Int), .int (T0.stops : Int)]) ft2
    refine rne_of (a := [(T0.rows.length : Int), (T0.stops : Int)]) (b := [(T0.rows.length : Int), (T0.stops : Int)]) (Enc.tup enc_int) (by decide) (dp_tup (x2 _ _ upd_same)) (dp_tup upd_same) ⟨_, rfl, ?_⟩
    refine iteN (fun hne => absurd rfl hne) (fun _ => ?_)
    have A2 := A0.ex (x1.trans x2)
    have R2 := R1.ex x2
    obtain ⟨dx, r2, d2, hp2⟩ := A2.ins
    refine ⟨_, rfl, p, _, _, rfl, hp2, nf_tickets, S, p, T0, rfl, A2, fun l fl => ?_⟩
    have x3 := Evl.Ex.new (o := .lst (T0.sold.map fun x => .int (x.1 : Int))) fl
    have em : (T0.sold.map fun x => V.int (x.1 : Int)) = (T0.sold.map fun x => (x.1 : Int)).map V.int := by rw [List.map_map]; rfl
    have R3 := R2.ex x3
    refine ⟨_, rfl, w, _, _, .ref so, rfl, rfl, SqL.of R3.hw, at_of (j := 1) rfl rfl, l, so, _, _, rfl, (by rw [upd_same, em]), R3.hso, by rw [List.length_map]; omega, by rw [List.length_map]; omega, ?_⟩
    rw [decide_eq_true rfl]
    refine ⟨_, rfl, iteF ?_⟩
    have X3 : Ex H _ := x1.trans (x2.trans x3)
    have hsl : ((T0.sold.map fun x => (x.1 : Int)).map V.int).length = T0.sold.length := by rw [List.length_map, List.length_map]
    refine ⟨_, rfl, w, _, _, .ref so, rfl, rfl, SqL.of R3.hw, at_of (j := 1) rfl rfl, so, _, rfl, .inl (SqL.of R3.hso), _, rfl, by omega, by omega, ?_⟩
    refine (for_range (lo := 0) (n := ((((T0.sold.map fun x => (x.1 : Int)).map V.int).length : Nat) : Int).toNat) (fun i σ H' => Ex H H' ∧ ∃ v3 v4 v5 v6 : Option V, σ = [some (.ref p), some (.ref w), some (.int (T0.stops : Int)), v3, v4, v5, v6])
      ⟨X3, none, none, none, none, rfl⟩ ?_ ?_)
    · rintro i σ H' hi ⟨ex, v3, v4, v5, v6, rfl⟩
      have ez : (0 : Int) + (i : Int) = (i : Int) := Int.zero_add _
      have hi2 : i < T0.sold.length := by
        rw [hsl] at hi
        omega
      have hx := List.getElem?_eq_getElem hi2
      have R' := R.ex ex
      have A' := A0.ex ex
      obtain ⟨dx, r2, d2, hp'⟩ := A'.ins
      generalize T0.sold[i] = np at hx
      obtain ⟨n, ps⟩ := np
      have mn := List.mem_of_getElem? hx
      have hg := getS_of wf.rising mn
      obtain ⟨b0, e0, hb0, he0, wy⟩ := G.way _ mn
      dsimp only at wy
      have hlen := wy.len
      have hni : ((T0.sold.map fun x => (x.1 : Int)).map V.int)[i]? = some (.int (n : Int)) := by
        rw [List.getElem?_map, List.getElem?_map, hx]
        rfl
      have hps : (T0.sold.map (·.2))[i]? = some ps := map_get hx
      obtain ⟨li, hli, hPi⟩ := R'.prt.right hps
      refine ⟨_, rfl, p, _, _, rfl, hp', nf_parts, _, rfl, w, _, _, .ref so, rfl, rfl, SqL.of R'.hw, at_of (j := 1) rfl rfl, _, rfl, so, _, _, .int (n : Int), rfl, rfl, SqL.of R'.hso, at_of (j := i) ez hni, S, p, T0, (n : Int), rfl, A', fun ps' hps' H1 l1 e1 hl1 hP1 => ?_, fun hn => (by rw [hg] at hn; cases hn)⟩
      rw [hg] at hps'
      cases hps'
      have R1 := R'.ex e1
      refine ⟨_, rfl, w, _, _, .ref pa, rfl, rfl, SqL.of R1.hw, at_of (j := 2) rfl rfl, _, rfl, pa, _, _, .ref li, rfl, rfl, SqL.of R1.hpa, at_of (j := i) ez (map_get hli), l1, li, ps.map p3I, ps.map p3I, rfl, hP1.tups, (hPi.mono e1).tups, by rw [List.length_map]; omega, by rw [List.length_map]; omega, fun x m => ?_, fun H2 e2 => ?_⟩
      · obtain ⟨y, _, rfl⟩ := List.mem_map.mp m
        show 3 ≤ 100
        decide
      · rw [decide_eq_true rfl]
        exact ⟨_, rfl, iteF ⟨ex.trans (e1.trans e2), _, _, _, _, rfl⟩⟩
    · rintro σ H' ⟨ex, v3, v4, v5, v6, rfl⟩
      have R' := R.ex ex
      refine ⟨_, rfl, w, _, _, .ref r, rfl, rfl, SqL.of R'.hw, at_of (j := 0) rfl rfl, r, _, rfl, .inl (SqL.of R'.grid.top), _, rfl, by omega, by omega, for_range (lo := 0) (n := (((as.map V.ref).length : Nat) : Int).toNat) (fun i σ H2 => H2 = H' ∧ ∃ v4 v5 v6 : Option V, σ = [some (.ref p), some (.ref w), some (.int (T0.stops : Int)), v3, v4, v5, v6])
        ⟨rfl, _, _, _, rfl⟩ ?_ ?_⟩
      · rintro i σ H2 hi ⟨rfl, v4, v5, v6, rfl⟩
        have ez : (0 : Int) + (i : Int) = (i : Int) := Int.zero_add _
        rw [ez]
        have hi2 : i < T0.rows.length := by omega
        have gs := List.getElem?_eq_getElem hi2
        obtain ⟨a, ha, hrow⟩ := R'.grid.row.right gs
        have A' := A0.ex ex
        obtain ⟨dx, r2, d2, hp'⟩ := A'.ins
        refine ⟨_, rfl, _, _, rfl, rfl, _, rfl, by omega, by omega, for_range (lo := 0) (n := ((T0.stops : Int) - 1).toNat) (fun j σ H3 => H3 = H2 ∧ ∃ v5 v6 : Option V, σ = [some (.ref p), some (.ref w), some (.int (T0.stops : Int)), v3, some (.int (i : Int)), v5, v6])
          ⟨rfl, _, _, rfl⟩ ?_ ?_⟩
        · rintro j σ H3 hj ⟨rfl, v5, v6, rfl⟩
          have ez : (0 : Int) + (j : Int) = (j : Int) := Int.zero_add _
          rw [ez]
          refine ⟨_, rfl, p, _, _, rfl, hp', nf_holder, _, rfl, _, rfl, S, p, T0, (i : Int), (j : Int), rfl, A', fun row hh hr2 hh2 => ?_, fun hb => absurd ⟨by omega, by omega⟩ hb, fun _ hb => absurd ⟨by omega, by omega⟩ hb⟩
          have er : row = T0.rows[i] := by
            have := hr2.2
            rw [Int.toNat_natCast, gs] at this
            exact (Option.some.inj this).symm
          subst er
          have hh3 := hh2.2
          rw [Int.toNat_natCast] at hh3
          cases hh with
          | none =>
            refine ⟨_, rfl, rfl, _, rfl, iteN (fun hne => absurd rfl hne) (fun _ => iteF ?_)⟩
            refine ⟨_, rfl, _, rfl, w, _, _, .ref r, rfl, rfl, SqL.of R'.hw, at_of (j := 0) rfl rfl, _, rfl, r, _, _, .ref a, rfl, rfl, SqL.of R'.grid.top, at_of (j := i) rfl (map_get ha), _, rfl, a, _, _, oV none, rfl, rfl, SqL.of hrow, at_of (j := j) rfl (map_get hh3), oV_scal _ _, _, rfl, ?_⟩
            exact iteN (fun hne => absurd rfl hne) (fun _ => ⟨rfl, _, _, rfl⟩)
          | some t0 =>
            refine ⟨_, rfl, rfl, _, rfl, iteN (fun _ => ?_) (fun z => (by cases z))⟩
            refine ⟨_, rfl, _, rfl, .inr (.inr (.inl ⟨_, rfl⟩)), _, rfl, iteF ?_⟩
            refine ⟨_, rfl, _, rfl, w, _, _, .ref r, rfl, rfl, SqL.of R'.hw, at_of (j := 0) rfl rfl, _, rfl, r, _, _, .ref a, rfl, rfl, SqL.of R'.grid.top, at_of (j := i) rfl (map_get ha), _, rfl, a, _, _, oV (some t0), rfl, rfl, SqL.of hrow, at_of (j := j) rfl (map_get hh3), oV_scal _ _, _, rfl, ?_⟩
            exact iteN (fun hne => absurd rfl hne) (fun _ => ⟨rfl, _, _, rfl⟩)
        · rintro σ H3 ⟨rfl, v5, v6, rfl⟩
          exact ⟨rfl, _, _, _, rfl⟩
      · rintro σ H2 ⟨rfl, v4, v5, v6, rfl⟩
        exact q _ ex
theorem sc_law : FnScope ["_law_script", "_law_built_here", "_law_train", "_law_world_here", "_law_stops_here", "_law_cell", "_law_deed", "_law_found_here", "_law_other", "_law_k", "_law_due", "_law_told_here"] ["_law_script"] (defScope s_law) := ⟨rfl, rfl, rfl, by decide +kernel, rfl, by decide +kernel, by decide +kernel⟩
theorem f_law (T : Tx K mg) {fd : FuncData} (F : FunD K "law" "law" (defArgs s_law) (defBody s_law) (defScope s_law) [] [] (He.ga K "law") fd) : FnOk P w K mg base (L2.CX P w) 9 (He.ga K "law") fd ["_law_script"] (spLaw K) := by
  refine FunD.ok F sc_law (fun vs H Q E h => ?_) fun cdv A outer s H vs Q E hr h => ?_
  · first | (obtain ⟨_, rfl, _⟩ := h; rfl) | (obtain ⟨_, _, rfl, _⟩ := h; rfl) | (obtain ⟨_, _, _, rfl, _⟩ := h; rfl) | (obtain ⟨_, _, _, _, rfl, _⟩ := h; rfl) | (obtain ⟨_, _, _, _, _, rfl, _⟩ := h; rfl) | (obtain ⟨_, _, _, _, _, _, rfl, _⟩ := h; rfl) | (obtain ⟨_, _, _, _, _, _, _, rfl, _⟩ := h; rfl) | (obtain ⟨_, _, _, _, _, _, _, _, rfl, _⟩ := h; rfl) | (obtain ⟨_, _, _, _, _, _, _, _, _, rfl, _⟩ := h; rfl) | (obtain ⟨_, _, _, _, _, _, _, _, _, _, rfl, _⟩ := h; rfl) | (obtain ⟨_, _, _, _, _, _, _, _, _, _, _, rfl, _⟩ := h; rfl) | (obtain ⟨_, _, _, _, _, _, _, _, _, _, _, _, rfl, _⟩ := h; rfl) | (obtain ⟨_, _, _, _, _, _, _, _, _, _, _, _, _, rfl, _⟩ := h; rfl) | (obtain ⟨_, _, _, _, _, _, _, _, _, _, _, _, _, _, rfl, _⟩ := h; rfl) | (obtain ⟨_, _, _, _, _, _, _, _, _, _, _, _, _, _, _, rfl, _⟩ := h; rfl)
  · refine ⟨_, (pss_cons (ps_set (i := 1) sc_law.nd rfl (Or.inl rfl) (pe_c (c_law_built T) hr pz (pa_cons (pv 0) pa_nil)))
      (pss_cons (ps_set (i := 2) sc_law.nd rfl (Or.inl rfl) (pe_ix (ix_l K) (pv 1) pe_int (fun _ _ => rfl)))
      (pss_cons (ps_set (i := 3) sc_law.nd rfl (Or.inl rfl) (pe_ix (ix_l K) (pv 1) pe_int (fun _ _ => rfl)))
      (pss_cons (ps_set (i := 4) sc_law.nd rfl (Or.inl rfl) (pe_op op_add (pe_callB (len_k K) (by rfl) (T.free 0) PySem.boot_len (pa_cons (pe_ix (ix_l K) (pe_ix (ix_l K) (pv 3) pe_int (fun _ _ => rfl)) pe_int (fun _ _ => rfl)) pa_nil)) pe_int))
      (pss_cons (ps_for (passes_of rfl) rfl (pi_l K (pe_c (c_law_cells T) hr pz (pa_cons (pv 0) pa_nil))) (pg_name (i := 5) sc_law.nd rfl (Or.inl rfl))
        (pss_cons (ps_set (i := 6) sc_law.nd rfl (Or.inl rfl) (pe_c (c_law_deed_by T) hr pz (pa_cons (pv 5) (pa_cons (pe_ix (ix_l K) (pv 3) pe_int (fun _ _ => rfl)) (pa_cons (pv 4) pa_nil)))))
        (pss_one (ps_if (pt_cmpR op_ne (pe_ix (ix_t K) (pe_c (c_law_word T) hr pz (pa_cons (pv 2) (pa_cons (pv 6) pa_nil))) pe_int (fun _ _ => rfl)) (pe_ix (ix_t K) (pe_c (c_law_done_by T) hr pz (pa_cons (pv 3) (pa_cons (pv 6) pa_nil))) pe_int (fun _ _ => rfl)) (nomark _))
          (pss_one (ps_ret pe_bl))
          pss_nil))))
      (pss_cons (ps_set (i := 7) sc_law.nd rfl (Or.inl rfl) (pe_c (c_written T) hr pz (pa_cons (pv 2) pa_nil)))
      (pss_cons (ps_if (PW.pt (pw_or (pt_not (pt_val (pe_callB (isi_k K) (by rfl) (T.free 1) (by decide +kernel) (pa_cons (pv 7) (pa_cons (pe_bltn (v := .ty "str") rfl (T.free 2) (by decide +kernel) rfl) pa_nil))))) (pw_or1 (pt_cmpR op_ne (pv 7) (pe_c (c_law_text_of T) hr pz (pa_cons (pv 3) pa_nil)) (nomark _)))))
        (pss_one (ps_ret pe_bl))
        pss_nil)
      (pss_cons (ps_set (i := 8) sc_law.nd rfl (Or.inl rfl) (pe_c (c_read T) hr pz (pa_cons (pv 7) pa_nil)))
      (pss_cons (ps_if (PW.pt (pw_or (pt_not (pt_val (pe_c (c_law_tells T) hr pz (pa_cons (pv 8) (pa_cons (pv 3) (pa_cons (pe_c (c_law_cell_at T) hr pz (pa_cons (pv 0) (pa_cons pe_int pa_nil))) pa_nil)))))) (pw_or1 (pt_not (pt_val (pe_c (c_law_packs T) hr pz (pa_cons (pv 8) (pa_cons (pv 3) pa_nil))))))))
        (pss_one (ps_ret pe_bl))
        pss_nil)
      (pss_cons (ps_if (PW.pt (pw_or (pt_not (pt_val (pe_c (c_law_like T) hr pz (pa_cons (pv 8) (pa_cons (pv 3) pa_nil))))) (pw_or1 (pt_not (pt_val (pe_c (c_law_like T) hr pz (pa_cons (pv 2) (pa_cons (pv 3) pa_nil))))))))
        (pss_one (ps_ret pe_bl))
        pss_nil)
      (pss_cons (ps_for (passes_of rfl) rfl (pi_range1 (by rfl) (T.free 3) (pa_cons (pe_op op_mod (pe_op op_fdiv (pe_c (c_law_cell_at T) hr pz (pa_cons (pv 0) (pa_cons pe_int pa_nil))) pe_int) pe_int) pa_nil)) (pg_name (i := 9) sc_law.nd rfl (Or.inl rfl))
        (pss_cons (ps_set (i := 6) sc_law.nd rfl (Or.inl rfl) (pe_c (c_law_deed_by T) hr pz (pa_cons (pe_op op_add (pe_c (c_law_cell_at T) hr pz (pa_cons (pv 0) (pa_cons pe_int pa_nil))) (pe_op op_mul pe_int (pv 9))) (pa_cons (pe_ix (ix_l K) (pv 3) pe_int (fun _ _ => rfl)) (pa_cons (pv 4) pa_nil)))))
        (pss_cons (ps_set (i := 10) sc_law.nd rfl (Or.inl rfl) (pe_c (c_law_done_by T) hr pz (pa_cons (pv 3) (pa_cons (pv 6) pa_nil))))
        (pss_cons (ps_if (PW.pt (pw_or (pt_cmpR (neD_k K hr.units) (pe_c (c_law_word T) hr pz (pa_cons (pv 8) (pa_cons (pv 6) pa_nil))) (pv 10) (nomark _)) (pw_or1 (pt_cmpR (neD_k K hr.units) (pe_c (c_law_word T) hr pz (pa_cons (pv 2) (pa_cons (pv 6) pa_nil))) (pv 10) (nomark _)))))
          (pss_one (ps_ret pe_bl))
          pss_nil)
        (pss_cons (ps_if (PW.pt (pw_or (pt_cmpR op_ne (pe_c (c_written T) hr pz (pa_cons (pv 8) pa_nil)) (pe_c (c_law_text_of T) hr pz (pa_cons (pv 3) pa_nil)) (nomark _)) (pw_or1 (pt_not (pt_val (pe_c (c_law_like T) hr pz (pa_cons (pv 8) (pa_cons (pv 3) pa_nil))))))))
          (pss_one (ps_ret pe_bl))
          pss_nil)
        (pss_one (ps_if (PW.pt (pw_or (pt_not (pt_val (pe_c (c_law_tells T) hr pz (pa_cons (pv 8) (pa_cons (pv 3) (pa_cons (pe_op op_add (pe_c (c_law_cell_at T) hr pz (pa_cons (pv 0) (pa_cons pe_int pa_nil))) (pv 9)) pa_nil)))))) (pw_or1 (pt_not (pt_val (pe_c (c_law_packs T) hr pz (pa_cons (pv 8) (pa_cons (pv 3) pa_nil))))))))
          (pss_one (ps_ret pe_bl))
          pss_nil)))))))
      (pss_cons (ps_set (i := 7) sc_law.nd rfl (Or.inl rfl) (pe_c (c_law_text_of T) hr pz (pa_cons (pv 3) pa_nil)))
      (pss_cons (ps_set (i := 6) sc_law.nd rfl (Or.inl rfl) (pe_tup (pa_cons pe_str (pa_cons pe_int (pa_cons (pe_op op_sub (pv 4) pe_int) pa_nil)))))
      (pss_cons (ps_set (i := 11) sc_law.nd rfl (Or.inl rfl) (pe_c (c_law_word T) hr pz (pa_cons (pv 8) (pa_cons (pv 6) pa_nil))))
      (pss_cons (ps_if (PW.pt (pw_or (pt_not (pt_val (pe_c (c_law_like T) hr pz (pa_cons (pv 2) (pa_cons (pv 3) pa_nil))))) (pw_or (pt_cmpR (neD_k K hr.units) (pv 11) (pe_c (c_law_done_by T) hr pz (pa_cons (pv 3) (pa_cons (pv 6) pa_nil))) (nomark _)) (pw_or1 (pt_not (pt_val (pe_c (c_law_like T) hr pz (pa_cons (pv 8) (pa_cons (pv 3) pa_nil)))))))))
        (pss_one (ps_ret pe_bl))
        pss_nil)
      (pss_cons (ps_if (PW.pt (pw_or (pt_cmpR op_ne (pe_c (c_written T) hr pz (pa_cons (pv 2) pa_nil)) (pv 7) (nomark _)) (pw_or (pt_cmpR (neD_k K hr.units) (pe_c (c_law_word T) hr pz (pa_cons (pv 2) (pa_cons (pv 6) pa_nil))) (pv 11) (nomark _)) (pw_or1 (pt_cmpR op_ne (pe_c (c_written T) hr pz (pa_cons (pv 2) pa_nil)) (pe_c (c_law_text_of T) hr pz (pa_cons (pv 3) pa_nil)) (nomark _))))))
        (pss_one (ps_ret pe_bl))
        pss_nil)
      (pss_one (ps_ret (pe_cmpR op_eq (pe_c (c_written T) hr pz (pa_cons (pv 8) pa_nil)) (pe_c (c_law_text_of T) hr pz (pa_cons (pv 3) pa_nil)) (nomark _)))))))))))))))))))), ?_⟩
    obtain ⟨sa, ns, rfl, hS, hlen, q⟩ := h
    (repeat fail "s")
    refine ⟨sa, ns, rfl, hS, fun n1 n2 hn1 hn2 hn3 hn4 H1 S U p w lb e1 two0 hnew hlb => ?_⟩
    have Gnew := Good.new hn1 hn2 hn3 hn4
    have el : (Tr.new n1 n2).rows.length = n1 := List.length_replicate
    obtain ⟨r, so, pa, as, ls, R0, hU⟩ := id two0.wo
    have hw0 := R0.hw
    have g0 := List.getElem?_eq_getElem (l := (Tr.new n1 n2).rows) (i := 0) (by rw [el]; exact hn1)
    obtain ⟨a0, ha0, hrow0⟩ := R0.grid.row.right g0
    have hl0 : ((Tr.new n1 n2).rows[0].map oV).length = n2 - 1 := by rw [List.length_map]; exact Gnew.wf.legs _ (List.getElem_mem _)
    (repeat fail "s")
    refine v_ixL (SqL.of R0.grid.top) (at_of (j := 0) rfl (map_get ha0)) ?_
    refine s_nil ?_
    refine v_lenL (SqL.of hrow0) ?_
    rw [hl0]
    (repeat fail "s")
    rw [show ((n2 - 1 : Nat) : Int) + 1 = (n2 : Int) by omega]
    rename_i H2 lc vs e2 nlc hce
    have hvl : vs.length ≤ 600 := hce.2.1
    have hlc2 := hce.1
    have two2 := two0.ex e2
    have live0 : ∀ a, S a ∨ U a → a ≠ lc := fun a h z => by
      have : ∃ o, H1 a = some o := h.elim (two0.aS a) (two0.aU a)
      obtain ⟨o, ho⟩ := this
      rw [z, nlc] at ho
      cases ho
    (repeat fail "s")
    refine fr_list (xs := vs) (fun i σ H' => ∃ (T0 : Tr) (S U : Addr → Prop) (v5 v6 v7 v8 v9 v10 v11 : Option V), σ = [some (.ref sa), some (.ref lb), some (.ref p), some (.ref w), some (.int (n2 : Int)), v5, v6, v7, v8, v9, v10, v11] ∧ Two K H' p w T0 T0 S U ∧ Good T0 ∧ T0.stops = n2 ∧ T0.rows.length = n1 ∧ T0.coming ≤ i ∧ Ex H H' ∧ (∀ a, S a ∨ U a → H a = none) ∧ CellsAt H' lc vs ∧ ¬ S lc ∧ ¬ U lc)
      ⟨_, S, U, _, _, _, _, _, _, _, rfl, two2, Gnew, rfl, el, Nat.le_refl _, e1.trans e2, hnew, hce, fun z => live0 _ (.inl z) rfl, fun z => live0 _ (.inr z) rfl⟩ (fun i σ H' _ ⟨_, _, _, _, _, _, _, _, _, _, _, _, _, _, _, _, _, _, c, _⟩ => SqL.of c.1) ?_ ?_
    · rintro i xv σ H3 hi ⟨T0, S, U, v5, v6, v7, v8, v9, v10, v11, rfl, two, G, hst, hrl, hco, ex, fr, cel, oS, oU⟩
      have hi2 := lt_of_get hi
      have hmany := G.many
      have hkl := keys_len T0
      obtain ⟨r, so, pa, as, ls, R, hU⟩ := id two.wo
      have hw3 := R.hw
      have hso3 : H3 so = some (.lst ((keys T0).map V.int)) := R.hso
      (repeat fail "s")
      refine c_deedBy (cel.2.2 _ (List.mem_of_getElem? hi)) hso3 (by omega) hn3 (by omega) fun H4 d x e4 hd => ?_
      have two4 := two.ex e4
      (repeat fail "s")
      refine ⟨S, p, T0, d, x, rfl, two4.tr, G, by omega, hd, fun H5 S' t v mv A' hwd rv => ?_⟩
      obtain ⟨S2, two5, hS2⟩ := two4.train mv A'
      have hd5 : DeedAt H5 d x := mv.tups _ _ hd
      (repeat fail "s")
      refine ⟨U, w, T0, d, x, rfl, two5.wo, G, by omega, hd5, fun H6 U' t2 v2 mv2 W' hw2 rw2 => ?_⟩
      obtain ⟨U2, two6, hU2⟩ := two5.world mv2 W'
      have hw2 : H6 t2 = some (.tup [.str (T0.run x).word, v2]) := hw2
      obtain ⟨G', hst', hrl', hco1, hco2⟩ := G.run x
      (repeat fail "s")
      have ex6 : Ex H H6 := fun a o h => mv2.keep a o (fun z => by
        rw [fr a (.inr z)] at h
        cases h) (mv.keep a o (fun z => by
        rw [fr a (.inl z)] at h
        cases h) (e4 _ _ (ex _ _ h)))
      have nS : ∀ a o, H4 a = some o → ¬ S a → ¬ S2 a := fun a o h n z => by
        rcases (hS2 a z).2 with y | y
        · exact n y
        · rw [h] at y
          cases y
      have hlc4 := e4 _ _ cel.1
      have hlc5 := mv.keep _ _ oS hlc4
      have nU : ¬ U2 lc := fun z => by
        rcases (hU2 lc z).2 with y | y
        · exact oU y
        · rw [hlc5] at y
          cases y
      refine ⟨(T0.run x).tr, S2, U2, _, _, _, _, _, _, _, rfl, two6, G', by omega, by omega, by omega, ex6, fun a h => ?_, ((cel.mono (fun o h => e4 _ _ h) (fun a xs h => e4 _ _ h)).mono (fun o h => mv.keep _ _ oS h) mv.tups).mono (fun o h => mv2.keep _ _ oU h) mv2.tups, nS _ _ hlc4 oS, nU⟩
      rcases h with h | h
      · rcases (hS2 a h).2 with y | y
        · exact fr a (.inl y)
        · exact Evl.fresh_back (ex.trans e4) y
      · rcases (hU2 a h).2 with y | y
        · exact fr a (.inr y)
        · cases hz : H a with
          | none => rfl
          | some o =>
            have h4 := e4 _ _ (ex _ _ hz)
            have h5 := mv.keep a o (fun z => by
              rw [fr a (.inl z)] at hz
              cases hz) h4
            rw [h5] at y
            cases y
    · rintro σ H3 ⟨T0, S, U, v5, v6, v7, v8, v9, v10, v11, rfl, two, G, hst, hrl, hco, ex, fr, cel, oS, oU⟩
      (repeat fail "s")
      refine ⟨S, p, T0, rfl, two.tr, G, by omega, fun H4 e4 => ?_⟩
      (repeat fail "s")
      refine ⟨.str (textT T0), .ty "str", _, _, true, rfl, .ty _, .base (.str _), kit_ty (by decide +kernel), ?_⟩
      (repeat fail "s")
      have two4 := two.ex e4
      refine ⟨U, w, T0, rfl, two4.wo, G, by omega, fun H5 e5 => ?_⟩
      (repeat fail "s")
      refine Lg.c_read G (by omega) fun H6 R o P6 => ?_
      have D6 := Tri.start ((ex.trans e4).trans e5) (two4.ex e5) fr P6
      have x6 := D6.ex
      (repeat fail "s")
      refine ⟨R, U, o, w, T0, _, rfl, D6.ot, D6.wo, fun H7 e7 => ?_⟩
      have D7 := D6.more e7
      (repeat fail "s")
      refine ⟨R, U, o, w, T0, rfl, D7.ot, D7.wo, G, by omega, fun H8 e8 => ?_⟩
      have D8 := D7.more e8
      (repeat fail "s")
      refine ⟨R, U, o, w, T0, rfl, D8.ot, D8.wo, G, by omega, fun H9 e9 => ?_⟩
      have D9 := D8.more e9
      (repeat fail "s")
      refine ⟨S, U, p, w, T0, rfl, D9.tr, D9.wo, G, by omega, fun H10 e10 => ?_⟩
      have D10 := D9.more e10
      have x10 := D10.ex
      clear D9 D8 D7 D6 x6 e7 e8 e9 e10 P6 e5 two4 e4 ex two cel
      have hm1 := Int.emod_nonneg (cellAt ns 0 / 7) (b := 6) (by decide)
      have hm2 := Int.emod_lt_of_pos (cellAt ns 0 / 7) (b := 6) (by decide)
      (repeat fail "s")
      refine fr_range (n := (cellAt ns 0 / 7 % 6).toNat) (fun i σ H' => ∃ (T0 : Tr) (S R U : Addr → Prop) (v5 v6 v7 v9 v10 v11 : Option V), σ = [some (.ref sa), some (.ref lb), some (.ref p), some (.ref w), some (.int (n2 : Int)), v5, v6, v7, some (.ref o), v9, v10, v11] ∧ Tri K H H' p o w T0 T0 T0 S R U ∧ Good T0 ∧ T0.stops = n2 ∧ T0.rows.length = n1 ∧ T0.coming ≤ 600 + i)
        ⟨T0, S, R, U, _, _, _, _, _, _, rfl, D10, G, hst, hrl, by omega⟩ ?_ ?_
      · rintro i σ H11 hi ⟨T1, S, R, U, v5, v6, v7, v9, v10, v11, rfl, D, G, hst, hrl, hco⟩
        have ex := D.ex
        have hmany := G.many
        have hkl := keys_len T1
        obtain ⟨r, so, pa, as, ls, RW, hU⟩ := id D.wo
        have hw3 := RW.hw
        have hso3 : H11 so = some (.lst ((keys T1).map V.int)) := RW.hso
        (repeat fail "s")
        refine c_deedBy (.inl ⟨_, rfl⟩) hso3 (by omega) hn3 (by omega) fun H12 d x e12 hd => ?_
        have D12 := D.more e12
        clear hw3 hso3 RW hU
        (repeat fail "s")
        refine ⟨U, w, T1, d, x, rfl, D12.wo, G, by omega, hd, fun H13 U' t2 v2 mv2 W' hw2 rw2 => ?_⟩
        obtain ⟨U2, D13, hU2⟩ := D12.world mv2 W'
        have hw2 : H13 t2 = some (.tup [.str (T1.run x).word, v2]) := hw2
        obtain ⟨r2, l2⟩ := rw2.at_
        have lv12 : ∀ {a}, S a ∨ R a → H12 a ≠ none := fun h z => by
          obtain ⟨y, hy⟩ := D12.live _ (h.imp id .inl)
          rw [z] at hy
          cases hy
        have nl : ∀ l, v2 = .ref l → ¬ S l ∧ ¬ R l := fun l e => ⟨fun z => (l2 l e).elim (D12.d2 l z) (lv12 (.inl z)), fun z => (l2 l e).elim (D12.d3 l z) (lv12 (.inr z))⟩
        have hd13 : DeedAt H13 d x := mv2.tups _ _ hd
        (repeat fail "s")
        refine ⟨R, o, T1, d, x, rfl, D13.ot, G, by omega, hd13, fun H14 R' t v mv A' hwt rv => ?_⟩
        obtain ⟨R2, D14, hR2⟩ := D13.swap.train mv A'
        have D14 := D14.swap
        obtain ⟨r1, _⟩ := rv.at_
        have r2' := r2.keep (fun l e o h => mv.keep l o (nl l e).2 h) mv.tups
        have hw14 := mv.tups _ _ hw2
        have hd14 : DeedAt H14 d x := mv.tups _ _ hd13
        (repeat fail "s")
        refine v_neOut hwt r1 hw14 r2' ?_
        (repeat fail "s")
        refine ⟨S, p, T1, d, x, rfl, D14.tr, G, by omega, hd14, fun H15 S' t3 v3 mv3 A3 hwt3 rv3 => ?_⟩
        obtain ⟨S2, D15, hS2⟩ := D14.train mv3 A3
        obtain ⟨r3, _⟩ := rv3.at_
        have r2'' := r2'.keep (fun l e o h => mv3.keep l o (nl l e).1 h) mv3.tups
        have hw15 := mv3.tups _ _ hw14
        obtain ⟨G', hst', hrl', hco1, hco2⟩ := G.run x
        (repeat fail "s")
        refine v_neOut hwt3 r3 hw15 r2'' ?_
        have x15 := D15.ex
        have w3' := G'.wf.t1
        (repeat fail "s")
        refine ⟨R2, o, _, rfl, D15.ot, G', by omega, fun H16 e16 => ?_⟩
        have D16 := D15.more e16
        (repeat fail "s")
        refine ⟨U2, w, _, rfl, D16.wo, G', by omega, fun H17 e17 => ?_⟩
        have D17 := D16.more e17
        (repeat fail "s")
        refine ⟨R2, U2, o, w, _, rfl, D17.ot, D17.wo, G', by omega, fun H18 e18 => ?_⟩
        have D18 := D17.more e18
        have x18 := D18.ex
        clear x15 ex
        (repeat fail "s")
        refine ⟨R2, U2, o, w, _, _, rfl, D18.ot, D18.wo, fun H19 e19 => ?_⟩
        have D19 := D18.more e19
        (repeat fail "s")
        refine ⟨R2, U2, o, w, _, rfl, D19.ot, D19.wo, G', by omega, fun H20 e20 => ?_⟩
        have D20 := D19.more e20
        (repeat fail "s")
        exact ⟨_, S2, R2, U2, _, _, _, _, _, _, rfl, D20, G', by omega, by omega, by omega⟩
      · rintro σ H11 ⟨T1, S, R, U, v5, v6, v7, v9, v10, v11, rfl, D, G, hst, hrl, hco⟩
        have ex := D.ex
        have hmany := G.many
        (repeat fail "s")
        refine ⟨U, w, T1, rfl, D.wo, G, by omega, fun H12 e12 => ?_⟩
        have D12 := D.more e12
        (repeat fail "s")
        rename_i d H13 nd e13 hd
        have D13 := D12.more e13
        have hd : DeedAt H13 d ⟨.sell, 0, (n2 : Int) - 1⟩ := hd
        obtain ⟨x, hx⟩ : ∃ x : Deed, x = ⟨.sell, 0, (n2 : Int) - 1⟩ := ⟨_, rfl⟩
        rw [← hx] at hd
        refine ⟨R, o, T1, d, x, rfl, D13.ot, G, by omega, hd, fun H14 R' t v mv A' hwt rv => ?_⟩
        obtain ⟨R2, D14, hR2⟩ := D13.swap.train mv A'
        have D14 := D14.swap
        obtain ⟨r1, l1⟩ := rv.at_
        have lv13 : ∀ {a}, S a ∨ U a → H13 a ≠ none := fun h z => by
          obtain ⟨y, hy⟩ := D13.live _ (h.imp id .inr)
          rw [z] at hy
          cases hy
        have nl : ∀ l, v = .ref l → ¬ S l ∧ ¬ U l := fun l e => ⟨fun z => (l1 l e).elim (fun y => D13.d1 l z y) (lv13 (.inl z)), fun z => (l1 l e).elim (fun y => D13.d3 l y z) (lv13 (.inr z))⟩
        have hd14 : DeedAt H14 d x := mv.tups _ _ hd
        (repeat fail "s")
        refine ⟨S, U, p, w, T1, rfl, D14.tr, D14.wo, G, by omega, fun H15 e15 => ?_⟩
        have D15 := D14.more e15
        have hwt15 := e15 _ _ hwt
        have r15 := r1.keep (fun l _ o h => e15 l o h) (fun a xs h => e15 _ _ h)
        have hd15 : DeedAt H15 d x := e15 _ _ hd14
        (repeat fail "s")
        refine ⟨U, w, T1, d, x, rfl, D15.wo, G, by omega, hd15, fun H16 U' t2 v2 mv2 W' hw2 rw2 => ?_⟩
        obtain ⟨U2, D16, hU2⟩ := D15.world mv2 W'
        have hw2 : H16 t2 = some (.tup [.str (T1.run x).word, v2]) := hw2
        obtain ⟨r2, _⟩ := rw2.at_
        have hwt16 := mv2.tups _ _ hwt15
        have r16 := r15.keep (fun l e o h => mv2.keep l o (nl l e).2 h) mv2.tups
        have hd16 : DeedAt H16 d x := mv2.tups _ _ hd15
        obtain ⟨G', hst', hrl', hco1, hco2⟩ := G.run x
        (repeat fail "s")
        refine v_neOut hwt16 r16 hw2 r2 ?_
        (repeat fail "s")
        refine ⟨R2, U2, o, w, _, rfl, D16.ot, D16.wo, G', by omega, fun H17 e17 => ?_⟩
        have D17 := D16.more e17
        have hwt17 := e17 _ _ hwt16
        have r17 := r16.keep (fun l _ o h => e17 l o h) (fun a xs h => e17 _ _ h)
        have hd17 : DeedAt H17 d x := e17 _ _ hd16
        (repeat fail "s")
        refine ⟨S, p, T1, rfl, D17.tr, G, by omega, fun H18 e18 => ?_⟩
        have D18 := D17.more e18
        have hwt18 := e18 _ _ hwt17
        have r18 := r17.keep (fun l _ o h => e18 l o h) (fun a xs h => e18 _ _ h)
        have hd18 : DeedAt H18 d x := e18 _ _ hd17
        (repeat fail "s")
        refine ⟨S, p, T1, d, x, rfl, D18.tr, G, by omega, hd18, fun H19 S' t3 v3 mv3 A3 hwt3 rv3 => ?_⟩
        obtain ⟨S2, D19, hS2⟩ := D18.train mv3 A3
        obtain ⟨r3, _⟩ := rv3.at_
        have hwt19 := mv3.tups _ _ hwt18
        have r19 := r18.keep (fun l e o h => mv3.keep l o (nl l e).1 h) mv3.tups
        (repeat fail "s")
        refine v_neOut hwt3 r3 hwt19 r19 ?_
        (repeat fail "s")
        refine ⟨S2, p, _, rfl, D19.tr, G', by omega, fun H20 e20 => ?_⟩
        have D20 := D19.more e20
        (repeat fail "s")
        refine ⟨U2, w, _, rfl, D20.wo, G', by omega, fun H21 e21 => ?_⟩
        have D21 := D20.more e21
        (repeat fail "s")
        refine ⟨R2, o, _, rfl, D21.ot, G', by omega, fun H22 e22 => ?_⟩
        have D22 := D21.more e22
        (repeat fail "s")
        refine ⟨U2, w, _, rfl, D22.wo, G', by omega, fun H23 e23 => ?_⟩
        (repeat fail "s")
        rw [show decide (textT (T1.run x).tr = textT (T1.run x).tr) = true from decide_eq_true rfl]
        exact q H23
end

abbrev RR : PySem.W.OpenRow := PySem.W.OpenLaw.row PySem.Challenge.rw_legseats_k12_written_and_read
abbrev hkL : PySem.W.Hook := He.hookX 5 faL fnL [] [] exL
def obL (s : PySem.W.SharedT) : He.AlX := He.obsX 5 faL fnL [] [] exL (HandSHeadRun.getT s)
theorem obL_eq (s : PySem.W.SharedT) : obL s = hkL.obs s.abs := He.obsX_eq (HandSHeadRun.getT_eq s)
def namesL : List Str := (["SeatError", "NoTrain", "NoStretch", "NoSeat", "NoStop", "NoLeg", "NoTicket", "Full", "Shared", "NoText", "reach", "best_seat", "found_parts", "first_full", "MOST_SEATS", "MOST_STOPS", "Train", "FIGURES", "MANY_FIGURES", "written", "number", "numbers_of", "parts_of", "read", "stretch_of", "packed", "_law_cell_at", "_law_whole", "_law_mixed", "_law_seats"] : List Str) ++ (["_law_stops", "_law_reach", "_law_full", "_law_found", "_law_mark", "_law_world", "_law_left", "_law_sold_by", "_law_done_by", "_law_stretch_by", "_law_deed_by", "_law_laid", "_law_cells", "_law_class", "_law_told", "_law_word", "_law_rows", "_law_numbers", "_law_like", "_law_built", "_law_offered", "_law_offers", "_law_told_of", "_law_tells", "_law_packs", "_law_text_of"] : List Str)
set_option maxHeartbeats 0 in
theorem runL (w : World) : HandSHeadRun.RunEq RR (PySem.W.view RR.prog [62]) hkL obL 20000 namesL w := by
  intro os
  kernel_rfl
theorem factsL {P : Program} {w : World} {K : PySem.W.Frag} {h : Heap} {mg : Str → Option Value} {f : Addr} (X : K.In h) (G : h.Ns mainGlobals mg) (hfa : mg ("law" : Str) = some (.ref f)) (c : He.SaysX faL fnL [] [] exL w h K) :
    ∃ fd : FuncData, (∀ (s : Shared) (v : Value), BindsTo s fd ⟨[v], []⟩ [("_law_script", v)]) ∧ ∀ base : Heap, K.In base → base.Ns mainGlobals mg → FnOk P w K mg base CX0 9 f fd ["_law_script"] (fun vs H Q _ => spLaw K vs H Q E0) := by
  have T : Tx K mg := ⟨c.t.d, c.more, h, X, G⟩
  obtain ⟨fd, F⟩ := T.c.def_ 59 rfl
  have e := hfa.symm.trans (T.glo 111 rfl)
  cases e
  have b := FunD.bindsA (ps := ["_law_script"]) F fun _ _ _ _ _ _ us hl => match us, hl with | [_], _ => rfl
  exact ⟨fd, fun s v => b s [v] rfl, fun base _ _ => fn_zero (f_law T F)⟩
end Lg.K12
open PySem PySem.W PySem.Calls PyProof.Rows in
set_option maxRecDepth 100000 in
set_option maxHeartbeats 0 in
theorem PySem.Challenge.cw_legseats_k12_written_and_read_holds : PySem.Challenge.rw_legseats_k12_written_and_read.Holds := by
  w_on; o_law
  refine HandSHeadRun.head_any (r := OpenLaw.row PySem.Challenge.rw_legseats_k12_written_and_read) (q := view (OpenLaw.row PySem.Challenge.rw_legseats_k12_written_and_read).prog [62]) (H := Lg.K12.hkL) (ob := Lg.K12.obL) (M := 20000) (loose := Lg.K12.namesL)
    (d := HandSHeadRun.topDef (OpenLaw.row PySem.Challenge.rw_legseats_k12_written_and_read).prog 62) (kwd := []) Lg.K12.obL_eq
    (by kernel_rfl) (fun s => by kernel_rfl) Lg.K12.runL (by kernel_rfl) (by kernel_rfl) (by kernel_rfl) (by rfl) (by first | assumption | decide +kernel) (by decide +kernel) ⟨rfl, rfl, rfl, rfl, rfl, by decide +kernel⟩ ?hw ?hc
  case hw => w_witness2
  case hc =>
    refine L2.walk_ofE (l := PySem.Challenge.rw_legseats_k12_written_and_read) (n := 63) (k := 9) (x := "_law_script") (CX := L2.CX0) rfl (by decide) (by kernel_rfl) ⟨rfl, by decide, by decide⟩ ?F (fun _ _ _ _ z => z)
    intro w mg fa h Y G hmg0
    obtain ⟨K, KX, c⟩ := Y
    have hmg : mg ("law" : PySem.Str) = some (.ref fa) := by
      have e : (HandSHeadRun.topDef (OpenLaw.row PySem.Challenge.rw_legseats_k12_written_and_read).prog 62).name = ("law" : PySem.Str) := by kernel_rfl
      rw [← e]
      exact hmg0
    obtain ⟨fd, hb, hF⟩ := Lg.K12.factsL (P := (PySem.Challenge.rw_legseats_k12_written_and_read).prog) (w := w) KX G hmg c
    exact ⟨K, fd, fun vs H Q _ => Lg.spLaw K vs H Q L2.E0, KX, hb, fun H a ns hl _ hS => ⟨a, ns, rfl, hS, hl, fun _ => rfl⟩, hF⟩
