import PyProof.Rows.All
import Wide.All
import OpenK.AllK
import Wide.FinOn
import HandS.ForMost
import HandS.ForExc
import HandS.ExcInit
import HandS.IsInst
import HandS.TryMany
import HandS.Lambda
import HandS.SortInts
import HandS.SortRule
import HandS.TupAny
import HandS.TupMul
import HandS.TupLe
import HandS.Deep
import HandS.DictTup
import HandS.ExcIs
import HandS.HotCalls
import HandS.Codes
import HandS.Conv
import HandS.Style
import HandS.Strs
import HandS.Flow
import HandS.Defaults
import HandS.OwnEq
import HandS.Zip
import HandS.SuiteRaise
import HandS.ExcInitHot
import HandS.EndTab
import KE.GoesEnum
import PyProof.LongRange
import PyProof.ReprBulk
import KE.KExcIs
import HandS.ExcValue
import PySem.Challenge.RW_nextchannel_k19_exceptions
set_option Elab.async false
set_option linter.all false
set_option maxRecDepth 100000
set_option maxHeartbeats 4000000
namespace NC
open PySem PySem.Spec PyProof.Rows L2

section
variable {X : Cx} {a b c d : Expr} {ta tb tc td : TE} {pos : Pos}
/-- a op1 b op2 c op3 d -/
def tChain3 (r1 r2 r3 : R2) (ta tb tc td : TE) : TE := fun σ H Q => ta σ H fun x H1 => tb σ H1 fun y H2 => r1 x y H2 fun z H3 => ∃ k, z = .bl k ∧
  (if k = true then tc σ H3 fun y2 H4 => r2 y y2 H4 fun z2 H5 => ∃ k2, z2 = .bl k2 ∧ (if k2 = true then td σ H5 fun y3 H6 => r3 y2 y3 H6 Q else Q (.bl false) H5) else Q (.bl false) H3)
theorem pe_chain3 {op1 op2 op3 : CmpOp} {r1 r2 r3 : R2} (ho1 : OpR X (compareOp op1) r1) (ho2 : OpR X (compareOp op2) r2) (ho3 : OpR X (compareOp op3) r3) (ha : PE X a ta) (hb : PE X b tb) (hc : PE X c tc) (hd : PE X d td)
    (hm : lastMarks [op1, op2, op3] [b, c, d] = false := by with_unfolding_all rfl) : PE X (.Compare a [op1, op2, op3] [b, c, d] pos) (tChain3 r1 r2 r3 ta tb tc td) := by
  refine ⟨fun pins s σ H Q I h => ?_⟩
  refine Compare_chain (thn (ha.run pins s σ H _ I h) fun v s1 ⟨x, H1, I1, q1r, q1⟩ => chain_link (thn (hb.run pins s1 σ H1 _ I1 q1) fun u s2 ⟨y, H2, I2, q2r, q2⟩ =>
    thn (ho1 pins s2 σ H2 x y v u _ I2 q1r q2r q2) fun e s3 ⟨z, H3, I3, r3', k, ez, q3⟩ => ?_)) hm
  subst ez
  cases r3'
  refine wpAny_truthy_bool ?_
  cases k with
  | false => exact ite_ff ⟨.bl false, H3, I3, rfl, q3⟩
  | true =>
    refine ite_tt (chain_link (thn (hc.run pins s3 σ H3 _ I3 q3) fun u2 s4 ⟨y2, H4, I4, r4, q4⟩ => thn (ho2 pins s4 σ H4 y y2 u u2 _ I4 q2r r4 q4) fun e2 s5 ⟨z2, H5, I5, r5, k2, ez2, q5⟩ => ?_))
    subst ez2
    cases r5
    refine wpAny_truthy_bool ?_
    cases k2 with
    | false => exact ite_ff ⟨.bl false, H5, I5, rfl, q5⟩
    | true => exact ite_tt (chain_last (thn (hd.run pins s5 σ H5 _ I5 q5) fun u3 s6 ⟨y3, H6, I6, r6, q6⟩ => ho3 pins s6 σ H6 y2 y3 u2 u3 Q I6 r4 r6 q6))
end

section
variable {X : Cx} {k : Nat} {C f : Addr} {fd : FuncData} {ps : List Str} {sp : Sp}
/-- a def run one C frame deeper, from a body -/
theorem run_in1 {CX : CXT} {E : XK} {pins : List (Addr × Obj)} {σ : L2.St} {H : Hp} {s : Shared} {Q : VK} {us : List Value} {vs : List V} (F : FnOk X.prog X.w X.K X.mg X.base CX k f fd ps sp) (hr : Room (k + 1) X.A) (hb : Binds X.K fd ps [])
    (hx : Passes CX X E) (I : Inv X pins σ H s) (r : Vals vs us) (h : sp vs H Q E) : wpAny (model X.prog X.w) X.A.in1 (call (.ref f) us) (EP X pins σ Q) X.xe s := by
  have hl : us.length = ps.length := by rw [← r.length]; exact F.len _ _ _ _ h
  refine wpAny_call (codeAny_mono (F.run X.A.in1 X.stack s H ⟨us, []⟩ us vs Q E hr.in1 I.env0.in1 (by simpa using hb s us I.kIn (by simpa using hl)) r h) fun r s' hq => ?_)
  cases r with
  | error e => exact hx pins σ H s e s' I hq
  | ok fl =>
    cases fl with
    | ret u => exact I.after hq
    | next => exact False.elim hq
    | brk => exact False.elim hq
    | cont => exact False.elim hq
/-- len(o), o an instance of a class with its own __len__ -/
def rLenOwn (C : Addr) (sp : Sp) (E : XK) : List V → Hp → VK → Prop := fun xs H Q => ∃ a dx fs, xs = [.ref a] ∧ H a = some (.ins C dx fs) ∧ sp [.ref a] H (fun v H' => ∃ n : Nat, v = .int n ∧ n < 2 ^ 62 ∧ Q (.int n) H') E
theorem call_lenOwn {CX : CXT} {E : XK} (F : FnOk X.prog X.w X.K X.mg X.base CX k f fd ps sp) (hr : Room (k + 1) X.A) (hb : Binds X.K fd ps []) (hs : PySem.W.findIn X.K (.ref C) "__len__" = some (some (.ref f))) (hf : PySem.W.isFn X.K (.ref f) = true)
    (hx : Passes CX X E) : CallR X (.builtin "len") (rLenOwn C sp E) := by
  intro pins s σ H xs vs Q I r q
  obtain ⟨a, dx, fs, rfl, ha, q⟩ := q
  cases r with
  | cons r0 rr =>
    cases rr
    cases r0
    obtain ⟨mA, J, _⟩ := ins_get I.hok ha
    obtain ⟨od, J, _⟩ := J.look
    obtain ⟨m, hF⟩ := I.fr
    refine PySem.W.len_K hF I.ok.mod.kin J hs hf (thn (run_in1 (us := [.ref a]) (vs := [.ref a]) F hr hb hx I (.cons rfl .nil) q) fun u s' hh => ?_)
    obtain ⟨v, H', I', rv, n, ev, hn, q'⟩ := hh
    subst ev
    obtain ⟨t, rfl⟩ := rv
    refine ⟨⟨by omega, by omega⟩, ⟨.int n, H', I'.tok _, ⟨_, rfl⟩, q'⟩⟩
end

/-! ### ChannelError.__init__(self, text), an own class over ValueError that inherits __init__ -/
/-- the base class of the exceptions, at B -/
structure CeB (K : PySem.W.Frag) (mg : Str → Option Value) (B : Addr) : Prop where
  g : mg "ChannelError" = some (.ref B)
  ga : PySem.W.specialIn K (.ref B) "__getattribute__" = some (some (.builtin "type.__getattribute__"))
  rd : PySem.W.readsIn K B (.type "type") = true
  vI : PySem.W.findCls K (.ref B) (.type "type") "__init__" = some (.val (.builtin "ValueError.__init__"))
section
variable {X : Cx} {e : Expr} {es : List Expr} {ta : TA} {p1 p2 pos : Pos} {B : Addr}
theorem pe_ceinit {pl : Sem Bool} (T : CeB X.K X.mg B) (hg : Gl X "ChannelError") (ha : PA X (e :: es) ta)
    (hc : eval (.Call (.Attribute (.Name "ChannelError" p1) "__init__" p2) (e :: es) [] pos) X.env = (do
      let ov ← eval (.Name "ChannelError" p1) X.env
      standAt p2.atName
      let (f, first) ← holding [ov] (getMethod ov "__init__" pl)
      callWith pos f first (backTo pos (starEach (e :: es) X.env)) (backToKw pos (keywordEach [] X.env))) := by rfl)
    (he : starEach (e :: es) X.env = (false, eval e X.env) :: starEach es X.env := by rfl) (hpl : (backTo pos (starEach es X.env)).any (·.1) = false := by rfl) :
    PE X (.Call (.Attribute (.Name "ChannelError" p1) "__init__" p2) (e :: es) [] pos) (tVeI X.K ta) := by
  refine ⟨fun pins s σ H Q I h => ?_⟩
  refine PySem.W.methodCall_KW (ld_glob I hg T.g ?_) hc
  refine PySem.W.method_cls I.kIn T.ga (PySem.W.cls_value I.kIn T.rd T.vI (by decide +kernel) ?_)
  show wpAny _ _ (callWith pos (Value.builtin "ValueError.__init__") [] (backTo pos (starEach (e :: es) X.env)) []) _ _ _
  refine PyProof.Rows.callWith_method1 (thn (ha.run pos pins _ σ H _ (I.tok _) h) fun us s1 ⟨vs, H1, I1, r1, a, C, ws, ev, hl, T, ea, q⟩ => ?_) he hpl
  subst ev
  cases r1 with
  | @cons _ u0 _ ur ra rw' =>
    obtain rfl : u0 = Value.ref a := ra
    have hlen : ur.length ≤ sizeLine := by
      rw [← Paired.length rw', sizeLine_eq]
      omega
    exact oinit_ok T I1 ea hlen fun s' J => ⟨.non, H1, J, rfl, q⟩
end
end NC

namespace NC
open PySem PySem.Spec PyProof.Rows L2

/-- at a: a list of three ints, whatever they are (a well of drawn numbers) -/
def WellO (a : Addr) : HO := .ext fun h => ∃ (x y z : Int) (t1 t2 t3 : Tok) (n : Nat), h.get? a = some ({ cls := .type "list", data := .seq #[.int x t1, .int y t2, .int z t3] n } : Obj)
/-- an object that nothing leans on: not a tuple, not an instance's dict, not locked, no table -/
def Loose : HO → Bool
  | .tup _ => false
  | .own _ => false
  | .frz _ _ => false
  | .tbl _ => false
  | _ => true
theorem loose_well {a : Addr} : Loose (WellO a) = true := rfl
theorem loose_lst {xs : List V} : Loose (.lst xs) = true := rfl
section
variable {P : Program} {w : World} {H H' : Hp} {h h' : Heap} {a : Addr} {o o1 : HO}
theorem ne_loose {b : Addr} {u : HO} (ha : H a = some o) (lo : Loose o = true) (hb : H b = some u) (lu : Loose u = false) : b ≠ a := fun z => by
  rw [z, ha] at hb
  cases hb
  rw [lo] at lu
  cases lu
/-- the object at a told otherwise -/
theorem hok_swap (x : HOk P w H h) (ha : H a = some o) (lo : Loose o = true) (new : ObjOk P w (upd H a o1) h a o1) : HOk P w (upd H a o1) h := fun b u q => by
  by_cases hb : b = a
  · subst hb
    rw [upd_same] at q
    cases q
    exact new
  · rw [upd_ne hb] at q
    exact (x b u q).stay (fun _ _ _ z => z) (fun c hc => by rw [upd_ne (ne_loose ha lo hc rfl)]; exact hc) fun c xs hc => by rw [upd_ne (ne_loose ha lo hc rfl)]; exact hc
theorem none_swap {b : Addr} (ha : H a = some o) (n : H b = none) : upd H a o1 b = none := by
  rw [upd_ne (fun z => by rw [z, ha] at n; cases n)]
  exact n
theorem un_swap {fs ex : List Addr} {h1 : Heap} (ha : H a = some o) (lo : Loose o = true) (ha' : H' a = some o1) (lo' : Loose o1 = true) {o2 : HO} (lo2 : Loose o2 = true) (un : Un fs ex (upd H a o2) H' h h1) (o3 : HO) (lo3 : Loose o3 = true) : Un fs ex H (upd H' a o3) h h1 where
  keep := fun b u q n hf hx => un.keep b u q (none_swap ha n) hf hx
  slot := fun b u q n hf hx => un.slot b u q (none_swap ha n) hf hx
  free := fun b u q n hx => none_swap ha' (un.free b u q (none_swap ha n) hx)
  there := un.there
  tups := fun b xs q => by
    have e := un.tups b xs (by rw [upd_ne (ne_loose ha lo q rfl)]; exact q)
    rw [upd_ne (ne_loose ha' lo' e rfl)]
    exact e
  frzs := fun b u xs q => by
    have e := un.frzs b u xs (by rw [upd_ne (ne_loose ha lo q rfl)]; exact q)
    rw [upd_ne (ne_loose ha' lo' e rfl)]
    exact e
  tbls := fun b ps q => by
    obtain ⟨m, e⟩ := un.tbls b ps (by rw [upd_ne (ne_loose ha lo q rfl)]; exact q)
    exact ⟨m, by rw [upd_ne (ne_loose ha' lo' e rfl)]; exact e⟩
theorem well_open (x : HOk P w H h) (ha : H a = some (WellO a)) : ∃ p q r : Int, ObjOk P w (upd H a (.lst [.int p, .int q, .int r])) h a (.lst [.int p, .int q, .int r]) := by
  have y : ObjOk P w H h a (.ext fun h => ∃ (x y z : Int) (t1 t2 t3 : Tok) (n : Nat), h.get? a = some ({ cls := .type "list", data := .seq #[.int x t1, .int y t2, .int z t3] n } : Obj)) := x a _ ha
  obtain ⟨⟨p, q, r, t1, t2, t3, n, e⟩, _⟩ := y
  exact ⟨p, q, r, by show 3 ≤ sizeLine; decide, [.int p t1, .int q t2, .int r t3], n, .cons ⟨_, rfl⟩ (.cons ⟨_, rfl⟩ (.cons ⟨_, rfl⟩ .nil)), e⟩
theorem well_shut {p q r : Int} {H1 : Hp} (x : ObjOk P w H h a (.lst [.int p, .int q, .int r])) : ObjOk P w H1 h a (WellO a) := by
  obtain ⟨_, its, n, rv, e⟩ := x
  cases rv with
  | cons r1 rv =>
    cases rv with
    | cons r2 rv =>
      cases rv with
      | cons r3 rv =>
        cases rv
        obtain ⟨t1, rfl⟩ := r1
        obtain ⟨t2, rfl⟩ := r2
        obtain ⟨t3, rfl⟩ := r3
        exact ⟨⟨p, q, r, t1, t2, t3, n, e⟩, ⟨_, e⟩, fun h1 h2 ⟨x, y, z, u1, u2, u3, m, e1⟩ k => ⟨x, y, z, u1, u2, u3, m, k _ e1⟩⟩
end
section
variable {P : Program} {w : World} {K : PySem.W.Frag} {mg : Str → Option Value} {base : Heap} {k : Nat} {f : Addr} {fd : FuncData} {ps : List Str} {sp sp' : Sp}
theorem env0_swap {A : Around} {outer : List Env} {s : Shared} {H : Hp} {a : Addr} {o o1 : HO} (e : Env0 P w K mg base A outer s H) (ha : H a = some o) (lo : Loose o = true) (new : ObjOk P w (upd H a o1) s.heap a o1) : Env0 P w K mg base A outer s (upd H a o1) :=
  ⟨e.frames, e.mod, fun b u q => ⟨(e.bs b u q).1, none_swap ha (e.bs b u q).2⟩, e.bsz, e.funs, fun b hb => none_swap ha (e.frf b hb), hok_swap e.hok ha lo new, e.bare⟩
/-- a def that is proved over the well's list keeps a promise over the well -/
theorem well_in (F : FnOk P w K mg base CX0 k f fd ps sp) (h : ∀ vs H Q E, sp' vs H Q E → vs.length = ps.length ∧ ∃ a, H a = some (WellO a) ∧ ∀ x y z : Int, sp vs (upd H a (.lst [.int x, .int y, .int z]))
      (fun v H' => ∃ x' y' z' : Int, H' a = some (.lst [.int x', .int y', .int z']) ∧ Q v (upd H' a (WellO a))) E) : FnOk P w K mg base CX0 k f fd ps sp' := by
  refine ⟨fun vs H Q E q => (h vs H Q E q).1, fun A outer s H args us vs Q E hr e0 hb hv q => ?_⟩
  obtain ⟨_, a, ha, hq⟩ := h vs H Q E q
  obtain ⟨x, y, z, ho⟩ := well_open e0.hok ha
  refine codeAny_mono (F.run A outer s _ args us vs _ E hr (env0_swap e0 ha loose_well ho) hb hv (hq x y z)) fun r s' hh => ?_
  cases r with
  | error e => exact hh
  | ok fl =>
    cases fl with
    | ret u =>
      obtain ⟨v, H', os, bare, un, hok, rv, x', y', z', e', q'⟩ := hh
      exact ⟨v, _, os, bare, un_swap ha loose_well e' loose_lst loose_lst un (WellO a) loose_well, hok_swap hok e' loose_lst (well_shut (hok a _ e')), rv, q'⟩
    | next => exact hh
    | brk => exact hh
    | cont => exact hh
/-- a def that is promised a well may be handed a new list of three ints -/
theorem well_out (F : FnOk P w K mg base CX0 k f fd ps sp) (h : ∀ vs H Q E, sp' vs H Q E → vs.length = ps.length ∧ ∃ (a : Addr) (x y z : Int), H a = some (.lst [.int x, .int y, .int z]) ∧ sp vs (upd H a (WellO a)) (fun v H' => H' a = some (WellO a) ∧ Q v H') E) : FnOk P w K mg base CX0 k f fd ps sp' := by
  refine ⟨fun vs H Q E q => (h vs H Q E q).1, fun A outer s H args us vs Q E hr e0 hb hv q => ?_⟩
  obtain ⟨_, a, x, y, z, ha, hq⟩ := h vs H Q E q
  refine codeAny_mono (F.run A outer s _ args us vs _ E hr (env0_swap e0 ha loose_lst (well_shut (e0.hok a _ ha))) hb hv hq) fun r s' hh => ?_
  cases r with
  | error e => exact hh
  | ok fl =>
    cases fl with
    | ret u =>
      obtain ⟨v, H', os, bare, un, hok, rv, e', q'⟩ := hh
      have un' := un_swap ha loose_lst e' loose_well loose_well un (WellO a) loose_well
      have eu : upd H' a (WellO a) = H' := by
        funext b
        by_cases hb : b = a
        · rw [hb, upd_same, e']
        · rw [upd_ne hb]
      rw [eu] at un'
      exact ⟨v, H', os, bare, un', hok, rv, q'⟩
    | next => exact hh
    | brk => exact hh
    | cont => exact hh
end
end NC

namespace NC
open PySem PySem.Spec PyProof.Rows L2

/-- H' is H with a new object o at p -/
structure NewO (H : Hp) (p : Addr) (o : HO) (H' : Hp) : Prop where
  no : H p = none
  s : Same H H'
  at' : H' p = some o
  k : ∀ b, b ≠ p → H' b = H b
theorem newO {H : Hp} {p : Addr} {o : HO} (hp : H p = none) : NewO H p o (upd H p o) := ⟨hp, fun b u e => by rw [upd_ne (ne_of_none e hp)]; exact e, upd_same, fun b hb => upd_ne hb⟩
theorem hu65 {k : Nat} {A : Around} (hr : Room k A) : A.units + 65 < cLine := by have := hr.un; omega

section
variable (P : Program) (w : World) (K : PySem.W.Frag) (mg : Str → Option Value) (base : Heap)
/-- a def of the module, by its name -/
structure Cal (CX : CXT) (k : Nat) (x : Str) (sp : Sp) : Prop where
  ex : ∃ (f : Addr) (fd : FuncData) (ps : List Str), FnOk P w K mg base CX k f fd ps sp ∧ mg x = some (.ref f) ∧ PySem.W.keepIn K (.ref f) = true ∧ Binds K fd ps []
/-- a method m of the class at C -/
structure CalM (CX : CXT) (k : Nat) (C : Addr) (m : Str) (sp : Sp) : Prop where
  ex : ∃ (f : Addr) (fd : FuncData) (ps : List Str), FnOk P w K mg base CX k f fd ps sp ∧ Meth K C m f ∧ Binds K fd ps [] ∧ Cls K C
/-- a class of the module with its __init__ -/
structure CalC (CX : CXT) (k : Nat) (x : Str) (C : Addr) (sp : Sp) : Prop where
  ex : ∃ (f : Addr) (fd : FuncData) (ps : List Str), FnOk P w K mg base CX k f fd ps sp ∧ mg x = some (.ref C) ∧ Mk K C f ∧ Binds K fd ps []
/-- an own exception class, its __init__ stores one field -/
structure CalX (k : Nat) (x : Str) (C : Addr) (f : Str) (sp : Sp) : Prop where
  ex : ∃ (fI : Addr) (fd : FuncData) (ps : List Str), FnOk P w K mg base CX0 k fI fd ps sp ∧ mg x = some (.ref C) ∧ PySem.W.findIn K (.ref C) "__init__" = some (some (.ref fI)) ∧ PySem.W.typeIn K (.ref fI) = some (.type "function") ∧ Binds K fd ps []
  oex : OexC K C
  nf : PySem.W.findIn K (.ref C) f = some none
end
section
variable {X : Cx} {CX : CXT} {j k : Nat} {C : Addr} {ps : List Str} {sp : Sp} {E : XK} {x m : Str} {p pos apos : Pos} {e o : Expr} {es : List Expr} {ta : TE} {t : TA}
theorem pe_cal (hr : Room j X.A) (hk : k ≤ j) (c : Cal X.prog X.w X.K X.mg X.base CX k x sp) (hx : Passes CX X E) (hg : Gl X x) (ha : PA X (e :: es) t) (hdb : (x == ("__debug__" : Str)) = false := by decide)
    (he : starEach (e :: es) X.env = (false, eval e X.env) :: starEach es X.env := by rfl) (hpl : (backTo pos (starEach es X.env)).any (·.1) = false := by rfl) : PE X (.Call (.Name x p) (e :: es) [] pos) (tCall sp [] E t) := by
  obtain ⟨f, fd, ps, F, hm, hkp, hb⟩ := c.ex
  exact pe_call F (hr.mono hk) hg hm hkp hb .nil hx ha hdb he hpl
theorem pe_calM {pl : Sem Bool} (ho : PE X o ta) (hr : Room j X.A) (hk : k ≤ j) (c : CalM X.prog X.w X.K X.mg X.base CX k C m sp) (hx : Passes CX X E) (ha : PA X (e :: es) t)
    (hc : eval (.Call (.Attribute o m apos) (e :: es) [] pos) X.env = (do
      let ov ← eval o X.env
      standAt apos.atName
      let (f, first) ← holding [ov] (getMethod ov m pl)
      callWith pos f first (backTo pos (starEach (e :: es) X.env)) (backToKw pos (keywordEach [] X.env))) := by rfl)
    (he : starEach (e :: es) X.env = (false, eval e X.env) :: starEach es X.env := by rfl) (hpl : (backTo pos (starEach es X.env)).any (·.1) = false := by rfl) : PE X (.Call (.Attribute o m apos) (e :: es) [] pos) (tMeth C m sp [] E ta t) := by
  obtain ⟨f, fd, ps, F, hm, hb, hcl⟩ := c.ex
  exact pe_meth (pl := pl) ho hcl hm F (hr.mono hk) hb .nil hx ha he hpl hc
theorem pe_calM0 {pl : Sem Bool} (ho : PE X o ta) (hr : Room j X.A) (hk : k ≤ j) (c : CalM X.prog X.w X.K X.mg X.base CX k C m sp) (hx : Passes CX X E)
    (hc : eval (.Call (.Attribute o m apos) [] [] pos) X.env = (do
      let ov ← eval o X.env
      standAt apos.atName
      let (f, first) ← holding [ov] (getMethod ov m pl)
      callWith pos f first (backTo pos (starEach [] X.env)) (backToKw pos (keywordEach [] X.env))) := by rfl) : PE X (.Call (.Attribute o m apos) [] [] pos) (tMeth C m sp [] E ta tNil) := by
  obtain ⟨f, fd, ps, F, hm, hb, hcl⟩ := c.ex
  exact pe_meth0 (pl := pl) ho hcl hm F (hr.mono hk) hb .nil hx hc
theorem pe_calC (hr : Room j X.A) (hk : k + 1 ≤ j) (c : CalC X.prog X.w X.K X.mg X.base CX k x C sp) (hx : Passes CX X E) (hg : Gl X x) (ha : PA X (e :: es) t) (hdb : (x == ("__debug__" : Str)) = false := by decide)
    (he : starEach (e :: es) X.env = (false, eval e X.env) :: starEach es X.env := by rfl) (hpl : (backTo pos (starEach es X.env)).any (·.1) = false := by rfl) : PE X (.Call (.Name x p) (e :: es) [] pos) (tMake C sp [] E t) := by
  obtain ⟨f, fd, ps, F, hm, M, hb⟩ := c.ex
  exact pe_make M F (hr.mono hk) hg hm hb .nil hx ha hdb he hpl
end
/-- a reading may be weakened -/
def tCutA (ta : TA) : TA := fun σ H Q => ∃ R : List V → Hp → Prop, ta σ H R ∧ ∀ vs H1, R vs H1 → Q vs H1
theorem pa_cut {X : Cx} {es : List Expr} {ta : TA} (ha : PA X es ta) : PA X es (tCutA ta) := ⟨fun pos pins s σ H Q I ⟨R, h, hq⟩ => thn (ha.run pos pins s σ H R I h) fun us s1 ⟨vs, H1, I1, r, q⟩ => ⟨vs, H1, I1, r, hq vs H1 q⟩⟩
/-- what an exception's __init__ does: it stores its one argument -/
def spErr (K : PySem.W.Frag) (C : Addr) (f : Str) : Sp := fun vs H Q _ => ∃ (a : Addr) (v : V), vs = [.ref a, v] ∧ OexC K C ∧ PySem.W.findIn K (.ref C) f = some none ∧ H a = some (exo a C none) ∧
  ∀ d, H d = none → d ≠ a → Q .non (upd (upd H d (exd d [(f, v)])) a (exo a C (some d)))
/-- raise C(e) -/
def tRaiseX (C : Addr) (f : Str) (W : WX) (ta : TA) : TS := fun _ σ H => ta σ H fun vs H1 => ∃ v, vs = [v] ∧ ∀ d H', NewO H1 d (.xd [(f, v)]) H' → W (.ref C) (some d) σ H'
section
variable {X : Cx} {j k : Nat} {C : Addr} {f : Str} {ps : List Str} {E : XK} {x : Str} {p pos pos2 : Pos} {e : Expr} {es : List Expr} {ta : TA} {W : WX}
theorem ps_raiseOwn (hc : X.calm = true) (hr : Room j X.A) (hk : k + 1 ≤ j) (c : CalX X.prog X.w X.K X.mg X.base k x C f (spErr X.K C f)) (tk : Takes X W) (hg : Gl X x) (ha : PA X (e :: es) ta) (hdb : (x == ("__debug__" : Str)) = false := by decide)
    (he : starEach (e :: es) X.env = (false, eval e X.env) :: starEach es X.env := by rfl) (hpl : (backTo pos (starEach es X.env)).any (·.1) = false := by rfl) :
    PS X (.Raise (some (.Call (.Name x p) (e :: es) [] pos)) none pos2) (tRaiseX C f W ta) := by
  obtain ⟨fI, fd, ps, F, hm, iC, tI, hb⟩ := c.ex
  have base := ps_raise (pos := pos2) (W := W) hc tk (pmk_oex (p := p) (pos := pos) c.oex iC tI F (hr.mono hk) hb .nil (fun _ _ _ _ _ _ _ h => h.elim) hg hm (pa_cut ha) hdb he hpl)
  refine ⟨fun pins s σ H D I h => base.run pins s σ H D I ?_⟩
  have mono : ∀ vs H1, (∃ v, vs = [v] ∧ ∀ d H', NewO H1 d (.xd [(f, v)]) H' → W (.ref C) (some d) σ H') →
      (vs.length ≤ 1000 ∧ ∀ a, H1 a = none → spErr X.K C f (.ref a :: (vs ++ [])) (upd H1 a (exo a C none))
        (fun v H2 => v = .non ∧ ∃ (d : Addr) (fs : List (Str × V)), H2 a = some (exo a C (some d)) ∧ H2 d = some (exd d fs) ∧ H1 d = none ∧ W (.ref C) (some d) σ (upd (del H2 a) d (.xd fs))) (fun _ _ _ => False)) := by
    rintro vs H1 ⟨v, rfl, q⟩
    refine ⟨by show 1 ≤ 1000; decide, fun a ha => ⟨a, v, rfl, c.oex, c.nf, upd_same, fun d hd hda => ?_⟩⟩
    rw [upd_ne hda] at hd
    refine ⟨rfl, d, [(f, v)], upd_same, by rw [upd_ne hda, upd_same], hd, ?_⟩
    have e : upd (del (upd (upd (upd H1 a (exo a C none)) d (exd d [(f, v)])) a (exo a C (some d))) a) d (.xd [(f, v)]) = upd H1 d (.xd [(f, v)]) := by
      funext b
      by_cases hb1 : b = d
      · rw [hb1, upd_same, upd_same]
      · rw [upd_ne hb1, upd_ne hb1]
        by_cases hb2 : b = a
        · rw [hb2, del_same, ha]
        · rw [del_ne hb2, upd_ne hb2, upd_ne hb1, upd_ne hb2]
    rw [e]
    exact q d _ (newO hd)
  exact ⟨_, h, mono⟩
end
end NC

namespace NC
open PySem PySem.Spec PyProof.Rows L2

/-! ### readings, one step at a time -/
section
variable {K : PySem.W.Frag} {σ : L2.St} {H H1 : Hp} {Q : VK} {D : Ends} {ta tb tc td te : TE} {t u : TS} {x y z v : V} {r : R2} {g : TG} {tt uu : TT} {QT : Bool → Hp → Prop} {tA : TA} {QA : List V → Hp → Prop}
theorem rd_seq (h : t { D with nx := u D } σ H) : tSeq t u D σ H := h
theorem rd_asg (h : te σ H fun x H1 => g x σ H1 D.nx) : tAsg te g D σ H := h
theorem rd_gname {i : Nat} {QN : L2.St → Hp → Prop} (h : QN (σ.set i (some v)) H) : gName i v σ H QN := h
theorem rd_next (h : D.nx σ H) : tNext D σ H := h
theorem rd_ret (h : te σ H D.rt) : tRet te D σ H := h
theorem rd_retN (h : D.rt .non H) : tRetN D σ H := h
theorem rd_drop (h : te σ H fun _ H1 => D.nx σ H1) : tDrop te D σ H := h
theorem rd_ifs (h : tt σ H fun b H1 => if b = true then t D σ H1 else u D σ H1) : tIfS tt t u D σ H := h
theorem rd_var {i : Nat} (e : σ[i]? = some (some v)) (h : Q v H) : tVar i σ H Q := ⟨v, e, h⟩
theorem rd_c (h : Q v H) : tC v σ H Q := h
theorem rd_nil (h : QA [] H) : tNil σ H QA := h
theorem rd_cons (h : te σ H fun x H1 => tA σ H1 fun xs H2 => QA (x :: xs) H2) : tCons te tA σ H QA := h
theorem rd_op (h : ta σ H fun x H1 => tb σ H1 fun y H2 => r x y H2 Q) : tOp r ta tb σ H Q := h
theorem rd_un {f : V → Hp → VK → Prop} (h : ta σ H fun x H1 => f x H1 Q) : tUn f ta σ H Q := h
theorem rd_I0 {f : Int → Int → V} {i j : Int} (h : Q (f i j) H) : rI0 f (.int i) (.int j) H Q := ⟨i, j, rfl, rfl, h⟩
theorem rd_I {C : Int → Int → Prop} {f : Int → Int → V} {i j : Int} (c : C i j) (h : Q (f i j) H) : rI C f (.int i) (.int j) H Q := ⟨i, j, rfl, rfl, c, h⟩
theorem rd_U {f : Int → V} {i : Int} (h : Q (f i) H) : rU f (.int i) H Q := ⟨i, rfl, h⟩
theorem rd_eqI {i j : Int} (h : Q (.bl (decide (i = j))) H) : rEq (.int i) (.int j) H Q := ⟨rfl, by
  have e : decide (V.int i = V.int j) = decide (i = j) := by
    by_cases c : i = j
    · rw [decide_eq_true c, decide_eq_true (by rw [c])]
    · rw [decide_eq_false c, decide_eq_false (fun z => c (V.int.inj z))]
  rw [e]
  exact h⟩
theorem rd_neI {i j : Int} (h : Q (.bl (!decide (i = j))) H) : rNe (.int i) (.int j) H Q := ⟨rfl, by
  have e : decide (V.int i = V.int j) = decide (i = j) := by
    by_cases c : i = j
    · rw [decide_eq_true c, decide_eq_true (by rw [c])]
    · rw [decide_eq_false c, decide_eq_false (fun z => c (V.int.inj z))]
  rw [e]
  exact h⟩
theorem rd_eqS (s : scal x y = true) (h : Q (.bl (decide (x = y))) H) : rEq x y H Q := ⟨s, h⟩
theorem rd_neS (s : scal x y = true) (h : Q (.bl (!decide (x = y))) H) : rNe x y H Q := ⟨s, h⟩
theorem rd_test (h : te σ H fun x H' => ∃ k, x = .bl k ∧ QT k H') : tTest te σ H QT := h
theorem rd_tb (h : te σ H fun x H' => ∃ k, x = .bl k ∧ QT k H') : tB te σ H QT := h
theorem rd_bl {b : Bool} {R : Bool → Prop} (h : R b) : ∃ k, V.bl b = .bl k ∧ R k := ⟨b, rfl, h⟩
theorem rd_and (h : tt σ H fun c H1 => if c = true then uu σ H1 QT else QT false H1) : tAnd tt uu σ H QT := h
theorem rd_or (h : tt σ H fun c H1 => if c = true then QT true H1 else uu σ H1 QT) : tOr tt uu σ H QT := h
theorem rd_not (h : tt σ H fun c H1 => QT (!c) H1) : tNot tt σ H QT := h
theorem rd_andV (h : ta σ H fun x H1 => ∃ c, x = .bl c ∧ if c = true then tb σ H1 Q else Q (.bl false) H1) : tAndV ta tb σ H Q := h
theorem rd_orV (h : ta σ H fun x H1 => ∃ c, x = .bl c ∧ if c = true then Q (.bl true) H1 else tb σ H1 Q) : tOrV ta tb σ H Q := h
theorem rd_notV (h : ta σ H fun x H1 => ∃ c, x = .bl c ∧ Q (.bl (!c)) H1) : tNotV ta σ H Q := h
theorem rd_ifE (h : tt σ H fun c H1 => if c = true then ta σ H1 Q else tb σ H1 Q) : tIf tt ta tb σ H Q := h
theorem rd_chain {r1 r2 : R2} (h : ta σ H fun x H1 => tb σ H1 fun y H2 => r1 x y H2 fun z H3 => ∃ k, z = .bl k ∧ (if k = true then tc σ H3 fun w' H4 => r2 y w' H4 Q else Q (.bl false) H3)) : tChain r1 r2 ta tb tc σ H Q := h
theorem rd_chain3 {r1 r2 r3 : R2} (h : ta σ H fun x H1 => tb σ H1 fun y H2 => r1 x y H2 fun z H3 => ∃ k, z = .bl k ∧
  (if k = true then tc σ H3 fun y2 H4 => r2 y y2 H4 fun z2 H5 => ∃ k2, z2 = .bl k2 ∧ (if k2 = true then td σ H5 fun y3 H6 => r3 y2 y3 H6 Q else Q (.bl false) H5) else Q (.bl false) H3)) : tChain3 r1 r2 r3 ta tb tc td σ H Q := h
theorem rd_call {sp : Sp} {dvs : List V} {E : XK} (h : tA σ H fun vs H1 => sp (vs ++ dvs) H1 Q E) : tCall sp dvs E tA σ H Q := h
theorem rd_cb {f : List V → Hp → VK → Prop} (h : tA σ H fun vs H1 => f vs H1 Q) : tCB f tA σ H Q := h
theorem rd_tup (h : tA σ H fun xs H1 => xs.length ≤ sizeLine ∧ ∀ p, H1 p = none → Q (.ref p) (upd H1 p (.tup xs))) : tTup tA σ H Q := h
theorem rd_lst (h : tA σ H fun xs H1 => xs.length ≤ sizeLine ∧ ∀ p, H1 p = none → Q (.ref p) (upd H1 p (.lst xs))) : tLst tA σ H Q := h
/-- a new tuple or list -/
theorem rd_mk {f : Addr → HO} {xs : List V} (hl : xs.length ≤ sizeLine) (h : ∀ p H', NewO H p (f p) H' → Q (.ref p) H') : xs.length ≤ sizeLine ∧ ∀ p, H p = none → Q (.ref p) (upd H p (f p)) := ⟨hl, fun p hp => h p _ (newO hp)⟩
theorem rd_nw {f : Addr → HO} (h : ∀ p H', NewO H p (f p) H' → Q (.ref p) H') : ∀ p, H p = none → Q (.ref p) (upd H p (f p)) := fun p hp => h p _ (newO hp)
theorem rd_ixL {p : Addr} {xs : List V} {i : Int} (h1 : SqL K H p xs) (h2 : atI xs i = some v) (h : Q v H) : rIxL K (.ref p) (.int i) H Q := ⟨p, xs, i, v, rfl, rfl, h1, h2, h⟩
theorem rd_ixT {p : Addr} {xs : List V} {i : Int} (h1 : SqT K H p xs) (h2 : atI xs i = some v) (h : Q v H) : rIxT K (.ref p) (.int i) H Q := ⟨p, xs, i, v, rfl, rfl, h1, h2, h⟩
theorem rd_setL {p : Addr} {xs : List V} {k : Int} {j : Nat} {R : Hp → Prop} (h1 : H p = some (.lst xs)) (h2 : ixN xs.length k = some j) (h : R (upd H p (.lst (xs.set j v)))) : rSetL (.ref p) (.int k) v H R := ⟨p, xs, k, j, rfl, rfl, h1, h2, h⟩
theorem rd_gsub {to ti : TE} {ts : TSet} {QN : L2.St → Hp → Prop} (h : to σ H fun o H1 => ti σ H1 fun i H2 => ts o i v H2 fun H3 => QN σ H3) : gSub to ti ts v σ H QN := h
theorem rd_aug {i : Nat} {ti : TIp} (e : σ[i]? = some (some x)) (h : te σ H fun y H1 => ti x y H1 fun z H2 => D.nx (σ.set i (some z)) H2) : tAug i te ti D σ H := ⟨x, e, h⟩
theorem rd_ipI {f : Int → Int → Int} {i j : Int} (h : Q (.int (f i j)) H) : ipI f (.int i) (.int j) H Q := ⟨i, j, rfl, rfl, h⟩
theorem rd_isN (h : Q (.bl (decide (x = .non))) H) : (fun (x y : V) (H : Hp) (Q : VK) => y = .non ∧ Q (.bl (decide (x = .non))) H) x .non H Q := ⟨rfl, h⟩
theorem rif {b : Bool} {A B : Prop} (h1 : b = true → A) (h2 : b = false → B) : if b = true then A else B := by
  cases b with
  | true => exact iteT (h1 rfl)
  | false => exact iteF (h2 rfl)
theorem rifD {c : Prop} [Decidable c] {A B : Prop} (h1 : c → A) (h2 : ¬ c → B) : if decide c = true then A else B := by
  by_cases hc : c
  · rw [decide_eq_true hc]
    exact iteT (h1 hc)
  · rw [decide_eq_false hc]
    exact iteF (h2 hc)
theorem rifN {c : Prop} [Decidable c] {A B : Prop} (h1 : ¬ c → A) (h2 : c → B) : if (!decide c) = true then A else B := by
  by_cases hc : c
  · rw [decide_eq_true hc]
    exact iteF (h2 hc)
  · rw [decide_eq_false hc]
    exact iteT (h1 hc)
theorem rd_nf {A B : Prop} (h : A) : if (!false) = true then A else B := h
theorem rd_nt {A B : Prop} (h : B) : if (!true) = true then A else B := h
@[elab_as_elim] theorem genO {R : Hp → Prop} {H : Hp} {q : Addr} {o : HO} (hq : H q = none) (h : ∀ H', NewO H q o H' → R H') : R (upd H q o) := h _ (newO hq)
theorem rifDn {c : Prop} [Decidable c] {A B : Prop} (h2 : ¬ c → B) (h1 : c → A) : if decide c = true then A else B := rifD h1 h2
theorem rifn {b : Bool} {A B : Prop} (h2 : b = false → B) (h1 : b = true → A) : if b = true then A else B := rif h1 h2
/-- a new object, the heap behind it a letter -/
theorem rd_new {o : HO} {f : Addr → V} (h : ∀ (p : Addr) (H' : Hp), H p = none → Same H H' → H' p = some o → (∀ b, b ≠ p → H' b = H b) → Q (f p) H') : ∀ p, H p = none → Q (f p) (upd H p o) := fun p hp =>
  h p _ hp (fun b u e => by rw [upd_ne (ne_of_none e hp)]; exact e) upd_same (fun b hb => upd_ne hb)
theorem rd_write {o : HO} {p : Addr} {R : Hp → Prop} (h : ∀ H' : Hp, H' p = some o → (∀ b, b ≠ p → H' b = H b) → R H') : R (upd H p o) := h _ upd_same fun b hb => upd_ne hb
end
theorem sat {xs : List V} {i : Int} {j : Nat} {v : V} (e : i = (j : Int)) (h : xs[j]? = some v) : atI xs i = some v := by rw [e]; exact atI_nat h
end NC

namespace NC
open PySem PySem.Spec PyProof.Rows L2

/-- the built-in names that the texts use: the module does not hide them -/
structure Bt (mg : Str → Option Value) : Prop where
  no_len : mg "len" = none
  no_range : mg "range" = none
  no_sorted : mg "sorted" = none
  no_enumerate : mg "enumerate" = none
  no_isinstance : mg "isinstance" = none
  no_int : mg "int" = none
  no_bool : mg "bool" = none
  no_tuple : mg "tuple" = none
  no_list : mg "list" = none
  no_str : mg "str" = none
  no_all : mg "all" = none
  no_min : mg "min" = none
  no_max : mg "max" = none
  no_repr : mg "repr" = none
  no_zip : mg "zip" = none
  no_set : mg "set" = none
  no_ValueError : mg "ValueError" = none
theorem bt_of {K : PySem.W.Frag} {h : Heap} {mg : Str → Option Value} (X : K.In h) (G : h.Ns mainGlobals mg)
    (h1 : PySem.W.nsIn K mainGlobals "len" = some none) (h2 : PySem.W.nsIn K mainGlobals "range" = some none) (h3 : PySem.W.nsIn K mainGlobals "sorted" = some none) (h4 : PySem.W.nsIn K mainGlobals "enumerate" = some none)
    (h5 : PySem.W.nsIn K mainGlobals "isinstance" = some none) (h6 : PySem.W.nsIn K mainGlobals "int" = some none) (h7 : PySem.W.nsIn K mainGlobals "bool" = some none) (h8 : PySem.W.nsIn K mainGlobals "tuple" = some none)
    (h9 : PySem.W.nsIn K mainGlobals "list" = some none) (h10 : PySem.W.nsIn K mainGlobals "str" = some none) (h11 : PySem.W.nsIn K mainGlobals "all" = some none) (h12 : PySem.W.nsIn K mainGlobals "min" = some none)
    (h13 : PySem.W.nsIn K mainGlobals "max" = some none) (h14 : PySem.W.nsIn K mainGlobals "repr" = some none) (h15 : PySem.W.nsIn K mainGlobals "zip" = some none) (h16 : PySem.W.nsIn K mainGlobals "set" = some none)
    (h17 : PySem.W.nsIn K mainGlobals "ValueError" = some none) : Bt mg :=
  ⟨PySem.W.mg_none_of X G h1, PySem.W.mg_none_of X G h2, PySem.W.mg_none_of X G h3, PySem.W.mg_none_of X G h4, PySem.W.mg_none_of X G h5, PySem.W.mg_none_of X G h6, PySem.W.mg_none_of X G h7, PySem.W.mg_none_of X G h8,
   PySem.W.mg_none_of X G h9, PySem.W.mg_none_of X G h10, PySem.W.mg_none_of X G h11, PySem.W.mg_none_of X G h12, PySem.W.mg_none_of X G h13, PySem.W.mg_none_of X G h14, PySem.W.mg_none_of X G h15, PySem.W.mg_none_of X G h16, PySem.W.mg_none_of X G h17⟩

/-- a def of the text stands under its name -/
structure DefAt (K : PySem.W.Frag) (mg : Str → Option Value) (x : Str) (st : Stmt) : Prop where
  ex : ∃ (f : Addr) (fd : FuncData), Fun K x x st f fd ∧ mg x = some (.ref f)
/-- a method of the class at C -/
structure MetAt (K : PySem.W.Frag) (C : Addr) (m qual : Str) (st : Stmt) : Prop where
  ex : ∃ (f : Addr) (fd : FuncData), Fun K m qual st f fd ∧ PySem.W.findIn K (.ref C) m = some (some (.ref f)) ∧ PySem.W.isFn K (.ref f) = true
section
variable {P : Program} {w : World} {K : PySem.W.Frag} {mg : Str → Option Value} {base : Heap} {x qual m : Str} {st : Stmt} {C : Addr} {CX : CXT} {k : Nat} {ps : List Str} {sp : Sp}
theorem DefAt.cal (D : DefAt K mg x st)
    (hb : ∀ (kV doc pm : Value) (an : Option Addr) (cdv ct : Value) (us : List Value), us.length = ps.length → bindArgs (PySem.W.fnOf x x (defArgs st) (defBody st) (defScope st) .none kV doc pm an cdv ct) ⟨us, []⟩ = pure (ps.zip us))
    (h : ∀ (f : Addr) (fd : FuncData), Fun K x x st f fd → FnOk P w K mg base CX k f fd ps sp) : Cal P w K mg base CX k x sp := by
  obtain ⟨f, fd, F, hm⟩ := D.ex
  exact ⟨f, fd, ps, h f fd F, hm, F.kp, F.binds hb⟩
theorem MetAt.cal (D : MetAt K C m qual st) (cl : Cls K C)
    (hb : ∀ (kV doc pm : Value) (an : Option Addr) (cdv ct : Value) (us : List Value), us.length = ps.length → bindArgs (PySem.W.fnOf m qual (defArgs st) (defBody st) (defScope st) .none kV doc pm an cdv ct) ⟨us, []⟩ = pure (ps.zip us))
    (h : ∀ (f : Addr) (fd : FuncData), Fun K m qual st f fd → FnOk P w K mg base CX k f fd ps sp) : CalM P w K mg base CX k C m sp := by
  obtain ⟨f, fd, F, h1, h2⟩ := D.ex
  exact ⟨f, fd, ps, h f fd F, ⟨h1, h2, F.kp⟩, F.binds hb, cl⟩
theorem MetAt.cls (D : MetAt K C "__init__" qual st) (g : mg x = some (.ref C)) (mk : PySem.W.makesIn K C = true) (kc : PySem.W.keepIn K (.ref C) = true)
    (hb : ∀ (kV doc pm : Value) (an : Option Addr) (cdv ct : Value) (us : List Value), us.length = ps.length → bindArgs (PySem.W.fnOf "__init__" qual (defArgs st) (defBody st) (defScope st) .none kV doc pm an cdv ct) ⟨us, []⟩ = pure (ps.zip us))
    (h : ∀ (f : Addr) (fd : FuncData), Fun K "__init__" qual st f fd → FnOk P w K mg base CX k f fd ps sp) : CalC P w K mg base CX k x C sp := by
  obtain ⟨f, fd, F, h1, h2⟩ := D.ex
  exact ⟨f, fd, ps, h f fd F, g, ⟨mk, h1, h2, kc⟩, F.binds hb⟩
end
/-- an own exception class stands under its name, its __init__ is st -/
structure ExcAt (K : PySem.W.Frag) (mg : Str → Option Value) (x : Str) (C : Addr) (f qual : Str) (st : Stmt) : Prop where
  ex : ∃ (fI : Addr) (fd : FuncData), Fun K "__init__" qual st fI fd ∧ mg x = some (.ref C) ∧ PySem.W.findIn K (.ref C) "__init__" = some (some (.ref fI)) ∧ PySem.W.typeIn K (.ref fI) = some (.type "function")
  oex : OexC K C
  nf : PySem.W.findIn K (.ref C) f = some none
theorem ExcAt.cal {P : Program} {w : World} {K : PySem.W.Frag} {mg : Str → Option Value} {base : Heap} {x qual f : Str} {st : Stmt} {C : Addr} {k : Nat} {ps : List Str} (D : ExcAt K mg x C f qual st)
    (hb : ∀ (kV doc pm : Value) (an : Option Addr) (cdv ct : Value) (us : List Value), us.length = ps.length → bindArgs (PySem.W.fnOf "__init__" qual (defArgs st) (defBody st) (defScope st) .none kV doc pm an cdv ct) ⟨us, []⟩ = pure (ps.zip us))
    (h : ∀ (fI : Addr) (fd : FuncData), Fun K "__init__" qual st fI fd → FnOk P w K mg base CX0 k fI fd ps (spErr K C f)) : CalX P w K mg base k x C f (spErr K C f) := by
  obtain ⟨fI, fd, F, h1, h2, h3⟩ := D.ex
  exact ⟨⟨fI, fd, ps, h fI fd F, h1, h2, h3, F.binds hb⟩, D.oex, D.nf⟩

section
variable {X : Cx}
/-- what leaves a callee leaves this body the same -/
theorem passE {E : XK} (tk : Takes X (fun cls d _ H => E cls d H)) : Passes (L2.CX X.prog X.w) X E := passes_call tk fun _ _ _ _ h => h
theorem pe_globI {x : Str} {i : Int} {pos : Pos} (hg : Gl X x) (hm : ∃ t, X.mg x = some (.int i t)) (hd : (x == ("__debug__" : Str)) = false := by decide) : PE X (.Name x pos) (tC (.int i)) := by
  obtain ⟨t, h⟩ := hm
  exact pe_glob hg h ⟨t, rfl⟩ hd
theorem pe_ty {x : Str} (n : String) {pos : Pos} (hg : Gl X x) (hm : X.mg x = none) (hv : bootBuiltins x = some (.type n)) (hn : x ≠ "__name__" := by decide) (hd : (x == ("__debug__" : Str)) = false := by decide) : PE X (.Name x pos) (tC (.ty n)) := pe_bltn hg hm hv rfl hn hd
/-- not e, e any test, as a value -/
def tNotT (t : TT) : TE := fun σ H Q => t σ H fun c H1 => Q (.bl (!c)) H1
end
/-- all but the tables of code objects stands as it stood; the tables may have grown -/
def Sm (T : List (Addr × Str)) (H H' : Hp) : Prop := LamX.ExtN H H' ∧ (LamX.Tabs T H → LamX.Tabs T H')
/-- at a nothing is tracked, or a table -/
def Fr (H : Hp) (a : Addr) : Prop := ∀ u, H a = some u → ∃ ps, u = .tbl ps
section
variable {T : List (Addr × Str)} {H H1 H2 : Hp}
theorem Sm.refl (H : Hp) : Sm T H H := ⟨LamX.ExtN.refl H, id⟩
theorem Sm.trans (a : Sm T H H1) (b : Sm T H1 H2) : Sm T H H2 := ⟨a.1.trans b.1, fun t => b.2 (a.2 t)⟩
theorem Sm.of (s : Same H H1) : Sm T H H1 := ⟨LamX.ExtN.of s, fun t => t.ext s⟩
theorem Sm.tup (s : Sm T H H1) {a : Addr} {xs : List V} (h : H a = some (.tup xs)) : H1 a = some (.tup xs) := s.1 _ _ h fun _ z => nomatch z
theorem Sm.lst (s : Sm T H H1) {a : Addr} {xs : List V} (h : H a = some (.lst xs)) : H1 a = some (.lst xs) := s.1 _ _ h fun _ z => nomatch z
theorem Sm.ins (s : Sm T H H1) {a C d : Addr} {fs : List (Str × V)} (h : H a = some (.ins C d fs)) : H1 a = some (.ins C d fs) := s.1 _ _ h fun _ z => nomatch z
theorem Sm.well (s : Sm T H H1) {a : Addr} (h : H a = some (WellO a)) : H1 a = some (WellO a) := s.1 _ _ h fun _ z => nomatch z
theorem Sm.frz (s : Sm T H H1) {a : Addr} {o : Obj} {u : HO} (h : H a = some (.frz o u)) : H1 a = some (.frz o u) := s.1 _ _ h fun _ z => nomatch z
theorem Sm.rd (s : Sm T H H1) {a : Addr} {u : HO} (n : ∀ ps, u ≠ .tbl ps) (h : Rd H a u) : Rd H1 a u := h.elim (fun h => .inl (s.1 _ _ h n)) fun ⟨o, h⟩ => .inr ⟨o, s.frz h⟩
theorem Sm.sqL (s : Sm T H H1) {K : PySem.W.Frag} {a : Addr} {xs : List V} (h : SqL K H a xs) : SqL K H1 a xs := h.elim (fun h => .inl (s.rd (fun _ z => nomatch z) h)) .inr
theorem Sm.sqT (s : Sm T H H1) {K : PySem.W.Frag} {a : Addr} {xs : List V} (h : SqT K H a xs) : SqT K H1 a xs := h.elim (fun h => .inl (s.rd (fun _ z => nomatch z) h)) .inr
/-- an object that H did not know has changed -/
theorem Sm.other (s : Sm T H H1) {a : Addr} {o : HO} (n : Fr H a) (h1 : H1 a = some o) (no : (∀ ps, o ≠ .tbl ps) ∧ ∀ c q, o ≠ LamX.CodeO c q) (k : ∀ b, b ≠ a → H2 b = H1 b) : Sm T H H2 := by
  refine ⟨fun b u hb hn => ?_, fun t => ?_⟩
  · rw [k b (fun z => by rw [z] at hb; obtain ⟨ps, e⟩ := n u hb; exact hn ps e)]
    exact s.1 b u hb hn
  · intro p hp
    obtain ⟨ps, e1, e2, e3⟩ := s.2 t p hp
    refine ⟨ps, by rw [k _ (fun z => by rw [z, h1] at e1; exact no.1 ps (Option.some.inj e1))]; exact e1, e2, fun pos cv hc => ?_⟩
    obtain ⟨c, ec, hcc⟩ := e3 pos cv hc
    refine ⟨c, ec, ?_⟩
    rw [k c (fun z => by rw [z, h1] at hcc; exact no.2 _ _ (Option.some.inj hcc))]
    exact hcc
theorem lst_no {xs : List V} : (∀ ps, HO.lst xs ≠ .tbl ps) ∧ ∀ c q, HO.lst xs ≠ LamX.CodeO c q := ⟨fun _ z => (nomatch z), fun _ _ z => (nomatch z)⟩
theorem ins_no {C d : Addr} {fs : List (Str × V)} : (∀ ps, HO.ins C d fs ≠ .tbl ps) ∧ ∀ c q, HO.ins C d fs ≠ LamX.CodeO c q := ⟨fun _ z => (nomatch z), fun _ _ z => (nomatch z)⟩
theorem Sm.mutL (s : Sm T H H1) {a : Addr} {xs : List V} (n : Fr H a) (h1 : H1 a = some (.lst xs)) (k : ∀ b, b ≠ a → H2 b = H1 b) : Sm T H H2 := s.other n h1 lst_no k
theorem Sm.new (s : Sm T H H1) (e : Same H1 H2) : Sm T H H2 := s.trans (Sm.of e)
/-- nothing but, maybe, a table of code objects stands at a -/
theorem Sm.free (s : Sm T H H1) {a : Addr} (n : H1 a = none) : Fr H a := fun u e => by
  by_cases c : ∃ ps, u = .tbl ps
  · exact c
  · have := s.1 a u e fun ps z => c ⟨ps, z⟩
    rw [this] at n
    cases n
theorem fr_none {a : Addr} (n : H a = none) : Fr H a := fun u e => by rw [n] at e; cases e
theorem Sm.fr (s : Sm T H H1) {a : Addr} (n : Fr H1 a) : Fr H a := fun u e => by
  by_cases c : ∃ ps, u = .tbl ps
  · exact c
  · exact absurd (n u (s.1 a u e fun ps z => c ⟨ps, z⟩)) c
theorem Fr.ne {a b : Addr} {u : HO} (n : Fr H a) (hb : H b = some u) (hn : ∀ ps, u ≠ .tbl ps) : b ≠ a := fun z => by
  rw [z] at hb
  obtain ⟨ps, e⟩ := n u hb
  exact hn ps e
end
end NC

namespace NC
open PySem PySem.Spec PyProof.Rows L2

/-! ### data that the call has made, at any depth -/
mutual
inductive Dt (H : Hp) : V → PyData → Prop
  | non : Dt H .non .none
  | bl (b : Bool) : Dt H (.bl b) (.bool b)
  | int (i : Int) : Dt H (.int i) (.int i)
  | str (x : Str) : Dt H (.str x) (.str x)
  | lst {a : Addr} {xs : List V} {ds : List PyData} : H a = some (.lst xs) → DtAll H xs ds → Dt H (.ref a) (.list ds)
  | tup {a : Addr} {xs : List V} {ds : List PyData} : H a = some (.tup xs) → DtAll H xs ds → Dt H (.ref a) (.tuple ds)
inductive DtAll (H : Hp) : List V → List PyData → Prop
  | nil : DtAll H [] []
  | cons {v : V} {vs : List V} {d : PyData} {ds : List PyData} : Dt H v d → DtAll H vs ds → DtAll H (v :: vs) (d :: ds)
end
mutual
theorem Dt.dp {K : PySem.W.Frag} {H : Hp} : ∀ {d : PyData} {v : V}, Dt H v d → Dp K H v d
  | _, _, .non => .non
  | _, _, .bl b => .bl b
  | _, _, .int i => .int i
  | _, _, .str x => .str x
  | .list ds, _, .lst h r => .lst (SqL.of h) (DtAll.dp r)
  | .tuple ds, _, .tup h r => .tup (SqT.of h) (DtAll.dp r)
theorem DtAll.dp {K : PySem.W.Frag} {H : Hp} : ∀ {ds : List PyData} {vs : List V}, DtAll H vs ds → DpAll K H vs ds
  | [], _, .nil => .nil
  | d :: ds, _, .cons a r => .cons (Dt.dp a) (DtAll.dp r)
end
mutual
theorem Dt.sm {T : List (Addr × Str)} {H H' : Hp} (s : Sm T H H') : ∀ {d : PyData} {v : V}, Dt H v d → Dt H' v d
  | _, _, .non => .non
  | _, _, .bl b => .bl b
  | _, _, .int i => .int i
  | _, _, .str x => .str x
  | .list ds, _, .lst h r => .lst (s.lst h) (DtAll.sm s r)
  | .tuple ds, _, .tup h r => .tup (s.tup h) (DtAll.sm s r)
theorem DtAll.sm {T : List (Addr × Str)} {H H' : Hp} (s : Sm T H H') : ∀ {ds : List PyData} {vs : List V}, DtAll H vs ds → DtAll H' vs ds
  | [], _, .nil => .nil
  | d :: ds, _, .cons a r => .cons (Dt.sm s a) (DtAll.sm s r)
end
theorem Dt.same {H H' : Hp} (s : Same H H') {d : PyData} {v : V} (h : Dt H v d) : Dt H' v d := h.sm (T := []) (Sm.of s)
theorem DtAll.same {H H' : Hp} (s : Same H H') {d : List PyData} {v : List V} (h : DtAll H v d) : DtAll H' v d := h.sm (T := []) (Sm.of s)
section
variable {H : Hp} {vs ws : List V} {ds es : List PyData}
theorem DtAll.length : ∀ {vs : List V} {ds : List PyData}, DtAll H vs ds → vs.length = ds.length
  | _, _, .nil => rfl
  | _, _, .cons _ r => by rw [List.length_cons, List.length_cons, DtAll.length r]
theorem DtAll.append : ∀ {vs ws : List V} {ds es : List PyData}, DtAll H vs ds → DtAll H ws es → DtAll H (vs ++ ws) (ds ++ es)
  | _, _, _, _, .nil, s => s
  | _, _, _, _, .cons a r, s => .cons a (DtAll.append r s)
theorem DtAll.take : ∀ {vs : List V} {ds : List PyData} (n : Nat), DtAll H vs ds → DtAll H (vs.take n) (ds.take n)
  | _, _, 0, _ => .nil
  | _, _, _ + 1, .nil => .nil
  | _, _, n + 1, .cons a r => .cons a (DtAll.take n r)
theorem DtAll.drop : ∀ {vs : List V} {ds : List PyData} (n : Nat), DtAll H vs ds → DtAll H (vs.drop n) (ds.drop n)
  | _, _, 0, r => r
  | _, _, _ + 1, .nil => .nil
  | _, _, n + 1, .cons _ r => DtAll.drop n r
theorem DtAll.get : ∀ {vs : List V} {ds : List PyData} {i : Nat} {v : V}, DtAll H vs ds → vs[i]? = some v → ∃ d, ds[i]? = some d ∧ Dt H v d
  | _, _, _, _, .nil, e => by simp at e
  | _, _, 0, _, .cons a _, e => by simp at e; subst e; exact ⟨_, rfl, a⟩
  | _, _, i + 1, v, .cons _ r, e => by
    obtain ⟨d, h1, h2⟩ := DtAll.get (i := i) (v := v) r (by simpa using e)
    exact ⟨d, by simpa using h1, h2⟩
theorem DtAll.ints : ∀ ns : List Int, DtAll H (ns.map V.int) (ns.map PyData.int)
  | [] => .nil
  | n :: ns => .cons (.int n) (DtAll.ints ns)
theorem DtAll.bls : ∀ ns : List Bool, DtAll H (ns.map V.bl) (ns.map PyData.bool)
  | [] => .nil
  | n :: ns => .cons (.bl n) (DtAll.bls ns)
theorem Dt.ints {a : Addr} {ns : List Int} (h : H a = some (.lst (ns.map V.int))) : Dt H (.ref a) (.list (ns.map PyData.int)) := .lst h (DtAll.ints ns)
theorem Dt.tints {a : Addr} {ns : List Int} (h : H a = some (.tup (ns.map V.int))) : Dt H (.ref a) (.tuple (ns.map PyData.int)) := .tup h (DtAll.ints ns)
end
/-- the name of the type -/
def tyN : PyData → String
  | .none => "NoneType"
  | .bool _ => "bool"
  | .int _ => "int"
  | .str _ => "str"
  | .list _ => "list"
  | .tuple _ => "tuple"
  | .dict _ => "dict"
def kinds : List String := ["NoneType", "bool", "int", "str", "list", "tuple", "dict"]
theorem tyN_kind (d : PyData) : tyN d ∈ kinds := by cases d <;> simp [tyN, kinds]
theorem Dt.ty {K : PySem.W.Frag} {H : Hp} {v : V} {d : PyData} (h : Dt H v d) : TyX K H v (.type (tyN d)) := by
  cases h with
  | non => exact .base .non
  | bl b => exact .base (.bl b)
  | int i => exact .base (.int i)
  | str x => exact .base (.str x)
  | lst h _ => exact .base (.lst h)
  | tup h _ => exact .base (.tup h)
theorem TyX.sm {K : PySem.W.Frag} {T : List (Addr × Str)} {H H' : Hp} (s : Sm T H H') {v : V} {t : Value} (h : TyX K H v t) : TyX K H' v t := by
  cases h with
  | base h =>
    cases h with
    | non => exact .base .non
    | bl b => exact .base (.bl b)
    | int i => exact .base (.int i)
    | str x => exact .base (.str x)
    | flt x => exact .base (.flt x)
    | lst e => exact .base (.lst (s.lst e))
    | frz e => exact .base (.frz (s.frz e))
    | tup e => exact .base (.tup (s.tup e))
    | dK e => exact .base (.dK (s.1 _ _ e fun _ z => (nomatch z)))
    | dT e => exact .base (.dT (s.1 _ _ e fun _ z => (nomatch z)))
    | ins e cl ha hn htk hm => exact .base (.ins (s.ins e) cl ha hn htk hm)
  | byt b => exact .byt b
  | set e => exact .set (s.1 _ _ e fun _ z => (nomatch z))
  | kList e c => exact .kList e c
  | kTuple e c => exact .kTuple e c
  | kDict e c => exact .kDict e c
  | fTuple e => exact .fTuple (s.frz e)
  | fDict e => exact .fDict (s.frz e)
theorem rd_isi {K : PySem.W.Frag} {H : Hp} {x : V} {A B : String} {b : Bool} {Q : VK} (t : TyX K H x (.type A)) (k : kitB A B = some b) (h : Q (.bl b) H) : rIsi K [x, .ty B] H Q := ⟨x, .ty B, _, _, b, rfl, .ty B, t, kit_ty k, h⟩
/-- isinstance of a value of one of the seven kinds -/
theorem kit_int {T : String} (h : T ∈ kinds) : kitB T "int" = some (T == "int" || T == "bool") := by
  simp only [kinds, List.mem_cons, List.not_mem_nil, or_false] at h
  rcases h with rfl | rfl | rfl | rfl | rfl | rfl | rfl <;> decide +kernel
theorem kit_bool {T : String} (h : T ∈ kinds) : kitB T "bool" = some (T == "bool") := by
  simp only [kinds, List.mem_cons, List.not_mem_nil, or_false] at h
  rcases h with rfl | rfl | rfl | rfl | rfl | rfl | rfl <;> decide +kernel
theorem kit_list {T : String} (h : T ∈ kinds) : kitB T "list" = some (T == "list") := by
  simp only [kinds, List.mem_cons, List.not_mem_nil, or_false] at h
  rcases h with rfl | rfl | rfl | rfl | rfl | rfl | rfl <;> decide +kernel
theorem kit_tuple {T : String} (h : T ∈ kinds) : kitB T "tuple" = some (T == "tuple") := by
  simp only [kinds, List.mem_cons, List.not_mem_nil, or_false] at h
  rcases h with rfl | rfl | rfl | rfl | rfl | rfl | rfl <;> decide +kernel
theorem kit_str {T : String} (h : T ∈ kinds) : kitB T "str" = some (T == "str") := by
  simp only [kinds, List.mem_cons, List.not_mem_nil, or_false] at h
  rcases h with rfl | rfl | rfl | rfl | rfl | rfl | rfl <;> decide +kernel
/-- data without dicts, not deeper than k, its texts are texts -/
def Okd (k : Nat) (d : PyData) : Prop := d.canLay0 = true ∧ d.depth ≤ k
theorem canLayAll0_iff : ∀ {ds : List PyData}, PyData.canLayAll0 ds = true ↔ ∀ d ∈ ds, d.canLay0 = true
  | [] => by simp [PyData.canLayAll0]
  | d :: ds => by simp [PyData.canLayAll0, canLayAll0_iff (ds := ds)]
theorem depthAll_iff {k : Nat} : ∀ {ds : List PyData}, PyData.depthAll ds ≤ k ↔ ∀ d ∈ ds, d.depth ≤ k
  | [] => by simp [PyData.depthAll]
  | d :: ds => by simp [PyData.depthAll, depthAll_iff (ds := ds), Nat.max_le]
theorem okd_list {k : Nat} {ds : List PyData} : Okd (k + 1) (.list ds) ↔ ∀ d ∈ ds, Okd k d := by
  unfold Okd
  rw [PyData.canLay0, canLayAll0_iff, PyData.depth, Nat.add_le_add_iff_right, depthAll_iff]
  exact ⟨fun h d m => ⟨h.1 d m, h.2 d m⟩, fun h => ⟨fun d m => (h d m).1, fun d m => (h d m).2⟩⟩
theorem okd_tup {k : Nat} {ds : List PyData} : Okd (k + 1) (.tuple ds) ↔ ∀ d ∈ ds, Okd k d := by
  unfold Okd
  rw [PyData.canLay0, canLayAll0_iff, PyData.depth, Nat.add_le_add_iff_right, depthAll_iff]
  exact ⟨fun h d m => ⟨h.1 d m, h.2 d m⟩, fun h => ⟨fun d m => (h d m).1, fun d m => (h d m).2⟩⟩
theorem Okd.mono {k j : Nat} {d : PyData} (h : Okd k d) (l : k ≤ j) : Okd j d := ⟨h.1, Nat.le_trans h.2 l⟩
theorem Okd.sh {k : Nat} {d : PyData} (h : Okd k d) (l : k ≤ 64 := by omega) : SeqAt.shaped d = true := by
  unfold SeqAt.shaped
  rw [h.1, decide_eq_true (Nat.le_trans h.2 l)]
  rfl
theorem okd_int {k : Nat} (i : Int) : Okd k (.int i) := ⟨rfl, Nat.zero_le _⟩
theorem okd_bl {k : Nat} (i : Bool) : Okd k (.bool i) := ⟨rfl, Nat.zero_le _⟩
theorem okd_non {k : Nat} : Okd k .none := ⟨rfl, Nat.zero_le _⟩
theorem okd_str {k : Nat} {x : Str} (h : PyData.strOk x = true) : Okd k (.str x) := ⟨h, Nat.zero_le _⟩
/-- the first k items -/
theorem cutV_take (xs : List V) (k : Nat) : cutV xs none (some (k : Int)) = xs.take k := by
  unfold cutV
  rw [HT.sIx_none, HT.sIx_nat, List.drop_zero, Nat.sub_zero]
  by_cases h : k ≤ xs.length
  · rw [Nat.min_eq_left h]
  · rw [Nat.min_eq_right (by omega), List.take_of_length_le (Nat.le_refl _), List.take_of_length_le (by omega)]
theorem cutV_drop (xs : List V) (k : Nat) : cutV xs (some (k : Int)) none = xs.drop k := by
  unfold cutV
  rw [HT.sIx_none, HT.sIx_nat]
  by_cases h : k ≤ xs.length
  · rw [Nat.min_eq_left h, List.take_of_length_le (by rw [List.length_drop]; omega)]
  · rw [Nat.min_eq_right (by omega), List.drop_of_length_le (Nat.le_refl _), List.drop_of_length_le (by omega), List.take_nil]
end NC

namespace NC
open PySem PySem.Spec PyProof.Rows L2

/-- J takes n turns from H0 on, as long as nothing but new objects and tables change; item i x: what it gives -/
structure Wk (T : List (Addr × Str)) (J : It) (n : Nat) (item : Nat → V → Hp → Prop) (H0 : Hp) : Prop where
  go : ∀ i H, Sm T H0 H → i < n → J.go i H
  yld : ∀ i H x H', Sm T H0 H → i < n → J.yld i H x H' → Same H H' ∧ item i x H'
  stop : ∀ H, Sm T H0 H → J.stop n H
section
variable {T : List (Addr × Str)} {K : PySem.W.Frag} {H H0 : Hp} {a : Addr} {xs : List V}
theorem wk_list (h : SqL K H0 a xs) : Wk T (Itl K a) xs.length (fun i x _ => xs[i]? = some x) H0 where
  go := fun i H s hi => ⟨xs, xs[i], s.sqL h, by simp [hi]⟩
  yld := fun i H x H' s _ y => by
    obtain ⟨e, y⟩ := y
    subst e
    exact ⟨Same.refl _, y xs (s.sqL h)⟩
  stop := fun H s => ⟨xs, s.sqL h, Nat.le_refl _⟩
theorem wk_tup (h : SqT K H0 a xs) : Wk T (Itt K a) xs.length (fun i x _ => xs[i]? = some x) H0 where
  go := fun i H s hi => ⟨xs, xs[i], s.sqT h, by simp [hi]⟩
  yld := fun i H x H' s _ y => by
    obtain ⟨e, y⟩ := y
    subst e
    exact ⟨Same.refl _, y xs (s.sqT h)⟩
  stop := fun H s => ⟨xs, s.sqT h, Nat.le_refl _⟩
theorem wk_range (lo : Int) (n : Nat) : Wk T (Itr lo n) n (fun i x _ => x = .int (lo + (i : Int))) H0 where
  go := fun i H s hi => hi
  yld := fun i H x H' s _ y => by
    obtain ⟨e, y⟩ := y
    subst e
    exact ⟨Same.refl _, y⟩
  stop := fun H s => Nat.le_refl _
theorem same_new {H : Hp} {p : Addr} {o : HO} (n : H p = none) : Same H (upd H p o) := fun b u e => by
  rw [upd_ne (ne_of_none e n)]
  exact e
theorem wk_enum (h : SqL K H0 a xs) : Wk T (Ite K a) xs.length (fun i v H => ∃ t x, v = .ref t ∧ H t = some (.tup [.int (i : Int), x]) ∧ xs[i]? = some x) H0 where
  go := fun i H s hi => ⟨xs, xs[i], s.sqL h, by simp [hi]⟩
  yld := fun i H v H' s _ y => by
    obtain ⟨t, x, e, n, eH, hx⟩ := y
    subst eH
    exact ⟨same_new n, t, x, e, upd_same, hx xs (s.sqL h)⟩
  stop := fun H s => ⟨xs, s.sqL h, Nat.le_refl _⟩
end
section
variable {T : List (Addr × Str)} {J : It} {n : Nat} {item : Nat → V → Hp → Prop} {H H1 : Hp} {σ : L2.St} {g : TG}
/-- a for loop by an invariant -/
theorem for_w {tb : TS} {D : Ends} (w : Wk T J n item H) (Pv : Nat → L2.St → Hp → Prop) (h0 : Pv 0 σ H) (hsm : ∀ i σ' H', Pv i σ' H' → Sm T H H')
    (hs : ∀ i x σ1 H1 H2, i < n → Pv i σ1 H1 → Same H1 H2 → item i x H2 → g x σ1 H2 fun σ2 H3 => tb { D with nx := Pv (i + 1), ct := Pv (i + 1), bk := D.nx } σ2 H3) (hd : ∀ σ' H', Pv n σ' H' → D.nx σ' H') :
    ∃ W : Nat → Nat → L2.St → Hp → Prop, (∃ m, W 0 m σ H) ∧ ∀ i m σ H, W i m σ H →
      (J.stop i H ∧ D.nx σ H) ∨ (J.go i H ∧ ∃ N : L2.St → Hp → Prop, (∀ σ' H', N σ' H' → ∃ m', m' < m ∧ W (i + 1) m' σ' H') ∧ ∀ x H', J.yld i H x H' → g x σ H' fun σ2 H2 => tb { D with nx := N, ct := N, bk := D.nx } σ2 H2) := by
  refine ⟨fun i m σ' H' => m = n - i ∧ i ≤ n ∧ Pv i σ' H', ⟨n, by simp, Nat.zero_le _, h0⟩, ?_⟩
  rintro i m σ' H' ⟨rfl, hi, p⟩
  by_cases hlt : i < n
  · refine .inr ⟨w.go i H' (hsm _ _ _ p) hlt, Pv (i + 1), fun σ2 H2 p' => ⟨n - (i + 1), by omega, rfl, hlt, p'⟩, fun x H2 y => ?_⟩
    obtain ⟨s, it⟩ := w.yld i H' x H2 (hsm _ _ _ p) hlt y
    exact hs i x σ' H' H2 hlt p s it
  · have e : i = n := by omega
    subst e
    exact .inl ⟨w.stop H' (hsm _ _ _ p), hd σ' H' p⟩
/-- a comprehension by a word about its list so far -/
theorem lc_w {tt : TT} {te : TE} {vs : List Nat} {Qd : Addr → Hp → Prop} (w : Wk T J n item H) (hn : n < sizeLine) (P : Addr → Nat → List V → Hp → Prop)
    (h0 : ∀ D H', Fr H D → Same H H' → H' D = some (.lst []) → P D 0 [] H')
    (hP : ∀ D i acc Ha Hb, P D i acc Ha → (∀ b, b ≠ D → Hb b = Ha b) → P D i acc Hb)
    (hs : ∀ D i acc x H1 H2, i < n → Fr H D → Sm T H H1 → H1 D = some (.lst acc) → acc.length ≤ i → P D i acc H1 → Same H1 H2 → item i x H2 →
      ∀ (kt : VK) (kf : Hp → Prop), (∀ y H5, Sm T H1 H5 → P D (i + 1) (acc ++ [y]) H5 → kt y H5) → (∀ H4, Sm T H1 H4 → P D (i + 1) acc H4 → kf H4) →
      g x (wipe σ vs) H2 fun σ2 H3 => wipe σ2 vs = wipe σ vs ∧ tt σ2 H3 fun b H4 => if b = true then te σ2 H4 kt else kf H4)
    (hd : ∀ D acc H', Fr H D → Sm T H H' → H' D = some (.lst acc) → acc.length ≤ n → P D n acc H' → Qd D H') :
    ∀ D, H D = none → ∃ W : Nat → Nat → Hp → Prop, (∃ m, W 0 m (upd H D (.lst []))) ∧ ∀ i m H, W i m H →
      (J.stop i H ∧ Qd D H) ∨ (J.go i H ∧ ∃ Nx : Hp → Prop, (∀ H', Nx H' → ∃ m', m' < m ∧ W (i + 1) m' H') ∧ ∀ x H', J.yld i H x H' → g x (wipe σ vs) H' fun σ2 H2 => wipe σ2 vs = wipe σ vs ∧ tt σ2 H2 fun b H3 =>
        if b = true then te σ2 H3 fun y H4 => ∃ acc, H4 D = some (.lst acc) ∧ acc.length < sizeLine ∧ Nx (upd H4 D (.lst (acc ++ [y]))) else Nx H3) := by
  intro D hD
  have fD : Fr H D := fr_none hD
  refine ⟨fun i m H' => m = n - i ∧ i ≤ n ∧ ∃ acc, Sm T H H' ∧ H' D = some (.lst acc) ∧ acc.length ≤ i ∧ P D i acc H', ⟨n, by simp, Nat.zero_le _, [], Sm.of (same_new hD), upd_same, Nat.le_refl _, h0 D _ fD (same_new hD) upd_same⟩, ?_⟩
  rintro i m H1 ⟨rfl, hi, acc, s1, hD1, hl, p⟩
  by_cases hlt : i < n
  · refine .inr ⟨w.go i H1 s1 hlt, fun H' => ∃ acc', Sm T H H' ∧ H' D = some (.lst acc') ∧ acc'.length ≤ i + 1 ∧ P D (i + 1) acc' H', fun H' p' => ⟨n - (i + 1), by omega, rfl, hlt, p'⟩, fun x H2 y => ?_⟩
    obtain ⟨s, it⟩ := w.yld i H1 x H2 s1 hlt y
    exact hs D i acc x H1 H2 hlt fD s1 hD1 hl p s it _ _ (fun y H5 s5 p5 => ⟨acc, s5.lst hD1, by omega, acc ++ [y], (s1.trans s5).mutL fD (s5.lst hD1) (fun b hb => upd_ne hb), upd_same, by rw [List.length_append]; simpa using hl, hP D _ _ H5 _ p5 fun b hb => upd_ne hb⟩)
      (fun H4 s4 p4 => ⟨acc, s1.trans s4, s4.lst hD1, by omega, p4⟩)
  · have e : i = n := by omega
    subst e
    exact .inl ⟨w.stop H1 s1, hd D acc H1 fD s1 hD1 hl p⟩
/-- a comprehension that maps each item to a value told ahead -/
theorem lcm_w {te : TE} {vs : List Nat} {Qd : Addr → Hp → Prop} (w : Wk T J n item H) (hn : n < sizeLine) (f : Nat → V)
    (hs : ∀ i x H1 H2, i < n → Sm T H H1 → Same H1 H2 → item i x H2 → ∀ kt : VK, (∀ H5, Sm T H1 H5 → kt (f i) H5) → g x (wipe σ vs) H2 fun σ2 H3 => wipe σ2 vs = wipe σ vs ∧ te σ2 H3 kt)
    (hd : ∀ D H', Fr H D → Sm T H H' → H' D = some (.lst ((List.range n).map f)) → Qd D H') :
    ∀ D, H D = none → ∃ W : Nat → Nat → Hp → Prop, (∃ m, W 0 m (upd H D (.lst []))) ∧ ∀ i m H, W i m H →
      (J.stop i H ∧ Qd D H) ∨ (J.go i H ∧ ∃ Nx : Hp → Prop, (∀ H', Nx H' → ∃ m', m' < m ∧ W (i + 1) m' H') ∧ ∀ x H', J.yld i H x H' → g x (wipe σ vs) H' fun σ2 H2 => wipe σ2 vs = wipe σ vs ∧ tYes σ2 H2 fun b H3 =>
        if b = true then te σ2 H3 fun y H4 => ∃ acc, H4 D = some (.lst acc) ∧ acc.length < sizeLine ∧ Nx (upd H4 D (.lst (acc ++ [y]))) else Nx H3) := by
  refine lc_w w hn (fun _ i acc _ => acc = (List.range i).map f) (fun _ _ _ _ _ => rfl) (fun _ _ _ _ _ p _ => p) (fun D i acc x H1 H2 hi _ s1 _ _ p s it kt kf ht _ => ?_) (fun D acc H' fD s hD _ p => hd D H' fD s (by rw [hD, p]))
  exact hs i x H1 H2 hi s1 s it kt fun H5 s5 => ht _ H5 s5 (by rw [p, List.range_succ, List.map_append]; rfl)
/-- a comprehension with a test: what is kept, and what is made of it -/
theorem lcf_w {tt : TT} {te : TE} {vs : List Nat} {Qd : Addr → Hp → Prop} (w : Wk T J n item H) (hn : n < sizeLine) (keep : Nat → Bool) (f : Nat → V)
    (hs : ∀ i x H1 H2, i < n → Sm T H H1 → Same H1 H2 → item i x H2 → ∀ (kt : VK) (kf : Hp → Prop), (∀ H5, keep i = true → Sm T H1 H5 → kt (f i) H5) → (∀ H4, keep i = false → Sm T H1 H4 → kf H4) →
      g x (wipe σ vs) H2 fun σ2 H3 => wipe σ2 vs = wipe σ vs ∧ tt σ2 H3 fun b H4 => if b = true then te σ2 H4 kt else kf H4)
    (hd : ∀ D H', Fr H D → Sm T H H' → H' D = some (.lst (((List.range n).filter keep).map f)) → Qd D H') :
    ∀ D, H D = none → ∃ W : Nat → Nat → Hp → Prop, (∃ m, W 0 m (upd H D (.lst []))) ∧ ∀ i m H, W i m H →
      (J.stop i H ∧ Qd D H) ∨ (J.go i H ∧ ∃ Nx : Hp → Prop, (∀ H', Nx H' → ∃ m', m' < m ∧ W (i + 1) m' H') ∧ ∀ x H', J.yld i H x H' → g x (wipe σ vs) H' fun σ2 H2 => wipe σ2 vs = wipe σ vs ∧ tt σ2 H2 fun b H3 =>
        if b = true then te σ2 H3 fun y H4 => ∃ acc, H4 D = some (.lst acc) ∧ acc.length < sizeLine ∧ Nx (upd H4 D (.lst (acc ++ [y]))) else Nx H3) := by
  refine lc_w w hn (fun _ i acc _ => acc = ((List.range i).filter keep).map f) (fun _ _ _ _ _ => rfl) (fun _ _ _ _ _ p _ => p) (fun D i acc x H1 H2 hi _ s1 _ _ p s it kt kf ht hf => ?_) (fun D acc H' fD s hD _ p => hd D H' fD s (by rw [hD, p]))
  refine hs i x H1 H2 hi s1 s it kt kf (fun H5 c s5 => ht _ H5 s5 ?_) (fun H4 c s4 => hf H4 s4 ?_)
  · rw [p, List.range_succ, List.filter_append, List.map_append]
    simp [c]
  · rw [p, List.range_succ, List.filter_append, List.map_append]
    simp [c]
end
/-- J takes n turns, as long as I holds of the heap -/
structure WkI (J : It) (n : Nat) (item : Nat → V → Hp → Prop) (I : Hp → Prop) : Prop where
  go : ∀ i H, I H → i < n → J.go i H
  yld : ∀ i H x H', I H → i < n → J.yld i H x H' → Same H H' ∧ item i x H'
  stop : ∀ H, I H → J.stop n H
section
variable {K : PySem.W.Frag} {a : Addr} {xs : List V} {J : It} {n : Nat} {item : Nat → V → Hp → Prop} {I : Hp → Prop} {H : Hp} {σ : L2.St} {g : TG}
theorem wki_list : WkI (Itl K a) xs.length (fun i x _ => xs[i]? = some x) (fun H => SqL K H a xs) where
  go := fun i H s hi => ⟨xs, xs[i], s, by simp [hi]⟩
  yld := fun i H x H' s _ y => by
    obtain ⟨e, y⟩ := y
    subst e
    exact ⟨Same.refl _, y xs s⟩
  stop := fun H s => ⟨xs, s, Nat.le_refl _⟩
theorem wki_range (lo : Int) (n : Nat) : WkI (Itr lo n) n (fun i x _ => x = .int (lo + (i : Int))) (fun _ => True) where
  go := fun i H s hi => hi
  yld := fun i H x H' s _ y => by
    obtain ⟨e, y⟩ := y
    subst e
    exact ⟨Same.refl _, y⟩
  stop := fun H s => Nat.le_refl _
/-- a for loop by an invariant that may write -/
theorem for_i {tb : TS} {D : Ends} (w : WkI J n item I) (Pv : Nat → L2.St → Hp → Prop) (h0 : Pv 0 σ H) (hI : ∀ i σ' H', i ≤ n → Pv i σ' H' → I H')
    (hs : ∀ i x σ1 H1 H2, i < n → Pv i σ1 H1 → Same H1 H2 → item i x H2 → g x σ1 H2 fun σ2 H3 => tb { D with nx := Pv (i + 1), ct := Pv (i + 1), bk := D.nx } σ2 H3) (hd : ∀ σ' H', Pv n σ' H' → D.nx σ' H') :
    ∃ W : Nat → Nat → L2.St → Hp → Prop, (∃ m, W 0 m σ H) ∧ ∀ i m σ H, W i m σ H →
      (J.stop i H ∧ D.nx σ H) ∨ (J.go i H ∧ ∃ N : L2.St → Hp → Prop, (∀ σ' H', N σ' H' → ∃ m', m' < m ∧ W (i + 1) m' σ' H') ∧ ∀ x H', J.yld i H x H' → g x σ H' fun σ2 H2 => tb { D with nx := N, ct := N, bk := D.nx } σ2 H2) := by
  refine ⟨fun i m σ' H' => m = n - i ∧ i ≤ n ∧ Pv i σ' H', ⟨n, by simp, Nat.zero_le _, h0⟩, ?_⟩
  rintro i m σ' H' ⟨rfl, hi, p⟩
  by_cases hlt : i < n
  · refine .inr ⟨w.go i H' (hI _ _ _ hi p) hlt, Pv (i + 1), fun σ2 H2 p' => ⟨n - (i + 1), by omega, rfl, hlt, p'⟩, fun x H2 y => ?_⟩
    obtain ⟨s, it⟩ := w.yld i H' x H2 (hI _ _ _ hi p) hlt y
    exact hs i x σ' H' H2 hlt p s it
  · have e : i = n := by omega
    subst e
    exact .inl ⟨w.stop H' (hI _ _ _ hi p), hd σ' H' p⟩
end
section
variable {K : PySem.W.Frag} {σ : L2.St} {H : Hp} {Q : VK} {te : TE} {tA : TA} {R : It → Hp → Prop} {a : Addr} {xs : List V}
theorem rd_lc {wi : TI} {g : TG} {tt : TT} {vs : List Nat} (h : wi σ H fun J H1 => ∀ D, H1 D = none → ∃ W : Nat → Nat → Hp → Prop, (∃ m, W 0 m (upd H1 D (.lst []))) ∧ ∀ i m H, W i m H →
  (J.stop i H ∧ Q (.ref D) H) ∨ (J.go i H ∧ ∃ Nx : Hp → Prop, (∀ H', Nx H' → ∃ m', m' < m ∧ W (i + 1) m' H') ∧ ∀ x H', J.yld i H x H' → g x (wipe σ vs) H' fun σ2 H2 => wipe σ2 vs = wipe σ vs ∧ tt σ2 H2 fun b H3 =>
    if b = true then te σ2 H3 fun y H4 => ∃ acc, H4 D = some (.lst acc) ∧ acc.length < sizeLine ∧ Nx (upd H4 D (.lst (acc ++ [y]))) else Nx H3)) : tLc wi g tt te vs σ H Q := h
theorem rd_for {wi : TI} {g : TG} {tb : TS} {D : Ends} (h : wi σ H fun J H1 => ∃ W : Nat → Nat → L2.St → Hp → Prop, (∃ m, W 0 m σ H1) ∧ ∀ i m σ H, W i m σ H →
  (J.stop i H ∧ D.nx σ H) ∨ (J.go i H ∧ ∃ N : L2.St → Hp → Prop, (∀ σ' H', N σ' H' → ∃ m', m' < m ∧ W (i + 1) m' σ' H') ∧ ∀ x H', J.yld i H x H' → g x σ H' fun σ2 H2 => tb { D with nx := N, ct := N, bk := D.nx } σ2 H2)) : tFor wi g tb D σ H := h
theorem rd_iL (h : te σ H fun x H1 => ∃ a, x = .ref a ∧ (∃ xs, SqL K H1 a xs) ∧ R (Itl K a) H1) : iList K te σ H R := h
theorem rd_iT (h : te σ H fun x H1 => ∃ a, x = .ref a ∧ (∃ xs, SqT K H1 a xs) ∧ R (Itt K a) H1) : iTup K te σ H R := h
theorem rd_iR1 (h : tA σ H fun vs H1 => ∃ j : Int, vs = [.int j] ∧ -(2 ^ 62) ≤ j ∧ j < 2 ^ 62 ∧ R (Itr 0 j.toNat) H1) : iRng1 tA σ H R := h
theorem rd_iR2 (h : tA σ H fun vs H1 => ∃ i j : Int, vs = [.int i, .int j] ∧ (-(2 ^ 62) ≤ i ∧ i < 2 ^ 62 ∧ -(2 ^ 62) ≤ j ∧ j < 2 ^ 62) ∧ R (Itr i (j - i).toNat) H1) : iRng2 tA σ H R := h
theorem rd_iE (h : tA σ H fun vs H1 => ∃ a xs, vs = [.ref a] ∧ SqL K H1 a xs ∧ R (Ite K a) H1) : iEnum K tA σ H R := h
theorem rd_raise {C : Addr} {f : Str} {W : WX} {D : Ends} (h : tA σ H fun vs H1 => ∃ v, vs = [v] ∧ ∀ d H', NewO H1 d (.xd [(f, v)]) H' → W (.ref C) (some d) σ H') : tRaiseX C f W tA D σ H := h
theorem rd_raise1 {v : V} {R : V → Prop} (h : R v) : ∃ u, [v] = [u] ∧ R u := ⟨v, rfl, h⟩
theorem rd_gtup2 {g1 g2 : TG} {n : Nat} {x y : V} {QN : L2.St → Hp → Prop} (hq : SqT K H a [x, y]) (hn : 2 = n) (h : g1 x σ H fun σ1 H1 => gCons g2 gNil [y] σ1 H1 QN) : gTup K n (gCons g1 (gCons g2 gNil)) (.ref a) σ H QN := ⟨a, [x, y], rfl, hq, hn, x, [y], rfl, h⟩
theorem rd_gcons1 {g2 : TG} {y : V} {QN : L2.St → Hp → Prop} (h : g2 y σ H fun σ1 H1 => gNil [] σ1 H1 QN) : gCons g2 gNil [y] σ H QN := ⟨y, [], rfl, h⟩
theorem rd_gnil {QN : L2.St → Hp → Prop} (h : QN σ H) : gNil [] σ H QN := ⟨rfl, h⟩
theorem rd_sl {r : V → Option Int → Option Int → Hp → VK → Prop} {tl th : TO} (h : te σ H fun x H1 => tl σ H1 fun l H2 => th σ H2 fun u H3 => r x l u H3 Q) : tSl r te tl th σ H Q := h
theorem rd_nopart {QO : Option Int → Hp → Prop} (h : QO none H) : tNoPart σ H QO := h
theorem rd_part {QO : Option Int → Hp → Prop} (h : te σ H fun x H1 => ∃ i, x = .int i ∧ QO (some i) H1) : tPart te σ H QO := h
theorem rd_int1 {i : Int} {R : Int → Prop} (h : R i) : ∃ j, V.int i = .int j ∧ R j := ⟨i, rfl, h⟩
theorem rd_slL {lo hi : Option Int} (hq : SqL K H a xs) (h : ∀ p H', NewO H p (.lst (cutV xs lo hi)) H' → Q (.ref p) H') : rSlL K (.ref a) lo hi H Q := ⟨a, xs, rfl, hq, fun p hp => h p _ (newO hp)⟩
theorem rd_fld {f : Str} (h : te σ H fun x H1 => ∃ a C dx fs v, x = .ref a ∧ H1 a = some (.ins C dx fs) ∧ Cls K C ∧ NoAttr K C f ∧ fs.lookup f = some v ∧ Q v H1) : tFld K te f σ H Q := h
theorem rd_sfld {ta tv : TE} {f : Str} {D : Ends} (h : tv σ H fun y H1 => ta σ H1 fun x H2 => ∃ a C dx fs, x = .ref a ∧ H2 a = some (.ins C dx fs) ∧ Cls K C ∧ NoAttr K C f ∧ fs.length < 1000 ∧ D.nx σ (upd H2 a (.ins C dx (putF f y fs)))) : sFld K ta tv f D σ H := h
theorem rd_bm {T : String} {r : V → List V → Hp → VK → Prop} (h : te σ H fun x H1 => tyV K T x H1 ∧ tA σ H1 fun xs H2 => r x xs H2 Q) : tBM K T r te tA σ H Q := h
theorem rd_bm0 {T : String} {r : V → List V → Hp → VK → Prop} (h : te σ H fun x H1 => tyV K T x H1 ∧ r x [] H1 Q) : tBM0 K T r te σ H Q := h
theorem rd_append {y : V} (hq : H a = some (.lst xs)) (hl : xs.length < sizeLine) (h : Q .non (upd H a (.lst (xs ++ [y])))) : rAppend (.ref a) [y] H Q := ⟨a, xs, y, rfl, rfl, hq, hl, h⟩
theorem tyL (hq : H a = some (.lst xs)) : tyV K "list" (.ref a) H := .inl ⟨rfl, _, SqL.of hq⟩
theorem rd_yes {QT : Bool → Hp → Prop} (h : QT true H) : tYes σ H QT := h
end
/-- what a list of items gives, place by place -/
theorem map_at {xs : List V} {f : Nat → V} {α : Type} {l : List α} {h : α → V} (hl : xs.length = l.length) (hf : ∀ i (a : α), l[i]? = some a → f i = h a) : (List.range xs.length).map f = l.map h := by
  refine List.ext_getElem? fun i => ?_
  rw [List.getElem?_map, List.getElem?_map]
  by_cases c : i < xs.length
  · rw [List.getElem?_range c]
    obtain ⟨a, ha⟩ : ∃ a, l[i]? = some a := ⟨l[i]'(by omega), by simp [show i < l.length by omega]⟩
    rw [ha]
    show some (f i) = some (h a)
    rw [hf i a ha]
  · rw [List.getElem?_eq_none (by simpa using c), List.getElem?_eq_none (by omega)]
    rfl
end NC

namespace NC
open PySem PySem.Spec PyProof.Rows L2

/-! ### pairs, rows, networks in the heap -/
abbrev Lk := Int × Int
def kOf (H : Hp) (v : V) : Lk := match v with
  | .ref t => match H t with
    | some (.tup [.int a, .int b]) => (a, b)
    | _ => (0, 0)
  | _ => (0, 0)
theorem kOf_at {H : Hp} {t : Addr} {a b : Int} (h : H t = some (.tup [.int a, .int b])) : kOf H (.ref t) = (a, b) := by simp [kOf, h]
def IsPr (H : Hp) (v : V) (e : Lk) : Prop := ∃ t, v = .ref t ∧ H t = some (.tup [.int e.1, .int e.2])
/-- at a: a list of pairs of ints -/
def PairsAt (H : Hp) (a : Addr) (es : List Lk) : Prop := ∃ xs : List V, H a = some (.lst xs) ∧ Paired (IsPr H) xs es
theorem IsPr.sm {T : List (Addr × Str)} {H H' : Hp} (s : Sm T H H') {v : V} {e : Lk} (h : IsPr H v e) : IsPr H' v e := let ⟨t, h1, h2⟩ := h; ⟨t, h1, s.tup h2⟩
theorem PairsAt.sm {T : List (Addr × Str)} {H H' : Hp} (s : Sm T H H') {a : Addr} {es : List Lk} (h : PairsAt H a es) : PairsAt H' a es := let ⟨xs, h1, h2⟩ := h; ⟨xs, s.lst h1, Paired.mapP h2 fun _ _ q => q.sm s⟩
theorem IsPr.dt {H : Hp} {v : V} {e : Lk} (h : IsPr H v e) : Dt H v (.tuple [.int e.1, .int e.2]) := by
  obtain ⟨t, rfl, h⟩ := h
  exact .tup h (.cons (.int _) (.cons (.int _) .nil))
def lkD (e : Lk) : PyData := .tuple [.int e.1, .int e.2]
theorem paired_dt {H : Hp} : ∀ {xs : List V} {es : List Lk}, Paired (IsPr H) xs es → DtAll H xs (es.map lkD)
  | _, _, .nil => .nil
  | _, _, .cons r t => .cons r.dt (paired_dt t)
theorem PairsAt.dt {H : Hp} {a : Addr} {es : List Lk} (h : PairsAt H a es) : Dt H (.ref a) (.list (es.map lkD)) := by
  obtain ⟨xs, h1, h2⟩ := h
  exact .lst h1 (paired_dt h2)
theorem paired_mem {α β : Type} {F : α → β → Prop} : ∀ {xs : List α} {es : List β}, Paired F xs es → ∀ x ∈ xs, ∃ e ∈ es, F x e
  | _, _, .nil, x, h => by cases h
  | _, _, .cons r t, x, h => by
    rcases List.mem_cons.mp h with rfl | h
    · exact ⟨_, List.mem_cons_self, r⟩
    · obtain ⟨e, h1, h2⟩ := paired_mem t x h
      exact ⟨e, List.mem_cons_of_mem _ h1, h2⟩
theorem paired_get {α β : Type} {F : α → β → Prop} : ∀ {xs : List α} {es : List β} {i : Nat} {x : α}, Paired F xs es → xs[i]? = some x → ∃ e, es[i]? = some e ∧ F x e
  | _, _, _, _, .nil, h => by simp at h
  | _, _, 0, _, .cons r _, h => by simp at h; subst h; exact ⟨_, rfl, r⟩
  | _, _, i + 1, x, .cons _ t, h => by
    obtain ⟨e, h1, h2⟩ := paired_get (i := i) (x := x) t (by simpa using h)
    exact ⟨e, by simpa using h1, h2⟩
theorem paired_get' {α β : Type} {F : α → β → Prop} : ∀ {xs : List α} {es : List β} {i : Nat} {e : β}, Paired F xs es → es[i]? = some e → ∃ x, xs[i]? = some x ∧ F x e
  | _, _, _, _, .nil, h => by simp at h
  | _, _, 0, _, .cons r _, h => by simp at h; subst h; exact ⟨_, rfl, r⟩
  | _, _, i + 1, x, .cons _ t, h => by
    obtain ⟨e, h1, h2⟩ := paired_get' (i := i) (e := x) t (by simpa using h)
    exact ⟨e, by simpa using h1, h2⟩
theorem paired_app {α β : Type} {F : α → β → Prop} : ∀ {xs ys : List α} {es fs : List β}, Paired F xs es → Paired F ys fs → Paired F (xs ++ ys) (es ++ fs)
  | _, _, _, _, .nil, s => s
  | _, _, _, _, .cons r t, s => .cons r (paired_app t s)
theorem paired_kOf {H : Hp} : ∀ {xs : List V} {es : List Lk}, Paired (IsPr H) xs es → xs.map (kOf H) = es
  | _, _, .nil => rfl
  | _, _, .cons (a := x) (b := e) r t => by
    obtain ⟨p, rfl, h⟩ := r
    rw [List.map_cons, kOf_at h, paired_kOf t]
theorem kOf_paired {H : Hp} : ∀ {xs : List V}, (∀ x ∈ xs, ∃ t i j, x = V.ref t ∧ H t = some (.tup [.int i, .int j])) → Paired (IsPr H) xs (xs.map (kOf H))
  | [], _ => .nil
  | x :: xs, h => by
    obtain ⟨t, i, j, e, ht⟩ := h x List.mem_cons_self
    refine .cons ⟨t, e, ?_⟩ (kOf_paired fun y hy => h y (List.mem_cons_of_mem _ hy))
    rw [e, kOf_at ht]
    exact ht
/-- sorted(xs), xs pairs of ints -/
theorem rd_sortedP {K : PySem.W.Frag} {H : Hp} {a : Addr} {es : List Lk} {Q : VK} (hp : PairsAt H a es)
    (h : ∀ (p : Addr) (H' : Hp) (ks : List Lk), H p = none → Same H H' → ks.Perm es → ks.Pairwise (fun x y => SrtO.lexB y x = false) → PairsAt H' p ks → Q (.ref p) H') : rSortedPO K [.ref a] H Q := by
  obtain ⟨xs, hx, hpr⟩ := hp
  have items : ∀ x ∈ xs, ∃ t i j, x = V.ref t ∧ H t = some (.tup [.int i, .int j]) := fun x m => by
    obtain ⟨e, _, t, h1, h2⟩ := paired_mem hpr x m
    exact ⟨t, _, _, h1, h2⟩
  refine ⟨a, xs, kOf H, rfl, SqL.of hx, fun x m => ?_, fun ys p hs hb np => ?_⟩
  · obtain ⟨t, i, j, e, ht⟩ := items x m
    subst e
    exact ⟨t, rfl, by rw [kOf_at ht]; exact ht⟩
  · have sm : Same H (upd H p (.lst ys)) := same_new np
    refine h p _ (ys.map (kOf H)) np sm ?_ ?_ ⟨ys, upd_same, ?_⟩
    · have := hb.perm.map (kOf H)
      rwa [paired_kOf hpr] at this
    · exact List.pairwise_map.mpr hs
    · exact Paired.mapP (kOf_paired fun x m => items x (hb.perm.mem_iff.mp m)) fun _ _ q => q.sm (T := []) (Sm.of sm)

/-- the lists at ps hold these rows of ints -/
def RowsP (H : Hp) (ps : List Addr) (rows : List (List Int)) : Prop := Paired (fun (p : Addr) (r : List Int) => H p = some (.lst (r.map V.int))) ps rows
/-- at a: a list of such lists -/
def RowsAt (H : Hp) (a : Addr) (rows : List (List Int)) : Prop := ∃ ps : List Addr, H a = some (.lst (ps.map V.ref)) ∧ RowsP H ps rows
theorem RowsP.sm {T : List (Addr × Str)} {H H' : Hp} (s : Sm T H H') {ps : List Addr} {rows : List (List Int)} (h : RowsP H ps rows) : RowsP H' ps rows := Paired.mapP h fun _ _ q => s.lst q
theorem RowsAt.sm {T : List (Addr × Str)} {H H' : Hp} (s : Sm T H H') {a : Addr} {rows : List (List Int)} (h : RowsAt H a rows) : RowsAt H' a rows := let ⟨ps, h1, h2⟩ := h; ⟨ps, s.lst h1, h2.sm s⟩
theorem RowsP.dt {H : Hp} : ∀ {ps : List Addr} {rows : List (List Int)}, RowsP H ps rows → DtAll H (ps.map V.ref) (rows.map fun r => .list (r.map PyData.int))
  | _, _, .nil => .nil
  | _, _, .cons r t => .cons (Dt.ints r) (RowsP.dt t)
theorem RowsAt.dt {H : Hp} {a : Addr} {rows : List (List Int)} (h : RowsAt H a rows) : Dt H (.ref a) (.list (rows.map fun r => .list (r.map PyData.int))) := by
  obtain ⟨ps, h1, h2⟩ := h
  exact .lst h1 h2.dt
/-- one row grows -/
theorem RowsP.put {H H' : Hp} : ∀ {ps : List Addr} {rows : List (List Int)} {j : Nat} {p : Addr} {r' : List Int}, RowsP H ps rows → ps.Nodup → ps[j]? = some p → H' p = some (.lst (r'.map V.int)) → (∀ b, b ≠ p → H' b = H b) → RowsP H' ps (rows.set j r')
  | _, _, _, _, _, .nil, _, e, _, _ => by simp at e
  | q :: ps, r :: rows, 0, p, r', .cons h t, nd, e, hp, k => by
    obtain rfl : q = p := by simpa using e
    refine .cons hp ?_
    refine Paired.mapP (F := fun a b => H a = some (.lst (b.map V.int)) ∧ a ∈ ps) ?_ fun a b z => ?_
    · exact paired_in t
    · rw [k a (fun c => (List.nodup_cons.mp nd).1 (c ▸ z.2))]
      exact z.1
  | q :: ps, r :: rows, j + 1, p, r', .cons h t, nd, e, hp, k => by
    have e' : ps[j]? = some p := by simpa using e
    have hq : q ≠ p := fun c => (List.nodup_cons.mp nd).1 (c ▸ List.mem_of_getElem? e')
    exact .cons (by rw [k q hq]; exact h) (RowsP.put t (List.nodup_cons.mp nd).2 e' hp k)
where
  paired_in {H : Hp} {ps : List Addr} {rows : List (List Int)} (t : RowsP H ps rows) : Paired (fun a b => H a = some (.lst (b.map V.int)) ∧ a ∈ ps) ps rows := by
    induction t with
    | nil => exact .nil
    | cons r t ih => exact .cons ⟨r, List.mem_cons_self⟩ (Paired.mapP ih fun a b z => ⟨z.1, List.mem_cons_of_mem _ z.2⟩)

/-- all but what stands at p (and the tables) stands as it stood -/
def Smx (T : List (Addr × Str)) (p : Addr) (H H' : Hp) : Prop := (∀ b o, b ≠ p → H b = some o → (∀ ps, o ≠ .tbl ps) → H' b = some o) ∧ (LamX.Tabs T H → LamX.Tabs T H')
theorem Smx.of {T : List (Addr × Str)} {p : Addr} {H H' : Hp} (s : Sm T H H') : Smx T p H H' := ⟨fun b o _ h n => s.1 b o h n, s.2⟩
theorem Smx.trans {T : List (Addr × Str)} {p : Addr} {H H1 H2 : Hp} (a : Smx T p H H1) (b : Smx T p H1 H2) : Smx T p H H2 := ⟨fun c o n h t => b.1 c o n (a.1 c o n h t) t, fun t => b.2 (a.2 t)⟩
theorem tabs_at {T : List (Addr × Str)} {H H' : Hp} {a : Addr} {o : HO} (h1 : H a = some o) (no : (∀ ps, o ≠ .tbl ps) ∧ ∀ c q, o ≠ LamX.CodeO c q) (k : ∀ b, b ≠ a → H' b = H b) (t : LamX.Tabs T H) : LamX.Tabs T H' := by
  intro p hp
  obtain ⟨ps, e1, e2, e3⟩ := t p hp
  refine ⟨ps, by rw [k _ (fun z => by rw [z, h1] at e1; exact no.1 ps (Option.some.inj e1))]; exact e1, e2, fun pos cv hc => ?_⟩
  obtain ⟨c, ec, hcc⟩ := e3 pos cv hc
  refine ⟨c, ec, ?_⟩
  rw [k c (fun z => by rw [z, h1] at hcc; exact no.2 _ _ (Option.some.inj hcc))]
  exact hcc
/-- the object at p itself is written -/
theorem Smx.put {T : List (Addr × Str)} {p : Addr} {H H1 H2 : Hp} (s : Smx T p H H1) {o : HO} (h1 : H1 p = some o) (no : (∀ ps, o ≠ .tbl ps) ∧ ∀ c q, o ≠ LamX.CodeO c q) (k : ∀ b, b ≠ p → H2 b = H1 b) : Smx T p H H2 :=
  ⟨fun b u n h t => by rw [k b n]; exact s.1 b u n h t, fun t => tabs_at h1 no k (s.2 t)⟩
/-- a list that H did not know is written -/
theorem Smx.mutL {T : List (Addr × Str)} {p a : Addr} {H H1 H2 : Hp} {xs : List V} (s : Smx T p H H1) (n : Fr H a) (h1 : H1 a = some (.lst xs)) (k : ∀ b, b ≠ a → H2 b = H1 b) : Smx T p H H2 :=
  ⟨fun b u nb h t => by rw [k b (n.ne h t)]; exact s.1 b u nb h t, fun t => tabs_at h1 lst_no k (s.2 t)⟩
theorem Smx.fr {T : List (Addr × Str)} {p a : Addr} {H H1 : Hp} (s : Smx T p H H1) (ne : a ≠ p) (n : Fr H1 a) : Fr H a := fun u e => by
  by_cases c : ∃ ps, u = .tbl ps
  · exact c
  · exact n u (s.1 a u ne e fun ps z => c ⟨ps, z⟩)

/-! ### neighbours -/
def nbr (ks : List Lk) (v : Int) : List Int := ks.filterMap fun e => if e.1 = v then some e.2 else if e.2 = v then some e.1 else none
def nbrs (n : Nat) (ks : List Lk) : List (List Int) := (List.range n).map fun (i : Nat) => nbr ks (i : Int)
theorem nbrs_len (n : Nat) (ks : List Lk) : (nbrs n ks).length = n := by simp [nbrs]
theorem nbrs_at {n i : Nat} (ks : List Lk) (h : i < n) : (nbrs n ks)[i]? = some (nbr ks (i : Int)) := by simp [nbrs, h]
theorem nbr_app (ks : List Lk) (e : Lk) (v : Int) : nbr (ks ++ [e]) v = nbr ks v ++ (if e.1 = v then [e.2] else if e.2 = v then [e.1] else []) := by
  unfold nbr
  rw [List.filterMap_append]
  congr 1
  by_cases h1 : e.1 = v
  · simp [h1]
  · by_cases h2 : e.2 = v <;> simp [h1, h2]
/-- a link between two of n stations -/
def OkLk (n : Nat) (e : Lk) : Prop := 0 ≤ e.1 ∧ e.1 < e.2 ∧ e.2 < (n : Int)
theorem nbrs_step {n : Nat} {ks : List Lk} {e : Lk} (h : OkLk n e) :
    ((nbrs n ks).set e.1.toNat (nbr ks e.1 ++ [e.2])).set e.2.toNat (nbr ks e.2 ++ [e.1]) = nbrs n (ks ++ [e]) := by
  obtain ⟨h0, h1, h2⟩ := h
  refine List.ext_getElem? fun i => ?_
  by_cases hi : i < n
  · rw [nbrs_at _ hi, nbr_app, List.getElem?_set, List.getElem?_set]
    simp only [List.length_set, nbrs_len]
    by_cases c2 : e.2.toNat = i
    · have e2 : e.2 = (i : Int) := by omega
      have e1 : ¬ e.1 = (i : Int) := by omega
      rw [if_pos c2, if_pos (show e.2.toNat < n by omega), if_neg e1, if_pos e2, e2]
    · have e2 : ¬ e.2 = (i : Int) := by omega
      rw [if_neg c2]
      by_cases c1 : e.1.toNat = i
      · have e1 : e.1 = (i : Int) := by omega
        rw [if_pos c1, if_pos (show e.1.toNat < n by omega), if_pos e1, e1]
      · have e1 : ¬ e.1 = (i : Int) := by omega
        rw [if_neg c1, nbrs_at _ hi, if_neg e1, if_neg e2, List.append_nil]
  · rw [List.getElem?_eq_none (by simp [nbrs_len]; omega), List.getElem?_eq_none (by simp [nbrs_len]; omega)]
theorem nbr_mem {ks : List Lk} {v u : Int} : u ∈ nbr ks v ↔ ((v, u) ∈ ks ∨ (u, v) ∈ ks) ∧ True := by
  unfold nbr
  rw [List.mem_filterMap]
  constructor
  · rintro ⟨e, he, h⟩
    refine ⟨?_, trivial⟩
    by_cases c1 : e.1 = v
    · rw [if_pos c1] at h
      left
      rw [← c1, ← Option.some.inj h]
      exact he
    · rw [if_neg c1] at h
      by_cases c2 : e.2 = v
      · rw [if_pos c2] at h
        right
        rw [← c2, ← Option.some.inj h]
        exact he
      · rw [if_neg c2] at h
        cases h
  · rintro ⟨h | h, _⟩
    · exact ⟨_, h, by simp⟩
    · by_cases c : u = v
      · exact ⟨_, h, by simp [c]⟩
      · exact ⟨_, h, by simp [c]⟩
/-- the fields of a network -/
def netFs (kp nr : Addr) : List (Str × V) := putF "near" (.ref nr) (putF "kept" (.ref kp) [])
/-- a Network of n stations with the links ks (ascending) stands at p -/
def NetAt (C : Addr) (H : Hp) (p : Addr) (n : Nat) (ks : List Lk) : Prop := ∃ dx kp nr, H p = some (.ins C dx (netFs kp nr)) ∧ PairsAt H kp ks ∧ RowsAt H nr (nbrs n ks)
theorem NetAt.sm {T : List (Addr × Str)} {C : Addr} {H H' : Hp} (s : Sm T H H') {p : Addr} {n : Nat} {ks : List Lk} (h : NetAt C H p n ks) : NetAt C H' p n ks := let ⟨dx, kp, nr, h1, h2, h3⟩ := h; ⟨dx, kp, nr, s.ins h1, h2.sm s, h3.sm s⟩
/-- links that make a network: each one between two stations, none twice -/
def OkLks (n : Nat) (es : List Lk) : Prop := (∀ e ∈ es, OkLk n e) ∧ es.Nodup
/-- [[] for k in ..]: new lists, each another one -/
theorem lc_fresh {T : List (Addr × Str)} {J : It} {n k : Nat} {item : Nat → V → Hp → Prop} {H : Hp} {σ : L2.St} {vs : List Nat} {Qd : Addr → Hp → Prop} (w : Wk T J n item H) (hn : n < sizeLine)
    (hw : ∀ x, wipe ((wipe σ vs).set k (some x)) vs = wipe σ vs)
    (hd : ∀ D H' (ps : List Addr), Fr H D → Sm T H H' → H' D = some (.lst (ps.map V.ref)) → ps.length = n → ps.Nodup → D ∉ ps → (∀ a ∈ ps, Fr H a) → RowsP H' ps (List.replicate n []) → Qd D H') :
    ∀ D, H D = none → ∃ W : Nat → Nat → Hp → Prop, (∃ m, W 0 m (upd H D (.lst []))) ∧ ∀ i m H, W i m H →
      (J.stop i H ∧ Qd D H) ∨ (J.go i H ∧ ∃ Nx : Hp → Prop, (∀ H', Nx H' → ∃ m', m' < m ∧ W (i + 1) m' H') ∧ ∀ x H', J.yld i H x H' → gName k x (wipe σ vs) H' fun σ2 H2 => wipe σ2 vs = wipe σ vs ∧ tYes σ2 H2 fun b H3 =>
        if b = true then tLst tNil σ2 H3 fun y H4 => ∃ acc, H4 D = some (.lst acc) ∧ acc.length < sizeLine ∧ Nx (upd H4 D (.lst (acc ++ [y]))) else Nx H3) := by
  refine lc_w (T := T) w hn (fun D i acc H' => ∃ ps : List Addr, acc = ps.map V.ref ∧ ps.length = i ∧ ps.Nodup ∧ D ∉ ps ∧ (∀ a ∈ ps, Fr H a) ∧ RowsP H' ps (List.replicate i []))
    (fun D H' fD _ _ => ⟨[], rfl, rfl, List.nodup_nil, List.not_mem_nil, fun a h => absurd h List.not_mem_nil, .nil⟩)
    (fun D i acc Ha Hb h k => ?_) (fun D i acc x H4 H5 hi fD s4 hD hl hP s5 hit kt kf ht _ => ?_) (fun D acc H4 fD s4 hD hl hP => ?_)
  · obtain ⟨ps, e1, e2, e3, e4, e5, e6⟩ := h
    refine ⟨ps, e1, e2, e3, e4, e5, ?_⟩
    have := RowsP.put.paired_in e6
    exact Paired.mapP this fun a b z => by rw [k a (fun c => e4 (c ▸ z.2))]; exact z.1
  · obtain ⟨ps, e1, e2, e3, e4, e5, e6⟩ := hP
    refine rd_gname ⟨hw x, rd_yes (iteT (rd_lst (rd_nil (rd_mk (f := fun _ => .lst []) (Nat.zero_le _) fun a H6 na => ?_))))⟩
    have hne : ∀ b, H4 b ≠ none → b ≠ a := fun b hb z => by
      cases hb2 : H4 b with
      | none => exact hb hb2
      | some u =>
        have := s5 b u hb2
        rw [z, na.no] at this
        cases this
    have s46 : Sm T H4 H6 := (Sm.of s5).new na.s
    have aps : a ∉ ps := fun m => by
      obtain ⟨r, _, h⟩ := paired_mem e6 a m
      have := s5 _ _ h
      rw [na.no] at this
      cases this
    refine ht (.ref a) H6 s46 ⟨ps ++ [a], by rw [e1, List.map_append]; rfl, by rw [List.length_append, e2]; rfl, ?_, ?_, ?_, ?_⟩
    · exact List.nodup_append.mpr ⟨e3, by simp, fun b hb c hc => by
        rw [List.mem_singleton] at hc
        rw [hc]
        exact fun z => aps (z ▸ hb)⟩
    · rw [List.mem_append, List.mem_singleton]
      rintro (h | h)
      · exact e4 h
      · exact hne D (by rw [hD]; exact fun z => by cases z) h
    · intro b hb
      rw [List.mem_append, List.mem_singleton] at hb
      rcases hb with hb | rfl
      · exact e5 b hb
      · exact (s4.new s5).free na.no
    · rw [List.replicate_succ']
      exact paired_app (e6.sm s46) (.cons na.at' .nil)
  · obtain ⟨ps, e1, e2, e3, e4, e5, e6⟩ := hP
    exact hd D H4 ps fD s4 (by rw [hD, e1]) e2 e3 e4 e5 e6
/-- a comprehension of new lists of ints -/
theorem lc_rows {T : List (Addr × Str)} {J : It} {n : Nat} {item : Nat → V → Hp → Prop} {H : Hp} {σ : L2.St} {g : TG} {te : TE} {vs : List Nat} {Qd : Addr → Hp → Prop} (w : Wk T J n item H) (hn : n < sizeLine) (r : Nat → List Int)
    (hs : ∀ i x H1 H2, i < n → Sm T H H1 → Same H1 H2 → item i x H2 → ∀ kt : VK, (∀ a H5, Sm T H1 H5 → H1 a = none → H5 a = some (.lst ((r i).map V.int)) → kt (.ref a) H5) → g x (wipe σ vs) H2 fun σ2 H3 => wipe σ2 vs = wipe σ vs ∧ te σ2 H3 kt)
    (hd : ∀ D H' (ps : List Addr), Fr H D → Sm T H H' → H' D = some (.lst (ps.map V.ref)) → ps.length = n → ps.Nodup → D ∉ ps → (∀ a ∈ ps, Fr H a) → RowsP H' ps ((List.range n).map r) → Qd D H') :
    ∀ D, H D = none → ∃ W : Nat → Nat → Hp → Prop, (∃ m, W 0 m (upd H D (.lst []))) ∧ ∀ i m H, W i m H →
      (J.stop i H ∧ Qd D H) ∨ (J.go i H ∧ ∃ Nx : Hp → Prop, (∀ H', Nx H' → ∃ m', m' < m ∧ W (i + 1) m' H') ∧ ∀ x H', J.yld i H x H' → g x (wipe σ vs) H' fun σ2 H2 => wipe σ2 vs = wipe σ vs ∧ tYes σ2 H2 fun b H3 =>
        if b = true then te σ2 H3 fun y H4 => ∃ acc, H4 D = some (.lst acc) ∧ acc.length < sizeLine ∧ Nx (upd H4 D (.lst (acc ++ [y]))) else Nx H3) := by
  refine lc_w (T := T) w hn (fun D i acc H' => ∃ ps : List Addr, acc = ps.map V.ref ∧ ps.length = i ∧ ps.Nodup ∧ D ∉ ps ∧ (∀ a ∈ ps, Fr H a) ∧ RowsP H' ps ((List.range i).map r))
    (fun D H' fD _ _ => ⟨[], rfl, rfl, List.nodup_nil, List.not_mem_nil, fun a h => absurd h List.not_mem_nil, .nil⟩)
    (fun D i acc Ha Hb h k => ?_) (fun D i acc x H4 H5 hi fD s4 hD hl hP s5 hit kt kf ht _ => ?_) (fun D acc H4 fD s4 hD hl hP => ?_)
  · obtain ⟨ps, e1, e2, e3, e4, e5, e6⟩ := h
    refine ⟨ps, e1, e2, e3, e4, e5, ?_⟩
    exact Paired.mapP (RowsP.put.paired_in e6) fun a b z => by rw [k a (fun c => e4 (c ▸ z.2))]; exact z.1
  · obtain ⟨ps, e1, e2, e3, e4, e5, e6⟩ := hP
    refine hs i x H4 H5 hi s4 s5 hit kt fun a H6 s6 na ha => ?_
    have aps : a ∉ ps := fun m => by
      obtain ⟨r', _, h⟩ := paired_mem e6 a m
      have h' : H4 a = some (.lst (r'.map V.int)) := h
      rw [na] at h'
      cases h'
    refine ht (.ref a) H6 s6 ⟨ps ++ [a], by rw [e1, List.map_append]; rfl, by rw [List.length_append, e2]; rfl, ?_, ?_, ?_, ?_⟩
    · exact List.nodup_append.mpr ⟨e3, by simp, fun b hb c hc => by
        rw [List.mem_singleton] at hc
        rw [hc]
        exact fun z => aps (z ▸ hb)⟩
    · rw [List.mem_append, List.mem_singleton]
      rintro (h | h)
      · exact e4 h
      · rw [← h, hD] at na
        cases na
    · intro b hb
      rw [List.mem_append, List.mem_singleton] at hb
      rcases hb with hb | rfl
      · exact e5 b hb
      · exact s4.free na
    · rw [List.range_succ, List.map_append]
      exact paired_app (e6.sm s6) (.cons ha .nil)
  · obtain ⟨ps, e1, e2, e3, e4, e5, e6⟩ := hP
    exact hd D H4 ps fD s4 (by rw [hD, e1]) e2 e3 e4 e5 e6
/-- the two appends of a link to the rows -/
theorem rows_link {H : Hp} {ps : List Addr} {n : Nat} {ks : List Lk} {e : Lk} (hr : RowsP H ps (nbrs n ks)) (nd : ps.Nodup) (ok : OkLk n e) :
    ∃ (p1 p2 : Addr), ps[e.1.toNat]? = some p1 ∧ ps[e.2.toNat]? = some p2 ∧ H p1 = some (.lst ((nbr ks e.1).map V.int)) ∧
      ∀ H1 : Hp, H1 p1 = some (.lst ((nbr ks e.1 ++ [e.2]).map V.int)) → (∀ b, b ≠ p1 → H1 b = H b) → H1 p2 = some (.lst ((nbr ks e.2).map V.int)) ∧
        ∀ H2 : Hp, H2 p2 = some (.lst ((nbr ks e.2 ++ [e.1]).map V.int)) → (∀ b, b ≠ p2 → H2 b = H1 b) → RowsP H2 ps (nbrs n (ks ++ [e])) := by
  obtain ⟨h0, h1, h2⟩ := ok
  have i1 : e.1.toNat < n := by omega
  have i2 : e.2.toNat < n := by omega
  have c1 : ((e.1.toNat : Nat) : Int) = e.1 := by omega
  have c2 : ((e.2.toNat : Nat) : Int) = e.2 := by omega
  have g1 := nbrs_at ks i1
  have g2 := nbrs_at ks i2
  rw [c1] at g1
  rw [c2] at g2
  obtain ⟨p1, a1, b1⟩ := paired_get' hr g1
  obtain ⟨p2, a2, b2⟩ := paired_get' hr g2
  refine ⟨p1, p2, a1, a2, b1, fun H1 e1 k1 => ?_⟩
  have ne : p2 ≠ p1 := fun z => by
    subst z
    have := (List.getElem?_inj (show e.2.toNat < ps.length from (List.getElem?_eq_some_iff.mp a2).1) nd).mp (a2.trans a1.symm)
    omega
  refine ⟨by rw [k1 p2 ne]; exact b2, fun H2 e2 k2 => ?_⟩
  have r1 := RowsP.put hr nd a1 e1 k1
  have r2 := RowsP.put r1 nd a2 e2 k2
  rw [nbrs_step ⟨h0, h1, h2⟩] at r2
  exact r2
theorem nbr_len (ks : List Lk) (v : Int) : (nbr ks v).length ≤ ks.length := List.length_filterMap_le ..
theorem nbrs_nil (n : Nat) : nbrs n [] = List.replicate n [] := by
  unfold nbrs nbr
  refine List.ext_getElem? fun i => ?_
  rw [List.getElem?_map, List.getElem?_replicate]
  by_cases h : i < n
  · rw [List.getElem?_range h, if_pos h]
    rfl
  · rw [List.getElem?_eq_none (by simpa using h), if_neg h]
    rfl
end NC

namespace NC
open PySem PySem.Spec PyProof.Rows L2

/-! ### ascending order -/
def srt (ns : List Int) : List Int := ns.mergeSort (fun a b => decide (a ≤ b))
theorem srt_perm (ns : List Int) : (srt ns).Perm ns := List.mergeSort_perm ..
theorem srt_pw (ns : List Int) : (srt ns).Pairwise (· ≤ ·) := (List.pairwise_mergeSort (le := fun a b : Int => decide (a ≤ b)) (fun a b c h1 h2 => by simp at *; omega) (fun a b => by simp; omega) ns).imp fun h => by simpa using h
theorem srt_uniq {ys ns : List Int} (p : ys.Perm ns) (s : ys.Pairwise (· ≤ ·)) : ys = srt ns := List.Perm.eq_of_pairwise (le := (· ≤ ·)) (fun a b _ _ h1 h2 => by omega) s (srt_pw ns) (p.trans (srt_perm ns).symm)
theorem srt_len (ns : List Int) : (srt ns).length = ns.length := (srt_perm ns).length_eq
theorem srt_of {ns : List Int} (s : ns.Pairwise (· ≤ ·)) : srt ns = ns := (srt_uniq (List.Perm.refl ns) s).symm
def rLenQ (K : PySem.W.Frag) : List V → Hp → VK → Prop := fun xs H Q => ∃ p ys, xs = [V.ref p] ∧ (SqL K H p ys ∨ SqT K H p ys) ∧ Q (V.int ys.length) H
def rListQ (K : PySem.W.Frag) : List V → Hp → VK → Prop := fun xs H Q => ∃ p ys, xs = [V.ref p] ∧ (SqL K H p ys ∨ SqT K H p ys) ∧ ∀ (l : Addr), H l = none → Q (V.ref l) (upd H l (HO.lst ys))
def rTupQ (K : PySem.W.Frag) : List V → Hp → VK → Prop := fun xs H Q => ∃ p ys, xs = [V.ref p] ∧ ((SqL K H p ys ∧ ∀ (l : Addr), H l = none → Q (V.ref l) (upd H l (HO.tup ys))) ∨ SqT K H p ys ∧ Q (V.ref p) H)
section
variable {K : PySem.W.Frag} {σ : L2.St} {H : Hp} {Q : VK} {te : TE} {a : Addr} {xs : List V}
theorem rd_sortedI {ns : List Int} (hs : SqL K H a (ns.map V.int)) (h : ∀ p H', NewO H p (.lst ((srt ns).map V.int)) H' → Q (.ref p) H') : rSortedI K [.ref a] H Q :=
  ⟨a, ns, rfl, hs, fun ns' p h1 h2 h3 => by rw [srt_uniq h1 h2]; exact h p _ (newO h3)⟩
theorem rd_lenL (hs : SqL K H a xs) (h : Q (.int xs.length) H) : rLenQ K [.ref a] H Q := ⟨a, xs, rfl, .inl hs, h⟩
theorem rd_lenT (hs : SqT K H a xs) (h : Q (.int xs.length) H) : rLenQ K [.ref a] H Q := ⟨a, xs, rfl, .inr hs, h⟩
theorem rd_tupL (hs : SqL K H a xs) (h : ∀ p H', NewO H p (.tup xs) H' → Q (.ref p) H') : rTupQ K [.ref a] H Q := ⟨a, xs, rfl, .inl ⟨hs, fun p hp => h p _ (newO hp)⟩⟩
theorem rd_tupT (hs : SqT K H a xs) (h : Q (.ref a) H) : rTupQ K [.ref a] H Q := ⟨a, xs, rfl, .inr ⟨hs, h⟩⟩
theorem rd_listL (hs : SqL K H a xs) (h : ∀ p H', NewO H p (.lst xs) H' → Q (.ref p) H') : rListQ K [.ref a] H Q := ⟨a, xs, rfl, .inl hs, fun p hp => h p _ (newO hp)⟩
theorem rd_listT (hs : SqT K H a xs) (h : ∀ p H', NewO H p (.lst xs) H' → Q (.ref p) H') : rListQ K [.ref a] H Q := ⟨a, xs, rfl, .inr hs, fun p hp => h p _ (newO hp)⟩
theorem rd_neD {x y : V} {d e : PyData} (hd : Dt H x d) (he : Dt H y e) (od : Okd 64 d) (oe : Okd 64 e) (h : Q (.bl (!PyData.eqv d e)) H) : rNeD K x y H Q := ⟨d, e, hd.dp, he.dp, od.sh, oe.sh, h⟩
theorem rd_eqD {x y : V} {d e : PyData} (hd : Dt H x d) (he : Dt H y e) (od : Okd 64 d) (oe : Okd 64 e) (h : Q (.bl (PyData.eqv d e)) H) : rEqD K x y H Q := ⟨d, e, hd.dp, he.dp, od.sh, oe.sh, h⟩
theorem rd_app {y : V} (hq : H a = some (.lst xs)) (hl : xs.length < sizeLine) (h : ∀ H', H' a = some (.lst (xs ++ [y])) → (∀ b, b ≠ a → H' b = H b) → Q .non H') : rAppend (.ref a) [y] H Q := rd_append hq hl (h _ upd_same fun b hb => upd_ne hb)
/-- a while loop: an invariant with a measure -/
theorem rd_while {c : TT} {tb : TS} {D : Ends} (W : Nat → L2.St → Hp → Prop) (m : Nat) (h0 : W m σ H) (hs : ∀ m σ H, W m σ H → c σ H fun b H1 => if b = true then ∃ N : L2.St → Hp → Prop, (∀ σ' H', N σ' H' → ∃ m', m' < m ∧ W m' σ' H') ∧ tb { D with nx := N, ct := N, bk := D.nx } σ H1 else D.nx σ H1) : tWhile c tb D σ H := ⟨W, ⟨m, h0⟩, hs⟩
theorem rd_turn {tb : TS} {D : Ends} {W : Nat → L2.St → Hp → Prop} {m : Nat} (h : tb { D with nx := fun σ' H' => ∃ m', m' < m ∧ W m' σ' H', ct := fun σ' H' => ∃ m', m' < m ∧ W m' σ' H', bk := D.nx } σ H) :
    ∃ N : L2.St → Hp → Prop, (∀ σ' H', N σ' H' → ∃ m', m' < m ∧ W m' σ' H') ∧ tb { D with nx := N, ct := N, bk := D.nx } σ H := ⟨_, fun _ _ h => h, h⟩
end
section
variable {K : PySem.W.Frag} {σ : L2.St} {H : Hp} {Q : VK} {te : TE} {a : Addr} {xs : List V}
theorem rgV_nat (n : Nat) : rgV 0 (n : Int) = ((List.range n).map fun (i : Nat) => (i : Int)).map V.int := by
  unfold rgV
  rw [List.map_map]
  simp
theorem rgOk_nat {n : Nat} (hn : n ≤ 1000) : RgOk 0 (n : Int) := ⟨by omega, by omega, by omega, by omega, by omega⟩
theorem rd_lrg1 (h : te σ H fun x H1 => ∃ n, x = .int n ∧ (RgOk 0 n ∧ ∀ q, H1 q = none → Q (.ref q) (upd H1 q (.lst (rgV 0 n))))) : tLstRg (tRg1 te) σ H Q := h
theorem rd_popAt {i : Int} {k : Nat} {y : V} (hq : H a = some (.lst xs)) (hl : xs.length < 2 ^ 62) (e : i = (k : Int)) (hk : xs[k]? = some y) (h : ∀ H', H' a = some (.lst (xs.eraseIdx k)) → (∀ b, b ≠ a → H' b = H b) → Q y H') : rPopAt (.ref a) [.int i] H Q := by
  have hk' : k < xs.length := (List.getElem?_eq_some_iff.mp hk).1
  refine ⟨a, xs, i, k, y, rfl, rfl, hq, by omega, by omega, ?_, hk, h _ upd_same fun b hb => upd_ne hb⟩
  show (if (0 ≤ (if i < 0 then i + (xs.length : Int) else i) && decide ((if i < 0 then i + (xs.length : Int) else i) < (xs.length : Int))) = true then some (if i < 0 then i + (xs.length : Int) else i).toNat else none) = some k
  have e0 : (if i < 0 then i + (xs.length : Int) else i) = (k : Int) := by rw [if_neg (by omega), e]
  rw [e0, if_pos (by simp; omega), Int.toNat_natCast]
theorem rd_notInD {x y : V} {d : PyData} {ds : List PyData} (hd : Dt H x d) (he : Dt H y (.list ds)) (od : Okd 64 d) (oe : ∀ e ∈ ds, Okd 63 e) (h : Q (.bl (!ds.any fun z => PyData.eqv z d)) H) : rNotInD K x y H Q := ⟨d, ds, hd.dp, he.dp, od.sh, (okd_list.mpr oe).sh, h⟩
theorem rd_inD {x y : V} {d : PyData} {ds : List PyData} (hd : Dt H x d) (he : Dt H y (.list ds)) (od : Okd 64 d) (oe : ∀ e ∈ ds, Okd 63 e) (h : Q (.bl (ds.any fun z => PyData.eqv z d)) H) : rInD K x y H Q := ⟨d, ds, hd.dp, he.dp, od.sh, (okd_list.mpr oe).sh, h⟩
end
theorem map_eraseIdx {α β : Type} (f : α → β) : ∀ (l : List α) (k : Nat), (l.map f).eraseIdx k = (l.eraseIdx k).map f
  | [], k => by simp
  | x :: l, 0 => by simp
  | x :: l, k + 1 => by simp [map_eraseIdx f l k]
theorem perm_eraseIdx {α : Type} : ∀ (l : List α) (k : Nat) (z : α), l[k]? = some z → (z :: l.eraseIdx k).Perm l
  | [], k, z, h => by simp at h
  | x :: l, 0, z, h => by
    have : x = z := by simpa using h
    subst this
    simp
  | x :: l, k + 1, z, h => by
    have h' : l[k]? = some z := by simpa using h
    rw [List.eraseIdx_cons_succ]
    exact (List.Perm.swap x z _).trans ((perm_eraseIdx l k z h').cons x)
theorem srt_pair (x y : Int) : srt [x, y] = if x ≤ y then [x, y] else [y, x] := by
  by_cases h : x ≤ y
  · rw [if_pos h]
    exact (srt_uniq (List.Perm.refl _) (by simp [h])).symm
  · rw [if_neg h]
    exact (srt_uniq (List.Perm.swap x y []) (by simp; omega)).symm
theorem any_lkD {es : List Lk} {e : Lk} (h : ∀ a b : Lk, PyData.eqv (lkD a) (lkD b) = true ↔ a = b) : ((es.map lkD).any fun z => PyData.eqv z (lkD e)) = decide (e ∈ es) := by
  rw [List.any_map]
  by_cases c : e ∈ es
  · rw [decide_eq_true c]
    exact List.any_eq_true.mpr ⟨e, c, (h e e).mpr rfl⟩
  · rw [decide_eq_false c]
    refine Bool.eq_false_iff.mpr fun z => ?_
    obtain ⟨a, m, q⟩ := List.any_eq_true.mp z
    exact c ((h a e).mp q ▸ m)
theorem rd_glst2 {K : PySem.W.Frag} {σ : L2.St} {H : Hp} {a : Addr} {g1 g2 : TG} {n : Nat} {x y : V} {QN : L2.St → Hp → Prop} (hq : SqL K H a [x, y]) (hn : 2 = n) (h : g1 x σ H fun σ1 H1 => gCons g2 gNil [y] σ1 H1 QN) : gLst K n (gCons g1 (gCons g2 gNil)) (.ref a) σ H QN := ⟨a, [x, y], rfl, hq, hn, x, [y], rfl, h⟩
theorem PairsAt.inj {H : Hp} {L : Addr} {es fs : List Lk} (a : PairsAt H L es) (b : PairsAt H L fs) : es = fs := by
  obtain ⟨xs, h1, h2⟩ := a
  obtain ⟨ys, h3, h4⟩ := b
  rw [h1] at h3
  cases h3
  rw [← paired_kOf h2, paired_kOf h4]
theorem PairsAt.app {H H' : Hp} {L : Addr} {es : List Lk} {e : Lk} {q : Addr} {xs : List V} (hp : Paired (IsPr H) xs es) (hL : H' L = some (.lst (xs ++ [.ref q]))) (k : ∀ b, b ≠ L → H' b = H b) (hLo : H L = some (.lst xs)) (hq : H q = some (.tup [.int e.1, .int e.2])) : PairsAt H' L (es ++ [e]) := by
  have keep : ∀ {t : Addr} {ys : List V}, H t = some (.tup ys) → H' t = some (.tup ys) := fun {t ys} h => by rw [k t (fun z => by rw [z, hLo] at h; cases h)]; exact h
  refine ⟨_, hL, paired_app (Paired.mapP hp fun v e ⟨t, h1, h2⟩ => ⟨t, h1, keep h2⟩) (.cons ⟨q, rfl, keep hq⟩ .nil)⟩
theorem eqv_ints : ∀ {a b : List Int}, PyData.eqvAll (a.map PyData.int) (b.map PyData.int) = decide (a = b)
  | [], [] => rfl
  | [], _ :: _ => rfl
  | _ :: _, [] => rfl
  | x :: a, y :: b => by
    show ((x == y) && PyData.eqvAll (a.map PyData.int) (b.map PyData.int)) = _
    rw [eqv_ints]
    by_cases h : x = y <;> by_cases h2 : a = b <;> simp [h, h2]
theorem okd_ints {k : Nat} (ns : List Int) : Okd (k + 1) (.list (ns.map PyData.int)) := okd_list.mpr fun d m => by
  obtain ⟨i, _, rfl⟩ := List.mem_map.mp m
  exact okd_int i
theorem okd_tints {k : Nat} (ns : List Int) : Okd (k + 1) (.tuple (ns.map PyData.int)) := okd_tup.mpr fun d m => by
  obtain ⟨i, _, rfl⟩ := List.mem_map.mp m
  exact okd_int i

/-! ### own len -/
section
variable (P : Program) (w : World) (K : PySem.W.Frag) (mg : Str → Option Value) (base : Heap)
/-- the class at C has its own length -/
structure CalL (k : Nat) (C : Addr) (sp : Sp) : Prop where
  ex : ∃ (f : Addr) (fd : FuncData) (ps : List Str), FnOk P w K mg base CX0 k f fd ps sp ∧ Binds K fd ps [] ∧ PySem.W.findIn K (.ref C) "__len__" = some (some (.ref f)) ∧ PySem.W.isFn K (.ref f) = true
end
theorem CalL.r {X : Cx} {j k : Nat} {C : Addr} {sp : Sp} {E : XK} (hr : Room j X.A) (hk : k + 1 ≤ j) (c : CalL X.prog X.w X.K X.mg X.base k C sp) (hx : Passes CX0 X E) : CallR X (.builtin "len") (rLenOwn C sp E) := by
  obtain ⟨f, fd, ps, F, hb, h1, h2⟩ := c.ex
  exact call_lenOwn F (hr.mono hk) hb h1 h2 hx
theorem pe_lenOwn {X : Cx} {j k : Nat} {C : Addr} {sp : Sp} {E : XK} {p pos : Pos} {e : Expr} {t : TA} (hr : Room j X.A) (hk : k + 1 ≤ j) (c : CalL X.prog X.w X.K X.mg X.base k C sp) (hx : Passes CX0 X E) (hg : Gl X "len") (hm : X.mg "len" = none) (ha : PA X [e] t)
    (he : starEach [e] X.env = (false, eval e X.env) :: starEach [] X.env := by rfl) : PE X (.Call (.Name "len" p) [e] [] pos) (tCB (rLenOwn C sp E) t) :=
  pe_callB (c.r hr hk hx) hg hm PySem.boot_len ha (by decide) (by decide) he rfl
/-- the number of stations -/
def spLen (C : Addr) : Sp := fun vs H Q _ => ∃ (p : Addr) (n : Nat) (ks : List Lk), vs = [.ref p] ∧ NetAt C H p n ks ∧ Q (.int n) H
theorem rd_len {C : Addr} {E : XK} {H : Hp} {Q : VK} {p : Addr} {n : Nat} {ks : List Lk} (hn : NetAt C H p n ks) (hl : n < 2 ^ 62) (h : Q (.int n) H) : rLenOwn C (spLen C) E [.ref p] H Q := by
  obtain ⟨dx, kp, nr, h1, h2, h3⟩ := id hn
  exact ⟨p, dx, _, rfl, h1, p, n, ks, rfl, hn, n, rfl, hl, h⟩

/-! ### chains of numbers, plainly -/
def chainF (a : Int) (zs : List Int) : Int := zs.foldl (fun a z => if z > a then a + 1 else a) a
def chainN (ns : List Int) : Int := chainF 0 (srt ns)
theorem chainF_ge : ∀ (zs : List Int) (a : Int) (m : Nat), zs.Pairwise (· ≤ ·) → (a + (m : Int) ≤ chainF a zs ↔ ∀ j : Nat, 1 ≤ j → j ≤ m → m + 1 - j ≤ zs.countP (fun z => decide (a + (j : Int) ≤ z)))
  | [], a, m, _ => by
    show a + (m : Int) ≤ a ↔ _
    constructor
    · intro h j h1 h2
      omega
    · intro h
      cases m with
      | zero => omega
      | succ m =>
        have := h 1 (Nat.le_refl _) (by omega)
        simp at this
  | x :: r, a, m, hp => by
    have hx := (List.pairwise_cons.mp hp).1
    have hr := (List.pairwise_cons.mp hp).2
    show a + (m : Int) ≤ chainF (if x > a then a + 1 else a) r ↔ _
    by_cases c : x > a
    · rw [if_pos c]
      cases m with
      | zero =>
        have h0 : a + 1 ≤ chainF (a + 1) r := by
          have := (chainF_ge r (a + 1) 0 hr).mpr fun j h1 h2 => by omega
          simpa using this
        constructor
        · intro _ j h1 h2
          omega
        · intro _
          simp
          omega
      | succ m =>
        have e := chainF_ge r (a + 1) m hr
        rw [show a + ((m + 1 : Nat) : Int) = a + 1 + (m : Int) by omega, e]
        constructor
        · intro h j h1 h2
          rw [List.countP_cons]
          by_cases hj : j = 1
          · subst hj
            have cx : decide (a + ((1 : Nat) : Int) ≤ x) = true := by simp; omega
            rw [if_pos cx]
            have call : r.countP (fun z => decide (a + ((1 : Nat) : Int) ≤ z)) = r.length := List.countP_eq_length.mpr fun z hz => by
              have := hx z hz
              simp
              omega
            rw [call]
            by_cases hm : 1 ≤ m
            · have := h 1 (Nat.le_refl _) hm
              have l := List.countP_le_length (p := fun z => decide (a + 1 + ((1 : Nat) : Int) ≤ z)) (l := r)
              omega
            · omega
          · have := h (j - 1) (by omega) (by omega)
            rw [show a + 1 + ((j - 1 : Nat) : Int) = a + (j : Int) by omega] at this
            omega
        · intro h j h1 h2
          have hj := h (j + 1) (by omega) (by omega)
          rw [show a + ((j + 1 : Nat) : Int) = a + 1 + (j : Int) by omega, List.countP_cons] at hj
          by_cases cx : a + 1 + (j : Int) ≤ x
          · have call : r.countP (fun z => decide (a + 1 + (j : Int) ≤ z)) = r.length := List.countP_eq_length.mpr fun z hz => by
              have := hx z hz
              simp
              omega
            rw [call]
            have h1' := h 1 (Nat.le_refl _) (by omega)
            rw [List.countP_cons] at h1'
            have l := List.countP_le_length (p := fun z => decide (a + ((1 : Nat) : Int) ≤ z)) (l := r)
            split at h1' <;> omega
          · rw [if_neg (by simpa using cx)] at hj
            omega
    · rw [if_neg c, chainF_ge r a m hr]
      refine forall_congr' fun j => forall_congr' fun h1 => forall_congr' fun h2 => ?_
      rw [List.countP_cons, if_neg (by simp; omega)]
      simp
theorem chainN_ge (ns : List Int) (m : Nat) : ((m : Int) ≤ chainN ns ↔ ∀ j : Nat, 1 ≤ j → j ≤ m → m + 1 - j ≤ ns.countP (fun z => decide ((j : Int) ≤ z))) := by
  have := chainF_ge (srt ns) 0 m (srt_pw ns)
  rw [Int.zero_add] at this
  rw [show chainN ns = chainF 0 (srt ns) from rfl, this]
  refine forall_congr' fun j => forall_congr' fun h1 => forall_congr' fun h2 => ?_
  rw [(srt_perm ns).countP_eq]
  simp
theorem chainN_nonneg (ns : List Int) : 0 ≤ chainN ns := (chainN_ge ns 0).mpr fun j h1 h2 => by omega
theorem chainN_le_len (ns : List Int) : chainN ns ≤ ns.length := by
  by_cases h : chainN ns ≤ ns.length
  · exact h
  · have h0 := chainN_nonneg ns
    have := (chainN_ge ns (ns.length + 1)).mp (by omega) 1 (Nat.le_refl _) (by omega)
    have l := List.countP_le_length (p := fun z : Int => decide (((1 : Nat) : Int) ≤ z)) (l := ns)
    omega
/-! ### the class Network -/
/-- what the class Network is, as the top has made it -/
structure NetC (K : PySem.W.Frag) (C : Addr) : Prop where
  cl : Cls K C
  nk : NoAttr K C "kept"
  nn : NoAttr K C "near"
theorem kn : ¬ (("kept" : Str) = "near") := by decide +kernel
theorem netFs_kept (kp nr : Addr) : (netFs kp nr).lookup ("kept" : Str) = some (.ref kp) := by
  unfold netFs
  rw [lookup_putF, if_neg kn, lookup_putF, if_pos rfl]
theorem netFs_near (kp nr : Addr) : (netFs kp nr).lookup ("near" : Str) = some (.ref nr) := by
  unfold netFs
  rw [lookup_putF, if_pos rfl]
theorem netFs_len (kp nr : Addr) : (netFs kp nr).length ≤ 2 := Nat.le_trans (length_putF ..) (Nat.succ_le_succ (Nat.le_trans (length_putF ..) (Nat.le_refl _)))
section
variable {K : PySem.W.Frag} {C : Addr} {H : Hp} {Q : VK} {p : Addr} {n : Nat} {ks : List Lk}
/-- network.near -/
theorem rd_near {G : V → Prop} (N : NetC K C) (hn : NetAt C H p n ks) (h : ∀ nr, RowsAt H nr (nbrs n ks) → G (.ref nr)) : ∃ a C dx fs v, V.ref p = .ref a ∧ H a = some (.ins C dx fs) ∧ Cls K C ∧ NoAttr K C "near" ∧ fs.lookup ("near" : Str) = some v ∧ G v := by
  obtain ⟨dx, kp, nr, h1, h2, h3⟩ := hn
  exact ⟨p, C, dx, _, .ref nr, rfl, h1, N.cl, N.nn, netFs_near kp nr, h nr h3⟩
/-- network.kept -/
theorem rd_kept {G : V → Prop} (N : NetC K C) (hn : NetAt C H p n ks) (h : ∀ kp, PairsAt H kp ks → G (.ref kp)) : ∃ a C dx fs v, V.ref p = .ref a ∧ H a = some (.ins C dx fs) ∧ Cls K C ∧ NoAttr K C "kept" ∧ fs.lookup ("kept" : Str) = some v ∧ G v := by
  obtain ⟨dx, kp, nr, h1, h2, h3⟩ := hn
  exact ⟨p, C, dx, _, .ref kp, rfl, h1, N.cl, N.nk, netFs_kept kp nr, h kp h2⟩
/-- rows[i] -/
theorem rd_row {nr : Addr} {rows : List (List Int)} {r : List Int} {z : Int} (hr : RowsAt H nr rows) (i : Nat) (e : z = (i : Int)) (hi : rows[i]? = some r) (h : ∀ q, H q = some (.lst (r.map V.int)) → Q (.ref q) H) : rIxL K (.ref nr) (.int z) H Q := by
  obtain ⟨ps, h1, h2⟩ := hr
  obtain ⟨q, h3, h4⟩ := paired_get' h2 hi
  exact rd_ixL (SqL.of h1) (sat e (by rw [List.getElem?_map, h3]; rfl)) (h q h4)
/-- t[i], t ints -/
theorem rd_intL {a : Addr} {t : List Int} {z : Int} (ha : H a = some (.lst (t.map V.int))) (i : Nat) (e : z = (i : Int)) (hi : i < t.length) (h : Q (.int (t.getD i 0)) H) : rIxL K (.ref a) (.int z) H Q :=
  rd_ixL (SqL.of ha) (sat e (by rw [List.getElem?_map, List.getElem?_eq_getElem hi]; rfl)) (by simpa [hi] using h)
theorem rd_intT {a : Addr} {t : List Int} {z : Int} (ha : H a = some (.tup (t.map V.int))) (i : Nat) (e : z = (i : Int)) (hi : i < t.length) (h : Q (.int (t.getD i 0)) H) : rIxT K (.ref a) (.int z) H Q :=
  rd_ixT (SqT.of ha) (sat e (by rw [List.getElem?_map, List.getElem?_eq_getElem hi]; rfl)) (by simpa [hi] using h)
end
end NC

namespace NC
open PySem PySem.Spec PyProof.Rows L2
/-! ### the rules with the fragment told: in a comprehension a reading must not name the block -/
section
variable (K : PySem.W.Frag) {X : Cx} {e : Expr} {es : List Expr} {ta : TE} {tA : TA} {f : Str} {pos p tpos : Pos} {tg l : Expr} {tl : TE} {elts : List Expr} {kk : Nat} {t : TGs}
theorem ix_listK (h : X.K = K := by rfl) : IxR X (rIxL K) := by subst h; exact ix_list
theorem ix_tupK (h : X.K = K := by rfl) : IxR X (rIxT K) := by subst h; exact ix_tup
theorem pe_fldK (h1 : PE X e ta) (h2 : attributeBase e f X.env (eval e X.env) = eval e X.env) (h : X.K = K := by rfl) : PE X (e.Attribute f pos) (tFld K ta f) := by subst h; exact pe_fld h1 h2
theorem call_lenK (h : X.K = K := by rfl) : CallR X (Value.builtin "len") (rLenQ K) := by subst h; exact call_len_seq
theorem call_listK (h : X.K = K := by rfl) : CallR X (Value.type "list") (rListQ K) := by subst h; exact call_list_of
theorem call_tupleK (h : X.K = K := by rfl) : CallR X (Value.type "tuple") (rTupQ K) := by subst h; exact call_tuple_of
theorem sortedIK (h : X.K = K := by rfl) : CallR X (Value.builtin "sorted") (rSortedI K) := by subst h; exact cr_sortedI
theorem sortedPOK (h : X.K = K := by rfl) : CallR X (Value.builtin "sorted") (rSortedPO K) := by subst h; exact cr_sortedPO
theorem call_isiK (h : X.K = K := by rfl) : CallR X (Value.builtin "isinstance") (rIsi K) := by subst h; exact call_isi
theorem cr_allK (c : X.calm = true) (h : X.K = K := by rfl) : CallR X (Value.builtin "all") (rAll K) := by subst h; exact cr_all c
theorem cr_anyK (c : X.calm = true) (h : X.K = K := by rfl) : CallR X (Value.builtin "any") (rAny K) := by subst h; exact cr_any c
theorem sl_listK (h : X.K = K := by rfl) : SlR X (rSlL K) := by subst h; exact sl_list
theorem sl_tupAK (h : X.K = K := by rfl) : SlR X (rSlA K) := by subst h; exact sl_tupA
theorem op_inDK (u : X.A.units + 65 < cLine) (h : X.K = K := by rfl) : OpR X (compareOp CmpOp.In) (rInD K) := by subst h; exact op_inD u
theorem op_notInDK (u : X.A.units + 65 < cLine) (h : X.K = K := by rfl) : OpR X (compareOp CmpOp.NotIn) (rNotInD K) := by subst h; exact op_notInD u
theorem op_eqDK (u : X.A.units + 64 < cLine) (h : X.K = K := by rfl) : OpR X (compareOp CmpOp.Eq) (rEqD K) := by subst h; exact op_eqD u
theorem op_neDK (u : X.A.units + 64 < cLine) (h : X.K = K := by rfl) : OpR X (compareOp CmpOp.NotEq) (rNeD K) := by subst h; exact op_neD u
theorem pi_listK (hl : PE X l tl) (h : X.K = K := by rfl) : PI X tg l (iList K tl) := by subst h; exact pi_list hl
theorem pi_tupK (hl : PE X l tl) (h : X.K = K := by rfl) : PI X tg l (iTup K tl) := by subst h; exact pi_tup hl
theorem pi_enumK (hg : Gl X "enumerate") (hm : X.mg "enumerate" = none) (ha : PA X [e] tA) (h : X.K = K := by rfl) (hs : starEach [e] X.env = [(false, eval e X.env)] := by rfl) :
    PI X (Expr.Tuple elts kk tpos) ((Expr.Name "enumerate" p).Call [e] [] pos) (iEnum K tA) := by subst h; exact pi_enum hg hm ha hs
theorem pg_tupK (n : Nat) (c : X.calm = true) (hg : PGs X es t) (h : X.K = K := by rfl) (hn : (assignEach es X.env).length = n := by rfl) (hf : List.findIdx? (fun x => x.fst) (assignEach es X.env) = none := by rfl) :
    PG X (Expr.Tuple es kk pos) (gTup K n t) := by subst h; exact pg_tup c hg hn hf
theorem pg_lstK (n : Nat) (c : X.calm = true) (hg : PGs X es t) (h : X.K = K := by rfl) (hn : (assignEach es X.env).length = n := by rfl) (hf : List.findIdx? (fun x => x.fst) (assignEach es X.env) = none := by rfl) :
    PG X (Expr.Tuple es kk pos) (gLst K n t) := by subst h; exact pg_lst c hg hn hf
theorem pe_bmK {o : Expr} {to : TE} {t : TA} {name : Str} {apos cpos : Pos} {T id : String} {r : V → List V → Hp → VK → Prop} (h1 : PlainAttrs T) (h2 : Slot T name id) (h3 : typeOf (Value.builtin id) = pure (Value.type "method_descriptor")) (h4 : MtR X id r) (h5 : PE X o to) (h6 : PA X (e :: es) t) (h : X.K = K := by rfl)
    (h7 : attributeBase o name X.env (eval o X.env) = eval o X.env := by rfl)
    (h8 : (((((backTo cpos (starEach (e :: es) X.env)).all fun x => !x.fst) && (backToKw cpos (keywordEach [] X.env)).all fun x => x.fst.isSome) && decide (((e :: es).length + ([] : List Keyword).length + if ([] : List Keyword).isEmpty = true then 0 else 1) < 30)) = true) := by rfl)
    (h9 : (apos.endLine == cpos.line) = true := by rfl) (h10 : starEach (e :: es) X.env = (false, eval e X.env) :: starEach es X.env := by rfl) (h11 : ((backTo cpos (starEach es X.env)).any fun x => x.fst) = false := by rfl) :
    PE X ((o.Attribute name apos).Call (e :: es) [] cpos) (tBM K T r to t) := by subst h; exact pe_bm h1 h2 h3 h4 h5 h6 h7 h8 h9 h10 h11
theorem pe_bm0K {o : Expr} {to : TE} {name : Str} {apos cpos : Pos} {T id : String} {r : V → List V → Hp → VK → Prop} (h1 : PlainAttrs T) (h2 : Slot T name id) (h3 : typeOf (Value.builtin id) = pure (Value.type "method_descriptor")) (h4 : MtR X id r) (h5 : PE X o to) (h : X.K = K := by rfl)
    (h6 : attributeBase o name X.env (eval o X.env) = eval o X.env := by rfl) (h7 : (apos.endLine == cpos.line) = true := by rfl) : PE X ((o.Attribute name apos).Call [] [] cpos) (tBM0 K T r to) := by subst h; exact pe_bm0 h1 h2 h3 h4 h5 h6 h7
end
end NC

namespace NC
open PySem PySem.Spec PyProof.Rows L2
open Sem (wp)
theorem meets_enumerate_new1 {v : Value} {o : Obj} {H : Heap → Prop} (B : Begins v o H) :
    Meets (Builtin.«enumerate.__new__» ⟨[.type "enumerate", v], []⟩) (fun _ R s => H s.heap ∧
      R (.ok (.ret (.ref (s.heap.push o).objs.size))) { s with heap := (s.heap.push o).push { cls := .type "enumerate", data := .fields #[.none, .bool false, .ref s.heap.objs.size, rawInt 0, .none, .none] } }) :=
  .of_wp fun prog w A R s h => by
    obtain ⟨hp, g, d, tk, os⟩ := s; obtain ⟨h1, h⟩ := h
    have hsub := sub_enumerate
    have q1 : ∀ {A' : Around} {E : Value → Shared → Prop} {Q : Value → Shared → Prop}, Q (.ref hp.objs.size) ⟨hp.push o, g, d, tk, os⟩ → wpAny (model prog w) A' (pyIter v) Q E ⟨hp, g, d, tk, os⟩ :=
      fun q => B.iter prog w _ _ ⟨hp, g, d, tk, os⟩ _ h1 q
    wp_walk using q1
    refine wpAny_stack_any fun st => wpAny_pure ?_
    split
    · rename_i c _ _ _ _ _
      cases (c == Value.type "enumerate")
      · wp_walk using q1
        exact ⟨_, rfl, h⟩
      · wp_walk using q1
        exact ⟨_, rfl, h⟩
    · wp_walk using q1
      exact ⟨_, rfl, h⟩
section
variable {prog : Program} {w : World} {A : Around} {E : Value → Shared → Prop} {s : Shared}
theorem enum_begins1 {v : Value} {o : Obj} {H : Heap → Prop} {Q : Value → Shared → Prop} (B : Begins v o H) (h1 : H s.heap)
    (h : ∀ h', IsEnum h' (s.heap.objs.size + 1) s.heap.objs.size 0 .none → h'.get? s.heap.objs.size = some o → h'.objs.size = s.heap.objs.size + 2 →
      (∀ b o, s.heap.get? b = some o → h'.get? b = some o) → Q (.ref (s.heap.objs.size + 1)) { s with heap := h' }) :
    wpAny (model prog w) A (call (.type "enumerate") [v]) Q E s := by
  refine callType_new F.called_enumerate (by decide) (F.typeCall_enumerate_1 _) (F.newCall_enumerate_1 _) (fun obj => F.args_object_init_2 obj _) F.entry_enumerate_new
    (meets_enumerate_new1 B) ⟨h1, ?_⟩
  have hz : (s.heap.push o).objs.size = s.heap.objs.size + 1 := Heap.size_push ..
  show _ ∧ _
  rw [hz]
  have he : IsEnum ((s.heap.push o).push { cls := .type "enumerate", data := .fields #[.none, .bool false, .ref s.heap.objs.size, rawInt 0, .none, .none] }) (s.heap.objs.size + 1) s.heap.objs.size 0 .none := by
    have := Heap.get?_push_size (s.heap.push o) (o := { cls := .type "enumerate", data := .fields #[.none, .bool false, .ref s.heap.objs.size, rawInt 0, .none, .none] }) rfl
    rw [hz] at this; exact this
  refine ⟨⟨_, he, rfl⟩, h _ he (Heap.get?_push_of_some _ (Heap.get?_push_size _ B.free)) (by rw [Heap.size_push, hz]) fun b o x => Heap.get?_push_of_some _ (Heap.get?_push_of_some _ x)⟩
end
theorem begins_tup (l : Addr) (items : Array Value) : Begins (.ref l) { cls := .type "tuple_iterator", data := .fields #[.ref l, .int 0 0] } fun h => h.IsTuple l items where
  iter := fun prog w A E s Q hl h => wpAny_pyIter_tuple hl h
  keeps := fun h h' x hk => x.at fun o e => hk l o e
  free := rfl
/-- enumerate over the tuple at a -/
def IteT (K : PySem.W.Frag) (a : Addr) : It :=
  ⟨fun i H => ∃ (xs : List V) (x : V), SqT K H a xs ∧ xs[i]? = some x, fun i H v H' => ∃ T x, v = .ref T ∧ H T = none ∧ H' = upd H T (.tup [.int (i : Nat), x]) ∧ ∀ xs, SqT K H a xs → xs[i]? = some x, fun i H => ∃ xs : List V, SqT K H a xs ∧ xs.length ≤ i⟩
theorem turn_enumT {P : Program} {w : World} {K : PySem.W.Frag} {elts : List Expr} {kk : Nat} {tpos : Pos} (a e it : Addr) :
    Turn P w K (.Tuple elts kk tpos) (IteT K a) [e, it] e (fun i h => (∃ old, IsEnum h e it ((i : Nat) : Int) old) ∧ h.IsTupleIter it a i ∧ e ≠ it ∧ e ≠ a ∧ it ≠ a) where
  mem := by simp
  obj := fun i h st b hb => by
    obtain ⟨⟨old, he⟩, ⟨o, ho, hc, hd⟩, _⟩ := st
    have e' : b = e ∨ b = it := by simpa using hb
    rcases e' with z | z
    · rw [z]; exact ⟨_, he, fun v q => nomatch q⟩
    · rw [z]; exact ⟨o, ho, fun v q => by rw [hd] at q; cases q⟩
  keep := fun i h h' st k => let ⟨⟨old, he⟩, hi, hne⟩ := st; ⟨⟨old, k e (by simp) _ he⟩, hi.at fun o q => k it (by simp) o q, hne⟩
  item := by
    intro X hP hw hK hc i pins s σ H E I hf st hg
    subst hP hw hK
    obtain ⟨⟨old, he⟩, hit, hne, hea, hia⟩ := st
    obtain ⟨xs, x, hq, hx⟩ := hg
    obtain ⟨its, rv, p, hz⟩ := I.tuple hq
    obtain ⟨u, hu, ru⟩ := rv.get hx
    have hel : e < s.heap.objs.size := Heap.lt_size he
    have hil : it < s.heap.objs.size := by obtain ⟨_, q, _⟩ := hit; exact Heap.lt_size q
    have hlen : i < its.toArray.size := by
      have := (List.getElem?_eq_some_iff.mp hu).1
      simpa using this
    have hpT : s.heap.IsTuple a its.toArray := p
    refine wpAny_pyNext_enum_itemD (P := fun i v => its.toArray[i]? = some v) (Draws.tuple (prog := X.prog) (w := X.w) (A := X.A.in1) (show X.A.in1.handled = none from I.ok.hd hc) it a (Ne.symm hia) its.toArray) he ⟨hit, hpT⟩ hlen hne (by simp [hne, hea]) fun u2 h' tk hu2 ho hst' hT hsz hk => ?_
    have eu : u2 = u := by
      have h2 : its[i]? = some u2 := by simpa using hu2
      rw [hu] at h2
      exact (Option.some.inj h2).symm
    subst eu
    obtain ⟨hit', _⟩ := hst'
    refine ⟨_, rfl, wpAny_letOwnedTupleGo_enum (s := { s with heap := h', toks := tk + 1 }) ho fun h'' he' sb => ?_⟩
    have hT2 : h''.get? s.heap.objs.size = some { cls := .type "tuple", data := .seq #[.int i tk, u2] } := (sb.2 _ (Nat.ne_of_gt hel)).trans hT
    have new : ObjOk X.prog X.w (upd H s.heap.objs.size (.tup [.int (i : Nat), x])) h'' s.heap.objs.size (.tup [.int (i : Nat), x]) :=
      ⟨by show 2 ≤ sizeLine; decide, [.int i tk, u2], .cons ⟨_, rfl⟩ (.cons ru .nil), ⟨_, hT2, rfl, _, rfl⟩⟩
    have I1 : Inv X pins σ (upd H s.heap.objs.size (.tup [.int (i : Nat), x])) { s with heap := h'', toks := tk + 1 } :=
      I.turnedNew (ch := [e, it]) (fun b ob hb q => (sb.2 b (fun z => hb (by simp [z]))).trans (hk b ob (fun z => hb (by simp [z])) (fun z => hb (by simp [z])) q)) hf (Nat.le_refl _) new
    refine ⟨.ref s.heap.objs.size, _, I1, rfl, ⟨_, x, rfl, I.hok.fresh (Nat.le_refl _), rfl, fun ys hy => by rw [I.tuple_inj hy hq]; exact hx⟩, ⟨⟨u2, ?_⟩, hit'.at fun o q => (sb.2 it (Ne.symm hne)).trans q, hne, hea, hia⟩, fun b hb => ?_⟩
    · have e1 : ((i + 1 : Nat) : Int) = (i : Int) + 1 := by omega
      rw [e1]; exact he'
    · have hb' : b < s.heap.objs.size := by
        have e' : b = e ∨ b = it := by simpa using hb
        rcases e' with z | z
        · rw [z]; exact hel
        · rw [z]; exact hil
      rw [upd_ne (Nat.ne_of_lt hb')]
      exact (hf b hb).1
  done := by
    intro X hP hw hK hc i pins s σ H E I hf st hg
    subst hP hw hK
    obtain ⟨⟨old, he⟩, hit, hne, hea, hia⟩ := st
    obtain ⟨xs, hq, hx⟩ := hg
    obtain ⟨its, rv, p, hz⟩ := I.tuple hq
    obtain ⟨f0, f1, f2, f3, f4, f5⟩ := hf it (by simp)
    have hl := rv.length
    have hT : s.TypeIs (.ref e) "enumerate" := ⟨_, he, rfl⟩
    unfold pyNext
    refine wpAny_bind (wpAny_attempt (wpAny_callSpecial?_slot (name := Str.ofString "__next__") hT F.slot_enumerate_next
      (wpAny_call_entry F.slot_enumerate_next hT F.entry_enumerate_next ?_ (F.args_enumerate_next_1 _))))
    show wpAny _ _ (field (.ref e) 2 >>= _) _ _ _
    refine wpAny_bind (wpAny_field he rfl (x := .ref it) rfl ?_)
    refine wpAny_bind (wpAny_nextOf_tuple_end (I.ok.hd hc) hit (show s.heap.IsTuple a its.toArray from p) (by simp; omega) fun h' x he' hx' => ?_)
    obtain ⟨o, ho, hc'⟩ := hx'
    refine wpAny_bind (wpAny_isInstance (T := "StopIteration") (b := true) ⟨o, ho, hc'⟩ isSubtype_stop ?_)
    exact wpAny_pure ⟨rfl, I.turned (t' := s.toks) (fun b o hb q => he' b o hb q) f0 f1 f3 f4 f5⟩
  self := fun A i s Q E st h => let ⟨⟨_, he⟩, _⟩ := st; wpAny_pyIter_enum he h
def iEnumT (K : PySem.W.Frag) (ta : TA) : TI := fun σ H R => ta σ H fun vs H1 => ∃ a xs, vs = [.ref a] ∧ SqT K H1 a xs ∧ R (IteT K a) H1
theorem pi_enumTK (K : PySem.W.Frag) {X : Cx} {e : Expr} {ta : TA} {p pos tpos : Pos} {elts : List Expr} {kk : Nat} (hg : Gl X "enumerate") (hm : X.mg "enumerate" = none) (ha : PA X [e] ta) (hK : X.K = K := by rfl) (hs : starEach [e] X.env = [(false, eval e X.env)] := by rfl) :
    PI X (.Tuple elts kk tpos) (.Call (.Name "enumerate" p) [e] [] pos) (iEnumT K ta) := by
  subst hK
  refine ⟨fun pins s σ H R I h => ?_⟩
  refine Call_ (ld_blt I hg hm boot_enumerate (PyProof.Rows.callWith_type1 (thn (ha.run pos pins s σ H _ I h) fun us s1 ⟨vs, H1, I1, r1, q1⟩ => ?_) hs rfl))
  obtain ⟨a, xs, ex, hq, q⟩ := q1
  subst ex
  cases r1 with
  | cons r rr =>
    cases rr
    cases r
    obtain ⟨its, rv, p', hz⟩ := I1.tuple hq
    have hp : s1.heap.IsTuple a its.toArray := p'
    have hal : a < s1.heap.objs.size := by obtain ⟨_, y, _⟩ := hp; exact Heap.lt_size y
    refine enum_begins1 (begins_tup a its.toArray) hp fun h' he hit hsz hk => wpAny_pyIter_enum he ?_
    have I2 : Inv X pins σ H1 { s1 with heap := h' } := I1.kept (t' := s1.toks) hk
    refine ⟨s1.heap.objs.size + 1, [s1.heap.objs.size + 1, s1.heap.objs.size], _, _, H1, rfl, I2, turn_enumT a (s1.heap.objs.size + 1) s1.heap.objs.size, ⟨⟨.none, he⟩, ⟨_, hit, rfl, rfl⟩, Nat.succ_ne_self _, Nat.ne_of_gt (Nat.lt_succ_of_lt hal), Nat.ne_of_gt hal⟩, fun b hb => ?_, q⟩
    have e' : b = s1.heap.objs.size + 1 ∨ b = s1.heap.objs.size := by simpa using hb
    have hle : s1.heap.objs.size ≤ b := by
      rcases e' with z | z
      · rw [z]; exact Nat.le_add_right _ _
      · rw [z]; exact Nat.le_refl _
    exact I1.fpOk hle (I1.hok.fresh hle)
section
variable {T : List (Addr × Str)} {K : PySem.W.Frag} {H0 H : Hp} {a : Addr} {xs : List V} {σ : L2.St} {tA : TA} {R : It → Hp → Prop}
theorem wk_enumT (h : SqT K H0 a xs) : Wk T (IteT K a) xs.length (fun i v H => ∃ t x, v = .ref t ∧ H t = some (.tup [.int (i : Int), x]) ∧ xs[i]? = some x) H0 where
  go := fun i H s hi => ⟨xs, xs[i], s.sqT h, by simp [hi]⟩
  yld := fun i H v H' s _ y => by
    obtain ⟨t, x, e, n, eH, hx⟩ := y
    subst eH
    exact ⟨same_new n, t, x, e, upd_same, hx xs (s.sqT h)⟩
  stop := fun H s => ⟨xs, s.sqT h, Nat.le_refl _⟩
theorem rd_iET (h : tA σ H fun vs H1 => ∃ a xs, vs = [.ref a] ∧ SqT K H1 a xs ∧ R (IteT K a) H1) : iEnumT K tA σ H R := h
end
end NC

namespace NC
open PySem PySem.Spec PyProof.Rows L2
/-! ### range(i, j) of any two ints -/
theorem turn_long {P : Program} {w : World} {K : PySem.W.Frag} {tg : Expr} (it : Addr) (lo : Int) (n : Nat) : Turn P w K tg (Itr lo n) [it] it (fun i h => IsLongIter h it (lo + (i : Nat) * 1) ((n : Int) - (i : Nat)) 1) where
  mem := by simp
  obj := fun i h st b hb => by
    have e : b = it := by simpa using hb
    subst e
    exact ⟨_, st, fun v z => by
      have z' : Data.fields _ = Data.cell v := z
      cases z'⟩
  keep := fun i h h' st k => k it (by simp) _ st
  item := by
    intro X hP hw hK hc i pins s σ H E I hf st hg
    subst hP hw hK
    obtain ⟨f0, f1, f2, f3, f4, f5⟩ := hf it (by simp)
    have W := Walks.longrange (prog := X.prog) (w := X.w) (I.ok.hd hc) it lo 1 n
    refine W.item i s _ _ hg st fun v h' tk hv st' kk => ?_
    obtain ⟨t, rfl⟩ := hv
    have I1 : Inv X pins σ H { s with heap := h', toks := tk } := I.turned (fun b o hb e => kk b o (by simpa using hb) e) f0 f1 f3 f4 f5
    refine ⟨_, rfl, go_of (s := { s with heap := h', toks := tk }) (n := "longrange_iterator") st' rfl rfl (by decide) ⟨.int (lo + i), H, I1, ⟨t, ?_⟩, ⟨rfl, rfl⟩, st', fun b hb => (hf b hb).1⟩⟩
    rw [Int.mul_one]
  done := by
    intro X hP hw hK hc i pins s σ H E I hf st hg
    subst hP hw hK
    obtain ⟨f0, f1, f2, f3, f4, f5⟩ := hf it (by simp)
    exact wpAny_pyNext_long_end (I.ok.hd hc) st (by have : n ≤ i := hg; omega) fun h' eb => ⟨rfl, I.turned (t' := s.toks) (fun b o hb e => eb b o hb e) f0 f1 f3 f4 f5⟩
  self := fun _ _ _ _ _ st h => wpAny_pyIter_longiter st h
section
variable {X : Cx} {tg : Expr}
theorem range_itW {pins : List (Addr × Obj)} {σ : L2.St} {H : Hp} {s : Shared} {R : It → Hp → Prop} {E : Value → Shared → Prop} {lo hi : Int} {t u v : Tok} {tk : Nat} (I : L2.Inv X pins σ H s)
    (q : R (Itr lo (hi - lo).toNat) H) : wpAny (model X.prog X.w) X.A (pyIter (.ref s.heap.objs.size)) (PIE X pins σ tg R) E { s with heap := s.heap.push { cls := .type "range", data := .fields #[.int lo t, .int hi u, .int 1 v] }, toks := tk } := by
  have e1 : lo + ((0 : Nat) : Int) * 1 = lo := by simp
  have e2 : (((hi - lo).toNat : Nat) : Int) - ((0 : Nat) : Int) = Builtin.Range.rangeSize lo hi 1 := by rw [rangeSize_one]; split <;> omega
  have I1 : L2.Inv X pins σ H { s with heap := s.heap.push { cls := .type "range", data := .fields #[.int lo t, .int hi u, .int 1 v] }, toks := tk } := I.kept fun b o e => Heap.get?_push_of_some _ e
  cases hs : Builtin.Range.small lo hi 1 with
  | true =>
    refine wpAny_pyIter_range (IsRange.new ..) hs ?_
    refine ⟨(s.heap.push { cls := .type "range", data := .fields #[.int lo t, .int hi u, .int 1 v] }).objs.size, [(s.heap.push { cls := .type "range", data := .fields #[.int lo t, .int hi u, .int 1 v] }).objs.size], _, _, H, rfl,
      I1.kept (t' := tk) fun b o e => Heap.get?_push_of_some _ e, turn_range _ lo (hi - lo).toNat, ?_, fun b hb => ?_, q⟩
    · show IsRangeIter _ _ (lo + ((0 : Nat) : Int) * 1) ((((hi - lo).toNat : Nat) : Int) - ((0 : Nat) : Int)) 1
      rw [e1, e2]
      exact Heap.get?_push_size _ rfl
    · have e : b = (s.heap.push { cls := .type "range", data := .fields #[.int lo t, .int hi u, .int 1 v] }).objs.size := by simpa using hb
      subst e
      exact I1.fpOk (Nat.le_refl _) (I1.hok.fresh (Nat.le_refl _))
  | false =>
    refine wpAny_pyIter_longrange (IsRange.new ..) hs ?_
    refine ⟨(s.heap.push { cls := .type "range", data := .fields #[.int lo t, .int hi u, .int 1 v] }).objs.size, [(s.heap.push { cls := .type "range", data := .fields #[.int lo t, .int hi u, .int 1 v] }).objs.size], _, _, H, rfl,
      I1.kept (t' := tk) fun b o e => Heap.get?_push_of_some _ e, turn_long _ lo (hi - lo).toNat, ?_, fun b hb => ?_, q⟩
    · show IsLongIter _ _ (lo + ((0 : Nat) : Int) * 1) ((((hi - lo).toNat : Nat) : Int) - ((0 : Nat) : Int)) 1
      rw [e1, e2]
      exact Heap.get?_push_size _ rfl
    · have e : b = (s.heap.push { cls := .type "range", data := .fields #[.int lo t, .int hi u, .int 1 v] }).objs.size := by simpa using hb
      subst e
      exact I1.fpOk (Nat.le_refl _) (I1.hok.fresh (Nat.le_refl _))
def iRngW2 (ta : TA) : TI := fun σ H R => ta σ H fun vs H1 => ∃ i j : Int, vs = [.int i, .int j] ∧ R (Itr i (j - i).toNat) H1
theorem pi_rangeW2 {a b : Expr} {ta : TA} {p pos : Pos} (hg : Gl X "range") (hm : X.mg "range" = none) (ha : PA X [a, b] ta) (hs : starEach [a, b] X.env = [(false, eval a X.env), (false, eval b X.env)] := by rfl) (hs2 : starEach [b] X.env = [(false, eval b X.env)] := by rfl) :
    PI X tg (.Call (.Name "range" p) [a, b] [] pos) (iRngW2 ta) := by
  refine ⟨fun pins s σ H R I h => ?_⟩
  refine Call_ (ld_blt I hg hm boot_range (PyProof.Rows.callWith_type1 (thn (ha.run pos pins s σ H _ I h) fun us s1 ⟨vs, H1, I1, r1, q1⟩ => ?_) (by rw [hs, hs2]) (by rw [hs2]; rfl)))
  obtain ⟨i, j, e, q⟩ := q1
  subst e
  cases r1 with
  | cons r rr =>
    cases rr with
    | cons r' rr =>
      cases rr
      obtain ⟨t, rfl⟩ := r
      obtain ⟨t', rfl⟩ := r'
      exact call_range_2 (range_itW I1 q)
theorem rd_iRW2 {σ : L2.St} {H : Hp} {tA : TA} {R : It → Hp → Prop} (h : tA σ H fun vs H1 => ∃ i j : Int, vs = [.int i, .int j] ∧ R (Itr i (j - i).toNat) H1) : iRngW2 tA σ H R := h
end
end NC

namespace NC
open PySem PySem.Spec PyProof.Rows L2
/-! ### calls in the body of a try; the exception's field in the suite -/
section
variable {X : Cx} {j k : Nat} {C : Addr} {W : WX} {sp : Sp} {x m : Str} {p pos apos : Pos} {e o : Expr} {es : List Expr} {ta : TE} {t : TA}
theorem pe_calS (hr : Room j X.A) (hk : k ≤ j) (tk : Takes X W) (c : Cal X.prog X.w X.K X.mg X.base (L2.CX X.prog X.w) k x sp) (hg : Gl X x) (ha : PA X (e :: es) t) (hdb : (x == ("__debug__" : Str)) = false := by decide)
    (he : starEach (e :: es) X.env = (false, eval e X.env) :: starEach es X.env := by rfl) (hpl : (backTo pos (starEach es X.env)).any (·.1) = false := by rfl) : PE X (.Call (.Name x p) (e :: es) [] pos) (tCallS sp (WE W) t) := by
  obtain ⟨f, fd, ps, F, hm, hkp, hb⟩ := c.ex
  exact pe_callS F (hr.mono hk) hg hm hkp hb (fun σ => passAt tk σ) ha hdb he hpl
def tMethS (C : Addr) (m : Str) (sp : Sp) (E : L2.St → XK) (ta : TE) (t : TA) : TE := fun σ H Q => ta σ H fun x H1 => ∃ a dx fs, x = .ref a ∧ H1 a = some (.ins C dx fs) ∧ fs.lookup m = none ∧
  t σ H1 fun vs H2 => sp (x :: vs) H2 Q (E σ)
def tMakeS (C : Addr) (sp : Sp) (E : L2.St → XK) (t : TA) : TE := fun σ H Q => t σ H fun vs H1 => ∀ x dx, H1 x = none → H1 dx = none → dx ≠ x →
  sp (.ref x :: vs) (upd (upd H1 dx (.own x)) x (.ins C dx [])) (fun v H2 => v = .non ∧ Q (.ref x) H2) (E σ)
theorem pe_calMS {pl : Sem Bool} (ho : PE X o ta) (hr : Room j X.A) (hk : k ≤ j) (tk : Takes X W) (c : CalM X.prog X.w X.K X.mg X.base (L2.CX X.prog X.w) k C m sp) (ha : PA X (e :: es) t)
    (hc : eval (.Call (.Attribute o m apos) (e :: es) [] pos) X.env = (do
      let ov ← eval o X.env
      standAt apos.atName
      let (f, first) ← holding [ov] (getMethod ov m pl)
      callWith pos f first (backTo pos (starEach (e :: es) X.env)) (backToKw pos (keywordEach [] X.env))) := by rfl)
    (he : starEach (e :: es) X.env = (false, eval e X.env) :: starEach es X.env := by rfl) (hpl : (backTo pos (starEach es X.env)).any (·.1) = false := by rfl) : PE X (.Call (.Attribute o m apos) (e :: es) [] pos) (tMethS C m sp (WE W) ta t) := by
  obtain ⟨f, fd, ps, F, hm, hb, hcl⟩ := c.ex
  refine ⟨fun pins s σ H Q I h => ?_⟩
  refine PySem.W.methodCall_KW (pl := pl) (thn (ho.run pins s σ H _ I h) fun u s1 ⟨x, H1, I1, rx, a, dx, fs, ex, ea, l, q⟩ => ?_) hc
  subst ex
  obtain rfl : u = Value.ref a := rx
  refine getmeth_ok I1 ea hcl hm l ?_
  refine PySem.W.callWith_K (first := [.ref a]) (h₀ := X.base) I.ok.mod.kin hm.kp (thn (ha.run pos pins s1 σ H1 _ I1 q) fun us s2 ⟨vs, H2, I2, r, q2⟩ => ⟨I2.kIn, ?_⟩) he hpl
  exact run_fnS (us := .ref a :: us) (vs := .ref a :: vs) F (hr.mono hk) hb (passAt tk σ) I2 (.cons rfl r) q2
theorem pe_calMS0 {pl : Sem Bool} (ho : PE X o ta) (hr : Room j X.A) (hk : k ≤ j) (tk : Takes X W) (c : CalM X.prog X.w X.K X.mg X.base (L2.CX X.prog X.w) k C m sp)
    (hc : eval (.Call (.Attribute o m apos) [] [] pos) X.env = (do
      let ov ← eval o X.env
      standAt apos.atName
      let (f, first) ← holding [ov] (getMethod ov m pl)
      callWith pos f first (backTo pos (starEach [] X.env)) (backToKw pos (keywordEach [] X.env))) := by rfl) : PE X (.Call (.Attribute o m apos) [] [] pos) (tMethS C m sp (WE W) ta tNil) := by
  obtain ⟨f, fd, ps, F, hm, hb, hcl⟩ := c.ex
  refine ⟨fun pins s σ H Q I h => ?_⟩
  refine PySem.W.methodCall_KW (pl := pl) (thn (ho.run pins s σ H _ I h) fun u s1 ⟨x, H1, I1, rx, a, dx, fs, ex, ea, l, q⟩ => ?_) hc
  subst ex
  obtain rfl : u = Value.ref a := rx
  refine getmeth_ok I1 ea hcl hm l ?_
  exact PySem.W.callWith_K0 (first := [.ref a]) I1.kIn hm.kp (run_fnS (us := [.ref a]) (vs := [.ref a]) F (hr.mono hk) hb (passAt tk σ) I1 (.cons rfl .nil) q)
theorem pe_calCS (hr : Room j X.A) (hk : k + 1 ≤ j) (tk : Takes X W) (c : CalC X.prog X.w X.K X.mg X.base (L2.CX X.prog X.w) k x C sp) (hg : Gl X x) (ha : PA X (e :: es) t) (hdb : (x == ("__debug__" : Str)) = false := by decide)
    (he : starEach (e :: es) X.env = (false, eval e X.env) :: starEach es X.env := by rfl) (hpl : (backTo pos (starEach es X.env)).any (·.1) = false := by rfl) : PE X (.Call (.Name x p) (e :: es) [] pos) (tMakeS C sp (WE W) t) := by
  obtain ⟨f, fd, ps, F, hm, M, hb⟩ := c.ex
  refine ⟨fun pins s σ H Q I h => ?_⟩
  refine wpAny_Call_Name_kw (ld_glob I hg hm ?_ hdb)
  refine PySem.W.callWith_K (h₀ := X.base) I.ok.mod.kin M.kp (thn (ha.run pos pins s σ H _ I h) fun us s1 ⟨vs, H1, I1, r, q⟩ => ⟨I1.kIn, ?_⟩) he hpl
  have hq := q (s1.heap.objs.size + 1) s1.heap.objs.size (I1.hok.fresh (Nat.le_succ _)) (I1.hok.fresh (Nat.le_refl _)) (Nat.ne_of_lt (Nat.lt_succ_self _))
  have I2 := Inv.made (C := C) I1
  have r2 : Vals (V.ref (s1.heap.objs.size + 1) :: vs) (Value.ref (s1.heap.objs.size + 1) :: us) := .cons rfl r
  have hl : (Value.ref (s1.heap.objs.size + 1) :: us).length = ps.length := by
    have e := r2.length
    rw [F.len _ _ _ _ hq] at e
    exact e.symm
  have hb' := hb
  have b := hb { s1 with heap := _ } (Value.ref (s1.heap.objs.size + 1) :: us) I2.kIn (by rw [List.append_nil]; exact hl)
  rw [List.append_nil] at b
  have hr' := hr.mono hk
  refine wpAny_call (make_map (f := f) I1.kIn M.makes M.init (beq_iff_eq.mp M.fn) (codeAny_mono (F.run _ X.stack _ _ ⟨Value.ref (s1.heap.objs.size + 1) :: us, []⟩ (Value.ref (s1.heap.objs.size + 1) :: us) _ _ (WE W σ) (hr'.make C us [])
    (I2.env0.make C us []) b r2 hq) fun r s' hq' => ?_))
  cases r with
  | error e => exact passAt tk σ pins _ _ e s' I2 hq'
  | ok fl =>
    cases fl with
    | ret u =>
      obtain ⟨v, H', I3, rv, ev, q3⟩ := I2.after hq'
      subst ev
      exact ⟨rv, ⟨V.ref (s1.heap.objs.size + 1), H', I3, rfl, q3⟩⟩
    | next => exact False.elim hq'
    | brk => exact False.elim hq'
    | cont => exact False.elim hq'
end
section
variable {K : PySem.W.Frag} {σ : L2.St} {H : Hp} {Q : VK} {tA : TA} {ta : TE} {sp : Sp} {E : L2.St → XK} {C : Addr} {m : Str}
theorem rd_callS (h : tA σ H fun vs H1 => sp vs H1 Q (E σ)) : tCallS sp E tA σ H Q := h
theorem rd_methS (h : ta σ H fun x H1 => ∃ a dx fs, x = .ref a ∧ H1 a = some (.ins C dx fs) ∧ fs.lookup m = none ∧ tA σ H1 fun vs H2 => sp (x :: vs) H2 Q (E σ)) : tMethS C m sp E ta tA σ H Q := h
theorem rd_makeS (h : tA σ H fun vs H1 => ∀ x dx, H1 x = none → H1 dx = none → dx ≠ x → sp (.ref x :: vs) (upd (upd H1 dx (.own x)) x (.ins C dx [])) (fun v H2 => v = .non ∧ Q (.ref x) H2) (E σ)) : tMakeS C sp E tA σ H Q := h
theorem rd_meth {dvs : List V} {E : XK} (h : ta σ H fun x H1 => ∃ a dx fs, x = .ref a ∧ H1 a = some (.ins C dx fs) ∧ fs.lookup m = none ∧ tA σ H1 fun vs H2 => sp (x :: (vs ++ dvs)) H2 Q E) : tMeth C m sp dvs E ta tA σ H Q := h
theorem rd_make {dvs : List V} {E : XK} (h : tA σ H fun vs H1 => ∀ x dx, H1 x = none → H1 dx = none → dx ≠ x → sp (.ref x :: (vs ++ dvs)) (upd (upd H1 dx (.own x)) x (.ins C dx [])) (fun v H2 => v = .non ∧ Q (.ref x) H2) E) : tMake C sp dvs E tA σ H Q := h
end
/-- what the class of an exception must have for its field f to be read -/
structure GetX (K : PySem.W.Frag) (C : Addr) (f : Str) : Prop where
  ga : PySem.W.findIn K (.ref C) "__getattribute__" = some (some (.builtin "BaseException.__getattribute__"))
  gg : PySem.W.findIn K (.ref C) "__getattr__" = some none
  exC : PySem.W.subIn K (.ref C) (.type "BaseException") = some true
  hdC : PySem.W.hasDictIn K C = true
  nf : PySem.W.findIn K (.ref C) f = some none
/-- e.f, e the exception that the suite holds (at a; its class cls, its dict d) -/
def tExF (K : PySem.W.Frag) (f : Str) (a : Addr) (cls : Value) (d : Option Addr) (te : TE) : TE := fun σ H Q => te σ H fun x H1 => x = .ref a ∧ ∃ (C dd : Addr) (fs : List (Str × V)) (v : V), cls = .ref C ∧ GetX K C f ∧ d = some dd ∧ H1 dd = some (.xd fs) ∧ fs.lookup f = some v ∧ Q v H1
theorem pe_exf {X : Cx} {f : Str} {a : Addr} {oe : Obj} {cls : Value} {d : Option Addr} {pn : List (Addr × Obj)} {e : Expr} {te : TE} {pos : Pos} (hz : Zc cls d oe) (hf : ∃ vs, oe.data = .fields vs) (he : PE (X.suite a ((a, oe) :: pn)) e te)
    (hb : attributeBase e f X.env (eval e X.env) = eval e X.env := by rfl) :
    PE (X.suite a ((a, oe) :: pn)) (.Attribute e f pos) (tExF X.K f a cls d te) := by
  refine ⟨fun pins s σ H Q I h => ?_⟩
  refine attr_of hb (thn (he.run pins s σ H _ I h) fun u s1 hh => ?_)
  obtain ⟨x, H1, I1, rx, ex, C, dd, fs, v, ec, G, ed, ea, l, q⟩ := hh
  subst ex
  obtain rfl : u = Value.ref a := rx
  subst ec
  subst ed
  obtain ⟨ha, _⟩ := I1.pin (a, oe) (List.mem_append_left _ List.mem_cons_self)
  obtain ⟨vs, hd⟩ := hf
  have hx : ObjOk X.prog X.w H1 s1.heap dd (.xd fs) := I1.hok dd _ ea
  obtain ⟨mA, hns, hr⟩ := hx
  obtain ⟨od, ho, hl⟩ := lookIn_ns hns
  obtain ⟨u, hu, ru⟩ := RelO.some_of (v := v) (o := mA f) (by rw [← l]; exact hr f)
  have J : PySem.W.InstAt s1.heap a oe C (some od) := ⟨ha, hz.1, by unfold PySem.W.notCls; rw [hd] <;> rfl, by rw [hz.2]; exact ho⟩
  exact HandSPX.exc_get I1.kIn J G.ga G.gg G.exC (PySem.W.findObj_own G.hdC G.nf rfl (by rw [hl, hu])) (handed_of ru) ⟨v, H1, I1.tok _, ru, q⟩
theorem rd_exf {K : PySem.W.Frag} {f : Str} {a : Addr} {cls : Value} {d : Option Addr} {te : TE} {σ : L2.St} {H : Hp} {Q : VK} (h : te σ H fun x H1 => x = .ref a ∧ ∃ (C dd : Addr) (fs : List (Str × V)) (v : V), cls = .ref C ∧ GetX K C f ∧ d = some dd ∧ H1 dd = some (.xd fs) ∧ fs.lookup f = some v ∧ Q v H1) : tExF K f a cls d te σ H Q := h
/-- an error of the class at S is what «except S» names -/
theorem exm_self {K : PySem.W.Frag} {S : Addr} (h1 : PySem.W.subIn K (.ref S) (.type "BaseException") = some true) (h2 : PySem.W.isClsIn K S = true) (h3 : PySem.W.typeIn K (.ref S) = some (.type "type")) (h4 : PySem.W.subIn K (.ref S) (.ref S) = some true) :
    PySem.W.exmOne K (.ref S) (.ref S) = some true := by
  have e1 : (PySem.W.subIn K (.ref S) (.type "BaseException") == some true) = true := by rw [h1] <;> rfl
  have e2 : ((PySem.W.clsIn K S).isSome && PySem.W.typeIn K (.ref S) == some (.type "type")) = true := by
    have h2' : (PySem.W.clsIn K S).isSome = true := h2
    rw [h2', h3] <;> rfl
  show (if (PySem.W.subIn K (.ref S) (.type "BaseException") == some true) = true then (if ((PySem.W.clsIn K S).isSome && PySem.W.typeIn K (.ref S) == some (.type "type")) = true then PySem.W.subIn K (.ref S) (.ref S) else none) else none) = some true
  rw [if_pos e1, if_pos e2]
  exact h4
theorem takes0 {X : Cx} : Takes X (fun _ _ _ _ => False) := LamX.takes0
/-- the clause that names the exception's own class runs its suite -/
theorem was_yes {K : PySem.W.Frag} {C : Addr} {i : Nat} {ts : Addr → Value → Option Addr → TS} {W : WX} {D : Ends} {d : Option Addr} {σ : L2.St} {H : Hp} (te : PySem.W.exmOne K (.ref C) (.ref C) = some true)
    (h : ∀ a, H a = none → ts a (.ref C) d { nx := fun σ' H' => D.nx (σ'.set i none) H', rt := D.rt, bk := fun σ' H' => D.bk (σ'.set i none) H', ct := fun σ' H' => D.ct (σ'.set i none) H' } (σ.set i (some (.ref a))) H) : wAs K (.ref C) i ts W D (.ref C) d σ H :=
  ⟨true, te, fun _ => h, fun q => Bool.noConfusion q⟩
end NC

namespace NC
open PySem PySem.Spec PyProof.Rows L2
/-! ### what is called where no repr is under way (repr asks that) -/
structure FnOkG (P : Program) (w : World) (K : PySem.W.Frag) (mg : Str → Option Value) (base : Heap) (CX : CXT) (k : Nat) (f : Addr) (fd : FuncData) (ps : List Str) (sp : Sp) : Prop where
  len : ∀ vs H Q E, sp vs H Q E → vs.length = ps.length
  run : ∀ (A : Around) (outer : List Env) (s : Shared) (H : Hp) (args : Args) (us : List Value) (vs : List V) (Q : VK) (E : XK), Room k A → A.guards = some [] → Env0 P w K mg base A outer s H → BindsTo s fd args (ps.zip us) → Vals vs us → sp vs H Q E →
    codeAny (model P w) A (.call (.ref f) args) (CR CX outer P w H s Q E) s
theorem fn_ofG {CX : CXT} {P : Program} {w : World} {K : PySem.W.Frag} {mg : Str → Option Value} {base : Heap} {k : Nat} {f : Addr} {name qual : Str} {params : Arguments} {body : List Stmt} {scope : Scope} {dV kV doc pm cdv ct oc : Value} {an od : Option Addr}
    {osl : Array (Option Value)} {N ps : List Str} {sp : Sp} (lk : K.lookup f = some ⟨oc, od, .func (PySem.W.fnOf name qual params body scope dV kV doc pm an cdv ct), osl⟩) (hcd : PySem.W.codeIn K cdv qual = true) (S : FnScope N ps scope)
    (len : ∀ vs H Q E, sp vs H Q E → vs.length = ps.length)
    (hbody : ∀ (A : Around) (outer : List Env) (s : Shared) (H : Hp) (vs : List V) (Q : VK) (E : XK), Room k (A.deeper (envOfC qual scope s.heap.objs.size f cdv)) → A.guards = some [] → sp vs H Q E →
      ∃ t, PSs (cxOf CX P w K mg base N qual scope f cdv A outer s H E) body t ∧ t { nx := fun _ H' => Q .non H', rt := Q } (start N vs) H) :
    FnOkG P w K mg base CX (k + 1) f (PySem.W.fnOf name qual params body scope dV kV doc pm an cdv ct) ps sp := by
  refine ⟨len, fun A outer s H args us vs Q E hr hgd e0 hb r hsp => ?_⟩
  have hl := len _ _ _ _ hsp
  have KX : K.In s.heap := e0.mod.kin.keeps fun b o e => (e0.bs b o e).1
  have lim : s.heap.NoLimit := e0.mod.nolimit.keeps fun b o e => (e0.bs b o e).1
  have hkind : ∀ y ∈ ps.zip us, scope.names.lookup y.1 = some .local ∨ (scope.names.lookup y.1 = some .cell ∧ ((cellsFrom (s.heap.objs.size + 1) scope.names []).lookup y.1).isSome = true) := fun ⟨n, v⟩ hy => by
    rcases S.par n (List.of_mem_zip hy).1 with q | q
    · exact .inl q
    · exact .inr ⟨q, PySem.W.cellsFrom_some _ _ _ (.inl q)⟩
  refine codeAny_call_function hr.depth (KX _ _ lk) rfl S.co S.gen rfl (PySem.W.codeRec_of KX hcd) (hb _ _ _ _ ?_)
  refine wpAny_newFunctionEnv_cells S.kind hkind fun env he s1 x => ?_
  subst he
  refine ⟨lim.keeps x.toInCall.keep, codeAny_func ?_⟩
  obtain ⟨t, ht, hq⟩ := hbody A outer s H vs Q E (hr.deeper _) hgd hsp
  have I : Inv (cxOf CX P w K mg base N qual scope f cdv A outer s H E) [] (start N vs) H s1 := inv_start S hr.hd e0 hl r x
  refine wpAny_mono (ht.run [] s1 (start N vs) H _ I hq) (fun fl s' hs => ?_) fun e s' hs => hs
  have fin : ∀ {σ' : L2.St} {H' : Hp} {v : V} {u : Value}, Inv (cxOf CX P w K mg base N qual scope f cdv A outer s H E) [] σ' H' s' → RelV v u → Q v H' → CE outer P w H s Q u s' :=
    fun {σ' H' v u} J rv q => ⟨v, H', J.os, J.bare, J.base, J.hok, rv, q⟩
  cases fl with
  | ret u =>
    obtain ⟨v, σ', H', J, rv, q⟩ := hs
    exact fin J rv q
  | next =>
    obtain ⟨σ', H', J, q⟩ := hs
    exact fin (v := V.non) (u := Value.none) J rfl q
  | brk =>
    obtain ⟨_, _, _, q⟩ := hs
    exact False.elim q
  | cont =>
    obtain ⟨_, _, _, q⟩ := hs
    exact False.elim q
section
variable {P : Program} {w : World} {K : PySem.W.Frag} {mg : Str → Option Value} {base : Heap}
theorem okG {x qual : Str} {st : Stmt} {f : Addr} {fd : FuncData} {N ps : List Str} {k : Nat} {sp : Sp} (F : Fun K x qual st f fd) (S : FnScope N ps (defScope st)) (len : ∀ vs H Q E, sp vs H Q E → vs.length = ps.length)
    (hbody : ∀ (cdv : Value) (A : Around) (outer : List Env) (s : Shared) (H : Hp) (vs : List V) (Q : VK) (E : XK), Room k (A.deeper (envOfC qual (defScope st) s.heap.objs.size f cdv)) → A.guards = some [] → sp vs H Q E →
      ∃ t, PSs (cxOf CX0 P w K mg base N qual (defScope st) f cdv A outer s H E).nox (defBody st) t ∧ t { nx := fun _ H' => Q .non H', rt := Q } (start N vs) H) : FnOkG P w K mg base CX0 (k + 1) f fd ps sp := by
  obtain ⟨oc, od, kV, doc, pm, an, cdv, ct, osl, rfl, lk, hcd⟩ := F.ex
  refine fn_ofG lk hcd S len fun A outer s H vs Q E hr hgd hsp => ?_
  obtain ⟨t, h, q⟩ := hbody cdv A outer s H vs Q E hr hgd hsp
  exact ⟨t, h.nox, q⟩
variable (P w K mg base)
/-- a def of the module, by its name; it is called where no repr is under way -/
structure CalG (CX : CXT) (k : Nat) (x : Str) (sp : Sp) : Prop where
  ex : ∃ (f : Addr) (fd : FuncData) (ps : List Str), FnOkG P w K mg base CX k f fd ps sp ∧ mg x = some (.ref f) ∧ PySem.W.keepIn K (.ref f) = true ∧ Binds K fd ps []
variable {P w K mg base}
theorem DefAt.calG {x : Str} {st : Stmt} {CX : CXT} {k : Nat} {ps : List Str} {sp : Sp} (D : DefAt K mg x st)
    (hb : ∀ (kV doc pm : Value) (an : Option Addr) (cdv ct : Value) (us : List Value), us.length = ps.length → bindArgs (PySem.W.fnOf x x (defArgs st) (defBody st) (defScope st) .none kV doc pm an cdv ct) ⟨us, []⟩ = pure (ps.zip us))
    (h : ∀ (f : Addr) (fd : FuncData), Fun K x x st f fd → FnOkG P w K mg base CX k f fd ps sp) : CalG P w K mg base CX k x sp := by
  obtain ⟨f, fd, F, hm⟩ := D.ex
  exact ⟨f, fd, ps, h f fd F, hm, F.kp, F.binds hb⟩
end
section
variable {X : Cx} {CX : CXT} {j k : Nat} {sp : Sp} {E : XK} {x : Str} {p pos : Pos} {e : Expr} {es : List Expr} {t : TA}
theorem pe_calG (hr : Room j X.A) (hk : k ≤ j) (hgd : X.A.guards = some []) (c : CalG X.prog X.w X.K X.mg X.base CX k x sp) (hx : Passes CX X E) (hg : Gl X x) (ha : PA X (e :: es) t) (hdb : (x == ("__debug__" : Str)) = false := by decide)
    (he : starEach (e :: es) X.env = (false, eval e X.env) :: starEach es X.env := by rfl) (hpl : (backTo pos (starEach es X.env)).any (·.1) = false := by rfl) : PE X (.Call (.Name x p) (e :: es) [] pos) (tCall sp [] E t) := by
  obtain ⟨f, fd, ps, F, hm, hkp, hb⟩ := c.ex
  refine ⟨fun pins s σ H Q I h => ?_⟩
  refine wpAny_Call_Name_kw (ld_glob I hg hm ?_ hdb)
  refine PySem.W.callWith_K (h₀ := X.base) I.ok.mod.kin hkp (thn (ha.run pos pins s σ H _ I h) fun us s1 ⟨vs, H1, I1, r, q⟩ => ⟨I1.kIn, ?_⟩) he hpl
  have q : sp (vs ++ []) H1 Q E := q
  rw [List.append_nil] at q
  have hl : us.length = ps.length := by rw [← r.length]; exact F.len _ _ _ _ q
  have b := hb s1 us I1.kIn (by rw [List.append_nil]; exact hl)
  rw [List.append_nil] at b
  show wpAny _ _ (call (.ref f) us) _ _ _
  refine wpAny_call (codeAny_mono (F.run X.A X.stack s1 H1 ⟨us, []⟩ us vs Q E (hr.mono hk) hgd I1.env0 b r q) fun r s' hq => ?_)
  cases r with
  | error e => exact hx pins σ H1 s1 e s' I1 hq
  | ok fl =>
    cases fl with
    | ret u => exact I1.after hq
    | next => exact False.elim hq
    | brk => exact False.elim hq
    | cont => exact False.elim hq
end
/-- what is promised a well may be handed a new list of three ints -/
theorem well_outG {P : Program} {w : World} {K : PySem.W.Frag} {mg : Str → Option Value} {base : Heap} {k : Nat} {f : Addr} {fd : FuncData} {ps : List Str} {sp sp' : Sp} (F : FnOkG P w K mg base CX0 k f fd ps sp) (h : ∀ vs H Q E, sp' vs H Q E → vs.length = ps.length ∧ ∃ (a : Addr) (x y z : Int), H a = some (.lst [.int x, .int y, .int z]) ∧ sp vs (upd H a (WellO a)) (fun v H' => H' a = some (WellO a) ∧ Q v H') E) : FnOkG P w K mg base CX0 k f fd ps sp' := by
  refine ⟨fun vs H Q E q => (h vs H Q E q).1, fun A outer s H args us vs Q E hr hgd e0 hb hv q => ?_⟩
  obtain ⟨_, a, x, y, z, ha, hq⟩ := h vs H Q E q
  refine codeAny_mono (F.run A outer s _ args us vs _ E hr hgd (env0_swap e0 ha loose_lst (well_shut (e0.hok a _ ha))) hb hv hq) fun r s' hh => ?_
  cases r with
  | error e => exact hh
  | ok fl =>
    cases fl with
    | ret u =>
      obtain ⟨v, H', os, bare, un, hok, rv, e', q'⟩ := hh
      have un' := un_swap ha loose_lst e' loose_well loose_well un (WellO a) loose_well
      have eu : upd H' a (WellO a) = H' := by
        funext b
        by_cases hb : b = a
        · rw [hb, upd_same, e']
        · rw [upd_ne hb]
      rw [eu] at un'
      exact ⟨v, H', os, bare, un', hok, rv, q'⟩
    | next => exact hh
    | brk => exact hh
    | cont => exact hh
/-- behind a call that was handed a new well -/
theorem sm_well {T : List (Addr × Str)} {H H1 H2 : Hp} {p : Addr} {xs : List V} (n : NewO H p (.lst xs) H1) (s : Sm T (upd H1 p (WellO p)) H2) : Sm T H H2 := by
  refine ⟨fun b u hb hn => ?_, fun t => s.2 (tabs_at n.at' lst_no (fun b hb => upd_ne hb) ((Sm.of (T := T) n.s).2 t))⟩
  refine s.1 b u ?_ hn
  rw [upd_ne (ne_of_none hb n.no)]
  exact n.s b u hb
end NC

namespace NC
open PySem PySem.Spec PyProof.Rows L2
/-! ### repr -/
/-- data whose text fits -/
structure Small (d : PyData) : Prop where
  ok : Okd 60 d
  sh : d.showable = true
  sl : d.leavesShort 50 = true
  bk : d.bulk ≤ 100000
theorem hasDict_canLay0 : (∀ d : PyData, d.canLay0 = true → d.hasDict = false) := by
  intro d h
  exact hd d h
where
  hd : ∀ d : PyData, d.canLay0 = true → d.hasDict = false
    | .none, _ => rfl
    | .bool _, _ => rfl
    | .int _, _ => rfl
    | .str _, _ => rfl
    | .list ds, h => by rw [PyData.hasDict]; exact hds ds (by rwa [PyData.canLay0] at h)
    | .tuple ds, h => by rw [PyData.hasDict]; exact hds ds (by rwa [PyData.canLay0] at h)
    | .dict _, h => by rw [PyData.canLay0] at h; cases h
  hds : ∀ ds : List PyData, PyData.canLayAll0 ds = true → PyData.hasDictAll ds = false
    | [], _ => rfl
    | d :: ds, h => by
      rw [PyData.canLayAll0, Bool.and_eq_true] at h
      rw [PyData.hasDictAll, hd d h.1, hds ds h.2]
      rfl
def rReprD (K : PySem.W.Frag) : List V → Hp → VK → Prop := fun xs H Q => ∃ v d, xs = [v] ∧ Dp K H v d ∧ Small d ∧ Q (.str d.shown) H
theorem small_len {d : PyData} (h : Small d) : d.shown.length ≤ sizeLine := by
  have := PyData.shown_le_bulk 50 (by decide) d h.sl
  have b := h.bk
  rw [sizeLine_eq]
  omega
theorem call_reprK (K : PySem.W.Frag) {X : Cx} (hgd : X.A.guards = some []) (hu : X.A.units + 65 < cLine) (hK : X.K = K := by rfl) : CallR X (.builtin "repr") (rReprD K) := by
  subst hK
  intro pins s σ H xs us Q I r h
  obtain ⟨v, d, rfl, hd, sm, q⟩ := h
  obtain ⟨u, rfl, rv⟩ := vals1 r
  have fin : ∀ (h' : Heap) (t : Tok) (tk : Nat), (∀ b o, s.heap.get? b = some o → h'.get? b = some o) → EP X pins σ Q (.str d.shown t) { s with heap := h', toks := tk } := fun h' t tk hk => ⟨.str d.shown, H, I.kept (t' := tk) hk, ⟨t, rfl⟩, q⟩
  cases hd with
  | non =>
    cases rv
    exact PySem.P.repr_of_none (fin s.heap _ _ fun _ _ e => e)
  | bl b =>
    cases rv
    refine PySem.P.repr_of_bool ?_
    have := fin s.heap s.toks (s.toks + 1) fun _ _ e => e
    rw [show (PyData.bool b).shown = if b then ("True" : Str) else "False" by cases b <;> rfl] at this
    cases b <;> exact this
  | int i =>
    obtain ⟨t, rfl⟩ := rv
    exact PySem.P.repr_of_int (by simpa [PyData.showable] using sm.sh) (fin s.heap _ _ fun _ _ e => e)
  | str x =>
    obtain ⟨t, rfl⟩ := rv
    exact PySem.P.repr_of_str (fin s.heap _ _ fun _ _ e => e) (small_len sm)
  | lst h1 h2 =>
    obtain ⟨as, rd⟩ := Dp.reads I _ _ _ (Dp.lst h1 h2) rv
    cases rv
    have dp := sm.ok.2
    exact repr_of_reads' rd sm.sh (fun z => by rw [hasDict_canLay0 _ sm.ok.1] at z; cases z) hgd (by omega) (fun _ _ e => e) (fun h' t tk hk => fin h' t tk hk) (small_len sm)
  | tup h1 h2 =>
    obtain ⟨as, rd⟩ := Dp.reads I _ _ _ (Dp.tup h1 h2) rv
    cases rv
    have dp := sm.ok.2
    exact repr_of_reads' rd sm.sh (fun z => by rw [hasDict_canLay0 _ sm.ok.1] at z; cases z) hgd (by omega) (fun _ _ e => e) (fun h' t tk hk => fin h' t tk hk) (small_len sm)
theorem rd_repr {K : PySem.W.Frag} {H : Hp} {Q : VK} {v : V} {d : PyData} (hd : Dt H v d) (sm : Small d) (h : Q (.str d.shown) H) : rReprD K [v] H Q := ⟨v, d, rfl, hd.dp, sm, h⟩
/-- when a tuple or list of small things is small -/
theorem small_int {i : Int} (h : i.natAbs < 10 ^ 48) : Small (.int i) where
  ok := okd_int i
  sh := by
    show decide (i.natAbs.log2 < 1920) = true
    refine decide_eq_true ?_
    by_cases c : i.natAbs = 0
    · rw [c]; decide
    · exact Nat.lt_trans ((Nat.log2_lt (k := 160) c).mpr (Nat.lt_trans h (by decide))) (by decide)
  sl := by
    show decide ((PyData.shown (.int i)).length ≤ 50) = true
    refine decide_eq_true ?_
    have := int_text_length_le10 (k := 48) (by decide) h
    show (Str.ofString (toString i)).length ≤ 50
    rw [PySem.ofString_length]
    omega
  bk := Nat.zero_le _
theorem small_non : Small .none := ⟨okd_non, rfl, rfl, Nat.zero_le _⟩
theorem small_bl (b : Bool) : Small (.bool b) := ⟨okd_bl b, rfl, rfl, Nat.zero_le _⟩
theorem showableAll_iff : ∀ {ds : List PyData}, PyData.showableAll ds = true ↔ ∀ d ∈ ds, d.showable = true
  | [] => by simp [PyData.showableAll]
  | d :: ds => by simp [PyData.showableAll, showableAll_iff (ds := ds)]
theorem leavesShortAll_iff {B : Nat} : ∀ {ds : List PyData}, PyData.leavesShortAll B ds = true ↔ ∀ d ∈ ds, d.leavesShort B = true
  | [] => by simp [PyData.leavesShortAll]
  | d :: ds => by simp [PyData.leavesShortAll, leavesShortAll_iff (ds := ds)]
theorem bulkAll_le {b : Nat} : ∀ {ds : List PyData}, (∀ d ∈ ds, d.bulk ≤ b) → PyData.bulkAll ds ≤ (b + 1) * ds.length
  | [], _ => by simp [PyData.bulkAll]
  | d :: ds, h => by
    have h1 := h d List.mem_cons_self
    have h2 := bulkAll_le fun z m => h z (List.mem_cons_of_mem _ m)
    rw [PyData.bulkAll, List.length_cons, Nat.mul_add]
    omega
/-- a leaf or a small thing: not deep, little bulk -/
structure Tiny (k b : Nat) (d : PyData) : Prop where
  ok : Okd k d
  sh : d.showable = true
  sl : d.leavesShort 50 = true
  bk : d.bulk ≤ b
theorem Tiny.small {k b : Nat} {d : PyData} (h : Tiny k b d) (hk : k ≤ 60 := by omega) (hb : b ≤ 100000 := by omega) : Small d := ⟨h.ok.mono hk, h.sh, h.sl, Nat.le_trans h.bk hb⟩
theorem tiny_list {k b n : Nat} {ds : List PyData} (h : ∀ d ∈ ds, Tiny k b d) (hn : ds.length ≤ n) : Tiny (k + 1) ((b + 1) * n) (.list ds) :=
  ⟨okd_list.mpr fun d m => (h d m).ok, showableAll_iff.mpr fun d m => (h d m).sh, leavesShortAll_iff.mpr fun d m => (h d m).sl, Nat.le_trans (bulkAll_le fun d m => (h d m).bk) (Nat.mul_le_mul_left _ hn)⟩
theorem tiny_tup {k b n : Nat} {ds : List PyData} (h : ∀ d ∈ ds, Tiny k b d) (hn : ds.length ≤ n) : Tiny (k + 1) ((b + 1) * n) (.tuple ds) :=
  ⟨okd_tup.mpr fun d m => (h d m).ok, showableAll_iff.mpr fun d m => (h d m).sh, leavesShortAll_iff.mpr fun d m => (h d m).sl, Nat.le_trans (bulkAll_le fun d m => (h d m).bk) (Nat.mul_le_mul_left _ hn)⟩
theorem tiny_int {k b : Nat} {i : Int} (h : i.natAbs < 10 ^ 48) : Tiny k b (.int i) := ⟨okd_int i, (small_int h).sh, (small_int h).sl, Nat.zero_le _⟩
theorem tiny_non {k b : Nat} : Tiny k b .none := ⟨okd_non, rfl, rfl, Nat.zero_le _⟩
theorem tiny_bl {k b : Nat} (x : Bool) : Tiny k b (.bool x) := ⟨okd_bl x, rfl, rfl, Nat.zero_le _⟩
theorem Tiny.mono {k b k' b' : Nat} {d : PyData} (h : Tiny k b d) (hk : k ≤ k') (hb : b ≤ b') : Tiny k' b' d := ⟨h.ok.mono hk, h.sh, h.sl, Nat.le_trans h.bk hb⟩
end NC

namespace NC
open PySem PySem.Spec PyProof.Rows L2
/-! ### an int or a bool, and an int -/
def b2n (b : Bool) : Int := if b = true then 1 else 0
def rIB (f : Int → Int → V) : R2 := fun x y H Q => ∃ i j, (x = .int i ∨ ∃ b, x = .bl b ∧ i = b2n b) ∧ y = .int j ∧ Q (f i j) H
section
variable {X : Cx}
theorem op_addIB : OpR X (binaryOp .Add) (rIB fun i j => .int (i + j)) := by
  intro pins s σ H x y v u Q I rx ry h
  obtain ⟨i, j, rfl | ⟨b, rfl, rfl⟩, rfl, q⟩ := h
  · exact op_add pins s σ H _ _ v u Q I rx ry ⟨i, j, rfl, rfl, q⟩
  · obtain ⟨t, rfl⟩ := ry
    cases rx
    exact PySem.IntBool.add_bool_int ⟨.int (b2n b + j), H, I.tok _, ⟨_, rfl⟩, q⟩
theorem op_subIB : OpR X (binaryOp .Sub) (rIB fun i j => .int (i - j)) := by
  intro pins s σ H x y v u Q I rx ry h
  obtain ⟨i, j, rfl | ⟨b, rfl, rfl⟩, rfl, q⟩ := h
  · exact op_sub pins s σ H _ _ v u Q I rx ry ⟨i, j, rfl, rfl, q⟩
  · obtain ⟨t, rfl⟩ := ry
    cases rx
    exact PySem.IntBool.sub_bool_int ⟨.int (b2n b - j), H, I.tok _, ⟨_, rfl⟩, q⟩
end
theorem op_catAK (K : PySem.W.Frag) {X : Cx} (hK : X.K = K := by rfl) : OpR X (binaryOp .Add) (rCatA K) := by subst hK; exact op_catA
/-! ### the script as it is handed in -/
def SqX (K : PySem.W.Frag) (H : Hp) (a : Addr) (xs : List V) : Prop :=
  (∃ (its : Array Value) (n : Nat), H a = some (.frz { cls := .type "list", data := .seq its n } (.lst xs))) ∨
  ∃ (its : Array Value) (n : Nat), K.lookup a = some { cls := .type "list", data := .seq its n } ∧ its.size ≤ sizeLine ∧ Vals xs its.toList
theorem SqX.sq {K : PySem.W.Frag} {H : Hp} {a : Addr} {xs : List V} (h : SqX K H a xs) : SqL K H a xs := by
  rcases h with ⟨its, n, h⟩ | ⟨its, n, h1, h2, h3⟩
  · exact .inl (.inr ⟨_, h⟩)
  · exact .inr ⟨_, its, n, h1, rfl, rfl, rfl, h2, h3⟩
theorem SqX.sm {T : List (Addr × Str)} {K : PySem.W.Frag} {H H' : Hp} {a : Addr} {xs : List V} (s : Sm T H H') (h : SqX K H a xs) : SqX K H' a xs := h.elim (fun ⟨its, n, h⟩ => .inl ⟨its, n, s.frz h⟩) .inr
theorem SqX.get {X : Cx} {pins : List (Addr × Obj)} {σ : L2.St} {H : Hp} {s : Shared} {a : Addr} {xs : List V} (I : L2.Inv X pins σ H s) (h : SqX X.K H a xs) :
    ∃ (its : List Value) (n : Nat), Vals xs its ∧ s.heap.get? a = some { cls := .type "list", data := .seq its.toArray n } ∧ xs.length ≤ sizeLine := by
  rcases h with ⟨its, n, h⟩ | ⟨its, n, h1, h2, h3⟩
  · have ok : ObjOk X.prog X.w H s.heap a (.frz { cls := .type "list", data := .seq its n } (.lst xs)) := I.hok a _ h
    obtain ⟨e, hz, its2, n2, rv, e2⟩ := ok
    have e2' : s.heap.get? a = some { cls := .type "list", data := .seq its2.toArray n2 } := e2
    exact ⟨its2, n2, rv, e2', hz⟩
  · exact ⟨its.toList, n, h3, by simpa using I.kIn a _ h1, by rw [h3.length]; simpa using h2⟩
def rCat2 (K : PySem.W.Frag) : R2 := fun x y H Q => ∃ l b xs zs, x = .ref l ∧ y = .ref b ∧ SqX K H l xs ∧ H b = some (.lst zs) ∧ xs.length + zs.length ≤ sizeLine ∧ ∀ p, H p = none → Q (.ref p) (upd H p (.lst (xs ++ zs)))
theorem op_cat2 (K : PySem.W.Frag) {X : Cx} (hK : X.K = K := by rfl) : OpR X (binaryOp .Add) (rCat2 K) := by
  subst hK
  intro pins s σ H x y v u Q I rx ry h
  obtain ⟨l, b, xs, zs, rfl, rfl, hH, hB, hz, q⟩ := h
  cases rx
  cases ry
  obtain ⟨its, n, r, e, hl⟩ := SqX.get I hH
  obtain ⟨z2, its2, n2, r2, hl2, e2⟩ := I.lstM hB
  have hl1 := r.length
  refine PySem.P.add_list e e2 ?_ (by rw [List.size_toArray, List.size_toArray]; omega)
  have ea : its.toArray ++ its2.toArray = (its ++ its2).toArray := by simp
  rw [ea]
  exact ⟨.ref _, _, I.lnew (t' := s.toks) (r.append r2) (by rw [List.length_append]; omega), rfl, q _ I.fresh⟩
section
variable {K : PySem.W.Frag} {H : Hp} {Q : VK} {a b : Addr} {xs ys : List V}
theorem rd_cat2 (ha : SqX K H a xs) (hb : H b = some (.lst ys)) (hl : xs.length + ys.length ≤ sizeLine) (h : ∀ p H', NewO H p (.lst (xs ++ ys)) H' → Q (.ref p) H') : rCat2 K (.ref a) (.ref b) H Q := ⟨a, b, xs, ys, rfl, rfl, ha, hb, hl, fun p hp => h p _ (newO hp)⟩
theorem rd_cat (ha : H a = some (.lst xs)) (hb : H b = some (.lst ys)) (hl : xs.length + ys.length ≤ sizeLine) (h : ∀ p H', NewO H p (.lst (xs ++ ys)) H' → Q (.ref p) H') : rCat (.ref a) (.ref b) H Q := ⟨a, b, xs, ys, rfl, rfl, ha, hb, hl, fun p hp => h p _ (newO hp)⟩
theorem rd_catA (ha : H a = some (.tup xs)) (hb : H b = some (.tup ys)) (hl : xs.length + ys.length ≤ sizeLine) (h : ∀ p H', Same H H' → H' p = some (.tup (xs ++ ys)) → Q (.ref p) H') : rCatA K (.ref a) (.ref b) H Q := by
  refine ⟨a, b, xs, ys, rfl, rfl, SqT.of ha, SqT.of hb, hl, fun e => ?_, fun _ e => ?_, fun _ _ p hp => ?_⟩
  · subst e
    exact h b H (Same.refl H) hb
  · subst e
    exact h a H (Same.refl H) (by rw [List.append_nil]; exact ha)
  · have n := newO (o := .tup (xs ++ ys)) hp
    exact h p _ n.s n.at'
theorem rd_slA {lo hi : Option Int} (ha : H a = some (.tup xs)) (h : ∀ p H', Same H H' → H' p = some (.tup (cutV xs lo hi)) → Q (.ref p) H') : rSlA K (.ref a) lo hi H Q := by
  refine ⟨a, xs, rfl, SqT.of ha, fun c => ?_, fun _ p hp => ?_⟩
  · refine h a H (Same.refl H) ?_
    unfold cutV
    rw [c.1, c.2, List.drop_zero, Nat.sub_zero, List.take_length]
    exact ha
  · have n := newO (o := .tup (cutV xs lo hi)) hp
    exact h p _ n.s n.at'
theorem rd_IB {f : Int → Int → V} {x : V} {i j : Int} (hx : x = .int i ∨ ∃ b, x = .bl b ∧ i = b2n b) (h : Q (f i j) H) : rIB f x (.int j) H Q := ⟨i, j, hx, rfl, h⟩
end
theorem rd_par {i j : Nat} {ta : TA} {D : Ends} {σ : L2.St} {H : Hp} (h : ta σ H fun vs H1 => ∃ v w, vs = [v, w] ∧ D.nx ((σ.set i (some v)).set j (some w)) H1) : tPar i j ta D σ H := h
theorem rd_par2 {v w : V} {R : V → V → Prop} (h : R v w) : ∃ v' w', [v, w] = [v', w'] ∧ R v' w' := ⟨v, w, rfl, h⟩
end NC

namespace NC
open PySem PySem.Spec PyProof.Rows L2
/-! ### the law's end -/
/-- the law's call from a caller that guards nothing -/
theorem law_callG {P : Program} {w : World} {K : PySem.W.Frag} {mg mb : Str → Option Value} {CX : CXT} {k : Nat} {fa a : Addr} {cs : List (Addr × Addr)} {fd : FuncData} {x : Str} {sp : Sp} {s₁ : Shared} {vs : List Value} {ns : List Int}
    (KX : K.In s₁.heap) (hns : s₁.heap.Ns mainGlobals mg) (hb : s₁.heap.Ns builtinsNs mb) (hbb : ∀ x : Str, x ≠ "__name__" → mb x = bootBuiltins x) (hlim : s₁.heap.NoLimit) (hg : s₁.gens = #[])
    (hT : ∀ p ∈ cs, s₁.heap.get? p.2 = some { cls := .none, data := .fields #[] }) (nT : ∀ p ∈ cs, K.lookup p.2 = none) (C : ∀ p ∈ cs, PySem.W.CodeHd s₁.heap p.1 p.2)
    (hbm : ∃ (bm : Addr) (ob : Obj), mg "__builtins__" = some (.ref bm) ∧ bm ≠ builtinsNs ∧ s₁.heap.get? bm = some ob ∧ ob.cls = .type "module" ∧ ob.dict = some builtinsNs ∧ ob.data = .plain)
    (ha : s₁.heap.get? a = some { cls := .type "list", data := .seq vs.toArray }) (hi : IntsAre vs ns) (hl : ns.length ≤ sizeLine) (hr : Room k callerA)
    (F : ∀ base : Heap, K.In base → base.Ns mainGlobals mg → (∀ p ∈ cs, LamX.TabB base mg p.1 p.2) → FnOkG P w K mg base CX k fa fd [x] sp) (hbind : ∀ (s : Shared) (u : Value), BindsTo s fd ⟨[u], []⟩ [(x, u)])
    (hsp : ∀ H : Hp, (∀ p ∈ cs, H p.2 = some (.tbl #[])) → SqX K H a (ns.map V.int) → sp [.ref a] H (fun v _ => v = .bl true) fun _ _ _ => False)
    (hCX : ∀ H e s', CX [] H s₁ (fun _ _ _ => False) e s' → False) :
    codeAny (model P w) callerA (.call (.ref fa) ⟨[.ref a], []⟩) (fun r s' => r = .ok (.ret (.bool true)) ∧ OldK s₁.heap s'.heap ∧ s'.os = s₁.os ∧ AllBare s'.gens) s₁ := by
  have rv := vals_ints hi
  have lenV := hi.length
  have isT : ∀ b : Addr, b ∈ cs.map (·.2) → s₁.heap.get? b = some { cls := .none, data := .fields #[] } := fun b hb => by
    obtain ⟨p, hp, e⟩ := List.mem_map.mp hb
    rw [← e]
    exact hT p hp
  have aT : a ∉ cs.map (·.2) := fun z => by
    have q := isT a z
    rw [ha] at q
    have z' : Data.seq vs.toArray _ = Data.fields #[] := congrArg Obj.data (Option.some.inj q)
    cases z'
  have memT : ∀ p ∈ cs, p.2 ∈ cs.map (·.2) := fun p hp => List.mem_map.mpr ⟨p, hp, rfl⟩
  -- from an abstract heap in which nothing but the script and the tables may be tracked
  have core : ∀ H : Hp, (∀ p ∈ cs, H p.2 = some (.tbl #[])) → (∀ b, H b = none ∨ b ∈ cs.map (·.2) ∨ ∃ o xs, H b = some (.frz o (.lst xs))) → SqX K H a (ns.map V.int) → HOk P w H s₁.heap → (∀ b, H b ≠ none → b = a ∨ b ∈ cs.map (·.2)) → (H a ≠ none → K.lookup a = none) →
      codeAny (model P w) callerA (.call (.ref fa) ⟨[.ref a], []⟩) (fun r s' => r = .ok (.ret (.bool true)) ∧ OldK s₁.heap s'.heap ∧ s'.os = s₁.os ∧ AllBare s'.gens) s₁ := by
    intro H hH hO hS hok hA hK
    have base_of : ∀ {b : Addr} {o : Obj}, s₁.heap.get? b = some o → H b = none → (hidT s₁.heap H).get? b = some o := fun e n => hidT_get e n
    have noD : ∀ {b : Addr} {o : Obj}, s₁.heap.get? b = some o → (∀ vs n, o.data ≠ .seq vs n) → o.data ≠ .fields #[] → H b = none := fun {b o} e h1 h2 => by
      cases q : H b with
      | none => rfl
      | some u =>
        rcases hA b (by rw [q]; simp) with e' | e'
        · rw [e', ha] at e
          cases e
          exact (h1 _ _ rfl).elim
        · rw [isT b e'] at e
          cases e
          exact (h2 rfl).elim
    have noA : ∀ {b : Addr} {o : Obj} {es : Array DictEntry} {ep : Nat}, s₁.heap.get? b = some o → o.data = .dict es ep → H b = none := fun {b o es ep} e d => by
      refine noD e (fun vs n z => ?_) fun z => ?_
      · rw [d] at z
        cases z
      · rw [d] at z
        cases z
    have nsK : ∀ {b : Addr} {m : Str → Option Value}, s₁.heap.Ns b m → (hidT s₁.heap H).Ns b m := fun {b m} ⟨o, es, ep, e, d, r⟩ => ⟨o, es, ep, base_of e (noA e d), d, r⟩
    have hKb : K.In (hidT s₁.heap H) := fun b o e => base_of (KX b o e) (by
      cases q : H b with
      | none => rfl
      | some u =>
        rcases hA b (by rw [q]; simp) with e' | e'
        · rw [e'] at e q
          rw [hK (by rw [q]; simp)] at e
          cases e
        · obtain ⟨p, hp, ep⟩ := List.mem_map.mp e'
          rw [← ep, nT p hp] at e
          cases e)
    have hM : L2.Mod K mg (hidT s₁.heap H) := ⟨hKb, nsK hns, ⟨mb, nsK hb, hbb⟩, let ⟨mc, h1, h2⟩ := hlim; ⟨mc, nsK h1, h2⟩⟩
    have TB : ∀ p ∈ cs, LamX.TabB (hidT s₁.heap H) mg p.1 p.2 := fun p hp => by
      have hTp := hT p hp
      refine ⟨?_, ?_, fun z => ?_⟩
      · obtain ⟨o, us, file, tf, flags, tg, inF, text, tt, e1, r1, r2, r3, r4, r5, r6, r7, r8, hne⟩ := C p hp
        refine ⟨o, us, file, tf, flags, tg, inF, text, tt, base_of e1 (noD e1 (fun vs n z => ?_) fun z => ?_), r1, r2, r3, r4, r5, r6, r7, r8, hne⟩
        · rw [r2] at z
          cases z
        · rw [r2] at z
          cases z
          simp at r3
      · obtain ⟨bm, ob, b1, b2, b3, b4, b5, b6⟩ := hbm
        have nG : bm ≠ mainGlobals := fun q => by
          obtain ⟨o, es, ep, e, hd, _⟩ := hns
          rw [q, e] at b3
          cases b3
          rw [hd] at b6
          cases b6
        have nP : bm ≠ p.2 := fun q => by
          rw [q, hTp] at b3
          cases b3
          cases b6
        refine ⟨bm, ob, b1, b2, nG, nP, base_of b3 (noD b3 (fun vs n z => ?_) fun z => ?_), b4, b5, b6⟩
        · rw [b6] at z
          cases z
        · rw [b6] at z
          cases z
      · obtain ⟨o, es, ep, e, hd, _⟩ := hns
        rw [z, hTp] at e
        cases e
        cases hd
    have e0 : Env0 P w K mg (hidT s₁.heap H) callerA [] s₁ H := ⟨rfl, hM, fun b o e => of_hidT e, Nat.le_of_eq (hidT_size _ _), trivial, fun b hb => absurd (show b ∈ ([] : List Addr) from hb) (by simp), hok, .of_eq hg⟩
    refine codeAny_mono ((F _ hKb (nsK hns) TB).run callerA [] s₁ H ⟨[.ref a], []⟩ [.ref a] [.ref a] _ _ hr rfl e0 (hbind s₁ (.ref a)) (.cons rfl .nil) (hsp H hH hS)) fun r s' h => ?_
    cases r with
    | error e => exact (hCX H e s' h).elim
    | ok fl =>
      cases fl with
      | next => exact False.elim h
      | brk => exact False.elim h
      | cont => exact False.elim h
      | ret u =>
        obtain ⟨v, H', os, bare, un, hok', r', q⟩ := h
        have q' : v = .bl true := q
        subst q'
        obtain rfl : u = Value.bool true := r'
        have key : ∀ b o, b ∉ cs.map (·.2) → s₁.heap.get? b = some o → s'.heap.get? b = some o := fun b o nb e => by
          cases q : H b with
          | none => exact un.keep b o e q (by intro z; exact absurd (show b ∈ ([] : List Addr) from z) (by simp)) (by simp)
          | some u =>
            rcases hO b with z | z | ⟨ob, xs, z⟩
            · rw [q] at z; cases z
            · exact absurd z nb
            · have z2 := un.frzs b ob _ z
              obtain ⟨e1, _⟩ := hok b _ z
              obtain ⟨e2, _⟩ := hok' b _ z2
              rw [e] at e1; cases e1
              exact e2
        have grown : ∀ p ∈ cs, ∃ more : Array Value, s'.heap.get? p.2 = some { cls := .none, data := .fields more } := fun p hp => by
          obtain ⟨more, z⟩ := un.tbls p.2 #[] (hH p hp)
          exact ⟨_, hok' p.2 _ z⟩
        refine ⟨rfl, ⟨fun b o e => ?_, fun b o e => ?_⟩, os, bare⟩
        · by_cases hb : b ∈ cs.map (·.2)
          · obtain ⟨p, hp, ep⟩ := List.mem_map.mp hb
            obtain ⟨more, hm⟩ := grown p hp
            rw [← ep] at e ⊢
            rw [hT p hp] at e
            cases e
            exact .inr (.inl ⟨((C p hp).tab (hT p hp)).isCodeTable, rfl, #[], more, rfl, by rw [Array.empty_append]; exact hm⟩)
          · exact .inl (key b o hb e)
        · by_cases hb : b ∈ cs.map (·.2)
          · obtain ⟨p, hp, ep⟩ := List.mem_map.mp hb
            obtain ⟨more, hm⟩ := grown p hp
            rw [← ep]
            exact ⟨_, hm⟩
          · exact ⟨o, key b o hb e⟩
  cases hk : K.lookup a with
  | some o =>
    have e := KX a o hk
    rw [ha] at e
    cases e
    refine core (fun b => if b ∈ cs.map (·.2) then some (.tbl #[]) else none) (fun p hp => if_pos (memT p hp)) (fun b => ?_) (.inr ⟨vs.toArray, _, hk, by rw [List.size_toArray, lenV]; exact hl, by simpa using rv⟩) (fun b u z => ?_) (fun b z => ?_) fun z => absurd (show (if a ∈ cs.map (·.2) then some (HO.tbl #[]) else none) = none from if_neg aT) z
    · by_cases hb : b ∈ cs.map (·.2)
      · exact .inr (.inl hb)
      · exact .inl (if_neg hb)
    · by_cases hb : b ∈ cs.map (·.2)
      · have z' := (if_pos hb).symm.trans z
        cases z'
        exact isT b hb
      · have z' := (if_neg hb).symm.trans z
        cases z'
    · by_cases hb : b ∈ cs.map (·.2)
      · exact .inr hb
      · exact absurd (if_neg hb) z
  | none =>
    refine core (fun b => if b = a then some (.frz { cls := .type "list", data := .seq vs.toArray } (.lst (ns.map V.int))) else if b ∈ cs.map (·.2) then some (.tbl #[]) else none) (fun p hp => (if_neg (show ¬ p.2 = a from fun z => aT (by rw [← z]; exact memT p hp))).trans (if_pos (memT p hp))) (fun b => ?_)
      (.inl ⟨vs.toArray, _, if_pos rfl⟩) (fun b u z => ?_) (fun b z => ?_) fun _ => hk
    · by_cases hb : b = a
      · exact .inr (.inr ⟨_, _, if_pos hb⟩)
      · by_cases hb2 : b ∈ cs.map (·.2)
        · exact .inr (.inl hb2)
        · exact .inl ((if_neg hb).trans (if_neg hb2))
    · by_cases hb : b = a
      · have z' := (if_pos hb).symm.trans z
        cases z'
        rw [hb]
        exact ⟨ha, by rw [List.length_map]; exact hl, vs, _, rv, ha⟩
      · have z1 := (if_neg hb).symm.trans z
        by_cases hb2 : b ∈ cs.map (·.2)
        · have z' := (if_pos hb2).symm.trans z1
          cases z'
          exact isT b hb2
        · have z' := (if_neg hb2).symm.trans z1
          cases z'
    · by_cases hb : b = a
      · exact .inl hb
      · by_cases hb2 : b ∈ cs.map (·.2)
        · exact .inr hb2
        · exact absurd ((if_neg hb).trans (if_neg hb2)) z
/-- what is known of the law's promise at the head's heap h; cs: code objects (of lambdas) and their tables -/
def LawG (l : PySem.W.OpenLaw) (w : World) (K : PySem.W.Frag) (CX : CXT) (k n : Nat) (x : Str) (mg : Str → Option Value) (fa : Addr) (h : Heap) : Prop :=
  ∃ (fd : FuncData) (cs : List (Addr × Addr)) (sp : Sp), (∀ p ∈ cs, h.get? p.2 = some { cls := .none, data := .fields #[] }) ∧ (∀ p ∈ cs, K.lookup p.2 = none) ∧ (∀ p ∈ cs, PySem.W.CodeHd h p.1 p.2) ∧ (∀ (s : Shared) (u : Value), BindsTo s fd ⟨[u], []⟩ [(x, u)]) ∧
    (∀ (H : Hp) (a : Addr) (ns : List Int), ns.length ≤ n → (∀ z ∈ ns, Builtin.Int.intBits z ≤ 1048576) → (∀ p ∈ cs, H p.2 = some (.tbl #[])) → SqX K H a (ns.map V.int) → sp [.ref a] H (fun v _ => v = .bl true) fun _ _ _ => False) ∧
    ∀ base : Heap, K.In base → base.Ns mainGlobals mg → (∀ p ∈ cs, LamX.TabB base mg p.1 p.2) → FnOkG l.prog w K mg base CX k fa fd [x] sp
theorem walk_ofG {l : PySem.W.OpenLaw} {n k : Nat} {q : Program} {loose : List Str} {XP : (Str → Option Value) → Heap → Prop} {YP : World → Heap → Prop} {d : DefRec} {K : Params → PySem.W.Frag} {CX : World → CXT} {x : Str}
    (hn : l.most = some n) (hn2 : n ≤ sizeLine) (hdf : d.params.defaults = []) (hr : Room k callerA) (hY : ∀ (w : World) (h : Heap), YP w h → (K w.params).In h)
    (F : ∀ (w : World) (mg : Str → Option Value) (fa : Addr) (h : Heap), YP w h → (K w.params).In h → h.Ns mainGlobals mg → mg d.name = some (.ref fa) → LawG l w (K w.params) (CX w) k n x mg fa h)
    (hCX : ∀ (w : World) (H : Hp) (s : Shared) (e : Value) (s' : Shared), CX w [] H s (fun _ _ _ => False) e s' → False) :
    PySem.W.WalkO q loose XP YP l.row.toRowW d [] (fun f vs => PySem.call f vs) := by
  refine Att.attach_callB hn hdf fun w s₀ s₁ mg mb fa o pm cd doc a vs ns G Y ho hd hcd hmg hobj hints hlen hbits hg => ?_
  have KX := hY w _ Y
  obtain ⟨fd, cs, sp, hT, nT, C, hb, hsp, hF⟩ := F w mg fa _ Y KX G.T.g hmg
  exact law_callG KX G.T.g G.T.b G.T.builtins G.T.nolimit hg hT nT C G.T.bmain hobj hints (Nat.le_trans hlen hn2) hr hF hb (fun H hH hS => hsp H a ns hlen hbits hH hS) fun H e s' => hCX w H s₁ e s'
theorem cutV_ints (l : List Int) (lo hi : Option Int) : ∃ ms : List Int, cutV (l.map V.int) lo hi = ms.map V.int ∧ ms.length ≤ l.length := by
  refine ⟨(l.drop (HT.sIx l.length 0 lo)).take (HT.sIx l.length l.length hi - HT.sIx l.length 0 lo), ?_, ?_⟩
  · unfold cutV
    rw [List.length_map, List.map_take, List.map_drop]
  · rw [List.length_take, List.length_drop]
    omega
/-- the law: of any script -/
def spLaw (K : PySem.W.Frag) : Sp := fun vs H Q _ => ∃ (a : Addr) (ns : List Int), vs = [.ref a] ∧ SqX K H a (ns.map V.int) ∧ ns.length ≤ 1000 ∧ ∀ H', Q (.bl true) H'
/-- what is asked of each well -/
def spWell (Z : List (Addr × Str)) : Sp := fun vs H Q _ => ∃ a : Addr, vs = [.ref a] ∧ H a = some (WellO a) ∧ ∀ H', Sm Z H H' → Q (.bl true) H'
def spWell0 (Z : List (Addr × Str)) : Sp := fun vs H Q _ => ∃ (a : Addr) (x y z : Int), vs = [.ref a] ∧ H a = some (.lst [.int x, .int y, .int z]) ∧ ∀ H', Sm Z (upd H a (WellO a)) H' → Q (.bl true) H'
theorem spWell_of {Z : List (Addr × Str)} (vs : List V) (H : Hp) (Q : VK) (E : XK) (h : spWell0 Z vs H Q E) : vs.length = 1 ∧ ∃ (a : Addr) (x y z : Int), H a = some (.lst [.int x, .int y, .int z]) ∧ spWell Z vs (upd H a (WellO a)) (fun v H' => H' a = some (WellO a) ∧ Q v H') E := by
  obtain ⟨a, x, y, z, rfl, ha, k⟩ := h
  exact ⟨rfl, a, x, y, z, ha, a, rfl, upd_same, fun H' s => ⟨s.well upd_same, k H' s⟩⟩
end NC

namespace PySem
namespace HandSPX
open Builtin Builtin.ObjectAttr
section
variable {M : Model} {A : Around} {E : Value → Shared → Prop} {h : Heap} {g : Array GenState} {d : Drawn} {t : Nat} {os : OsState}
variable {nm q : Str} {C N : Addr} {bs bm bmB : List Value} {hdct : Bool} {sn : List Str} {sub : List Value} {ab : Bool} {col : Option Bool} {dd : Option Addr} {k0 k1 k2 k3 k5 : Option Value} {B newId initId : String}
theorem nc_check_new_kw (F : ExcBaseFacts B newId initId bmB) (hT : ∀ X : String, bm.contains (.type X) = bmB.contains (.type X)) {kw : List (Str × Value)} {Q : Unit → Shared → Prop}
    (hC : h.get? C = some (excClassObj nm q C N bs bm hdct sn sub ab col dd k0 k1 k2 k3 k5 newId)) (hq : Q () ⟨h, g, d, t, os⟩) : wpAny M A (checkBuiltinCall newId ⟨[.ref C], kw⟩) Q E ⟨h, g, d, t, os⟩ := by
  have hcont : (Value.ref C :: bm).contains (.type B) = true := by rw [List.contains_cons, hT, F.hasB, Bool.or_true]
  have hstar := F.noStar
  simp only [checkBuiltinCall, F.newKind, F.newSplit, F.newRow]
  repeat (first | refine wpAny_loadPart_at hC ?_ | (refine wpAny_isSubtype_exc hC ?_; rw [hcont]) | refine wpAny_staticBase_exc hC ?_ | refine wpAny_madeBy_exc hC ?_ | simp only [bne_self_eq_false, Bool.false_eq_true, if_false] | wp_step)
  exact hq
end
section
variable {prog : Program} {w : World} {A : Around} {E : Value → Shared → Prop} {R : Result → Shared → Prop} {h : Heap} {g : Array GenState} {d : Drawn} {t : Nat} {os : OsState}
variable {nm q : Str} {C N : Addr} {bs bm bmB : List Value} {hdct : Bool} {sn : List Str} {sub : List Value} {ab : Bool} {col : Option Bool} {dd : Option Addr} {k0 k1 k2 k3 k5 : Option Value} {B newId initId : String}
theorem nc_new_kw (F : ExcBaseFacts B newId initId bmB) (hT : ∀ X : String, bm.contains (.type X) = bmB.contains (.type X)) {kw : List (Str × Value)}
    (hC : h.get? C = some (excClassObj nm q C N bs bm hdct sn sub ab col dd k0 k1 k2 k3 k5 newId))
    (hq : R (.ok (.ret (.ref (h.objs.size + 1)))) ⟨(h.push { cls := .type "tuple", data := .seq ([] : List Value).toArray }).push
      { cls := .ref C, data := .fields #[.ref h.objs.size, .none, .none, .none, .bool false, .none] }, g, d, t, os⟩) :
    codeAny (model prog w) A (.builtin newId ⟨[.ref C], kw⟩) R ⟨h, g, d, t, os⟩ := by
  have hends := F.ends
  have hcB : (Value.ref C :: bm).contains (.type B) = true := by rw [List.contains_cons, hT, F.hasB, Bool.or_true]
  have hcA : (Value.ref C :: bm).contains (.type "AttributeError") = false := by rw [List.contains_cons, hT, F.noAttr]; rfl
  have hcN : (Value.ref C :: bm).contains (.type "NameError") = false := by rw [List.contains_cons, hT, F.noName]; rfl
  refine codeAny_builtinAt F.entry ?_
  unfold Builtin.«BaseException.__new__»
  refine wpAt_bind ?_
  show wpAt _ _ _ (stack >>= _) _ _ _
  refine wpAt_bind (wpAt_stack fun p below => wpAt_of_wpAny ?_)
  wp_walk
  refine wpAt_of_wpAny ?_
  rw [F.owner]
  repeat (first | with_reducible refine wpAny_madeHere_exc F.canon hC ?_ | with_reducible refine wpAny_loadPart_at hC ?_ | (with_reducible refine wpAny_isSubtype_exc hC ?_; first | rw [hcB] | rw [hcA] | rw [hcN]) | wp_step)
  show R _ _
  rw [Heap.size_push]
  exact hq
theorem nc_type_call_kw (F : ExcBaseFacts B newId initId bmB) (hT : ∀ X : String, bm.contains (.type X) = bmB.contains (.type X)) {kw : List (Str × Value)} {fI : Addr} {Q : Fin → Shared → Prop}
    (hC : h.get? C = some (excClassObj nm q C N bs bm hdct sn sub ab col dd k0 k1 k2 k3 k5 newId))
    (hi : W.Looks (model prog w) h (typeLookup (.ref C) "__init__") (some (.ref fI))) (hb : ∀ self, W.Looks (model prog w) h (bindSpecial (.ref fI) self) (.ref fI, [self]))
    (hq : codeAny (model prog w) A (.call (.ref fI) ⟨[.ref (h.objs.size + 1)], kw⟩)
      (fun r s' => match r with | .ok (.ret v) => v = .none ∧ Q (.done (.ret (.ref (h.objs.size + 1)))) s' | .ok _ => False | .error e => E e s')
      ⟨(h.push (W.kdv_tup [])).push (excO C h.objs.size), g, d, t, os⟩) :
    wpAny (model prog w) A (Builtin.«type.__call__» ⟨[.ref C], kw⟩) Q E ⟨h, g, d, t, os⟩ := by
  repeat (first | with_reducible refine wpAny_loadPart_at hC ?_ | with_reducible refine wpAny_madeBy_exc hC ?_ | wp_step)
  refine codeAny_call_builtin_code (Code.quiet_builtin _ F.quiet) (nc_check_new_kw F hT hC ?_)
  refine nc_new_kw F hT hC ?_
  show wpAny _ _ _ _ _ _
  have k : ∀ b o, h.get? b = some o → ((h.push (W.kdv_tup [])).push (excO C h.objs.size)).get? b = some o := fun b o e => Heap.get?_push_of_some _ (Heap.get?_push_of_some _ e)
  have hC₁ := k _ _ hC
  have hget : ((h.push (W.kdv_tup [])).push (excO C h.objs.size)).get? (h.objs.size + 1) = some (excO C h.objs.size) := by heap_get
  have hcC : (Value.ref C :: bm).contains (.ref C) = true := by simp
  have i1 := hi.keeps k
  have b1 := (hb (.ref (h.objs.size + 1))).keeps k
  unfold isInstance
  repeat (first | with_reducible refine wpAny_loadPart_at hget ?_ | (with_reducible refine wpAny_isSubtype_exc hC₁ ?_; rw [hcC]) | wp_step)
  show wpAny _ _ (typeLookup (.ref C) _) _ _ _
  refine i1.at ?_
  refine wpAny_holding (wpAny_bind (b1.at ?_))
  refine wpAny_bind (wpAny_call (codeAny_mono hq fun r s' z => ?_))
  rcases r with e | (v | _ | _ | _) <;> first | exact z | exact z.elim | skip
  obtain ⟨rfl, z⟩ := z
  first
    | exact wpAny_pure (wpAny_pure z)
    | (wp_walk; exact z)
theorem nc_call_kw (F : ExcBaseFacts B newId initId bmB) (hT : ∀ X : String, bm.contains (.type X) = bmB.contains (.type X)) {kw : List (Str × Value)} {fI : Addr}
    (hC : h.get? C = some (excClassObj nm q C N bs bm hdct sn sub ab col dd k0 k1 k2 k3 k5 newId))
    (hi : W.Looks (model prog w) h (typeLookup (.ref C) "__init__") (some (.ref fI))) (hb : ∀ self, W.Looks (model prog w) h (bindSpecial (.ref fI) self) (.ref fI, [self]))
    (hq : codeAny (model prog w) (A.under (.builtin "type.__call__" ⟨[.ref C], kw⟩)) (.call (.ref fI) ⟨[.ref (h.objs.size + 1)], kw⟩) (W.InitBack (h.objs.size + 1) R)
      ⟨(h.push (W.kdv_tup [])).push (excO C h.objs.size), g, d, t, os⟩) :
    codeAny (model prog w) A (.call (.ref C) ⟨[], kw⟩) R ⟨h, g, d, t, os⟩ := by
  have f1 := tc_lookup
  have f2 := tc_bind (.ref C)
  have hTy : (⟨h, g, d, t, os⟩ : Shared).TypeIs (.ref C) "type" := ⟨_, hC, rfl⟩
  refine codeAny_of_tree ?_
  show wpAny _ _ (callAny (.ref C) _) _ _ _
  repeat (any_goals (first | assumption | with_reducible refine wpAny_loadPart_at hC ?_ | wp_step))
  refine ⟨rfl, ?_⟩
  refine codeAny_call_builtin_at (Code.quiet_builtin _ (by decide +kernel)) entry_typeCall (wpAny_check_type_call_sub hC (nc_type_call_kw F hT hC hi hb ?_))
  refine codeAny_mono hq fun r s' z => ?_
  rcases r with e | (v | _ | _ | _) <;> exact z
end
end HandSPX
end PySem

namespace NC
open PySem PySem.Spec PyProof.Rows L2
/-! ### exceptions as values -/
/-- at a: an exception of the own class at C, its dict at d holds fs -/
def ExAt (H : Hp) (a C : Addr) (fs : List (Str × V)) : Prop := ∃ d, H a = some (exo a C (some d)) ∧ H d = some (exd d fs)
theorem exo_ext (a C : Addr) (d : Option Addr) : ∀ ps, exo a C d ≠ .tbl ps := fun ps z => by
  have z' : HO.ext _ = HO.tbl ps := z
  cases z'
theorem exd_ext (a : Addr) (fs : List (Str × V)) : ∀ ps, exd a fs ≠ .tbl ps := fun ps z => by
  have z' : HO.ext _ = HO.tbl ps := z
  cases z'
theorem ExAt.sm {T : List (Addr × Str)} {H H' : Hp} (s : Sm T H H') {a C : Addr} {fs : List (Str × V)} (h : ExAt H a C fs) : ExAt H' a C fs := by
  obtain ⟨d, h1, h2⟩ := h
  exact ⟨d, s.1 _ _ h1 (exo_ext _ _ _), s.1 _ _ h2 (exd_ext _ _)⟩
section
variable (P : Program) (w : World) (K : PySem.W.Frag) (mg : Str → Option Value) (base : Heap)
/-- an own exception class, its __init__ stores one field; made by place and by name -/
structure CalV (k : Nat) (x : Str) (C : Addr) (f : Str) : Prop where
  ex : ∃ (fI : Addr) (fd : FuncData), FnOk P w K mg base CX0 k fI fd ["self", f] (spErr K C f) ∧ mg x = some (.ref C) ∧ PySem.W.findIn K (.ref C) "__init__" = some (some (.ref fI)) ∧ PySem.W.typeIn K (.ref fI) = some (.type "function") ∧
    Binds K fd ["self", f] [] ∧ ∀ (s : Shared) (u v : Value), BindsTo s fd ⟨[u], [(f, v)]⟩ [("self", u), (f, v)]
  oex : OexC K C
  nf : PySem.W.findIn K (.ref C) f = some none
end
/-- C(e), C(f=e) -/
def tMkV (C : Addr) (f : Str) (ta : TA) : TE := fun σ H Q => ta σ H fun vs H1 => ∃ v, vs = [v] ∧ ∀ a H2, Same H1 H2 → H1 a = none → ExAt H2 a C [(f, v)] → Q (.ref a) H2
theorem ext_val {Q : VK} {H1 : Hp} {C a : Addr} {f : Str} {v : V} {K : PySem.W.Frag} (T : OexC K C) (nf : PySem.W.findIn K (.ref C) f = some none) (ha : H1 a = none) (q : ∀ a H2, Same H1 H2 → H1 a = none → ExAt H2 a C [(f, v)] → Q (.ref a) H2) :
    spErr K C f [.ref a, v] (upd H1 a (exo a C none)) (fun u H2 => u = .non ∧ Q (.ref a) H2) (fun _ _ _ => False) := by
  refine ⟨a, v, rfl, T, nf, upd_same, fun d hd hda => ⟨rfl, q a _ (fun b u hb => ?_) ha ⟨d, upd_same, by rw [upd_ne hda, upd_same]⟩⟩⟩
  rw [upd_ne hda] at hd
  rw [upd_ne (ne_of_none hb ha), upd_ne (ne_of_none hb hd), upd_ne (ne_of_none hb ha)]
  exact hb
section
variable {X : Cx} {j k : Nat} {C : Addr} {f x : Str} {p pos kpos : Pos} {e : Expr} {ta : TA} {te : TE}
theorem pe_mkV (hr : Room j X.A) (hk : k + 1 ≤ j) (c : CalV X.prog X.w X.K X.mg X.base k x C f) (hg : Gl X x) (ha : PA X [e] ta) (hdb : (x == ("__debug__" : Str)) = false := by decide)
    (he : starEach [e] X.env = (false, eval e X.env) :: starEach [] X.env := by rfl) (hpl : (backTo pos (starEach [] X.env)).any (·.1) = false := by rfl) : PE X (.Call (.Name x p) [e] [] pos) (tMkV C f ta) := by
  obtain ⟨fI, fd, F1, hm, iC, tI, hb, _⟩ := c.ex
  have T := c.oex
  have hr := hr.mono hk
  refine ⟨fun pins s σ H Q I h => ?_⟩
  obtain ⟨nm, q, N, bs, bm, sn, sub, ab, col, dd, k0, k1, k2, k3, k5, hC, hbm⟩ := T.cls
  refine wpAny_Call_Name_kw (ld_glob I hg hm ?_ hdb)
  refine PySem.W.callWith_K (h₀ := X.base) I.ok.mod.kin T.kC (thn (ha.run pos pins s σ H _ I h) fun us s1 ⟨vs, H1, I1, r1, v, ev, q1⟩ => ⟨I1.kIn, ?_⟩) he hpl
  subst ev
  show wpAny _ _ (call (.ref C) us) _ _ _
  obtain ⟨hp, g, dr, tk, os⟩ := s1
  have hsz : hp.objs.size ≤ hp.objs.size + 1 := Nat.le_succ _
  have hn : H1 (hp.objs.size + 1) = none := I1.hok.fresh hsz
  have hq := ext_val (Q := Q) T c.nf hn q1
  have kk : ∀ b o, hp.get? b = some o → ((hp.push (PySem.W.kdv_tup us)).push (PySem.HandSPX.excO C hp.objs.size)).get? b = some o := fun b o e => Heap.get?_push_of_some _ (Heap.get?_push_of_some _ e)
  have hget : ((hp.push (PySem.W.kdv_tup us)).push (PySem.HandSPX.excO C hp.objs.size)).get? (hp.objs.size + 1) = some (PySem.HandSPX.excO C hp.objs.size) := by heap_get
  have I2 : L2.Inv X pins σ (upd H1 (hp.objs.size + 1) (exo (hp.objs.size + 1) C none)) ⟨(hp.push (PySem.W.kdv_tup us)).push (PySem.HandSPX.excO C hp.objs.size), g, dr, tk, os⟩ :=
    I1.laid (t' := tk) (a := hp.objs.size + 1) (o := exo (hp.objs.size + 1) C none) (h' := (hp.push (PySem.W.kdv_tup us)).push (PySem.HandSPX.excO C hp.objs.size)) kk hsz (exo_ok hget)
  have r2 : Vals (V.ref (hp.objs.size + 1) :: [v]) (Value.ref (hp.objs.size + 1) :: us) := .cons rfl r1
  have hl : (Value.ref (hp.objs.size + 1) :: us).length = 2 := by
    rw [← r2.length]
    rfl
  have hus : us.length ≤ sizeLine := by
    rw [← Paired.length r1, sizeLine_eq]
    simp only [List.length_singleton]
    omega
  have b := hb ⟨(hp.push (PySem.W.kdv_tup us)).push (PySem.HandSPX.excO C hp.objs.size), g, dr, tk, os⟩ (Value.ref (hp.objs.size + 1) :: us) I2.kIn (by rw [List.append_nil]; exact hl)
  rw [List.append_nil] at b
  refine wpAny_call (PySem.HandSPX.call_own F.excBase_ValueError (fun Y => PySem.HandSPX.refsVE_contains Y bm hbm) (I1.kIn _ _ hC) (PySem.W.looks_findIn I1.kIn iC) (fun self => PySem.W.bind_fn I1.kIn self tI) hus
    (codeAny_mono (F1.run _ X.stack _ _ ⟨Value.ref (hp.objs.size + 1) :: us, []⟩ (Value.ref (hp.objs.size + 1) :: us) _ _ (fun _ _ _ => False) (hr.make C us []) (I2.env0.make C us []) b r2 hq) fun r s' hq' => ?_))
  cases r with
  | error er => exact ((fun _ _ _ _ _ _ _ h => h.elim : Passes CX0 X (fun _ _ _ => False)) pins σ _ _ er s' I2 hq')
  | ok fl =>
    cases fl with
    | ret u =>
      obtain ⟨v', H2, I3, rv, ev, q2⟩ := I2.after hq'
      subst ev
      exact ⟨rv, ⟨V.ref (hp.objs.size + 1), H2, I3, rfl, q2⟩⟩
    | next => exact False.elim hq'
    | brk => exact False.elim hq'
    | cont => exact False.elim hq'
theorem pe_mkKV (hr : Room j X.A) (hk : k + 1 ≤ j) (c : CalV X.prog X.w X.K X.mg X.base k x C f) (hg : Gl X x) (ha : PE X e te) (hdb : (x == ("__debug__" : Str)) = false := by decide)
    (hall : (backToKw pos (keywordEach [⟨some f, e, kpos⟩] X.env)).all (·.1.isSome) = true := by rfl) (hks : (backToKw pos (keywordEach [⟨some f, e, kpos⟩] X.env)).filterMap (·.1) = [f] := by rfl)
    (hpl : ((backTo pos (starEach [] X.env)).any (·.1) || (backToKw pos (keywordEach [⟨some f, e, kpos⟩] X.env)).any (·.1.isNone)) = false := by rfl) : PE X (.Call (.Name x p) [] [⟨some f, e, kpos⟩] pos) (tMkV C f (tCons te tNil)) := by
  obtain ⟨fI, fd, F1, hm, iC, tI, _, hb⟩ := c.ex
  have T := c.oex
  have hr := hr.mono hk
  refine ⟨fun pins s σ H Q I h => ?_⟩
  obtain ⟨nm, q, N, bs, bm, sn, sub, ab, col, dd, k0, k1, k2, k3, k5, hC, hbm⟩ := T.cls
  refine wpAny_Call_Name_kw (ld_glob I hg hm ?_ hdb)
  refine PySem.W.callWith_KW0 (h₀ := X.base) I.ok.mod.kin T.kC hall (thn ((pk_cons ha pk_nil : PK X [⟨some f, e, kpos⟩] (tCons te tNil)).run pos pins s σ H _ I h) fun us s1 ⟨vs, H1, I1, r1, v, ev, q1⟩ => ⟨I1.kIn, ?_⟩) hpl
  subst ev
  rw [hks]
  obtain ⟨u, rfl, ru⟩ := vals1 r1
  show wpAny _ _ (call (.ref C) [] [(f, u)]) _ _ _
  obtain ⟨hp, g, dr, tk, os⟩ := s1
  have hsz : hp.objs.size ≤ hp.objs.size + 1 := Nat.le_succ _
  have hn : H1 (hp.objs.size + 1) = none := I1.hok.fresh hsz
  have hq := ext_val (Q := Q) T c.nf hn q1
  have kk : ∀ b o, hp.get? b = some o → ((hp.push (PySem.W.kdv_tup [])).push (PySem.HandSPX.excO C hp.objs.size)).get? b = some o := fun b o e => Heap.get?_push_of_some _ (Heap.get?_push_of_some _ e)
  have hget : ((hp.push (PySem.W.kdv_tup [])).push (PySem.HandSPX.excO C hp.objs.size)).get? (hp.objs.size + 1) = some (PySem.HandSPX.excO C hp.objs.size) := by heap_get
  have I2 : L2.Inv X pins σ (upd H1 (hp.objs.size + 1) (exo (hp.objs.size + 1) C none)) ⟨(hp.push (PySem.W.kdv_tup [])).push (PySem.HandSPX.excO C hp.objs.size), g, dr, tk, os⟩ :=
    I1.laid (t' := tk) (a := hp.objs.size + 1) (o := exo (hp.objs.size + 1) C none) (h' := (hp.push (PySem.W.kdv_tup [])).push (PySem.HandSPX.excO C hp.objs.size)) kk hsz (exo_ok hget)
  have r2 : Vals (V.ref (hp.objs.size + 1) :: [v]) [Value.ref (hp.objs.size + 1), u] := .cons rfl (.cons ru .nil)
  refine wpAny_call (PySem.HandSPX.nc_call_kw F.excBase_ValueError (fun Y => PySem.HandSPX.refsVE_contains Y bm hbm) (I1.kIn _ _ hC) (PySem.W.looks_findIn I1.kIn iC) (fun self => PySem.W.bind_fn I1.kIn self tI)
    (codeAny_mono (F1.run _ X.stack _ _ ⟨[Value.ref (hp.objs.size + 1)], [(f, u)]⟩ [Value.ref (hp.objs.size + 1), u] _ _ (fun _ _ _ => False) (hr.make C [] [(f, u)]) (I2.env0.make C [] [(f, u)]) (hb _ _ _) r2 hq) fun r s' hq' => ?_))
  cases r with
  | error er => exact ((fun _ _ _ _ _ _ _ h => h.elim : Passes CX0 X (fun _ _ _ => False)) pins σ _ _ er s' I2 hq')
  | ok fl =>
    cases fl with
    | ret u =>
      obtain ⟨v', H2, I3, rv, ev, q2⟩ := I2.after hq'
      subst ev
      exact ⟨rv, ⟨V.ref (hp.objs.size + 1), H2, I3, rfl, q2⟩⟩
    | next => exact False.elim hq'
    | brk => exact False.elim hq'
    | cont => exact False.elim hq'
end
/-! ### e.f, isinstance -/
def tVFld (K : PySem.W.Frag) (f : Str) (te : TE) : TE := fun σ H Q => te σ H fun x H1 => ∃ (a C : Addr) (fs : List (Str × V)) (v : V), x = .ref a ∧ ExAt H1 a C fs ∧ GetX K C f ∧ fs.lookup f = some v ∧ Q v H1
/-- what a class must say, so that isinstance asks its instances rightly -/
structure ExcK (K : PySem.W.Frag) (C : Addr) : Prop where
  cl : (PySem.W.clsIn K C).isSome = true
  ga : PySem.W.findIn K (.ref C) "__getattribute__" = some (some (.builtin "BaseException.__getattribute__"))
  gg : PySem.W.findIn K (.ref C) "__getattr__" = some none
  sb : PySem.W.subIn K (.ref C) (.type "BaseException") = some true
  hc : PySem.W.findIn K (.ref C) "__class__" = some (some (.builtin "object.__class__"))
  hn : PySem.W.specialIn K (.builtin "object.__class__") "__get__" = some (some (.builtin "getset_descriptor.__get__"))
  ht : PySem.W.takesIn K (.builtin "object.__class__") = some true
  hm : PySem.W.mroIn K C (.type "object") = some true
def rIsV (K : PySem.W.Frag) : List V → Hp → VK → Prop := fun xs H Q => ∃ (a C : Addr) (fs : List (Str × V)) (c : V) (cv : Value) (b : Bool), xs = [.ref a, c] ∧ ExAt H a C fs ∧ ClsV c cv ∧ ExcK K C ∧ PySem.W.kitOne K (.ref C) cv = some b ∧ Q (.bl b) H
section
variable {X : Cx} {pins : List (Addr × Obj)} {σ : L2.St} {H : Hp} {s : Shared} {a C : Addr} {fs : List (Str × V)}
theorem ExAt.inst (I : L2.Inv X pins σ H s) (h : ExAt H a C fs) : ∃ (oe od : Obj) (mA : Str → Option Value), PySem.W.InstAt s.heap a oe C (some od) ∧ (∀ f, PySem.W.lookIn f od = some (mA f)) ∧ ∀ f, RelO (fs.lookup f) (mA f) := by
  obtain ⟨d, h1, h2⟩ := h
  obtain ⟨t0, hoe⟩ := exo_at I.hok h1
  obtain ⟨mA, hns, rel⟩ := exd_at I.hok h2
  obtain ⟨od, ho, hl⟩ := lookIn_ns hns
  exact ⟨_, od, mA, ⟨hoe, rfl, rfl, ho⟩, hl, rel⟩
end
theorem pe_vfld (K : PySem.W.Frag) {X : Cx} {f : Str} {e : Expr} {te : TE} {pos : Pos} (he : PE X e te) (hK : X.K = K := by rfl) (hb : attributeBase e f X.env (eval e X.env) = eval e X.env := by rfl) : PE X (.Attribute e f pos) (tVFld K f te) := by
  subst hK
  refine ⟨fun pins s σ H Q I h => ?_⟩
  refine attr_of hb (thn (he.run pins s σ H _ I h) fun u s1 hh => ?_)
  obtain ⟨x, H1, I1, rx, a, C, fs, v, ex, ha, G, l, q⟩ := hh
  subst ex
  obtain rfl : u = Value.ref a := rx
  obtain ⟨oe, od, mA, J, hl, rel⟩ := ha.inst I1
  obtain ⟨u, hu, ru⟩ := RelO.some_of (v := v) (o := mA f) (by rw [← l]; exact rel f)
  exact HandSPX.exc_get I1.kIn J G.ga G.gg G.exC (PySem.W.findObj_own G.hdC G.nf rfl (by rw [hl, hu])) (handed_of ru) ⟨v, H1, I1.tok _, ru, q⟩
theorem call_isV (K : PySem.W.Frag) {X : Cx} (hK : X.K = K := by rfl) : CallR X (.builtin "isinstance") (rIsV K) := by
  subst hK
  intro pins s σ H xs us Q I r h
  obtain ⟨a, C, fs, c, cv, b, rfl, ha, k, G, e, q⟩ := h
  obtain ⟨u1, u2, rfl, r1, r2⟩ := vals2 r
  have e2 := k.eq r2
  subst e2
  obtain rfl : u1 = Value.ref a := r1
  obtain ⟨oe, od, mA, J, hl, rel⟩ := ha.inst I
  exact PySem.W.kia_one (PySem.W.kitx_exc (ox := oe) (od := some od) G.cl G.ga G.gg G.sb G.hc G.hn G.ht G.hm) I.kIn J e (fun z => nomatch z) fun tk => ⟨.bl b, H, I.tok tk, rfl, q⟩
/-! ### ValueError("x") as a value -/
def BexO (a : Addr) (T : String) : HO := .ext fun h => ∃ o, h.get? a = some o ∧ o.cls = .type T
theorem pe_bex {X : Cx} {T N I' : String} {x : Str} {p pos : Pos} {e : Expr} {t : TA} (F : ExcClass T N I') (hg : Gl X x) (hm : X.mg x = none) (hv : bootBuiltins x = some (.type T)) (ha : PA X [e] t) (hn : x ≠ "__name__" := by decide) (hdb : (x == ("__debug__" : Str)) = false := by decide)
    (he : starEach [e] X.env = (false, eval e X.env) :: starEach [] X.env := by rfl) (hpl : (backTo pos (starEach [] X.env)).any (·.1) = false := by rfl) :
    PE X (.Call (.Name x p) [e] [] pos) (fun σ H Q => t σ H fun vs H1 => vs.length ≤ sizeLine ∧ ∀ a, H1 a = none → Q (.ref a) (upd H1 a (BexO a T))) := by
  refine ⟨fun pins s σ H Q J h => ?_⟩
  refine wpAny_Call_Name_kw (ld_blt J hg hm hv ?_ hn hdb)
  refine PyProof.Rows.callWith_type1 (thn (ha.run pos pins s σ H _ J h) fun us s1 hh => ?_) he hpl
  obtain ⟨vs, H1, I1, r1, q0, q1⟩ := hh
  refine PyProof.Rows.call_exc F (fun h' a mk => ?_) (Nat.le_trans (Nat.le_of_eq r1.length.symm) q0)
  obtain ⟨ob, t0, ha', hcls, hd⟩ := mk.there
  have hn1 := I1.hok.gone mk.new
  have new : ObjOk X.prog X.w (upd H1 a (BexO a T)) h' a (BexO a T) := ⟨⟨ob, ha', hcls⟩, ⟨ob, ha'⟩, fun h1 h2 ⟨o, e1, e2⟩ k => ⟨o, k o e1, e2⟩⟩
  exact ⟨.ref a, _, Inv.laidN (t' := s1.toks) I1 mk.keeps mk.new hn1 new, rfl, q1 a hn1⟩
def rIsB (K : PySem.W.Frag) (T : String) : List V → Hp → VK → Prop := fun xs H Q => ∃ (a : Addr) (c : V) (cv : Value) (b : Bool), xs = [.ref a, c] ∧ H a = some (BexO a T) ∧ ClsV c cv ∧ PySem.W.kitOne K (.type T) cv = some b ∧ Q (.bl b) H
theorem call_isB (K : PySem.W.Frag) {X : Cx} (hK : X.K = K := by rfl) : CallR X (.builtin "isinstance") (rIsB K "ValueError") := by
  subst hK
  intro pins s σ H xs us Q I r h
  obtain ⟨a, c, cv, b, rfl, ha, k, e, q⟩ := h
  obtain ⟨u1, u2, rfl, r1, r2⟩ := vals2 r
  have e2 := k.eq r2
  subst e2
  obtain rfl : u1 = Value.ref a := r1
  have ok : ObjOk X.prog X.w H s.heap a (BexO a "ValueError") := I.hok a _ ha
  obtain ⟨⟨o, h1, h2⟩, _⟩ := (show (∃ o, s.heap.get? a = some o ∧ o.cls = .type "ValueError") ∧ _ ∧ _ from ok)
  exact PySem.W.kia_one (PySem.W.kitx_bexc F.excAttr_ValueError (by rw [typeLookup_type, builtinLookup_eq_fast]; kernel_rfl) (by rw [isSubtype_type]; kernel_rfl) (by decide +kernel)) I.kIn ⟨o, h1, h2⟩ e (fun z => nomatch z) fun tk => ⟨.bl b, H, I.tok tk, rfl, q⟩
section
variable {K : PySem.W.Frag} {σ : L2.St} {H : Hp} {Q : VK} {tA : TA} {te : TE} {C : Addr} {f : Str}
theorem rd_mkV (h : tA σ H fun vs H1 => ∃ v, vs = [v] ∧ ∀ a H2, Same H1 H2 → H1 a = none → ExAt H2 a C [(f, v)] → Q (.ref a) H2) : tMkV C f tA σ H Q := h
theorem rd_vfld (h : te σ H fun x H1 => ∃ (a C : Addr) (fs : List (Str × V)) (v : V), x = .ref a ∧ ExAt H1 a C fs ∧ GetX K C f ∧ fs.lookup f = some v ∧ Q v H1) : tVFld K f te σ H Q := h
end
theorem pe_cls {X : Cx} {x : Str} {C : Addr} {pos : Pos} (hg : Gl X x) (hm : X.mg x = some (.ref C)) (hd : (x == ("__debug__" : Str)) = false := by decide) : PE X (.Name x pos) (tC (.ref C)) := pe_glob hg hm rfl hd
end NC

namespace NC
open PySem
def top (i : Nat) : Stmt := PySem.Challenge.pw_nextchannel_k19_exceptions.main.body.getD i (.Pass ⟨0, 0, 0, 0⟩)
end NC
namespace NC
open PySem PySem.Spec PyProof.Rows L2
local macro_rules | `(tactic| walk_at "sd") => `(tactic| first | rfl | assumption | omega | decide | (refine ⟨by omega, by omega⟩) | exact Or.inl ⟨by omega, by omega⟩ | exact Or.inr ⟨by omega, by omega⟩)
local macro_rules | `(tactic| walk_at "rd1") => `(tactic| first
  | with_reducible refine rd_seq ?_
  | with_reducible refine rd_asg ?_
  | with_reducible refine rd_gname ?_
  | with_reducible refine rd_var rfl ?_
  | with_reducible refine rd_c ?_
  | with_reducible refine rd_cons ?_
  | with_reducible refine rd_nil ?_
  | with_reducible refine rd_op ?_
  | with_reducible refine rd_ifs ?_
  | with_reducible refine rd_test ?_
  | with_reducible refine rd_tb ?_
  | with_reducible refine rd_bl ?_
  | with_reducible refine rd_I0 ?_
  | ((with_reducible refine rd_I ?_ ?_); · walk_at "sd")
  | with_reducible refine rd_U ?_
  | with_reducible refine rd_ret ?_
  | with_reducible refine rd_next ?_
  | with_reducible refine rd_drop ?_
  | with_reducible refine rd_cb ?_
  | with_reducible refine rd_call ?_
  | with_reducible refine rd_eqI ?_
  | with_reducible refine rd_neI ?_
  | with_reducible refine rd_and ?_
  | with_reducible refine rd_or ?_
  | with_reducible refine rd_not ?_
  | with_reducible refine rd_notV ?_
  | with_reducible refine rd_lc ?_
  | with_reducible refine rd_for ?_
  | with_reducible refine rd_iL ?_
  | with_reducible refine rd_iT ?_
  | with_reducible refine rd_iR1 ?_
  | with_reducible refine rd_iR2 ?_
  | with_reducible refine rd_iE ?_
  | with_reducible refine rd_lrg1 ?_
  | with_reducible refine rd_iRW2 ?_
  | with_reducible refine rd_callS ?_
  | with_reducible refine rd_methS ?_
  | with_reducible refine rd_makeS ?_
  | with_reducible refine rd_meth ?_
  | with_reducible refine rd_make ?_
  | with_reducible refine rd_exf ?_
  | with_reducible refine rd_par ?_
  | with_reducible refine rd_mkV ?_
  | with_reducible refine rd_vfld ?_
  | with_reducible refine rd_par2 ?_
  | with_reducible refine rd_iET ?_
  | with_reducible refine rd_yes ?_
  | with_reducible refine rd_gcons1 ?_
  | with_reducible refine rd_gnil ?_
  | with_reducible refine rd_sl ?_
  | with_reducible refine rd_nopart ?_
  | with_reducible refine rd_part ?_
  | with_reducible refine rd_int1 ?_
  | with_reducible refine rd_fld ?_
  | with_reducible refine rd_sfld ?_
  | with_reducible refine rd_bm ?_
  | with_reducible refine rd_bm0 ?_
  | with_reducible refine rd_raise ?_
  | with_reducible refine rd_raise1 ?_
  | with_reducible refine rd_andV ?_
  | with_reducible refine rd_orV ?_
  | with_reducible refine rd_ifE ?_
  | with_reducible refine rd_chain ?_
  | with_reducible refine rd_chain3 ?_
  | with_reducible refine rd_un ?_
  | with_reducible refine rd_gsub ?_
  | with_reducible refine rd_aug rfl ?_
  | with_reducible refine rd_ipI ?_
  | with_reducible refine rd_lst ?_
  | with_reducible refine rd_tup ?_
  | with_reducible refine rd_retN ?_
  | with_reducible refine L2.iteT ?_
  | with_reducible refine rd_nf ?_
  | with_reducible refine rd_nt ?_
  | with_reducible refine L2.iteF ?_)
local macro_rules | `(tactic| walk_at "rd") => `(tactic| repeat walk_at "rd1")
abbrev s_law_draw : Stmt := top 15
theorem sc_law_draw : FnScope ["_law_well", "_law_many", "_law_found", "_law_number"] ["_law_well", "_law_many"] (defScope s_law_draw) := ⟨rfl, rfl, rfl, by decide +kernel, rfl, by decide +kernel, by decide +kernel⟩
/-- a well and a bound: a number below the bound; the well's numbers are some -/
def spDraw0 : Sp := fun vs H Q _ => ∃ (a : Addr) (n x y z : Int), vs = [.ref a, .int n] ∧ H a = some (.lst [.int x, .int y, .int z]) ∧ 0 < n ∧ n < 1000000 ∧
  ∀ r x' y' z' : Int, 0 ≤ r → r < n → Q (.int r) (upd H a (.lst [.int x', .int y', .int z']))
def spDraw : Sp := fun vs H Q _ => ∃ (a : Addr) (n : Int), vs = [.ref a, .int n] ∧ H a = some (WellO a) ∧ 0 < n ∧ n < 1000000 ∧ ∀ r : Int, 0 ≤ r → r < n → Q (.int r) H
section
variable {P : Program} {w : World} {K : PySem.W.Frag} {mg : Str → Option Value} {base : Heap}
theorem ok_draw0 {pn : List Str} {f : Addr} {fd : FuncData} (F : Fun K "_law_draw" "_law_draw" s_law_draw f fd) (S : FnScope (["_law_well", "_law_many", "_law_found", "_law_number"]) pn (defScope s_law_draw)) (hp : pn.length = 2) : FnOk P w K mg base CX0 1 f fd pn spDraw0 := by
  refine F.ok S (fun vs H Q E h => ?_) (fun cdv A outer s H vs Q E hr h => ?_)
  · obtain ⟨a, n, x, y, z, rfl, _⟩ := h
    exact hp.symm
  · obtain ⟨a, n, x, y, z, rfl, ha, h0, h1, k⟩ := h
    refine ⟨_, (pss_cons (ps_if (pt_cmpR op_gt (pe_ix (ix_listK K) (pv 0) pe_int (fun _ _ => rfl)) pe_int (nomark _)) (pss_cons (ps_set (i := 2) sc_law_draw.nd rfl (Or.inl rfl) (pe_op op_mod (pe_ix (ix_listK K) (pv 0) pe_int (fun _ _ => rfl)) (pv 1)))
  (pss_cons (ps_asg (pe_op op_fdiv (pe_ix (ix_listK K) (pv 0) pe_int (fun _ _ => rfl)) (pv 1)) (pg_sub (pv 0) pe_int set_list))
  (pss_one (ps_ret (pv 2))))) pss_nil)
  (pss_cons (ps_asg (pe_op op_add (pe_ix (ix_listK K) (pv 0) pe_int (fun _ _ => rfl)) pe_int) (pg_sub (pv 0) pe_int set_list))
  (pss_cons (ps_set (i := 3) sc_law_draw.nd rfl (Or.inl rfl) (pe_op op_mod (pe_op op_mul (pe_op op_add (pe_op op_add (pe_ix (ix_listK K) (pv 0) pe_int (fun _ _ => rfl)) (pe_op op_mul pe_int (pe_ix (ix_listK K) (pv 0) pe_int (fun _ _ => rfl)))) pe_int) pe_int) pe_int))
  (pss_cons (ps_set (i := 3) sc_law_draw.nd rfl (Or.inl rfl) (pe_op op_mod (pe_op op_mul (pv 3) (pe_op op_add (pe_op op_fdiv (pv 3) pe_int) pe_int)) pe_int))
  (pss_one (ps_ret (pe_op op_mod (pe_op op_mod (pe_op op_mul (pv 3) (pe_op op_add (pe_op op_fdiv (pv 3) pe_int) pe_int)) pe_int) (pv 1)))))))), ?_⟩
    walk_at "rd"
    refine rd_ixL (SqL.of ha) rfl ?_
    walk_at "rd"
    refine rifD (fun c => ?_) (fun c => ?_)
    · walk_at "rd"
      refine rd_ixL (SqL.of ha) rfl ?_
      walk_at "rd"
      refine rd_ixL (SqL.of ha) rfl ?_
      walk_at "rd"
      refine rd_setL ha rfl ?_
      walk_at "rd"
      exact k _ _ _ _ (Int.emod_nonneg _ (by omega)) (Int.emod_lt_of_pos _ h0)
    · walk_at "rd"
      refine rd_ixL (SqL.of ha) rfl ?_
      walk_at "rd"
      refine rd_setL ha rfl ?_
      walk_at "rd"
      refine rd_ixL (SqL.of upd_same) rfl ?_
      walk_at "rd"
      refine rd_ixL (SqL.of upd_same) rfl ?_
      walk_at "rd"
      exact k _ _ _ _ (Int.emod_nonneg _ (by omega)) (Int.emod_lt_of_pos _ h0)
theorem well_id {H : Hp} {a : Addr} {o : HO} {u : HO} (h : H a = some u) : upd (upd H a o) a u = H := by
  funext b
  by_cases hb : b = a
  · rw [hb, upd_same, h]
  · rw [upd_ne hb, upd_ne hb]
theorem spDraw_of (vs : List V) (H : Hp) (Q : VK) (E : XK) (h : spDraw vs H Q E) : vs.length = 2 ∧ ∃ a, H a = some (WellO a) ∧ ∀ x y z : Int, spDraw0 vs (upd H a (.lst [.int x, .int y, .int z]))
      (fun v H' => ∃ x' y' z' : Int, H' a = some (.lst [.int x', .int y', .int z']) ∧ Q v (upd H' a (WellO a))) E := by
  obtain ⟨a, n, rfl, ha, h0, h1, k⟩ := h
  refine ⟨rfl, a, ha, fun x y z => ⟨a, n, x, y, z, rfl, upd_same, h0, h1, fun r x' y' z' r0 r1 => ⟨x', y', z', upd_same, ?_⟩⟩⟩
  rw [upd_upd, well_id ha]
  exact k r r0 r1
theorem rd_draw {H : Hp} {Q : VK} {E : XK} {a : Addr} {m : Int} (ha : H a = some (WellO a)) (h0 : 0 < m) (h1 : m < 1000000) (h : ∀ r : Int, 0 ≤ r → r < m → Q (.int r) H) : spDraw ([.ref a, .int m] ++ []) H Q E := ⟨a, m, rfl, ha, h0, h1, h⟩
theorem c_draw (D : DefAt K mg "_law_draw" s_law_draw) : Cal P w K mg base CX0 1 "_law_draw" spDraw :=
  D.cal (fun _ _ _ _ _ _ us hl => match us, hl with | [_, _], _ => rfl) fun f fd F => well_in (ok_draw0 F sc_law_draw rfl) fun vs H Q E h => spDraw_of vs H Q E h
end

abbrev s_NoNetwork_init : Stmt := inClass (top 2) 0
theorem sc_NoNetwork_init : FnScope ["self", "index"] ["self", "index"] (defScope s_NoNetwork_init) := ⟨rfl, rfl, rfl, by decide +kernel, rfl, by decide +kernel, by decide +kernel⟩
theorem v_of_NoNetwork {P : Program} {w : World} {K : PySem.W.Frag} {mg : Str → Option Value} {base : Heap} {B C : Addr} (ce : CeB K mg B) (D : ExcAt K mg "NoNetwork" C "index" "NoNetwork.__init__" s_NoNetwork_init) : CalV P w K mg base 1 "NoNetwork" C "index" := by
  obtain ⟨fI, fd, F, h1, h2, h3⟩ := D.ex
  refine ⟨⟨fI, fd, ?_, h1, h2, h3, F.binds fun _ _ _ _ _ _ us hl => match us, hl with | [_, _], _ => rfl, fun s u v => ?_⟩, D.oex, D.nf⟩
  · refine F.ok sc_NoNetwork_init (fun vs H Q E h => ?_) (fun cdv A outer s H vs Q E hr h => ?_)
    · obtain ⟨a, v, rfl, _⟩ := h
      rfl
    · obtain ⟨a, v, rfl, T, nf, ha, k⟩ := h
      refine ⟨_, (pss_cons (ps_expr (pe_ceinit ce rfl (pa_cons (pv 0) (pa_cons pe_str pa_nil))))
  (pss_one (ps_ost (pv 0) (pv 1) rfl))), ?_⟩
      exact ⟨_, rfl, a, C, _, rfl, (by show 1 ≤ 1000; decide), T, ha, _, rfl, _, rfl, a, C, rfl, T, nf, .inl ⟨ha, fun dx hdx hne => k dx hdx hne⟩⟩
  · obtain ⟨oc, od, kV, doc, pm, an, cdv, ct, osl, rfl, lk, hcd⟩ := F.ex
    exact .of_eq rfl
abbrev s_NoStation_init : Stmt := inClass (top 3) 0
theorem sc_NoStation_init : FnScope ["self", "station"] ["self", "station"] (defScope s_NoStation_init) := ⟨rfl, rfl, rfl, by decide +kernel, rfl, by decide +kernel, by decide +kernel⟩
theorem v_of_NoStation {P : Program} {w : World} {K : PySem.W.Frag} {mg : Str → Option Value} {base : Heap} {B C : Addr} (ce : CeB K mg B) (D : ExcAt K mg "NoStation" C "station" "NoStation.__init__" s_NoStation_init) : CalV P w K mg base 1 "NoStation" C "station" := by
  obtain ⟨fI, fd, F, h1, h2, h3⟩ := D.ex
  refine ⟨⟨fI, fd, ?_, h1, h2, h3, F.binds fun _ _ _ _ _ _ us hl => match us, hl with | [_, _], _ => rfl, fun s u v => ?_⟩, D.oex, D.nf⟩
  · refine F.ok sc_NoStation_init (fun vs H Q E h => ?_) (fun cdv A outer s H vs Q E hr h => ?_)
    · obtain ⟨a, v, rfl, _⟩ := h
      rfl
    · obtain ⟨a, v, rfl, T, nf, ha, k⟩ := h
      refine ⟨_, (pss_cons (ps_expr (pe_ceinit ce rfl (pa_cons (pv 0) (pa_cons pe_str pa_nil))))
  (pss_one (ps_ost (pv 0) (pv 1) rfl))), ?_⟩
      exact ⟨_, rfl, a, C, _, rfl, (by show 1 ≤ 1000; decide), T, ha, _, rfl, _, rfl, a, C, rfl, T, nf, .inl ⟨ha, fun dx hdx hne => k dx hdx hne⟩⟩
  · obtain ⟨oc, od, kV, doc, pm, an, cdv, ct, osl, rfl, lk, hcd⟩ := F.ex
    exact .of_eq rfl
abbrev s_NoState_init : Stmt := inClass (top 4) 0
theorem sc_NoState_init : FnScope ["self", "index"] ["self", "index"] (defScope s_NoState_init) := ⟨rfl, rfl, rfl, by decide +kernel, rfl, by decide +kernel, by decide +kernel⟩
theorem v_of_NoState {P : Program} {w : World} {K : PySem.W.Frag} {mg : Str → Option Value} {base : Heap} {B C : Addr} (ce : CeB K mg B) (D : ExcAt K mg "NoState" C "index" "NoState.__init__" s_NoState_init) : CalV P w K mg base 1 "NoState" C "index" := by
  obtain ⟨fI, fd, F, h1, h2, h3⟩ := D.ex
  refine ⟨⟨fI, fd, ?_, h1, h2, h3, F.binds fun _ _ _ _ _ _ us hl => match us, hl with | [_, _], _ => rfl, fun s u v => ?_⟩, D.oex, D.nf⟩
  · refine F.ok sc_NoState_init (fun vs H Q E h => ?_) (fun cdv A outer s H vs Q E hr h => ?_)
    · obtain ⟨a, v, rfl, _⟩ := h
      rfl
    · obtain ⟨a, v, rfl, T, nf, ha, k⟩ := h
      refine ⟨_, (pss_cons (ps_expr (pe_ceinit ce rfl (pa_cons (pv 0) (pa_cons pe_str pa_nil))))
  (pss_one (ps_ost (pv 0) (pv 1) rfl))), ?_⟩
      exact ⟨_, rfl, a, C, _, rfl, (by show 1 ≤ 1000; decide), T, ha, _, rfl, _, rfl, a, C, rfl, T, nf, .inl ⟨ha, fun dx hdx hne => k dx hdx hne⟩⟩
  · obtain ⟨oc, od, kV, doc, pm, an, cdv, ct, osl, rfl, lk, hcd⟩ := F.ex
    exact .of_eq rfl
abbrev s_NoSteps_init : Stmt := inClass (top 5) 0
theorem sc_NoSteps_init : FnScope ["self", "index"] ["self", "index"] (defScope s_NoSteps_init) := ⟨rfl, rfl, rfl, by decide +kernel, rfl, by decide +kernel, by decide +kernel⟩
theorem v_of_NoSteps {P : Program} {w : World} {K : PySem.W.Frag} {mg : Str → Option Value} {base : Heap} {B C : Addr} (ce : CeB K mg B) (D : ExcAt K mg "NoSteps" C "index" "NoSteps.__init__" s_NoSteps_init) : CalV P w K mg base 1 "NoSteps" C "index" := by
  obtain ⟨fI, fd, F, h1, h2, h3⟩ := D.ex
  refine ⟨⟨fI, fd, ?_, h1, h2, h3, F.binds fun _ _ _ _ _ _ us hl => match us, hl with | [_, _], _ => rfl, fun s u v => ?_⟩, D.oex, D.nf⟩
  · refine F.ok sc_NoSteps_init (fun vs H Q E h => ?_) (fun cdv A outer s H vs Q E hr h => ?_)
    · obtain ⟨a, v, rfl, _⟩ := h
      rfl
    · obtain ⟨a, v, rfl, T, nf, ha, k⟩ := h
      refine ⟨_, (pss_cons (ps_expr (pe_ceinit ce rfl (pa_cons (pv 0) (pa_cons pe_str pa_nil))))
  (pss_one (ps_ost (pv 0) (pv 1) rfl))), ?_⟩
      exact ⟨_, rfl, a, C, _, rfl, (by show 1 ≤ 1000; decide), T, ha, _, rfl, _, rfl, a, C, rfl, T, nf, .inl ⟨ha, fun dx hdx hne => k dx hdx hne⟩⟩
  · obtain ⟨oc, od, kV, doc, pm, an, cdv, ct, osl, rfl, lk, hcd⟩ := F.ex
    exact .of_eq rfl
abbrev s_NoBound_init : Stmt := inClass (top 6) 0
theorem sc_NoBound_init : FnScope ["self", "index"] ["self", "index"] (defScope s_NoBound_init) := ⟨rfl, rfl, rfl, by decide +kernel, rfl, by decide +kernel, by decide +kernel⟩
theorem v_of_NoBound {P : Program} {w : World} {K : PySem.W.Frag} {mg : Str → Option Value} {base : Heap} {B C : Addr} (ce : CeB K mg B) (D : ExcAt K mg "NoBound" C "index" "NoBound.__init__" s_NoBound_init) : CalV P w K mg base 1 "NoBound" C "index" := by
  obtain ⟨fI, fd, F, h1, h2, h3⟩ := D.ex
  refine ⟨⟨fI, fd, ?_, h1, h2, h3, F.binds fun _ _ _ _ _ _ us hl => match us, hl with | [_, _], _ => rfl, fun s u v => ?_⟩, D.oex, D.nf⟩
  · refine F.ok sc_NoBound_init (fun vs H Q E h => ?_) (fun cdv A outer s H vs Q E hr h => ?_)
    · obtain ⟨a, v, rfl, _⟩ := h
      rfl
    · obtain ⟨a, v, rfl, T, nf, ha, k⟩ := h
      refine ⟨_, (pss_cons (ps_expr (pe_ceinit ce rfl (pa_cons (pv 0) (pa_cons pe_str pa_nil))))
  (pss_one (ps_ost (pv 0) (pv 1) rfl))), ?_⟩
      exact ⟨_, rfl, a, C, _, rfl, (by show 1 ≤ 1000; decide), T, ha, _, rfl, _, rfl, a, C, rfl, T, nf, .inl ⟨ha, fun dx hdx hne => k dx hdx hne⟩⟩
  · obtain ⟨oc, od, kV, doc, pm, an, cdv, ct, osl, rfl, lk, hcd⟩ := F.ex
    exact .of_eq rfl
abbrev s_NoChannel_init : Stmt := inClass (top 7) 0
theorem sc_NoChannel_init : FnScope ["self", "channel"] ["self", "channel"] (defScope s_NoChannel_init) := ⟨rfl, rfl, rfl, by decide +kernel, rfl, by decide +kernel, by decide +kernel⟩
theorem v_of_NoChannel {P : Program} {w : World} {K : PySem.W.Frag} {mg : Str → Option Value} {base : Heap} {B C : Addr} (ce : CeB K mg B) (D : ExcAt K mg "NoChannel" C "channel" "NoChannel.__init__" s_NoChannel_init) : CalV P w K mg base 1 "NoChannel" C "channel" := by
  obtain ⟨fI, fd, F, h1, h2, h3⟩ := D.ex
  refine ⟨⟨fI, fd, ?_, h1, h2, h3, F.binds fun _ _ _ _ _ _ us hl => match us, hl with | [_, _], _ => rfl, fun s u v => ?_⟩, D.oex, D.nf⟩
  · refine F.ok sc_NoChannel_init (fun vs H Q E h => ?_) (fun cdv A outer s H vs Q E hr h => ?_)
    · obtain ⟨a, v, rfl, _⟩ := h
      rfl
    · obtain ⟨a, v, rfl, T, nf, ha, k⟩ := h
      refine ⟨_, (pss_cons (ps_expr (pe_ceinit ce rfl (pa_cons (pv 0) (pa_cons pe_str pa_nil))))
  (pss_one (ps_ost (pv 0) (pv 1) rfl))), ?_⟩
      exact ⟨_, rfl, a, C, _, rfl, (by show 1 ≤ 1000; decide), T, ha, _, rfl, _, rfl, a, C, rfl, T, nf, .inl ⟨ha, fun dx hdx hne => k dx hdx hne⟩⟩
  · obtain ⟨oc, od, kV, doc, pm, an, cdv, ct, osl, rfl, lk, hcd⟩ := F.ex
    exact .of_eq rfl
abbrev s_HasRing_init : Stmt := inClass (top 8) 0
theorem sc_HasRing_init : FnScope ["self", "ring"] ["self", "ring"] (defScope s_HasRing_init) := ⟨rfl, rfl, rfl, by decide +kernel, rfl, by decide +kernel, by decide +kernel⟩
theorem v_of_HasRing {P : Program} {w : World} {K : PySem.W.Frag} {mg : Str → Option Value} {base : Heap} {B C : Addr} (ce : CeB K mg B) (D : ExcAt K mg "HasRing" C "ring" "HasRing.__init__" s_HasRing_init) : CalV P w K mg base 1 "HasRing" C "ring" := by
  obtain ⟨fI, fd, F, h1, h2, h3⟩ := D.ex
  refine ⟨⟨fI, fd, ?_, h1, h2, h3, F.binds fun _ _ _ _ _ _ us hl => match us, hl with | [_, _], _ => rfl, fun s u v => ?_⟩, D.oex, D.nf⟩
  · refine F.ok sc_HasRing_init (fun vs H Q E h => ?_) (fun cdv A outer s H vs Q E hr h => ?_)
    · obtain ⟨a, v, rfl, _⟩ := h
      rfl
    · obtain ⟨a, v, rfl, T, nf, ha, k⟩ := h
      refine ⟨_, (pss_cons (ps_expr (pe_ceinit ce rfl (pa_cons (pv 0) (pa_cons pe_str pa_nil))))
  (pss_one (ps_ost (pv 0) (pv 1) rfl))), ?_⟩
      exact ⟨_, rfl, a, C, _, rfl, (by show 1 ≤ 1000; decide), T, ha, _, rfl, _, rfl, a, C, rfl, T, nf, .inl ⟨ha, fun dx hdx hne => k dx hdx hne⟩⟩
  · obtain ⟨oc, od, kV, doc, pm, an, cdv, ct, osl, rfl, lk, hcd⟩ := F.ex
    exact .of_eq rfl
abbrev s_NoSchedule_init : Stmt := inClass (top 9) 0
theorem sc_NoSchedule_init : FnScope ["self", "index"] ["self", "index"] (defScope s_NoSchedule_init) := ⟨rfl, rfl, rfl, by decide +kernel, rfl, by decide +kernel, by decide +kernel⟩
theorem v_of_NoSchedule {P : Program} {w : World} {K : PySem.W.Frag} {mg : Str → Option Value} {base : Heap} {B C : Addr} (ce : CeB K mg B) (D : ExcAt K mg "NoSchedule" C "index" "NoSchedule.__init__" s_NoSchedule_init) : CalV P w K mg base 1 "NoSchedule" C "index" := by
  obtain ⟨fI, fd, F, h1, h2, h3⟩ := D.ex
  refine ⟨⟨fI, fd, ?_, h1, h2, h3, F.binds fun _ _ _ _ _ _ us hl => match us, hl with | [_, _], _ => rfl, fun s u v => ?_⟩, D.oex, D.nf⟩
  · refine F.ok sc_NoSchedule_init (fun vs H Q E h => ?_) (fun cdv A outer s H vs Q E hr h => ?_)
    · obtain ⟨a, v, rfl, _⟩ := h
      rfl
    · obtain ⟨a, v, rfl, T, nf, ha, k⟩ := h
      refine ⟨_, (pss_cons (ps_expr (pe_ceinit ce rfl (pa_cons (pv 0) (pa_cons pe_str pa_nil))))
  (pss_one (ps_ost (pv 0) (pv 1) rfl))), ?_⟩
      exact ⟨_, rfl, a, C, _, rfl, (by show 1 ≤ 1000; decide), T, ha, _, rfl, _, rfl, a, C, rfl, T, nf, .inl ⟨ha, fun dx hdx hne => k dx hdx hne⟩⟩
  · obtain ⟨oc, od, kV, doc, pm, an, cdv, ct, osl, rfl, lk, hcd⟩ := F.ex
    exact .of_eq rfl
abbrev s_TooMany_init : Stmt := inClass (top 10) 0
theorem sc_TooMany_init : FnScope ["self", "most"] ["self", "most"] (defScope s_TooMany_init) := ⟨rfl, rfl, rfl, by decide +kernel, rfl, by decide +kernel, by decide +kernel⟩
theorem v_of_TooMany {P : Program} {w : World} {K : PySem.W.Frag} {mg : Str → Option Value} {base : Heap} {B C : Addr} (ce : CeB K mg B) (D : ExcAt K mg "TooMany" C "most" "TooMany.__init__" s_TooMany_init) : CalV P w K mg base 1 "TooMany" C "most" := by
  obtain ⟨fI, fd, F, h1, h2, h3⟩ := D.ex
  refine ⟨⟨fI, fd, ?_, h1, h2, h3, F.binds fun _ _ _ _ _ _ us hl => match us, hl with | [_, _], _ => rfl, fun s u v => ?_⟩, D.oex, D.nf⟩
  · refine F.ok sc_TooMany_init (fun vs H Q E h => ?_) (fun cdv A outer s H vs Q E hr h => ?_)
    · obtain ⟨a, v, rfl, _⟩ := h
      rfl
    · obtain ⟨a, v, rfl, T, nf, ha, k⟩ := h
      refine ⟨_, (pss_cons (ps_expr (pe_ceinit ce rfl (pa_cons (pv 0) (pa_cons pe_str pa_nil))))
  (pss_one (ps_ost (pv 0) (pv 1) rfl))), ?_⟩
      exact ⟨_, rfl, a, C, _, rfl, (by show 1 ≤ 1000; decide), T, ha, _, rfl, _, rfl, a, C, rfl, T, nf, .inl ⟨ha, fun dx hdx hne => k dx hdx hne⟩⟩
  · obtain ⟨oc, od, kV, doc, pm, an, cdv, ct, osl, rfl, lk, hcd⟩ := F.ex
    exact .of_eq rfl
abbrev s_NoClosedSet_init : Stmt := inClass (top 11) 0
theorem sc_NoClosedSet_init : FnScope ["self", "index"] ["self", "index"] (defScope s_NoClosedSet_init) := ⟨rfl, rfl, rfl, by decide +kernel, rfl, by decide +kernel, by decide +kernel⟩
theorem v_of_NoClosedSet {P : Program} {w : World} {K : PySem.W.Frag} {mg : Str → Option Value} {base : Heap} {B C : Addr} (ce : CeB K mg B) (D : ExcAt K mg "NoClosedSet" C "index" "NoClosedSet.__init__" s_NoClosedSet_init) : CalV P w K mg base 1 "NoClosedSet" C "index" := by
  obtain ⟨fI, fd, F, h1, h2, h3⟩ := D.ex
  refine ⟨⟨fI, fd, ?_, h1, h2, h3, F.binds fun _ _ _ _ _ _ us hl => match us, hl with | [_, _], _ => rfl, fun s u v => ?_⟩, D.oex, D.nf⟩
  · refine F.ok sc_NoClosedSet_init (fun vs H Q E h => ?_) (fun cdv A outer s H vs Q E hr h => ?_)
    · obtain ⟨a, v, rfl, _⟩ := h
      rfl
    · obtain ⟨a, v, rfl, T, nf, ha, k⟩ := h
      refine ⟨_, (pss_cons (ps_expr (pe_ceinit ce rfl (pa_cons (pv 0) (pa_cons pe_str pa_nil))))
  (pss_one (ps_ost (pv 0) (pv 1) rfl))), ?_⟩
      exact ⟨_, rfl, a, C, _, rfl, (by show 1 ≤ 1000; decide), T, ha, _, rfl, _, rfl, a, C, rfl, T, nf, .inl ⟨ha, fun dx hdx hne => k dx hdx hne⟩⟩
  · obtain ⟨oc, od, kV, doc, pm, an, cdv, ct, osl, rfl, lk, hcd⟩ := F.ex
    exact .of_eq rfl
abbrev s_NoLink_init : Stmt := inClass (top 12) 0
theorem sc_NoLink_init : FnScope ["self", "link"] ["self", "link"] (defScope s_NoLink_init) := ⟨rfl, rfl, rfl, by decide +kernel, rfl, by decide +kernel, by decide +kernel⟩
theorem v_of_NoLink {P : Program} {w : World} {K : PySem.W.Frag} {mg : Str → Option Value} {base : Heap} {B C : Addr} (ce : CeB K mg B) (D : ExcAt K mg "NoLink" C "link" "NoLink.__init__" s_NoLink_init) : CalV P w K mg base 1 "NoLink" C "link" := by
  obtain ⟨fI, fd, F, h1, h2, h3⟩ := D.ex
  refine ⟨⟨fI, fd, ?_, h1, h2, h3, F.binds fun _ _ _ _ _ _ us hl => match us, hl with | [_, _], _ => rfl, fun s u v => ?_⟩, D.oex, D.nf⟩
  · refine F.ok sc_NoLink_init (fun vs H Q E h => ?_) (fun cdv A outer s H vs Q E hr h => ?_)
    · obtain ⟨a, v, rfl, _⟩ := h
      rfl
    · obtain ⟨a, v, rfl, T, nf, ha, k⟩ := h
      refine ⟨_, (pss_cons (ps_expr (pe_ceinit ce rfl (pa_cons (pv 0) (pa_cons pe_str pa_nil))))
  (pss_one (ps_ost (pv 0) (pv 1) rfl))), ?_⟩
      exact ⟨_, rfl, a, C, _, rfl, (by show 1 ≤ 1000; decide), T, ha, _, rfl, _, rfl, a, C, rfl, T, nf, .inl ⟨ha, fun dx hdx hne => k dx hdx hne⟩⟩
  · obtain ⟨oc, od, kV, doc, pm, an, cdv, ct, osl, rfl, lk, hcd⟩ := F.ex
    exact .of_eq rfl
abbrev s_NoNames_init : Stmt := inClass (top 13) 0
theorem sc_NoNames_init : FnScope ["self", "index"] ["self", "index"] (defScope s_NoNames_init) := ⟨rfl, rfl, rfl, by decide +kernel, rfl, by decide +kernel, by decide +kernel⟩
theorem v_of_NoNames {P : Program} {w : World} {K : PySem.W.Frag} {mg : Str → Option Value} {base : Heap} {B C : Addr} (ce : CeB K mg B) (D : ExcAt K mg "NoNames" C "index" "NoNames.__init__" s_NoNames_init) : CalV P w K mg base 1 "NoNames" C "index" := by
  obtain ⟨fI, fd, F, h1, h2, h3⟩ := D.ex
  refine ⟨⟨fI, fd, ?_, h1, h2, h3, F.binds fun _ _ _ _ _ _ us hl => match us, hl with | [_, _], _ => rfl, fun s u v => ?_⟩, D.oex, D.nf⟩
  · refine F.ok sc_NoNames_init (fun vs H Q E h => ?_) (fun cdv A outer s H vs Q E hr h => ?_)
    · obtain ⟨a, v, rfl, _⟩ := h
      rfl
    · obtain ⟨a, v, rfl, T, nf, ha, k⟩ := h
      refine ⟨_, (pss_cons (ps_expr (pe_ceinit ce rfl (pa_cons (pv 0) (pa_cons pe_str pa_nil))))
  (pss_one (ps_ost (pv 0) (pv 1) rfl))), ?_⟩
      exact ⟨_, rfl, a, C, _, rfl, (by show 1 ≤ 1000; decide), T, ha, _, rfl, _, rfl, a, C, rfl, T, nf, .inl ⟨ha, fun dx hdx hne => k dx hdx hne⟩⟩
  · obtain ⟨oc, od, kV, doc, pm, an, cdv, ct, osl, rfl, lk, hcd⟩ := F.ex
    exact .of_eq rfl
abbrev s_law_taken : Stmt := top 16
theorem sc_law_taken : FnScope ["_law_e", "_law_first"] ["_law_e"] (defScope s_law_taken) := ⟨rfl, rfl, rfl, by decide +kernel, rfl, by decide +kernel, by decide +kernel⟩
abbrev s_law_by_place : Stmt := top 17
theorem sc_law_by_place : FnScope ["_law_x", "_law_some"] ["_law_x"] (defScope s_law_by_place) := ⟨rfl, rfl, rfl, by decide +kernel, rfl, by decide +kernel, by decide +kernel⟩
abbrev s_law_by_name : Stmt := top 18
theorem sc_law_by_name : FnScope ["_law_x", "_law_some"] ["_law_x"] (defScope s_law_by_name) := ⟨rfl, rfl, rfl, by decide +kernel, rfl, by decide +kernel, by decide +kernel⟩
abbrev s_law_fields : Stmt := top 19
theorem sc_law_fields : FnScope ["_law_some", "_law_found"] ["_law_some"] (defScope s_law_fields) := ⟨rfl, rfl, rfl, by decide +kernel, rfl, by decide +kernel, by decide +kernel⟩
/-- at the xs: exceptions of these classes, the field of each holds v -/
def ExL (H : Hp) (v : V) (xs : List V) (cs : List (Addr × Str)) : Prop := Paired (fun (x : V) (c : Addr × Str) => ∃ a, x = .ref a ∧ ExAt H a c.1 [(c.2, v)]) xs cs
theorem ExL.sm {T : List (Addr × Str)} {H H' : Hp} (s : Sm T H H') {v : V} {xs : List V} {cs : List (Addr × Str)} (h : ExL H v xs cs) : ExL H' v xs cs := Paired.mapP h fun _ _ ⟨a, e, x⟩ => ⟨a, e, x.sm s⟩
def spMake (Z : List (Addr × Str)) (cs : List (Addr × Str)) : Sp := fun vs H Q _ => ∃ v : V, vs = [v] ∧ ∀ (q : Addr) (H' : Hp) (xs : List V), Sm Z H H' → H' q = some (.lst xs) → ExL H' v xs cs → Q (.ref q) H'
def spFields (Z : List (Addr × Str)) (cs : List (Addr × Str)) : Sp := fun vs H Q _ => ∃ (q : Addr) (xs : List V) (v : V), vs = [.ref q] ∧ H q = some (.lst xs) ∧ ExL H v xs cs ∧ ∀ (r : Addr) (H' : Hp), Sm Z H H' → H' r = some (.lst (List.replicate 12 v)) → Q (.ref r) H'
section
variable {P : Program} {w : World} {K : PySem.W.Frag} {mg : Str → Option Value} {base : Heap} {Z : List (Addr × Str)} {C1 C2 C3 C4 C5 C6 C7 C8 C9 C10 C11 C12 : Addr}
theorem ok_by_place (T : Bt mg) (v_NoNetwork : CalV P w K mg base 1 "NoNetwork" C1 "index") (v_NoStation : CalV P w K mg base 1 "NoStation" C2 "station") (v_NoState : CalV P w K mg base 1 "NoState" C3 "index") (v_NoSteps : CalV P w K mg base 1 "NoSteps" C4 "index") (v_NoBound : CalV P w K mg base 1 "NoBound" C5 "index") (v_NoChannel : CalV P w K mg base 1 "NoChannel" C6 "channel") (v_HasRing : CalV P w K mg base 1 "HasRing" C7 "ring") (v_NoSchedule : CalV P w K mg base 1 "NoSchedule" C8 "index") (v_TooMany : CalV P w K mg base 1 "TooMany" C9 "most") (v_NoClosedSet : CalV P w K mg base 1 "NoClosedSet" C10 "index") (v_NoLink : CalV P w K mg base 1 "NoLink" C11 "link") (v_NoNames : CalV P w K mg base 1 "NoNames" C12 "index") {f : Addr} {fd : FuncData} (F : Fun K "_law_by_place" "_law_by_place" s_law_by_place f fd) :
    FnOk P w K mg base CX0 3 f fd ["_law_x"] (spMake Z [(C1, "index"), (C2, "station"), (C3, "index"), (C4, "index"), (C5, "index"), (C6, "channel"), (C7, "ring"), (C8, "index"), (C9, "most"), (C10, "index"), (C11, "link"), (C12, "index")]) := by
  refine F.ok sc_law_by_place (fun vs H Q E h => ?_) (fun cdv A outer s H vs Q E hr h => ?_)
  · obtain ⟨v, rfl, _⟩ := h
    rfl
  · obtain ⟨v, rfl, k⟩ := h
    refine ⟨_, (pss_cons (ps_set (i := 1) sc_law_by_place.nd rfl (Or.inl rfl) (pe_lst (pa_cons (pe_mkV hr (by decide) v_NoNetwork rfl (pa_cons (pv 0) pa_nil)) (pa_cons (pe_mkV hr (by decide) v_NoStation rfl (pa_cons (pv 0) pa_nil)) (pa_cons (pe_mkV hr (by decide) v_NoState rfl (pa_cons (pv 0) pa_nil)) (pa_cons (pe_mkV hr (by decide) v_NoSteps rfl (pa_cons (pv 0) pa_nil)) (pa_cons (pe_mkV hr (by decide) v_NoBound rfl (pa_cons (pv 0) pa_nil)) (pa_cons (pe_mkV hr (by decide) v_NoChannel rfl (pa_cons (pv 0) pa_nil)) (pa_cons (pe_mkV hr (by decide) v_HasRing rfl (pa_cons (pv 0) pa_nil)) pa_nil)))))))))
  (pss_one (ps_ret (pe_op op_cat (pv 1) (pe_lst (pa_cons (pe_mkV hr (by decide) v_NoSchedule rfl (pa_cons (pv 0) pa_nil)) (pa_cons (pe_mkV hr (by decide) v_TooMany rfl (pa_cons (pv 0) pa_nil)) (pa_cons (pe_mkV hr (by decide) v_NoClosedSet rfl (pa_cons (pv 0) pa_nil)) (pa_cons (pe_mkV hr (by decide) v_NoLink rfl (pa_cons (pv 0) pa_nil)) (pa_cons (pe_mkV hr (by decide) v_NoNames rfl (pa_cons (pv 0) pa_nil)) pa_nil)))))))))), ?_⟩
    walk_at "rd"
    refine fun a1 H1 s1 n1 e1 => ?_
    walk_at "rd"
    refine fun a2 H2 s2 n2 e2 => ?_
    walk_at "rd"
    refine fun a3 H3 s3 n3 e3 => ?_
    walk_at "rd"
    refine fun a4 H4 s4 n4 e4 => ?_
    walk_at "rd"
    refine fun a5 H5 s5 n5 e5 => ?_
    walk_at "rd"
    refine fun a6 H6 s6 n6 e6 => ?_
    walk_at "rd"
    refine fun a7 H7 s7 n7 e7 => ?_
    walk_at "rd"
    refine ⟨by show 7 ≤ sizeLine; decide, fun L0 hL0 => genO hL0 fun G0 m0 => ?_⟩
    walk_at "rd"
    refine fun a8 H8 s8 n8 e8 => ?_
    walk_at "rd"
    refine fun a9 H9 s9 n9 e9 => ?_
    walk_at "rd"
    refine fun a10 H10 s10 n10 e10 => ?_
    walk_at "rd"
    refine fun a11 H11 s11 n11 e11 => ?_
    walk_at "rd"
    refine fun a12 H12 s12 n12 e12 => ?_
    walk_at "rd"
    refine ⟨by show 5 ≤ sizeLine; decide, fun L1 hL1 => genO hL1 fun G1 m1 => ?_⟩
    walk_at "rd"
    refine rd_cat (m1.s _ _ (s12 _ _ (s11 _ _ (s10 _ _ (s9 _ _ (s8 _ _ (m0.at'))))))) m1.at' (by show 7 + 5 ≤ sizeLine; decide) (fun R1 K1 q1 => ?_)
    walk_at "rd"
    exact k R1 K1 _ (((((((((((((((Sm.of s1).new s2).new s3).new s4).new s5).new s6).new s7).new m0.s).new s8).new s9).new s10).new s11).new s12).new m1.s).new q1.s) q1.at' (.cons ⟨a1, rfl, e1.sm (T := Z) ((((((((((((((Sm.of s2).new s3).new s4).new s5).new s6).new s7).new m0.s).new s8).new s9).new s10).new s11).new s12).new m1.s).new q1.s)⟩ (.cons ⟨a2, rfl, e2.sm (T := Z) (((((((((((((Sm.of s3).new s4).new s5).new s6).new s7).new m0.s).new s8).new s9).new s10).new s11).new s12).new m1.s).new q1.s)⟩ (.cons ⟨a3, rfl, e3.sm (T := Z) ((((((((((((Sm.of s4).new s5).new s6).new s7).new m0.s).new s8).new s9).new s10).new s11).new s12).new m1.s).new q1.s)⟩ (.cons ⟨a4, rfl, e4.sm (T := Z) (((((((((((Sm.of s5).new s6).new s7).new m0.s).new s8).new s9).new s10).new s11).new s12).new m1.s).new q1.s)⟩ (.cons ⟨a5, rfl, e5.sm (T := Z) ((((((((((Sm.of s6).new s7).new m0.s).new s8).new s9).new s10).new s11).new s12).new m1.s).new q1.s)⟩ (.cons ⟨a6, rfl, e6.sm (T := Z) (((((((((Sm.of s7).new m0.s).new s8).new s9).new s10).new s11).new s12).new m1.s).new q1.s)⟩ (.cons ⟨a7, rfl, e7.sm (T := Z) ((((((((Sm.of m0.s).new s8).new s9).new s10).new s11).new s12).new m1.s).new q1.s)⟩ (.cons ⟨a8, rfl, e8.sm (T := Z) ((((((Sm.of s9).new s10).new s11).new s12).new m1.s).new q1.s)⟩ (.cons ⟨a9, rfl, e9.sm (T := Z) (((((Sm.of s10).new s11).new s12).new m1.s).new q1.s)⟩ (.cons ⟨a10, rfl, e10.sm (T := Z) ((((Sm.of s11).new s12).new m1.s).new q1.s)⟩ (.cons ⟨a11, rfl, e11.sm (T := Z) (((Sm.of s12).new m1.s).new q1.s)⟩ (.cons ⟨a12, rfl, e12.sm (T := Z) ((Sm.of m1.s).new q1.s)⟩ .nil))))))))))))
theorem ok_by_name (T : Bt mg) (v_NoNetwork : CalV P w K mg base 1 "NoNetwork" C1 "index") (v_NoStation : CalV P w K mg base 1 "NoStation" C2 "station") (v_NoState : CalV P w K mg base 1 "NoState" C3 "index") (v_NoSteps : CalV P w K mg base 1 "NoSteps" C4 "index") (v_NoBound : CalV P w K mg base 1 "NoBound" C5 "index") (v_NoChannel : CalV P w K mg base 1 "NoChannel" C6 "channel") (v_HasRing : CalV P w K mg base 1 "HasRing" C7 "ring") (v_NoSchedule : CalV P w K mg base 1 "NoSchedule" C8 "index") (v_TooMany : CalV P w K mg base 1 "TooMany" C9 "most") (v_NoClosedSet : CalV P w K mg base 1 "NoClosedSet" C10 "index") (v_NoLink : CalV P w K mg base 1 "NoLink" C11 "link") (v_NoNames : CalV P w K mg base 1 "NoNames" C12 "index") {f : Addr} {fd : FuncData} (F : Fun K "_law_by_name" "_law_by_name" s_law_by_name f fd) :
    FnOk P w K mg base CX0 3 f fd ["_law_x"] (spMake Z [(C1, "index"), (C2, "station"), (C3, "index"), (C4, "index"), (C5, "index"), (C6, "channel"), (C7, "ring"), (C8, "index"), (C9, "most"), (C10, "index"), (C11, "link"), (C12, "index")]) := by
  refine F.ok sc_law_by_name (fun vs H Q E h => ?_) (fun cdv A outer s H vs Q E hr h => ?_)
  · obtain ⟨v, rfl, _⟩ := h
    rfl
  · obtain ⟨v, rfl, k⟩ := h
    refine ⟨_, (pss_cons (ps_set (i := 1) sc_law_by_name.nd rfl (Or.inl rfl) (pe_lst (pa_cons (pe_mkKV hr (by decide) v_NoNetwork rfl (pv 0)) (pa_cons (pe_mkKV hr (by decide) v_NoStation rfl (pv 0)) (pa_cons (pe_mkKV hr (by decide) v_NoState rfl (pv 0)) (pa_cons (pe_mkKV hr (by decide) v_NoSteps rfl (pv 0)) (pa_cons (pe_mkKV hr (by decide) v_NoBound rfl (pv 0)) pa_nil)))))))
  (pss_cons (ps_set (i := 1) sc_law_by_name.nd rfl (Or.inl rfl) (pe_op op_cat (pv 1) (pe_lst (pa_cons (pe_mkKV hr (by decide) v_NoChannel rfl (pv 0)) (pa_cons (pe_mkKV hr (by decide) v_HasRing rfl (pv 0)) (pa_cons (pe_mkKV hr (by decide) v_NoSchedule rfl (pv 0)) (pa_cons (pe_mkKV hr (by decide) v_TooMany rfl (pv 0)) pa_nil)))))))
  (pss_one (ps_ret (pe_op op_cat (pv 1) (pe_lst (pa_cons (pe_mkKV hr (by decide) v_NoClosedSet rfl (pv 0)) (pa_cons (pe_mkKV hr (by decide) v_NoLink rfl (pv 0)) (pa_cons (pe_mkKV hr (by decide) v_NoNames rfl (pv 0)) pa_nil))))))))), ?_⟩
    walk_at "rd"
    refine fun a1 H1 s1 n1 e1 => ?_
    walk_at "rd"
    refine fun a2 H2 s2 n2 e2 => ?_
    walk_at "rd"
    refine fun a3 H3 s3 n3 e3 => ?_
    walk_at "rd"
    refine fun a4 H4 s4 n4 e4 => ?_
    walk_at "rd"
    refine fun a5 H5 s5 n5 e5 => ?_
    walk_at "rd"
    refine ⟨by show 5 ≤ sizeLine; decide, fun L0 hL0 => genO hL0 fun G0 m0 => ?_⟩
    walk_at "rd"
    refine fun a6 H6 s6 n6 e6 => ?_
    walk_at "rd"
    refine fun a7 H7 s7 n7 e7 => ?_
    walk_at "rd"
    refine fun a8 H8 s8 n8 e8 => ?_
    walk_at "rd"
    refine fun a9 H9 s9 n9 e9 => ?_
    walk_at "rd"
    refine ⟨by show 4 ≤ sizeLine; decide, fun L1 hL1 => genO hL1 fun G1 m1 => ?_⟩
    walk_at "rd"
    refine rd_cat (m1.s _ _ (s9 _ _ (s8 _ _ (s7 _ _ (s6 _ _ (m0.at')))))) m1.at' (by show 5 + 4 ≤ sizeLine; decide) (fun R1 K1 q1 => ?_)
    walk_at "rd"
    refine fun a10 H10 s10 n10 e10 => ?_
    walk_at "rd"
    refine fun a11 H11 s11 n11 e11 => ?_
    walk_at "rd"
    refine fun a12 H12 s12 n12 e12 => ?_
    walk_at "rd"
    refine ⟨by show 3 ≤ sizeLine; decide, fun L2 hL2 => genO hL2 fun G2 m2 => ?_⟩
    walk_at "rd"
    refine rd_cat (m2.s _ _ (s12 _ _ (s11 _ _ (s10 _ _ (q1.at'))))) m2.at' (by show 9 + 3 ≤ sizeLine; decide) (fun R2 K2 q2 => ?_)
    walk_at "rd"
    exact k R2 K2 _ (((((((((((((((((Sm.of s1).new s2).new s3).new s4).new s5).new m0.s).new s6).new s7).new s8).new s9).new m1.s).new q1.s).new s10).new s11).new s12).new m2.s).new q2.s) q2.at' (.cons ⟨a1, rfl, e1.sm (T := Z) ((((((((((((((((Sm.of s2).new s3).new s4).new s5).new m0.s).new s6).new s7).new s8).new s9).new m1.s).new q1.s).new s10).new s11).new s12).new m2.s).new q2.s)⟩ (.cons ⟨a2, rfl, e2.sm (T := Z) (((((((((((((((Sm.of s3).new s4).new s5).new m0.s).new s6).new s7).new s8).new s9).new m1.s).new q1.s).new s10).new s11).new s12).new m2.s).new q2.s)⟩ (.cons ⟨a3, rfl, e3.sm (T := Z) ((((((((((((((Sm.of s4).new s5).new m0.s).new s6).new s7).new s8).new s9).new m1.s).new q1.s).new s10).new s11).new s12).new m2.s).new q2.s)⟩ (.cons ⟨a4, rfl, e4.sm (T := Z) (((((((((((((Sm.of s5).new m0.s).new s6).new s7).new s8).new s9).new m1.s).new q1.s).new s10).new s11).new s12).new m2.s).new q2.s)⟩ (.cons ⟨a5, rfl, e5.sm (T := Z) ((((((((((((Sm.of m0.s).new s6).new s7).new s8).new s9).new m1.s).new q1.s).new s10).new s11).new s12).new m2.s).new q2.s)⟩ (.cons ⟨a6, rfl, e6.sm (T := Z) ((((((((((Sm.of s7).new s8).new s9).new m1.s).new q1.s).new s10).new s11).new s12).new m2.s).new q2.s)⟩ (.cons ⟨a7, rfl, e7.sm (T := Z) (((((((((Sm.of s8).new s9).new m1.s).new q1.s).new s10).new s11).new s12).new m2.s).new q2.s)⟩ (.cons ⟨a8, rfl, e8.sm (T := Z) ((((((((Sm.of s9).new m1.s).new q1.s).new s10).new s11).new s12).new m2.s).new q2.s)⟩ (.cons ⟨a9, rfl, e9.sm (T := Z) (((((((Sm.of m1.s).new q1.s).new s10).new s11).new s12).new m2.s).new q2.s)⟩ (.cons ⟨a10, rfl, e10.sm (T := Z) ((((Sm.of s11).new s12).new m2.s).new q2.s)⟩ (.cons ⟨a11, rfl, e11.sm (T := Z) (((Sm.of s12).new m2.s).new q2.s)⟩ (.cons ⟨a12, rfl, e12.sm (T := Z) ((Sm.of m2.s).new q2.s)⟩ .nil))))))))))))
end

theorem paired_cons {α β : Type} {F : α → β → Prop} {xs : List α} {b : β} {bs : List β} (h : Paired F xs (b :: bs)) : ∃ x xs', xs = x :: xs' ∧ F x b ∧ Paired F xs' bs := by
  cases h with
  | cons a r => exact ⟨_, _, rfl, a, r⟩
theorem paired_cons' {α β : Type} {F : α → β → Prop} {a : α} {as : List α} {ys : List β} (h : Paired F (a :: as) ys) : ∃ y ys', ys = y :: ys' ∧ F a y ∧ Paired F as ys' := by
  cases h with
  | cons x r => exact ⟨_, _, rfl, x, r⟩
def spTaken (Z : List (Addr × Str)) (K : PySem.W.Frag) (cs : List Addr) : Sp := fun vs H Q _ => ∃ (a C : Addr) (fs : List (Str × V)) (bs : List Bool), vs = [.ref a] ∧ ExAt H a C fs ∧ ExcK K C ∧ Paired (fun D b => PySem.W.kitOne K (.ref C) (.ref D) = some b) cs bs ∧
  ∀ (q : Addr) (H' : Hp), Sm Z H H' → H' q = some (.lst (bs.map V.bl)) → Q (.ref q) H'
section
variable {P : Program} {w : World} {K : PySem.W.Frag} {mg : Str → Option Value} {base : Heap} {Z : List (Addr × Str)} {C1 C2 C3 C4 C5 C6 C7 C8 C9 C10 C11 C12 : Addr}
theorem ok_fields (T : Bt mg) (gx_NoNetwork : GetX K C1 "index") (gx_NoStation : GetX K C2 "station") (gx_NoState : GetX K C3 "index") (gx_NoSteps : GetX K C4 "index") (gx_NoBound : GetX K C5 "index") (gx_NoChannel : GetX K C6 "channel") (gx_HasRing : GetX K C7 "ring") (gx_NoSchedule : GetX K C8 "index") (gx_TooMany : GetX K C9 "most") (gx_NoClosedSet : GetX K C10 "index") (gx_NoLink : GetX K C11 "link") (gx_NoNames : GetX K C12 "index") {f : Addr} {fd : FuncData} (F : Fun K "_law_fields" "_law_fields" s_law_fields f fd) :
    FnOk P w K mg base CX0 2 f fd ["_law_some"] (spFields Z [(C1, "index"), (C2, "station"), (C3, "index"), (C4, "index"), (C5, "index"), (C6, "channel"), (C7, "ring"), (C8, "index"), (C9, "most"), (C10, "index"), (C11, "link"), (C12, "index")]) := by
  refine F.ok sc_law_fields (fun vs H Q E h => ?_) (fun cdv A outer s H vs Q E hr h => ?_)
  · obtain ⟨q, xs, v, rfl, _⟩ := h
    rfl
  · obtain ⟨q, xs, v, rfl, hq, hx, k⟩ := h
    obtain ⟨x1, xs1, rfl, ⟨a1, rfl, e1⟩, hx1⟩ := paired_cons hx
    obtain ⟨x2, xs2, rfl, ⟨a2, rfl, e2⟩, hx2⟩ := paired_cons hx1
    obtain ⟨x3, xs3, rfl, ⟨a3, rfl, e3⟩, hx3⟩ := paired_cons hx2
    obtain ⟨x4, xs4, rfl, ⟨a4, rfl, e4⟩, hx4⟩ := paired_cons hx3
    obtain ⟨x5, xs5, rfl, ⟨a5, rfl, e5⟩, hx5⟩ := paired_cons hx4
    obtain ⟨x6, xs6, rfl, ⟨a6, rfl, e6⟩, hx6⟩ := paired_cons hx5
    obtain ⟨x7, xs7, rfl, ⟨a7, rfl, e7⟩, hx7⟩ := paired_cons hx6
    obtain ⟨x8, xs8, rfl, ⟨a8, rfl, e8⟩, hx8⟩ := paired_cons hx7
    obtain ⟨x9, xs9, rfl, ⟨a9, rfl, e9⟩, hx9⟩ := paired_cons hx8
    obtain ⟨x10, xs10, rfl, ⟨a10, rfl, e10⟩, hx10⟩ := paired_cons hx9
    obtain ⟨x11, xs11, rfl, ⟨a11, rfl, e11⟩, hx11⟩ := paired_cons hx10
    obtain ⟨x12, xs12, rfl, ⟨a12, rfl, e12⟩, hx12⟩ := paired_cons hx11
    cases hx12
    refine ⟨_, (pss_cons (ps_set (i := 1) sc_law_fields.nd rfl (Or.inl rfl) (pe_lst (pa_cons (pe_vfld K (pe_ix (ix_listK K) (pv 0) pe_int (fun _ _ => rfl))) (pa_cons (pe_vfld K (pe_ix (ix_listK K) (pv 0) pe_int (fun _ _ => rfl))) (pa_cons (pe_vfld K (pe_ix (ix_listK K) (pv 0) pe_int (fun _ _ => rfl))) (pa_cons (pe_vfld K (pe_ix (ix_listK K) (pv 0) pe_int (fun _ _ => rfl))) (pa_cons (pe_vfld K (pe_ix (ix_listK K) (pv 0) pe_int (fun _ _ => rfl))) pa_nil)))))))
  (pss_cons (ps_set (i := 1) sc_law_fields.nd rfl (Or.inl rfl) (pe_op op_cat (pv 1) (pe_lst (pa_cons (pe_vfld K (pe_ix (ix_listK K) (pv 0) pe_int (fun _ _ => rfl))) (pa_cons (pe_vfld K (pe_ix (ix_listK K) (pv 0) pe_int (fun _ _ => rfl))) (pa_cons (pe_vfld K (pe_ix (ix_listK K) (pv 0) pe_int (fun _ _ => rfl))) (pa_cons (pe_vfld K (pe_ix (ix_listK K) (pv 0) pe_int (fun _ _ => rfl))) pa_nil)))))))
  (pss_one (ps_ret (pe_op op_cat (pv 1) (pe_lst (pa_cons (pe_vfld K (pe_ix (ix_listK K) (pv 0) pe_int (fun _ _ => rfl))) (pa_cons (pe_vfld K (pe_ix (ix_listK K) (pv 0) pe_int (fun _ _ => rfl))) (pa_cons (pe_vfld K (pe_ix (ix_listK K) (pv 0) pe_int (fun _ _ => rfl))) pa_nil))))))))), ?_⟩
    walk_at "rd"
    refine rd_ixL (SqL.of (Sm.lst (T := Z) (Sm.refl H) hq)) rfl ?_
    refine ⟨a1, C1, _, v, rfl, e1.sm (T := Z) (Sm.refl H), gx_NoNetwork, rfl, ?_⟩
    walk_at "rd"
    refine rd_ixL (SqL.of (Sm.lst (T := Z) (Sm.refl H) hq)) rfl ?_
    refine ⟨a2, C2, _, v, rfl, e2.sm (T := Z) (Sm.refl H), gx_NoStation, rfl, ?_⟩
    walk_at "rd"
    refine rd_ixL (SqL.of (Sm.lst (T := Z) (Sm.refl H) hq)) rfl ?_
    refine ⟨a3, C3, _, v, rfl, e3.sm (T := Z) (Sm.refl H), gx_NoState, rfl, ?_⟩
    walk_at "rd"
    refine rd_ixL (SqL.of (Sm.lst (T := Z) (Sm.refl H) hq)) rfl ?_
    refine ⟨a4, C4, _, v, rfl, e4.sm (T := Z) (Sm.refl H), gx_NoSteps, rfl, ?_⟩
    walk_at "rd"
    refine rd_ixL (SqL.of (Sm.lst (T := Z) (Sm.refl H) hq)) rfl ?_
    refine ⟨a5, C5, _, v, rfl, e5.sm (T := Z) (Sm.refl H), gx_NoBound, rfl, ?_⟩
    walk_at "rd"
    refine ⟨by show 5 ≤ sizeLine; decide, fun L0 hL0 => genO hL0 fun G0 m0 => ?_⟩
    walk_at "rd"
    refine rd_ixL (SqL.of (Sm.lst (T := Z) ((Sm.refl H).new m0.s) hq)) rfl ?_
    refine ⟨a6, C6, _, v, rfl, e6.sm (T := Z) ((Sm.refl H).new m0.s), gx_NoChannel, rfl, ?_⟩
    walk_at "rd"
    refine rd_ixL (SqL.of (Sm.lst (T := Z) ((Sm.refl H).new m0.s) hq)) rfl ?_
    refine ⟨a7, C7, _, v, rfl, e7.sm (T := Z) ((Sm.refl H).new m0.s), gx_HasRing, rfl, ?_⟩
    walk_at "rd"
    refine rd_ixL (SqL.of (Sm.lst (T := Z) ((Sm.refl H).new m0.s) hq)) rfl ?_
    refine ⟨a8, C8, _, v, rfl, e8.sm (T := Z) ((Sm.refl H).new m0.s), gx_NoSchedule, rfl, ?_⟩
    walk_at "rd"
    refine rd_ixL (SqL.of (Sm.lst (T := Z) ((Sm.refl H).new m0.s) hq)) rfl ?_
    refine ⟨a9, C9, _, v, rfl, e9.sm (T := Z) ((Sm.refl H).new m0.s), gx_TooMany, rfl, ?_⟩
    walk_at "rd"
    refine ⟨by show 4 ≤ sizeLine; decide, fun L1 hL1 => genO hL1 fun G1 m1 => ?_⟩
    walk_at "rd"
    refine rd_cat (m1.s _ _ m0.at') m1.at' (by show 5 + 4 ≤ sizeLine; decide) (fun R1 K1 q1 => ?_)
    walk_at "rd"
    refine rd_ixL (SqL.of (Sm.lst (T := Z) ((((Sm.refl H).new m0.s).new m1.s).new q1.s) hq)) rfl ?_
    refine ⟨a10, C10, _, v, rfl, e10.sm (T := Z) ((((Sm.refl H).new m0.s).new m1.s).new q1.s), gx_NoClosedSet, rfl, ?_⟩
    walk_at "rd"
    refine rd_ixL (SqL.of (Sm.lst (T := Z) ((((Sm.refl H).new m0.s).new m1.s).new q1.s) hq)) rfl ?_
    refine ⟨a11, C11, _, v, rfl, e11.sm (T := Z) ((((Sm.refl H).new m0.s).new m1.s).new q1.s), gx_NoLink, rfl, ?_⟩
    walk_at "rd"
    refine rd_ixL (SqL.of (Sm.lst (T := Z) ((((Sm.refl H).new m0.s).new m1.s).new q1.s) hq)) rfl ?_
    refine ⟨a12, C12, _, v, rfl, e12.sm (T := Z) ((((Sm.refl H).new m0.s).new m1.s).new q1.s), gx_NoNames, rfl, ?_⟩
    walk_at "rd"
    refine ⟨by show 3 ≤ sizeLine; decide, fun L2 hL2 => genO hL2 fun G2 m2 => ?_⟩
    walk_at "rd"
    refine rd_cat (m2.s _ _ q1.at') m2.at' (by show 9 + 3 ≤ sizeLine; decide) (fun R2 K2 q2 => ?_)
    walk_at "rd"
    exact k R2 K2 ((((((Sm.refl H).new m0.s).new m1.s).new q1.s).new m2.s).new q2.s) q2.at'
theorem ok_taken (T : Bt mg) (g_NoNetwork : mg "NoNetwork" = some (.ref C1)) (g_NoStation : mg "NoStation" = some (.ref C2)) (g_NoState : mg "NoState" = some (.ref C3)) (g_NoSteps : mg "NoSteps" = some (.ref C4)) (g_NoBound : mg "NoBound" = some (.ref C5)) (g_NoChannel : mg "NoChannel" = some (.ref C6)) (g_HasRing : mg "HasRing" = some (.ref C7)) (g_NoSchedule : mg "NoSchedule" = some (.ref C8)) (g_TooMany : mg "TooMany" = some (.ref C9)) (g_NoClosedSet : mg "NoClosedSet" = some (.ref C10)) (g_NoLink : mg "NoLink" = some (.ref C11)) (g_NoNames : mg "NoNames" = some (.ref C12)) {f : Addr} {fd : FuncData} (F : Fun K "_law_taken" "_law_taken" s_law_taken f fd) :
    FnOk P w K mg base CX0 2 f fd ["_law_e"] (spTaken Z K [C1, C2, C3, C4, C5, C6, C7, C8, C9, C10, C11, C12]) := by
  refine F.ok sc_law_taken (fun vs H Q E h => ?_) (fun cdv A outer s H vs Q E hr h => ?_)
  · obtain ⟨a, C, fs, bs, rfl, _⟩ := h
    rfl
  · obtain ⟨a, C, fs, bs, rfl, ha, xk, hb, k⟩ := h
    obtain ⟨b1, bs1, rfl, k1, hb1⟩ := paired_cons' hb
    obtain ⟨b2, bs2, rfl, k2, hb2⟩ := paired_cons' hb1
    obtain ⟨b3, bs3, rfl, k3, hb3⟩ := paired_cons' hb2
    obtain ⟨b4, bs4, rfl, k4, hb4⟩ := paired_cons' hb3
    obtain ⟨b5, bs5, rfl, k5, hb5⟩ := paired_cons' hb4
    obtain ⟨b6, bs6, rfl, k6, hb6⟩ := paired_cons' hb5
    obtain ⟨b7, bs7, rfl, k7, hb7⟩ := paired_cons' hb6
    obtain ⟨b8, bs8, rfl, k8, hb8⟩ := paired_cons' hb7
    obtain ⟨b9, bs9, rfl, k9, hb9⟩ := paired_cons' hb8
    obtain ⟨b10, bs10, rfl, k10, hb10⟩ := paired_cons' hb9
    obtain ⟨b11, bs11, rfl, k11, hb11⟩ := paired_cons' hb10
    obtain ⟨b12, bs12, rfl, k12, hb12⟩ := paired_cons' hb11
    cases hb12
    refine ⟨_, (pss_cons (ps_set (i := 1) sc_law_taken.nd rfl (Or.inl rfl) (pe_lst (pa_cons (pe_callB (call_isV K) (by rfl) T.no_isinstance (by decide +kernel) (pa_cons (pv 0) (pa_cons (pe_cls rfl g_NoNetwork) pa_nil))) (pa_cons (pe_callB (call_isV K) (by rfl) T.no_isinstance (by decide +kernel) (pa_cons (pv 0) (pa_cons (pe_cls rfl g_NoStation) pa_nil))) (pa_cons (pe_callB (call_isV K) (by rfl) T.no_isinstance (by decide +kernel) (pa_cons (pv 0) (pa_cons (pe_cls rfl g_NoState) pa_nil))) (pa_cons (pe_callB (call_isV K) (by rfl) T.no_isinstance (by decide +kernel) (pa_cons (pv 0) (pa_cons (pe_cls rfl g_NoSteps) pa_nil))) pa_nil))))))
  (pss_cons (ps_set (i := 1) sc_law_taken.nd rfl (Or.inl rfl) (pe_op op_cat (pv 1) (pe_lst (pa_cons (pe_callB (call_isV K) (by rfl) T.no_isinstance (by decide +kernel) (pa_cons (pv 0) (pa_cons (pe_cls rfl g_NoBound) pa_nil))) (pa_cons (pe_callB (call_isV K) (by rfl) T.no_isinstance (by decide +kernel) (pa_cons (pv 0) (pa_cons (pe_cls rfl g_NoChannel) pa_nil))) (pa_cons (pe_callB (call_isV K) (by rfl) T.no_isinstance (by decide +kernel) (pa_cons (pv 0) (pa_cons (pe_cls rfl g_HasRing) pa_nil))) pa_nil))))))
  (pss_cons (ps_set (i := 1) sc_law_taken.nd rfl (Or.inl rfl) (pe_op op_cat (pv 1) (pe_lst (pa_cons (pe_callB (call_isV K) (by rfl) T.no_isinstance (by decide +kernel) (pa_cons (pv 0) (pa_cons (pe_cls rfl g_NoSchedule) pa_nil))) (pa_cons (pe_callB (call_isV K) (by rfl) T.no_isinstance (by decide +kernel) (pa_cons (pv 0) (pa_cons (pe_cls rfl g_TooMany) pa_nil))) (pa_cons (pe_callB (call_isV K) (by rfl) T.no_isinstance (by decide +kernel) (pa_cons (pv 0) (pa_cons (pe_cls rfl g_NoClosedSet) pa_nil))) pa_nil))))))
  (pss_one (ps_ret (pe_op op_cat (pv 1) (pe_lst (pa_cons (pe_callB (call_isV K) (by rfl) T.no_isinstance (by decide +kernel) (pa_cons (pv 0) (pa_cons (pe_cls rfl g_NoLink) pa_nil))) (pa_cons (pe_callB (call_isV K) (by rfl) T.no_isinstance (by decide +kernel) (pa_cons (pv 0) (pa_cons (pe_cls rfl g_NoNames) pa_nil))) pa_nil))))))))), ?_⟩
    walk_at "rd"
    refine ⟨a, C, fs, .ref C1, .ref C1, b1, rfl, ha.sm (T := Z) (Sm.refl H), .own C1, xk, k1, ?_⟩
    walk_at "rd"
    refine ⟨a, C, fs, .ref C2, .ref C2, b2, rfl, ha.sm (T := Z) (Sm.refl H), .own C2, xk, k2, ?_⟩
    walk_at "rd"
    refine ⟨a, C, fs, .ref C3, .ref C3, b3, rfl, ha.sm (T := Z) (Sm.refl H), .own C3, xk, k3, ?_⟩
    walk_at "rd"
    refine ⟨a, C, fs, .ref C4, .ref C4, b4, rfl, ha.sm (T := Z) (Sm.refl H), .own C4, xk, k4, ?_⟩
    walk_at "rd"
    refine ⟨by show 4 ≤ sizeLine; decide, fun L0 hL0 => genO hL0 fun G0 m0 => ?_⟩
    walk_at "rd"
    refine ⟨a, C, fs, .ref C5, .ref C5, b5, rfl, ha.sm (T := Z) ((Sm.refl H).new m0.s), .own C5, xk, k5, ?_⟩
    walk_at "rd"
    refine ⟨a, C, fs, .ref C6, .ref C6, b6, rfl, ha.sm (T := Z) ((Sm.refl H).new m0.s), .own C6, xk, k6, ?_⟩
    walk_at "rd"
    refine ⟨a, C, fs, .ref C7, .ref C7, b7, rfl, ha.sm (T := Z) ((Sm.refl H).new m0.s), .own C7, xk, k7, ?_⟩
    walk_at "rd"
    refine ⟨by show 3 ≤ sizeLine; decide, fun L1 hL1 => genO hL1 fun G1 m1 => ?_⟩
    walk_at "rd"
    refine rd_cat (m1.s _ _ m0.at') m1.at' (by show 4 + 3 ≤ sizeLine; decide) (fun R1 K1 q1 => ?_)
    walk_at "rd"
    refine ⟨a, C, fs, .ref C8, .ref C8, b8, rfl, ha.sm (T := Z) ((((Sm.refl H).new m0.s).new m1.s).new q1.s), .own C8, xk, k8, ?_⟩
    walk_at "rd"
    refine ⟨a, C, fs, .ref C9, .ref C9, b9, rfl, ha.sm (T := Z) ((((Sm.refl H).new m0.s).new m1.s).new q1.s), .own C9, xk, k9, ?_⟩
    walk_at "rd"
    refine ⟨a, C, fs, .ref C10, .ref C10, b10, rfl, ha.sm (T := Z) ((((Sm.refl H).new m0.s).new m1.s).new q1.s), .own C10, xk, k10, ?_⟩
    walk_at "rd"
    refine ⟨by show 3 ≤ sizeLine; decide, fun L2 hL2 => genO hL2 fun G2 m2 => ?_⟩
    walk_at "rd"
    refine rd_cat (m2.s _ _ q1.at') m2.at' (by show 7 + 3 ≤ sizeLine; decide) (fun R2 K2 q2 => ?_)
    walk_at "rd"
    refine ⟨a, C, fs, .ref C11, .ref C11, b11, rfl, ha.sm (T := Z) ((((((Sm.refl H).new m0.s).new m1.s).new q1.s).new m2.s).new q2.s), .own C11, xk, k11, ?_⟩
    walk_at "rd"
    refine ⟨a, C, fs, .ref C12, .ref C12, b12, rfl, ha.sm (T := Z) ((((((Sm.refl H).new m0.s).new m1.s).new q1.s).new m2.s).new q2.s), .own C12, xk, k12, ?_⟩
    walk_at "rd"
    refine ⟨by show 2 ≤ sizeLine; decide, fun L3 hL3 => genO hL3 fun G3 m3 => ?_⟩
    walk_at "rd"
    refine rd_cat (m3.s _ _ q2.at') m3.at' (by show 10 + 2 ≤ sizeLine; decide) (fun R3 K3 q3 => ?_)
    walk_at "rd"
    exact k R3 K3 ((((((((Sm.refl H).new m0.s).new m1.s).new q1.s).new m2.s).new q2.s).new m3.s).new q3.s) q3.at'
end

abbrev s_law_right : Stmt := top 20
theorem sc_law_right : FnScope ["_law_well", "_law_x", "_law_some", "_law_spot", "_law_e", "_law_k"] ["_law_well"] (defScope s_law_right) := ⟨rfl, rfl, rfl, by decide +kernel, rfl, by decide +kernel, by decide +kernel⟩
theorem eqv_rfl : ∀ d : PyData, d.canLay0 = true → PyData.eqv d d = true := fun d h => go d h
where
  go : ∀ d : PyData, d.canLay0 = true → PyData.eqv d d = true
    | .none, _ => rfl
    | .bool b, _ => by simp [PyData.eqv]
    | .int i, _ => by simp [PyData.eqv]
    | .str x, _ => by simp [PyData.eqv]
    | .list ds, h => by rw [PyData.eqv]; exact gos ds (by rwa [PyData.canLay0] at h)
    | .tuple ds, h => by rw [PyData.eqv]; exact gos ds (by rwa [PyData.canLay0] at h)
    | .dict _, h => by rw [PyData.canLay0] at h; cases h
  gos : ∀ ds : List PyData, PyData.canLayAll0 ds = true → PyData.eqvAll ds ds = true
    | [], _ => rfl
    | d :: ds, h => by
      rw [PyData.canLayAll0, Bool.and_eq_true] at h
      rw [PyData.eqvAll, go d h.1, gos ds h.2]
      rfl
theorem DtAll.rep {H : Hp} {v : V} {d : PyData} (h : Dt H v d) : ∀ n, DtAll H (List.replicate n v) (List.replicate n d)
  | 0 => .nil
  | n + 1 => .cons h (DtAll.rep h n)
/-- the classes and what isinstance says of them -/
def KinT (K : PySem.W.Frag) (B : Addr) (ks : List (Addr × Str)) (cs : List Addr) : Prop := ∀ (i : Nat) (c : Addr × Str), ks[i]? = some c → ExcK K c.1 ∧ Paired (fun D b => PySem.W.kitOne K (.ref c.1) (.ref D) = some b) cs ((List.range 12).map fun k => k == i) ∧
  PySem.W.kitOne K (.ref c.1) (.ref B) = some true ∧ PySem.W.kitOne K (.ref c.1) (.type "ValueError") = some true
theorem okd_bls {k : Nat} (ns : List Bool) : Okd (k + 1) (.list (ns.map PyData.bool)) := okd_list.mpr fun d m => by
  obtain ⟨i, _, rfl⟩ := List.mem_map.mp m
  exact okd_bl i
section
variable {P : Program} {w : World} {K : PySem.W.Frag} {mg : Str → Option Value} {base : Heap} {Z : List (Addr × Str)} {B : Addr} {ks : List (Addr × Str)} {cs : List Addr}
theorem ok_right (T : Bt mg) (c_law_draw : Cal P w K mg base CX0 1 "_law_draw" spDraw) (c_law_by_place : Cal P w K mg base CX0 3 "_law_by_place" (spMake Z ks)) (c_law_by_name : Cal P w K mg base CX0 3 "_law_by_name" (spMake Z ks))
    (c_law_fields : Cal P w K mg base CX0 2 "_law_fields" (spFields Z ks)) (c_law_taken : Cal P w K mg base CX0 2 "_law_taken" (spTaken Z K cs)) (kl : ks.length = 12) (kt : KinT K B ks cs) (kv : PySem.W.kitOne K (.type "ValueError") (.ref B) = some false) (g_ChannelError : mg "ChannelError" = some (.ref B))
    {f : Addr} {fd : FuncData} (F : Fun K "_law_right" "_law_right" s_law_right f fd) : FnOkG P w K mg base CX0 6 f fd ["_law_well"] (spWell Z) := by
  refine okG F sc_law_right (fun vs H Q E h => ?_) (fun cdv A outer s H vs Q E hr hgd h => ?_)
  · obtain ⟨a, rfl, _⟩ := h
    rfl
  · obtain ⟨a, rfl, ha, k⟩ := h
    refine ⟨_, (pss_cons (ps_set (i := 1) sc_law_right.nd rfl (Or.inl rfl) (pe_ix (ix_listK K) (pe_lst (pa_cons (pe_cal hr (by decide) c_law_draw pass0 rfl (pa_cons (pv 0) (pa_cons pe_int pa_nil))) (pa_cons (pe_un un_neg pe_int) (pa_cons pe_non (pa_cons pe_str (pa_cons (pe_tup (pa_cons pe_int (pa_cons pe_int pa_nil))) pa_nil)))))) (pe_cal hr (by decide) c_law_draw pass0 rfl (pa_cons (pv 0) (pa_cons pe_int pa_nil))) (fun _ _ => rfl)))
  (pss_cons (ps_for PassesOwn.never rfl (pi_listK K (pe_lst (pa_cons (pe_cal hr (by decide) c_law_by_place pass0 rfl (pa_cons (pv 1) pa_nil)) (pa_cons (pe_cal hr (by decide) c_law_by_name pass0 rfl (pa_cons (pv 1) pa_nil)) pa_nil)))) (pg_name (i := 2) sc_law_right.nd rfl (Or.inl rfl)) (pss_cons (ps_if (pt_cmpR (op_neDK K hr.units) (pe_cal hr (by decide) c_law_fields pass0 rfl (pa_cons (pv 2) pa_nil)) (pe_op op_rep (pe_lst (pa_cons (pv 1) pa_nil)) pe_int) (nomark _)) (pss_one (ps_ret pe_bl)) pss_nil)
  (pss_one (ps_for PassesOwn.never rfl (pi_enumK K (by rfl) T.no_enumerate (pa_cons (pv 2) pa_nil)) (pg_tupK K 2 rfl (pgs_cons (pg_name (i := 3) sc_law_right.nd rfl (Or.inr rfl)) (pgs_cons (pg_name (i := 4) sc_law_right.nd rfl (Or.inl rfl)) pgs_nil))) (pss_cons (ps_if (pt_cmpR (op_neDK K hr.units) (pe_cal hr (by decide) c_law_taken pass0 rfl (pa_cons (pv 4) pa_nil)) (pe_lc (own := [("_law_k", 5)]) (g := gName 5) rfl sc_law_right.nd (pi_range1 (by rfl) T.no_range (pa_cons pe_int pa_nil)) (blkOk_by (by kernel_rfl)) (fun _ _ _ _ _ => (pg_name (i := 5) sc_law_right.nd rfl (Or.inl rfl))) (fun _ _ _ _ _ => pts_nil) (fun _ _ _ _ _ => (pe_cmpR op_eq (pv 5) (pv 3) (nomark _)))) (nomark _)) (pss_one (ps_ret pe_bl)) pss_nil)
  (pss_one (ps_if (PW.pt (pw_or (pt_not (pt_val (pe_callB (call_isV K) (by rfl) T.no_isinstance (by decide +kernel) (pa_cons (pv 4) (pa_cons (pe_cls rfl g_ChannelError) pa_nil))))) (pw_or1 (pt_not (pt_val (pe_callB (call_isV K) (by rfl) T.no_isinstance (by decide +kernel) (pa_cons (pv 4) (pa_cons (pe_ty "ValueError" (by rfl) T.no_ValueError (by decide +kernel)) pa_nil)))))))) (pss_one (ps_ret pe_bl)) pss_nil)))))))
  (pss_one (ps_ret (pe_not (pe_callB (call_isB K) (by rfl) T.no_isinstance (by decide +kernel) (pa_cons (pe_bex PyProof.Rows.excClass_ValueError (by rfl) T.no_ValueError PyProof.Rows.Boot.«ValueError» (pa_cons pe_str pa_nil)) (pa_cons (pe_cls rfl g_ChannelError) pa_nil)))))))), ?_⟩
    walk_at "rd"
    refine rd_draw ha (by omega) (by omega) (fun r1 h10 h11 => ?_)
    walk_at "rd"
    refine ⟨by show 2 ≤ sizeLine; decide, fun p1 hp1 => genO hp1 fun H1 n1 => ?_⟩
    walk_at "rd"
    refine ⟨by show 5 ≤ sizeLine; decide, fun p2 hp2 => genO hp2 fun H2 n2 => ?_⟩
    walk_at "rd"
    have s2 : Sm Z H H2 := (Sm.of n1.s).new n2.s
    refine rd_draw (s2.well ha) (by omega) (by omega) (fun r2 h20 h21 => ?_)
    obtain ⟨x, d, hat, hxd, hok⟩ : ∃ (x : V) (d : PyData), atI [V.int r1, V.int (-1), V.non, V.str "v", V.ref p1] r2 = some x ∧ Dt H2 x d ∧ Okd 4 d := by
      have h2 : r2 = 0 ∨ r2 = 1 ∨ r2 = 2 ∨ r2 = 3 ∨ r2 = 4 := by omega
      rcases h2 with rfl | rfl | rfl | rfl | rfl
      · exact ⟨_, _, rfl, .int _, okd_int _⟩
      · exact ⟨_, _, rfl, .int _, okd_int _⟩
      · exact ⟨_, _, rfl, .non, okd_non⟩
      · exact ⟨_, _, rfl, .str _, okd_str (by decide +kernel)⟩
      · exact ⟨_, _, rfl, .tup (n2.s _ _ n1.at') (.cons (.int 0) (.cons (.int 1) .nil)), okd_tints (k := 3) [0, 1]⟩
    refine rd_ixL (SqL.of n2.at') hat ?_
    walk_at "rd"
    refine ⟨x, rfl, fun q1 H3 xs1 s3 hq1 hx1 => ?_⟩
    walk_at "rd"
    refine ⟨x, rfl, fun q2 H4 xs2 s4 hq2 hx2 => ?_⟩
    walk_at "rd"
    refine ⟨by show 2 ≤ sizeLine; decide, fun R hR => genO hR fun H5 n5 => ?_⟩
    have s45 : Sm Z H3 H5 := s4.new n5.s
    have s05 : Sm Z H H5 := s2.trans (s3.trans s45)
    have hxd5 : Dt H5 x d := hxd.sm (s3.trans s45)
    have lists : ∀ (i : Nat) (y : V), [V.ref q1, V.ref q2][i]? = some y → ∃ q xs, y = .ref q ∧ H5 q = some (.lst xs) ∧ ExL H5 x xs ks := fun i y e => by
      match i, e with
      | 0, e => exact ⟨q1, xs1, (Option.some.inj e).symm, s45.lst hq1, hx1.sm s45⟩
      | 1, e => exact ⟨q2, xs2, (Option.some.inj e).symm, n5.s _ _ hq2, hx2.sm (T := Z) (Sm.of n5.s)⟩
      | i + 2, e => cases e
    refine ⟨R, rfl, ⟨_, SqL.of n5.at'⟩, ?_⟩
    refine for_w (T := Z) (wk_list (SqL.of n5.at')) (fun i σ' H' => ∃ u2 u3 u4, σ' = [some (.ref a), some x, u2, u3, u4, none] ∧ Sm Z H5 H') ⟨none, none, none, rfl, Sm.refl _⟩ (fun i σ' H' h => by obtain ⟨_, _, _, _, h⟩ := h; exact h) (fun i y σ1 H6 H7 hi hP s7 hit => ?_) (fun σ' H6 hP => ?_)
    · obtain ⟨u2, u3, u4, rfl, s6⟩ := hP
      obtain ⟨q, xs, rfl, hq, hx⟩ := lists i y hit
      have s57 := s6.new s7
      have hxl : xs.length = 12 := by rw [Paired.length hx, kl]
      walk_at "rd"
      refine ⟨q, xs, x, rfl, s57.lst hq, hx.sm s57, fun r H8 s8 hr => ?_⟩
      walk_at "rd"
      refine ⟨by show 1 ≤ sizeLine; decide, fun p9 hp9 => genO hp9 fun H9 n9 => ?_⟩
      walk_at "rd"
      refine ⟨p9, 12, [x], rfl, rfl, n9.at', by decide, by decide, by show 1 * 12 ≤ sizeLine; decide, fun p10 hp10 => genO hp10 fun H10 n10 => ?_⟩
      have s810 : Sm Z H8 H10 := (Sm.of n9.s).new n10.s
      have s510 : Sm Z H5 H10 := s57.trans (s8.trans s810)
      have hd10 := DtAll.rep (hxd5.sm s510) 12
      refine rd_neD (d := .list (List.replicate 12 d)) (e := .list (List.replicate 12 d)) (.lst (s810.lst hr) hd10) (.lst n10.at' hd10) ((okd_list.mpr fun e m => by rw [(List.mem_replicate.mp m).2]; exact hok).mono (by omega)) ((okd_list.mpr fun e m => by rw [(List.mem_replicate.mp m).2]; exact hok).mono (by omega)) ?_
      have er : PyData.eqv (.list (List.replicate 12 d)) (.list (List.replicate 12 d)) = true := eqv_rfl _ (okd_list (k := 4) |>.mpr fun e m => by rw [(List.mem_replicate.mp m).2]; exact hok).1
      rw [er]
      walk_at "rd"
      refine ⟨q, xs, rfl, SqL.of (s510.lst hq), ?_⟩
      refine for_w (T := Z) (wk_enum (SqL.of (s510.lst hq))) (fun i σ' H' => ∃ u3 u4, σ' = [some (.ref a), some x, some (.ref q), u3, u4, none] ∧ Sm Z H10 H') ⟨_, _, rfl, Sm.refl _⟩ (fun i σ' H' h => by obtain ⟨_, _, _, h⟩ := h; exact h) (fun j z σ1 H11 H12 hj hP s12 hit2 => ?_) (fun σ' H11 hP => ?_)
      · obtain ⟨u3, u4, rfl, s11⟩ := hP
        obtain ⟨t, y, rfl, ht, hy⟩ := hit2
        have s1012 := s11.new s12
        obtain ⟨c, hc, ae, rfl, hae⟩ := paired_get hx hy
        obtain ⟨xk, kp, kb, kve⟩ := kt j c hc
        have hae12 := hae.sm (s510.trans s1012)
        refine rd_gtup2 (SqT.of ht) rfl ?_
        walk_at "rd"
        refine ⟨ae, c.1, _, _, rfl, hae12, xk, kp, fun tq H13 s13 htq => ?_⟩
        walk_at "rd"
        refine ⟨12, rfl, by decide, by decide, ?_⟩
        refine lcm_w (T := Z) (wk_range 0 12) (by decide) (fun k => .bl (k == j)) (fun k y H14 H15 hk s14 s15 it kt' ht' => ?_) (fun D H14 fD s14 hD => ?_)
        · refine ⟨rfl, ?_⟩
          have it' : y = .int (0 + (k : Int)) := it
          subst it'
          walk_at "rd"
          have e : decide ((0 + (k : Int)) = (j : Int)) = (k == j) := by
            by_cases c : k = j
            · rw [c]
              simp
            · rw [decide_eq_false (by omega)]
              exact (beq_eq_false_iff_ne.mpr c).symm
          rw [e]
          exact ht' H15 (Sm.of s15)
        · have hD' : H14 D = some (.lst (((List.range 12).map fun k => k == j).map V.bl)) := by rw [hD, List.map_map]; rfl
          refine rd_neD (.lst (s14.lst htq) (DtAll.bls _)) (.lst hD' (DtAll.bls _)) (okd_bls _) (okd_bls _) ?_
          rw [eqv_rfl _ (okd_bls (k := 3) _).1]
          walk_at "rd"
          have s1014 := s1012.trans (s13.trans s14)
          have hae14 := hae.sm (s510.trans s1014)
          refine ⟨ae, c.1, _, .ref B, .ref B, true, rfl, hae14, .own B, xk, kb, ?_⟩
          walk_at "rd"
          refine ⟨ae, c.1, _, .ty "ValueError", .type "ValueError", true, rfl, hae14, .ty _, xk, kve, ?_⟩
          walk_at "rd"
          exact ⟨_, _, rfl, s1014⟩
      · obtain ⟨u3, u4, rfl, s11⟩ := hP
        exact ⟨_, _, _, rfl, s510.trans s11⟩
    · obtain ⟨u2, u3, u4, rfl, s6⟩ := hP
      walk_at "rd"
      refine ⟨by show 1 ≤ sizeLine; decide, fun ae hae => genO hae fun H7 n7 => ?_⟩
      refine rd_cons ?_
      walk_at "rd"
      refine ⟨ae, .ref B, .ref B, false, rfl, n7.at', .own B, kv, ?_⟩
      walk_at "rd"
      exact k H7 (s05.trans (s6.new n7.s))
end

abbrev s_law : Stmt := top 21
theorem sc_law : FnScope ["_law_script", "_law_k", "_law_cell"] ["_law_script"] (defScope s_law) := ⟨rfl, rfl, rfl, by decide +kernel, rfl, by decide +kernel, by decide +kernel⟩
section
variable {P : Program} {w : World} {K : PySem.W.Frag} {mg : Str → Option Value} {base : Heap} {Z : List (Addr × Str)}
theorem ok_law (T : Bt mg) (c_law_right : CalG P w K mg base CX0 6 "_law_right" (spWell0 Z)) {f : Addr} {fd : FuncData} (F : Fun K "law" "law" s_law f fd) :
    FnOkG P w K mg base CX0 7 f fd ["_law_script"] (spLaw K) := by
  refine okG F sc_law (fun vs H Q E h => ?_) (fun cdv A outer s H vs Q E hr hgd h => ?_)
  · obtain ⟨a, ns, rfl, _⟩ := h
    rfl
  · obtain ⟨a, ns, rfl, ha, hl, k⟩ := h
    refine ⟨_, (pss_cons (ps_for PassesOwn.never rfl (pi_enumK K (by rfl) T.no_enumerate (pa_cons (pe_slice (sl_listK K) (pe_op (op_cat2 K) (pv 0) (pe_lst (pa_cons pe_int pa_nil))) po_none (po_some pe_int)) pa_nil)) (pg_tupK K 2 rfl (pgs_cons (pg_name (i := 1) sc_law.nd rfl (Or.inl rfl)) (pgs_cons (pg_name (i := 2) sc_law.nd rfl (Or.inl rfl)) pgs_nil))) (pss_one (ps_if (pt_not (pt_val (pe_calG hr (by decide) hgd c_law_right pass0 rfl (pa_cons (pe_lst (pa_cons (pe_op op_mul (pv 2) (pe_callTy call_int1 (by rfl) T.no_int (by decide +kernel) (pa_cons (pe_cmpR op_ge (pv 2) (pe_op op_pow pe_int pe_int) (nomark _)) pa_nil))) (pa_cons (pe_op op_add (pe_op op_mod (pv 2) pe_int) (pe_op op_mul pe_int (pv 1))) (pa_cons pe_int pa_nil)))) pa_nil)))) (pss_one (ps_ret pe_bl)) pss_nil)))
  (pss_one (ps_ret pe_bl))), ?_⟩
    walk_at "rd"
    refine ⟨by show 1 ≤ sizeLine; decide, fun p1 hp1 => genO hp1 fun H1 n1 => ?_⟩
    refine rd_cat2 (ha.sm (T := Z) (Sm.of n1.s)) n1.at' (by rw [List.length_map, sizeLine_eq]; simp only [List.length_singleton]; omega) (fun p2 H2 n2 => ?_)
    walk_at "rd"
    refine rd_slL (SqL.of n2.at') (fun p3 H3 n3 => ?_)
    have e0 : ns.map V.int ++ [V.int 0] = (ns ++ [0]).map V.int := by rw [List.map_append]; rfl
    have h3 := n3.at'
    rw [e0] at h3
    obtain ⟨ms, hms, hml⟩ := cutV_ints (ns ++ [0]) none (some _)
    rw [hms] at h3
    walk_at "rd"
    refine ⟨p3, _, rfl, SqL.of h3, ?_⟩
    refine for_w (T := Z) (wk_enum (SqL.of h3)) (fun i σ' H' => ∃ u1 u2, σ' = [some (.ref a), u1, u2] ∧ Sm Z H3 H') ⟨none, none, rfl, Sm.refl _⟩ (fun i σ' H' h => by obtain ⟨_, _, _, h⟩ := h; exact h) (fun i x σ1 H4 H5 hi hP s5 hit => ?_) (fun σ' H4 hP => ?_)
    · obtain ⟨u1, u2, rfl, s4⟩ := hP
      obtain ⟨t, y, rfl, ht, hy⟩ := hit
      obtain ⟨z, rfl⟩ : ∃ z, y = .int z := by
        rw [List.getElem?_map] at hy
        cases e : ms[i]? with
        | none => rw [e] at hy; cases hy
        | some z => rw [e] at hy; exact ⟨z, (Option.some.inj hy).symm⟩
      refine rd_gtup2 (SqT.of ht) rfl ?_
      walk_at "rd"
      refine .inr ⟨_, rfl, ?_⟩
      refine rd_I (.inr (by split <;> exact ⟨by decide, by decide⟩)) ?_
      walk_at "rd"
      refine ⟨by show 3 ≤ sizeLine; decide, fun p6 hp6 => genO hp6 fun H6 n6 => ?_⟩
      walk_at "rd"
      refine ⟨p6, _, _, _, rfl, n6.at', fun H7 s7 => ?_⟩
      walk_at "rd"
      refine ⟨_, _, rfl, (s4.new s5).trans (sm_well n6 s7)⟩
    · obtain ⟨u1, u2, rfl, s4⟩ := hP
      walk_at "rd"
      exact k H4
end

theorem all_mk {l : PySem.W.OpenLaw} {w : World} {K : PySem.W.Frag} {h : Heap} {mg : Str → Option Value} {fa : Addr} (X : K.In h) (G : h.Ns mainGlobals mg) (hfa : mg "law" = some (.ref fa))
    {f_law : Addr} {f_law_right : Addr} {f_law_fields : Addr} {f_law_by_name : Addr} {f_law_by_place : Addr} {f_law_taken : Addr} {f_law_draw : Addr} {f_NoNames_init : Addr} {C_NoNames : Addr} {f_NoLink_init : Addr} {C_NoLink : Addr} {f_NoClosedSet_init : Addr} {C_NoClosedSet : Addr} {f_TooMany_init : Addr} {C_TooMany : Addr} {f_NoSchedule_init : Addr} {C_NoSchedule : Addr} {f_HasRing_init : Addr} {C_HasRing : Addr} {f_NoChannel_init : Addr} {C_NoChannel : Addr} {f_NoBound_init : Addr} {C_NoBound : Addr} {f_NoSteps_init : Addr} {C_NoSteps : Addr} {f_NoState_init : Addr} {C_NoState : Addr} {f_NoStation_init : Addr} {C_NoStation : Addr} {f_NoNetwork_init : Addr} {C_NoNetwork : Addr} {B : Addr} {nm_NoNetwork q_NoNetwork : Str} {N_NoNetwork : Addr} {bs_NoNetwork bm_NoNetwork : List Value} {sn_NoNetwork : List Str} {sub_NoNetwork : List Value} {ab_NoNetwork : Bool} {col_NoNetwork : Option Bool} {dd_NoNetwork : Option Addr} {m0_NoNetwork m1_NoNetwork m2_NoNetwork m3_NoNetwork m5_NoNetwork : Option Value} {od_NoNetwork_init an_NoNetwork_init : Option Addr} {sl_NoNetwork_init : Array (Option Value)} {oc_NoNetwork_init kV_NoNetwork_init dc_NoNetwork_init pm_NoNetwork_init cd_NoNetwork_init ct_NoNetwork_init : Value} {nm_NoStation q_NoStation : Str} {N_NoStation : Addr} {bs_NoStation bm_NoStation : List Value} {sn_NoStation : List Str} {sub_NoStation : List Value} {ab_NoStation : Bool} {col_NoStation : Option Bool} {dd_NoStation : Option Addr} {m0_NoStation m1_NoStation m2_NoStation m3_NoStation m5_NoStation : Option Value} {od_NoStation_init an_NoStation_init : Option Addr} {sl_NoStation_init : Array (Option Value)} {oc_NoStation_init kV_NoStation_init dc_NoStation_init pm_NoStation_init cd_NoStation_init ct_NoStation_init : Value} {nm_NoState q_NoState : Str} {N_NoState : Addr} {bs_NoState bm_NoState : List Value} {sn_NoState : List Str} {sub_NoState : List Value} {ab_NoState : Bool} {col_NoState : Option Bool} {dd_NoState : Option Addr} {m0_NoState m1_NoState m2_NoState m3_NoState m5_NoState : Option Value} {od_NoState_init an_NoState_init : Option Addr} {sl_NoState_init : Array (Option Value)} {oc_NoState_init kV_NoState_init dc_NoState_init pm_NoState_init cd_NoState_init ct_NoState_init : Value} {nm_NoSteps q_NoSteps : Str} {N_NoSteps : Addr} {bs_NoSteps bm_NoSteps : List Value} {sn_NoSteps : List Str} {sub_NoSteps : List Value} {ab_NoSteps : Bool} {col_NoSteps : Option Bool} {dd_NoSteps : Option Addr} {m0_NoSteps m1_NoSteps m2_NoSteps m3_NoSteps m5_NoSteps : Option Value} {od_NoSteps_init an_NoSteps_init : Option Addr} {sl_NoSteps_init : Array (Option Value)} {oc_NoSteps_init kV_NoSteps_init dc_NoSteps_init pm_NoSteps_init cd_NoSteps_init ct_NoSteps_init : Value} {nm_NoBound q_NoBound : Str} {N_NoBound : Addr} {bs_NoBound bm_NoBound : List Value} {sn_NoBound : List Str} {sub_NoBound : List Value} {ab_NoBound : Bool} {col_NoBound : Option Bool} {dd_NoBound : Option Addr} {m0_NoBound m1_NoBound m2_NoBound m3_NoBound m5_NoBound : Option Value} {od_NoBound_init an_NoBound_init : Option Addr} {sl_NoBound_init : Array (Option Value)} {oc_NoBound_init kV_NoBound_init dc_NoBound_init pm_NoBound_init cd_NoBound_init ct_NoBound_init : Value} {nm_NoChannel q_NoChannel : Str} {N_NoChannel : Addr} {bs_NoChannel bm_NoChannel : List Value} {sn_NoChannel : List Str} {sub_NoChannel : List Value} {ab_NoChannel : Bool} {col_NoChannel : Option Bool} {dd_NoChannel : Option Addr} {m0_NoChannel m1_NoChannel m2_NoChannel m3_NoChannel m5_NoChannel : Option Value} {od_NoChannel_init an_NoChannel_init : Option Addr} {sl_NoChannel_init : Array (Option Value)} {oc_NoChannel_init kV_NoChannel_init dc_NoChannel_init pm_NoChannel_init cd_NoChannel_init ct_NoChannel_init : Value} {nm_HasRing q_HasRing : Str} {N_HasRing : Addr} {bs_HasRing bm_HasRing : List Value} {sn_HasRing : List Str} {sub_HasRing : List Value} {ab_HasRing : Bool} {col_HasRing : Option Bool} {dd_HasRing : Option Addr} {m0_HasRing m1_HasRing m2_HasRing m3_HasRing m5_HasRing : Option Value} {od_HasRing_init an_HasRing_init : Option Addr} {sl_HasRing_init : Array (Option Value)} {oc_HasRing_init kV_HasRing_init dc_HasRing_init pm_HasRing_init cd_HasRing_init ct_HasRing_init : Value} {nm_NoSchedule q_NoSchedule : Str} {N_NoSchedule : Addr} {bs_NoSchedule bm_NoSchedule : List Value} {sn_NoSchedule : List Str} {sub_NoSchedule : List Value} {ab_NoSchedule : Bool} {col_NoSchedule : Option Bool} {dd_NoSchedule : Option Addr} {m0_NoSchedule m1_NoSchedule m2_NoSchedule m3_NoSchedule m5_NoSchedule : Option Value} {od_NoSchedule_init an_NoSchedule_init : Option Addr} {sl_NoSchedule_init : Array (Option Value)} {oc_NoSchedule_init kV_NoSchedule_init dc_NoSchedule_init pm_NoSchedule_init cd_NoSchedule_init ct_NoSchedule_init : Value} {nm_TooMany q_TooMany : Str} {N_TooMany : Addr} {bs_TooMany bm_TooMany : List Value} {sn_TooMany : List Str} {sub_TooMany : List Value} {ab_TooMany : Bool} {col_TooMany : Option Bool} {dd_TooMany : Option Addr} {m0_TooMany m1_TooMany m2_TooMany m3_TooMany m5_TooMany : Option Value} {od_TooMany_init an_TooMany_init : Option Addr} {sl_TooMany_init : Array (Option Value)} {oc_TooMany_init kV_TooMany_init dc_TooMany_init pm_TooMany_init cd_TooMany_init ct_TooMany_init : Value} {nm_NoClosedSet q_NoClosedSet : Str} {N_NoClosedSet : Addr} {bs_NoClosedSet bm_NoClosedSet : List Value} {sn_NoClosedSet : List Str} {sub_NoClosedSet : List Value} {ab_NoClosedSet : Bool} {col_NoClosedSet : Option Bool} {dd_NoClosedSet : Option Addr} {m0_NoClosedSet m1_NoClosedSet m2_NoClosedSet m3_NoClosedSet m5_NoClosedSet : Option Value} {od_NoClosedSet_init an_NoClosedSet_init : Option Addr} {sl_NoClosedSet_init : Array (Option Value)} {oc_NoClosedSet_init kV_NoClosedSet_init dc_NoClosedSet_init pm_NoClosedSet_init cd_NoClosedSet_init ct_NoClosedSet_init : Value} {nm_NoLink q_NoLink : Str} {N_NoLink : Addr} {bs_NoLink bm_NoLink : List Value} {sn_NoLink : List Str} {sub_NoLink : List Value} {ab_NoLink : Bool} {col_NoLink : Option Bool} {dd_NoLink : Option Addr} {m0_NoLink m1_NoLink m2_NoLink m3_NoLink m5_NoLink : Option Value} {od_NoLink_init an_NoLink_init : Option Addr} {sl_NoLink_init : Array (Option Value)} {oc_NoLink_init kV_NoLink_init dc_NoLink_init pm_NoLink_init cd_NoLink_init ct_NoLink_init : Value} {nm_NoNames q_NoNames : Str} {N_NoNames : Addr} {bs_NoNames bm_NoNames : List Value} {sn_NoNames : List Str} {sub_NoNames : List Value} {ab_NoNames : Bool} {col_NoNames : Option Bool} {dd_NoNames : Option Addr} {m0_NoNames m1_NoNames m2_NoNames m3_NoNames m5_NoNames : Option Value} {od_NoNames_init an_NoNames_init : Option Addr} {sl_NoNames_init : Array (Option Value)} {oc_NoNames_init kV_NoNames_init dc_NoNames_init pm_NoNames_init cd_NoNames_init ct_NoNames_init : Value} {od_law_draw an_law_draw : Option Addr} {sl_law_draw : Array (Option Value)} {oc_law_draw kV_law_draw dc_law_draw pm_law_draw cd_law_draw ct_law_draw : Value} {od_law_taken an_law_taken : Option Addr} {sl_law_taken : Array (Option Value)} {oc_law_taken kV_law_taken dc_law_taken pm_law_taken cd_law_taken ct_law_taken : Value} {od_law_by_place an_law_by_place : Option Addr} {sl_law_by_place : Array (Option Value)} {oc_law_by_place kV_law_by_place dc_law_by_place pm_law_by_place cd_law_by_place ct_law_by_place : Value} {od_law_by_name an_law_by_name : Option Addr} {sl_law_by_name : Array (Option Value)} {oc_law_by_name kV_law_by_name dc_law_by_name pm_law_by_name cd_law_by_name ct_law_by_name : Value} {od_law_fields an_law_fields : Option Addr} {sl_law_fields : Array (Option Value)} {oc_law_fields kV_law_fields dc_law_fields pm_law_fields cd_law_fields ct_law_fields : Value} {od_law_right an_law_right : Option Addr} {sl_law_right : Array (Option Value)} {oc_law_right kV_law_right dc_law_right pm_law_right cd_law_right ct_law_right : Value} {od_law an_law : Option Addr} {sl_law : Array (Option Value)} {oc_law kV_law dc_law pm_law cd_law ct_law : Value}
    (a_B : PySem.W.nsIn K mainGlobals "ChannelError" = some (some (.ref B)))
    (gaB : PySem.W.specialIn K (.ref B) "__getattribute__" = some (some (.builtin "type.__getattribute__")))
    (rdB : PySem.W.readsIn K B (.type "type") = true)
    (vIB : PySem.W.findCls K (.ref B) (.type "type") "__init__" = some (.val (.builtin "ValueError.__init__")))
    (a_NoNetwork : PySem.W.nsIn K mainGlobals "NoNetwork" = some (some (.ref C_NoNetwork)))
    (x_NoNetwork : K.lookup C_NoNetwork = some (excClassObj nm_NoNetwork q_NoNetwork C_NoNetwork N_NoNetwork bs_NoNetwork bm_NoNetwork true sn_NoNetwork sub_NoNetwork ab_NoNetwork col_NoNetwork dd_NoNetwork m0_NoNetwork m1_NoNetwork m2_NoNetwork m3_NoNetwork m5_NoNetwork "ValueError.__new__"))
    (r_NoNetwork : PySem.HandSPX.refsVE bm_NoNetwork = true)
    (s_a_NoNetwork : PySem.W.findIn K (.ref C_NoNetwork) "__setattr__" = some (some (.builtin "object.__setattr__")))
    (e_NoNetwork : PySem.W.subIn K (.ref C_NoNetwork) (.type "BaseException") = some true)
    (t_NoNetwork : PySem.W.typeIn K (.ref C_NoNetwork) = some (.type "type"))
    (kc_NoNetwork : PySem.W.keepIn K (.ref C_NoNetwork) = true)
    (nf_NoNetwork : PySem.W.findIn K (.ref C_NoNetwork) "index" = some none)
    (b_NoNetwork_init : PySem.W.findIn K (.ref C_NoNetwork) "__init__" = some (some (.ref f_NoNetwork_init)))
    (ti_NoNetwork_init : PySem.W.typeIn K (.ref f_NoNetwork_init) = some (.type "function"))
    (l_NoNetwork_init : K.lookup f_NoNetwork_init = some ⟨oc_NoNetwork_init, od_NoNetwork_init, .func (PySem.W.fnOf "__init__" "NoNetwork.__init__" (defArgs s_NoNetwork_init) (defBody s_NoNetwork_init) (defScope s_NoNetwork_init) .none kV_NoNetwork_init dc_NoNetwork_init pm_NoNetwork_init an_NoNetwork_init cd_NoNetwork_init ct_NoNetwork_init), sl_NoNetwork_init⟩)
    (c_NoNetwork_init : PySem.W.codeIn K cd_NoNetwork_init "NoNetwork.__init__" = true)
    (k_NoNetwork_init : PySem.W.keepIn K (.ref f_NoNetwork_init) = true)
    (ga_NoNetwork : PySem.W.findIn K (.ref C_NoNetwork) "__getattribute__" = some (some (.builtin "BaseException.__getattribute__")))
    (gg_NoNetwork : PySem.W.findIn K (.ref C_NoNetwork) "__getattr__" = some none)
    (h_NoNetwork : PySem.W.hasDictIn K C_NoNetwork = true)
    (ic_NoNetwork : PySem.W.isClsIn K C_NoNetwork = true)
    (ss_NoNetwork : PySem.W.subIn K (.ref C_NoNetwork) (.ref C_NoNetwork) = some true)
    (a_NoStation : PySem.W.nsIn K mainGlobals "NoStation" = some (some (.ref C_NoStation)))
    (x_NoStation : K.lookup C_NoStation = some (excClassObj nm_NoStation q_NoStation C_NoStation N_NoStation bs_NoStation bm_NoStation true sn_NoStation sub_NoStation ab_NoStation col_NoStation dd_NoStation m0_NoStation m1_NoStation m2_NoStation m3_NoStation m5_NoStation "ValueError.__new__"))
    (r_NoStation : PySem.HandSPX.refsVE bm_NoStation = true)
    (s_a_NoStation : PySem.W.findIn K (.ref C_NoStation) "__setattr__" = some (some (.builtin "object.__setattr__")))
    (e_NoStation : PySem.W.subIn K (.ref C_NoStation) (.type "BaseException") = some true)
    (t_NoStation : PySem.W.typeIn K (.ref C_NoStation) = some (.type "type"))
    (kc_NoStation : PySem.W.keepIn K (.ref C_NoStation) = true)
    (nf_NoStation : PySem.W.findIn K (.ref C_NoStation) "station" = some none)
    (b_NoStation_init : PySem.W.findIn K (.ref C_NoStation) "__init__" = some (some (.ref f_NoStation_init)))
    (ti_NoStation_init : PySem.W.typeIn K (.ref f_NoStation_init) = some (.type "function"))
    (l_NoStation_init : K.lookup f_NoStation_init = some ⟨oc_NoStation_init, od_NoStation_init, .func (PySem.W.fnOf "__init__" "NoStation.__init__" (defArgs s_NoStation_init) (defBody s_NoStation_init) (defScope s_NoStation_init) .none kV_NoStation_init dc_NoStation_init pm_NoStation_init an_NoStation_init cd_NoStation_init ct_NoStation_init), sl_NoStation_init⟩)
    (c_NoStation_init : PySem.W.codeIn K cd_NoStation_init "NoStation.__init__" = true)
    (k_NoStation_init : PySem.W.keepIn K (.ref f_NoStation_init) = true)
    (ga_NoStation : PySem.W.findIn K (.ref C_NoStation) "__getattribute__" = some (some (.builtin "BaseException.__getattribute__")))
    (gg_NoStation : PySem.W.findIn K (.ref C_NoStation) "__getattr__" = some none)
    (h_NoStation : PySem.W.hasDictIn K C_NoStation = true)
    (ic_NoStation : PySem.W.isClsIn K C_NoStation = true)
    (ss_NoStation : PySem.W.subIn K (.ref C_NoStation) (.ref C_NoStation) = some true)
    (a_NoState : PySem.W.nsIn K mainGlobals "NoState" = some (some (.ref C_NoState)))
    (x_NoState : K.lookup C_NoState = some (excClassObj nm_NoState q_NoState C_NoState N_NoState bs_NoState bm_NoState true sn_NoState sub_NoState ab_NoState col_NoState dd_NoState m0_NoState m1_NoState m2_NoState m3_NoState m5_NoState "ValueError.__new__"))
    (r_NoState : PySem.HandSPX.refsVE bm_NoState = true)
    (s_a_NoState : PySem.W.findIn K (.ref C_NoState) "__setattr__" = some (some (.builtin "object.__setattr__")))
    (e_NoState : PySem.W.subIn K (.ref C_NoState) (.type "BaseException") = some true)
    (t_NoState : PySem.W.typeIn K (.ref C_NoState) = some (.type "type"))
    (kc_NoState : PySem.W.keepIn K (.ref C_NoState) = true)
    (nf_NoState : PySem.W.findIn K (.ref C_NoState) "index" = some none)
    (b_NoState_init : PySem.W.findIn K (.ref C_NoState) "__init__" = some (some (.ref f_NoState_init)))
    (ti_NoState_init : PySem.W.typeIn K (.ref f_NoState_init) = some (.type "function"))
    (l_NoState_init : K.lookup f_NoState_init = some ⟨oc_NoState_init, od_NoState_init, .func (PySem.W.fnOf "__init__" "NoState.__init__" (defArgs s_NoState_init) (defBody s_NoState_init) (defScope s_NoState_init) .none kV_NoState_init dc_NoState_init pm_NoState_init an_NoState_init cd_NoState_init ct_NoState_init), sl_NoState_init⟩)
    (c_NoState_init : PySem.W.codeIn K cd_NoState_init "NoState.__init__" = true)
    (k_NoState_init : PySem.W.keepIn K (.ref f_NoState_init) = true)
    (ga_NoState : PySem.W.findIn K (.ref C_NoState) "__getattribute__" = some (some (.builtin "BaseException.__getattribute__")))
    (gg_NoState : PySem.W.findIn K (.ref C_NoState) "__getattr__" = some none)
    (h_NoState : PySem.W.hasDictIn K C_NoState = true)
    (ic_NoState : PySem.W.isClsIn K C_NoState = true)
    (ss_NoState : PySem.W.subIn K (.ref C_NoState) (.ref C_NoState) = some true)
    (a_NoSteps : PySem.W.nsIn K mainGlobals "NoSteps" = some (some (.ref C_NoSteps)))
    (x_NoSteps : K.lookup C_NoSteps = some (excClassObj nm_NoSteps q_NoSteps C_NoSteps N_NoSteps bs_NoSteps bm_NoSteps true sn_NoSteps sub_NoSteps ab_NoSteps col_NoSteps dd_NoSteps m0_NoSteps m1_NoSteps m2_NoSteps m3_NoSteps m5_NoSteps "ValueError.__new__"))
    (r_NoSteps : PySem.HandSPX.refsVE bm_NoSteps = true)
    (s_a_NoSteps : PySem.W.findIn K (.ref C_NoSteps) "__setattr__" = some (some (.builtin "object.__setattr__")))
    (e_NoSteps : PySem.W.subIn K (.ref C_NoSteps) (.type "BaseException") = some true)
    (t_NoSteps : PySem.W.typeIn K (.ref C_NoSteps) = some (.type "type"))
    (kc_NoSteps : PySem.W.keepIn K (.ref C_NoSteps) = true)
    (nf_NoSteps : PySem.W.findIn K (.ref C_NoSteps) "index" = some none)
    (b_NoSteps_init : PySem.W.findIn K (.ref C_NoSteps) "__init__" = some (some (.ref f_NoSteps_init)))
    (ti_NoSteps_init : PySem.W.typeIn K (.ref f_NoSteps_init) = some (.type "function"))
    (l_NoSteps_init : K.lookup f_NoSteps_init = some ⟨oc_NoSteps_init, od_NoSteps_init, .func (PySem.W.fnOf "__init__" "NoSteps.__init__" (defArgs s_NoSteps_init) (defBody s_NoSteps_init) (defScope s_NoSteps_init) .none kV_NoSteps_init dc_NoSteps_init pm_NoSteps_init an_NoSteps_init cd_NoSteps_init ct_NoSteps_init), sl_NoSteps_init⟩)
    (c_NoSteps_init : PySem.W.codeIn K cd_NoSteps_init "NoSteps.__init__" = true)
    (k_NoSteps_init : PySem.W.keepIn K (.ref f_NoSteps_init) = true)
    (ga_NoSteps : PySem.W.findIn K (.ref C_NoSteps) "__getattribute__" = some (some (.builtin "BaseException.__getattribute__")))
    (gg_NoSteps : PySem.W.findIn K (.ref C_NoSteps) "__getattr__" = some none)
    (h_NoSteps : PySem.W.hasDictIn K C_NoSteps = true)
    (ic_NoSteps : PySem.W.isClsIn K C_NoSteps = true)
    (ss_NoSteps : PySem.W.subIn K (.ref C_NoSteps) (.ref C_NoSteps) = some true)
    (a_NoBound : PySem.W.nsIn K mainGlobals "NoBound" = some (some (.ref C_NoBound)))
    (x_NoBound : K.lookup C_NoBound = some (excClassObj nm_NoBound q_NoBound C_NoBound N_NoBound bs_NoBound bm_NoBound true sn_NoBound sub_NoBound ab_NoBound col_NoBound dd_NoBound m0_NoBound m1_NoBound m2_NoBound m3_NoBound m5_NoBound "ValueError.__new__"))
    (r_NoBound : PySem.HandSPX.refsVE bm_NoBound = true)
    (s_a_NoBound : PySem.W.findIn K (.ref C_NoBound) "__setattr__" = some (some (.builtin "object.__setattr__")))
    (e_NoBound : PySem.W.subIn K (.ref C_NoBound) (.type "BaseException") = some true)
    (t_NoBound : PySem.W.typeIn K (.ref C_NoBound) = some (.type "type"))
    (kc_NoBound : PySem.W.keepIn K (.ref C_NoBound) = true)
    (nf_NoBound : PySem.W.findIn K (.ref C_NoBound) "index" = some none)
    (b_NoBound_init : PySem.W.findIn K (.ref C_NoBound) "__init__" = some (some (.ref f_NoBound_init)))
    (ti_NoBound_init : PySem.W.typeIn K (.ref f_NoBound_init) = some (.type "function"))
    (l_NoBound_init : K.lookup f_NoBound_init = some ⟨oc_NoBound_init, od_NoBound_init, .func (PySem.W.fnOf "__init__" "NoBound.__init__" (defArgs s_NoBound_init) (defBody s_NoBound_init) (defScope s_NoBound_init) .none kV_NoBound_init dc_NoBound_init pm_NoBound_init an_NoBound_init cd_NoBound_init ct_NoBound_init), sl_NoBound_init⟩)
    (c_NoBound_init : PySem.W.codeIn K cd_NoBound_init "NoBound.__init__" = true)
    (k_NoBound_init : PySem.W.keepIn K (.ref f_NoBound_init) = true)
    (ga_NoBound : PySem.W.findIn K (.ref C_NoBound) "__getattribute__" = some (some (.builtin "BaseException.__getattribute__")))
    (gg_NoBound : PySem.W.findIn K (.ref C_NoBound) "__getattr__" = some none)
    (h_NoBound : PySem.W.hasDictIn K C_NoBound = true)
    (ic_NoBound : PySem.W.isClsIn K C_NoBound = true)
    (ss_NoBound : PySem.W.subIn K (.ref C_NoBound) (.ref C_NoBound) = some true)
    (a_NoChannel : PySem.W.nsIn K mainGlobals "NoChannel" = some (some (.ref C_NoChannel)))
    (x_NoChannel : K.lookup C_NoChannel = some (excClassObj nm_NoChannel q_NoChannel C_NoChannel N_NoChannel bs_NoChannel bm_NoChannel true sn_NoChannel sub_NoChannel ab_NoChannel col_NoChannel dd_NoChannel m0_NoChannel m1_NoChannel m2_NoChannel m3_NoChannel m5_NoChannel "ValueError.__new__"))
    (r_NoChannel : PySem.HandSPX.refsVE bm_NoChannel = true)
    (s_a_NoChannel : PySem.W.findIn K (.ref C_NoChannel) "__setattr__" = some (some (.builtin "object.__setattr__")))
    (e_NoChannel : PySem.W.subIn K (.ref C_NoChannel) (.type "BaseException") = some true)
    (t_NoChannel : PySem.W.typeIn K (.ref C_NoChannel) = some (.type "type"))
    (kc_NoChannel : PySem.W.keepIn K (.ref C_NoChannel) = true)
    (nf_NoChannel : PySem.W.findIn K (.ref C_NoChannel) "channel" = some none)
    (b_NoChannel_init : PySem.W.findIn K (.ref C_NoChannel) "__init__" = some (some (.ref f_NoChannel_init)))
    (ti_NoChannel_init : PySem.W.typeIn K (.ref f_NoChannel_init) = some (.type "function"))
    (l_NoChannel_init : K.lookup f_NoChannel_init = some ⟨oc_NoChannel_init, od_NoChannel_init, .func (PySem.W.fnOf "__init__" "NoChannel.__init__" (defArgs s_NoChannel_init) (defBody s_NoChannel_init) (defScope s_NoChannel_init) .none kV_NoChannel_init dc_NoChannel_init pm_NoChannel_init an_NoChannel_init cd_NoChannel_init ct_NoChannel_init), sl_NoChannel_init⟩)
    (c_NoChannel_init : PySem.W.codeIn K cd_NoChannel_init "NoChannel.__init__" = true)
    (k_NoChannel_init : PySem.W.keepIn K (.ref f_NoChannel_init) = true)
    (ga_NoChannel : PySem.W.findIn K (.ref C_NoChannel) "__getattribute__" = some (some (.builtin "BaseException.__getattribute__")))
    (gg_NoChannel : PySem.W.findIn K (.ref C_NoChannel) "__getattr__" = some none)
    (h_NoChannel : PySem.W.hasDictIn K C_NoChannel = true)
    (ic_NoChannel : PySem.W.isClsIn K C_NoChannel = true)
    (ss_NoChannel : PySem.W.subIn K (.ref C_NoChannel) (.ref C_NoChannel) = some true)
    (a_HasRing : PySem.W.nsIn K mainGlobals "HasRing" = some (some (.ref C_HasRing)))
    (x_HasRing : K.lookup C_HasRing = some (excClassObj nm_HasRing q_HasRing C_HasRing N_HasRing bs_HasRing bm_HasRing true sn_HasRing sub_HasRing ab_HasRing col_HasRing dd_HasRing m0_HasRing m1_HasRing m2_HasRing m3_HasRing m5_HasRing "ValueError.__new__"))
    (r_HasRing : PySem.HandSPX.refsVE bm_HasRing = true)
    (s_a_HasRing : PySem.W.findIn K (.ref C_HasRing) "__setattr__" = some (some (.builtin "object.__setattr__")))
    (e_HasRing : PySem.W.subIn K (.ref C_HasRing) (.type "BaseException") = some true)
    (t_HasRing : PySem.W.typeIn K (.ref C_HasRing) = some (.type "type"))
    (kc_HasRing : PySem.W.keepIn K (.ref C_HasRing) = true)
    (nf_HasRing : PySem.W.findIn K (.ref C_HasRing) "ring" = some none)
    (b_HasRing_init : PySem.W.findIn K (.ref C_HasRing) "__init__" = some (some (.ref f_HasRing_init)))
    (ti_HasRing_init : PySem.W.typeIn K (.ref f_HasRing_init) = some (.type "function"))
    (l_HasRing_init : K.lookup f_HasRing_init = some ⟨oc_HasRing_init, od_HasRing_init, .func (PySem.W.fnOf "__init__" "HasRing.__init__" (defArgs s_HasRing_init) (defBody s_HasRing_init) (defScope s_HasRing_init) .none kV_HasRing_init dc_HasRing_init pm_HasRing_init an_HasRing_init cd_HasRing_init ct_HasRing_init), sl_HasRing_init⟩)
    (c_HasRing_init : PySem.W.codeIn K cd_HasRing_init "HasRing.__init__" = true)
    (k_HasRing_init : PySem.W.keepIn K (.ref f_HasRing_init) = true)
    (ga_HasRing : PySem.W.findIn K (.ref C_HasRing) "__getattribute__" = some (some (.builtin "BaseException.__getattribute__")))
    (gg_HasRing : PySem.W.findIn K (.ref C_HasRing) "__getattr__" = some none)
    (h_HasRing : PySem.W.hasDictIn K C_HasRing = true)
    (ic_HasRing : PySem.W.isClsIn K C_HasRing = true)
    (ss_HasRing : PySem.W.subIn K (.ref C_HasRing) (.ref C_HasRing) = some true)
    (a_NoSchedule : PySem.W.nsIn K mainGlobals "NoSchedule" = some (some (.ref C_NoSchedule)))
    (x_NoSchedule : K.lookup C_NoSchedule = some (excClassObj nm_NoSchedule q_NoSchedule C_NoSchedule N_NoSchedule bs_NoSchedule bm_NoSchedule true sn_NoSchedule sub_NoSchedule ab_NoSchedule col_NoSchedule dd_NoSchedule m0_NoSchedule m1_NoSchedule m2_NoSchedule m3_NoSchedule m5_NoSchedule "ValueError.__new__"))
    (r_NoSchedule : PySem.HandSPX.refsVE bm_NoSchedule = true)
    (s_a_NoSchedule : PySem.W.findIn K (.ref C_NoSchedule) "__setattr__" = some (some (.builtin "object.__setattr__")))
    (e_NoSchedule : PySem.W.subIn K (.ref C_NoSchedule) (.type "BaseException") = some true)
    (t_NoSchedule : PySem.W.typeIn K (.ref C_NoSchedule) = some (.type "type"))
    (kc_NoSchedule : PySem.W.keepIn K (.ref C_NoSchedule) = true)
    (nf_NoSchedule : PySem.W.findIn K (.ref C_NoSchedule) "index" = some none)
    (b_NoSchedule_init : PySem.W.findIn K (.ref C_NoSchedule) "__init__" = some (some (.ref f_NoSchedule_init)))
    (ti_NoSchedule_init : PySem.W.typeIn K (.ref f_NoSchedule_init) = some (.type "function"))
    (l_NoSchedule_init : K.lookup f_NoSchedule_init = some ⟨oc_NoSchedule_init, od_NoSchedule_init, .func (PySem.W.fnOf "__init__" "NoSchedule.__init__" (defArgs s_NoSchedule_init) (defBody s_NoSchedule_init) (defScope s_NoSchedule_init) .none kV_NoSchedule_init dc_NoSchedule_init pm_NoSchedule_init an_NoSchedule_init cd_NoSchedule_init ct_NoSchedule_init), sl_NoSchedule_init⟩)
    (c_NoSchedule_init : PySem.W.codeIn K cd_NoSchedule_init "NoSchedule.__init__" = true)
    (k_NoSchedule_init : PySem.W.keepIn K (.ref f_NoSchedule_init) = true)
    (ga_NoSchedule : PySem.W.findIn K (.ref C_NoSchedule) "__getattribute__" = some (some (.builtin "BaseException.__getattribute__")))
    (gg_NoSchedule : PySem.W.findIn K (.ref C_NoSchedule) "__getattr__" = some none)
    (h_NoSchedule : PySem.W.hasDictIn K C_NoSchedule = true)
    (ic_NoSchedule : PySem.W.isClsIn K C_NoSchedule = true)
    (ss_NoSchedule : PySem.W.subIn K (.ref C_NoSchedule) (.ref C_NoSchedule) = some true)
    (a_TooMany : PySem.W.nsIn K mainGlobals "TooMany" = some (some (.ref C_TooMany)))
    (x_TooMany : K.lookup C_TooMany = some (excClassObj nm_TooMany q_TooMany C_TooMany N_TooMany bs_TooMany bm_TooMany true sn_TooMany sub_TooMany ab_TooMany col_TooMany dd_TooMany m0_TooMany m1_TooMany m2_TooMany m3_TooMany m5_TooMany "ValueError.__new__"))
    (r_TooMany : PySem.HandSPX.refsVE bm_TooMany = true)
    (s_a_TooMany : PySem.W.findIn K (.ref C_TooMany) "__setattr__" = some (some (.builtin "object.__setattr__")))
    (e_TooMany : PySem.W.subIn K (.ref C_TooMany) (.type "BaseException") = some true)
    (t_TooMany : PySem.W.typeIn K (.ref C_TooMany) = some (.type "type"))
    (kc_TooMany : PySem.W.keepIn K (.ref C_TooMany) = true)
    (nf_TooMany : PySem.W.findIn K (.ref C_TooMany) "most" = some none)
    (b_TooMany_init : PySem.W.findIn K (.ref C_TooMany) "__init__" = some (some (.ref f_TooMany_init)))
    (ti_TooMany_init : PySem.W.typeIn K (.ref f_TooMany_init) = some (.type "function"))
    (l_TooMany_init : K.lookup f_TooMany_init = some ⟨oc_TooMany_init, od_TooMany_init, .func (PySem.W.fnOf "__init__" "TooMany.__init__" (defArgs s_TooMany_init) (defBody s_TooMany_init) (defScope s_TooMany_init) .none kV_TooMany_init dc_TooMany_init pm_TooMany_init an_TooMany_init cd_TooMany_init ct_TooMany_init), sl_TooMany_init⟩)
    (c_TooMany_init : PySem.W.codeIn K cd_TooMany_init "TooMany.__init__" = true)
    (k_TooMany_init : PySem.W.keepIn K (.ref f_TooMany_init) = true)
    (ga_TooMany : PySem.W.findIn K (.ref C_TooMany) "__getattribute__" = some (some (.builtin "BaseException.__getattribute__")))
    (gg_TooMany : PySem.W.findIn K (.ref C_TooMany) "__getattr__" = some none)
    (h_TooMany : PySem.W.hasDictIn K C_TooMany = true)
    (ic_TooMany : PySem.W.isClsIn K C_TooMany = true)
    (ss_TooMany : PySem.W.subIn K (.ref C_TooMany) (.ref C_TooMany) = some true)
    (a_NoClosedSet : PySem.W.nsIn K mainGlobals "NoClosedSet" = some (some (.ref C_NoClosedSet)))
    (x_NoClosedSet : K.lookup C_NoClosedSet = some (excClassObj nm_NoClosedSet q_NoClosedSet C_NoClosedSet N_NoClosedSet bs_NoClosedSet bm_NoClosedSet true sn_NoClosedSet sub_NoClosedSet ab_NoClosedSet col_NoClosedSet dd_NoClosedSet m0_NoClosedSet m1_NoClosedSet m2_NoClosedSet m3_NoClosedSet m5_NoClosedSet "ValueError.__new__"))
    (r_NoClosedSet : PySem.HandSPX.refsVE bm_NoClosedSet = true)
    (s_a_NoClosedSet : PySem.W.findIn K (.ref C_NoClosedSet) "__setattr__" = some (some (.builtin "object.__setattr__")))
    (e_NoClosedSet : PySem.W.subIn K (.ref C_NoClosedSet) (.type "BaseException") = some true)
    (t_NoClosedSet : PySem.W.typeIn K (.ref C_NoClosedSet) = some (.type "type"))
    (kc_NoClosedSet : PySem.W.keepIn K (.ref C_NoClosedSet) = true)
    (nf_NoClosedSet : PySem.W.findIn K (.ref C_NoClosedSet) "index" = some none)
    (b_NoClosedSet_init : PySem.W.findIn K (.ref C_NoClosedSet) "__init__" = some (some (.ref f_NoClosedSet_init)))
    (ti_NoClosedSet_init : PySem.W.typeIn K (.ref f_NoClosedSet_init) = some (.type "function"))
    (l_NoClosedSet_init : K.lookup f_NoClosedSet_init = some ⟨oc_NoClosedSet_init, od_NoClosedSet_init, .func (PySem.W.fnOf "__init__" "NoClosedSet.__init__" (defArgs s_NoClosedSet_init) (defBody s_NoClosedSet_init) (defScope s_NoClosedSet_init) .none kV_NoClosedSet_init dc_NoClosedSet_init pm_NoClosedSet_init an_NoClosedSet_init cd_NoClosedSet_init ct_NoClosedSet_init), sl_NoClosedSet_init⟩)
    (c_NoClosedSet_init : PySem.W.codeIn K cd_NoClosedSet_init "NoClosedSet.__init__" = true)
    (k_NoClosedSet_init : PySem.W.keepIn K (.ref f_NoClosedSet_init) = true)
    (ga_NoClosedSet : PySem.W.findIn K (.ref C_NoClosedSet) "__getattribute__" = some (some (.builtin "BaseException.__getattribute__")))
    (gg_NoClosedSet : PySem.W.findIn K (.ref C_NoClosedSet) "__getattr__" = some none)
    (h_NoClosedSet : PySem.W.hasDictIn K C_NoClosedSet = true)
    (ic_NoClosedSet : PySem.W.isClsIn K C_NoClosedSet = true)
    (ss_NoClosedSet : PySem.W.subIn K (.ref C_NoClosedSet) (.ref C_NoClosedSet) = some true)
    (a_NoLink : PySem.W.nsIn K mainGlobals "NoLink" = some (some (.ref C_NoLink)))
    (x_NoLink : K.lookup C_NoLink = some (excClassObj nm_NoLink q_NoLink C_NoLink N_NoLink bs_NoLink bm_NoLink true sn_NoLink sub_NoLink ab_NoLink col_NoLink dd_NoLink m0_NoLink m1_NoLink m2_NoLink m3_NoLink m5_NoLink "ValueError.__new__"))
    (r_NoLink : PySem.HandSPX.refsVE bm_NoLink = true)
    (s_a_NoLink : PySem.W.findIn K (.ref C_NoLink) "__setattr__" = some (some (.builtin "object.__setattr__")))
    (e_NoLink : PySem.W.subIn K (.ref C_NoLink) (.type "BaseException") = some true)
    (t_NoLink : PySem.W.typeIn K (.ref C_NoLink) = some (.type "type"))
    (kc_NoLink : PySem.W.keepIn K (.ref C_NoLink) = true)
    (nf_NoLink : PySem.W.findIn K (.ref C_NoLink) "link" = some none)
    (b_NoLink_init : PySem.W.findIn K (.ref C_NoLink) "__init__" = some (some (.ref f_NoLink_init)))
    (ti_NoLink_init : PySem.W.typeIn K (.ref f_NoLink_init) = some (.type "function"))
    (l_NoLink_init : K.lookup f_NoLink_init = some ⟨oc_NoLink_init, od_NoLink_init, .func (PySem.W.fnOf "__init__" "NoLink.__init__" (defArgs s_NoLink_init) (defBody s_NoLink_init) (defScope s_NoLink_init) .none kV_NoLink_init dc_NoLink_init pm_NoLink_init an_NoLink_init cd_NoLink_init ct_NoLink_init), sl_NoLink_init⟩)
    (c_NoLink_init : PySem.W.codeIn K cd_NoLink_init "NoLink.__init__" = true)
    (k_NoLink_init : PySem.W.keepIn K (.ref f_NoLink_init) = true)
    (ga_NoLink : PySem.W.findIn K (.ref C_NoLink) "__getattribute__" = some (some (.builtin "BaseException.__getattribute__")))
    (gg_NoLink : PySem.W.findIn K (.ref C_NoLink) "__getattr__" = some none)
    (h_NoLink : PySem.W.hasDictIn K C_NoLink = true)
    (ic_NoLink : PySem.W.isClsIn K C_NoLink = true)
    (ss_NoLink : PySem.W.subIn K (.ref C_NoLink) (.ref C_NoLink) = some true)
    (a_NoNames : PySem.W.nsIn K mainGlobals "NoNames" = some (some (.ref C_NoNames)))
    (x_NoNames : K.lookup C_NoNames = some (excClassObj nm_NoNames q_NoNames C_NoNames N_NoNames bs_NoNames bm_NoNames true sn_NoNames sub_NoNames ab_NoNames col_NoNames dd_NoNames m0_NoNames m1_NoNames m2_NoNames m3_NoNames m5_NoNames "ValueError.__new__"))
    (r_NoNames : PySem.HandSPX.refsVE bm_NoNames = true)
    (s_a_NoNames : PySem.W.findIn K (.ref C_NoNames) "__setattr__" = some (some (.builtin "object.__setattr__")))
    (e_NoNames : PySem.W.subIn K (.ref C_NoNames) (.type "BaseException") = some true)
    (t_NoNames : PySem.W.typeIn K (.ref C_NoNames) = some (.type "type"))
    (kc_NoNames : PySem.W.keepIn K (.ref C_NoNames) = true)
    (nf_NoNames : PySem.W.findIn K (.ref C_NoNames) "index" = some none)
    (b_NoNames_init : PySem.W.findIn K (.ref C_NoNames) "__init__" = some (some (.ref f_NoNames_init)))
    (ti_NoNames_init : PySem.W.typeIn K (.ref f_NoNames_init) = some (.type "function"))
    (l_NoNames_init : K.lookup f_NoNames_init = some ⟨oc_NoNames_init, od_NoNames_init, .func (PySem.W.fnOf "__init__" "NoNames.__init__" (defArgs s_NoNames_init) (defBody s_NoNames_init) (defScope s_NoNames_init) .none kV_NoNames_init dc_NoNames_init pm_NoNames_init an_NoNames_init cd_NoNames_init ct_NoNames_init), sl_NoNames_init⟩)
    (c_NoNames_init : PySem.W.codeIn K cd_NoNames_init "NoNames.__init__" = true)
    (k_NoNames_init : PySem.W.keepIn K (.ref f_NoNames_init) = true)
    (ga_NoNames : PySem.W.findIn K (.ref C_NoNames) "__getattribute__" = some (some (.builtin "BaseException.__getattribute__")))
    (gg_NoNames : PySem.W.findIn K (.ref C_NoNames) "__getattr__" = some none)
    (h_NoNames : PySem.W.hasDictIn K C_NoNames = true)
    (ic_NoNames : PySem.W.isClsIn K C_NoNames = true)
    (ss_NoNames : PySem.W.subIn K (.ref C_NoNames) (.ref C_NoNames) = some true)
    (hnG : PySem.W.specialIn K (.builtin "object.__class__") "__get__" = some (some (.builtin "getset_descriptor.__get__")))
    (htG : PySem.W.takesIn K (.builtin "object.__class__") = some true)
    (kvG : PySem.W.kitOne K (.type "ValueError") (.ref B) = some false)
    (hc_NoNetwork : PySem.W.findIn K (.ref C_NoNetwork) "__class__" = some (some (.builtin "object.__class__")))
    (hm_NoNetwork : PySem.W.mroIn K C_NoNetwork (.type "object") = some true)
    (kb_NoNetwork : PySem.W.kitOne K (.ref C_NoNetwork) (.ref B) = some true)
    (kw_NoNetwork : PySem.W.kitOne K (.ref C_NoNetwork) (.type "ValueError") = some true)
    (kk_NoNetwork_NoNetwork : PySem.W.kitOne K (.ref C_NoNetwork) (.ref C_NoNetwork) = some true)
    (kk_NoNetwork_NoStation : PySem.W.kitOne K (.ref C_NoNetwork) (.ref C_NoStation) = some false)
    (kk_NoNetwork_NoState : PySem.W.kitOne K (.ref C_NoNetwork) (.ref C_NoState) = some false)
    (kk_NoNetwork_NoSteps : PySem.W.kitOne K (.ref C_NoNetwork) (.ref C_NoSteps) = some false)
    (kk_NoNetwork_NoBound : PySem.W.kitOne K (.ref C_NoNetwork) (.ref C_NoBound) = some false)
    (kk_NoNetwork_NoChannel : PySem.W.kitOne K (.ref C_NoNetwork) (.ref C_NoChannel) = some false)
    (kk_NoNetwork_HasRing : PySem.W.kitOne K (.ref C_NoNetwork) (.ref C_HasRing) = some false)
    (kk_NoNetwork_NoSchedule : PySem.W.kitOne K (.ref C_NoNetwork) (.ref C_NoSchedule) = some false)
    (kk_NoNetwork_TooMany : PySem.W.kitOne K (.ref C_NoNetwork) (.ref C_TooMany) = some false)
    (kk_NoNetwork_NoClosedSet : PySem.W.kitOne K (.ref C_NoNetwork) (.ref C_NoClosedSet) = some false)
    (kk_NoNetwork_NoLink : PySem.W.kitOne K (.ref C_NoNetwork) (.ref C_NoLink) = some false)
    (kk_NoNetwork_NoNames : PySem.W.kitOne K (.ref C_NoNetwork) (.ref C_NoNames) = some false)
    (hc_NoStation : PySem.W.findIn K (.ref C_NoStation) "__class__" = some (some (.builtin "object.__class__")))
    (hm_NoStation : PySem.W.mroIn K C_NoStation (.type "object") = some true)
    (kb_NoStation : PySem.W.kitOne K (.ref C_NoStation) (.ref B) = some true)
    (kw_NoStation : PySem.W.kitOne K (.ref C_NoStation) (.type "ValueError") = some true)
    (kk_NoStation_NoNetwork : PySem.W.kitOne K (.ref C_NoStation) (.ref C_NoNetwork) = some false)
    (kk_NoStation_NoStation : PySem.W.kitOne K (.ref C_NoStation) (.ref C_NoStation) = some true)
    (kk_NoStation_NoState : PySem.W.kitOne K (.ref C_NoStation) (.ref C_NoState) = some false)
    (kk_NoStation_NoSteps : PySem.W.kitOne K (.ref C_NoStation) (.ref C_NoSteps) = some false)
    (kk_NoStation_NoBound : PySem.W.kitOne K (.ref C_NoStation) (.ref C_NoBound) = some false)
    (kk_NoStation_NoChannel : PySem.W.kitOne K (.ref C_NoStation) (.ref C_NoChannel) = some false)
    (kk_NoStation_HasRing : PySem.W.kitOne K (.ref C_NoStation) (.ref C_HasRing) = some false)
    (kk_NoStation_NoSchedule : PySem.W.kitOne K (.ref C_NoStation) (.ref C_NoSchedule) = some false)
    (kk_NoStation_TooMany : PySem.W.kitOne K (.ref C_NoStation) (.ref C_TooMany) = some false)
    (kk_NoStation_NoClosedSet : PySem.W.kitOne K (.ref C_NoStation) (.ref C_NoClosedSet) = some false)
    (kk_NoStation_NoLink : PySem.W.kitOne K (.ref C_NoStation) (.ref C_NoLink) = some false)
    (kk_NoStation_NoNames : PySem.W.kitOne K (.ref C_NoStation) (.ref C_NoNames) = some false)
    (hc_NoState : PySem.W.findIn K (.ref C_NoState) "__class__" = some (some (.builtin "object.__class__")))
    (hm_NoState : PySem.W.mroIn K C_NoState (.type "object") = some true)
    (kb_NoState : PySem.W.kitOne K (.ref C_NoState) (.ref B) = some true)
    (kw_NoState : PySem.W.kitOne K (.ref C_NoState) (.type "ValueError") = some true)
    (kk_NoState_NoNetwork : PySem.W.kitOne K (.ref C_NoState) (.ref C_NoNetwork) = some false)
    (kk_NoState_NoStation : PySem.W.kitOne K (.ref C_NoState) (.ref C_NoStation) = some false)
    (kk_NoState_NoState : PySem.W.kitOne K (.ref C_NoState) (.ref C_NoState) = some true)
    (kk_NoState_NoSteps : PySem.W.kitOne K (.ref C_NoState) (.ref C_NoSteps) = some false)
    (kk_NoState_NoBound : PySem.W.kitOne K (.ref C_NoState) (.ref C_NoBound) = some false)
    (kk_NoState_NoChannel : PySem.W.kitOne K (.ref C_NoState) (.ref C_NoChannel) = some false)
    (kk_NoState_HasRing : PySem.W.kitOne K (.ref C_NoState) (.ref C_HasRing) = some false)
    (kk_NoState_NoSchedule : PySem.W.kitOne K (.ref C_NoState) (.ref C_NoSchedule) = some false)
    (kk_NoState_TooMany : PySem.W.kitOne K (.ref C_NoState) (.ref C_TooMany) = some false)
    (kk_NoState_NoClosedSet : PySem.W.kitOne K (.ref C_NoState) (.ref C_NoClosedSet) = some false)
    (kk_NoState_NoLink : PySem.W.kitOne K (.ref C_NoState) (.ref C_NoLink) = some false)
    (kk_NoState_NoNames : PySem.W.kitOne K (.ref C_NoState) (.ref C_NoNames) = some false)
    (hc_NoSteps : PySem.W.findIn K (.ref C_NoSteps) "__class__" = some (some (.builtin "object.__class__")))
    (hm_NoSteps : PySem.W.mroIn K C_NoSteps (.type "object") = some true)
    (kb_NoSteps : PySem.W.kitOne K (.ref C_NoSteps) (.ref B) = some true)
    (kw_NoSteps : PySem.W.kitOne K (.ref C_NoSteps) (.type "ValueError") = some true)
    (kk_NoSteps_NoNetwork : PySem.W.kitOne K (.ref C_NoSteps) (.ref C_NoNetwork) = some false)
    (kk_NoSteps_NoStation : PySem.W.kitOne K (.ref C_NoSteps) (.ref C_NoStation) = some false)
    (kk_NoSteps_NoState : PySem.W.kitOne K (.ref C_NoSteps) (.ref C_NoState) = some false)
    (kk_NoSteps_NoSteps : PySem.W.kitOne K (.ref C_NoSteps) (.ref C_NoSteps) = some true)
    (kk_NoSteps_NoBound : PySem.W.kitOne K (.ref C_NoSteps) (.ref C_NoBound) = some false)
    (kk_NoSteps_NoChannel : PySem.W.kitOne K (.ref C_NoSteps) (.ref C_NoChannel) = some false)
    (kk_NoSteps_HasRing : PySem.W.kitOne K (.ref C_NoSteps) (.ref C_HasRing) = some false)
    (kk_NoSteps_NoSchedule : PySem.W.kitOne K (.ref C_NoSteps) (.ref C_NoSchedule) = some false)
    (kk_NoSteps_TooMany : PySem.W.kitOne K (.ref C_NoSteps) (.ref C_TooMany) = some false)
    (kk_NoSteps_NoClosedSet : PySem.W.kitOne K (.ref C_NoSteps) (.ref C_NoClosedSet) = some false)
    (kk_NoSteps_NoLink : PySem.W.kitOne K (.ref C_NoSteps) (.ref C_NoLink) = some false)
    (kk_NoSteps_NoNames : PySem.W.kitOne K (.ref C_NoSteps) (.ref C_NoNames) = some false)
    (hc_NoBound : PySem.W.findIn K (.ref C_NoBound) "__class__" = some (some (.builtin "object.__class__")))
    (hm_NoBound : PySem.W.mroIn K C_NoBound (.type "object") = some true)
    (kb_NoBound : PySem.W.kitOne K (.ref C_NoBound) (.ref B) = some true)
    (kw_NoBound : PySem.W.kitOne K (.ref C_NoBound) (.type "ValueError") = some true)
    (kk_NoBound_NoNetwork : PySem.W.kitOne K (.ref C_NoBound) (.ref C_NoNetwork) = some false)
    (kk_NoBound_NoStation : PySem.W.kitOne K (.ref C_NoBound) (.ref C_NoStation) = some false)
    (kk_NoBound_NoState : PySem.W.kitOne K (.ref C_NoBound) (.ref C_NoState) = some false)
    (kk_NoBound_NoSteps : PySem.W.kitOne K (.ref C_NoBound) (.ref C_NoSteps) = some false)
    (kk_NoBound_NoBound : PySem.W.kitOne K (.ref C_NoBound) (.ref C_NoBound) = some true)
    (kk_NoBound_NoChannel : PySem.W.kitOne K (.ref C_NoBound) (.ref C_NoChannel) = some false)
    (kk_NoBound_HasRing : PySem.W.kitOne K (.ref C_NoBound) (.ref C_HasRing) = some false)
    (kk_NoBound_NoSchedule : PySem.W.kitOne K (.ref C_NoBound) (.ref C_NoSchedule) = some false)
    (kk_NoBound_TooMany : PySem.W.kitOne K (.ref C_NoBound) (.ref C_TooMany) = some false)
    (kk_NoBound_NoClosedSet : PySem.W.kitOne K (.ref C_NoBound) (.ref C_NoClosedSet) = some false)
    (kk_NoBound_NoLink : PySem.W.kitOne K (.ref C_NoBound) (.ref C_NoLink) = some false)
    (kk_NoBound_NoNames : PySem.W.kitOne K (.ref C_NoBound) (.ref C_NoNames) = some false)
    (hc_NoChannel : PySem.W.findIn K (.ref C_NoChannel) "__class__" = some (some (.builtin "object.__class__")))
    (hm_NoChannel : PySem.W.mroIn K C_NoChannel (.type "object") = some true)
    (kb_NoChannel : PySem.W.kitOne K (.ref C_NoChannel) (.ref B) = some true)
    (kw_NoChannel : PySem.W.kitOne K (.ref C_NoChannel) (.type "ValueError") = some true)
    (kk_NoChannel_NoNetwork : PySem.W.kitOne K (.ref C_NoChannel) (.ref C_NoNetwork) = some false)
    (kk_NoChannel_NoStation : PySem.W.kitOne K (.ref C_NoChannel) (.ref C_NoStation) = some false)
    (kk_NoChannel_NoState : PySem.W.kitOne K (.ref C_NoChannel) (.ref C_NoState) = some false)
    (kk_NoChannel_NoSteps : PySem.W.kitOne K (.ref C_NoChannel) (.ref C_NoSteps) = some false)
    (kk_NoChannel_NoBound : PySem.W.kitOne K (.ref C_NoChannel) (.ref C_NoBound) = some false)
    (kk_NoChannel_NoChannel : PySem.W.kitOne K (.ref C_NoChannel) (.ref C_NoChannel) = some true)
    (kk_NoChannel_HasRing : PySem.W.kitOne K (.ref C_NoChannel) (.ref C_HasRing) = some false)
    (kk_NoChannel_NoSchedule : PySem.W.kitOne K (.ref C_NoChannel) (.ref C_NoSchedule) = some false)
    (kk_NoChannel_TooMany : PySem.W.kitOne K (.ref C_NoChannel) (.ref C_TooMany) = some false)
    (kk_NoChannel_NoClosedSet : PySem.W.kitOne K (.ref C_NoChannel) (.ref C_NoClosedSet) = some false)
    (kk_NoChannel_NoLink : PySem.W.kitOne K (.ref C_NoChannel) (.ref C_NoLink) = some false)
    (kk_NoChannel_NoNames : PySem.W.kitOne K (.ref C_NoChannel) (.ref C_NoNames) = some false)
    (hc_HasRing : PySem.W.findIn K (.ref C_HasRing) "__class__" = some (some (.builtin "object.__class__")))
    (hm_HasRing : PySem.W.mroIn K C_HasRing (.type "object") = some true)
    (kb_HasRing : PySem.W.kitOne K (.ref C_HasRing) (.ref B) = some true)
    (kw_HasRing : PySem.W.kitOne K (.ref C_HasRing) (.type "ValueError") = some true)
    (kk_HasRing_NoNetwork : PySem.W.kitOne K (.ref C_HasRing) (.ref C_NoNetwork) = some false)
    (kk_HasRing_NoStation : PySem.W.kitOne K (.ref C_HasRing) (.ref C_NoStation) = some false)
    (kk_HasRing_NoState : PySem.W.kitOne K (.ref C_HasRing) (.ref C_NoState) = some false)
    (kk_HasRing_NoSteps : PySem.W.kitOne K (.ref C_HasRing) (.ref C_NoSteps) = some false)
    (kk_HasRing_NoBound : PySem.W.kitOne K (.ref C_HasRing) (.ref C_NoBound) = some false)
    (kk_HasRing_NoChannel : PySem.W.kitOne K (.ref C_HasRing) (.ref C_NoChannel) = some false)
    (kk_HasRing_HasRing : PySem.W.kitOne K (.ref C_HasRing) (.ref C_HasRing) = some true)
    (kk_HasRing_NoSchedule : PySem.W.kitOne K (.ref C_HasRing) (.ref C_NoSchedule) = some false)
    (kk_HasRing_TooMany : PySem.W.kitOne K (.ref C_HasRing) (.ref C_TooMany) = some false)
    (kk_HasRing_NoClosedSet : PySem.W.kitOne K (.ref C_HasRing) (.ref C_NoClosedSet) = some false)
    (kk_HasRing_NoLink : PySem.W.kitOne K (.ref C_HasRing) (.ref C_NoLink) = some false)
    (kk_HasRing_NoNames : PySem.W.kitOne K (.ref C_HasRing) (.ref C_NoNames) = some false)
    (hc_NoSchedule : PySem.W.findIn K (.ref C_NoSchedule) "__class__" = some (some (.builtin "object.__class__")))
    (hm_NoSchedule : PySem.W.mroIn K C_NoSchedule (.type "object") = some true)
    (kb_NoSchedule : PySem.W.kitOne K (.ref C_NoSchedule) (.ref B) = some true)
    (kw_NoSchedule : PySem.W.kitOne K (.ref C_NoSchedule) (.type "ValueError") = some true)
    (kk_NoSchedule_NoNetwork : PySem.W.kitOne K (.ref C_NoSchedule) (.ref C_NoNetwork) = some false)
    (kk_NoSchedule_NoStation : PySem.W.kitOne K (.ref C_NoSchedule) (.ref C_NoStation) = some false)
    (kk_NoSchedule_NoState : PySem.W.kitOne K (.ref C_NoSchedule) (.ref C_NoState) = some false)
    (kk_NoSchedule_NoSteps : PySem.W.kitOne K (.ref C_NoSchedule) (.ref C_NoSteps) = some false)
    (kk_NoSchedule_NoBound : PySem.W.kitOne K (.ref C_NoSchedule) (.ref C_NoBound) = some false)
    (kk_NoSchedule_NoChannel : PySem.W.kitOne K (.ref C_NoSchedule) (.ref C_NoChannel) = some false)
    (kk_NoSchedule_HasRing : PySem.W.kitOne K (.ref C_NoSchedule) (.ref C_HasRing) = some false)
    (kk_NoSchedule_NoSchedule : PySem.W.kitOne K (.ref C_NoSchedule) (.ref C_NoSchedule) = some true)
    (kk_NoSchedule_TooMany : PySem.W.kitOne K (.ref C_NoSchedule) (.ref C_TooMany) = some false)
    (kk_NoSchedule_NoClosedSet : PySem.W.kitOne K (.ref C_NoSchedule) (.ref C_NoClosedSet) = some false)
    (kk_NoSchedule_NoLink : PySem.W.kitOne K (.ref C_NoSchedule) (.ref C_NoLink) = some false)
    (kk_NoSchedule_NoNames : PySem.W.kitOne K (.ref C_NoSchedule) (.ref C_NoNames) = some false)
    (hc_TooMany : PySem.W.findIn K (.ref C_TooMany) "__class__" = some (some (.builtin "object.__class__")))
    (hm_TooMany : PySem.W.mroIn K C_TooMany (.type "object") = some true)
    (kb_TooMany : PySem.W.kitOne K (.ref C_TooMany) (.ref B) = some true)
    (kw_TooMany : PySem.W.kitOne K (.ref C_TooMany) (.type "ValueError") = some true)
    (kk_TooMany_NoNetwork : PySem.W.kitOne K (.ref C_TooMany) (.ref C_NoNetwork) = some false)
    (kk_TooMany_NoStation : PySem.W.kitOne K (.ref C_TooMany) (.ref C_NoStation) = some false)
    (kk_TooMany_NoState : PySem.W.kitOne K (.ref C_TooMany) (.ref C_NoState) = some false)
    (kk_TooMany_NoSteps : PySem.W.kitOne K (.ref C_TooMany) (.ref C_NoSteps) = some false)
    (kk_TooMany_NoBound : PySem.W.kitOne K (.ref C_TooMany) (.ref C_NoBound) = some false)
    (kk_TooMany_NoChannel : PySem.W.kitOne K (.ref C_TooMany) (.ref C_NoChannel) = some false)
    (kk_TooMany_HasRing : PySem.W.kitOne K (.ref C_TooMany) (.ref C_HasRing) = some false)
    (kk_TooMany_NoSchedule : PySem.W.kitOne K (.ref C_TooMany) (.ref C_NoSchedule) = some false)
    (kk_TooMany_TooMany : PySem.W.kitOne K (.ref C_TooMany) (.ref C_TooMany) = some true)
    (kk_TooMany_NoClosedSet : PySem.W.kitOne K (.ref C_TooMany) (.ref C_NoClosedSet) = some false)
    (kk_TooMany_NoLink : PySem.W.kitOne K (.ref C_TooMany) (.ref C_NoLink) = some false)
    (kk_TooMany_NoNames : PySem.W.kitOne K (.ref C_TooMany) (.ref C_NoNames) = some false)
    (hc_NoClosedSet : PySem.W.findIn K (.ref C_NoClosedSet) "__class__" = some (some (.builtin "object.__class__")))
    (hm_NoClosedSet : PySem.W.mroIn K C_NoClosedSet (.type "object") = some true)
    (kb_NoClosedSet : PySem.W.kitOne K (.ref C_NoClosedSet) (.ref B) = some true)
    (kw_NoClosedSet : PySem.W.kitOne K (.ref C_NoClosedSet) (.type "ValueError") = some true)
    (kk_NoClosedSet_NoNetwork : PySem.W.kitOne K (.ref C_NoClosedSet) (.ref C_NoNetwork) = some false)
    (kk_NoClosedSet_NoStation : PySem.W.kitOne K (.ref C_NoClosedSet) (.ref C_NoStation) = some false)
    (kk_NoClosedSet_NoState : PySem.W.kitOne K (.ref C_NoClosedSet) (.ref C_NoState) = some false)
    (kk_NoClosedSet_NoSteps : PySem.W.kitOne K (.ref C_NoClosedSet) (.ref C_NoSteps) = some false)
    (kk_NoClosedSet_NoBound : PySem.W.kitOne K (.ref C_NoClosedSet) (.ref C_NoBound) = some false)
    (kk_NoClosedSet_NoChannel : PySem.W.kitOne K (.ref C_NoClosedSet) (.ref C_NoChannel) = some false)
    (kk_NoClosedSet_HasRing : PySem.W.kitOne K (.ref C_NoClosedSet) (.ref C_HasRing) = some false)
    (kk_NoClosedSet_NoSchedule : PySem.W.kitOne K (.ref C_NoClosedSet) (.ref C_NoSchedule) = some false)
    (kk_NoClosedSet_TooMany : PySem.W.kitOne K (.ref C_NoClosedSet) (.ref C_TooMany) = some false)
    (kk_NoClosedSet_NoClosedSet : PySem.W.kitOne K (.ref C_NoClosedSet) (.ref C_NoClosedSet) = some true)
    (kk_NoClosedSet_NoLink : PySem.W.kitOne K (.ref C_NoClosedSet) (.ref C_NoLink) = some false)
    (kk_NoClosedSet_NoNames : PySem.W.kitOne K (.ref C_NoClosedSet) (.ref C_NoNames) = some false)
    (hc_NoLink : PySem.W.findIn K (.ref C_NoLink) "__class__" = some (some (.builtin "object.__class__")))
    (hm_NoLink : PySem.W.mroIn K C_NoLink (.type "object") = some true)
    (kb_NoLink : PySem.W.kitOne K (.ref C_NoLink) (.ref B) = some true)
    (kw_NoLink : PySem.W.kitOne K (.ref C_NoLink) (.type "ValueError") = some true)
    (kk_NoLink_NoNetwork : PySem.W.kitOne K (.ref C_NoLink) (.ref C_NoNetwork) = some false)
    (kk_NoLink_NoStation : PySem.W.kitOne K (.ref C_NoLink) (.ref C_NoStation) = some false)
    (kk_NoLink_NoState : PySem.W.kitOne K (.ref C_NoLink) (.ref C_NoState) = some false)
    (kk_NoLink_NoSteps : PySem.W.kitOne K (.ref C_NoLink) (.ref C_NoSteps) = some false)
    (kk_NoLink_NoBound : PySem.W.kitOne K (.ref C_NoLink) (.ref C_NoBound) = some false)
    (kk_NoLink_NoChannel : PySem.W.kitOne K (.ref C_NoLink) (.ref C_NoChannel) = some false)
    (kk_NoLink_HasRing : PySem.W.kitOne K (.ref C_NoLink) (.ref C_HasRing) = some false)
    (kk_NoLink_NoSchedule : PySem.W.kitOne K (.ref C_NoLink) (.ref C_NoSchedule) = some false)
    (kk_NoLink_TooMany : PySem.W.kitOne K (.ref C_NoLink) (.ref C_TooMany) = some false)
    (kk_NoLink_NoClosedSet : PySem.W.kitOne K (.ref C_NoLink) (.ref C_NoClosedSet) = some false)
    (kk_NoLink_NoLink : PySem.W.kitOne K (.ref C_NoLink) (.ref C_NoLink) = some true)
    (kk_NoLink_NoNames : PySem.W.kitOne K (.ref C_NoLink) (.ref C_NoNames) = some false)
    (hc_NoNames : PySem.W.findIn K (.ref C_NoNames) "__class__" = some (some (.builtin "object.__class__")))
    (hm_NoNames : PySem.W.mroIn K C_NoNames (.type "object") = some true)
    (kb_NoNames : PySem.W.kitOne K (.ref C_NoNames) (.ref B) = some true)
    (kw_NoNames : PySem.W.kitOne K (.ref C_NoNames) (.type "ValueError") = some true)
    (kk_NoNames_NoNetwork : PySem.W.kitOne K (.ref C_NoNames) (.ref C_NoNetwork) = some false)
    (kk_NoNames_NoStation : PySem.W.kitOne K (.ref C_NoNames) (.ref C_NoStation) = some false)
    (kk_NoNames_NoState : PySem.W.kitOne K (.ref C_NoNames) (.ref C_NoState) = some false)
    (kk_NoNames_NoSteps : PySem.W.kitOne K (.ref C_NoNames) (.ref C_NoSteps) = some false)
    (kk_NoNames_NoBound : PySem.W.kitOne K (.ref C_NoNames) (.ref C_NoBound) = some false)
    (kk_NoNames_NoChannel : PySem.W.kitOne K (.ref C_NoNames) (.ref C_NoChannel) = some false)
    (kk_NoNames_HasRing : PySem.W.kitOne K (.ref C_NoNames) (.ref C_HasRing) = some false)
    (kk_NoNames_NoSchedule : PySem.W.kitOne K (.ref C_NoNames) (.ref C_NoSchedule) = some false)
    (kk_NoNames_TooMany : PySem.W.kitOne K (.ref C_NoNames) (.ref C_TooMany) = some false)
    (kk_NoNames_NoClosedSet : PySem.W.kitOne K (.ref C_NoNames) (.ref C_NoClosedSet) = some false)
    (kk_NoNames_NoLink : PySem.W.kitOne K (.ref C_NoNames) (.ref C_NoLink) = some false)
    (kk_NoNames_NoNames : PySem.W.kitOne K (.ref C_NoNames) (.ref C_NoNames) = some true)
    (a_law_draw : PySem.W.nsIn K mainGlobals "_law_draw" = some (some (.ref f_law_draw)))
    (l_law_draw : K.lookup f_law_draw = some ⟨oc_law_draw, od_law_draw, .func (PySem.W.fnOf "_law_draw" "_law_draw" (defArgs s_law_draw) (defBody s_law_draw) (defScope s_law_draw) .none kV_law_draw dc_law_draw pm_law_draw an_law_draw cd_law_draw ct_law_draw), sl_law_draw⟩)
    (c_law_draw : PySem.W.codeIn K cd_law_draw "_law_draw" = true)
    (k_law_draw : PySem.W.keepIn K (.ref f_law_draw) = true)
    (a_law_taken : PySem.W.nsIn K mainGlobals "_law_taken" = some (some (.ref f_law_taken)))
    (l_law_taken : K.lookup f_law_taken = some ⟨oc_law_taken, od_law_taken, .func (PySem.W.fnOf "_law_taken" "_law_taken" (defArgs s_law_taken) (defBody s_law_taken) (defScope s_law_taken) .none kV_law_taken dc_law_taken pm_law_taken an_law_taken cd_law_taken ct_law_taken), sl_law_taken⟩)
    (c_law_taken : PySem.W.codeIn K cd_law_taken "_law_taken" = true)
    (k_law_taken : PySem.W.keepIn K (.ref f_law_taken) = true)
    (a_law_by_place : PySem.W.nsIn K mainGlobals "_law_by_place" = some (some (.ref f_law_by_place)))
    (l_law_by_place : K.lookup f_law_by_place = some ⟨oc_law_by_place, od_law_by_place, .func (PySem.W.fnOf "_law_by_place" "_law_by_place" (defArgs s_law_by_place) (defBody s_law_by_place) (defScope s_law_by_place) .none kV_law_by_place dc_law_by_place pm_law_by_place an_law_by_place cd_law_by_place ct_law_by_place), sl_law_by_place⟩)
    (c_law_by_place : PySem.W.codeIn K cd_law_by_place "_law_by_place" = true)
    (k_law_by_place : PySem.W.keepIn K (.ref f_law_by_place) = true)
    (a_law_by_name : PySem.W.nsIn K mainGlobals "_law_by_name" = some (some (.ref f_law_by_name)))
    (l_law_by_name : K.lookup f_law_by_name = some ⟨oc_law_by_name, od_law_by_name, .func (PySem.W.fnOf "_law_by_name" "_law_by_name" (defArgs s_law_by_name) (defBody s_law_by_name) (defScope s_law_by_name) .none kV_law_by_name dc_law_by_name pm_law_by_name an_law_by_name cd_law_by_name ct_law_by_name), sl_law_by_name⟩)
    (c_law_by_name : PySem.W.codeIn K cd_law_by_name "_law_by_name" = true)
    (k_law_by_name : PySem.W.keepIn K (.ref f_law_by_name) = true)
    (a_law_fields : PySem.W.nsIn K mainGlobals "_law_fields" = some (some (.ref f_law_fields)))
    (l_law_fields : K.lookup f_law_fields = some ⟨oc_law_fields, od_law_fields, .func (PySem.W.fnOf "_law_fields" "_law_fields" (defArgs s_law_fields) (defBody s_law_fields) (defScope s_law_fields) .none kV_law_fields dc_law_fields pm_law_fields an_law_fields cd_law_fields ct_law_fields), sl_law_fields⟩)
    (c_law_fields : PySem.W.codeIn K cd_law_fields "_law_fields" = true)
    (k_law_fields : PySem.W.keepIn K (.ref f_law_fields) = true)
    (a_law_right : PySem.W.nsIn K mainGlobals "_law_right" = some (some (.ref f_law_right)))
    (l_law_right : K.lookup f_law_right = some ⟨oc_law_right, od_law_right, .func (PySem.W.fnOf "_law_right" "_law_right" (defArgs s_law_right) (defBody s_law_right) (defScope s_law_right) .none kV_law_right dc_law_right pm_law_right an_law_right cd_law_right ct_law_right), sl_law_right⟩)
    (c_law_right : PySem.W.codeIn K cd_law_right "_law_right" = true)
    (k_law_right : PySem.W.keepIn K (.ref f_law_right) = true)
    (a_law : PySem.W.nsIn K mainGlobals "law" = some (some (.ref f_law)))
    (l_law : K.lookup f_law = some ⟨oc_law, od_law, .func (PySem.W.fnOf "law" "law" (defArgs s_law) (defBody s_law) (defScope s_law) .none kV_law dc_law pm_law an_law cd_law ct_law), sl_law⟩)
    (c_law : PySem.W.codeIn K cd_law "law" = true)
    (k_law : PySem.W.keepIn K (.ref f_law) = true)
    (z1 : PySem.W.nsIn K mainGlobals "len" = some none)
    (z2 : PySem.W.nsIn K mainGlobals "range" = some none)
    (z3 : PySem.W.nsIn K mainGlobals "sorted" = some none)
    (z4 : PySem.W.nsIn K mainGlobals "enumerate" = some none)
    (z5 : PySem.W.nsIn K mainGlobals "isinstance" = some none)
    (z6 : PySem.W.nsIn K mainGlobals "int" = some none)
    (z7 : PySem.W.nsIn K mainGlobals "bool" = some none)
    (z8 : PySem.W.nsIn K mainGlobals "tuple" = some none)
    (z9 : PySem.W.nsIn K mainGlobals "list" = some none)
    (z10 : PySem.W.nsIn K mainGlobals "str" = some none)
    (z11 : PySem.W.nsIn K mainGlobals "all" = some none)
    (z12 : PySem.W.nsIn K mainGlobals "min" = some none)
    (z13 : PySem.W.nsIn K mainGlobals "max" = some none)
    (z14 : PySem.W.nsIn K mainGlobals "repr" = some none)
    (z15 : PySem.W.nsIn K mainGlobals "zip" = some none)
    (z16 : PySem.W.nsIn K mainGlobals "set" = some none)
    (z17 : PySem.W.nsIn K mainGlobals "ValueError" = some none) :
    LawG l w K CX0 7 63 "_law_script" mg fa h := by
  have efa := hfa.symm.trans (PySem.W.mg_of X G a_law)
  cases efa
  have ce : CeB K mg B := ⟨PySem.W.mg_of X G a_B, gaB, rdB, vIB⟩
  have E_NoNetwork : ExcAt K mg "NoNetwork" C_NoNetwork "index" "NoNetwork.__init__" s_NoNetwork_init := ⟨⟨_, _, fun_mk (st := s_NoNetwork_init) l_NoNetwork_init c_NoNetwork_init k_NoNetwork_init, PySem.W.mg_of X G a_NoNetwork, b_NoNetwork_init, ti_NoNetwork_init⟩, ⟨⟨nm_NoNetwork, q_NoNetwork, N_NoNetwork, bs_NoNetwork, bm_NoNetwork, sn_NoNetwork, sub_NoNetwork, ab_NoNetwork, col_NoNetwork, dd_NoNetwork, m0_NoNetwork, m1_NoNetwork, m2_NoNetwork, m3_NoNetwork, m5_NoNetwork, x_NoNetwork, r_NoNetwork⟩, s_a_NoNetwork, e_NoNetwork, t_NoNetwork, kc_NoNetwork⟩, nf_NoNetwork⟩
  have g_NoNetwork := PySem.W.mg_of X G a_NoNetwork
  have gx_NoNetwork : GetX K C_NoNetwork "index" := ⟨ga_NoNetwork, gg_NoNetwork, e_NoNetwork, h_NoNetwork, nf_NoNetwork⟩
  have te_NoNetwork := exm_self e_NoNetwork ic_NoNetwork t_NoNetwork ss_NoNetwork
  have E_NoStation : ExcAt K mg "NoStation" C_NoStation "station" "NoStation.__init__" s_NoStation_init := ⟨⟨_, _, fun_mk (st := s_NoStation_init) l_NoStation_init c_NoStation_init k_NoStation_init, PySem.W.mg_of X G a_NoStation, b_NoStation_init, ti_NoStation_init⟩, ⟨⟨nm_NoStation, q_NoStation, N_NoStation, bs_NoStation, bm_NoStation, sn_NoStation, sub_NoStation, ab_NoStation, col_NoStation, dd_NoStation, m0_NoStation, m1_NoStation, m2_NoStation, m3_NoStation, m5_NoStation, x_NoStation, r_NoStation⟩, s_a_NoStation, e_NoStation, t_NoStation, kc_NoStation⟩, nf_NoStation⟩
  have g_NoStation := PySem.W.mg_of X G a_NoStation
  have gx_NoStation : GetX K C_NoStation "station" := ⟨ga_NoStation, gg_NoStation, e_NoStation, h_NoStation, nf_NoStation⟩
  have te_NoStation := exm_self e_NoStation ic_NoStation t_NoStation ss_NoStation
  have E_NoState : ExcAt K mg "NoState" C_NoState "index" "NoState.__init__" s_NoState_init := ⟨⟨_, _, fun_mk (st := s_NoState_init) l_NoState_init c_NoState_init k_NoState_init, PySem.W.mg_of X G a_NoState, b_NoState_init, ti_NoState_init⟩, ⟨⟨nm_NoState, q_NoState, N_NoState, bs_NoState, bm_NoState, sn_NoState, sub_NoState, ab_NoState, col_NoState, dd_NoState, m0_NoState, m1_NoState, m2_NoState, m3_NoState, m5_NoState, x_NoState, r_NoState⟩, s_a_NoState, e_NoState, t_NoState, kc_NoState⟩, nf_NoState⟩
  have g_NoState := PySem.W.mg_of X G a_NoState
  have gx_NoState : GetX K C_NoState "index" := ⟨ga_NoState, gg_NoState, e_NoState, h_NoState, nf_NoState⟩
  have te_NoState := exm_self e_NoState ic_NoState t_NoState ss_NoState
  have E_NoSteps : ExcAt K mg "NoSteps" C_NoSteps "index" "NoSteps.__init__" s_NoSteps_init := ⟨⟨_, _, fun_mk (st := s_NoSteps_init) l_NoSteps_init c_NoSteps_init k_NoSteps_init, PySem.W.mg_of X G a_NoSteps, b_NoSteps_init, ti_NoSteps_init⟩, ⟨⟨nm_NoSteps, q_NoSteps, N_NoSteps, bs_NoSteps, bm_NoSteps, sn_NoSteps, sub_NoSteps, ab_NoSteps, col_NoSteps, dd_NoSteps, m0_NoSteps, m1_NoSteps, m2_NoSteps, m3_NoSteps, m5_NoSteps, x_NoSteps, r_NoSteps⟩, s_a_NoSteps, e_NoSteps, t_NoSteps, kc_NoSteps⟩, nf_NoSteps⟩
  have g_NoSteps := PySem.W.mg_of X G a_NoSteps
  have gx_NoSteps : GetX K C_NoSteps "index" := ⟨ga_NoSteps, gg_NoSteps, e_NoSteps, h_NoSteps, nf_NoSteps⟩
  have te_NoSteps := exm_self e_NoSteps ic_NoSteps t_NoSteps ss_NoSteps
  have E_NoBound : ExcAt K mg "NoBound" C_NoBound "index" "NoBound.__init__" s_NoBound_init := ⟨⟨_, _, fun_mk (st := s_NoBound_init) l_NoBound_init c_NoBound_init k_NoBound_init, PySem.W.mg_of X G a_NoBound, b_NoBound_init, ti_NoBound_init⟩, ⟨⟨nm_NoBound, q_NoBound, N_NoBound, bs_NoBound, bm_NoBound, sn_NoBound, sub_NoBound, ab_NoBound, col_NoBound, dd_NoBound, m0_NoBound, m1_NoBound, m2_NoBound, m3_NoBound, m5_NoBound, x_NoBound, r_NoBound⟩, s_a_NoBound, e_NoBound, t_NoBound, kc_NoBound⟩, nf_NoBound⟩
  have g_NoBound := PySem.W.mg_of X G a_NoBound
  have gx_NoBound : GetX K C_NoBound "index" := ⟨ga_NoBound, gg_NoBound, e_NoBound, h_NoBound, nf_NoBound⟩
  have te_NoBound := exm_self e_NoBound ic_NoBound t_NoBound ss_NoBound
  have E_NoChannel : ExcAt K mg "NoChannel" C_NoChannel "channel" "NoChannel.__init__" s_NoChannel_init := ⟨⟨_, _, fun_mk (st := s_NoChannel_init) l_NoChannel_init c_NoChannel_init k_NoChannel_init, PySem.W.mg_of X G a_NoChannel, b_NoChannel_init, ti_NoChannel_init⟩, ⟨⟨nm_NoChannel, q_NoChannel, N_NoChannel, bs_NoChannel, bm_NoChannel, sn_NoChannel, sub_NoChannel, ab_NoChannel, col_NoChannel, dd_NoChannel, m0_NoChannel, m1_NoChannel, m2_NoChannel, m3_NoChannel, m5_NoChannel, x_NoChannel, r_NoChannel⟩, s_a_NoChannel, e_NoChannel, t_NoChannel, kc_NoChannel⟩, nf_NoChannel⟩
  have g_NoChannel := PySem.W.mg_of X G a_NoChannel
  have gx_NoChannel : GetX K C_NoChannel "channel" := ⟨ga_NoChannel, gg_NoChannel, e_NoChannel, h_NoChannel, nf_NoChannel⟩
  have te_NoChannel := exm_self e_NoChannel ic_NoChannel t_NoChannel ss_NoChannel
  have E_HasRing : ExcAt K mg "HasRing" C_HasRing "ring" "HasRing.__init__" s_HasRing_init := ⟨⟨_, _, fun_mk (st := s_HasRing_init) l_HasRing_init c_HasRing_init k_HasRing_init, PySem.W.mg_of X G a_HasRing, b_HasRing_init, ti_HasRing_init⟩, ⟨⟨nm_HasRing, q_HasRing, N_HasRing, bs_HasRing, bm_HasRing, sn_HasRing, sub_HasRing, ab_HasRing, col_HasRing, dd_HasRing, m0_HasRing, m1_HasRing, m2_HasRing, m3_HasRing, m5_HasRing, x_HasRing, r_HasRing⟩, s_a_HasRing, e_HasRing, t_HasRing, kc_HasRing⟩, nf_HasRing⟩
  have g_HasRing := PySem.W.mg_of X G a_HasRing
  have gx_HasRing : GetX K C_HasRing "ring" := ⟨ga_HasRing, gg_HasRing, e_HasRing, h_HasRing, nf_HasRing⟩
  have te_HasRing := exm_self e_HasRing ic_HasRing t_HasRing ss_HasRing
  have E_NoSchedule : ExcAt K mg "NoSchedule" C_NoSchedule "index" "NoSchedule.__init__" s_NoSchedule_init := ⟨⟨_, _, fun_mk (st := s_NoSchedule_init) l_NoSchedule_init c_NoSchedule_init k_NoSchedule_init, PySem.W.mg_of X G a_NoSchedule, b_NoSchedule_init, ti_NoSchedule_init⟩, ⟨⟨nm_NoSchedule, q_NoSchedule, N_NoSchedule, bs_NoSchedule, bm_NoSchedule, sn_NoSchedule, sub_NoSchedule, ab_NoSchedule, col_NoSchedule, dd_NoSchedule, m0_NoSchedule, m1_NoSchedule, m2_NoSchedule, m3_NoSchedule, m5_NoSchedule, x_NoSchedule, r_NoSchedule⟩, s_a_NoSchedule, e_NoSchedule, t_NoSchedule, kc_NoSchedule⟩, nf_NoSchedule⟩
  have g_NoSchedule := PySem.W.mg_of X G a_NoSchedule
  have gx_NoSchedule : GetX K C_NoSchedule "index" := ⟨ga_NoSchedule, gg_NoSchedule, e_NoSchedule, h_NoSchedule, nf_NoSchedule⟩
  have te_NoSchedule := exm_self e_NoSchedule ic_NoSchedule t_NoSchedule ss_NoSchedule
  have E_TooMany : ExcAt K mg "TooMany" C_TooMany "most" "TooMany.__init__" s_TooMany_init := ⟨⟨_, _, fun_mk (st := s_TooMany_init) l_TooMany_init c_TooMany_init k_TooMany_init, PySem.W.mg_of X G a_TooMany, b_TooMany_init, ti_TooMany_init⟩, ⟨⟨nm_TooMany, q_TooMany, N_TooMany, bs_TooMany, bm_TooMany, sn_TooMany, sub_TooMany, ab_TooMany, col_TooMany, dd_TooMany, m0_TooMany, m1_TooMany, m2_TooMany, m3_TooMany, m5_TooMany, x_TooMany, r_TooMany⟩, s_a_TooMany, e_TooMany, t_TooMany, kc_TooMany⟩, nf_TooMany⟩
  have g_TooMany := PySem.W.mg_of X G a_TooMany
  have gx_TooMany : GetX K C_TooMany "most" := ⟨ga_TooMany, gg_TooMany, e_TooMany, h_TooMany, nf_TooMany⟩
  have te_TooMany := exm_self e_TooMany ic_TooMany t_TooMany ss_TooMany
  have E_NoClosedSet : ExcAt K mg "NoClosedSet" C_NoClosedSet "index" "NoClosedSet.__init__" s_NoClosedSet_init := ⟨⟨_, _, fun_mk (st := s_NoClosedSet_init) l_NoClosedSet_init c_NoClosedSet_init k_NoClosedSet_init, PySem.W.mg_of X G a_NoClosedSet, b_NoClosedSet_init, ti_NoClosedSet_init⟩, ⟨⟨nm_NoClosedSet, q_NoClosedSet, N_NoClosedSet, bs_NoClosedSet, bm_NoClosedSet, sn_NoClosedSet, sub_NoClosedSet, ab_NoClosedSet, col_NoClosedSet, dd_NoClosedSet, m0_NoClosedSet, m1_NoClosedSet, m2_NoClosedSet, m3_NoClosedSet, m5_NoClosedSet, x_NoClosedSet, r_NoClosedSet⟩, s_a_NoClosedSet, e_NoClosedSet, t_NoClosedSet, kc_NoClosedSet⟩, nf_NoClosedSet⟩
  have g_NoClosedSet := PySem.W.mg_of X G a_NoClosedSet
  have gx_NoClosedSet : GetX K C_NoClosedSet "index" := ⟨ga_NoClosedSet, gg_NoClosedSet, e_NoClosedSet, h_NoClosedSet, nf_NoClosedSet⟩
  have te_NoClosedSet := exm_self e_NoClosedSet ic_NoClosedSet t_NoClosedSet ss_NoClosedSet
  have E_NoLink : ExcAt K mg "NoLink" C_NoLink "link" "NoLink.__init__" s_NoLink_init := ⟨⟨_, _, fun_mk (st := s_NoLink_init) l_NoLink_init c_NoLink_init k_NoLink_init, PySem.W.mg_of X G a_NoLink, b_NoLink_init, ti_NoLink_init⟩, ⟨⟨nm_NoLink, q_NoLink, N_NoLink, bs_NoLink, bm_NoLink, sn_NoLink, sub_NoLink, ab_NoLink, col_NoLink, dd_NoLink, m0_NoLink, m1_NoLink, m2_NoLink, m3_NoLink, m5_NoLink, x_NoLink, r_NoLink⟩, s_a_NoLink, e_NoLink, t_NoLink, kc_NoLink⟩, nf_NoLink⟩
  have g_NoLink := PySem.W.mg_of X G a_NoLink
  have gx_NoLink : GetX K C_NoLink "link" := ⟨ga_NoLink, gg_NoLink, e_NoLink, h_NoLink, nf_NoLink⟩
  have te_NoLink := exm_self e_NoLink ic_NoLink t_NoLink ss_NoLink
  have E_NoNames : ExcAt K mg "NoNames" C_NoNames "index" "NoNames.__init__" s_NoNames_init := ⟨⟨_, _, fun_mk (st := s_NoNames_init) l_NoNames_init c_NoNames_init k_NoNames_init, PySem.W.mg_of X G a_NoNames, b_NoNames_init, ti_NoNames_init⟩, ⟨⟨nm_NoNames, q_NoNames, N_NoNames, bs_NoNames, bm_NoNames, sn_NoNames, sub_NoNames, ab_NoNames, col_NoNames, dd_NoNames, m0_NoNames, m1_NoNames, m2_NoNames, m3_NoNames, m5_NoNames, x_NoNames, r_NoNames⟩, s_a_NoNames, e_NoNames, t_NoNames, kc_NoNames⟩, nf_NoNames⟩
  have g_NoNames := PySem.W.mg_of X G a_NoNames
  have gx_NoNames : GetX K C_NoNames "index" := ⟨ga_NoNames, gg_NoNames, e_NoNames, h_NoNames, nf_NoNames⟩
  have te_NoNames := exm_self e_NoNames ic_NoNames t_NoNames ss_NoNames
  have xk_NoNetwork : ExcK K C_NoNetwork := ⟨ic_NoNetwork, ga_NoNetwork, gg_NoNetwork, e_NoNetwork, hc_NoNetwork, hnG, htG, hm_NoNetwork⟩
  have xk_NoStation : ExcK K C_NoStation := ⟨ic_NoStation, ga_NoStation, gg_NoStation, e_NoStation, hc_NoStation, hnG, htG, hm_NoStation⟩
  have xk_NoState : ExcK K C_NoState := ⟨ic_NoState, ga_NoState, gg_NoState, e_NoState, hc_NoState, hnG, htG, hm_NoState⟩
  have xk_NoSteps : ExcK K C_NoSteps := ⟨ic_NoSteps, ga_NoSteps, gg_NoSteps, e_NoSteps, hc_NoSteps, hnG, htG, hm_NoSteps⟩
  have xk_NoBound : ExcK K C_NoBound := ⟨ic_NoBound, ga_NoBound, gg_NoBound, e_NoBound, hc_NoBound, hnG, htG, hm_NoBound⟩
  have xk_NoChannel : ExcK K C_NoChannel := ⟨ic_NoChannel, ga_NoChannel, gg_NoChannel, e_NoChannel, hc_NoChannel, hnG, htG, hm_NoChannel⟩
  have xk_HasRing : ExcK K C_HasRing := ⟨ic_HasRing, ga_HasRing, gg_HasRing, e_HasRing, hc_HasRing, hnG, htG, hm_HasRing⟩
  have xk_NoSchedule : ExcK K C_NoSchedule := ⟨ic_NoSchedule, ga_NoSchedule, gg_NoSchedule, e_NoSchedule, hc_NoSchedule, hnG, htG, hm_NoSchedule⟩
  have xk_TooMany : ExcK K C_TooMany := ⟨ic_TooMany, ga_TooMany, gg_TooMany, e_TooMany, hc_TooMany, hnG, htG, hm_TooMany⟩
  have xk_NoClosedSet : ExcK K C_NoClosedSet := ⟨ic_NoClosedSet, ga_NoClosedSet, gg_NoClosedSet, e_NoClosedSet, hc_NoClosedSet, hnG, htG, hm_NoClosedSet⟩
  have xk_NoLink : ExcK K C_NoLink := ⟨ic_NoLink, ga_NoLink, gg_NoLink, e_NoLink, hc_NoLink, hnG, htG, hm_NoLink⟩
  have xk_NoNames : ExcK K C_NoNames := ⟨ic_NoNames, ga_NoNames, gg_NoNames, e_NoNames, hc_NoNames, hnG, htG, hm_NoNames⟩
  have D_law_draw : DefAt K mg "_law_draw" s_law_draw := ⟨_, _, fun_mk (st := s_law_draw) l_law_draw c_law_draw k_law_draw, PySem.W.mg_of X G a_law_draw⟩
  have D_law_taken : DefAt K mg "_law_taken" s_law_taken := ⟨_, _, fun_mk (st := s_law_taken) l_law_taken c_law_taken k_law_taken, PySem.W.mg_of X G a_law_taken⟩
  have D_law_by_place : DefAt K mg "_law_by_place" s_law_by_place := ⟨_, _, fun_mk (st := s_law_by_place) l_law_by_place c_law_by_place k_law_by_place, PySem.W.mg_of X G a_law_by_place⟩
  have D_law_by_name : DefAt K mg "_law_by_name" s_law_by_name := ⟨_, _, fun_mk (st := s_law_by_name) l_law_by_name c_law_by_name k_law_by_name, PySem.W.mg_of X G a_law_by_name⟩
  have D_law_fields : DefAt K mg "_law_fields" s_law_fields := ⟨_, _, fun_mk (st := s_law_fields) l_law_fields c_law_fields k_law_fields, PySem.W.mg_of X G a_law_fields⟩
  have D_law_right : DefAt K mg "_law_right" s_law_right := ⟨_, _, fun_mk (st := s_law_right) l_law_right c_law_right k_law_right, PySem.W.mg_of X G a_law_right⟩
  have D_law : DefAt K mg "law" s_law := ⟨_, _, fun_mk (st := s_law) l_law c_law k_law, PySem.W.mg_of X G a_law⟩
  have T : Bt mg := bt_of X G z1 z2 z3 z4 z5 z6 z7 z8 z9 z10 z11 z12 z13 z14 z15 z16 z17
  refine ⟨PySem.W.fnOf "law" "law" (defArgs s_law) (defBody s_law) (defScope s_law) .none kV_law dc_law pm_law an_law cd_law ct_law, [], spLaw K, fun p hp => absurd hp List.not_mem_nil, fun p hp => absurd hp List.not_mem_nil, fun p hp => absurd hp List.not_mem_nil, fun s u => .of_eq rfl, fun H a ns hl _ _ hs => ⟨a, ns, rfl, hs, by omega, fun _ => rfl⟩, fun base _ _ _ => ?_⟩
  have g_ChannelError := PySem.W.mg_of X G a_B
  have cd := c_draw (P := l.prog) (w := w) (base := base) D_law_draw
  have v_NoNetwork := v_of_NoNetwork (P := l.prog) (w := w) (base := base) ce E_NoNetwork
  have v_NoStation := v_of_NoStation (P := l.prog) (w := w) (base := base) ce E_NoStation
  have v_NoState := v_of_NoState (P := l.prog) (w := w) (base := base) ce E_NoState
  have v_NoSteps := v_of_NoSteps (P := l.prog) (w := w) (base := base) ce E_NoSteps
  have v_NoBound := v_of_NoBound (P := l.prog) (w := w) (base := base) ce E_NoBound
  have v_NoChannel := v_of_NoChannel (P := l.prog) (w := w) (base := base) ce E_NoChannel
  have v_HasRing := v_of_HasRing (P := l.prog) (w := w) (base := base) ce E_HasRing
  have v_NoSchedule := v_of_NoSchedule (P := l.prog) (w := w) (base := base) ce E_NoSchedule
  have v_TooMany := v_of_TooMany (P := l.prog) (w := w) (base := base) ce E_TooMany
  have v_NoClosedSet := v_of_NoClosedSet (P := l.prog) (w := w) (base := base) ce E_NoClosedSet
  have v_NoLink := v_of_NoLink (P := l.prog) (w := w) (base := base) ce E_NoLink
  have v_NoNames := v_of_NoNames (P := l.prog) (w := w) (base := base) ce E_NoNames
  have cbp : Cal l.prog w K mg base CX0 3 "_law_by_place" (spMake [] [(C_NoNetwork, "index"), (C_NoStation, "station"), (C_NoState, "index"), (C_NoSteps, "index"), (C_NoBound, "index"), (C_NoChannel, "channel"), (C_HasRing, "ring"), (C_NoSchedule, "index"), (C_TooMany, "most"), (C_NoClosedSet, "index"), (C_NoLink, "link"), (C_NoNames, "index")]) := D_law_by_place.cal (fun _ _ _ _ _ _ us hl => match us, hl with | [_], _ => rfl) fun f fd F => ok_by_place T v_NoNetwork v_NoStation v_NoState v_NoSteps v_NoBound v_NoChannel v_HasRing v_NoSchedule v_TooMany v_NoClosedSet v_NoLink v_NoNames F
  have cbn : Cal l.prog w K mg base CX0 3 "_law_by_name" (spMake [] [(C_NoNetwork, "index"), (C_NoStation, "station"), (C_NoState, "index"), (C_NoSteps, "index"), (C_NoBound, "index"), (C_NoChannel, "channel"), (C_HasRing, "ring"), (C_NoSchedule, "index"), (C_TooMany, "most"), (C_NoClosedSet, "index"), (C_NoLink, "link"), (C_NoNames, "index")]) := D_law_by_name.cal (fun _ _ _ _ _ _ us hl => match us, hl with | [_], _ => rfl) fun f fd F => ok_by_name T v_NoNetwork v_NoStation v_NoState v_NoSteps v_NoBound v_NoChannel v_HasRing v_NoSchedule v_TooMany v_NoClosedSet v_NoLink v_NoNames F
  have cfi : Cal l.prog w K mg base CX0 2 "_law_fields" (spFields [] [(C_NoNetwork, "index"), (C_NoStation, "station"), (C_NoState, "index"), (C_NoSteps, "index"), (C_NoBound, "index"), (C_NoChannel, "channel"), (C_HasRing, "ring"), (C_NoSchedule, "index"), (C_TooMany, "most"), (C_NoClosedSet, "index"), (C_NoLink, "link"), (C_NoNames, "index")]) := D_law_fields.cal (fun _ _ _ _ _ _ us hl => match us, hl with | [_], _ => rfl) fun f fd F => ok_fields T gx_NoNetwork gx_NoStation gx_NoState gx_NoSteps gx_NoBound gx_NoChannel gx_HasRing gx_NoSchedule gx_TooMany gx_NoClosedSet gx_NoLink gx_NoNames F
  have cta : Cal l.prog w K mg base CX0 2 "_law_taken" (spTaken [] K [C_NoNetwork, C_NoStation, C_NoState, C_NoSteps, C_NoBound, C_NoChannel, C_HasRing, C_NoSchedule, C_TooMany, C_NoClosedSet, C_NoLink, C_NoNames]) := D_law_taken.cal (fun _ _ _ _ _ _ us hl => match us, hl with | [_], _ => rfl) fun f fd F => ok_taken T g_NoNetwork g_NoStation g_NoState g_NoSteps g_NoBound g_NoChannel g_HasRing g_NoSchedule g_TooMany g_NoClosedSet g_NoLink g_NoNames F
  have kt : KinT K B [(C_NoNetwork, "index"), (C_NoStation, "station"), (C_NoState, "index"), (C_NoSteps, "index"), (C_NoBound, "index"), (C_NoChannel, "channel"), (C_HasRing, "ring"), (C_NoSchedule, "index"), (C_TooMany, "most"), (C_NoClosedSet, "index"), (C_NoLink, "link"), (C_NoNames, "index")] [C_NoNetwork, C_NoStation, C_NoState, C_NoSteps, C_NoBound, C_NoChannel, C_HasRing, C_NoSchedule, C_TooMany, C_NoClosedSet, C_NoLink, C_NoNames] := fun i c hc => by
    match i, hc with
    | 0, hc =>
      cases hc
      exact ⟨xk_NoNetwork, (.cons kk_NoNetwork_NoNetwork (.cons kk_NoNetwork_NoStation (.cons kk_NoNetwork_NoState (.cons kk_NoNetwork_NoSteps (.cons kk_NoNetwork_NoBound (.cons kk_NoNetwork_NoChannel (.cons kk_NoNetwork_HasRing (.cons kk_NoNetwork_NoSchedule (.cons kk_NoNetwork_TooMany (.cons kk_NoNetwork_NoClosedSet (.cons kk_NoNetwork_NoLink (.cons kk_NoNetwork_NoNames .nil)))))))))))), kb_NoNetwork, kw_NoNetwork⟩
    | 1, hc =>
      cases hc
      exact ⟨xk_NoStation, (.cons kk_NoStation_NoNetwork (.cons kk_NoStation_NoStation (.cons kk_NoStation_NoState (.cons kk_NoStation_NoSteps (.cons kk_NoStation_NoBound (.cons kk_NoStation_NoChannel (.cons kk_NoStation_HasRing (.cons kk_NoStation_NoSchedule (.cons kk_NoStation_TooMany (.cons kk_NoStation_NoClosedSet (.cons kk_NoStation_NoLink (.cons kk_NoStation_NoNames .nil)))))))))))), kb_NoStation, kw_NoStation⟩
    | 2, hc =>
      cases hc
      exact ⟨xk_NoState, (.cons kk_NoState_NoNetwork (.cons kk_NoState_NoStation (.cons kk_NoState_NoState (.cons kk_NoState_NoSteps (.cons kk_NoState_NoBound (.cons kk_NoState_NoChannel (.cons kk_NoState_HasRing (.cons kk_NoState_NoSchedule (.cons kk_NoState_TooMany (.cons kk_NoState_NoClosedSet (.cons kk_NoState_NoLink (.cons kk_NoState_NoNames .nil)))))))))))), kb_NoState, kw_NoState⟩
    | 3, hc =>
      cases hc
      exact ⟨xk_NoSteps, (.cons kk_NoSteps_NoNetwork (.cons kk_NoSteps_NoStation (.cons kk_NoSteps_NoState (.cons kk_NoSteps_NoSteps (.cons kk_NoSteps_NoBound (.cons kk_NoSteps_NoChannel (.cons kk_NoSteps_HasRing (.cons kk_NoSteps_NoSchedule (.cons kk_NoSteps_TooMany (.cons kk_NoSteps_NoClosedSet (.cons kk_NoSteps_NoLink (.cons kk_NoSteps_NoNames .nil)))))))))))), kb_NoSteps, kw_NoSteps⟩
    | 4, hc =>
      cases hc
      exact ⟨xk_NoBound, (.cons kk_NoBound_NoNetwork (.cons kk_NoBound_NoStation (.cons kk_NoBound_NoState (.cons kk_NoBound_NoSteps (.cons kk_NoBound_NoBound (.cons kk_NoBound_NoChannel (.cons kk_NoBound_HasRing (.cons kk_NoBound_NoSchedule (.cons kk_NoBound_TooMany (.cons kk_NoBound_NoClosedSet (.cons kk_NoBound_NoLink (.cons kk_NoBound_NoNames .nil)))))))))))), kb_NoBound, kw_NoBound⟩
    | 5, hc =>
      cases hc
      exact ⟨xk_NoChannel, (.cons kk_NoChannel_NoNetwork (.cons kk_NoChannel_NoStation (.cons kk_NoChannel_NoState (.cons kk_NoChannel_NoSteps (.cons kk_NoChannel_NoBound (.cons kk_NoChannel_NoChannel (.cons kk_NoChannel_HasRing (.cons kk_NoChannel_NoSchedule (.cons kk_NoChannel_TooMany (.cons kk_NoChannel_NoClosedSet (.cons kk_NoChannel_NoLink (.cons kk_NoChannel_NoNames .nil)))))))))))), kb_NoChannel, kw_NoChannel⟩
    | 6, hc =>
      cases hc
      exact ⟨xk_HasRing, (.cons kk_HasRing_NoNetwork (.cons kk_HasRing_NoStation (.cons kk_HasRing_NoState (.cons kk_HasRing_NoSteps (.cons kk_HasRing_NoBound (.cons kk_HasRing_NoChannel (.cons kk_HasRing_HasRing (.cons kk_HasRing_NoSchedule (.cons kk_HasRing_TooMany (.cons kk_HasRing_NoClosedSet (.cons kk_HasRing_NoLink (.cons kk_HasRing_NoNames .nil)))))))))))), kb_HasRing, kw_HasRing⟩
    | 7, hc =>
      cases hc
      exact ⟨xk_NoSchedule, (.cons kk_NoSchedule_NoNetwork (.cons kk_NoSchedule_NoStation (.cons kk_NoSchedule_NoState (.cons kk_NoSchedule_NoSteps (.cons kk_NoSchedule_NoBound (.cons kk_NoSchedule_NoChannel (.cons kk_NoSchedule_HasRing (.cons kk_NoSchedule_NoSchedule (.cons kk_NoSchedule_TooMany (.cons kk_NoSchedule_NoClosedSet (.cons kk_NoSchedule_NoLink (.cons kk_NoSchedule_NoNames .nil)))))))))))), kb_NoSchedule, kw_NoSchedule⟩
    | 8, hc =>
      cases hc
      exact ⟨xk_TooMany, (.cons kk_TooMany_NoNetwork (.cons kk_TooMany_NoStation (.cons kk_TooMany_NoState (.cons kk_TooMany_NoSteps (.cons kk_TooMany_NoBound (.cons kk_TooMany_NoChannel (.cons kk_TooMany_HasRing (.cons kk_TooMany_NoSchedule (.cons kk_TooMany_TooMany (.cons kk_TooMany_NoClosedSet (.cons kk_TooMany_NoLink (.cons kk_TooMany_NoNames .nil)))))))))))), kb_TooMany, kw_TooMany⟩
    | 9, hc =>
      cases hc
      exact ⟨xk_NoClosedSet, (.cons kk_NoClosedSet_NoNetwork (.cons kk_NoClosedSet_NoStation (.cons kk_NoClosedSet_NoState (.cons kk_NoClosedSet_NoSteps (.cons kk_NoClosedSet_NoBound (.cons kk_NoClosedSet_NoChannel (.cons kk_NoClosedSet_HasRing (.cons kk_NoClosedSet_NoSchedule (.cons kk_NoClosedSet_TooMany (.cons kk_NoClosedSet_NoClosedSet (.cons kk_NoClosedSet_NoLink (.cons kk_NoClosedSet_NoNames .nil)))))))))))), kb_NoClosedSet, kw_NoClosedSet⟩
    | 10, hc =>
      cases hc
      exact ⟨xk_NoLink, (.cons kk_NoLink_NoNetwork (.cons kk_NoLink_NoStation (.cons kk_NoLink_NoState (.cons kk_NoLink_NoSteps (.cons kk_NoLink_NoBound (.cons kk_NoLink_NoChannel (.cons kk_NoLink_HasRing (.cons kk_NoLink_NoSchedule (.cons kk_NoLink_TooMany (.cons kk_NoLink_NoClosedSet (.cons kk_NoLink_NoLink (.cons kk_NoLink_NoNames .nil)))))))))))), kb_NoLink, kw_NoLink⟩
    | 11, hc =>
      cases hc
      exact ⟨xk_NoNames, (.cons kk_NoNames_NoNetwork (.cons kk_NoNames_NoStation (.cons kk_NoNames_NoState (.cons kk_NoNames_NoSteps (.cons kk_NoNames_NoBound (.cons kk_NoNames_NoChannel (.cons kk_NoNames_HasRing (.cons kk_NoNames_NoSchedule (.cons kk_NoNames_TooMany (.cons kk_NoNames_NoClosedSet (.cons kk_NoNames_NoLink (.cons kk_NoNames_NoNames .nil)))))))))))), kb_NoNames, kw_NoNames⟩
    | i + 12, hc => cases hc
  have cri : CalG l.prog w K mg base CX0 6 "_law_right" (spWell0 []) := D_law_right.calG (fun _ _ _ _ _ _ us hl => match us, hl with | [_], _ => rfl) fun f fd F => well_outG (ok_right T cd cbp cbn cfi cta rfl kt kvG g_ChannelError F) spWell_of
  exact ok_law T cri (fun_mk (st := s_law) l_law c_law k_law)
end NC
open PySem PySem.W PyProof.Rows
set_option maxRecDepth 100000 in
set_option maxHeartbeats 0 in
theorem PySem.Challenge.cw_nextchannel_k19_exceptions_holds : PySem.Challenge.rw_nextchannel_k19_exceptions.Holds := by
  w_on; o_law; k_head; (case hw => w_witness2)
  k_fill
  refine NC.walk_ofG (l := PySem.Challenge.rw_nextchannel_k19_exceptions) (n := 63) (k := 7) (x := "_law_script") (CX := fun _ => L2.CX0) rfl (by decide) rfl ⟨rfl, by decide, by decide⟩ (fun w h Y => PySem.W.kIn_of Y) ?F (fun _ _ _ _ _ z => z)
  case F =>
    intro w mg fa h Y KX G hmg
    refine' NC.all_mk KX G hmg ?a_B ?gaB ?rdB ?vIB ?a_NoNetwork ?x_NoNetwork ?r_NoNetwork ?s_a_NoNetwork ?e_NoNetwork ?t_NoNetwork ?kc_NoNetwork ?nf_NoNetwork ?b_NoNetwork_init ?ti_NoNetwork_init ?l_NoNetwork_init ?c_NoNetwork_init ?k_NoNetwork_init ?ga_NoNetwork ?gg_NoNetwork ?h_NoNetwork ?ic_NoNetwork ?ss_NoNetwork ?a_NoStation ?x_NoStation ?r_NoStation ?s_a_NoStation ?e_NoStation ?t_NoStation ?kc_NoStation ?nf_NoStation ?b_NoStation_init ?ti_NoStation_init ?l_NoStation_init ?c_NoStation_init ?k_NoStation_init ?ga_NoStation ?gg_NoStation ?h_NoStation ?ic_NoStation ?ss_NoStation ?a_NoState ?x_NoState ?r_NoState ?s_a_NoState ?e_NoState ?t_NoState ?kc_NoState ?nf_NoState ?b_NoState_init ?ti_NoState_init ?l_NoState_init ?c_NoState_init ?k_NoState_init ?ga_NoState ?gg_NoState ?h_NoState ?ic_NoState ?ss_NoState ?a_NoSteps ?x_NoSteps ?r_NoSteps ?s_a_NoSteps ?e_NoSteps ?t_NoSteps ?kc_NoSteps ?nf_NoSteps ?b_NoSteps_init ?ti_NoSteps_init ?l_NoSteps_init ?c_NoSteps_init ?k_NoSteps_init ?ga_NoSteps ?gg_NoSteps ?h_NoSteps ?ic_NoSteps ?ss_NoSteps ?a_NoBound ?x_NoBound ?r_NoBound ?s_a_NoBound ?e_NoBound ?t_NoBound ?kc_NoBound ?nf_NoBound ?b_NoBound_init ?ti_NoBound_init ?l_NoBound_init ?c_NoBound_init ?k_NoBound_init ?ga_NoBound ?gg_NoBound ?h_NoBound ?ic_NoBound ?ss_NoBound ?a_NoChannel ?x_NoChannel ?r_NoChannel ?s_a_NoChannel ?e_NoChannel ?t_NoChannel ?kc_NoChannel ?nf_NoChannel ?b_NoChannel_init ?ti_NoChannel_init ?l_NoChannel_init ?c_NoChannel_init ?k_NoChannel_init ?ga_NoChannel ?gg_NoChannel ?h_NoChannel ?ic_NoChannel ?ss_NoChannel ?a_HasRing ?x_HasRing ?r_HasRing ?s_a_HasRing ?e_HasRing ?t_HasRing ?kc_HasRing ?nf_HasRing ?b_HasRing_init ?ti_HasRing_init ?l_HasRing_init ?c_HasRing_init ?k_HasRing_init ?ga_HasRing ?gg_HasRing ?h_HasRing ?ic_HasRing ?ss_HasRing ?a_NoSchedule ?x_NoSchedule ?r_NoSchedule ?s_a_NoSchedule ?e_NoSchedule ?t_NoSchedule ?kc_NoSchedule ?nf_NoSchedule ?b_NoSchedule_init ?ti_NoSchedule_init ?l_NoSchedule_init ?c_NoSchedule_init ?k_NoSchedule_init ?ga_NoSchedule ?gg_NoSchedule ?h_NoSchedule ?ic_NoSchedule ?ss_NoSchedule ?a_TooMany ?x_TooMany ?r_TooMany ?s_a_TooMany ?e_TooMany ?t_TooMany ?kc_TooMany ?nf_TooMany ?b_TooMany_init ?ti_TooMany_init ?l_TooMany_init ?c_TooMany_init ?k_TooMany_init ?ga_TooMany ?gg_TooMany ?h_TooMany ?ic_TooMany ?ss_TooMany ?a_NoClosedSet ?x_NoClosedSet ?r_NoClosedSet ?s_a_NoClosedSet ?e_NoClosedSet ?t_NoClosedSet ?kc_NoClosedSet ?nf_NoClosedSet ?b_NoClosedSet_init ?ti_NoClosedSet_init ?l_NoClosedSet_init ?c_NoClosedSet_init ?k_NoClosedSet_init ?ga_NoClosedSet ?gg_NoClosedSet ?h_NoClosedSet ?ic_NoClosedSet ?ss_NoClosedSet ?a_NoLink ?x_NoLink ?r_NoLink ?s_a_NoLink ?e_NoLink ?t_NoLink ?kc_NoLink ?nf_NoLink ?b_NoLink_init ?ti_NoLink_init ?l_NoLink_init ?c_NoLink_init ?k_NoLink_init ?ga_NoLink ?gg_NoLink ?h_NoLink ?ic_NoLink ?ss_NoLink ?a_NoNames ?x_NoNames ?r_NoNames ?s_a_NoNames ?e_NoNames ?t_NoNames ?kc_NoNames ?nf_NoNames ?b_NoNames_init ?ti_NoNames_init ?l_NoNames_init ?c_NoNames_init ?k_NoNames_init ?ga_NoNames ?gg_NoNames ?h_NoNames ?ic_NoNames ?ss_NoNames ?hnG ?htG ?kvG ?hc_NoNetwork ?hm_NoNetwork ?kb_NoNetwork ?kw_NoNetwork ?kk_NoNetwork_NoNetwork ?kk_NoNetwork_NoStation ?kk_NoNetwork_NoState ?kk_NoNetwork_NoSteps ?kk_NoNetwork_NoBound ?kk_NoNetwork_NoChannel ?kk_NoNetwork_HasRing ?kk_NoNetwork_NoSchedule ?kk_NoNetwork_TooMany ?kk_NoNetwork_NoClosedSet ?kk_NoNetwork_NoLink ?kk_NoNetwork_NoNames ?hc_NoStation ?hm_NoStation ?kb_NoStation ?kw_NoStation ?kk_NoStation_NoNetwork ?kk_NoStation_NoStation ?kk_NoStation_NoState ?kk_NoStation_NoSteps ?kk_NoStation_NoBound ?kk_NoStation_NoChannel ?kk_NoStation_HasRing ?kk_NoStation_NoSchedule ?kk_NoStation_TooMany ?kk_NoStation_NoClosedSet ?kk_NoStation_NoLink ?kk_NoStation_NoNames ?hc_NoState ?hm_NoState ?kb_NoState ?kw_NoState ?kk_NoState_NoNetwork ?kk_NoState_NoStation ?kk_NoState_NoState ?kk_NoState_NoSteps ?kk_NoState_NoBound ?kk_NoState_NoChannel ?kk_NoState_HasRing ?kk_NoState_NoSchedule ?kk_NoState_TooMany ?kk_NoState_NoClosedSet ?kk_NoState_NoLink ?kk_NoState_NoNames ?hc_NoSteps ?hm_NoSteps ?kb_NoSteps ?kw_NoSteps ?kk_NoSteps_NoNetwork ?kk_NoSteps_NoStation ?kk_NoSteps_NoState ?kk_NoSteps_NoSteps ?kk_NoSteps_NoBound ?kk_NoSteps_NoChannel ?kk_NoSteps_HasRing ?kk_NoSteps_NoSchedule ?kk_NoSteps_TooMany ?kk_NoSteps_NoClosedSet ?kk_NoSteps_NoLink ?kk_NoSteps_NoNames ?hc_NoBound ?hm_NoBound ?kb_NoBound ?kw_NoBound ?kk_NoBound_NoNetwork ?kk_NoBound_NoStation ?kk_NoBound_NoState ?kk_NoBound_NoSteps ?kk_NoBound_NoBound ?kk_NoBound_NoChannel ?kk_NoBound_HasRing ?kk_NoBound_NoSchedule ?kk_NoBound_TooMany ?kk_NoBound_NoClosedSet ?kk_NoBound_NoLink ?kk_NoBound_NoNames ?hc_NoChannel ?hm_NoChannel ?kb_NoChannel ?kw_NoChannel ?kk_NoChannel_NoNetwork ?kk_NoChannel_NoStation ?kk_NoChannel_NoState ?kk_NoChannel_NoSteps ?kk_NoChannel_NoBound ?kk_NoChannel_NoChannel ?kk_NoChannel_HasRing ?kk_NoChannel_NoSchedule ?kk_NoChannel_TooMany ?kk_NoChannel_NoClosedSet ?kk_NoChannel_NoLink ?kk_NoChannel_NoNames ?hc_HasRing ?hm_HasRing ?kb_HasRing ?kw_HasRing ?kk_HasRing_NoNetwork ?kk_HasRing_NoStation ?kk_HasRing_NoState ?kk_HasRing_NoSteps ?kk_HasRing_NoBound ?kk_HasRing_NoChannel ?kk_HasRing_HasRing ?kk_HasRing_NoSchedule ?kk_HasRing_TooMany ?kk_HasRing_NoClosedSet ?kk_HasRing_NoLink ?kk_HasRing_NoNames ?hc_NoSchedule ?hm_NoSchedule ?kb_NoSchedule ?kw_NoSchedule ?kk_NoSchedule_NoNetwork ?kk_NoSchedule_NoStation ?kk_NoSchedule_NoState ?kk_NoSchedule_NoSteps ?kk_NoSchedule_NoBound ?kk_NoSchedule_NoChannel ?kk_NoSchedule_HasRing ?kk_NoSchedule_NoSchedule ?kk_NoSchedule_TooMany ?kk_NoSchedule_NoClosedSet ?kk_NoSchedule_NoLink ?kk_NoSchedule_NoNames ?hc_TooMany ?hm_TooMany ?kb_TooMany ?kw_TooMany ?kk_TooMany_NoNetwork ?kk_TooMany_NoStation ?kk_TooMany_NoState ?kk_TooMany_NoSteps ?kk_TooMany_NoBound ?kk_TooMany_NoChannel ?kk_TooMany_HasRing ?kk_TooMany_NoSchedule ?kk_TooMany_TooMany ?kk_TooMany_NoClosedSet ?kk_TooMany_NoLink ?kk_TooMany_NoNames ?hc_NoClosedSet ?hm_NoClosedSet ?kb_NoClosedSet ?kw_NoClosedSet ?kk_NoClosedSet_NoNetwork ?kk_NoClosedSet_NoStation ?kk_NoClosedSet_NoState ?kk_NoClosedSet_NoSteps ?kk_NoClosedSet_NoBound ?kk_NoClosedSet_NoChannel ?kk_NoClosedSet_HasRing ?kk_NoClosedSet_NoSchedule ?kk_NoClosedSet_TooMany ?kk_NoClosedSet_NoClosedSet ?kk_NoClosedSet_NoLink ?kk_NoClosedSet_NoNames ?hc_NoLink ?hm_NoLink ?kb_NoLink ?kw_NoLink ?kk_NoLink_NoNetwork ?kk_NoLink_NoStation ?kk_NoLink_NoState ?kk_NoLink_NoSteps ?kk_NoLink_NoBound ?kk_NoLink_NoChannel ?kk_NoLink_HasRing ?kk_NoLink_NoSchedule ?kk_NoLink_TooMany ?kk_NoLink_NoClosedSet ?kk_NoLink_NoLink ?kk_NoLink_NoNames ?hc_NoNames ?hm_NoNames ?kb_NoNames ?kw_NoNames ?kk_NoNames_NoNetwork ?kk_NoNames_NoStation ?kk_NoNames_NoState ?kk_NoNames_NoSteps ?kk_NoNames_NoBound ?kk_NoNames_NoChannel ?kk_NoNames_HasRing ?kk_NoNames_NoSchedule ?kk_NoNames_TooMany ?kk_NoNames_NoClosedSet ?kk_NoNames_NoLink ?kk_NoNames_NoNames ?a_law_draw ?l_law_draw ?c_law_draw ?k_law_draw ?a_law_taken ?l_law_taken ?c_law_taken ?k_law_taken ?a_law_by_place ?l_law_by_place ?c_law_by_place ?k_law_by_place ?a_law_by_name ?l_law_by_name ?c_law_by_name ?k_law_by_name ?a_law_fields ?l_law_fields ?c_law_fields ?k_law_fields ?a_law_right ?l_law_right ?c_law_right ?k_law_right ?a_law ?l_law ?c_law ?k_law ?z1 ?z2 ?z3 ?z4 ?z5 ?z6 ?z7 ?z8 ?z9 ?z10 ?z11 ?z12 ?z13 ?z14 ?z15 ?z16 ?z17
    (case a_B => first | k_is | rfl | decide +kernel)
    (case gaB => first | k_is | rfl | decide +kernel)
    (case rdB => first | k_is | rfl | decide +kernel)
    (case vIB => first | k_is | rfl | decide +kernel)
    (case a_NoNetwork => first | k_is | rfl | decide +kernel)
    (case x_NoNetwork => first | k_is | rfl | decide +kernel)
    (case r_NoNetwork => first | k_is | rfl | decide +kernel)
    (case s_a_NoNetwork => first | k_is | rfl | decide +kernel)
    (case e_NoNetwork => first | k_is | rfl | decide +kernel)
    (case t_NoNetwork => first | k_is | rfl | decide +kernel)
    (case kc_NoNetwork => first | k_is | rfl | decide +kernel)
    (case nf_NoNetwork => first | k_is | rfl | decide +kernel)
    (case b_NoNetwork_init => first | k_is | rfl | decide +kernel)
    (case ti_NoNetwork_init => first | k_is | rfl | decide +kernel)
    (case l_NoNetwork_init => first | k_is | rfl | decide +kernel)
    (case c_NoNetwork_init => first | k_is | rfl | decide +kernel)
    (case k_NoNetwork_init => first | k_is | rfl | decide +kernel)
    (case ga_NoNetwork => first | k_is | rfl | decide +kernel)
    (case gg_NoNetwork => first | k_is | rfl | decide +kernel)
    (case h_NoNetwork => first | k_is | rfl | decide +kernel)
    (case ic_NoNetwork => first | k_is | rfl | decide +kernel)
    (case ss_NoNetwork => first | k_is | rfl | decide +kernel)
    (case a_NoStation => first | k_is | rfl | decide +kernel)
    (case x_NoStation => first | k_is | rfl | decide +kernel)
    (case r_NoStation => first | k_is | rfl | decide +kernel)
    (case s_a_NoStation => first | k_is | rfl | decide +kernel)
    (case e_NoStation => first | k_is | rfl | decide +kernel)
    (case t_NoStation => first | k_is | rfl | decide +kernel)
    (case kc_NoStation => first | k_is | rfl | decide +kernel)
    (case nf_NoStation => first | k_is | rfl | decide +kernel)
    (case b_NoStation_init => first | k_is | rfl | decide +kernel)
    (case ti_NoStation_init => first | k_is | rfl | decide +kernel)
    (case l_NoStation_init => first | k_is | rfl | decide +kernel)
    (case c_NoStation_init => first | k_is | rfl | decide +kernel)
    (case k_NoStation_init => first | k_is | rfl | decide +kernel)
    (case ga_NoStation => first | k_is | rfl | decide +kernel)
    (case gg_NoStation => first | k_is | rfl | decide +kernel)
    (case h_NoStation => first | k_is | rfl | decide +kernel)
    (case ic_NoStation => first | k_is | rfl | decide +kernel)
    (case ss_NoStation => first | k_is | rfl | decide +kernel)
    (case a_NoState => first | k_is | rfl | decide +kernel)
    (case x_NoState => first | k_is | rfl | decide +kernel)
    (case r_NoState => first | k_is | rfl | decide +kernel)
    (case s_a_NoState => first | k_is | rfl | decide +kernel)
    (case e_NoState => first | k_is | rfl | decide +kernel)
    (case t_NoState => first | k_is | rfl | decide +kernel)
    (case kc_NoState => first | k_is | rfl | decide +kernel)
    (case nf_NoState => first | k_is | rfl | decide +kernel)
    (case b_NoState_init => first | k_is | rfl | decide +kernel)
    (case ti_NoState_init => first | k_is | rfl | decide +kernel)
    (case l_NoState_init => first | k_is | rfl | decide +kernel)
    (case c_NoState_init => first | k_is | rfl | decide +kernel)
    (case k_NoState_init => first | k_is | rfl | decide +kernel)
    (case ga_NoState => first | k_is | rfl | decide +kernel)
    (case gg_NoState => first | k_is | rfl | decide +kernel)
    (case h_NoState => first | k_is | rfl | decide +kernel)
    (case ic_NoState => first | k_is | rfl | decide +kernel)
    (case ss_NoState => first | k_is | rfl | decide +kernel)
    (case a_NoSteps => first | k_is | rfl | decide +kernel)
    (case x_NoSteps => first | k_is | rfl | decide +kernel)
    (case r_NoSteps => first | k_is | rfl | decide +kernel)
    (case s_a_NoSteps => first | k_is | rfl | decide +kernel)
    (case e_NoSteps => first | k_is | rfl | decide +kernel)
    (case t_NoSteps => first | k_is | rfl | decide +kernel)
    (case kc_NoSteps => first | k_is | rfl | decide +kernel)
    (case nf_NoSteps => first | k_is | rfl | decide +kernel)
    (case b_NoSteps_init => first | k_is | rfl | decide +kernel)
    (case ti_NoSteps_init => first | k_is | rfl | decide +kernel)
    (case l_NoSteps_init => first | k_is | rfl | decide +kernel)
    (case c_NoSteps_init => first | k_is | rfl | decide +kernel)
    (case k_NoSteps_init => first | k_is | rfl | decide +kernel)
    (case ga_NoSteps => first | k_is | rfl | decide +kernel)
    (case gg_NoSteps => first | k_is | rfl | decide +kernel)
    (case h_NoSteps => first | k_is | rfl | decide +kernel)
    (case ic_NoSteps => first | k_is | rfl | decide +kernel)
    (case ss_NoSteps => first | k_is | rfl | decide +kernel)
    (case a_NoBound => first | k_is | rfl | decide +kernel)
    (case x_NoBound => first | k_is | rfl | decide +kernel)
    (case r_NoBound => first | k_is | rfl | decide +kernel)
    (case s_a_NoBound => first | k_is | rfl | decide +kernel)
    (case e_NoBound => first | k_is | rfl | decide +kernel)
    (case t_NoBound => first | k_is | rfl | decide +kernel)
    (case kc_NoBound => first | k_is | rfl | decide +kernel)
    (case nf_NoBound => first | k_is | rfl | decide +kernel)
    (case b_NoBound_init => first | k_is | rfl | decide +kernel)
    (case ti_NoBound_init => first | k_is | rfl | decide +kernel)
    (case l_NoBound_init => first | k_is | rfl | decide +kernel)
    (case c_NoBound_init => first | k_is | rfl | decide +kernel)
    (case k_NoBound_init => first | k_is | rfl | decide +kernel)
    (case ga_NoBound => first | k_is | rfl | decide +kernel)
    (case gg_NoBound => first | k_is | rfl | decide +kernel)
    (case h_NoBound => first | k_is | rfl | decide +kernel)
    (case ic_NoBound => first | k_is | rfl | decide +kernel)
    (case ss_NoBound => first | k_is | rfl | decide +kernel)
    (case a_NoChannel => first | k_is | rfl | decide +kernel)
    (case x_NoChannel => first | k_is | rfl | decide +kernel)
    (case r_NoChannel => first | k_is | rfl | decide +kernel)
    (case s_a_NoChannel => first | k_is | rfl | decide +kernel)
    (case e_NoChannel => first | k_is | rfl | decide +kernel)
    (case t_NoChannel => first | k_is | rfl | decide +kernel)
    (case kc_NoChannel => first | k_is | rfl | decide +kernel)
    (case nf_NoChannel => first | k_is | rfl | decide +kernel)
    (case b_NoChannel_init => first | k_is | rfl | decide +kernel)
    (case ti_NoChannel_init => first | k_is | rfl | decide +kernel)
    (case l_NoChannel_init => first | k_is | rfl | decide +kernel)
    (case c_NoChannel_init => first | k_is | rfl | decide +kernel)
    (case k_NoChannel_init => first | k_is | rfl | decide +kernel)
    (case ga_NoChannel => first | k_is | rfl | decide +kernel)
    (case gg_NoChannel => first | k_is | rfl | decide +kernel)
    (case h_NoChannel => first | k_is | rfl | decide +kernel)
    (case ic_NoChannel => first | k_is | rfl | decide +kernel)
    (case ss_NoChannel => first | k_is | rfl | decide +kernel)
    (case a_HasRing => first | k_is | rfl | decide +kernel)
    (case x_HasRing => first | k_is | rfl | decide +kernel)
    (case r_HasRing => first | k_is | rfl | decide +kernel)
    (case s_a_HasRing => first | k_is | rfl | decide +kernel)
    (case e_HasRing => first | k_is | rfl | decide +kernel)
    (case t_HasRing => first | k_is | rfl | decide +kernel)
    (case kc_HasRing => first | k_is | rfl | decide +kernel)
    (case nf_HasRing => first | k_is | rfl | decide +kernel)
    (case b_HasRing_init => first | k_is | rfl | decide +kernel)
    (case ti_HasRing_init => first | k_is | rfl | decide +kernel)
    (case l_HasRing_init => first | k_is | rfl | decide +kernel)
    (case c_HasRing_init => first | k_is | rfl | decide +kernel)
    (case k_HasRing_init => first | k_is | rfl | decide +kernel)
    (case ga_HasRing => first | k_is | rfl | decide +kernel)
    (case gg_HasRing => first | k_is | rfl | decide +kernel)
    (case h_HasRing => first | k_is | rfl | decide +kernel)
    (case ic_HasRing => first | k_is | rfl | decide +kernel)
    (case ss_HasRing => first | k_is | rfl | decide +kernel)
    (case a_NoSchedule => first | k_is | rfl | decide +kernel)
    (case x_NoSchedule => first | k_is | rfl | decide +kernel)
    (case r_NoSchedule => first | k_is | rfl | decide +kernel)
    (case s_a_NoSchedule => first | k_is | rfl | decide +kernel)
    (case e_NoSchedule => first | k_is | rfl | decide +kernel)
    (case t_NoSchedule => first | k_is | rfl | decide +kernel)
    (case kc_NoSchedule => first | k_is | rfl | decide +kernel)
    (case nf_NoSchedule => first | k_is | rfl | decide +kernel)
    (case b_NoSchedule_init => first | k_is | rfl | decide +kernel)
    (case ti_NoSchedule_init => first | k_is | rfl | decide +kernel)
    (case l_NoSchedule_init => first | k_is | rfl | decide +kernel)
    (case c_NoSchedule_init => first | k_is | rfl | decide +kernel)
    (case k_NoSchedule_init => first | k_is | rfl | decide +kernel)
    (case ga_NoSchedule => first | k_is | rfl | decide +kernel)
    (case gg_NoSchedule => first | k_is | rfl | decide +kernel)
    (case h_NoSchedule => first | k_is | rfl | decide +kernel)
    (case ic_NoSchedule => first | k_is | rfl | decide +kernel)
    (case ss_NoSchedule => first | k_is | rfl | decide +kernel)
    (case a_TooMany => first | k_is | rfl | decide +kernel)
    (case x_TooMany => first | k_is | rfl | decide +kernel)
    (case r_TooMany => first | k_is | rfl | decide +kernel)
    (case s_a_TooMany => first | k_is | rfl | decide +kernel)
    (case e_TooMany => first | k_is | rfl | decide +kernel)
    (case t_TooMany => first | k_is | rfl | decide +kernel)
    (case kc_TooMany => first | k_is | rfl | decide +kernel)
    (case nf_TooMany => first | k_is | rfl | decide +kernel)
    (case b_TooMany_init => first | k_is | rfl | decide +kernel)
    (case ti_TooMany_init => first | k_is | rfl | decide +kernel)
    (case l_TooMany_init => first | k_is | rfl | decide +kernel)
    (case c_TooMany_init => first | k_is | rfl | decide +kernel)
    (case k_TooMany_init => first | k_is | rfl | decide +kernel)
    (case ga_TooMany => first | k_is | rfl | decide +kernel)
    (case gg_TooMany => first | k_is | rfl | decide +kernel)
    (case h_TooMany => first | k_is | rfl | decide +kernel)
    (case ic_TooMany => first | k_is | rfl | decide +kernel)
    (case ss_TooMany => first | k_is | rfl | decide +kernel)
    (case a_NoClosedSet => first | k_is | rfl | decide +kernel)
    (case x_NoClosedSet => first | k_is | rfl | decide +kernel)
    (case r_NoClosedSet => first | k_is | rfl | decide +kernel)
    (case s_a_NoClosedSet => first | k_is | rfl | decide +kernel)
    (case e_NoClosedSet => first | k_is | rfl | decide +kernel)
    (case t_NoClosedSet => first | k_is | rfl | decide +kernel)
    (case kc_NoClosedSet => first | k_is | rfl | decide +kernel)
    (case nf_NoClosedSet => first | k_is | rfl | decide +kernel)
    (case b_NoClosedSet_init => first | k_is | rfl | decide +kernel)
    (case ti_NoClosedSet_init => first | k_is | rfl | decide +kernel)
    (case l_NoClosedSet_init => first | k_is | rfl | decide +kernel)
    (case c_NoClosedSet_init => first | k_is | rfl | decide +kernel)
    (case k_NoClosedSet_init => first | k_is | rfl | decide +kernel)
    (case ga_NoClosedSet => first | k_is | rfl | decide +kernel)
    (case gg_NoClosedSet => first | k_is | rfl | decide +kernel)
    (case h_NoClosedSet => first | k_is | rfl | decide +kernel)
    (case ic_NoClosedSet => first | k_is | rfl | decide +kernel)
    (case ss_NoClosedSet => first | k_is | rfl | decide +kernel)
    (case a_NoLink => first | k_is | rfl | decide +kernel)
    (case x_NoLink => first | k_is | rfl | decide +kernel)
    (case r_NoLink => first | k_is | rfl | decide +kernel)
    (case s_a_NoLink => first | k_is | rfl | decide +kernel)
    (case e_NoLink => first | k_is | rfl | decide +kernel)
    (case t_NoLink => first | k_is | rfl | decide +kernel)
    (case kc_NoLink => first | k_is | rfl | decide +kernel)
    (case nf_NoLink => first | k_is | rfl | decide +kernel)
    (case b_NoLink_init => first | k_is | rfl | decide +kernel)
    (case ti_NoLink_init => first | k_is | rfl | decide +kernel)
    (case l_NoLink_init => first | k_is | rfl | decide +kernel)
    (case c_NoLink_init => first | k_is | rfl | decide +kernel)
    (case k_NoLink_init => first | k_is | rfl | decide +kernel)
    (case ga_NoLink => first | k_is | rfl | decide +kernel)
    (case gg_NoLink => first | k_is | rfl | decide +kernel)
    (case h_NoLink => first | k_is | rfl | decide +kernel)
    (case ic_NoLink => first | k_is | rfl | decide +kernel)
    (case ss_NoLink => first | k_is | rfl | decide +kernel)
    (case a_NoNames => first | k_is | rfl | decide +kernel)
    (case x_NoNames => first | k_is | rfl | decide +kernel)
    (case r_NoNames => first | k_is | rfl | decide +kernel)
    (case s_a_NoNames => first | k_is | rfl | decide +kernel)
    (case e_NoNames => first | k_is | rfl | decide +kernel)
    (case t_NoNames => first | k_is | rfl | decide +kernel)
    (case kc_NoNames => first | k_is | rfl | decide +kernel)
    (case nf_NoNames => first | k_is | rfl | decide +kernel)
    (case b_NoNames_init => first | k_is | rfl | decide +kernel)
    (case ti_NoNames_init => first | k_is | rfl | decide +kernel)
    (case l_NoNames_init => first | k_is | rfl | decide +kernel)
    (case c_NoNames_init => first | k_is | rfl | decide +kernel)
    (case k_NoNames_init => first | k_is | rfl | decide +kernel)
    (case ga_NoNames => first | k_is | rfl | decide +kernel)
    (case gg_NoNames => first | k_is | rfl | decide +kernel)
    (case h_NoNames => first | k_is | rfl | decide +kernel)
    (case ic_NoNames => first | k_is | rfl | decide +kernel)
    (case ss_NoNames => first | k_is | rfl | decide +kernel)
    (case hnG => first | k_is | rfl | decide +kernel)
    (case htG => first | k_is | rfl | decide +kernel)
    (case kvG => first | k_is | rfl | decide +kernel)
    (case hc_NoNetwork => first | k_is | rfl | decide +kernel)
    (case hm_NoNetwork => first | k_is | rfl | decide +kernel)
    (case kb_NoNetwork => first | k_is | rfl | decide +kernel)
    (case kw_NoNetwork => first | k_is | rfl | decide +kernel)
    (case kk_NoNetwork_NoNetwork => first | k_is | rfl | decide +kernel)
    (case kk_NoNetwork_NoStation => first | k_is | rfl | decide +kernel)
    (case kk_NoNetwork_NoState => first | k_is | rfl | decide +kernel)
    (case kk_NoNetwork_NoSteps => first | k_is | rfl | decide +kernel)
    (case kk_NoNetwork_NoBound => first | k_is | rfl | decide +kernel)
    (case kk_NoNetwork_NoChannel => first | k_is | rfl | decide +kernel)
    (case kk_NoNetwork_HasRing => first | k_is | rfl | decide +kernel)
    (case kk_NoNetwork_NoSchedule => first | k_is | rfl | decide +kernel)
    (case kk_NoNetwork_TooMany => first | k_is | rfl | decide +kernel)
    (case kk_NoNetwork_NoClosedSet => first | k_is | rfl | decide +kernel)
    (case kk_NoNetwork_NoLink => first | k_is | rfl | decide +kernel)
    (case kk_NoNetwork_NoNames => first | k_is | rfl | decide +kernel)
    (case hc_NoStation => first | k_is | rfl | decide +kernel)
    (case hm_NoStation => first | k_is | rfl | decide +kernel)
    (case kb_NoStation => first | k_is | rfl | decide +kernel)
    (case kw_NoStation => first | k_is | rfl | decide +kernel)
    (case kk_NoStation_NoNetwork => first | k_is | rfl | decide +kernel)
    (case kk_NoStation_NoStation => first | k_is | rfl | decide +kernel)
    (case kk_NoStation_NoState => first | k_is | rfl | decide +kernel)
    (case kk_NoStation_NoSteps => first | k_is | rfl | decide +kernel)
    (case kk_NoStation_NoBound => first | k_is | rfl | decide +kernel)
    (case kk_NoStation_NoChannel => first | k_is | rfl | decide +kernel)
    (case kk_NoStation_HasRing => first | k_is | rfl | decide +kernel)
    (case kk_NoStation_NoSchedule => first | k_is | rfl | decide +kernel)
    (case kk_NoStation_TooMany => first | k_is | rfl | decide +kernel)
    (case kk_NoStation_NoClosedSet => first | k_is | rfl | decide +kernel)
    (case kk_NoStation_NoLink => first | k_is | rfl | decide +kernel)
    (case kk_NoStation_NoNames => first | k_is | rfl | decide +kernel)
    (case hc_NoState => first | k_is | rfl | decide +kernel)
    (case hm_NoState => first | k_is | rfl | decide +kernel)
    (case kb_NoState => first | k_is | rfl | decide +kernel)
    (case kw_NoState => first | k_is | rfl | decide +kernel)
    (case kk_NoState_NoNetwork => first | k_is | rfl | decide +kernel)
    (case kk_NoState_NoStation => first | k_is | rfl | decide +kernel)
    (case kk_NoState_NoState => first | k_is | rfl | decide +kernel)
    (case kk_NoState_NoSteps => first | k_is | rfl | decide +kernel)
    (case kk_NoState_NoBound => first | k_is | rfl | decide +kernel)
    (case kk_NoState_NoChannel => first | k_is | rfl | decide +kernel)
    (case kk_NoState_HasRing => first | k_is | rfl | decide +kernel)
    (case kk_NoState_NoSchedule => first | k_is | rfl | decide +kernel)
    (case kk_NoState_TooMany => first | k_is | rfl | decide +kernel)
    (case kk_NoState_NoClosedSet => first | k_is | rfl | decide +kernel)
    (case kk_NoState_NoLink => first | k_is | rfl | decide +kernel)
    (case kk_NoState_NoNames => first | k_is | rfl | decide +kernel)
    (case hc_NoSteps => first | k_is | rfl | decide +kernel)
    (case hm_NoSteps => first | k_is | rfl | decide +kernel)
    (case kb_NoSteps => first | k_is | rfl | decide +kernel)
    (case kw_NoSteps => first | k_is | rfl | decide +kernel)
    (case kk_NoSteps_NoNetwork => first | k_is | rfl | decide +kernel)
    (case kk_NoSteps_NoStation => first | k_is | rfl | decide +kernel)
    (case kk_NoSteps_NoState => first | k_is | rfl | decide +kernel)
    (case kk_NoSteps_NoSteps => first | k_is | rfl | decide +kernel)
    (case kk_NoSteps_NoBound => first | k_is | rfl | decide +kernel)
    (case kk_NoSteps_NoChannel => first | k_is | rfl | decide +kernel)
    (case kk_NoSteps_HasRing => first | k_is | rfl | decide +kernel)
    (case kk_NoSteps_NoSchedule => first | k_is | rfl | decide +kernel)
    (case kk_NoSteps_TooMany => first | k_is | rfl | decide +kernel)
    (case kk_NoSteps_NoClosedSet => first | k_is | rfl | decide +kernel)
    (case kk_NoSteps_NoLink => first | k_is | rfl | decide +kernel)
    (case kk_NoSteps_NoNames => first | k_is | rfl | decide +kernel)
    (case hc_NoBound => first | k_is | rfl | decide +kernel)
    (case hm_NoBound => first | k_is | rfl | decide +kernel)
    (case kb_NoBound => first | k_is | rfl | decide +kernel)
    (case kw_NoBound => first | k_is | rfl | decide +kernel)
    (case kk_NoBound_NoNetwork => first | k_is | rfl | decide +kernel)
    (case kk_NoBound_NoStation => first | k_is | rfl | decide +kernel)
    (case kk_NoBound_NoState => first | k_is | rfl | decide +kernel)
    (case kk_NoBound_NoSteps => first | k_is | rfl | decide +kernel)
    (case kk_NoBound_NoBound => first | k_is | rfl | decide +kernel)
    (case kk_NoBound_NoChannel => first | k_is | rfl | decide +kernel)
    (case kk_NoBound_HasRing => first | k_is | rfl | decide +kernel)
    (case kk_NoBound_NoSchedule => first | k_is | rfl | decide +kernel)
    (case kk_NoBound_TooMany => first | k_is | rfl | decide +kernel)
    (case kk_NoBound_NoClosedSet => first | k_is | rfl | decide +kernel)
    (case kk_NoBound_NoLink => first | k_is | rfl | decide +kernel)
    (case kk_NoBound_NoNames => first | k_is | rfl | decide +kernel)
    (case hc_NoChannel => first | k_is | rfl | decide +kernel)
    (case hm_NoChannel => first | k_is | rfl | decide +kernel)
    (case kb_NoChannel => first | k_is | rfl | decide +kernel)
    (case kw_NoChannel => first | k_is | rfl | decide +kernel)
    (case kk_NoChannel_NoNetwork => first | k_is | rfl | decide +kernel)
    (case kk_NoChannel_NoStation => first | k_is | rfl | decide +kernel)
    (case kk_NoChannel_NoState => first | k_is | rfl | decide +kernel)
    (case kk_NoChannel_NoSteps => first | k_is | rfl | decide +kernel)
    (case kk_NoChannel_NoBound => first | k_is | rfl | decide +kernel)
    (case kk_NoChannel_NoChannel => first | k_is | rfl | decide +kernel)
    (case kk_NoChannel_HasRing => first | k_is | rfl | decide +kernel)
    (case kk_NoChannel_NoSchedule => first | k_is | rfl | decide +kernel)
    (case kk_NoChannel_TooMany => first | k_is | rfl | decide +kernel)
    (case kk_NoChannel_NoClosedSet => first | k_is | rfl | decide +kernel)
    (case kk_NoChannel_NoLink => first | k_is | rfl | decide +kernel)
    (case kk_NoChannel_NoNames => first | k_is | rfl | decide +kernel)
    (case hc_HasRing => first | k_is | rfl | decide +kernel)
    (case hm_HasRing => first | k_is | rfl | decide +kernel)
    (case kb_HasRing => first | k_is | rfl | decide +kernel)
    (case kw_HasRing => first | k_is | rfl | decide +kernel)
    (case kk_HasRing_NoNetwork => first | k_is | rfl | decide +kernel)
    (case kk_HasRing_NoStation => first | k_is | rfl | decide +kernel)
    (case kk_HasRing_NoState => first | k_is | rfl | decide +kernel)
    (case kk_HasRing_NoSteps => first | k_is | rfl | decide +kernel)
    (case kk_HasRing_NoBound => first | k_is | rfl | decide +kernel)
    (case kk_HasRing_NoChannel => first | k_is | rfl | decide +kernel)
    (case kk_HasRing_HasRing => first | k_is | rfl | decide +kernel)
    (case kk_HasRing_NoSchedule => first | k_is | rfl | decide +kernel)
    (case kk_HasRing_TooMany => first | k_is | rfl | decide +kernel)
    (case kk_HasRing_NoClosedSet => first | k_is | rfl | decide +kernel)
    (case kk_HasRing_NoLink => first | k_is | rfl | decide +kernel)
    (case kk_HasRing_NoNames => first | k_is | rfl | decide +kernel)
    (case hc_NoSchedule => first | k_is | rfl | decide +kernel)
    (case hm_NoSchedule => first | k_is | rfl | decide +kernel)
    (case kb_NoSchedule => first | k_is | rfl | decide +kernel)
    (case kw_NoSchedule => first | k_is | rfl | decide +kernel)
    (case kk_NoSchedule_NoNetwork => first | k_is | rfl | decide +kernel)
    (case kk_NoSchedule_NoStation => first | k_is | rfl | decide +kernel)
    (case kk_NoSchedule_NoState => first | k_is | rfl | decide +kernel)
    (case kk_NoSchedule_NoSteps => first | k_is | rfl | decide +kernel)
    (case kk_NoSchedule_NoBound => first | k_is | rfl | decide +kernel)
    (case kk_NoSchedule_NoChannel => first | k_is | rfl | decide +kernel)
    (case kk_NoSchedule_HasRing => first | k_is | rfl | decide +kernel)
    (case kk_NoSchedule_NoSchedule => first | k_is | rfl | decide +kernel)
    (case kk_NoSchedule_TooMany => first | k_is | rfl | decide +kernel)
    (case kk_NoSchedule_NoClosedSet => first | k_is | rfl | decide +kernel)
    (case kk_NoSchedule_NoLink => first | k_is | rfl | decide +kernel)
    (case kk_NoSchedule_NoNames => first | k_is | rfl | decide +kernel)
    (case hc_TooMany => first | k_is | rfl | decide +kernel)
    (case hm_TooMany => first | k_is | rfl | decide +kernel)
    (case kb_TooMany => first | k_is | rfl | decide +kernel)
    (case kw_TooMany => first | k_is | rfl | decide +kernel)
    (case kk_TooMany_NoNetwork => first | k_is | rfl | decide +kernel)
    (case kk_TooMany_NoStation => first | k_is | rfl | decide +kernel)
    (case kk_TooMany_NoState => first | k_is | rfl | decide +kernel)
    (case kk_TooMany_NoSteps => first | k_is | rfl | decide +kernel)
    (case kk_TooMany_NoBound => first | k_is | rfl | decide +kernel)
    (case kk_TooMany_NoChannel => first | k_is | rfl | decide +kernel)
    (case kk_TooMany_HasRing => first | k_is | rfl | decide +kernel)
    (case kk_TooMany_NoSchedule => first | k_is | rfl | decide +kernel)
    (case kk_TooMany_TooMany => first | k_is | rfl | decide +kernel)
    (case kk_TooMany_NoClosedSet => first | k_is | rfl | decide +kernel)
    (case kk_TooMany_NoLink => first | k_is | rfl | decide +kernel)
    (case kk_TooMany_NoNames => first | k_is | rfl | decide +kernel)
    (case hc_NoClosedSet => first | k_is | rfl | decide +kernel)
    (case hm_NoClosedSet => first | k_is | rfl | decide +kernel)
    (case kb_NoClosedSet => first | k_is | rfl | decide +kernel)
    (case kw_NoClosedSet => first | k_is | rfl | decide +kernel)
    (case kk_NoClosedSet_NoNetwork => first | k_is | rfl | decide +kernel)
    (case kk_NoClosedSet_NoStation => first | k_is | rfl | decide +kernel)
    (case kk_NoClosedSet_NoState => first | k_is | rfl | decide +kernel)
    (case kk_NoClosedSet_NoSteps => first | k_is | rfl | decide +kernel)
    (case kk_NoClosedSet_NoBound => first | k_is | rfl | decide +kernel)
    (case kk_NoClosedSet_NoChannel => first | k_is | rfl | decide +kernel)
    (case kk_NoClosedSet_HasRing => first | k_is | rfl | decide +kernel)
    (case kk_NoClosedSet_NoSchedule => first | k_is | rfl | decide +kernel)
    (case kk_NoClosedSet_TooMany => first | k_is | rfl | decide +kernel)
    (case kk_NoClosedSet_NoClosedSet => first | k_is | rfl | decide +kernel)
    (case kk_NoClosedSet_NoLink => first | k_is | rfl | decide +kernel)
    (case kk_NoClosedSet_NoNames => first | k_is | rfl | decide +kernel)
    (case hc_NoLink => first | k_is | rfl | decide +kernel)
    (case hm_NoLink => first | k_is | rfl | decide +kernel)
    (case kb_NoLink => first | k_is | rfl | decide +kernel)
    (case kw_NoLink => first | k_is | rfl | decide +kernel)
    (case kk_NoLink_NoNetwork => first | k_is | rfl | decide +kernel)
    (case kk_NoLink_NoStation => first | k_is | rfl | decide +kernel)
    (case kk_NoLink_NoState => first | k_is | rfl | decide +kernel)
    (case kk_NoLink_NoSteps => first | k_is | rfl | decide +kernel)
    (case kk_NoLink_NoBound => first | k_is | rfl | decide +kernel)
    (case kk_NoLink_NoChannel => first | k_is | rfl | decide +kernel)
    (case kk_NoLink_HasRing => first | k_is | rfl | decide +kernel)
    (case kk_NoLink_NoSchedule => first | k_is | rfl | decide +kernel)
    (case kk_NoLink_TooMany => first | k_is | rfl | decide +kernel)
    (case kk_NoLink_NoClosedSet => first | k_is | rfl | decide +kernel)
    (case kk_NoLink_NoLink => first | k_is | rfl | decide +kernel)
    (case kk_NoLink_NoNames => first | k_is | rfl | decide +kernel)
    (case hc_NoNames => first | k_is | rfl | decide +kernel)
    (case hm_NoNames => first | k_is | rfl | decide +kernel)
    (case kb_NoNames => first | k_is | rfl | decide +kernel)
    (case kw_NoNames => first | k_is | rfl | decide +kernel)
    (case kk_NoNames_NoNetwork => first | k_is | rfl | decide +kernel)
    (case kk_NoNames_NoStation => first | k_is | rfl | decide +kernel)
    (case kk_NoNames_NoState => first | k_is | rfl | decide +kernel)
    (case kk_NoNames_NoSteps => first | k_is | rfl | decide +kernel)
    (case kk_NoNames_NoBound => first | k_is | rfl | decide +kernel)
    (case kk_NoNames_NoChannel => first | k_is | rfl | decide +kernel)
    (case kk_NoNames_HasRing => first | k_is | rfl | decide +kernel)
    (case kk_NoNames_NoSchedule => first | k_is | rfl | decide +kernel)
    (case kk_NoNames_TooMany => first | k_is | rfl | decide +kernel)
    (case kk_NoNames_NoClosedSet => first | k_is | rfl | decide +kernel)
    (case kk_NoNames_NoLink => first | k_is | rfl | decide +kernel)
    (case kk_NoNames_NoNames => first | k_is | rfl | decide +kernel)
    (case a_law_draw => first | k_is | rfl | decide +kernel)
    (case l_law_draw => first | k_is | rfl | decide +kernel)
    (case c_law_draw => first | k_is | rfl | decide +kernel)
    (case k_law_draw => first | k_is | rfl | decide +kernel)
    (case a_law_taken => first | k_is | rfl | decide +kernel)
    (case l_law_taken => first | k_is | rfl | decide +kernel)
    (case c_law_taken => first | k_is | rfl | decide +kernel)
    (case k_law_taken => first | k_is | rfl | decide +kernel)
    (case a_law_by_place => first | k_is | rfl | decide +kernel)
    (case l_law_by_place => first | k_is | rfl | decide +kernel)
    (case c_law_by_place => first | k_is | rfl | decide +kernel)
    (case k_law_by_place => first | k_is | rfl | decide +kernel)
    (case a_law_by_name => first | k_is | rfl | decide +kernel)
    (case l_law_by_name => first | k_is | rfl | decide +kernel)
    (case c_law_by_name => first | k_is | rfl | decide +kernel)
    (case k_law_by_name => first | k_is | rfl | decide +kernel)
    (case a_law_fields => first | k_is | rfl | decide +kernel)
    (case l_law_fields => first | k_is | rfl | decide +kernel)
    (case c_law_fields => first | k_is | rfl | decide +kernel)
    (case k_law_fields => first | k_is | rfl | decide +kernel)
    (case a_law_right => first | k_is | rfl | decide +kernel)
    (case l_law_right => first | k_is | rfl | decide +kernel)
    (case c_law_right => first | k_is | rfl | decide +kernel)
    (case k_law_right => first | k_is | rfl | decide +kernel)
    (case a_law => first | k_is | rfl | decide +kernel)
    (case l_law => first | k_is | rfl | decide +kernel)
    (case c_law => first | k_is | rfl | decide +kernel)
    (case k_law => first | k_is | rfl | decide +kernel)
    (case z1 => first | k_is | rfl | decide +kernel)
    (case z2 => first | k_is | rfl | decide +kernel)
    (case z3 => first | k_is | rfl | decide +kernel)
    (case z4 => first | k_is | rfl | decide +kernel)
    (case z5 => first | k_is | rfl | decide +kernel)
    (case z6 => first | k_is | rfl | decide +kernel)
    (case z7 => first | k_is | rfl | decide +kernel)
    (case z8 => first | k_is | rfl | decide +kernel)
    (case z9 => first | k_is | rfl | decide +kernel)
    (case z10 => first | k_is | rfl | decide +kernel)
    (case z11 => first | k_is | rfl | decide +kernel)
    (case z12 => first | k_is | rfl | decide +kernel)
    (case z13 => first | k_is | rfl | decide +kernel)
    (case z14 => first | k_is | rfl | decide +kernel)
    (case z15 => first | k_is | rfl | decide +kernel)
    (case z16 => first | k_is | rfl | decide +kernel)
    (case z17 => first | k_is | rfl | decide +kernel)
