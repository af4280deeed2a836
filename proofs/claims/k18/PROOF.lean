import PyProof.Rows.All
import Wide.All
import OpenK.AllK
import Wide.FinOn
import HandS.ForMost
import HandS.ForExc
import HandS.ExcInit
import HandS.IsInst
import HandS.TryMany
import HandS.Lambda
import HandS.SortInts
import HandS.SortRule
import HandS.TupAny
import HandS.TupMul
import HandS.TupLe
import HandS.Deep
import HandS.DictTup
import HandS.ExcIs
import HandS.HotCalls
import HandS.Codes
import HandS.Conv
import HandS.Style
import HandS.Strs
import HandS.Flow
import HandS.Defaults
import HandS.OwnEq
import HandS.Zip
import HandS.SuiteRaise
import HandS.ExcInitHot
import HandS.EndTab
import KE.SortUse
import PyProof.InstNe
import KE.GoesEnum
import PyProof.LongRange
import PyProof.ReprBulk
import KE.KExcIs
import HandS.ExcValue
import KE.DatumOrd
import KE.KDictDisplayH
import HandS.MakeKw
import PySem.Challenge.RW_nextchannel_k18_networks_by_names
set_option Elab.async false
set_option linter.all false
set_option maxRecDepth 100000
set_option maxHeartbeats 4000000
namespace NC
open PySem PySem.Spec PyProof.Rows L2

section
variable {X : Cx} {a b c d : Expr} {ta tb tc td : TE} {pos : Pos}
/-- a op1 b op2 c op3 d -/
def tChain3 (r1 r2 r3 : R2) (ta tb tc td : TE) : TE := fun σ H Q => ta σ H fun x H1 => tb σ H1 fun y H2 => r1 x y H2 fun z H3 => ∃ k, z = .bl k ∧
  (if k = true then tc σ H3 fun y2 H4 => r2 y y2 H4 fun z2 H5 => ∃ k2, z2 = .bl k2 ∧ (if k2 = true then td σ H5 fun y3 H6 => r3 y2 y3 H6 Q else Q (.bl false) H5) else Q (.bl false) H3)
theorem pe_chain3 {op1 op2 op3 : CmpOp} {r1 r2 r3 : R2} (ho1 : OpR X (compareOp op1) r1) (ho2 : OpR X (compareOp op2) r2) (ho3 : OpR X (compareOp op3) r3) (ha : PE X a ta) (hb : PE X b tb) (hc : PE X c tc) (hd : PE X d td)
    (hm : lastMarks [op1, op2, op3] [b, c, d] = false := by with_unfolding_all rfl) : PE X (.Compare a [op1, op2, op3] [b, c, d] pos) (tChain3 r1 r2 r3 ta tb tc td) := by
  refine ⟨fun pins s σ H Q I h => ?_⟩
  refine Compare_chain (thn (ha.run pins s σ H _ I h) fun v s1 ⟨x, H1, I1, q1r, q1⟩ => chain_link (thn (hb.run pins s1 σ H1 _ I1 q1) fun u s2 ⟨y, H2, I2, q2r, q2⟩ =>
    thn (ho1 pins s2 σ H2 x y v u _ I2 q1r q2r q2) fun e s3 ⟨z, H3, I3, r3', k, ez, q3⟩ => ?_)) hm
  subst ez
  cases r3'
  refine wpAny_truthy_bool ?_
  cases k with
  | false => exact ite_ff ⟨.bl false, H3, I3, rfl, q3⟩
  | true =>
    refine ite_tt (chain_link (thn (hc.run pins s3 σ H3 _ I3 q3) fun u2 s4 ⟨y2, H4, I4, r4, q4⟩ => thn (ho2 pins s4 σ H4 y y2 u u2 _ I4 q2r r4 q4) fun e2 s5 ⟨z2, H5, I5, r5, k2, ez2, q5⟩ => ?_))
    subst ez2
    cases r5
    refine wpAny_truthy_bool ?_
    cases k2 with
    | false => exact ite_ff ⟨.bl false, H5, I5, rfl, q5⟩
    | true => exact ite_tt (chain_last (thn (hd.run pins s5 σ H5 _ I5 q5) fun u3 s6 ⟨y3, H6, I6, r6, q6⟩ => ho3 pins s6 σ H6 y2 y3 u2 u3 Q I6 r4 r6 q6))
end

section
variable {X : Cx} {k : Nat} {C f : Addr} {fd : FuncData} {ps : List Str} {sp : Sp}
/-- a def run one C frame deeper, from a body -/
theorem run_in1 {CX : CXT} {E : XK} {pins : List (Addr × Obj)} {σ : L2.St} {H : Hp} {s : Shared} {Q : VK} {us : List Value} {vs : List V} (F : FnOk X.prog X.w X.K X.mg X.base CX k f fd ps sp) (hr : Room (k + 1) X.A) (hb : Binds X.K fd ps [])
    (hx : Passes CX X E) (I : Inv X pins σ H s) (r : Vals vs us) (h : sp vs H Q E) : wpAny (model X.prog X.w) X.A.in1 (call (.ref f) us) (EP X pins σ Q) X.xe s := by
  have hl : us.length = ps.length := by rw [← r.length]; exact F.len _ _ _ _ h
  refine wpAny_call (codeAny_mono (F.run X.A.in1 X.stack s H ⟨us, []⟩ us vs Q E hr.in1 I.env0.in1 (by simpa using hb s us I.kIn (by simpa using hl)) r h) fun r s' hq => ?_)
  cases r with
  | error e => exact hx pins σ H s e s' I hq
  | ok fl =>
    cases fl with
    | ret u => exact I.after hq
    | next => exact False.elim hq
    | brk => exact False.elim hq
    | cont => exact False.elim hq
/-- len(o), o an instance of a class with its own __len__ -/
def rLenOwn (C : Addr) (sp : Sp) (E : XK) : List V → Hp → VK → Prop := fun xs H Q => ∃ a dx fs, xs = [.ref a] ∧ H a = some (.ins C dx fs) ∧ sp [.ref a] H (fun v H' => ∃ n : Nat, v = .int n ∧ n < 2 ^ 62 ∧ Q (.int n) H') E
theorem call_lenOwn {CX : CXT} {E : XK} (F : FnOk X.prog X.w X.K X.mg X.base CX k f fd ps sp) (hr : Room (k + 1) X.A) (hb : Binds X.K fd ps []) (hs : PySem.W.findIn X.K (.ref C) "__len__" = some (some (.ref f))) (hf : PySem.W.isFn X.K (.ref f) = true)
    (hx : Passes CX X E) : CallR X (.builtin "len") (rLenOwn C sp E) := by
  intro pins s σ H xs vs Q I r q
  obtain ⟨a, dx, fs, rfl, ha, q⟩ := q
  cases r with
  | cons r0 rr =>
    cases rr
    cases r0
    obtain ⟨mA, J, _⟩ := ins_get I.hok ha
    obtain ⟨od, J, _⟩ := J.look
    obtain ⟨m, hF⟩ := I.fr
    refine PySem.W.len_K hF I.ok.mod.kin J hs hf (thn (run_in1 (us := [.ref a]) (vs := [.ref a]) F hr hb hx I (.cons rfl .nil) q) fun u s' hh => ?_)
    obtain ⟨v, H', I', rv, n, ev, hn, q'⟩ := hh
    subst ev
    obtain ⟨t, rfl⟩ := rv
    refine ⟨⟨by omega, by omega⟩, ⟨.int n, H', I'.tok _, ⟨_, rfl⟩, q'⟩⟩
end

/-! ### ChannelError.__init__(self, text), an own class over ValueError that inherits __init__ -/
/-- the base class of the exceptions, at B -/
structure CeB (K : PySem.W.Frag) (mg : Str → Option Value) (B : Addr) : Prop where
  g : mg "ChannelError" = some (.ref B)
  ga : PySem.W.specialIn K (.ref B) "__getattribute__" = some (some (.builtin "type.__getattribute__"))
  rd : PySem.W.readsIn K B (.type "type") = true
  vI : PySem.W.findCls K (.ref B) (.type "type") "__init__" = some (.val (.builtin "ValueError.__init__"))
section
variable {X : Cx} {e : Expr} {es : List Expr} {ta : TA} {p1 p2 pos : Pos} {B : Addr}
theorem pe_ceinit {pl : Sem Bool} (T : CeB X.K X.mg B) (hg : Gl X "ChannelError") (ha : PA X (e :: es) ta)
    (hc : eval (.Call (.Attribute (.Name "ChannelError" p1) "__init__" p2) (e :: es) [] pos) X.env = (do
      let ov ← eval (.Name "ChannelError" p1) X.env
      standAt p2.atName
      let (f, first) ← holding [ov] (getMethod ov "__init__" pl)
      callWith pos f first (backTo pos (starEach (e :: es) X.env)) (backToKw pos (keywordEach [] X.env))) := by rfl)
    (he : starEach (e :: es) X.env = (false, eval e X.env) :: starEach es X.env := by rfl) (hpl : (backTo pos (starEach es X.env)).any (·.1) = false := by rfl) :
    PE X (.Call (.Attribute (.Name "ChannelError" p1) "__init__" p2) (e :: es) [] pos) (tVeI X.K ta) := by
  refine ⟨fun pins s σ H Q I h => ?_⟩
  refine PySem.W.methodCall_KW (ld_glob I hg T.g ?_) hc
  refine PySem.W.method_cls I.kIn T.ga (PySem.W.cls_value I.kIn T.rd T.vI (by decide +kernel) ?_)
  show wpAny _ _ (callWith pos (Value.builtin "ValueError.__init__") [] (backTo pos (starEach (e :: es) X.env)) []) _ _ _
  refine PyProof.Rows.callWith_method1 (thn (ha.run pos pins _ σ H _ (I.tok _) h) fun us s1 ⟨vs, H1, I1, r1, a, C, ws, ev, hl, T, ea, q⟩ => ?_) he hpl
  subst ev
  cases r1 with
  | @cons _ u0 _ ur ra rw' =>
    obtain rfl : u0 = Value.ref a := ra
    have hlen : ur.length ≤ sizeLine := by
      rw [← Paired.length rw', sizeLine_eq]
      omega
    exact oinit_ok T I1 ea hlen fun s' J => ⟨.non, H1, J, rfl, q⟩
end
end NC

namespace NC
open PySem PySem.Spec PyProof.Rows L2

/-- at a: a list of three ints, whatever they are (a well of drawn numbers) -/
def WellO (a : Addr) : HO := .ext fun h => ∃ (x y z : Int) (t1 t2 t3 : Tok) (n : Nat), h.get? a = some ({ cls := .type "list", data := .seq #[.int x t1, .int y t2, .int z t3] n } : Obj)
/-- an object that nothing leans on: not a tuple, not an instance's dict, not locked, no table -/
def Loose : HO → Bool
  | .tup _ => false
  | .own _ => false
  | .frz _ _ => false
  | .tbl _ => false
  | _ => true
theorem loose_well {a : Addr} : Loose (WellO a) = true := rfl
theorem loose_lst {xs : List V} : Loose (.lst xs) = true := rfl
section
variable {P : Program} {w : World} {H H' : Hp} {h h' : Heap} {a : Addr} {o o1 : HO}
theorem ne_loose {b : Addr} {u : HO} (ha : H a = some o) (lo : Loose o = true) (hb : H b = some u) (lu : Loose u = false) : b ≠ a := fun z => by
  rw [z, ha] at hb
  cases hb
  rw [lo] at lu
  cases lu
/-- the object at a told otherwise -/
theorem hok_swap (x : HOk P w H h) (ha : H a = some o) (lo : Loose o = true) (new : ObjOk P w (upd H a o1) h a o1) : HOk P w (upd H a o1) h := fun b u q => by
  by_cases hb : b = a
  · subst hb
    rw [upd_same] at q
    cases q
    exact new
  · rw [upd_ne hb] at q
    exact (x b u q).stay (fun _ _ _ z => z) (fun c hc => by rw [upd_ne (ne_loose ha lo hc rfl)]; exact hc) fun c xs hc => by rw [upd_ne (ne_loose ha lo hc rfl)]; exact hc
theorem none_swap {b : Addr} (ha : H a = some o) (n : H b = none) : upd H a o1 b = none := by
  rw [upd_ne (fun z => by rw [z, ha] at n; cases n)]
  exact n
theorem un_swap {fs ex : List Addr} {h1 : Heap} (ha : H a = some o) (lo : Loose o = true) (ha' : H' a = some o1) (lo' : Loose o1 = true) {o2 : HO} (lo2 : Loose o2 = true) (un : Un fs ex (upd H a o2) H' h h1) (o3 : HO) (lo3 : Loose o3 = true) : Un fs ex H (upd H' a o3) h h1 where
  keep := fun b u q n hf hx => un.keep b u q (none_swap ha n) hf hx
  slot := fun b u q n hf hx => un.slot b u q (none_swap ha n) hf hx
  free := fun b u q n hx => none_swap ha' (un.free b u q (none_swap ha n) hx)
  there := un.there
  tups := fun b xs q => by
    have e := un.tups b xs (by rw [upd_ne (ne_loose ha lo q rfl)]; exact q)
    rw [upd_ne (ne_loose ha' lo' e rfl)]
    exact e
  frzs := fun b u xs q => by
    have e := un.frzs b u xs (by rw [upd_ne (ne_loose ha lo q rfl)]; exact q)
    rw [upd_ne (ne_loose ha' lo' e rfl)]
    exact e
  tbls := fun b ps q => by
    obtain ⟨m, e⟩ := un.tbls b ps (by rw [upd_ne (ne_loose ha lo q rfl)]; exact q)
    exact ⟨m, by rw [upd_ne (ne_loose ha' lo' e rfl)]; exact e⟩
theorem well_open (x : HOk P w H h) (ha : H a = some (WellO a)) : ∃ p q r : Int, ObjOk P w (upd H a (.lst [.int p, .int q, .int r])) h a (.lst [.int p, .int q, .int r]) := by
  have y : ObjOk P w H h a (.ext fun h => ∃ (x y z : Int) (t1 t2 t3 : Tok) (n : Nat), h.get? a = some ({ cls := .type "list", data := .seq #[.int x t1, .int y t2, .int z t3] n } : Obj)) := x a _ ha
  obtain ⟨⟨p, q, r, t1, t2, t3, n, e⟩, _⟩ := y
  exact ⟨p, q, r, by show 3 ≤ sizeLine; decide, [.int p t1, .int q t2, .int r t3], n, .cons ⟨_, rfl⟩ (.cons ⟨_, rfl⟩ (.cons ⟨_, rfl⟩ .nil)), e⟩
theorem well_shut {p q r : Int} {H1 : Hp} (x : ObjOk P w H h a (.lst [.int p, .int q, .int r])) : ObjOk P w H1 h a (WellO a) := by
  obtain ⟨_, its, n, rv, e⟩ := x
  cases rv with
  | cons r1 rv =>
    cases rv with
    | cons r2 rv =>
      cases rv with
      | cons r3 rv =>
        cases rv
        obtain ⟨t1, rfl⟩ := r1
        obtain ⟨t2, rfl⟩ := r2
        obtain ⟨t3, rfl⟩ := r3
        exact ⟨⟨p, q, r, t1, t2, t3, n, e⟩, ⟨_, e⟩, fun h1 h2 ⟨x, y, z, u1, u2, u3, m, e1⟩ k => ⟨x, y, z, u1, u2, u3, m, k _ e1⟩⟩
end
section
variable {P : Program} {w : World} {K : PySem.W.Frag} {mg : Str → Option Value} {base : Heap} {k : Nat} {f : Addr} {fd : FuncData} {ps : List Str} {sp sp' : Sp}
theorem env0_swap {A : Around} {outer : List Env} {s : Shared} {H : Hp} {a : Addr} {o o1 : HO} (e : Env0 P w K mg base A outer s H) (ha : H a = some o) (lo : Loose o = true) (new : ObjOk P w (upd H a o1) s.heap a o1) : Env0 P w K mg base A outer s (upd H a o1) :=
  ⟨e.frames, e.mod, fun b u q => ⟨(e.bs b u q).1, none_swap ha (e.bs b u q).2⟩, e.bsz, e.funs, fun b hb => none_swap ha (e.frf b hb), hok_swap e.hok ha lo new, e.bare⟩
/-- a def that is proved over the well's list keeps a promise over the well -/
theorem well_in (F : FnOk P w K mg base CX0 k f fd ps sp) (h : ∀ vs H Q E, sp' vs H Q E → vs.length = ps.length ∧ ∃ a, H a = some (WellO a) ∧ ∀ x y z : Int, sp vs (upd H a (.lst [.int x, .int y, .int z]))
      (fun v H' => ∃ x' y' z' : Int, H' a = some (.lst [.int x', .int y', .int z']) ∧ Q v (upd H' a (WellO a))) E) : FnOk P w K mg base CX0 k f fd ps sp' := by
  refine ⟨fun vs H Q E q => (h vs H Q E q).1, fun A outer s H args us vs Q E hr e0 hb hv q => ?_⟩
  obtain ⟨_, a, ha, hq⟩ := h vs H Q E q
  obtain ⟨x, y, z, ho⟩ := well_open e0.hok ha
  refine codeAny_mono (F.run A outer s _ args us vs _ E hr (env0_swap e0 ha loose_well ho) hb hv (hq x y z)) fun r s' hh => ?_
  cases r with
  | error e => exact hh
  | ok fl =>
    cases fl with
    | ret u =>
      obtain ⟨v, H', os, bare, un, hok, rv, x', y', z', e', q'⟩ := hh
      exact ⟨v, _, os, bare, un_swap ha loose_well e' loose_lst loose_lst un (WellO a) loose_well, hok_swap hok e' loose_lst (well_shut (hok a _ e')), rv, q'⟩
    | next => exact hh
    | brk => exact hh
    | cont => exact hh
/-- a def that is promised a well may be handed a new list of three ints -/
theorem well_out (F : FnOk P w K mg base CX0 k f fd ps sp) (h : ∀ vs H Q E, sp' vs H Q E → vs.length = ps.length ∧ ∃ (a : Addr) (x y z : Int), H a = some (.lst [.int x, .int y, .int z]) ∧ sp vs (upd H a (WellO a)) (fun v H' => H' a = some (WellO a) ∧ Q v H') E) : FnOk P w K mg base CX0 k f fd ps sp' := by
  refine ⟨fun vs H Q E q => (h vs H Q E q).1, fun A outer s H args us vs Q E hr e0 hb hv q => ?_⟩
  obtain ⟨_, a, x, y, z, ha, hq⟩ := h vs H Q E q
  refine codeAny_mono (F.run A outer s _ args us vs _ E hr (env0_swap e0 ha loose_lst (well_shut (e0.hok a _ ha))) hb hv hq) fun r s' hh => ?_
  cases r with
  | error e => exact hh
  | ok fl =>
    cases fl with
    | ret u =>
      obtain ⟨v, H', os, bare, un, hok, rv, e', q'⟩ := hh
      have un' := un_swap ha loose_lst e' loose_well loose_well un (WellO a) loose_well
      have eu : upd H' a (WellO a) = H' := by
        funext b
        by_cases hb : b = a
        · rw [hb, upd_same, e']
        · rw [upd_ne hb]
      rw [eu] at un'
      exact ⟨v, H', os, bare, un', hok, rv, q'⟩
    | next => exact hh
    | brk => exact hh
    | cont => exact hh
end
end NC

namespace NC
open PySem PySem.Spec PyProof.Rows L2

/-- H' is H with a new object o at p -/
structure NewO (H : Hp) (p : Addr) (o : HO) (H' : Hp) : Prop where
  no : H p = none
  s : Same H H'
  at' : H' p = some o
  k : ∀ b, b ≠ p → H' b = H b
theorem newO {H : Hp} {p : Addr} {o : HO} (hp : H p = none) : NewO H p o (upd H p o) := ⟨hp, fun b u e => by rw [upd_ne (ne_of_none e hp)]; exact e, upd_same, fun b hb => upd_ne hb⟩
theorem hu65 {k : Nat} {A : Around} (hr : Room k A) : A.units + 65 < cLine := by have := hr.un; omega

section
variable (P : Program) (w : World) (K : PySem.W.Frag) (mg : Str → Option Value) (base : Heap)
/-- a def of the module, by its name -/
structure Cal (CX : CXT) (k : Nat) (x : Str) (sp : Sp) : Prop where
  ex : ∃ (f : Addr) (fd : FuncData) (ps : List Str), FnOk P w K mg base CX k f fd ps sp ∧ mg x = some (.ref f) ∧ PySem.W.keepIn K (.ref f) = true ∧ Binds K fd ps []
/-- a method m of the class at C -/
structure CalM (CX : CXT) (k : Nat) (C : Addr) (m : Str) (sp : Sp) : Prop where
  ex : ∃ (f : Addr) (fd : FuncData) (ps : List Str), FnOk P w K mg base CX k f fd ps sp ∧ Meth K C m f ∧ Binds K fd ps [] ∧ Cls K C
/-- a class of the module with its __init__ -/
structure CalC (CX : CXT) (k : Nat) (x : Str) (C : Addr) (sp : Sp) : Prop where
  ex : ∃ (f : Addr) (fd : FuncData) (ps : List Str), FnOk P w K mg base CX k f fd ps sp ∧ mg x = some (.ref C) ∧ Mk K C f ∧ Binds K fd ps []
/-- an own exception class, its __init__ stores one field -/
structure CalX (k : Nat) (x : Str) (C : Addr) (f : Str) (sp : Sp) : Prop where
  ex : ∃ (fI : Addr) (fd : FuncData) (ps : List Str), FnOk P w K mg base CX0 k fI fd ps sp ∧ mg x = some (.ref C) ∧ PySem.W.findIn K (.ref C) "__init__" = some (some (.ref fI)) ∧ PySem.W.typeIn K (.ref fI) = some (.type "function") ∧ Binds K fd ps []
  oex : OexC K C
  nf : PySem.W.findIn K (.ref C) f = some none
end
section
variable {X : Cx} {CX : CXT} {j k : Nat} {C : Addr} {ps : List Str} {sp : Sp} {E : XK} {x m : Str} {p pos apos : Pos} {e o : Expr} {es : List Expr} {ta : TE} {t : TA}
theorem pe_cal (hr : Room j X.A) (hk : k ≤ j) (c : Cal X.prog X.w X.K X.mg X.base CX k x sp) (hx : Passes CX X E) (hg : Gl X x) (ha : PA X (e :: es) t) (hdb : (x == ("__debug__" : Str)) = false := by decide)
    (he : starEach (e :: es) X.env = (false, eval e X.env) :: starEach es X.env := by rfl) (hpl : (backTo pos (starEach es X.env)).any (·.1) = false := by rfl) : PE X (.Call (.Name x p) (e :: es) [] pos) (tCall sp [] E t) := by
  obtain ⟨f, fd, ps, F, hm, hkp, hb⟩ := c.ex
  exact pe_call F (hr.mono hk) hg hm hkp hb .nil hx ha hdb he hpl
theorem pe_calM {pl : Sem Bool} (ho : PE X o ta) (hr : Room j X.A) (hk : k ≤ j) (c : CalM X.prog X.w X.K X.mg X.base CX k C m sp) (hx : Passes CX X E) (ha : PA X (e :: es) t)
    (hc : eval (.Call (.Attribute o m apos) (e :: es) [] pos) X.env = (do
      let ov ← eval o X.env
      standAt apos.atName
      let (f, first) ← holding [ov] (getMethod ov m pl)
      callWith pos f first (backTo pos (starEach (e :: es) X.env)) (backToKw pos (keywordEach [] X.env))) := by rfl)
    (he : starEach (e :: es) X.env = (false, eval e X.env) :: starEach es X.env := by rfl) (hpl : (backTo pos (starEach es X.env)).any (·.1) = false := by rfl) : PE X (.Call (.Attribute o m apos) (e :: es) [] pos) (tMeth C m sp [] E ta t) := by
  obtain ⟨f, fd, ps, F, hm, hb, hcl⟩ := c.ex
  exact pe_meth (pl := pl) ho hcl hm F (hr.mono hk) hb .nil hx ha he hpl hc
theorem pe_calM0 {pl : Sem Bool} (ho : PE X o ta) (hr : Room j X.A) (hk : k ≤ j) (c : CalM X.prog X.w X.K X.mg X.base CX k C m sp) (hx : Passes CX X E)
    (hc : eval (.Call (.Attribute o m apos) [] [] pos) X.env = (do
      let ov ← eval o X.env
      standAt apos.atName
      let (f, first) ← holding [ov] (getMethod ov m pl)
      callWith pos f first (backTo pos (starEach [] X.env)) (backToKw pos (keywordEach [] X.env))) := by rfl) : PE X (.Call (.Attribute o m apos) [] [] pos) (tMeth C m sp [] E ta tNil) := by
  obtain ⟨f, fd, ps, F, hm, hb, hcl⟩ := c.ex
  exact pe_meth0 (pl := pl) ho hcl hm F (hr.mono hk) hb .nil hx hc
theorem pe_calC (hr : Room j X.A) (hk : k + 1 ≤ j) (c : CalC X.prog X.w X.K X.mg X.base CX k x C sp) (hx : Passes CX X E) (hg : Gl X x) (ha : PA X (e :: es) t) (hdb : (x == ("__debug__" : Str)) = false := by decide)
    (he : starEach (e :: es) X.env = (false, eval e X.env) :: starEach es X.env := by rfl) (hpl : (backTo pos (starEach es X.env)).any (·.1) = false := by rfl) : PE X (.Call (.Name x p) (e :: es) [] pos) (tMake C sp [] E t) := by
  obtain ⟨f, fd, ps, F, hm, M, hb⟩ := c.ex
  exact pe_make M F (hr.mono hk) hg hm hb .nil hx ha hdb he hpl
end
/-- a reading may be weakened -/
def tCutA (ta : TA) : TA := fun σ H Q => ∃ R : List V → Hp → Prop, ta σ H R ∧ ∀ vs H1, R vs H1 → Q vs H1
theorem pa_cut {X : Cx} {es : List Expr} {ta : TA} (ha : PA X es ta) : PA X es (tCutA ta) := ⟨fun pos pins s σ H Q I ⟨R, h, hq⟩ => thn (ha.run pos pins s σ H R I h) fun us s1 ⟨vs, H1, I1, r, q⟩ => ⟨vs, H1, I1, r, hq vs H1 q⟩⟩
/-- what an exception's __init__ does: it stores its one argument -/
def spErr (K : PySem.W.Frag) (C : Addr) (f : Str) : Sp := fun vs H Q _ => ∃ (a : Addr) (v : V), vs = [.ref a, v] ∧ OexC K C ∧ PySem.W.findIn K (.ref C) f = some none ∧ H a = some (exo a C none) ∧
  ∀ d, H d = none → d ≠ a → Q .non (upd (upd H d (exd d [(f, v)])) a (exo a C (some d)))
/-- raise C(e) -/
def tRaiseX (C : Addr) (f : Str) (W : WX) (ta : TA) : TS := fun _ σ H => ta σ H fun vs H1 => ∃ v, vs = [v] ∧ ∀ d H', NewO H1 d (.xd [(f, v)]) H' → W (.ref C) (some d) σ H'
section
variable {X : Cx} {j k : Nat} {C : Addr} {f : Str} {ps : List Str} {E : XK} {x : Str} {p pos pos2 : Pos} {e : Expr} {es : List Expr} {ta : TA} {W : WX}
theorem ps_raiseOwn (hc : X.calm = true) (hr : Room j X.A) (hk : k + 1 ≤ j) (c : CalX X.prog X.w X.K X.mg X.base k x C f (spErr X.K C f)) (tk : Takes X W) (hg : Gl X x) (ha : PA X (e :: es) ta) (hdb : (x == ("__debug__" : Str)) = false := by decide)
    (he : starEach (e :: es) X.env = (false, eval e X.env) :: starEach es X.env := by rfl) (hpl : (backTo pos (starEach es X.env)).any (·.1) = false := by rfl) :
    PS X (.Raise (some (.Call (.Name x p) (e :: es) [] pos)) none pos2) (tRaiseX C f W ta) := by
  obtain ⟨fI, fd, ps, F, hm, iC, tI, hb⟩ := c.ex
  have base := ps_raise (pos := pos2) (W := W) hc tk (pmk_oex (p := p) (pos := pos) c.oex iC tI F (hr.mono hk) hb .nil (fun _ _ _ _ _ _ _ h => h.elim) hg hm (pa_cut ha) hdb he hpl)
  refine ⟨fun pins s σ H D I h => base.run pins s σ H D I ?_⟩
  have mono : ∀ vs H1, (∃ v, vs = [v] ∧ ∀ d H', NewO H1 d (.xd [(f, v)]) H' → W (.ref C) (some d) σ H') →
      (vs.length ≤ 1000 ∧ ∀ a, H1 a = none → spErr X.K C f (.ref a :: (vs ++ [])) (upd H1 a (exo a C none))
        (fun v H2 => v = .non ∧ ∃ (d : Addr) (fs : List (Str × V)), H2 a = some (exo a C (some d)) ∧ H2 d = some (exd d fs) ∧ H1 d = none ∧ W (.ref C) (some d) σ (upd (del H2 a) d (.xd fs))) (fun _ _ _ => False)) := by
    rintro vs H1 ⟨v, rfl, q⟩
    refine ⟨by show 1 ≤ 1000; decide, fun a ha => ⟨a, v, rfl, c.oex, c.nf, upd_same, fun d hd hda => ?_⟩⟩
    rw [upd_ne hda] at hd
    refine ⟨rfl, d, [(f, v)], upd_same, by rw [upd_ne hda, upd_same], hd, ?_⟩
    have e : upd (del (upd (upd (upd H1 a (exo a C none)) d (exd d [(f, v)])) a (exo a C (some d))) a) d (.xd [(f, v)]) = upd H1 d (.xd [(f, v)]) := by
      funext b
      by_cases hb1 : b = d
      · rw [hb1, upd_same, upd_same]
      · rw [upd_ne hb1, upd_ne hb1]
        by_cases hb2 : b = a
        · rw [hb2, del_same, ha]
        · rw [del_ne hb2, upd_ne hb2, upd_ne hb1, upd_ne hb2]
    rw [e]
    exact q d _ (newO hd)
  exact ⟨_, h, mono⟩
end
end NC

namespace NC
open PySem PySem.Spec PyProof.Rows L2

/-! ### readings, one step at a time -/
section
variable {K : PySem.W.Frag} {σ : L2.St} {H H1 : Hp} {Q : VK} {D : Ends} {ta tb tc td te : TE} {t u : TS} {x y z v : V} {r : R2} {g : TG} {tt uu : TT} {QT : Bool → Hp → Prop} {tA : TA} {QA : List V → Hp → Prop}
theorem rd_seq (h : t { D with nx := u D } σ H) : tSeq t u D σ H := h
theorem rd_asg (h : te σ H fun x H1 => g x σ H1 D.nx) : tAsg te g D σ H := h
theorem rd_gname {i : Nat} {QN : L2.St → Hp → Prop} (h : QN (σ.set i (some v)) H) : gName i v σ H QN := h
theorem rd_next (h : D.nx σ H) : tNext D σ H := h
theorem rd_ret (h : te σ H D.rt) : tRet te D σ H := h
theorem rd_retN (h : D.rt .non H) : tRetN D σ H := h
theorem rd_drop (h : te σ H fun _ H1 => D.nx σ H1) : tDrop te D σ H := h
theorem rd_ifs (h : tt σ H fun b H1 => if b = true then t D σ H1 else u D σ H1) : tIfS tt t u D σ H := h
theorem rd_var {i : Nat} (e : σ[i]? = some (some v)) (h : Q v H) : tVar i σ H Q := ⟨v, e, h⟩
theorem rd_c (h : Q v H) : tC v σ H Q := h
theorem rd_nil (h : QA [] H) : tNil σ H QA := h
theorem rd_cons (h : te σ H fun x H1 => tA σ H1 fun xs H2 => QA (x :: xs) H2) : tCons te tA σ H QA := h
theorem rd_op (h : ta σ H fun x H1 => tb σ H1 fun y H2 => r x y H2 Q) : tOp r ta tb σ H Q := h
theorem rd_un {f : V → Hp → VK → Prop} (h : ta σ H fun x H1 => f x H1 Q) : tUn f ta σ H Q := h
theorem rd_I0 {f : Int → Int → V} {i j : Int} (h : Q (f i j) H) : rI0 f (.int i) (.int j) H Q := ⟨i, j, rfl, rfl, h⟩
theorem rd_I {C : Int → Int → Prop} {f : Int → Int → V} {i j : Int} (c : C i j) (h : Q (f i j) H) : rI C f (.int i) (.int j) H Q := ⟨i, j, rfl, rfl, c, h⟩
theorem rd_U {f : Int → V} {i : Int} (h : Q (f i) H) : rU f (.int i) H Q := ⟨i, rfl, h⟩
theorem rd_eqI {i j : Int} (h : Q (.bl (decide (i = j))) H) : rEq (.int i) (.int j) H Q := ⟨rfl, by
  have e : decide (V.int i = V.int j) = decide (i = j) := by
    by_cases c : i = j
    · rw [decide_eq_true c, decide_eq_true (by rw [c])]
    · rw [decide_eq_false c, decide_eq_false (fun z => c (V.int.inj z))]
  rw [e]
  exact h⟩
theorem rd_neI {i j : Int} (h : Q (.bl (!decide (i = j))) H) : rNe (.int i) (.int j) H Q := ⟨rfl, by
  have e : decide (V.int i = V.int j) = decide (i = j) := by
    by_cases c : i = j
    · rw [decide_eq_true c, decide_eq_true (by rw [c])]
    · rw [decide_eq_false c, decide_eq_false (fun z => c (V.int.inj z))]
  rw [e]
  exact h⟩
theorem rd_eqS (s : scal x y = true) (h : Q (.bl (decide (x = y))) H) : rEq x y H Q := ⟨s, h⟩
theorem rd_neS (s : scal x y = true) (h : Q (.bl (!decide (x = y))) H) : rNe x y H Q := ⟨s, h⟩
theorem rd_test (h : te σ H fun x H' => ∃ k, x = .bl k ∧ QT k H') : tTest te σ H QT := h
theorem rd_tb (h : te σ H fun x H' => ∃ k, x = .bl k ∧ QT k H') : tB te σ H QT := h
theorem rd_bl {b : Bool} {R : Bool → Prop} (h : R b) : ∃ k, V.bl b = .bl k ∧ R k := ⟨b, rfl, h⟩
theorem rd_and (h : tt σ H fun c H1 => if c = true then uu σ H1 QT else QT false H1) : tAnd tt uu σ H QT := h
theorem rd_or (h : tt σ H fun c H1 => if c = true then QT true H1 else uu σ H1 QT) : tOr tt uu σ H QT := h
theorem rd_not (h : tt σ H fun c H1 => QT (!c) H1) : tNot tt σ H QT := h
theorem rd_andV (h : ta σ H fun x H1 => ∃ c, x = .bl c ∧ if c = true then tb σ H1 Q else Q (.bl false) H1) : tAndV ta tb σ H Q := h
theorem rd_orV (h : ta σ H fun x H1 => ∃ c, x = .bl c ∧ if c = true then Q (.bl true) H1 else tb σ H1 Q) : tOrV ta tb σ H Q := h
theorem rd_notV (h : ta σ H fun x H1 => ∃ c, x = .bl c ∧ Q (.bl (!c)) H1) : tNotV ta σ H Q := h
theorem rd_ifE (h : tt σ H fun c H1 => if c = true then ta σ H1 Q else tb σ H1 Q) : tIf tt ta tb σ H Q := h
theorem rd_chain {r1 r2 : R2} (h : ta σ H fun x H1 => tb σ H1 fun y H2 => r1 x y H2 fun z H3 => ∃ k, z = .bl k ∧ (if k = true then tc σ H3 fun w' H4 => r2 y w' H4 Q else Q (.bl false) H3)) : tChain r1 r2 ta tb tc σ H Q := h
theorem rd_chain3 {r1 r2 r3 : R2} (h : ta σ H fun x H1 => tb σ H1 fun y H2 => r1 x y H2 fun z H3 => ∃ k, z = .bl k ∧
  (if k = true then tc σ H3 fun y2 H4 => r2 y y2 H4 fun z2 H5 => ∃ k2, z2 = .bl k2 ∧ (if k2 = true then td σ H5 fun y3 H6 => r3 y2 y3 H6 Q else Q (.bl false) H5) else Q (.bl false) H3)) : tChain3 r1 r2 r3 ta tb tc td σ H Q := h
theorem rd_call {sp : Sp} {dvs : List V} {E : XK} (h : tA σ H fun vs H1 => sp (vs ++ dvs) H1 Q E) : tCall sp dvs E tA σ H Q := h
theorem rd_cb {f : List V → Hp → VK → Prop} (h : tA σ H fun vs H1 => f vs H1 Q) : tCB f tA σ H Q := h
theorem rd_tup (h : tA σ H fun xs H1 => xs.length ≤ sizeLine ∧ ∀ p, H1 p = none → Q (.ref p) (upd H1 p (.tup xs))) : tTup tA σ H Q := h
theorem rd_lst (h : tA σ H fun xs H1 => xs.length ≤ sizeLine ∧ ∀ p, H1 p = none → Q (.ref p) (upd H1 p (.lst xs))) : tLst tA σ H Q := h
/-- a new tuple or list -/
theorem rd_mk {f : Addr → HO} {xs : List V} (hl : xs.length ≤ sizeLine) (h : ∀ p H', NewO H p (f p) H' → Q (.ref p) H') : xs.length ≤ sizeLine ∧ ∀ p, H p = none → Q (.ref p) (upd H p (f p)) := ⟨hl, fun p hp => h p _ (newO hp)⟩
theorem rd_nw {f : Addr → HO} (h : ∀ p H', NewO H p (f p) H' → Q (.ref p) H') : ∀ p, H p = none → Q (.ref p) (upd H p (f p)) := fun p hp => h p _ (newO hp)
theorem rd_ixL {p : Addr} {xs : List V} {i : Int} (h1 : SqL K H p xs) (h2 : atI xs i = some v) (h : Q v H) : rIxL K (.ref p) (.int i) H Q := ⟨p, xs, i, v, rfl, rfl, h1, h2, h⟩
theorem rd_ixT {p : Addr} {xs : List V} {i : Int} (h1 : SqT K H p xs) (h2 : atI xs i = some v) (h : Q v H) : rIxT K (.ref p) (.int i) H Q := ⟨p, xs, i, v, rfl, rfl, h1, h2, h⟩
theorem rd_setL {p : Addr} {xs : List V} {k : Int} {j : Nat} {R : Hp → Prop} (h1 : H p = some (.lst xs)) (h2 : ixN xs.length k = some j) (h : R (upd H p (.lst (xs.set j v)))) : rSetL (.ref p) (.int k) v H R := ⟨p, xs, k, j, rfl, rfl, h1, h2, h⟩
theorem rd_gsub {to ti : TE} {ts : TSet} {QN : L2.St → Hp → Prop} (h : to σ H fun o H1 => ti σ H1 fun i H2 => ts o i v H2 fun H3 => QN σ H3) : gSub to ti ts v σ H QN := h
theorem rd_aug {i : Nat} {ti : TIp} (e : σ[i]? = some (some x)) (h : te σ H fun y H1 => ti x y H1 fun z H2 => D.nx (σ.set i (some z)) H2) : tAug i te ti D σ H := ⟨x, e, h⟩
theorem rd_ipI {f : Int → Int → Int} {i j : Int} (h : Q (.int (f i j)) H) : ipI f (.int i) (.int j) H Q := ⟨i, j, rfl, rfl, h⟩
theorem rd_isN (h : Q (.bl (decide (x = .non))) H) : (fun (x y : V) (H : Hp) (Q : VK) => y = .non ∧ Q (.bl (decide (x = .non))) H) x .non H Q := ⟨rfl, h⟩
theorem rif {b : Bool} {A B : Prop} (h1 : b = true → A) (h2 : b = false → B) : if b = true then A else B := by
  cases b with
  | true => exact iteT (h1 rfl)
  | false => exact iteF (h2 rfl)
theorem rifD {c : Prop} [Decidable c] {A B : Prop} (h1 : c → A) (h2 : ¬ c → B) : if decide c = true then A else B := by
  by_cases hc : c
  · rw [decide_eq_true hc]
    exact iteT (h1 hc)
  · rw [decide_eq_false hc]
    exact iteF (h2 hc)
theorem rifN {c : Prop} [Decidable c] {A B : Prop} (h1 : ¬ c → A) (h2 : c → B) : if (!decide c) = true then A else B := by
  by_cases hc : c
  · rw [decide_eq_true hc]
    exact iteF (h2 hc)
  · rw [decide_eq_false hc]
    exact iteT (h1 hc)
theorem rd_nf {A B : Prop} (h : A) : if (!false) = true then A else B := h
theorem rd_nt {A B : Prop} (h : B) : if (!true) = true then A else B := h
@[elab_as_elim] theorem genO {R : Hp → Prop} {H : Hp} {q : Addr} {o : HO} (hq : H q = none) (h : ∀ H', NewO H q o H' → R H') : R (upd H q o) := h _ (newO hq)
theorem rifDn {c : Prop} [Decidable c] {A B : Prop} (h2 : ¬ c → B) (h1 : c → A) : if decide c = true then A else B := rifD h1 h2
theorem rifn {b : Bool} {A B : Prop} (h2 : b = false → B) (h1 : b = true → A) : if b = true then A else B := rif h1 h2
/-- a new object, the heap behind it a letter -/
theorem rd_new {o : HO} {f : Addr → V} (h : ∀ (p : Addr) (H' : Hp), H p = none → Same H H' → H' p = some o → (∀ b, b ≠ p → H' b = H b) → Q (f p) H') : ∀ p, H p = none → Q (f p) (upd H p o) := fun p hp =>
  h p _ hp (fun b u e => by rw [upd_ne (ne_of_none e hp)]; exact e) upd_same (fun b hb => upd_ne hb)
theorem rd_write {o : HO} {p : Addr} {R : Hp → Prop} (h : ∀ H' : Hp, H' p = some o → (∀ b, b ≠ p → H' b = H b) → R H') : R (upd H p o) := h _ upd_same fun b hb => upd_ne hb
end
theorem sat {xs : List V} {i : Int} {j : Nat} {v : V} (e : i = (j : Int)) (h : xs[j]? = some v) : atI xs i = some v := by rw [e]; exact atI_nat h
end NC

namespace NC
open PySem PySem.Spec PyProof.Rows L2

/-- the built-in names that the texts use: the module does not hide them -/
structure Bt (mg : Str → Option Value) : Prop where
  no_len : mg "len" = none
  no_range : mg "range" = none
  no_sorted : mg "sorted" = none
  no_enumerate : mg "enumerate" = none
  no_isinstance : mg "isinstance" = none
  no_int : mg "int" = none
  no_bool : mg "bool" = none
  no_tuple : mg "tuple" = none
  no_list : mg "list" = none
  no_str : mg "str" = none
  no_all : mg "all" = none
  no_min : mg "min" = none
  no_max : mg "max" = none
  no_repr : mg "repr" = none
  no_zip : mg "zip" = none
  no_set : mg "set" = none
  no_ValueError : mg "ValueError" = none
theorem bt_of {K : PySem.W.Frag} {h : Heap} {mg : Str → Option Value} (X : K.In h) (G : h.Ns mainGlobals mg)
    (h1 : PySem.W.nsIn K mainGlobals "len" = some none) (h2 : PySem.W.nsIn K mainGlobals "range" = some none) (h3 : PySem.W.nsIn K mainGlobals "sorted" = some none) (h4 : PySem.W.nsIn K mainGlobals "enumerate" = some none)
    (h5 : PySem.W.nsIn K mainGlobals "isinstance" = some none) (h6 : PySem.W.nsIn K mainGlobals "int" = some none) (h7 : PySem.W.nsIn K mainGlobals "bool" = some none) (h8 : PySem.W.nsIn K mainGlobals "tuple" = some none)
    (h9 : PySem.W.nsIn K mainGlobals "list" = some none) (h10 : PySem.W.nsIn K mainGlobals "str" = some none) (h11 : PySem.W.nsIn K mainGlobals "all" = some none) (h12 : PySem.W.nsIn K mainGlobals "min" = some none)
    (h13 : PySem.W.nsIn K mainGlobals "max" = some none) (h14 : PySem.W.nsIn K mainGlobals "repr" = some none) (h15 : PySem.W.nsIn K mainGlobals "zip" = some none) (h16 : PySem.W.nsIn K mainGlobals "set" = some none)
    (h17 : PySem.W.nsIn K mainGlobals "ValueError" = some none) : Bt mg :=
  ⟨PySem.W.mg_none_of X G h1, PySem.W.mg_none_of X G h2, PySem.W.mg_none_of X G h3, PySem.W.mg_none_of X G h4, PySem.W.mg_none_of X G h5, PySem.W.mg_none_of X G h6, PySem.W.mg_none_of X G h7, PySem.W.mg_none_of X G h8,
   PySem.W.mg_none_of X G h9, PySem.W.mg_none_of X G h10, PySem.W.mg_none_of X G h11, PySem.W.mg_none_of X G h12, PySem.W.mg_none_of X G h13, PySem.W.mg_none_of X G h14, PySem.W.mg_none_of X G h15, PySem.W.mg_none_of X G h16, PySem.W.mg_none_of X G h17⟩

/-- a def of the text stands under its name -/
structure DefAt (K : PySem.W.Frag) (mg : Str → Option Value) (x : Str) (st : Stmt) : Prop where
  ex : ∃ (f : Addr) (fd : FuncData), Fun K x x st f fd ∧ mg x = some (.ref f)
/-- a method of the class at C -/
structure MetAt (K : PySem.W.Frag) (C : Addr) (m qual : Str) (st : Stmt) : Prop where
  ex : ∃ (f : Addr) (fd : FuncData), Fun K m qual st f fd ∧ PySem.W.findIn K (.ref C) m = some (some (.ref f)) ∧ PySem.W.isFn K (.ref f) = true
section
variable {P : Program} {w : World} {K : PySem.W.Frag} {mg : Str → Option Value} {base : Heap} {x qual m : Str} {st : Stmt} {C : Addr} {CX : CXT} {k : Nat} {ps : List Str} {sp : Sp}
theorem DefAt.cal (D : DefAt K mg x st)
    (hb : ∀ (kV doc pm : Value) (an : Option Addr) (cdv ct : Value) (us : List Value), us.length = ps.length → bindArgs (PySem.W.fnOf x x (defArgs st) (defBody st) (defScope st) .none kV doc pm an cdv ct) ⟨us, []⟩ = pure (ps.zip us))
    (h : ∀ (f : Addr) (fd : FuncData), Fun K x x st f fd → FnOk P w K mg base CX k f fd ps sp) : Cal P w K mg base CX k x sp := by
  obtain ⟨f, fd, F, hm⟩ := D.ex
  exact ⟨f, fd, ps, h f fd F, hm, F.kp, F.binds hb⟩
theorem MetAt.cal (D : MetAt K C m qual st) (cl : Cls K C)
    (hb : ∀ (kV doc pm : Value) (an : Option Addr) (cdv ct : Value) (us : List Value), us.length = ps.length → bindArgs (PySem.W.fnOf m qual (defArgs st) (defBody st) (defScope st) .none kV doc pm an cdv ct) ⟨us, []⟩ = pure (ps.zip us))
    (h : ∀ (f : Addr) (fd : FuncData), Fun K m qual st f fd → FnOk P w K mg base CX k f fd ps sp) : CalM P w K mg base CX k C m sp := by
  obtain ⟨f, fd, F, h1, h2⟩ := D.ex
  exact ⟨f, fd, ps, h f fd F, ⟨h1, h2, F.kp⟩, F.binds hb, cl⟩
theorem MetAt.cls (D : MetAt K C "__init__" qual st) (g : mg x = some (.ref C)) (mk : PySem.W.makesIn K C = true) (kc : PySem.W.keepIn K (.ref C) = true)
    (hb : ∀ (kV doc pm : Value) (an : Option Addr) (cdv ct : Value) (us : List Value), us.length = ps.length → bindArgs (PySem.W.fnOf "__init__" qual (defArgs st) (defBody st) (defScope st) .none kV doc pm an cdv ct) ⟨us, []⟩ = pure (ps.zip us))
    (h : ∀ (f : Addr) (fd : FuncData), Fun K "__init__" qual st f fd → FnOk P w K mg base CX k f fd ps sp) : CalC P w K mg base CX k x C sp := by
  obtain ⟨f, fd, F, h1, h2⟩ := D.ex
  exact ⟨f, fd, ps, h f fd F, g, ⟨mk, h1, h2, kc⟩, F.binds hb⟩
end
/-- an own exception class stands under its name, its __init__ is st -/
structure ExcAt (K : PySem.W.Frag) (mg : Str → Option Value) (x : Str) (C : Addr) (f qual : Str) (st : Stmt) : Prop where
  ex : ∃ (fI : Addr) (fd : FuncData), Fun K "__init__" qual st fI fd ∧ mg x = some (.ref C) ∧ PySem.W.findIn K (.ref C) "__init__" = some (some (.ref fI)) ∧ PySem.W.typeIn K (.ref fI) = some (.type "function")
  oex : OexC K C
  nf : PySem.W.findIn K (.ref C) f = some none
theorem ExcAt.cal {P : Program} {w : World} {K : PySem.W.Frag} {mg : Str → Option Value} {base : Heap} {x qual f : Str} {st : Stmt} {C : Addr} {k : Nat} {ps : List Str} (D : ExcAt K mg x C f qual st)
    (hb : ∀ (kV doc pm : Value) (an : Option Addr) (cdv ct : Value) (us : List Value), us.length = ps.length → bindArgs (PySem.W.fnOf "__init__" qual (defArgs st) (defBody st) (defScope st) .none kV doc pm an cdv ct) ⟨us, []⟩ = pure (ps.zip us))
    (h : ∀ (fI : Addr) (fd : FuncData), Fun K "__init__" qual st fI fd → FnOk P w K mg base CX0 k fI fd ps (spErr K C f)) : CalX P w K mg base k x C f (spErr K C f) := by
  obtain ⟨fI, fd, F, h1, h2, h3⟩ := D.ex
  exact ⟨⟨fI, fd, ps, h fI fd F, h1, h2, h3, F.binds hb⟩, D.oex, D.nf⟩

section
variable {X : Cx}
/-- what leaves a callee leaves this body the same -/
theorem passE {E : XK} (tk : Takes X (fun cls d _ H => E cls d H)) : Passes (L2.CX X.prog X.w) X E := passes_call tk fun _ _ _ _ h => h
theorem pe_globI {x : Str} {i : Int} {pos : Pos} (hg : Gl X x) (hm : ∃ t, X.mg x = some (.int i t)) (hd : (x == ("__debug__" : Str)) = false := by decide) : PE X (.Name x pos) (tC (.int i)) := by
  obtain ⟨t, h⟩ := hm
  exact pe_glob hg h ⟨t, rfl⟩ hd
theorem pe_ty {x : Str} (n : String) {pos : Pos} (hg : Gl X x) (hm : X.mg x = none) (hv : bootBuiltins x = some (.type n)) (hn : x ≠ "__name__" := by decide) (hd : (x == ("__debug__" : Str)) = false := by decide) : PE X (.Name x pos) (tC (.ty n)) := pe_bltn hg hm hv rfl hn hd
/-- not e, e any test, as a value -/
def tNotT (t : TT) : TE := fun σ H Q => t σ H fun c H1 => Q (.bl (!c)) H1
end
/-- all but the tables of code objects stands as it stood; the tables may have grown -/
def Sm (T : List (Addr × Str)) (H H' : Hp) : Prop := LamX.ExtN H H' ∧ (LamX.Tabs T H → LamX.Tabs T H')
/-- at a nothing is tracked, or a table -/
def Fr (H : Hp) (a : Addr) : Prop := ∀ u, H a = some u → ∃ ps, u = .tbl ps
section
variable {T : List (Addr × Str)} {H H1 H2 : Hp}
theorem Sm.refl (H : Hp) : Sm T H H := ⟨LamX.ExtN.refl H, id⟩
theorem Sm.trans (a : Sm T H H1) (b : Sm T H1 H2) : Sm T H H2 := ⟨a.1.trans b.1, fun t => b.2 (a.2 t)⟩
theorem Sm.of (s : Same H H1) : Sm T H H1 := ⟨LamX.ExtN.of s, fun t => t.ext s⟩
theorem Sm.tup (s : Sm T H H1) {a : Addr} {xs : List V} (h : H a = some (.tup xs)) : H1 a = some (.tup xs) := s.1 _ _ h fun _ z => nomatch z
theorem Sm.lst (s : Sm T H H1) {a : Addr} {xs : List V} (h : H a = some (.lst xs)) : H1 a = some (.lst xs) := s.1 _ _ h fun _ z => nomatch z
theorem Sm.ins (s : Sm T H H1) {a C d : Addr} {fs : List (Str × V)} (h : H a = some (.ins C d fs)) : H1 a = some (.ins C d fs) := s.1 _ _ h fun _ z => nomatch z
theorem Sm.well (s : Sm T H H1) {a : Addr} (h : H a = some (WellO a)) : H1 a = some (WellO a) := s.1 _ _ h fun _ z => nomatch z
theorem Sm.frz (s : Sm T H H1) {a : Addr} {o : Obj} {u : HO} (h : H a = some (.frz o u)) : H1 a = some (.frz o u) := s.1 _ _ h fun _ z => nomatch z
theorem Sm.rd (s : Sm T H H1) {a : Addr} {u : HO} (n : ∀ ps, u ≠ .tbl ps) (h : Rd H a u) : Rd H1 a u := h.elim (fun h => .inl (s.1 _ _ h n)) fun ⟨o, h⟩ => .inr ⟨o, s.frz h⟩
theorem Sm.sqL (s : Sm T H H1) {K : PySem.W.Frag} {a : Addr} {xs : List V} (h : SqL K H a xs) : SqL K H1 a xs := h.elim (fun h => .inl (s.rd (fun _ z => nomatch z) h)) .inr
theorem Sm.sqT (s : Sm T H H1) {K : PySem.W.Frag} {a : Addr} {xs : List V} (h : SqT K H a xs) : SqT K H1 a xs := h.elim (fun h => .inl (s.rd (fun _ z => nomatch z) h)) .inr
/-- an object that H did not know has changed -/
theorem Sm.other (s : Sm T H H1) {a : Addr} {o : HO} (n : Fr H a) (h1 : H1 a = some o) (no : (∀ ps, o ≠ .tbl ps) ∧ ∀ c q, o ≠ LamX.CodeO c q) (k : ∀ b, b ≠ a → H2 b = H1 b) : Sm T H H2 := by
  refine ⟨fun b u hb hn => ?_, fun t => ?_⟩
  · rw [k b (fun z => by rw [z] at hb; obtain ⟨ps, e⟩ := n u hb; exact hn ps e)]
    exact s.1 b u hb hn
  · intro p hp
    obtain ⟨ps, e1, e2, e3⟩ := s.2 t p hp
    refine ⟨ps, by rw [k _ (fun z => by rw [z, h1] at e1; exact no.1 ps (Option.some.inj e1))]; exact e1, e2, fun pos cv hc => ?_⟩
    obtain ⟨c, ec, hcc⟩ := e3 pos cv hc
    refine ⟨c, ec, ?_⟩
    rw [k c (fun z => by rw [z, h1] at hcc; exact no.2 _ _ (Option.some.inj hcc))]
    exact hcc
theorem lst_no {xs : List V} : (∀ ps, HO.lst xs ≠ .tbl ps) ∧ ∀ c q, HO.lst xs ≠ LamX.CodeO c q := ⟨fun _ z => (nomatch z), fun _ _ z => (nomatch z)⟩
theorem ins_no {C d : Addr} {fs : List (Str × V)} : (∀ ps, HO.ins C d fs ≠ .tbl ps) ∧ ∀ c q, HO.ins C d fs ≠ LamX.CodeO c q := ⟨fun _ z => (nomatch z), fun _ _ z => (nomatch z)⟩
theorem Sm.mutL (s : Sm T H H1) {a : Addr} {xs : List V} (n : Fr H a) (h1 : H1 a = some (.lst xs)) (k : ∀ b, b ≠ a → H2 b = H1 b) : Sm T H H2 := s.other n h1 lst_no k
theorem Sm.new (s : Sm T H H1) (e : Same H1 H2) : Sm T H H2 := s.trans (Sm.of e)
/-- nothing but, maybe, a table of code objects stands at a -/
theorem Sm.free (s : Sm T H H1) {a : Addr} (n : H1 a = none) : Fr H a := fun u e => by
  by_cases c : ∃ ps, u = .tbl ps
  · exact c
  · have := s.1 a u e fun ps z => c ⟨ps, z⟩
    rw [this] at n
    cases n
theorem fr_none {a : Addr} (n : H a = none) : Fr H a := fun u e => by rw [n] at e; cases e
theorem Sm.fr (s : Sm T H H1) {a : Addr} (n : Fr H1 a) : Fr H a := fun u e => by
  by_cases c : ∃ ps, u = .tbl ps
  · exact c
  · exact absurd (n u (s.1 a u e fun ps z => c ⟨ps, z⟩)) c
theorem Fr.ne {a b : Addr} {u : HO} (n : Fr H a) (hb : H b = some u) (hn : ∀ ps, u ≠ .tbl ps) : b ≠ a := fun z => by
  rw [z] at hb
  obtain ⟨ps, e⟩ := n u hb
  exact hn ps e
end
end NC

namespace NC
open PySem PySem.Spec PyProof.Rows L2

/-! ### data that the call has made, at any depth -/
mutual
inductive Dt (H : Hp) : V → PyData → Prop
  | non : Dt H .non .none
  | bl (b : Bool) : Dt H (.bl b) (.bool b)
  | int (i : Int) : Dt H (.int i) (.int i)
  | str (x : Str) : Dt H (.str x) (.str x)
  | lst {a : Addr} {xs : List V} {ds : List PyData} : H a = some (.lst xs) → DtAll H xs ds → Dt H (.ref a) (.list ds)
  | tup {a : Addr} {xs : List V} {ds : List PyData} : H a = some (.tup xs) → DtAll H xs ds → Dt H (.ref a) (.tuple ds)
  | dic {a : Addr} : H a = some (.dK []) → Dt H (.ref a) (.dict [])
inductive DtAll (H : Hp) : List V → List PyData → Prop
  | nil : DtAll H [] []
  | cons {v : V} {vs : List V} {d : PyData} {ds : List PyData} : Dt H v d → DtAll H vs ds → DtAll H (v :: vs) (d :: ds)
end
mutual
theorem Dt.dp {K : PySem.W.Frag} {H : Hp} : ∀ {d : PyData} {v : V}, Dt H v d → d.canLay0 = true → Dp K H v d
  | _, _, .non, _ => .non
  | _, _, .bl b, _ => .bl b
  | _, _, .int i, _ => .int i
  | _, _, .str x, _ => .str x
  | .list ds, _, .lst h r, c => .lst (SqL.of h) (DtAll.dp r (by rwa [PyData.canLay0] at c))
  | .tuple ds, _, .tup h r, c => .tup (SqT.of h) (DtAll.dp r (by rwa [PyData.canLay0] at c))
  | .dict _, _, .dic _, c => by rw [PyData.canLay0] at c; cases c
theorem DtAll.dp {K : PySem.W.Frag} {H : Hp} : ∀ {ds : List PyData} {vs : List V}, DtAll H vs ds → PyData.canLayAll0 ds = true → DpAll K H vs ds
  | [], _, .nil, _ => .nil
  | d :: ds, _, .cons a r, c => by
    rw [PyData.canLayAll0, Bool.and_eq_true] at c
    exact .cons (Dt.dp a c.1) (DtAll.dp r c.2)
end
mutual
theorem Dt.sm {T : List (Addr × Str)} {H H' : Hp} (s : Sm T H H') : ∀ {d : PyData} {v : V}, Dt H v d → Dt H' v d
  | _, _, .non => .non
  | _, _, .bl b => .bl b
  | _, _, .int i => .int i
  | _, _, .str x => .str x
  | .list ds, _, .lst h r => .lst (s.lst h) (DtAll.sm s r)
  | .tuple ds, _, .tup h r => .tup (s.tup h) (DtAll.sm s r)
  | .dict _, _, .dic h => .dic (s.1 _ _ h fun _ z => nomatch z)
theorem DtAll.sm {T : List (Addr × Str)} {H H' : Hp} (s : Sm T H H') : ∀ {ds : List PyData} {vs : List V}, DtAll H vs ds → DtAll H' vs ds
  | [], _, .nil => .nil
  | d :: ds, _, .cons a r => .cons (Dt.sm s a) (DtAll.sm s r)
end
theorem Dt.same {H H' : Hp} (s : Same H H') {d : PyData} {v : V} (h : Dt H v d) : Dt H' v d := h.sm (T := []) (Sm.of s)
theorem DtAll.same {H H' : Hp} (s : Same H H') {d : List PyData} {v : List V} (h : DtAll H v d) : DtAll H' v d := h.sm (T := []) (Sm.of s)
section
variable {H : Hp} {vs ws : List V} {ds es : List PyData}
theorem DtAll.length : ∀ {vs : List V} {ds : List PyData}, DtAll H vs ds → vs.length = ds.length
  | _, _, .nil => rfl
  | _, _, .cons _ r => by rw [List.length_cons, List.length_cons, DtAll.length r]
theorem DtAll.append : ∀ {vs ws : List V} {ds es : List PyData}, DtAll H vs ds → DtAll H ws es → DtAll H (vs ++ ws) (ds ++ es)
  | _, _, _, _, .nil, s => s
  | _, _, _, _, .cons a r, s => .cons a (DtAll.append r s)
theorem DtAll.take : ∀ {vs : List V} {ds : List PyData} (n : Nat), DtAll H vs ds → DtAll H (vs.take n) (ds.take n)
  | _, _, 0, _ => .nil
  | _, _, _ + 1, .nil => .nil
  | _, _, n + 1, .cons a r => .cons a (DtAll.take n r)
theorem DtAll.drop : ∀ {vs : List V} {ds : List PyData} (n : Nat), DtAll H vs ds → DtAll H (vs.drop n) (ds.drop n)
  | _, _, 0, r => r
  | _, _, _ + 1, .nil => .nil
  | _, _, n + 1, .cons _ r => DtAll.drop n r
theorem DtAll.get : ∀ {vs : List V} {ds : List PyData} {i : Nat} {v : V}, DtAll H vs ds → vs[i]? = some v → ∃ d, ds[i]? = some d ∧ Dt H v d
  | _, _, _, _, .nil, e => by simp at e
  | _, _, 0, _, .cons a _, e => by simp at e; subst e; exact ⟨_, rfl, a⟩
  | _, _, i + 1, v, .cons _ r, e => by
    obtain ⟨d, h1, h2⟩ := DtAll.get (i := i) (v := v) r (by simpa using e)
    exact ⟨d, by simpa using h1, h2⟩
theorem DtAll.ints : ∀ ns : List Int, DtAll H (ns.map V.int) (ns.map PyData.int)
  | [] => .nil
  | n :: ns => .cons (.int n) (DtAll.ints ns)
theorem DtAll.bls : ∀ ns : List Bool, DtAll H (ns.map V.bl) (ns.map PyData.bool)
  | [] => .nil
  | n :: ns => .cons (.bl n) (DtAll.bls ns)
theorem Dt.ints {a : Addr} {ns : List Int} (h : H a = some (.lst (ns.map V.int))) : Dt H (.ref a) (.list (ns.map PyData.int)) := .lst h (DtAll.ints ns)
theorem Dt.tints {a : Addr} {ns : List Int} (h : H a = some (.tup (ns.map V.int))) : Dt H (.ref a) (.tuple (ns.map PyData.int)) := .tup h (DtAll.ints ns)
end
/-- the name of the type -/
def tyN : PyData → String
  | .none => "NoneType"
  | .bool _ => "bool"
  | .int _ => "int"
  | .str _ => "str"
  | .list _ => "list"
  | .tuple _ => "tuple"
  | .dict _ => "dict"
def kinds : List String := ["NoneType", "bool", "int", "str", "list", "tuple", "dict"]
theorem tyN_kind (d : PyData) : tyN d ∈ kinds := by cases d <;> simp [tyN, kinds]
theorem Dt.ty {K : PySem.W.Frag} {H : Hp} {v : V} {d : PyData} (h : Dt H v d) : TyX K H v (.type (tyN d)) := by
  cases h with
  | non => exact .base .non
  | bl b => exact .base (.bl b)
  | int i => exact .base (.int i)
  | str x => exact .base (.str x)
  | lst h _ => exact .base (.lst h)
  | tup h _ => exact .base (.tup h)
  | dic h => exact .base (.dK h)
theorem TyX.sm {K : PySem.W.Frag} {T : List (Addr × Str)} {H H' : Hp} (s : Sm T H H') {v : V} {t : Value} (h : TyX K H v t) : TyX K H' v t := by
  cases h with
  | base h =>
    cases h with
    | non => exact .base .non
    | bl b => exact .base (.bl b)
    | int i => exact .base (.int i)
    | str x => exact .base (.str x)
    | flt x => exact .base (.flt x)
    | lst e => exact .base (.lst (s.lst e))
    | frz e => exact .base (.frz (s.frz e))
    | tup e => exact .base (.tup (s.tup e))
    | dK e => exact .base (.dK (s.1 _ _ e fun _ z => (nomatch z)))
    | dT e => exact .base (.dT (s.1 _ _ e fun _ z => (nomatch z)))
    | ins e cl ha hn htk hm => exact .base (.ins (s.ins e) cl ha hn htk hm)
  | byt b => exact .byt b
  | set e => exact .set (s.1 _ _ e fun _ z => (nomatch z))
  | kList e c => exact .kList e c
  | kTuple e c => exact .kTuple e c
  | kDict e c => exact .kDict e c
  | fTuple e => exact .fTuple (s.frz e)
  | fDict e => exact .fDict (s.frz e)
theorem rd_isi {K : PySem.W.Frag} {H : Hp} {x : V} {A B : String} {b : Bool} {Q : VK} (t : TyX K H x (.type A)) (k : kitB A B = some b) (h : Q (.bl b) H) : rIsi K [x, .ty B] H Q := ⟨x, .ty B, _, _, b, rfl, .ty B, t, kit_ty k, h⟩
/-- isinstance of a value of one of the seven kinds -/
theorem kit_int {T : String} (h : T ∈ kinds) : kitB T "int" = some (T == "int" || T == "bool") := by
  simp only [kinds, List.mem_cons, List.not_mem_nil, or_false] at h
  rcases h with rfl | rfl | rfl | rfl | rfl | rfl | rfl <;> decide +kernel
theorem kit_bool {T : String} (h : T ∈ kinds) : kitB T "bool" = some (T == "bool") := by
  simp only [kinds, List.mem_cons, List.not_mem_nil, or_false] at h
  rcases h with rfl | rfl | rfl | rfl | rfl | rfl | rfl <;> decide +kernel
theorem kit_list {T : String} (h : T ∈ kinds) : kitB T "list" = some (T == "list") := by
  simp only [kinds, List.mem_cons, List.not_mem_nil, or_false] at h
  rcases h with rfl | rfl | rfl | rfl | rfl | rfl | rfl <;> decide +kernel
theorem kit_tuple {T : String} (h : T ∈ kinds) : kitB T "tuple" = some (T == "tuple") := by
  simp only [kinds, List.mem_cons, List.not_mem_nil, or_false] at h
  rcases h with rfl | rfl | rfl | rfl | rfl | rfl | rfl <;> decide +kernel
theorem kit_str {T : String} (h : T ∈ kinds) : kitB T "str" = some (T == "str") := by
  simp only [kinds, List.mem_cons, List.not_mem_nil, or_false] at h
  rcases h with rfl | rfl | rfl | rfl | rfl | rfl | rfl <;> decide +kernel
/-- data without dicts, not deeper than k, its texts are texts -/
def Okd (k : Nat) (d : PyData) : Prop := d.canLay0 = true ∧ d.depth ≤ k
theorem canLayAll0_iff : ∀ {ds : List PyData}, PyData.canLayAll0 ds = true ↔ ∀ d ∈ ds, d.canLay0 = true
  | [] => by simp [PyData.canLayAll0]
  | d :: ds => by simp [PyData.canLayAll0, canLayAll0_iff (ds := ds)]
theorem depthAll_iff {k : Nat} : ∀ {ds : List PyData}, PyData.depthAll ds ≤ k ↔ ∀ d ∈ ds, d.depth ≤ k
  | [] => by simp [PyData.depthAll]
  | d :: ds => by simp [PyData.depthAll, depthAll_iff (ds := ds), Nat.max_le]
theorem okd_list {k : Nat} {ds : List PyData} : Okd (k + 1) (.list ds) ↔ ∀ d ∈ ds, Okd k d := by
  unfold Okd
  rw [PyData.canLay0, canLayAll0_iff, PyData.depth, Nat.add_le_add_iff_right, depthAll_iff]
  exact ⟨fun h d m => ⟨h.1 d m, h.2 d m⟩, fun h => ⟨fun d m => (h d m).1, fun d m => (h d m).2⟩⟩
theorem okd_tup {k : Nat} {ds : List PyData} : Okd (k + 1) (.tuple ds) ↔ ∀ d ∈ ds, Okd k d := by
  unfold Okd
  rw [PyData.canLay0, canLayAll0_iff, PyData.depth, Nat.add_le_add_iff_right, depthAll_iff]
  exact ⟨fun h d m => ⟨h.1 d m, h.2 d m⟩, fun h => ⟨fun d m => (h d m).1, fun d m => (h d m).2⟩⟩
theorem Okd.mono {k j : Nat} {d : PyData} (h : Okd k d) (l : k ≤ j) : Okd j d := ⟨h.1, Nat.le_trans h.2 l⟩
theorem Okd.sh {k : Nat} {d : PyData} (h : Okd k d) (l : k ≤ 64 := by omega) : SeqAt.shaped d = true := by
  unfold SeqAt.shaped
  rw [h.1, decide_eq_true (Nat.le_trans h.2 l)]
  rfl
theorem okd_int {k : Nat} (i : Int) : Okd k (.int i) := ⟨rfl, Nat.zero_le _⟩
theorem okd_bl {k : Nat} (i : Bool) : Okd k (.bool i) := ⟨rfl, Nat.zero_le _⟩
theorem okd_non {k : Nat} : Okd k .none := ⟨rfl, Nat.zero_le _⟩
theorem okd_str {k : Nat} {x : Str} (h : PyData.strOk x = true) : Okd k (.str x) := ⟨h, Nat.zero_le _⟩
/-- the first k items -/
theorem cutV_take (xs : List V) (k : Nat) : cutV xs none (some (k : Int)) = xs.take k := by
  unfold cutV
  rw [HT.sIx_none, HT.sIx_nat, List.drop_zero, Nat.sub_zero]
  by_cases h : k ≤ xs.length
  · rw [Nat.min_eq_left h]
  · rw [Nat.min_eq_right (by omega), List.take_of_length_le (Nat.le_refl _), List.take_of_length_le (by omega)]
theorem cutV_drop (xs : List V) (k : Nat) : cutV xs (some (k : Int)) none = xs.drop k := by
  unfold cutV
  rw [HT.sIx_none, HT.sIx_nat]
  by_cases h : k ≤ xs.length
  · rw [Nat.min_eq_left h, List.take_of_length_le (by rw [List.length_drop]; omega)]
  · rw [Nat.min_eq_right (by omega), List.drop_of_length_le (Nat.le_refl _), List.drop_of_length_le (by omega), List.take_nil]
end NC

namespace NC
open PySem PySem.Spec PyProof.Rows L2

/-- J takes n turns from H0 on, as long as nothing but new objects and tables change; item i x: what it gives -/
structure Wk (T : List (Addr × Str)) (J : It) (n : Nat) (item : Nat → V → Hp → Prop) (H0 : Hp) : Prop where
  go : ∀ i H, Sm T H0 H → i < n → J.go i H
  yld : ∀ i H x H', Sm T H0 H → i < n → J.yld i H x H' → Same H H' ∧ item i x H'
  stop : ∀ H, Sm T H0 H → J.stop n H
section
variable {T : List (Addr × Str)} {K : PySem.W.Frag} {H H0 : Hp} {a : Addr} {xs : List V}
theorem wk_list (h : SqL K H0 a xs) : Wk T (Itl K a) xs.length (fun i x _ => xs[i]? = some x) H0 where
  go := fun i H s hi => ⟨xs, xs[i], s.sqL h, by simp [hi]⟩
  yld := fun i H x H' s _ y => by
    obtain ⟨e, y⟩ := y
    subst e
    exact ⟨Same.refl _, y xs (s.sqL h)⟩
  stop := fun H s => ⟨xs, s.sqL h, Nat.le_refl _⟩
theorem wk_tup (h : SqT K H0 a xs) : Wk T (Itt K a) xs.length (fun i x _ => xs[i]? = some x) H0 where
  go := fun i H s hi => ⟨xs, xs[i], s.sqT h, by simp [hi]⟩
  yld := fun i H x H' s _ y => by
    obtain ⟨e, y⟩ := y
    subst e
    exact ⟨Same.refl _, y xs (s.sqT h)⟩
  stop := fun H s => ⟨xs, s.sqT h, Nat.le_refl _⟩
theorem wk_range (lo : Int) (n : Nat) : Wk T (Itr lo n) n (fun i x _ => x = .int (lo + (i : Int))) H0 where
  go := fun i H s hi => hi
  yld := fun i H x H' s _ y => by
    obtain ⟨e, y⟩ := y
    subst e
    exact ⟨Same.refl _, y⟩
  stop := fun H s => Nat.le_refl _
theorem same_new {H : Hp} {p : Addr} {o : HO} (n : H p = none) : Same H (upd H p o) := fun b u e => by
  rw [upd_ne (ne_of_none e n)]
  exact e
theorem wk_enum (h : SqL K H0 a xs) : Wk T (Ite K a) xs.length (fun i v H => ∃ t x, v = .ref t ∧ H t = some (.tup [.int (i : Int), x]) ∧ xs[i]? = some x) H0 where
  go := fun i H s hi => ⟨xs, xs[i], s.sqL h, by simp [hi]⟩
  yld := fun i H v H' s _ y => by
    obtain ⟨t, x, e, n, eH, hx⟩ := y
    subst eH
    exact ⟨same_new n, t, x, e, upd_same, hx xs (s.sqL h)⟩
  stop := fun H s => ⟨xs, s.sqL h, Nat.le_refl _⟩
end
section
variable {T : List (Addr × Str)} {J : It} {n : Nat} {item : Nat → V → Hp → Prop} {H H1 : Hp} {σ : L2.St} {g : TG}
/-- a for loop by an invariant -/
theorem for_w {tb : TS} {D : Ends} (w : Wk T J n item H) (Pv : Nat → L2.St → Hp → Prop) (h0 : Pv 0 σ H) (hsm : ∀ i σ' H', Pv i σ' H' → Sm T H H')
    (hs : ∀ i x σ1 H1 H2, i < n → Pv i σ1 H1 → Same H1 H2 → item i x H2 → g x σ1 H2 fun σ2 H3 => tb { D with nx := Pv (i + 1), ct := Pv (i + 1), bk := D.nx } σ2 H3) (hd : ∀ σ' H', Pv n σ' H' → D.nx σ' H') :
    ∃ W : Nat → Nat → L2.St → Hp → Prop, (∃ m, W 0 m σ H) ∧ ∀ i m σ H, W i m σ H →
      (J.stop i H ∧ D.nx σ H) ∨ (J.go i H ∧ ∃ N : L2.St → Hp → Prop, (∀ σ' H', N σ' H' → ∃ m', m' < m ∧ W (i + 1) m' σ' H') ∧ ∀ x H', J.yld i H x H' → g x σ H' fun σ2 H2 => tb { D with nx := N, ct := N, bk := D.nx } σ2 H2) := by
  refine ⟨fun i m σ' H' => m = n - i ∧ i ≤ n ∧ Pv i σ' H', ⟨n, by simp, Nat.zero_le _, h0⟩, ?_⟩
  rintro i m σ' H' ⟨rfl, hi, p⟩
  by_cases hlt : i < n
  · refine .inr ⟨w.go i H' (hsm _ _ _ p) hlt, Pv (i + 1), fun σ2 H2 p' => ⟨n - (i + 1), by omega, rfl, hlt, p'⟩, fun x H2 y => ?_⟩
    obtain ⟨s, it⟩ := w.yld i H' x H2 (hsm _ _ _ p) hlt y
    exact hs i x σ' H' H2 hlt p s it
  · have e : i = n := by omega
    subst e
    exact .inl ⟨w.stop H' (hsm _ _ _ p), hd σ' H' p⟩
/-- a comprehension by a word about its list so far -/
theorem lc_w {tt : TT} {te : TE} {vs : List Nat} {Qd : Addr → Hp → Prop} (w : Wk T J n item H) (hn : n < sizeLine) (P : Addr → Nat → List V → Hp → Prop)
    (h0 : ∀ D H', Fr H D → Same H H' → H' D = some (.lst []) → P D 0 [] H')
    (hP : ∀ D i acc Ha Hb, P D i acc Ha → (∀ b, b ≠ D → Hb b = Ha b) → P D i acc Hb)
    (hs : ∀ D i acc x H1 H2, i < n → Fr H D → Sm T H H1 → H1 D = some (.lst acc) → acc.length ≤ i → P D i acc H1 → Same H1 H2 → item i x H2 →
      ∀ (kt : VK) (kf : Hp → Prop), (∀ y H5, Sm T H1 H5 → P D (i + 1) (acc ++ [y]) H5 → kt y H5) → (∀ H4, Sm T H1 H4 → P D (i + 1) acc H4 → kf H4) →
      g x (wipe σ vs) H2 fun σ2 H3 => wipe σ2 vs = wipe σ vs ∧ tt σ2 H3 fun b H4 => if b = true then te σ2 H4 kt else kf H4)
    (hd : ∀ D acc H', Fr H D → Sm T H H' → H' D = some (.lst acc) → acc.length ≤ n → P D n acc H' → Qd D H') :
    ∀ D, H D = none → ∃ W : Nat → Nat → Hp → Prop, (∃ m, W 0 m (upd H D (.lst []))) ∧ ∀ i m H, W i m H →
      (J.stop i H ∧ Qd D H) ∨ (J.go i H ∧ ∃ Nx : Hp → Prop, (∀ H', Nx H' → ∃ m', m' < m ∧ W (i + 1) m' H') ∧ ∀ x H', J.yld i H x H' → g x (wipe σ vs) H' fun σ2 H2 => wipe σ2 vs = wipe σ vs ∧ tt σ2 H2 fun b H3 =>
        if b = true then te σ2 H3 fun y H4 => ∃ acc, H4 D = some (.lst acc) ∧ acc.length < sizeLine ∧ Nx (upd H4 D (.lst (acc ++ [y]))) else Nx H3) := by
  intro D hD
  have fD : Fr H D := fr_none hD
  refine ⟨fun i m H' => m = n - i ∧ i ≤ n ∧ ∃ acc, Sm T H H' ∧ H' D = some (.lst acc) ∧ acc.length ≤ i ∧ P D i acc H', ⟨n, by simp, Nat.zero_le _, [], Sm.of (same_new hD), upd_same, Nat.le_refl _, h0 D _ fD (same_new hD) upd_same⟩, ?_⟩
  rintro i m H1 ⟨rfl, hi, acc, s1, hD1, hl, p⟩
  by_cases hlt : i < n
  · refine .inr ⟨w.go i H1 s1 hlt, fun H' => ∃ acc', Sm T H H' ∧ H' D = some (.lst acc') ∧ acc'.length ≤ i + 1 ∧ P D (i + 1) acc' H', fun H' p' => ⟨n - (i + 1), by omega, rfl, hlt, p'⟩, fun x H2 y => ?_⟩
    obtain ⟨s, it⟩ := w.yld i H1 x H2 s1 hlt y
    exact hs D i acc x H1 H2 hlt fD s1 hD1 hl p s it _ _ (fun y H5 s5 p5 => ⟨acc, s5.lst hD1, by omega, acc ++ [y], (s1.trans s5).mutL fD (s5.lst hD1) (fun b hb => upd_ne hb), upd_same, by rw [List.length_append]; simpa using hl, hP D _ _ H5 _ p5 fun b hb => upd_ne hb⟩)
      (fun H4 s4 p4 => ⟨acc, s1.trans s4, s4.lst hD1, by omega, p4⟩)
  · have e : i = n := by omega
    subst e
    exact .inl ⟨w.stop H1 s1, hd D acc H1 fD s1 hD1 hl p⟩
/-- a comprehension that maps each item to a value told ahead -/
theorem lcm_w {te : TE} {vs : List Nat} {Qd : Addr → Hp → Prop} (w : Wk T J n item H) (hn : n < sizeLine) (f : Nat → V)
    (hs : ∀ i x H1 H2, i < n → Sm T H H1 → Same H1 H2 → item i x H2 → ∀ kt : VK, (∀ H5, Sm T H1 H5 → kt (f i) H5) → g x (wipe σ vs) H2 fun σ2 H3 => wipe σ2 vs = wipe σ vs ∧ te σ2 H3 kt)
    (hd : ∀ D H', Fr H D → Sm T H H' → H' D = some (.lst ((List.range n).map f)) → Qd D H') :
    ∀ D, H D = none → ∃ W : Nat → Nat → Hp → Prop, (∃ m, W 0 m (upd H D (.lst []))) ∧ ∀ i m H, W i m H →
      (J.stop i H ∧ Qd D H) ∨ (J.go i H ∧ ∃ Nx : Hp → Prop, (∀ H', Nx H' → ∃ m', m' < m ∧ W (i + 1) m' H') ∧ ∀ x H', J.yld i H x H' → g x (wipe σ vs) H' fun σ2 H2 => wipe σ2 vs = wipe σ vs ∧ tYes σ2 H2 fun b H3 =>
        if b = true then te σ2 H3 fun y H4 => ∃ acc, H4 D = some (.lst acc) ∧ acc.length < sizeLine ∧ Nx (upd H4 D (.lst (acc ++ [y]))) else Nx H3) := by
  refine lc_w w hn (fun _ i acc _ => acc = (List.range i).map f) (fun _ _ _ _ _ => rfl) (fun _ _ _ _ _ p _ => p) (fun D i acc x H1 H2 hi _ s1 _ _ p s it kt kf ht _ => ?_) (fun D acc H' fD s hD _ p => hd D H' fD s (by rw [hD, p]))
  exact hs i x H1 H2 hi s1 s it kt fun H5 s5 => ht _ H5 s5 (by rw [p, List.range_succ, List.map_append]; rfl)
/-- a comprehension with a test: what is kept, and what is made of it -/
theorem lcf_w {tt : TT} {te : TE} {vs : List Nat} {Qd : Addr → Hp → Prop} (w : Wk T J n item H) (hn : n < sizeLine) (keep : Nat → Bool) (f : Nat → V)
    (hs : ∀ i x H1 H2, i < n → Sm T H H1 → Same H1 H2 → item i x H2 → ∀ (kt : VK) (kf : Hp → Prop), (∀ H5, keep i = true → Sm T H1 H5 → kt (f i) H5) → (∀ H4, keep i = false → Sm T H1 H4 → kf H4) →
      g x (wipe σ vs) H2 fun σ2 H3 => wipe σ2 vs = wipe σ vs ∧ tt σ2 H3 fun b H4 => if b = true then te σ2 H4 kt else kf H4)
    (hd : ∀ D H', Fr H D → Sm T H H' → H' D = some (.lst (((List.range n).filter keep).map f)) → Qd D H') :
    ∀ D, H D = none → ∃ W : Nat → Nat → Hp → Prop, (∃ m, W 0 m (upd H D (.lst []))) ∧ ∀ i m H, W i m H →
      (J.stop i H ∧ Qd D H) ∨ (J.go i H ∧ ∃ Nx : Hp → Prop, (∀ H', Nx H' → ∃ m', m' < m ∧ W (i + 1) m' H') ∧ ∀ x H', J.yld i H x H' → g x (wipe σ vs) H' fun σ2 H2 => wipe σ2 vs = wipe σ vs ∧ tt σ2 H2 fun b H3 =>
        if b = true then te σ2 H3 fun y H4 => ∃ acc, H4 D = some (.lst acc) ∧ acc.length < sizeLine ∧ Nx (upd H4 D (.lst (acc ++ [y]))) else Nx H3) := by
  refine lc_w w hn (fun _ i acc _ => acc = ((List.range i).filter keep).map f) (fun _ _ _ _ _ => rfl) (fun _ _ _ _ _ p _ => p) (fun D i acc x H1 H2 hi _ s1 _ _ p s it kt kf ht hf => ?_) (fun D acc H' fD s hD _ p => hd D H' fD s (by rw [hD, p]))
  refine hs i x H1 H2 hi s1 s it kt kf (fun H5 c s5 => ht _ H5 s5 ?_) (fun H4 c s4 => hf H4 s4 ?_)
  · rw [p, List.range_succ, List.filter_append, List.map_append]
    simp [c]
  · rw [p, List.range_succ, List.filter_append, List.map_append]
    simp [c]
end
/-- J takes n turns, as long as I holds of the heap -/
structure WkI (J : It) (n : Nat) (item : Nat → V → Hp → Prop) (I : Hp → Prop) : Prop where
  go : ∀ i H, I H → i < n → J.go i H
  yld : ∀ i H x H', I H → i < n → J.yld i H x H' → Same H H' ∧ item i x H'
  stop : ∀ H, I H → J.stop n H
section
variable {K : PySem.W.Frag} {a : Addr} {xs : List V} {J : It} {n : Nat} {item : Nat → V → Hp → Prop} {I : Hp → Prop} {H : Hp} {σ : L2.St} {g : TG}
theorem wki_list : WkI (Itl K a) xs.length (fun i x _ => xs[i]? = some x) (fun H => SqL K H a xs) where
  go := fun i H s hi => ⟨xs, xs[i], s, by simp [hi]⟩
  yld := fun i H x H' s _ y => by
    obtain ⟨e, y⟩ := y
    subst e
    exact ⟨Same.refl _, y xs s⟩
  stop := fun H s => ⟨xs, s, Nat.le_refl _⟩
theorem wki_range (lo : Int) (n : Nat) : WkI (Itr lo n) n (fun i x _ => x = .int (lo + (i : Int))) (fun _ => True) where
  go := fun i H s hi => hi
  yld := fun i H x H' s _ y => by
    obtain ⟨e, y⟩ := y
    subst e
    exact ⟨Same.refl _, y⟩
  stop := fun H s => Nat.le_refl _
/-- a for loop by an invariant that may write -/
theorem for_i {tb : TS} {D : Ends} (w : WkI J n item I) (Pv : Nat → L2.St → Hp → Prop) (h0 : Pv 0 σ H) (hI : ∀ i σ' H', i ≤ n → Pv i σ' H' → I H')
    (hs : ∀ i x σ1 H1 H2, i < n → Pv i σ1 H1 → Same H1 H2 → item i x H2 → g x σ1 H2 fun σ2 H3 => tb { D with nx := Pv (i + 1), ct := Pv (i + 1), bk := D.nx } σ2 H3) (hd : ∀ σ' H', Pv n σ' H' → D.nx σ' H') :
    ∃ W : Nat → Nat → L2.St → Hp → Prop, (∃ m, W 0 m σ H) ∧ ∀ i m σ H, W i m σ H →
      (J.stop i H ∧ D.nx σ H) ∨ (J.go i H ∧ ∃ N : L2.St → Hp → Prop, (∀ σ' H', N σ' H' → ∃ m', m' < m ∧ W (i + 1) m' σ' H') ∧ ∀ x H', J.yld i H x H' → g x σ H' fun σ2 H2 => tb { D with nx := N, ct := N, bk := D.nx } σ2 H2) := by
  refine ⟨fun i m σ' H' => m = n - i ∧ i ≤ n ∧ Pv i σ' H', ⟨n, by simp, Nat.zero_le _, h0⟩, ?_⟩
  rintro i m σ' H' ⟨rfl, hi, p⟩
  by_cases hlt : i < n
  · refine .inr ⟨w.go i H' (hI _ _ _ hi p) hlt, Pv (i + 1), fun σ2 H2 p' => ⟨n - (i + 1), by omega, rfl, hlt, p'⟩, fun x H2 y => ?_⟩
    obtain ⟨s, it⟩ := w.yld i H' x H2 (hI _ _ _ hi p) hlt y
    exact hs i x σ' H' H2 hlt p s it
  · have e : i = n := by omega
    subst e
    exact .inl ⟨w.stop H' (hI _ _ _ hi p), hd σ' H' p⟩
end
section
variable {K : PySem.W.Frag} {σ : L2.St} {H : Hp} {Q : VK} {te : TE} {tA : TA} {R : It → Hp → Prop} {a : Addr} {xs : List V}
theorem rd_lc {wi : TI} {g : TG} {tt : TT} {vs : List Nat} (h : wi σ H fun J H1 => ∀ D, H1 D = none → ∃ W : Nat → Nat → Hp → Prop, (∃ m, W 0 m (upd H1 D (.lst []))) ∧ ∀ i m H, W i m H →
  (J.stop i H ∧ Q (.ref D) H) ∨ (J.go i H ∧ ∃ Nx : Hp → Prop, (∀ H', Nx H' → ∃ m', m' < m ∧ W (i + 1) m' H') ∧ ∀ x H', J.yld i H x H' → g x (wipe σ vs) H' fun σ2 H2 => wipe σ2 vs = wipe σ vs ∧ tt σ2 H2 fun b H3 =>
    if b = true then te σ2 H3 fun y H4 => ∃ acc, H4 D = some (.lst acc) ∧ acc.length < sizeLine ∧ Nx (upd H4 D (.lst (acc ++ [y]))) else Nx H3)) : tLc wi g tt te vs σ H Q := h
theorem rd_for {wi : TI} {g : TG} {tb : TS} {D : Ends} (h : wi σ H fun J H1 => ∃ W : Nat → Nat → L2.St → Hp → Prop, (∃ m, W 0 m σ H1) ∧ ∀ i m σ H, W i m σ H →
  (J.stop i H ∧ D.nx σ H) ∨ (J.go i H ∧ ∃ N : L2.St → Hp → Prop, (∀ σ' H', N σ' H' → ∃ m', m' < m ∧ W (i + 1) m' σ' H') ∧ ∀ x H', J.yld i H x H' → g x σ H' fun σ2 H2 => tb { D with nx := N, ct := N, bk := D.nx } σ2 H2)) : tFor wi g tb D σ H := h
theorem rd_iL (h : te σ H fun x H1 => ∃ a, x = .ref a ∧ (∃ xs, SqL K H1 a xs) ∧ R (Itl K a) H1) : iList K te σ H R := h
theorem rd_iT (h : te σ H fun x H1 => ∃ a, x = .ref a ∧ (∃ xs, SqT K H1 a xs) ∧ R (Itt K a) H1) : iTup K te σ H R := h
theorem rd_iR1 (h : tA σ H fun vs H1 => ∃ j : Int, vs = [.int j] ∧ -(2 ^ 62) ≤ j ∧ j < 2 ^ 62 ∧ R (Itr 0 j.toNat) H1) : iRng1 tA σ H R := h
theorem rd_iR2 (h : tA σ H fun vs H1 => ∃ i j : Int, vs = [.int i, .int j] ∧ (-(2 ^ 62) ≤ i ∧ i < 2 ^ 62 ∧ -(2 ^ 62) ≤ j ∧ j < 2 ^ 62) ∧ R (Itr i (j - i).toNat) H1) : iRng2 tA σ H R := h
theorem rd_iE (h : tA σ H fun vs H1 => ∃ a xs, vs = [.ref a] ∧ SqL K H1 a xs ∧ R (Ite K a) H1) : iEnum K tA σ H R := h
theorem rd_raise {C : Addr} {f : Str} {W : WX} {D : Ends} (h : tA σ H fun vs H1 => ∃ v, vs = [v] ∧ ∀ d H', NewO H1 d (.xd [(f, v)]) H' → W (.ref C) (some d) σ H') : tRaiseX C f W tA D σ H := h
theorem rd_raise1 {v : V} {R : V → Prop} (h : R v) : ∃ u, [v] = [u] ∧ R u := ⟨v, rfl, h⟩
theorem rd_gtup2 {g1 g2 : TG} {n : Nat} {x y : V} {QN : L2.St → Hp → Prop} (hq : SqT K H a [x, y]) (hn : 2 = n) (h : g1 x σ H fun σ1 H1 => gCons g2 gNil [y] σ1 H1 QN) : gTup K n (gCons g1 (gCons g2 gNil)) (.ref a) σ H QN := ⟨a, [x, y], rfl, hq, hn, x, [y], rfl, h⟩
theorem rd_gcons1 {g2 : TG} {y : V} {QN : L2.St → Hp → Prop} (h : g2 y σ H fun σ1 H1 => gNil [] σ1 H1 QN) : gCons g2 gNil [y] σ H QN := ⟨y, [], rfl, h⟩
theorem rd_gnil {QN : L2.St → Hp → Prop} (h : QN σ H) : gNil [] σ H QN := ⟨rfl, h⟩
theorem rd_sl {r : V → Option Int → Option Int → Hp → VK → Prop} {tl th : TO} (h : te σ H fun x H1 => tl σ H1 fun l H2 => th σ H2 fun u H3 => r x l u H3 Q) : tSl r te tl th σ H Q := h
theorem rd_nopart {QO : Option Int → Hp → Prop} (h : QO none H) : tNoPart σ H QO := h
theorem rd_part {QO : Option Int → Hp → Prop} (h : te σ H fun x H1 => ∃ i, x = .int i ∧ QO (some i) H1) : tPart te σ H QO := h
theorem rd_int1 {i : Int} {R : Int → Prop} (h : R i) : ∃ j, V.int i = .int j ∧ R j := ⟨i, rfl, h⟩
theorem rd_slL {lo hi : Option Int} (hq : SqL K H a xs) (h : ∀ p H', NewO H p (.lst (cutV xs lo hi)) H' → Q (.ref p) H') : rSlL K (.ref a) lo hi H Q := ⟨a, xs, rfl, hq, fun p hp => h p _ (newO hp)⟩
theorem rd_fld {f : Str} (h : te σ H fun x H1 => ∃ a C dx fs v, x = .ref a ∧ H1 a = some (.ins C dx fs) ∧ Cls K C ∧ NoAttr K C f ∧ fs.lookup f = some v ∧ Q v H1) : tFld K te f σ H Q := h
theorem rd_sfld {ta tv : TE} {f : Str} {D : Ends} (h : tv σ H fun y H1 => ta σ H1 fun x H2 => ∃ a C dx fs, x = .ref a ∧ H2 a = some (.ins C dx fs) ∧ Cls K C ∧ NoAttr K C f ∧ fs.length < 1000 ∧ D.nx σ (upd H2 a (.ins C dx (putF f y fs)))) : sFld K ta tv f D σ H := h
theorem rd_bm {T : String} {r : V → List V → Hp → VK → Prop} (h : te σ H fun x H1 => tyV K T x H1 ∧ tA σ H1 fun xs H2 => r x xs H2 Q) : tBM K T r te tA σ H Q := h
theorem rd_bm0 {T : String} {r : V → List V → Hp → VK → Prop} (h : te σ H fun x H1 => tyV K T x H1 ∧ r x [] H1 Q) : tBM0 K T r te σ H Q := h
theorem rd_append {y : V} (hq : H a = some (.lst xs)) (hl : xs.length < sizeLine) (h : Q .non (upd H a (.lst (xs ++ [y])))) : rAppend (.ref a) [y] H Q := ⟨a, xs, y, rfl, rfl, hq, hl, h⟩
theorem tyL (hq : H a = some (.lst xs)) : tyV K "list" (.ref a) H := .inl ⟨rfl, _, SqL.of hq⟩
theorem rd_yes {QT : Bool → Hp → Prop} (h : QT true H) : tYes σ H QT := h
end
/-- what a list of items gives, place by place -/
theorem map_at {xs : List V} {f : Nat → V} {α : Type} {l : List α} {h : α → V} (hl : xs.length = l.length) (hf : ∀ i (a : α), l[i]? = some a → f i = h a) : (List.range xs.length).map f = l.map h := by
  refine List.ext_getElem? fun i => ?_
  rw [List.getElem?_map, List.getElem?_map]
  by_cases c : i < xs.length
  · rw [List.getElem?_range c]
    obtain ⟨a, ha⟩ : ∃ a, l[i]? = some a := ⟨l[i]'(by omega), by simp [show i < l.length by omega]⟩
    rw [ha]
    show some (f i) = some (h a)
    rw [hf i a ha]
  · rw [List.getElem?_eq_none (by simpa using c), List.getElem?_eq_none (by omega)]
    rfl
end NC

namespace NC
open PySem PySem.Spec PyProof.Rows L2

/-! ### pairs, rows, networks in the heap -/
abbrev Lk := Int × Int
def kOf (H : Hp) (v : V) : Lk := match v with
  | .ref t => match H t with
    | some (.tup [.int a, .int b]) => (a, b)
    | _ => (0, 0)
  | _ => (0, 0)
theorem kOf_at {H : Hp} {t : Addr} {a b : Int} (h : H t = some (.tup [.int a, .int b])) : kOf H (.ref t) = (a, b) := by simp [kOf, h]
def IsPr (H : Hp) (v : V) (e : Lk) : Prop := ∃ t, v = .ref t ∧ H t = some (.tup [.int e.1, .int e.2])
/-- at a: a list of pairs of ints -/
def PairsAt (H : Hp) (a : Addr) (es : List Lk) : Prop := ∃ xs : List V, H a = some (.lst xs) ∧ Paired (IsPr H) xs es
theorem IsPr.sm {T : List (Addr × Str)} {H H' : Hp} (s : Sm T H H') {v : V} {e : Lk} (h : IsPr H v e) : IsPr H' v e := let ⟨t, h1, h2⟩ := h; ⟨t, h1, s.tup h2⟩
theorem PairsAt.sm {T : List (Addr × Str)} {H H' : Hp} (s : Sm T H H') {a : Addr} {es : List Lk} (h : PairsAt H a es) : PairsAt H' a es := let ⟨xs, h1, h2⟩ := h; ⟨xs, s.lst h1, Paired.mapP h2 fun _ _ q => q.sm s⟩
theorem IsPr.dt {H : Hp} {v : V} {e : Lk} (h : IsPr H v e) : Dt H v (.tuple [.int e.1, .int e.2]) := by
  obtain ⟨t, rfl, h⟩ := h
  exact .tup h (.cons (.int _) (.cons (.int _) .nil))
def lkD (e : Lk) : PyData := .tuple [.int e.1, .int e.2]
theorem paired_dt {H : Hp} : ∀ {xs : List V} {es : List Lk}, Paired (IsPr H) xs es → DtAll H xs (es.map lkD)
  | _, _, .nil => .nil
  | _, _, .cons r t => .cons r.dt (paired_dt t)
theorem PairsAt.dt {H : Hp} {a : Addr} {es : List Lk} (h : PairsAt H a es) : Dt H (.ref a) (.list (es.map lkD)) := by
  obtain ⟨xs, h1, h2⟩ := h
  exact .lst h1 (paired_dt h2)
theorem paired_mem {α β : Type} {F : α → β → Prop} : ∀ {xs : List α} {es : List β}, Paired F xs es → ∀ x ∈ xs, ∃ e ∈ es, F x e
  | _, _, .nil, x, h => by cases h
  | _, _, .cons r t, x, h => by
    rcases List.mem_cons.mp h with rfl | h
    · exact ⟨_, List.mem_cons_self, r⟩
    · obtain ⟨e, h1, h2⟩ := paired_mem t x h
      exact ⟨e, List.mem_cons_of_mem _ h1, h2⟩
theorem paired_get {α β : Type} {F : α → β → Prop} : ∀ {xs : List α} {es : List β} {i : Nat} {x : α}, Paired F xs es → xs[i]? = some x → ∃ e, es[i]? = some e ∧ F x e
  | _, _, _, _, .nil, h => by simp at h
  | _, _, 0, _, .cons r _, h => by simp at h; subst h; exact ⟨_, rfl, r⟩
  | _, _, i + 1, x, .cons _ t, h => by
    obtain ⟨e, h1, h2⟩ := paired_get (i := i) (x := x) t (by simpa using h)
    exact ⟨e, by simpa using h1, h2⟩
theorem paired_get' {α β : Type} {F : α → β → Prop} : ∀ {xs : List α} {es : List β} {i : Nat} {e : β}, Paired F xs es → es[i]? = some e → ∃ x, xs[i]? = some x ∧ F x e
  | _, _, _, _, .nil, h => by simp at h
  | _, _, 0, _, .cons r _, h => by simp at h; subst h; exact ⟨_, rfl, r⟩
  | _, _, i + 1, x, .cons _ t, h => by
    obtain ⟨e, h1, h2⟩ := paired_get' (i := i) (e := x) t (by simpa using h)
    exact ⟨e, by simpa using h1, h2⟩
theorem paired_app {α β : Type} {F : α → β → Prop} : ∀ {xs ys : List α} {es fs : List β}, Paired F xs es → Paired F ys fs → Paired F (xs ++ ys) (es ++ fs)
  | _, _, _, _, .nil, s => s
  | _, _, _, _, .cons r t, s => .cons r (paired_app t s)
theorem paired_kOf {H : Hp} : ∀ {xs : List V} {es : List Lk}, Paired (IsPr H) xs es → xs.map (kOf H) = es
  | _, _, .nil => rfl
  | _, _, .cons (a := x) (b := e) r t => by
    obtain ⟨p, rfl, h⟩ := r
    rw [List.map_cons, kOf_at h, paired_kOf t]
theorem kOf_paired {H : Hp} : ∀ {xs : List V}, (∀ x ∈ xs, ∃ t i j, x = V.ref t ∧ H t = some (.tup [.int i, .int j])) → Paired (IsPr H) xs (xs.map (kOf H))
  | [], _ => .nil
  | x :: xs, h => by
    obtain ⟨t, i, j, e, ht⟩ := h x List.mem_cons_self
    refine .cons ⟨t, e, ?_⟩ (kOf_paired fun y hy => h y (List.mem_cons_of_mem _ hy))
    rw [e, kOf_at ht]
    exact ht
/-- sorted(xs), xs pairs of ints -/
theorem rd_sortedP {K : PySem.W.Frag} {H : Hp} {a : Addr} {es : List Lk} {Q : VK} (hp : PairsAt H a es)
    (h : ∀ (p : Addr) (H' : Hp) (ks : List Lk), H p = none → Same H H' → ks.Perm es → ks.Pairwise (fun x y => SrtO.lexB y x = false) → PairsAt H' p ks → Q (.ref p) H') : rSortedPO K [.ref a] H Q := by
  obtain ⟨xs, hx, hpr⟩ := hp
  have items : ∀ x ∈ xs, ∃ t i j, x = V.ref t ∧ H t = some (.tup [.int i, .int j]) := fun x m => by
    obtain ⟨e, _, t, h1, h2⟩ := paired_mem hpr x m
    exact ⟨t, _, _, h1, h2⟩
  refine ⟨a, xs, kOf H, rfl, SqL.of hx, fun x m => ?_, fun ys p hs hb np => ?_⟩
  · obtain ⟨t, i, j, e, ht⟩ := items x m
    subst e
    exact ⟨t, rfl, by rw [kOf_at ht]; exact ht⟩
  · have sm : Same H (upd H p (.lst ys)) := same_new np
    refine h p _ (ys.map (kOf H)) np sm ?_ ?_ ⟨ys, upd_same, ?_⟩
    · have := hb.perm.map (kOf H)
      rwa [paired_kOf hpr] at this
    · exact List.pairwise_map.mpr hs
    · exact Paired.mapP (kOf_paired fun x m => items x (hb.perm.mem_iff.mp m)) fun _ _ q => q.sm (T := []) (Sm.of sm)

/-- the lists at ps hold these rows of ints -/
def RowsP (H : Hp) (ps : List Addr) (rows : List (List Int)) : Prop := Paired (fun (p : Addr) (r : List Int) => H p = some (.lst (r.map V.int))) ps rows
/-- at a: a list of such lists -/
def RowsAt (H : Hp) (a : Addr) (rows : List (List Int)) : Prop := ∃ ps : List Addr, H a = some (.lst (ps.map V.ref)) ∧ RowsP H ps rows
theorem RowsP.sm {T : List (Addr × Str)} {H H' : Hp} (s : Sm T H H') {ps : List Addr} {rows : List (List Int)} (h : RowsP H ps rows) : RowsP H' ps rows := Paired.mapP h fun _ _ q => s.lst q
theorem RowsAt.sm {T : List (Addr × Str)} {H H' : Hp} (s : Sm T H H') {a : Addr} {rows : List (List Int)} (h : RowsAt H a rows) : RowsAt H' a rows := let ⟨ps, h1, h2⟩ := h; ⟨ps, s.lst h1, h2.sm s⟩
theorem RowsP.dt {H : Hp} : ∀ {ps : List Addr} {rows : List (List Int)}, RowsP H ps rows → DtAll H (ps.map V.ref) (rows.map fun r => .list (r.map PyData.int))
  | _, _, .nil => .nil
  | _, _, .cons r t => .cons (Dt.ints r) (RowsP.dt t)
theorem RowsAt.dt {H : Hp} {a : Addr} {rows : List (List Int)} (h : RowsAt H a rows) : Dt H (.ref a) (.list (rows.map fun r => .list (r.map PyData.int))) := by
  obtain ⟨ps, h1, h2⟩ := h
  exact .lst h1 h2.dt
/-- one row grows -/
theorem RowsP.put {H H' : Hp} : ∀ {ps : List Addr} {rows : List (List Int)} {j : Nat} {p : Addr} {r' : List Int}, RowsP H ps rows → ps.Nodup → ps[j]? = some p → H' p = some (.lst (r'.map V.int)) → (∀ b, b ≠ p → H' b = H b) → RowsP H' ps (rows.set j r')
  | _, _, _, _, _, .nil, _, e, _, _ => by simp at e
  | q :: ps, r :: rows, 0, p, r', .cons h t, nd, e, hp, k => by
    obtain rfl : q = p := by simpa using e
    refine .cons hp ?_
    refine Paired.mapP (F := fun a b => H a = some (.lst (b.map V.int)) ∧ a ∈ ps) ?_ fun a b z => ?_
    · exact paired_in t
    · rw [k a (fun c => (List.nodup_cons.mp nd).1 (c ▸ z.2))]
      exact z.1
  | q :: ps, r :: rows, j + 1, p, r', .cons h t, nd, e, hp, k => by
    have e' : ps[j]? = some p := by simpa using e
    have hq : q ≠ p := fun c => (List.nodup_cons.mp nd).1 (c ▸ List.mem_of_getElem? e')
    exact .cons (by rw [k q hq]; exact h) (RowsP.put t (List.nodup_cons.mp nd).2 e' hp k)
where
  paired_in {H : Hp} {ps : List Addr} {rows : List (List Int)} (t : RowsP H ps rows) : Paired (fun a b => H a = some (.lst (b.map V.int)) ∧ a ∈ ps) ps rows := by
    induction t with
    | nil => exact .nil
    | cons r t ih => exact .cons ⟨r, List.mem_cons_self⟩ (Paired.mapP ih fun a b z => ⟨z.1, List.mem_cons_of_mem _ z.2⟩)

/-- all but what stands at p (and the tables) stands as it stood -/
def Smx (T : List (Addr × Str)) (p : Addr) (H H' : Hp) : Prop := (∀ b o, b ≠ p → H b = some o → (∀ ps, o ≠ .tbl ps) → H' b = some o) ∧ (LamX.Tabs T H → LamX.Tabs T H')
theorem Smx.of {T : List (Addr × Str)} {p : Addr} {H H' : Hp} (s : Sm T H H') : Smx T p H H' := ⟨fun b o _ h n => s.1 b o h n, s.2⟩
theorem Smx.trans {T : List (Addr × Str)} {p : Addr} {H H1 H2 : Hp} (a : Smx T p H H1) (b : Smx T p H1 H2) : Smx T p H H2 := ⟨fun c o n h t => b.1 c o n (a.1 c o n h t) t, fun t => b.2 (a.2 t)⟩
theorem tabs_at {T : List (Addr × Str)} {H H' : Hp} {a : Addr} {o : HO} (h1 : H a = some o) (no : (∀ ps, o ≠ .tbl ps) ∧ ∀ c q, o ≠ LamX.CodeO c q) (k : ∀ b, b ≠ a → H' b = H b) (t : LamX.Tabs T H) : LamX.Tabs T H' := by
  intro p hp
  obtain ⟨ps, e1, e2, e3⟩ := t p hp
  refine ⟨ps, by rw [k _ (fun z => by rw [z, h1] at e1; exact no.1 ps (Option.some.inj e1))]; exact e1, e2, fun pos cv hc => ?_⟩
  obtain ⟨c, ec, hcc⟩ := e3 pos cv hc
  refine ⟨c, ec, ?_⟩
  rw [k c (fun z => by rw [z, h1] at hcc; exact no.2 _ _ (Option.some.inj hcc))]
  exact hcc
/-- the object at p itself is written -/
theorem Smx.put {T : List (Addr × Str)} {p : Addr} {H H1 H2 : Hp} (s : Smx T p H H1) {o : HO} (h1 : H1 p = some o) (no : (∀ ps, o ≠ .tbl ps) ∧ ∀ c q, o ≠ LamX.CodeO c q) (k : ∀ b, b ≠ p → H2 b = H1 b) : Smx T p H H2 :=
  ⟨fun b u n h t => by rw [k b n]; exact s.1 b u n h t, fun t => tabs_at h1 no k (s.2 t)⟩
/-- a list that H did not know is written -/
theorem Smx.mutL {T : List (Addr × Str)} {p a : Addr} {H H1 H2 : Hp} {xs : List V} (s : Smx T p H H1) (n : Fr H a) (h1 : H1 a = some (.lst xs)) (k : ∀ b, b ≠ a → H2 b = H1 b) : Smx T p H H2 :=
  ⟨fun b u nb h t => by rw [k b (n.ne h t)]; exact s.1 b u nb h t, fun t => tabs_at h1 lst_no k (s.2 t)⟩
theorem Smx.fr {T : List (Addr × Str)} {p a : Addr} {H H1 : Hp} (s : Smx T p H H1) (ne : a ≠ p) (n : Fr H1 a) : Fr H a := fun u e => by
  by_cases c : ∃ ps, u = .tbl ps
  · exact c
  · exact n u (s.1 a u ne e fun ps z => c ⟨ps, z⟩)

/-! ### neighbours -/
def nbr (ks : List Lk) (v : Int) : List Int := ks.filterMap fun e => if e.1 = v then some e.2 else if e.2 = v then some e.1 else none
def nbrs (n : Nat) (ks : List Lk) : List (List Int) := (List.range n).map fun (i : Nat) => nbr ks (i : Int)
theorem nbrs_len (n : Nat) (ks : List Lk) : (nbrs n ks).length = n := by simp [nbrs]
theorem nbrs_at {n i : Nat} (ks : List Lk) (h : i < n) : (nbrs n ks)[i]? = some (nbr ks (i : Int)) := by simp [nbrs, h]
theorem nbr_app (ks : List Lk) (e : Lk) (v : Int) : nbr (ks ++ [e]) v = nbr ks v ++ (if e.1 = v then [e.2] else if e.2 = v then [e.1] else []) := by
  unfold nbr
  rw [List.filterMap_append]
  congr 1
  by_cases h1 : e.1 = v
  · simp [h1]
  · by_cases h2 : e.2 = v <;> simp [h1, h2]
/-- a link between two of n stations -/
def OkLk (n : Nat) (e : Lk) : Prop := 0 ≤ e.1 ∧ e.1 < e.2 ∧ e.2 < (n : Int)
theorem nbrs_step {n : Nat} {ks : List Lk} {e : Lk} (h : OkLk n e) :
    ((nbrs n ks).set e.1.toNat (nbr ks e.1 ++ [e.2])).set e.2.toNat (nbr ks e.2 ++ [e.1]) = nbrs n (ks ++ [e]) := by
  obtain ⟨h0, h1, h2⟩ := h
  refine List.ext_getElem? fun i => ?_
  by_cases hi : i < n
  · rw [nbrs_at _ hi, nbr_app, List.getElem?_set, List.getElem?_set]
    simp only [List.length_set, nbrs_len]
    by_cases c2 : e.2.toNat = i
    · have e2 : e.2 = (i : Int) := by omega
      have e1 : ¬ e.1 = (i : Int) := by omega
      rw [if_pos c2, if_pos (show e.2.toNat < n by omega), if_neg e1, if_pos e2, e2]
    · have e2 : ¬ e.2 = (i : Int) := by omega
      rw [if_neg c2]
      by_cases c1 : e.1.toNat = i
      · have e1 : e.1 = (i : Int) := by omega
        rw [if_pos c1, if_pos (show e.1.toNat < n by omega), if_pos e1, e1]
      · have e1 : ¬ e.1 = (i : Int) := by omega
        rw [if_neg c1, nbrs_at _ hi, if_neg e1, if_neg e2, List.append_nil]
  · rw [List.getElem?_eq_none (by simp [nbrs_len]; omega), List.getElem?_eq_none (by simp [nbrs_len]; omega)]
theorem nbr_mem {ks : List Lk} {v u : Int} : u ∈ nbr ks v ↔ ((v, u) ∈ ks ∨ (u, v) ∈ ks) ∧ True := by
  unfold nbr
  rw [List.mem_filterMap]
  constructor
  · rintro ⟨e, he, h⟩
    refine ⟨?_, trivial⟩
    by_cases c1 : e.1 = v
    · rw [if_pos c1] at h
      left
      rw [← c1, ← Option.some.inj h]
      exact he
    · rw [if_neg c1] at h
      by_cases c2 : e.2 = v
      · rw [if_pos c2] at h
        right
        rw [← c2, ← Option.some.inj h]
        exact he
      · rw [if_neg c2] at h
        cases h
  · rintro ⟨h | h, _⟩
    · exact ⟨_, h, by simp⟩
    · by_cases c : u = v
      · exact ⟨_, h, by simp [c]⟩
      · exact ⟨_, h, by simp [c]⟩
/-- the fields of a network -/
def netFs (kp nr : Addr) : List (Str × V) := putF "near" (.ref nr) (putF "kept" (.ref kp) [])
/-- a Network of n stations with the links ks (ascending) stands at p -/
def NetAt (C : Addr) (H : Hp) (p : Addr) (n : Nat) (ks : List Lk) : Prop := ∃ dx kp nr, H p = some (.ins C dx (netFs kp nr)) ∧ PairsAt H kp ks ∧ RowsAt H nr (nbrs n ks)
theorem NetAt.sm {T : List (Addr × Str)} {C : Addr} {H H' : Hp} (s : Sm T H H') {p : Addr} {n : Nat} {ks : List Lk} (h : NetAt C H p n ks) : NetAt C H' p n ks := let ⟨dx, kp, nr, h1, h2, h3⟩ := h; ⟨dx, kp, nr, s.ins h1, h2.sm s, h3.sm s⟩
/-- links that make a network: each one between two stations, none twice -/
def OkLks (n : Nat) (es : List Lk) : Prop := (∀ e ∈ es, OkLk n e) ∧ es.Nodup
/-- [[] for k in ..]: new lists, each another one -/
theorem lc_fresh {T : List (Addr × Str)} {J : It} {n k : Nat} {item : Nat → V → Hp → Prop} {H : Hp} {σ : L2.St} {vs : List Nat} {Qd : Addr → Hp → Prop} (w : Wk T J n item H) (hn : n < sizeLine)
    (hw : ∀ x, wipe ((wipe σ vs).set k (some x)) vs = wipe σ vs)
    (hd : ∀ D H' (ps : List Addr), Fr H D → Sm T H H' → H' D = some (.lst (ps.map V.ref)) → ps.length = n → ps.Nodup → D ∉ ps → (∀ a ∈ ps, Fr H a) → RowsP H' ps (List.replicate n []) → Qd D H') :
    ∀ D, H D = none → ∃ W : Nat → Nat → Hp → Prop, (∃ m, W 0 m (upd H D (.lst []))) ∧ ∀ i m H, W i m H →
      (J.stop i H ∧ Qd D H) ∨ (J.go i H ∧ ∃ Nx : Hp → Prop, (∀ H', Nx H' → ∃ m', m' < m ∧ W (i + 1) m' H') ∧ ∀ x H', J.yld i H x H' → gName k x (wipe σ vs) H' fun σ2 H2 => wipe σ2 vs = wipe σ vs ∧ tYes σ2 H2 fun b H3 =>
        if b = true then tLst tNil σ2 H3 fun y H4 => ∃ acc, H4 D = some (.lst acc) ∧ acc.length < sizeLine ∧ Nx (upd H4 D (.lst (acc ++ [y]))) else Nx H3) := by
  refine lc_w (T := T) w hn (fun D i acc H' => ∃ ps : List Addr, acc = ps.map V.ref ∧ ps.length = i ∧ ps.Nodup ∧ D ∉ ps ∧ (∀ a ∈ ps, Fr H a) ∧ RowsP H' ps (List.replicate i []))
    (fun D H' fD _ _ => ⟨[], rfl, rfl, List.nodup_nil, List.not_mem_nil, fun a h => absurd h List.not_mem_nil, .nil⟩)
    (fun D i acc Ha Hb h k => ?_) (fun D i acc x H4 H5 hi fD s4 hD hl hP s5 hit kt kf ht _ => ?_) (fun D acc H4 fD s4 hD hl hP => ?_)
  · obtain ⟨ps, e1, e2, e3, e4, e5, e6⟩ := h
    refine ⟨ps, e1, e2, e3, e4, e5, ?_⟩
    have := RowsP.put.paired_in e6
    exact Paired.mapP this fun a b z => by rw [k a (fun c => e4 (c ▸ z.2))]; exact z.1
  · obtain ⟨ps, e1, e2, e3, e4, e5, e6⟩ := hP
    refine rd_gname ⟨hw x, rd_yes (iteT (rd_lst (rd_nil (rd_mk (f := fun _ => .lst []) (Nat.zero_le _) fun a H6 na => ?_))))⟩
    have hne : ∀ b, H4 b ≠ none → b ≠ a := fun b hb z => by
      cases hb2 : H4 b with
      | none => exact hb hb2
      | some u =>
        have := s5 b u hb2
        rw [z, na.no] at this
        cases this
    have s46 : Sm T H4 H6 := (Sm.of s5).new na.s
    have aps : a ∉ ps := fun m => by
      obtain ⟨r, _, h⟩ := paired_mem e6 a m
      have := s5 _ _ h
      rw [na.no] at this
      cases this
    refine ht (.ref a) H6 s46 ⟨ps ++ [a], by rw [e1, List.map_append]; rfl, by rw [List.length_append, e2]; rfl, ?_, ?_, ?_, ?_⟩
    · exact List.nodup_append.mpr ⟨e3, by simp, fun b hb c hc => by
        rw [List.mem_singleton] at hc
        rw [hc]
        exact fun z => aps (z ▸ hb)⟩
    · rw [List.mem_append, List.mem_singleton]
      rintro (h | h)
      · exact e4 h
      · exact hne D (by rw [hD]; exact fun z => by cases z) h
    · intro b hb
      rw [List.mem_append, List.mem_singleton] at hb
      rcases hb with hb | rfl
      · exact e5 b hb
      · exact (s4.new s5).free na.no
    · rw [List.replicate_succ']
      exact paired_app (e6.sm s46) (.cons na.at' .nil)
  · obtain ⟨ps, e1, e2, e3, e4, e5, e6⟩ := hP
    exact hd D H4 ps fD s4 (by rw [hD, e1]) e2 e3 e4 e5 e6
/-- a comprehension of new lists of ints -/
theorem lc_rows {T : List (Addr × Str)} {J : It} {n : Nat} {item : Nat → V → Hp → Prop} {H : Hp} {σ : L2.St} {g : TG} {te : TE} {vs : List Nat} {Qd : Addr → Hp → Prop} (w : Wk T J n item H) (hn : n < sizeLine) (r : Nat → List Int)
    (hs : ∀ i x H1 H2, i < n → Sm T H H1 → Same H1 H2 → item i x H2 → ∀ kt : VK, (∀ a H5, Sm T H1 H5 → H1 a = none → H5 a = some (.lst ((r i).map V.int)) → kt (.ref a) H5) → g x (wipe σ vs) H2 fun σ2 H3 => wipe σ2 vs = wipe σ vs ∧ te σ2 H3 kt)
    (hd : ∀ D H' (ps : List Addr), Fr H D → Sm T H H' → H' D = some (.lst (ps.map V.ref)) → ps.length = n → ps.Nodup → D ∉ ps → (∀ a ∈ ps, Fr H a) → RowsP H' ps ((List.range n).map r) → Qd D H') :
    ∀ D, H D = none → ∃ W : Nat → Nat → Hp → Prop, (∃ m, W 0 m (upd H D (.lst []))) ∧ ∀ i m H, W i m H →
      (J.stop i H ∧ Qd D H) ∨ (J.go i H ∧ ∃ Nx : Hp → Prop, (∀ H', Nx H' → ∃ m', m' < m ∧ W (i + 1) m' H') ∧ ∀ x H', J.yld i H x H' → g x (wipe σ vs) H' fun σ2 H2 => wipe σ2 vs = wipe σ vs ∧ tYes σ2 H2 fun b H3 =>
        if b = true then te σ2 H3 fun y H4 => ∃ acc, H4 D = some (.lst acc) ∧ acc.length < sizeLine ∧ Nx (upd H4 D (.lst (acc ++ [y]))) else Nx H3) := by
  refine lc_w (T := T) w hn (fun D i acc H' => ∃ ps : List Addr, acc = ps.map V.ref ∧ ps.length = i ∧ ps.Nodup ∧ D ∉ ps ∧ (∀ a ∈ ps, Fr H a) ∧ RowsP H' ps ((List.range i).map r))
    (fun D H' fD _ _ => ⟨[], rfl, rfl, List.nodup_nil, List.not_mem_nil, fun a h => absurd h List.not_mem_nil, .nil⟩)
    (fun D i acc Ha Hb h k => ?_) (fun D i acc x H4 H5 hi fD s4 hD hl hP s5 hit kt kf ht _ => ?_) (fun D acc H4 fD s4 hD hl hP => ?_)
  · obtain ⟨ps, e1, e2, e3, e4, e5, e6⟩ := h
    refine ⟨ps, e1, e2, e3, e4, e5, ?_⟩
    exact Paired.mapP (RowsP.put.paired_in e6) fun a b z => by rw [k a (fun c => e4 (c ▸ z.2))]; exact z.1
  · obtain ⟨ps, e1, e2, e3, e4, e5, e6⟩ := hP
    refine hs i x H4 H5 hi s4 s5 hit kt fun a H6 s6 na ha => ?_
    have aps : a ∉ ps := fun m => by
      obtain ⟨r', _, h⟩ := paired_mem e6 a m
      have h' : H4 a = some (.lst (r'.map V.int)) := h
      rw [na] at h'
      cases h'
    refine ht (.ref a) H6 s6 ⟨ps ++ [a], by rw [e1, List.map_append]; rfl, by rw [List.length_append, e2]; rfl, ?_, ?_, ?_, ?_⟩
    · exact List.nodup_append.mpr ⟨e3, by simp, fun b hb c hc => by
        rw [List.mem_singleton] at hc
        rw [hc]
        exact fun z => aps (z ▸ hb)⟩
    · rw [List.mem_append, List.mem_singleton]
      rintro (h | h)
      · exact e4 h
      · rw [← h, hD] at na
        cases na
    · intro b hb
      rw [List.mem_append, List.mem_singleton] at hb
      rcases hb with hb | rfl
      · exact e5 b hb
      · exact s4.free na
    · rw [List.range_succ, List.map_append]
      exact paired_app (e6.sm s6) (.cons ha .nil)
  · obtain ⟨ps, e1, e2, e3, e4, e5, e6⟩ := hP
    exact hd D H4 ps fD s4 (by rw [hD, e1]) e2 e3 e4 e5 e6
/-- the two appends of a link to the rows -/
theorem rows_link {H : Hp} {ps : List Addr} {n : Nat} {ks : List Lk} {e : Lk} (hr : RowsP H ps (nbrs n ks)) (nd : ps.Nodup) (ok : OkLk n e) :
    ∃ (p1 p2 : Addr), ps[e.1.toNat]? = some p1 ∧ ps[e.2.toNat]? = some p2 ∧ H p1 = some (.lst ((nbr ks e.1).map V.int)) ∧
      ∀ H1 : Hp, H1 p1 = some (.lst ((nbr ks e.1 ++ [e.2]).map V.int)) → (∀ b, b ≠ p1 → H1 b = H b) → H1 p2 = some (.lst ((nbr ks e.2).map V.int)) ∧
        ∀ H2 : Hp, H2 p2 = some (.lst ((nbr ks e.2 ++ [e.1]).map V.int)) → (∀ b, b ≠ p2 → H2 b = H1 b) → RowsP H2 ps (nbrs n (ks ++ [e])) := by
  obtain ⟨h0, h1, h2⟩ := ok
  have i1 : e.1.toNat < n := by omega
  have i2 : e.2.toNat < n := by omega
  have c1 : ((e.1.toNat : Nat) : Int) = e.1 := by omega
  have c2 : ((e.2.toNat : Nat) : Int) = e.2 := by omega
  have g1 := nbrs_at ks i1
  have g2 := nbrs_at ks i2
  rw [c1] at g1
  rw [c2] at g2
  obtain ⟨p1, a1, b1⟩ := paired_get' hr g1
  obtain ⟨p2, a2, b2⟩ := paired_get' hr g2
  refine ⟨p1, p2, a1, a2, b1, fun H1 e1 k1 => ?_⟩
  have ne : p2 ≠ p1 := fun z => by
    subst z
    have := (List.getElem?_inj (show e.2.toNat < ps.length from (List.getElem?_eq_some_iff.mp a2).1) nd).mp (a2.trans a1.symm)
    omega
  refine ⟨by rw [k1 p2 ne]; exact b2, fun H2 e2 k2 => ?_⟩
  have r1 := RowsP.put hr nd a1 e1 k1
  have r2 := RowsP.put r1 nd a2 e2 k2
  rw [nbrs_step ⟨h0, h1, h2⟩] at r2
  exact r2
theorem nbr_len (ks : List Lk) (v : Int) : (nbr ks v).length ≤ ks.length := List.length_filterMap_le ..
theorem nbrs_nil (n : Nat) : nbrs n [] = List.replicate n [] := by
  unfold nbrs nbr
  refine List.ext_getElem? fun i => ?_
  rw [List.getElem?_map, List.getElem?_replicate]
  by_cases h : i < n
  · rw [List.getElem?_range h, if_pos h]
    rfl
  · rw [List.getElem?_eq_none (by simpa using h), if_neg h]
    rfl
end NC

namespace NC
open PySem PySem.Spec PyProof.Rows L2

/-! ### ascending order -/
def srt (ns : List Int) : List Int := ns.mergeSort (fun a b => decide (a ≤ b))
theorem srt_perm (ns : List Int) : (srt ns).Perm ns := List.mergeSort_perm ..
theorem srt_pw (ns : List Int) : (srt ns).Pairwise (· ≤ ·) := (List.pairwise_mergeSort (le := fun a b : Int => decide (a ≤ b)) (fun a b c h1 h2 => by simp at *; omega) (fun a b => by simp; omega) ns).imp fun h => by simpa using h
theorem srt_uniq {ys ns : List Int} (p : ys.Perm ns) (s : ys.Pairwise (· ≤ ·)) : ys = srt ns := List.Perm.eq_of_pairwise (le := (· ≤ ·)) (fun a b _ _ h1 h2 => by omega) s (srt_pw ns) (p.trans (srt_perm ns).symm)
theorem srt_len (ns : List Int) : (srt ns).length = ns.length := (srt_perm ns).length_eq
theorem srt_of {ns : List Int} (s : ns.Pairwise (· ≤ ·)) : srt ns = ns := (srt_uniq (List.Perm.refl ns) s).symm
def rLenQ (K : PySem.W.Frag) : List V → Hp → VK → Prop := fun xs H Q => ∃ p ys, xs = [V.ref p] ∧ (SqL K H p ys ∨ SqT K H p ys) ∧ Q (V.int ys.length) H
def rListQ (K : PySem.W.Frag) : List V → Hp → VK → Prop := fun xs H Q => ∃ p ys, xs = [V.ref p] ∧ (SqL K H p ys ∨ SqT K H p ys) ∧ ∀ (l : Addr), H l = none → Q (V.ref l) (upd H l (HO.lst ys))
def rTupQ (K : PySem.W.Frag) : List V → Hp → VK → Prop := fun xs H Q => ∃ p ys, xs = [V.ref p] ∧ ((SqL K H p ys ∧ ∀ (l : Addr), H l = none → Q (V.ref l) (upd H l (HO.tup ys))) ∨ SqT K H p ys ∧ Q (V.ref p) H)
section
variable {K : PySem.W.Frag} {σ : L2.St} {H : Hp} {Q : VK} {te : TE} {a : Addr} {xs : List V}
theorem rd_sortedI {ns : List Int} (hs : SqL K H a (ns.map V.int)) (h : ∀ p H', NewO H p (.lst ((srt ns).map V.int)) H' → Q (.ref p) H') : rSortedI K [.ref a] H Q :=
  ⟨a, ns, rfl, hs, fun ns' p h1 h2 h3 => by rw [srt_uniq h1 h2]; exact h p _ (newO h3)⟩
theorem rd_lenL (hs : SqL K H a xs) (h : Q (.int xs.length) H) : rLenQ K [.ref a] H Q := ⟨a, xs, rfl, .inl hs, h⟩
theorem rd_lenT (hs : SqT K H a xs) (h : Q (.int xs.length) H) : rLenQ K [.ref a] H Q := ⟨a, xs, rfl, .inr hs, h⟩
theorem rd_tupL (hs : SqL K H a xs) (h : ∀ p H', NewO H p (.tup xs) H' → Q (.ref p) H') : rTupQ K [.ref a] H Q := ⟨a, xs, rfl, .inl ⟨hs, fun p hp => h p _ (newO hp)⟩⟩
theorem rd_tupT (hs : SqT K H a xs) (h : Q (.ref a) H) : rTupQ K [.ref a] H Q := ⟨a, xs, rfl, .inr ⟨hs, h⟩⟩
theorem rd_listL (hs : SqL K H a xs) (h : ∀ p H', NewO H p (.lst xs) H' → Q (.ref p) H') : rListQ K [.ref a] H Q := ⟨a, xs, rfl, .inl hs, fun p hp => h p _ (newO hp)⟩
theorem rd_listT (hs : SqT K H a xs) (h : ∀ p H', NewO H p (.lst xs) H' → Q (.ref p) H') : rListQ K [.ref a] H Q := ⟨a, xs, rfl, .inr hs, fun p hp => h p _ (newO hp)⟩
theorem rd_neD {x y : V} {d e : PyData} (hd : Dt H x d) (he : Dt H y e) (od : Okd 64 d) (oe : Okd 64 e) (h : Q (.bl (!PyData.eqv d e)) H) : rNeD K x y H Q := ⟨d, e, hd.dp od.1, he.dp oe.1, od.sh, oe.sh, h⟩
theorem rd_eqD {x y : V} {d e : PyData} (hd : Dt H x d) (he : Dt H y e) (od : Okd 64 d) (oe : Okd 64 e) (h : Q (.bl (PyData.eqv d e)) H) : rEqD K x y H Q := ⟨d, e, hd.dp od.1, he.dp oe.1, od.sh, oe.sh, h⟩
theorem rd_app {y : V} (hq : H a = some (.lst xs)) (hl : xs.length < sizeLine) (h : ∀ H', H' a = some (.lst (xs ++ [y])) → (∀ b, b ≠ a → H' b = H b) → Q .non H') : rAppend (.ref a) [y] H Q := rd_append hq hl (h _ upd_same fun b hb => upd_ne hb)
/-- a while loop: an invariant with a measure -/
theorem rd_while {c : TT} {tb : TS} {D : Ends} (W : Nat → L2.St → Hp → Prop) (m : Nat) (h0 : W m σ H) (hs : ∀ m σ H, W m σ H → c σ H fun b H1 => if b = true then ∃ N : L2.St → Hp → Prop, (∀ σ' H', N σ' H' → ∃ m', m' < m ∧ W m' σ' H') ∧ tb { D with nx := N, ct := N, bk := D.nx } σ H1 else D.nx σ H1) : tWhile c tb D σ H := ⟨W, ⟨m, h0⟩, hs⟩
theorem rd_turn {tb : TS} {D : Ends} {W : Nat → L2.St → Hp → Prop} {m : Nat} (h : tb { D with nx := fun σ' H' => ∃ m', m' < m ∧ W m' σ' H', ct := fun σ' H' => ∃ m', m' < m ∧ W m' σ' H', bk := D.nx } σ H) :
    ∃ N : L2.St → Hp → Prop, (∀ σ' H', N σ' H' → ∃ m', m' < m ∧ W m' σ' H') ∧ tb { D with nx := N, ct := N, bk := D.nx } σ H := ⟨_, fun _ _ h => h, h⟩
end
section
variable {K : PySem.W.Frag} {σ : L2.St} {H : Hp} {Q : VK} {te : TE} {a : Addr} {xs : List V}
theorem rgV_nat (n : Nat) : rgV 0 (n : Int) = ((List.range n).map fun (i : Nat) => (i : Int)).map V.int := by
  unfold rgV
  rw [List.map_map]
  simp
theorem rgOk_nat {n : Nat} (hn : n ≤ 1000) : RgOk 0 (n : Int) := ⟨by omega, by omega, by omega, by omega, by omega⟩
theorem rd_lrg1 (h : te σ H fun x H1 => ∃ n, x = .int n ∧ (RgOk 0 n ∧ ∀ q, H1 q = none → Q (.ref q) (upd H1 q (.lst (rgV 0 n))))) : tLstRg (tRg1 te) σ H Q := h
theorem rd_popAt {i : Int} {k : Nat} {y : V} (hq : H a = some (.lst xs)) (hl : xs.length < 2 ^ 62) (e : i = (k : Int)) (hk : xs[k]? = some y) (h : ∀ H', H' a = some (.lst (xs.eraseIdx k)) → (∀ b, b ≠ a → H' b = H b) → Q y H') : rPopAt (.ref a) [.int i] H Q := by
  have hk' : k < xs.length := (List.getElem?_eq_some_iff.mp hk).1
  refine ⟨a, xs, i, k, y, rfl, rfl, hq, by omega, by omega, ?_, hk, h _ upd_same fun b hb => upd_ne hb⟩
  show (if (0 ≤ (if i < 0 then i + (xs.length : Int) else i) && decide ((if i < 0 then i + (xs.length : Int) else i) < (xs.length : Int))) = true then some (if i < 0 then i + (xs.length : Int) else i).toNat else none) = some k
  have e0 : (if i < 0 then i + (xs.length : Int) else i) = (k : Int) := by rw [if_neg (by omega), e]
  rw [e0, if_pos (by simp; omega), Int.toNat_natCast]
theorem rd_notInD {x y : V} {d : PyData} {ds : List PyData} (hd : Dt H x d) (he : Dt H y (.list ds)) (od : Okd 64 d) (oe : ∀ e ∈ ds, Okd 63 e) (h : Q (.bl (!ds.any fun z => PyData.eqv z d)) H) : rNotInD K x y H Q := ⟨d, ds, hd.dp od.1, he.dp (okd_list.mpr oe).1, od.sh, (okd_list.mpr oe).sh, h⟩
theorem rd_inD {x y : V} {d : PyData} {ds : List PyData} (hd : Dt H x d) (he : Dt H y (.list ds)) (od : Okd 64 d) (oe : ∀ e ∈ ds, Okd 63 e) (h : Q (.bl (ds.any fun z => PyData.eqv z d)) H) : rInD K x y H Q := ⟨d, ds, hd.dp od.1, he.dp (okd_list.mpr oe).1, od.sh, (okd_list.mpr oe).sh, h⟩
end
theorem map_eraseIdx {α β : Type} (f : α → β) : ∀ (l : List α) (k : Nat), (l.map f).eraseIdx k = (l.eraseIdx k).map f
  | [], k => by simp
  | x :: l, 0 => by simp
  | x :: l, k + 1 => by simp [map_eraseIdx f l k]
theorem perm_eraseIdx {α : Type} : ∀ (l : List α) (k : Nat) (z : α), l[k]? = some z → (z :: l.eraseIdx k).Perm l
  | [], k, z, h => by simp at h
  | x :: l, 0, z, h => by
    have : x = z := by simpa using h
    subst this
    simp
  | x :: l, k + 1, z, h => by
    have h' : l[k]? = some z := by simpa using h
    rw [List.eraseIdx_cons_succ]
    exact (List.Perm.swap x z _).trans ((perm_eraseIdx l k z h').cons x)
theorem srt_pair (x y : Int) : srt [x, y] = if x ≤ y then [x, y] else [y, x] := by
  by_cases h : x ≤ y
  · rw [if_pos h]
    exact (srt_uniq (List.Perm.refl _) (by simp [h])).symm
  · rw [if_neg h]
    exact (srt_uniq (List.Perm.swap x y []) (by simp; omega)).symm
theorem any_lkD {es : List Lk} {e : Lk} (h : ∀ a b : Lk, PyData.eqv (lkD a) (lkD b) = true ↔ a = b) : ((es.map lkD).any fun z => PyData.eqv z (lkD e)) = decide (e ∈ es) := by
  rw [List.any_map]
  by_cases c : e ∈ es
  · rw [decide_eq_true c]
    exact List.any_eq_true.mpr ⟨e, c, (h e e).mpr rfl⟩
  · rw [decide_eq_false c]
    refine Bool.eq_false_iff.mpr fun z => ?_
    obtain ⟨a, m, q⟩ := List.any_eq_true.mp z
    exact c ((h a e).mp q ▸ m)
theorem rd_glst2 {K : PySem.W.Frag} {σ : L2.St} {H : Hp} {a : Addr} {g1 g2 : TG} {n : Nat} {x y : V} {QN : L2.St → Hp → Prop} (hq : SqL K H a [x, y]) (hn : 2 = n) (h : g1 x σ H fun σ1 H1 => gCons g2 gNil [y] σ1 H1 QN) : gLst K n (gCons g1 (gCons g2 gNil)) (.ref a) σ H QN := ⟨a, [x, y], rfl, hq, hn, x, [y], rfl, h⟩
theorem PairsAt.inj {H : Hp} {L : Addr} {es fs : List Lk} (a : PairsAt H L es) (b : PairsAt H L fs) : es = fs := by
  obtain ⟨xs, h1, h2⟩ := a
  obtain ⟨ys, h3, h4⟩ := b
  rw [h1] at h3
  cases h3
  rw [← paired_kOf h2, paired_kOf h4]
theorem PairsAt.app {H H' : Hp} {L : Addr} {es : List Lk} {e : Lk} {q : Addr} {xs : List V} (hp : Paired (IsPr H) xs es) (hL : H' L = some (.lst (xs ++ [.ref q]))) (k : ∀ b, b ≠ L → H' b = H b) (hLo : H L = some (.lst xs)) (hq : H q = some (.tup [.int e.1, .int e.2])) : PairsAt H' L (es ++ [e]) := by
  have keep : ∀ {t : Addr} {ys : List V}, H t = some (.tup ys) → H' t = some (.tup ys) := fun {t ys} h => by rw [k t (fun z => by rw [z, hLo] at h; cases h)]; exact h
  refine ⟨_, hL, paired_app (Paired.mapP hp fun v e ⟨t, h1, h2⟩ => ⟨t, h1, keep h2⟩) (.cons ⟨q, rfl, keep hq⟩ .nil)⟩
theorem eqv_ints : ∀ {a b : List Int}, PyData.eqvAll (a.map PyData.int) (b.map PyData.int) = decide (a = b)
  | [], [] => rfl
  | [], _ :: _ => rfl
  | _ :: _, [] => rfl
  | x :: a, y :: b => by
    show ((x == y) && PyData.eqvAll (a.map PyData.int) (b.map PyData.int)) = _
    rw [eqv_ints]
    by_cases h : x = y <;> by_cases h2 : a = b <;> simp [h, h2]
theorem okd_ints {k : Nat} (ns : List Int) : Okd (k + 1) (.list (ns.map PyData.int)) := okd_list.mpr fun d m => by
  obtain ⟨i, _, rfl⟩ := List.mem_map.mp m
  exact okd_int i
theorem okd_tints {k : Nat} (ns : List Int) : Okd (k + 1) (.tuple (ns.map PyData.int)) := okd_tup.mpr fun d m => by
  obtain ⟨i, _, rfl⟩ := List.mem_map.mp m
  exact okd_int i

/-! ### own len -/
section
variable (P : Program) (w : World) (K : PySem.W.Frag) (mg : Str → Option Value) (base : Heap)
/-- the class at C has its own length -/
structure CalL (k : Nat) (C : Addr) (sp : Sp) : Prop where
  ex : ∃ (f : Addr) (fd : FuncData) (ps : List Str), FnOk P w K mg base CX0 k f fd ps sp ∧ Binds K fd ps [] ∧ PySem.W.findIn K (.ref C) "__len__" = some (some (.ref f)) ∧ PySem.W.isFn K (.ref f) = true
end
theorem CalL.r {X : Cx} {j k : Nat} {C : Addr} {sp : Sp} {E : XK} (hr : Room j X.A) (hk : k + 1 ≤ j) (c : CalL X.prog X.w X.K X.mg X.base k C sp) (hx : Passes CX0 X E) : CallR X (.builtin "len") (rLenOwn C sp E) := by
  obtain ⟨f, fd, ps, F, hb, h1, h2⟩ := c.ex
  exact call_lenOwn F (hr.mono hk) hb h1 h2 hx
theorem pe_lenOwn {X : Cx} {j k : Nat} {C : Addr} {sp : Sp} {E : XK} {p pos : Pos} {e : Expr} {t : TA} (hr : Room j X.A) (hk : k + 1 ≤ j) (c : CalL X.prog X.w X.K X.mg X.base k C sp) (hx : Passes CX0 X E) (hg : Gl X "len") (hm : X.mg "len" = none) (ha : PA X [e] t)
    (he : starEach [e] X.env = (false, eval e X.env) :: starEach [] X.env := by rfl) : PE X (.Call (.Name "len" p) [e] [] pos) (tCB (rLenOwn C sp E) t) :=
  pe_callB (c.r hr hk hx) hg hm PySem.boot_len ha (by decide) (by decide) he rfl
/-- the number of stations -/
def spLen (C : Addr) : Sp := fun vs H Q _ => ∃ (p : Addr) (n : Nat) (ks : List Lk), vs = [.ref p] ∧ NetAt C H p n ks ∧ Q (.int n) H
theorem rd_len {C : Addr} {E : XK} {H : Hp} {Q : VK} {p : Addr} {n : Nat} {ks : List Lk} (hn : NetAt C H p n ks) (hl : n < 2 ^ 62) (h : Q (.int n) H) : rLenOwn C (spLen C) E [.ref p] H Q := by
  obtain ⟨dx, kp, nr, h1, h2, h3⟩ := id hn
  exact ⟨p, dx, _, rfl, h1, p, n, ks, rfl, hn, n, rfl, hl, h⟩

/-! ### chains of numbers, plainly -/
def chainF (a : Int) (zs : List Int) : Int := zs.foldl (fun a z => if z > a then a + 1 else a) a
def chainN (ns : List Int) : Int := chainF 0 (srt ns)
theorem chainF_ge : ∀ (zs : List Int) (a : Int) (m : Nat), zs.Pairwise (· ≤ ·) → (a + (m : Int) ≤ chainF a zs ↔ ∀ j : Nat, 1 ≤ j → j ≤ m → m + 1 - j ≤ zs.countP (fun z => decide (a + (j : Int) ≤ z)))
  | [], a, m, _ => by
    show a + (m : Int) ≤ a ↔ _
    constructor
    · intro h j h1 h2
      omega
    · intro h
      cases m with
      | zero => omega
      | succ m =>
        have := h 1 (Nat.le_refl _) (by omega)
        simp at this
  | x :: r, a, m, hp => by
    have hx := (List.pairwise_cons.mp hp).1
    have hr := (List.pairwise_cons.mp hp).2
    show a + (m : Int) ≤ chainF (if x > a then a + 1 else a) r ↔ _
    by_cases c : x > a
    · rw [if_pos c]
      cases m with
      | zero =>
        have h0 : a + 1 ≤ chainF (a + 1) r := by
          have := (chainF_ge r (a + 1) 0 hr).mpr fun j h1 h2 => by omega
          simpa using this
        constructor
        · intro _ j h1 h2
          omega
        · intro _
          simp
          omega
      | succ m =>
        have e := chainF_ge r (a + 1) m hr
        rw [show a + ((m + 1 : Nat) : Int) = a + 1 + (m : Int) by omega, e]
        constructor
        · intro h j h1 h2
          rw [List.countP_cons]
          by_cases hj : j = 1
          · subst hj
            have cx : decide (a + ((1 : Nat) : Int) ≤ x) = true := by simp; omega
            rw [if_pos cx]
            have call : r.countP (fun z => decide (a + ((1 : Nat) : Int) ≤ z)) = r.length := List.countP_eq_length.mpr fun z hz => by
              have := hx z hz
              simp
              omega
            rw [call]
            by_cases hm : 1 ≤ m
            · have := h 1 (Nat.le_refl _) hm
              have l := List.countP_le_length (p := fun z => decide (a + 1 + ((1 : Nat) : Int) ≤ z)) (l := r)
              omega
            · omega
          · have := h (j - 1) (by omega) (by omega)
            rw [show a + 1 + ((j - 1 : Nat) : Int) = a + (j : Int) by omega] at this
            omega
        · intro h j h1 h2
          have hj := h (j + 1) (by omega) (by omega)
          rw [show a + ((j + 1 : Nat) : Int) = a + 1 + (j : Int) by omega, List.countP_cons] at hj
          by_cases cx : a + 1 + (j : Int) ≤ x
          · have call : r.countP (fun z => decide (a + 1 + (j : Int) ≤ z)) = r.length := List.countP_eq_length.mpr fun z hz => by
              have := hx z hz
              simp
              omega
            rw [call]
            have h1' := h 1 (Nat.le_refl _) (by omega)
            rw [List.countP_cons] at h1'
            have l := List.countP_le_length (p := fun z => decide (a + ((1 : Nat) : Int) ≤ z)) (l := r)
            split at h1' <;> omega
          · rw [if_neg (by simpa using cx)] at hj
            omega
    · rw [if_neg c, chainF_ge r a m hr]
      refine forall_congr' fun j => forall_congr' fun h1 => forall_congr' fun h2 => ?_
      rw [List.countP_cons, if_neg (by simp; omega)]
      simp
theorem chainN_ge (ns : List Int) (m : Nat) : ((m : Int) ≤ chainN ns ↔ ∀ j : Nat, 1 ≤ j → j ≤ m → m + 1 - j ≤ ns.countP (fun z => decide ((j : Int) ≤ z))) := by
  have := chainF_ge (srt ns) 0 m (srt_pw ns)
  rw [Int.zero_add] at this
  rw [show chainN ns = chainF 0 (srt ns) from rfl, this]
  refine forall_congr' fun j => forall_congr' fun h1 => forall_congr' fun h2 => ?_
  rw [(srt_perm ns).countP_eq]
  simp
theorem chainN_nonneg (ns : List Int) : 0 ≤ chainN ns := (chainN_ge ns 0).mpr fun j h1 h2 => by omega
theorem chainN_le_len (ns : List Int) : chainN ns ≤ ns.length := by
  by_cases h : chainN ns ≤ ns.length
  · exact h
  · have h0 := chainN_nonneg ns
    have := (chainN_ge ns (ns.length + 1)).mp (by omega) 1 (Nat.le_refl _) (by omega)
    have l := List.countP_le_length (p := fun z : Int => decide (((1 : Nat) : Int) ≤ z)) (l := ns)
    omega
/-! ### the class Network -/
/-- what the class Network is, as the top has made it -/
structure NetC (K : PySem.W.Frag) (C : Addr) : Prop where
  cl : Cls K C
  nk : NoAttr K C "kept"
  nn : NoAttr K C "near"
theorem kn : ¬ (("kept" : Str) = "near") := by decide +kernel
theorem netFs_kept (kp nr : Addr) : (netFs kp nr).lookup ("kept" : Str) = some (.ref kp) := by
  unfold netFs
  rw [lookup_putF, if_neg kn, lookup_putF, if_pos rfl]
theorem netFs_near (kp nr : Addr) : (netFs kp nr).lookup ("near" : Str) = some (.ref nr) := by
  unfold netFs
  rw [lookup_putF, if_pos rfl]
theorem netFs_len (kp nr : Addr) : (netFs kp nr).length ≤ 2 := Nat.le_trans (length_putF ..) (Nat.succ_le_succ (Nat.le_trans (length_putF ..) (Nat.le_refl _)))
section
variable {K : PySem.W.Frag} {C : Addr} {H : Hp} {Q : VK} {p : Addr} {n : Nat} {ks : List Lk}
/-- network.near -/
theorem rd_near {G : V → Prop} (N : NetC K C) (hn : NetAt C H p n ks) (h : ∀ nr, RowsAt H nr (nbrs n ks) → G (.ref nr)) : ∃ a C dx fs v, V.ref p = .ref a ∧ H a = some (.ins C dx fs) ∧ Cls K C ∧ NoAttr K C "near" ∧ fs.lookup ("near" : Str) = some v ∧ G v := by
  obtain ⟨dx, kp, nr, h1, h2, h3⟩ := hn
  exact ⟨p, C, dx, _, .ref nr, rfl, h1, N.cl, N.nn, netFs_near kp nr, h nr h3⟩
/-- network.kept -/
theorem rd_kept {G : V → Prop} (N : NetC K C) (hn : NetAt C H p n ks) (h : ∀ kp, PairsAt H kp ks → G (.ref kp)) : ∃ a C dx fs v, V.ref p = .ref a ∧ H a = some (.ins C dx fs) ∧ Cls K C ∧ NoAttr K C "kept" ∧ fs.lookup ("kept" : Str) = some v ∧ G v := by
  obtain ⟨dx, kp, nr, h1, h2, h3⟩ := hn
  exact ⟨p, C, dx, _, .ref kp, rfl, h1, N.cl, N.nk, netFs_kept kp nr, h kp h2⟩
/-- rows[i] -/
theorem rd_row {nr : Addr} {rows : List (List Int)} {r : List Int} {z : Int} (hr : RowsAt H nr rows) (i : Nat) (e : z = (i : Int)) (hi : rows[i]? = some r) (h : ∀ q, H q = some (.lst (r.map V.int)) → Q (.ref q) H) : rIxL K (.ref nr) (.int z) H Q := by
  obtain ⟨ps, h1, h2⟩ := hr
  obtain ⟨q, h3, h4⟩ := paired_get' h2 hi
  exact rd_ixL (SqL.of h1) (sat e (by rw [List.getElem?_map, h3]; rfl)) (h q h4)
/-- t[i], t ints -/
theorem rd_intL {a : Addr} {t : List Int} {z : Int} (ha : H a = some (.lst (t.map V.int))) (i : Nat) (e : z = (i : Int)) (hi : i < t.length) (h : Q (.int (t.getD i 0)) H) : rIxL K (.ref a) (.int z) H Q :=
  rd_ixL (SqL.of ha) (sat e (by rw [List.getElem?_map, List.getElem?_eq_getElem hi]; rfl)) (by simpa [hi] using h)
theorem rd_intT {a : Addr} {t : List Int} {z : Int} (ha : H a = some (.tup (t.map V.int))) (i : Nat) (e : z = (i : Int)) (hi : i < t.length) (h : Q (.int (t.getD i 0)) H) : rIxT K (.ref a) (.int z) H Q :=
  rd_ixT (SqT.of ha) (sat e (by rw [List.getElem?_map, List.getElem?_eq_getElem hi]; rfl)) (by simpa [hi] using h)
end
end NC

namespace NC
open PySem PySem.Spec PyProof.Rows L2
/-! ### the rules with the fragment told: in a comprehension a reading must not name the block -/
section
variable (K : PySem.W.Frag) {X : Cx} {e : Expr} {es : List Expr} {ta : TE} {tA : TA} {f : Str} {pos p tpos : Pos} {tg l : Expr} {tl : TE} {elts : List Expr} {kk : Nat} {t : TGs}
theorem ix_listK (h : X.K = K := by rfl) : IxR X (rIxL K) := by subst h; exact ix_list
theorem ix_tupK (h : X.K = K := by rfl) : IxR X (rIxT K) := by subst h; exact ix_tup
theorem pe_fldK (h1 : PE X e ta) (h2 : attributeBase e f X.env (eval e X.env) = eval e X.env) (h : X.K = K := by rfl) : PE X (e.Attribute f pos) (tFld K ta f) := by subst h; exact pe_fld h1 h2
theorem call_lenK (h : X.K = K := by rfl) : CallR X (Value.builtin "len") (rLenQ K) := by subst h; exact call_len_seq
theorem call_listK (h : X.K = K := by rfl) : CallR X (Value.type "list") (rListQ K) := by subst h; exact call_list_of
theorem call_tupleK (h : X.K = K := by rfl) : CallR X (Value.type "tuple") (rTupQ K) := by subst h; exact call_tuple_of
theorem sortedIK (h : X.K = K := by rfl) : CallR X (Value.builtin "sorted") (rSortedI K) := by subst h; exact cr_sortedI
theorem sortedPOK (h : X.K = K := by rfl) : CallR X (Value.builtin "sorted") (rSortedPO K) := by subst h; exact cr_sortedPO
theorem call_isiK (h : X.K = K := by rfl) : CallR X (Value.builtin "isinstance") (rIsi K) := by subst h; exact call_isi
theorem cr_allK (c : X.calm = true) (h : X.K = K := by rfl) : CallR X (Value.builtin "all") (rAll K) := by subst h; exact cr_all c
theorem cr_anyK (c : X.calm = true) (h : X.K = K := by rfl) : CallR X (Value.builtin "any") (rAny K) := by subst h; exact cr_any c
theorem sl_listK (h : X.K = K := by rfl) : SlR X (rSlL K) := by subst h; exact sl_list
theorem sl_tupAK (h : X.K = K := by rfl) : SlR X (rSlA K) := by subst h; exact sl_tupA
theorem op_inDK (u : X.A.units + 65 < cLine) (h : X.K = K := by rfl) : OpR X (compareOp CmpOp.In) (rInD K) := by subst h; exact op_inD u
theorem op_notInDK (u : X.A.units + 65 < cLine) (h : X.K = K := by rfl) : OpR X (compareOp CmpOp.NotIn) (rNotInD K) := by subst h; exact op_notInD u
theorem op_eqDK (u : X.A.units + 64 < cLine) (h : X.K = K := by rfl) : OpR X (compareOp CmpOp.Eq) (rEqD K) := by subst h; exact op_eqD u
theorem op_neDK (u : X.A.units + 64 < cLine) (h : X.K = K := by rfl) : OpR X (compareOp CmpOp.NotEq) (rNeD K) := by subst h; exact op_neD u
theorem pi_listK (hl : PE X l tl) (h : X.K = K := by rfl) : PI X tg l (iList K tl) := by subst h; exact pi_list hl
theorem pi_tupK (hl : PE X l tl) (h : X.K = K := by rfl) : PI X tg l (iTup K tl) := by subst h; exact pi_tup hl
theorem pi_enumK (hg : Gl X "enumerate") (hm : X.mg "enumerate" = none) (ha : PA X [e] tA) (h : X.K = K := by rfl) (hs : starEach [e] X.env = [(false, eval e X.env)] := by rfl) :
    PI X (Expr.Tuple elts kk tpos) ((Expr.Name "enumerate" p).Call [e] [] pos) (iEnum K tA) := by subst h; exact pi_enum hg hm ha hs
theorem pg_tupK (n : Nat) (c : X.calm = true) (hg : PGs X es t) (h : X.K = K := by rfl) (hn : (assignEach es X.env).length = n := by rfl) (hf : List.findIdx? (fun x => x.fst) (assignEach es X.env) = none := by rfl) :
    PG X (Expr.Tuple es kk pos) (gTup K n t) := by subst h; exact pg_tup c hg hn hf
theorem pg_lstK (n : Nat) (c : X.calm = true) (hg : PGs X es t) (h : X.K = K := by rfl) (hn : (assignEach es X.env).length = n := by rfl) (hf : List.findIdx? (fun x => x.fst) (assignEach es X.env) = none := by rfl) :
    PG X (Expr.Tuple es kk pos) (gLst K n t) := by subst h; exact pg_lst c hg hn hf
theorem pe_bmK {o : Expr} {to : TE} {t : TA} {name : Str} {apos cpos : Pos} {T id : String} {r : V → List V → Hp → VK → Prop} (h1 : PlainAttrs T) (h2 : Slot T name id) (h3 : typeOf (Value.builtin id) = pure (Value.type "method_descriptor")) (h4 : MtR X id r) (h5 : PE X o to) (h6 : PA X (e :: es) t) (h : X.K = K := by rfl)
    (h7 : attributeBase o name X.env (eval o X.env) = eval o X.env := by rfl)
    (h8 : (((((backTo cpos (starEach (e :: es) X.env)).all fun x => !x.fst) && (backToKw cpos (keywordEach [] X.env)).all fun x => x.fst.isSome) && decide (((e :: es).length + ([] : List Keyword).length + if ([] : List Keyword).isEmpty = true then 0 else 1) < 30)) = true) := by rfl)
    (h9 : (apos.endLine == cpos.line) = true := by rfl) (h10 : starEach (e :: es) X.env = (false, eval e X.env) :: starEach es X.env := by rfl) (h11 : ((backTo cpos (starEach es X.env)).any fun x => x.fst) = false := by rfl) :
    PE X ((o.Attribute name apos).Call (e :: es) [] cpos) (tBM K T r to t) := by subst h; exact pe_bm h1 h2 h3 h4 h5 h6 h7 h8 h9 h10 h11
theorem pe_bm0K {o : Expr} {to : TE} {name : Str} {apos cpos : Pos} {T id : String} {r : V → List V → Hp → VK → Prop} (h1 : PlainAttrs T) (h2 : Slot T name id) (h3 : typeOf (Value.builtin id) = pure (Value.type "method_descriptor")) (h4 : MtR X id r) (h5 : PE X o to) (h : X.K = K := by rfl)
    (h6 : attributeBase o name X.env (eval o X.env) = eval o X.env := by rfl) (h7 : (apos.endLine == cpos.line) = true := by rfl) : PE X ((o.Attribute name apos).Call [] [] cpos) (tBM0 K T r to) := by subst h; exact pe_bm0 h1 h2 h3 h4 h5 h6 h7
end
end NC

namespace NC
open PySem PySem.Spec PyProof.Rows L2
open Sem (wp)
theorem meets_enumerate_new1 {v : Value} {o : Obj} {H : Heap → Prop} (B : Begins v o H) :
    Meets (Builtin.«enumerate.__new__» ⟨[.type "enumerate", v], []⟩) (fun _ R s => H s.heap ∧
      R (.ok (.ret (.ref (s.heap.push o).objs.size))) { s with heap := (s.heap.push o).push { cls := .type "enumerate", data := .fields #[.none, .bool false, .ref s.heap.objs.size, rawInt 0, .none, .none] } }) :=
  .of_wp fun prog w A R s h => by
    obtain ⟨hp, g, d, tk, os⟩ := s; obtain ⟨h1, h⟩ := h
    have hsub := sub_enumerate
    have q1 : ∀ {A' : Around} {E : Value → Shared → Prop} {Q : Value → Shared → Prop}, Q (.ref hp.objs.size) ⟨hp.push o, g, d, tk, os⟩ → wpAny (model prog w) A' (pyIter v) Q E ⟨hp, g, d, tk, os⟩ :=
      fun q => B.iter prog w _ _ ⟨hp, g, d, tk, os⟩ _ h1 q
    wp_walk using q1
    refine wpAny_stack_any fun st => wpAny_pure ?_
    split
    · rename_i c _ _ _ _ _
      cases (c == Value.type "enumerate")
      · wp_walk using q1
        exact ⟨_, rfl, h⟩
      · wp_walk using q1
        exact ⟨_, rfl, h⟩
    · wp_walk using q1
      exact ⟨_, rfl, h⟩
section
variable {prog : Program} {w : World} {A : Around} {E : Value → Shared → Prop} {s : Shared}
theorem enum_begins1 {v : Value} {o : Obj} {H : Heap → Prop} {Q : Value → Shared → Prop} (B : Begins v o H) (h1 : H s.heap)
    (h : ∀ h', IsEnum h' (s.heap.objs.size + 1) s.heap.objs.size 0 .none → h'.get? s.heap.objs.size = some o → h'.objs.size = s.heap.objs.size + 2 →
      (∀ b o, s.heap.get? b = some o → h'.get? b = some o) → Q (.ref (s.heap.objs.size + 1)) { s with heap := h' }) :
    wpAny (model prog w) A (call (.type "enumerate") [v]) Q E s := by
  refine callType_new F.called_enumerate (by decide) (F.typeCall_enumerate_1 _) (F.newCall_enumerate_1 _) (fun obj => F.args_object_init_2 obj _) F.entry_enumerate_new
    (meets_enumerate_new1 B) ⟨h1, ?_⟩
  have hz : (s.heap.push o).objs.size = s.heap.objs.size + 1 := Heap.size_push ..
  show _ ∧ _
  rw [hz]
  have he : IsEnum ((s.heap.push o).push { cls := .type "enumerate", data := .fields #[.none, .bool false, .ref s.heap.objs.size, rawInt 0, .none, .none] }) (s.heap.objs.size + 1) s.heap.objs.size 0 .none := by
    have := Heap.get?_push_size (s.heap.push o) (o := { cls := .type "enumerate", data := .fields #[.none, .bool false, .ref s.heap.objs.size, rawInt 0, .none, .none] }) rfl
    rw [hz] at this; exact this
  refine ⟨⟨_, he, rfl⟩, h _ he (Heap.get?_push_of_some _ (Heap.get?_push_size _ B.free)) (by rw [Heap.size_push, hz]) fun b o x => Heap.get?_push_of_some _ (Heap.get?_push_of_some _ x)⟩
end
theorem begins_tup (l : Addr) (items : Array Value) : Begins (.ref l) { cls := .type "tuple_iterator", data := .fields #[.ref l, .int 0 0] } fun h => h.IsTuple l items where
  iter := fun prog w A E s Q hl h => wpAny_pyIter_tuple hl h
  keeps := fun h h' x hk => x.at fun o e => hk l o e
  free := rfl
/-- enumerate over the tuple at a -/
def IteT (K : PySem.W.Frag) (a : Addr) : It :=
  ⟨fun i H => ∃ (xs : List V) (x : V), SqT K H a xs ∧ xs[i]? = some x, fun i H v H' => ∃ T x, v = .ref T ∧ H T = none ∧ H' = upd H T (.tup [.int (i : Nat), x]) ∧ ∀ xs, SqT K H a xs → xs[i]? = some x, fun i H => ∃ xs : List V, SqT K H a xs ∧ xs.length ≤ i⟩
theorem turn_enumT {P : Program} {w : World} {K : PySem.W.Frag} {elts : List Expr} {kk : Nat} {tpos : Pos} (a e it : Addr) :
    Turn P w K (.Tuple elts kk tpos) (IteT K a) [e, it] e (fun i h => (∃ old, IsEnum h e it ((i : Nat) : Int) old) ∧ h.IsTupleIter it a i ∧ e ≠ it ∧ e ≠ a ∧ it ≠ a) where
  mem := by simp
  obj := fun i h st b hb => by
    obtain ⟨⟨old, he⟩, ⟨o, ho, hc, hd⟩, _⟩ := st
    have e' : b = e ∨ b = it := by simpa using hb
    rcases e' with z | z
    · rw [z]; exact ⟨_, he, fun v q => nomatch q⟩
    · rw [z]; exact ⟨o, ho, fun v q => by rw [hd] at q; cases q⟩
  keep := fun i h h' st k => let ⟨⟨old, he⟩, hi, hne⟩ := st; ⟨⟨old, k e (by simp) _ he⟩, hi.at fun o q => k it (by simp) o q, hne⟩
  item := by
    intro X hP hw hK hc i pins s σ H E I hf st hg
    subst hP hw hK
    obtain ⟨⟨old, he⟩, hit, hne, hea, hia⟩ := st
    obtain ⟨xs, x, hq, hx⟩ := hg
    obtain ⟨its, rv, p, hz⟩ := I.tuple hq
    obtain ⟨u, hu, ru⟩ := rv.get hx
    have hel : e < s.heap.objs.size := Heap.lt_size he
    have hil : it < s.heap.objs.size := by obtain ⟨_, q, _⟩ := hit; exact Heap.lt_size q
    have hlen : i < its.toArray.size := by
      have := (List.getElem?_eq_some_iff.mp hu).1
      simpa using this
    have hpT : s.heap.IsTuple a its.toArray := p
    refine wpAny_pyNext_enum_itemD (P := fun i v => its.toArray[i]? = some v) (Draws.tuple (prog := X.prog) (w := X.w) (A := X.A.in1) (show X.A.in1.handled = none from I.ok.hd hc) it a (Ne.symm hia) its.toArray) he ⟨hit, hpT⟩ hlen hne (by simp [hne, hea]) fun u2 h' tk hu2 ho hst' hT hsz hk => ?_
    have eu : u2 = u := by
      have h2 : its[i]? = some u2 := by simpa using hu2
      rw [hu] at h2
      exact (Option.some.inj h2).symm
    subst eu
    obtain ⟨hit', _⟩ := hst'
    refine ⟨_, rfl, wpAny_letOwnedTupleGo_enum (s := { s with heap := h', toks := tk + 1 }) ho fun h'' he' sb => ?_⟩
    have hT2 : h''.get? s.heap.objs.size = some { cls := .type "tuple", data := .seq #[.int i tk, u2] } := (sb.2 _ (Nat.ne_of_gt hel)).trans hT
    have new : ObjOk X.prog X.w (upd H s.heap.objs.size (.tup [.int (i : Nat), x])) h'' s.heap.objs.size (.tup [.int (i : Nat), x]) :=
      ⟨by show 2 ≤ sizeLine; decide, [.int i tk, u2], .cons ⟨_, rfl⟩ (.cons ru .nil), ⟨_, hT2, rfl, _, rfl⟩⟩
    have I1 : Inv X pins σ (upd H s.heap.objs.size (.tup [.int (i : Nat), x])) { s with heap := h'', toks := tk + 1 } :=
      I.turnedNew (ch := [e, it]) (fun b ob hb q => (sb.2 b (fun z => hb (by simp [z]))).trans (hk b ob (fun z => hb (by simp [z])) (fun z => hb (by simp [z])) q)) hf (Nat.le_refl _) new
    refine ⟨.ref s.heap.objs.size, _, I1, rfl, ⟨_, x, rfl, I.hok.fresh (Nat.le_refl _), rfl, fun ys hy => by rw [I.tuple_inj hy hq]; exact hx⟩, ⟨⟨u2, ?_⟩, hit'.at fun o q => (sb.2 it (Ne.symm hne)).trans q, hne, hea, hia⟩, fun b hb => ?_⟩
    · have e1 : ((i + 1 : Nat) : Int) = (i : Int) + 1 := by omega
      rw [e1]; exact he'
    · have hb' : b < s.heap.objs.size := by
        have e' : b = e ∨ b = it := by simpa using hb
        rcases e' with z | z
        · rw [z]; exact hel
        · rw [z]; exact hil
      rw [upd_ne (Nat.ne_of_lt hb')]
      exact (hf b hb).1
  done := by
    intro X hP hw hK hc i pins s σ H E I hf st hg
    subst hP hw hK
    obtain ⟨⟨old, he⟩, hit, hne, hea, hia⟩ := st
    obtain ⟨xs, hq, hx⟩ := hg
    obtain ⟨its, rv, p, hz⟩ := I.tuple hq
    obtain ⟨f0, f1, f2, f3, f4, f5⟩ := hf it (by simp)
    have hl := rv.length
    have hT : s.TypeIs (.ref e) "enumerate" := ⟨_, he, rfl⟩
    unfold pyNext
    refine wpAny_bind (wpAny_attempt (wpAny_callSpecial?_slot (name := Str.ofString "__next__") hT F.slot_enumerate_next
      (wpAny_call_entry F.slot_enumerate_next hT F.entry_enumerate_next ?_ (F.args_enumerate_next_1 _))))
    show wpAny _ _ (field (.ref e) 2 >>= _) _ _ _
    refine wpAny_bind (wpAny_field he rfl (x := .ref it) rfl ?_)
    refine wpAny_bind (wpAny_nextOf_tuple_end (I.ok.hd hc) hit (show s.heap.IsTuple a its.toArray from p) (by simp; omega) fun h' x he' hx' => ?_)
    obtain ⟨o, ho, hc'⟩ := hx'
    refine wpAny_bind (wpAny_isInstance (T := "StopIteration") (b := true) ⟨o, ho, hc'⟩ isSubtype_stop ?_)
    exact wpAny_pure ⟨rfl, I.turned (t' := s.toks) (fun b o hb q => he' b o hb q) f0 f1 f3 f4 f5⟩
  self := fun A i s Q E st h => let ⟨⟨_, he⟩, _⟩ := st; wpAny_pyIter_enum he h
def iEnumT (K : PySem.W.Frag) (ta : TA) : TI := fun σ H R => ta σ H fun vs H1 => ∃ a xs, vs = [.ref a] ∧ SqT K H1 a xs ∧ R (IteT K a) H1
theorem pi_enumTK (K : PySem.W.Frag) {X : Cx} {e : Expr} {ta : TA} {p pos tpos : Pos} {elts : List Expr} {kk : Nat} (hg : Gl X "enumerate") (hm : X.mg "enumerate" = none) (ha : PA X [e] ta) (hK : X.K = K := by rfl) (hs : starEach [e] X.env = [(false, eval e X.env)] := by rfl) :
    PI X (.Tuple elts kk tpos) (.Call (.Name "enumerate" p) [e] [] pos) (iEnumT K ta) := by
  subst hK
  refine ⟨fun pins s σ H R I h => ?_⟩
  refine Call_ (ld_blt I hg hm boot_enumerate (PyProof.Rows.callWith_type1 (thn (ha.run pos pins s σ H _ I h) fun us s1 ⟨vs, H1, I1, r1, q1⟩ => ?_) hs rfl))
  obtain ⟨a, xs, ex, hq, q⟩ := q1
  subst ex
  cases r1 with
  | cons r rr =>
    cases rr
    cases r
    obtain ⟨its, rv, p', hz⟩ := I1.tuple hq
    have hp : s1.heap.IsTuple a its.toArray := p'
    have hal : a < s1.heap.objs.size := by obtain ⟨_, y, _⟩ := hp; exact Heap.lt_size y
    refine enum_begins1 (begins_tup a its.toArray) hp fun h' he hit hsz hk => wpAny_pyIter_enum he ?_
    have I2 : Inv X pins σ H1 { s1 with heap := h' } := I1.kept (t' := s1.toks) hk
    refine ⟨s1.heap.objs.size + 1, [s1.heap.objs.size + 1, s1.heap.objs.size], _, _, H1, rfl, I2, turn_enumT a (s1.heap.objs.size + 1) s1.heap.objs.size, ⟨⟨.none, he⟩, ⟨_, hit, rfl, rfl⟩, Nat.succ_ne_self _, Nat.ne_of_gt (Nat.lt_succ_of_lt hal), Nat.ne_of_gt hal⟩, fun b hb => ?_, q⟩
    have e' : b = s1.heap.objs.size + 1 ∨ b = s1.heap.objs.size := by simpa using hb
    have hle : s1.heap.objs.size ≤ b := by
      rcases e' with z | z
      · rw [z]; exact Nat.le_add_right _ _
      · rw [z]; exact Nat.le_refl _
    exact I1.fpOk hle (I1.hok.fresh hle)
section
variable {T : List (Addr × Str)} {K : PySem.W.Frag} {H0 H : Hp} {a : Addr} {xs : List V} {σ : L2.St} {tA : TA} {R : It → Hp → Prop}
theorem wk_enumT (h : SqT K H0 a xs) : Wk T (IteT K a) xs.length (fun i v H => ∃ t x, v = .ref t ∧ H t = some (.tup [.int (i : Int), x]) ∧ xs[i]? = some x) H0 where
  go := fun i H s hi => ⟨xs, xs[i], s.sqT h, by simp [hi]⟩
  yld := fun i H v H' s _ y => by
    obtain ⟨t, x, e, n, eH, hx⟩ := y
    subst eH
    exact ⟨same_new n, t, x, e, upd_same, hx xs (s.sqT h)⟩
  stop := fun H s => ⟨xs, s.sqT h, Nat.le_refl _⟩
theorem rd_iET (h : tA σ H fun vs H1 => ∃ a xs, vs = [.ref a] ∧ SqT K H1 a xs ∧ R (IteT K a) H1) : iEnumT K tA σ H R := h
end
end NC

namespace NC
open PySem PySem.Spec PyProof.Rows L2
/-! ### range(i, j) of any two ints -/
theorem turn_long {P : Program} {w : World} {K : PySem.W.Frag} {tg : Expr} (it : Addr) (lo : Int) (n : Nat) : Turn P w K tg (Itr lo n) [it] it (fun i h => IsLongIter h it (lo + (i : Nat) * 1) ((n : Int) - (i : Nat)) 1) where
  mem := by simp
  obj := fun i h st b hb => by
    have e : b = it := by simpa using hb
    subst e
    exact ⟨_, st, fun v z => by
      have z' : Data.fields _ = Data.cell v := z
      cases z'⟩
  keep := fun i h h' st k => k it (by simp) _ st
  item := by
    intro X hP hw hK hc i pins s σ H E I hf st hg
    subst hP hw hK
    obtain ⟨f0, f1, f2, f3, f4, f5⟩ := hf it (by simp)
    have W := Walks.longrange (prog := X.prog) (w := X.w) (I.ok.hd hc) it lo 1 n
    refine W.item i s _ _ hg st fun v h' tk hv st' kk => ?_
    obtain ⟨t, rfl⟩ := hv
    have I1 : Inv X pins σ H { s with heap := h', toks := tk } := I.turned (fun b o hb e => kk b o (by simpa using hb) e) f0 f1 f3 f4 f5
    refine ⟨_, rfl, go_of (s := { s with heap := h', toks := tk }) (n := "longrange_iterator") st' rfl rfl (by decide) ⟨.int (lo + i), H, I1, ⟨t, ?_⟩, ⟨rfl, rfl⟩, st', fun b hb => (hf b hb).1⟩⟩
    rw [Int.mul_one]
  done := by
    intro X hP hw hK hc i pins s σ H E I hf st hg
    subst hP hw hK
    obtain ⟨f0, f1, f2, f3, f4, f5⟩ := hf it (by simp)
    exact wpAny_pyNext_long_end (I.ok.hd hc) st (by have : n ≤ i := hg; omega) fun h' eb => ⟨rfl, I.turned (t' := s.toks) (fun b o hb e => eb b o hb e) f0 f1 f3 f4 f5⟩
  self := fun _ _ _ _ _ st h => wpAny_pyIter_longiter st h
section
variable {X : Cx} {tg : Expr}
theorem range_itW {pins : List (Addr × Obj)} {σ : L2.St} {H : Hp} {s : Shared} {R : It → Hp → Prop} {E : Value → Shared → Prop} {lo hi : Int} {t u v : Tok} {tk : Nat} (I : L2.Inv X pins σ H s)
    (q : R (Itr lo (hi - lo).toNat) H) : wpAny (model X.prog X.w) X.A (pyIter (.ref s.heap.objs.size)) (PIE X pins σ tg R) E { s with heap := s.heap.push { cls := .type "range", data := .fields #[.int lo t, .int hi u, .int 1 v] }, toks := tk } := by
  have e1 : lo + ((0 : Nat) : Int) * 1 = lo := by simp
  have e2 : (((hi - lo).toNat : Nat) : Int) - ((0 : Nat) : Int) = Builtin.Range.rangeSize lo hi 1 := by rw [rangeSize_one]; split <;> omega
  have I1 : L2.Inv X pins σ H { s with heap := s.heap.push { cls := .type "range", data := .fields #[.int lo t, .int hi u, .int 1 v] }, toks := tk } := I.kept fun b o e => Heap.get?_push_of_some _ e
  cases hs : Builtin.Range.small lo hi 1 with
  | true =>
    refine wpAny_pyIter_range (IsRange.new ..) hs ?_
    refine ⟨(s.heap.push { cls := .type "range", data := .fields #[.int lo t, .int hi u, .int 1 v] }).objs.size, [(s.heap.push { cls := .type "range", data := .fields #[.int lo t, .int hi u, .int 1 v] }).objs.size], _, _, H, rfl,
      I1.kept (t' := tk) fun b o e => Heap.get?_push_of_some _ e, turn_range _ lo (hi - lo).toNat, ?_, fun b hb => ?_, q⟩
    · show IsRangeIter _ _ (lo + ((0 : Nat) : Int) * 1) ((((hi - lo).toNat : Nat) : Int) - ((0 : Nat) : Int)) 1
      rw [e1, e2]
      exact Heap.get?_push_size _ rfl
    · have e : b = (s.heap.push { cls := .type "range", data := .fields #[.int lo t, .int hi u, .int 1 v] }).objs.size := by simpa using hb
      subst e
      exact I1.fpOk (Nat.le_refl _) (I1.hok.fresh (Nat.le_refl _))
  | false =>
    refine wpAny_pyIter_longrange (IsRange.new ..) hs ?_
    refine ⟨(s.heap.push { cls := .type "range", data := .fields #[.int lo t, .int hi u, .int 1 v] }).objs.size, [(s.heap.push { cls := .type "range", data := .fields #[.int lo t, .int hi u, .int 1 v] }).objs.size], _, _, H, rfl,
      I1.kept (t' := tk) fun b o e => Heap.get?_push_of_some _ e, turn_long _ lo (hi - lo).toNat, ?_, fun b hb => ?_, q⟩
    · show IsLongIter _ _ (lo + ((0 : Nat) : Int) * 1) ((((hi - lo).toNat : Nat) : Int) - ((0 : Nat) : Int)) 1
      rw [e1, e2]
      exact Heap.get?_push_size _ rfl
    · have e : b = (s.heap.push { cls := .type "range", data := .fields #[.int lo t, .int hi u, .int 1 v] }).objs.size := by simpa using hb
      subst e
      exact I1.fpOk (Nat.le_refl _) (I1.hok.fresh (Nat.le_refl _))
def iRngW2 (ta : TA) : TI := fun σ H R => ta σ H fun vs H1 => ∃ i j : Int, vs = [.int i, .int j] ∧ R (Itr i (j - i).toNat) H1
theorem pi_rangeW2 {a b : Expr} {ta : TA} {p pos : Pos} (hg : Gl X "range") (hm : X.mg "range" = none) (ha : PA X [a, b] ta) (hs : starEach [a, b] X.env = [(false, eval a X.env), (false, eval b X.env)] := by rfl) (hs2 : starEach [b] X.env = [(false, eval b X.env)] := by rfl) :
    PI X tg (.Call (.Name "range" p) [a, b] [] pos) (iRngW2 ta) := by
  refine ⟨fun pins s σ H R I h => ?_⟩
  refine Call_ (ld_blt I hg hm boot_range (PyProof.Rows.callWith_type1 (thn (ha.run pos pins s σ H _ I h) fun us s1 ⟨vs, H1, I1, r1, q1⟩ => ?_) (by rw [hs, hs2]) (by rw [hs2]; rfl)))
  obtain ⟨i, j, e, q⟩ := q1
  subst e
  cases r1 with
  | cons r rr =>
    cases rr with
    | cons r' rr =>
      cases rr
      obtain ⟨t, rfl⟩ := r
      obtain ⟨t', rfl⟩ := r'
      exact call_range_2 (range_itW I1 q)
theorem rd_iRW2 {σ : L2.St} {H : Hp} {tA : TA} {R : It → Hp → Prop} (h : tA σ H fun vs H1 => ∃ i j : Int, vs = [.int i, .int j] ∧ R (Itr i (j - i).toNat) H1) : iRngW2 tA σ H R := h
end
end NC

namespace NC
open PySem PySem.Spec PyProof.Rows L2
/-! ### calls in the body of a try; the exception's field in the suite -/
section
variable {X : Cx} {j k : Nat} {C : Addr} {W : WX} {sp : Sp} {x m : Str} {p pos apos : Pos} {e o : Expr} {es : List Expr} {ta : TE} {t : TA}
theorem pe_calS (hr : Room j X.A) (hk : k ≤ j) (tk : Takes X W) (c : Cal X.prog X.w X.K X.mg X.base (L2.CX X.prog X.w) k x sp) (hg : Gl X x) (ha : PA X (e :: es) t) (hdb : (x == ("__debug__" : Str)) = false := by decide)
    (he : starEach (e :: es) X.env = (false, eval e X.env) :: starEach es X.env := by rfl) (hpl : (backTo pos (starEach es X.env)).any (·.1) = false := by rfl) : PE X (.Call (.Name x p) (e :: es) [] pos) (tCallS sp (WE W) t) := by
  obtain ⟨f, fd, ps, F, hm, hkp, hb⟩ := c.ex
  exact pe_callS F (hr.mono hk) hg hm hkp hb (fun σ => passAt tk σ) ha hdb he hpl
def tMethS (C : Addr) (m : Str) (sp : Sp) (E : L2.St → XK) (ta : TE) (t : TA) : TE := fun σ H Q => ta σ H fun x H1 => ∃ a dx fs, x = .ref a ∧ H1 a = some (.ins C dx fs) ∧ fs.lookup m = none ∧
  t σ H1 fun vs H2 => sp (x :: vs) H2 Q (E σ)
def tMakeS (C : Addr) (sp : Sp) (E : L2.St → XK) (t : TA) : TE := fun σ H Q => t σ H fun vs H1 => ∀ x dx, H1 x = none → H1 dx = none → dx ≠ x →
  sp (.ref x :: vs) (upd (upd H1 dx (.own x)) x (.ins C dx [])) (fun v H2 => v = .non ∧ Q (.ref x) H2) (E σ)
theorem pe_calMS {pl : Sem Bool} (ho : PE X o ta) (hr : Room j X.A) (hk : k ≤ j) (tk : Takes X W) (c : CalM X.prog X.w X.K X.mg X.base (L2.CX X.prog X.w) k C m sp) (ha : PA X (e :: es) t)
    (hc : eval (.Call (.Attribute o m apos) (e :: es) [] pos) X.env = (do
      let ov ← eval o X.env
      standAt apos.atName
      let (f, first) ← holding [ov] (getMethod ov m pl)
      callWith pos f first (backTo pos (starEach (e :: es) X.env)) (backToKw pos (keywordEach [] X.env))) := by rfl)
    (he : starEach (e :: es) X.env = (false, eval e X.env) :: starEach es X.env := by rfl) (hpl : (backTo pos (starEach es X.env)).any (·.1) = false := by rfl) : PE X (.Call (.Attribute o m apos) (e :: es) [] pos) (tMethS C m sp (WE W) ta t) := by
  obtain ⟨f, fd, ps, F, hm, hb, hcl⟩ := c.ex
  refine ⟨fun pins s σ H Q I h => ?_⟩
  refine PySem.W.methodCall_KW (pl := pl) (thn (ho.run pins s σ H _ I h) fun u s1 ⟨x, H1, I1, rx, a, dx, fs, ex, ea, l, q⟩ => ?_) hc
  subst ex
  obtain rfl : u = Value.ref a := rx
  refine getmeth_ok I1 ea hcl hm l ?_
  refine PySem.W.callWith_K (first := [.ref a]) (h₀ := X.base) I.ok.mod.kin hm.kp (thn (ha.run pos pins s1 σ H1 _ I1 q) fun us s2 ⟨vs, H2, I2, r, q2⟩ => ⟨I2.kIn, ?_⟩) he hpl
  exact run_fnS (us := .ref a :: us) (vs := .ref a :: vs) F (hr.mono hk) hb (passAt tk σ) I2 (.cons rfl r) q2
theorem pe_calMS0 {pl : Sem Bool} (ho : PE X o ta) (hr : Room j X.A) (hk : k ≤ j) (tk : Takes X W) (c : CalM X.prog X.w X.K X.mg X.base (L2.CX X.prog X.w) k C m sp)
    (hc : eval (.Call (.Attribute o m apos) [] [] pos) X.env = (do
      let ov ← eval o X.env
      standAt apos.atName
      let (f, first) ← holding [ov] (getMethod ov m pl)
      callWith pos f first (backTo pos (starEach [] X.env)) (backToKw pos (keywordEach [] X.env))) := by rfl) : PE X (.Call (.Attribute o m apos) [] [] pos) (tMethS C m sp (WE W) ta tNil) := by
  obtain ⟨f, fd, ps, F, hm, hb, hcl⟩ := c.ex
  refine ⟨fun pins s σ H Q I h => ?_⟩
  refine PySem.W.methodCall_KW (pl := pl) (thn (ho.run pins s σ H _ I h) fun u s1 ⟨x, H1, I1, rx, a, dx, fs, ex, ea, l, q⟩ => ?_) hc
  subst ex
  obtain rfl : u = Value.ref a := rx
  refine getmeth_ok I1 ea hcl hm l ?_
  exact PySem.W.callWith_K0 (first := [.ref a]) I1.kIn hm.kp (run_fnS (us := [.ref a]) (vs := [.ref a]) F (hr.mono hk) hb (passAt tk σ) I1 (.cons rfl .nil) q)
theorem pe_calCS (hr : Room j X.A) (hk : k + 1 ≤ j) (tk : Takes X W) (c : CalC X.prog X.w X.K X.mg X.base (L2.CX X.prog X.w) k x C sp) (hg : Gl X x) (ha : PA X (e :: es) t) (hdb : (x == ("__debug__" : Str)) = false := by decide)
    (he : starEach (e :: es) X.env = (false, eval e X.env) :: starEach es X.env := by rfl) (hpl : (backTo pos (starEach es X.env)).any (·.1) = false := by rfl) : PE X (.Call (.Name x p) (e :: es) [] pos) (tMakeS C sp (WE W) t) := by
  obtain ⟨f, fd, ps, F, hm, M, hb⟩ := c.ex
  refine ⟨fun pins s σ H Q I h => ?_⟩
  refine wpAny_Call_Name_kw (ld_glob I hg hm ?_ hdb)
  refine PySem.W.callWith_K (h₀ := X.base) I.ok.mod.kin M.kp (thn (ha.run pos pins s σ H _ I h) fun us s1 ⟨vs, H1, I1, r, q⟩ => ⟨I1.kIn, ?_⟩) he hpl
  have hq := q (s1.heap.objs.size + 1) s1.heap.objs.size (I1.hok.fresh (Nat.le_succ _)) (I1.hok.fresh (Nat.le_refl _)) (Nat.ne_of_lt (Nat.lt_succ_self _))
  have I2 := Inv.made (C := C) I1
  have r2 : Vals (V.ref (s1.heap.objs.size + 1) :: vs) (Value.ref (s1.heap.objs.size + 1) :: us) := .cons rfl r
  have hl : (Value.ref (s1.heap.objs.size + 1) :: us).length = ps.length := by
    have e := r2.length
    rw [F.len _ _ _ _ hq] at e
    exact e.symm
  have hb' := hb
  have b := hb { s1 with heap := _ } (Value.ref (s1.heap.objs.size + 1) :: us) I2.kIn (by rw [List.append_nil]; exact hl)
  rw [List.append_nil] at b
  have hr' := hr.mono hk
  refine wpAny_call (make_map (f := f) I1.kIn M.makes M.init (beq_iff_eq.mp M.fn) (codeAny_mono (F.run _ X.stack _ _ ⟨Value.ref (s1.heap.objs.size + 1) :: us, []⟩ (Value.ref (s1.heap.objs.size + 1) :: us) _ _ (WE W σ) (hr'.make C us [])
    (I2.env0.make C us []) b r2 hq) fun r s' hq' => ?_))
  cases r with
  | error e => exact passAt tk σ pins _ _ e s' I2 hq'
  | ok fl =>
    cases fl with
    | ret u =>
      obtain ⟨v, H', I3, rv, ev, q3⟩ := I2.after hq'
      subst ev
      exact ⟨rv, ⟨V.ref (s1.heap.objs.size + 1), H', I3, rfl, q3⟩⟩
    | next => exact False.elim hq'
    | brk => exact False.elim hq'
    | cont => exact False.elim hq'
end
section
variable {K : PySem.W.Frag} {σ : L2.St} {H : Hp} {Q : VK} {tA : TA} {ta : TE} {sp : Sp} {E : L2.St → XK} {C : Addr} {m : Str}
theorem rd_callS (h : tA σ H fun vs H1 => sp vs H1 Q (E σ)) : tCallS sp E tA σ H Q := h
theorem rd_methS (h : ta σ H fun x H1 => ∃ a dx fs, x = .ref a ∧ H1 a = some (.ins C dx fs) ∧ fs.lookup m = none ∧ tA σ H1 fun vs H2 => sp (x :: vs) H2 Q (E σ)) : tMethS C m sp E ta tA σ H Q := h
theorem rd_makeS (h : tA σ H fun vs H1 => ∀ x dx, H1 x = none → H1 dx = none → dx ≠ x → sp (.ref x :: vs) (upd (upd H1 dx (.own x)) x (.ins C dx [])) (fun v H2 => v = .non ∧ Q (.ref x) H2) (E σ)) : tMakeS C sp E tA σ H Q := h
theorem rd_meth {dvs : List V} {E : XK} (h : ta σ H fun x H1 => ∃ a dx fs, x = .ref a ∧ H1 a = some (.ins C dx fs) ∧ fs.lookup m = none ∧ tA σ H1 fun vs H2 => sp (x :: (vs ++ dvs)) H2 Q E) : tMeth C m sp dvs E ta tA σ H Q := h
theorem rd_make {dvs : List V} {E : XK} (h : tA σ H fun vs H1 => ∀ x dx, H1 x = none → H1 dx = none → dx ≠ x → sp (.ref x :: (vs ++ dvs)) (upd (upd H1 dx (.own x)) x (.ins C dx [])) (fun v H2 => v = .non ∧ Q (.ref x) H2) E) : tMake C sp dvs E tA σ H Q := h
end
/-- what the class of an exception must have for its field f to be read -/
structure GetX (K : PySem.W.Frag) (C : Addr) (f : Str) : Prop where
  ga : PySem.W.findIn K (.ref C) "__getattribute__" = some (some (.builtin "BaseException.__getattribute__"))
  gg : PySem.W.findIn K (.ref C) "__getattr__" = some none
  exC : PySem.W.subIn K (.ref C) (.type "BaseException") = some true
  hdC : PySem.W.hasDictIn K C = true
  nf : PySem.W.findIn K (.ref C) f = some none
/-- e.f, e the exception that the suite holds (at a; its class cls, its dict d) -/
def tExF (K : PySem.W.Frag) (f : Str) (a : Addr) (cls : Value) (d : Option Addr) (te : TE) : TE := fun σ H Q => te σ H fun x H1 => x = .ref a ∧ ∃ (C dd : Addr) (fs : List (Str × V)) (v : V), cls = .ref C ∧ GetX K C f ∧ d = some dd ∧ H1 dd = some (.xd fs) ∧ fs.lookup f = some v ∧ Q v H1
theorem pe_exf {X : Cx} {f : Str} {a : Addr} {oe : Obj} {cls : Value} {d : Option Addr} {pn : List (Addr × Obj)} {e : Expr} {te : TE} {pos : Pos} (hz : Zc cls d oe) (hf : ∃ vs, oe.data = .fields vs) (he : PE (X.suite a ((a, oe) :: pn)) e te)
    (hb : attributeBase e f X.env (eval e X.env) = eval e X.env := by rfl) :
    PE (X.suite a ((a, oe) :: pn)) (.Attribute e f pos) (tExF X.K f a cls d te) := by
  refine ⟨fun pins s σ H Q I h => ?_⟩
  refine attr_of hb (thn (he.run pins s σ H _ I h) fun u s1 hh => ?_)
  obtain ⟨x, H1, I1, rx, ex, C, dd, fs, v, ec, G, ed, ea, l, q⟩ := hh
  subst ex
  obtain rfl : u = Value.ref a := rx
  subst ec
  subst ed
  obtain ⟨ha, _⟩ := I1.pin (a, oe) (List.mem_append_left _ List.mem_cons_self)
  obtain ⟨vs, hd⟩ := hf
  have hx : ObjOk X.prog X.w H1 s1.heap dd (.xd fs) := I1.hok dd _ ea
  obtain ⟨mA, hns, hr⟩ := hx
  obtain ⟨od, ho, hl⟩ := lookIn_ns hns
  obtain ⟨u, hu, ru⟩ := RelO.some_of (v := v) (o := mA f) (by rw [← l]; exact hr f)
  have J : PySem.W.InstAt s1.heap a oe C (some od) := ⟨ha, hz.1, by unfold PySem.W.notCls; rw [hd] <;> rfl, by rw [hz.2]; exact ho⟩
  exact HandSPX.exc_get I1.kIn J G.ga G.gg G.exC (PySem.W.findObj_own G.hdC G.nf rfl (by rw [hl, hu])) (handed_of ru) ⟨v, H1, I1.tok _, ru, q⟩
theorem rd_exf {K : PySem.W.Frag} {f : Str} {a : Addr} {cls : Value} {d : Option Addr} {te : TE} {σ : L2.St} {H : Hp} {Q : VK} (h : te σ H fun x H1 => x = .ref a ∧ ∃ (C dd : Addr) (fs : List (Str × V)) (v : V), cls = .ref C ∧ GetX K C f ∧ d = some dd ∧ H1 dd = some (.xd fs) ∧ fs.lookup f = some v ∧ Q v H1) : tExF K f a cls d te σ H Q := h
/-- an error of the class at S is what «except S» names -/
theorem exm_self {K : PySem.W.Frag} {S : Addr} (h1 : PySem.W.subIn K (.ref S) (.type "BaseException") = some true) (h2 : PySem.W.isClsIn K S = true) (h3 : PySem.W.typeIn K (.ref S) = some (.type "type")) (h4 : PySem.W.subIn K (.ref S) (.ref S) = some true) :
    PySem.W.exmOne K (.ref S) (.ref S) = some true := by
  have e1 : (PySem.W.subIn K (.ref S) (.type "BaseException") == some true) = true := by rw [h1] <;> rfl
  have e2 : ((PySem.W.clsIn K S).isSome && PySem.W.typeIn K (.ref S) == some (.type "type")) = true := by
    have h2' : (PySem.W.clsIn K S).isSome = true := h2
    rw [h2', h3] <;> rfl
  show (if (PySem.W.subIn K (.ref S) (.type "BaseException") == some true) = true then (if ((PySem.W.clsIn K S).isSome && PySem.W.typeIn K (.ref S) == some (.type "type")) = true then PySem.W.subIn K (.ref S) (.ref S) else none) else none) = some true
  rw [if_pos e1, if_pos e2]
  exact h4
theorem takes0 {X : Cx} : Takes X (fun _ _ _ _ => False) := LamX.takes0
/-- the clause that names the exception's own class runs its suite -/
theorem was_yes {K : PySem.W.Frag} {C : Addr} {i : Nat} {ts : Addr → Value → Option Addr → TS} {W : WX} {D : Ends} {d : Option Addr} {σ : L2.St} {H : Hp} (te : PySem.W.exmOne K (.ref C) (.ref C) = some true)
    (h : ∀ a, H a = none → ts a (.ref C) d { nx := fun σ' H' => D.nx (σ'.set i none) H', rt := D.rt, bk := fun σ' H' => D.bk (σ'.set i none) H', ct := fun σ' H' => D.ct (σ'.set i none) H' } (σ.set i (some (.ref a))) H) : wAs K (.ref C) i ts W D (.ref C) d σ H :=
  ⟨true, te, fun _ => h, fun q => Bool.noConfusion q⟩
end NC

namespace NC
open PySem PySem.Spec PyProof.Rows L2
/-! ### what is called where no repr is under way (repr asks that) -/
structure FnOkG (P : Program) (w : World) (K : PySem.W.Frag) (mg : Str → Option Value) (base : Heap) (CX : CXT) (k : Nat) (f : Addr) (fd : FuncData) (ps : List Str) (sp : Sp) : Prop where
  len : ∀ vs H Q E, sp vs H Q E → vs.length = ps.length
  run : ∀ (A : Around) (outer : List Env) (s : Shared) (H : Hp) (args : Args) (us : List Value) (vs : List V) (Q : VK) (E : XK), Room k A → A.guards = some [] → Env0 P w K mg base A outer s H → BindsTo s fd args (ps.zip us) → Vals vs us → sp vs H Q E →
    codeAny (model P w) A (.call (.ref f) args) (CR CX outer P w H s Q E) s
theorem fn_ofG {CX : CXT} {P : Program} {w : World} {K : PySem.W.Frag} {mg : Str → Option Value} {base : Heap} {k : Nat} {f : Addr} {name qual : Str} {params : Arguments} {body : List Stmt} {scope : Scope} {dV kV doc pm cdv ct oc : Value} {an od : Option Addr}
    {osl : Array (Option Value)} {N ps : List Str} {sp : Sp} (lk : K.lookup f = some ⟨oc, od, .func (PySem.W.fnOf name qual params body scope dV kV doc pm an cdv ct), osl⟩) (hcd : PySem.W.codeIn K cdv qual = true) (S : FnScope N ps scope)
    (len : ∀ vs H Q E, sp vs H Q E → vs.length = ps.length)
    (hbody : ∀ (A : Around) (outer : List Env) (s : Shared) (H : Hp) (vs : List V) (Q : VK) (E : XK), Room k (A.deeper (envOfC qual scope s.heap.objs.size f cdv)) → A.guards = some [] → sp vs H Q E →
      ∃ t, PSs (cxOf CX P w K mg base N qual scope f cdv A outer s H E) body t ∧ t { nx := fun _ H' => Q .non H', rt := Q } (start N vs) H) :
    FnOkG P w K mg base CX (k + 1) f (PySem.W.fnOf name qual params body scope dV kV doc pm an cdv ct) ps sp := by
  refine ⟨len, fun A outer s H args us vs Q E hr hgd e0 hb r hsp => ?_⟩
  have hl := len _ _ _ _ hsp
  have KX : K.In s.heap := e0.mod.kin.keeps fun b o e => (e0.bs b o e).1
  have lim : s.heap.NoLimit := e0.mod.nolimit.keeps fun b o e => (e0.bs b o e).1
  have hkind : ∀ y ∈ ps.zip us, scope.names.lookup y.1 = some .local ∨ (scope.names.lookup y.1 = some .cell ∧ ((cellsFrom (s.heap.objs.size + 1) scope.names []).lookup y.1).isSome = true) := fun ⟨n, v⟩ hy => by
    rcases S.par n (List.of_mem_zip hy).1 with q | q
    · exact .inl q
    · exact .inr ⟨q, PySem.W.cellsFrom_some _ _ _ (.inl q)⟩
  refine codeAny_call_function hr.depth (KX _ _ lk) rfl S.co S.gen rfl (PySem.W.codeRec_of KX hcd) (hb _ _ _ _ ?_)
  refine wpAny_newFunctionEnv_cells S.kind hkind fun env he s1 x => ?_
  subst he
  refine ⟨lim.keeps x.toInCall.keep, codeAny_func ?_⟩
  obtain ⟨t, ht, hq⟩ := hbody A outer s H vs Q E (hr.deeper _) hgd hsp
  have I : Inv (cxOf CX P w K mg base N qual scope f cdv A outer s H E) [] (start N vs) H s1 := inv_start S hr.hd e0 hl r x
  refine wpAny_mono (ht.run [] s1 (start N vs) H _ I hq) (fun fl s' hs => ?_) fun e s' hs => hs
  have fin : ∀ {σ' : L2.St} {H' : Hp} {v : V} {u : Value}, Inv (cxOf CX P w K mg base N qual scope f cdv A outer s H E) [] σ' H' s' → RelV v u → Q v H' → CE outer P w H s Q u s' :=
    fun {σ' H' v u} J rv q => ⟨v, H', J.os, J.bare, J.base, J.hok, rv, q⟩
  cases fl with
  | ret u =>
    obtain ⟨v, σ', H', J, rv, q⟩ := hs
    exact fin J rv q
  | next =>
    obtain ⟨σ', H', J, q⟩ := hs
    exact fin (v := V.non) (u := Value.none) J rfl q
  | brk =>
    obtain ⟨_, _, _, q⟩ := hs
    exact False.elim q
  | cont =>
    obtain ⟨_, _, _, q⟩ := hs
    exact False.elim q
section
variable {P : Program} {w : World} {K : PySem.W.Frag} {mg : Str → Option Value} {base : Heap}
theorem okG {x qual : Str} {st : Stmt} {f : Addr} {fd : FuncData} {N ps : List Str} {k : Nat} {sp : Sp} (F : Fun K x qual st f fd) (S : FnScope N ps (defScope st)) (len : ∀ vs H Q E, sp vs H Q E → vs.length = ps.length)
    (hbody : ∀ (cdv : Value) (A : Around) (outer : List Env) (s : Shared) (H : Hp) (vs : List V) (Q : VK) (E : XK), Room k (A.deeper (envOfC qual (defScope st) s.heap.objs.size f cdv)) → A.guards = some [] → sp vs H Q E →
      ∃ t, PSs (cxOf CX0 P w K mg base N qual (defScope st) f cdv A outer s H E).nox (defBody st) t ∧ t { nx := fun _ H' => Q .non H', rt := Q } (start N vs) H) : FnOkG P w K mg base CX0 (k + 1) f fd ps sp := by
  obtain ⟨oc, od, kV, doc, pm, an, cdv, ct, osl, rfl, lk, hcd⟩ := F.ex
  refine fn_ofG lk hcd S len fun A outer s H vs Q E hr hgd hsp => ?_
  obtain ⟨t, h, q⟩ := hbody cdv A outer s H vs Q E hr hgd hsp
  exact ⟨t, h.nox, q⟩
variable (P w K mg base)
/-- a def of the module, by its name; it is called where no repr is under way -/
structure CalG (CX : CXT) (k : Nat) (x : Str) (sp : Sp) : Prop where
  ex : ∃ (f : Addr) (fd : FuncData) (ps : List Str), FnOkG P w K mg base CX k f fd ps sp ∧ mg x = some (.ref f) ∧ PySem.W.keepIn K (.ref f) = true ∧ Binds K fd ps []
variable {P w K mg base}
theorem DefAt.calG {x : Str} {st : Stmt} {CX : CXT} {k : Nat} {ps : List Str} {sp : Sp} (D : DefAt K mg x st)
    (hb : ∀ (kV doc pm : Value) (an : Option Addr) (cdv ct : Value) (us : List Value), us.length = ps.length → bindArgs (PySem.W.fnOf x x (defArgs st) (defBody st) (defScope st) .none kV doc pm an cdv ct) ⟨us, []⟩ = pure (ps.zip us))
    (h : ∀ (f : Addr) (fd : FuncData), Fun K x x st f fd → FnOkG P w K mg base CX k f fd ps sp) : CalG P w K mg base CX k x sp := by
  obtain ⟨f, fd, F, hm⟩ := D.ex
  exact ⟨f, fd, ps, h f fd F, hm, F.kp, F.binds hb⟩
end
section
variable {X : Cx} {CX : CXT} {j k : Nat} {sp : Sp} {E : XK} {x : Str} {p pos : Pos} {e : Expr} {es : List Expr} {t : TA}
theorem pe_calG (hr : Room j X.A) (hk : k ≤ j) (hgd : X.A.guards = some []) (c : CalG X.prog X.w X.K X.mg X.base CX k x sp) (hx : Passes CX X E) (hg : Gl X x) (ha : PA X (e :: es) t) (hdb : (x == ("__debug__" : Str)) = false := by decide)
    (he : starEach (e :: es) X.env = (false, eval e X.env) :: starEach es X.env := by rfl) (hpl : (backTo pos (starEach es X.env)).any (·.1) = false := by rfl) : PE X (.Call (.Name x p) (e :: es) [] pos) (tCall sp [] E t) := by
  obtain ⟨f, fd, ps, F, hm, hkp, hb⟩ := c.ex
  refine ⟨fun pins s σ H Q I h => ?_⟩
  refine wpAny_Call_Name_kw (ld_glob I hg hm ?_ hdb)
  refine PySem.W.callWith_K (h₀ := X.base) I.ok.mod.kin hkp (thn (ha.run pos pins s σ H _ I h) fun us s1 ⟨vs, H1, I1, r, q⟩ => ⟨I1.kIn, ?_⟩) he hpl
  have q : sp (vs ++ []) H1 Q E := q
  rw [List.append_nil] at q
  have hl : us.length = ps.length := by rw [← r.length]; exact F.len _ _ _ _ q
  have b := hb s1 us I1.kIn (by rw [List.append_nil]; exact hl)
  rw [List.append_nil] at b
  show wpAny _ _ (call (.ref f) us) _ _ _
  refine wpAny_call (codeAny_mono (F.run X.A X.stack s1 H1 ⟨us, []⟩ us vs Q E (hr.mono hk) hgd I1.env0 b r q) fun r s' hq => ?_)
  cases r with
  | error e => exact hx pins σ H1 s1 e s' I1 hq
  | ok fl =>
    cases fl with
    | ret u => exact I1.after hq
    | next => exact False.elim hq
    | brk => exact False.elim hq
    | cont => exact False.elim hq
end
/-- what is promised a well may be handed a new list of three ints -/
theorem well_outG {P : Program} {w : World} {K : PySem.W.Frag} {mg : Str → Option Value} {base : Heap} {k : Nat} {f : Addr} {fd : FuncData} {ps : List Str} {sp sp' : Sp} (F : FnOkG P w K mg base CX0 k f fd ps sp) (h : ∀ vs H Q E, sp' vs H Q E → vs.length = ps.length ∧ ∃ (a : Addr) (x y z : Int), H a = some (.lst [.int x, .int y, .int z]) ∧ sp vs (upd H a (WellO a)) (fun v H' => H' a = some (WellO a) ∧ Q v H') E) : FnOkG P w K mg base CX0 k f fd ps sp' := by
  refine ⟨fun vs H Q E q => (h vs H Q E q).1, fun A outer s H args us vs Q E hr hgd e0 hb hv q => ?_⟩
  obtain ⟨_, a, x, y, z, ha, hq⟩ := h vs H Q E q
  refine codeAny_mono (F.run A outer s _ args us vs _ E hr hgd (env0_swap e0 ha loose_lst (well_shut (e0.hok a _ ha))) hb hv hq) fun r s' hh => ?_
  cases r with
  | error e => exact hh
  | ok fl =>
    cases fl with
    | ret u =>
      obtain ⟨v, H', os, bare, un, hok, rv, e', q'⟩ := hh
      have un' := un_swap ha loose_lst e' loose_well loose_well un (WellO a) loose_well
      have eu : upd H' a (WellO a) = H' := by
        funext b
        by_cases hb : b = a
        · rw [hb, upd_same, e']
        · rw [upd_ne hb]
      rw [eu] at un'
      exact ⟨v, H', os, bare, un', hok, rv, q'⟩
    | next => exact hh
    | brk => exact hh
    | cont => exact hh
/-- behind a call that was handed a new well -/
theorem sm_well {T : List (Addr × Str)} {H H1 H2 : Hp} {p : Addr} {xs : List V} (n : NewO H p (.lst xs) H1) (s : Sm T (upd H1 p (WellO p)) H2) : Sm T H H2 := by
  refine ⟨fun b u hb hn => ?_, fun t => s.2 (tabs_at n.at' lst_no (fun b hb => upd_ne hb) ((Sm.of (T := T) n.s).2 t))⟩
  refine s.1 b u ?_ hn
  rw [upd_ne (ne_of_none hb n.no)]
  exact n.s b u hb
end NC

namespace NC
open PySem PySem.Spec PyProof.Rows L2
/-! ### repr -/
/-- data whose text fits -/
structure Small (d : PyData) : Prop where
  ok : Okd 60 d
  sh : d.showable = true
  sl : d.leavesShort 50 = true
  bk : d.bulk ≤ 100000
theorem hasDict_canLay0 : (∀ d : PyData, d.canLay0 = true → d.hasDict = false) := by
  intro d h
  exact hd d h
where
  hd : ∀ d : PyData, d.canLay0 = true → d.hasDict = false
    | .none, _ => rfl
    | .bool _, _ => rfl
    | .int _, _ => rfl
    | .str _, _ => rfl
    | .list ds, h => by rw [PyData.hasDict]; exact hds ds (by rwa [PyData.canLay0] at h)
    | .tuple ds, h => by rw [PyData.hasDict]; exact hds ds (by rwa [PyData.canLay0] at h)
    | .dict _, h => by rw [PyData.canLay0] at h; cases h
  hds : ∀ ds : List PyData, PyData.canLayAll0 ds = true → PyData.hasDictAll ds = false
    | [], _ => rfl
    | d :: ds, h => by
      rw [PyData.canLayAll0, Bool.and_eq_true] at h
      rw [PyData.hasDictAll, hd d h.1, hds ds h.2]
      rfl
def rReprD (K : PySem.W.Frag) : List V → Hp → VK → Prop := fun xs H Q => ∃ v d, xs = [v] ∧ ((Dp K H v d ∧ Small d) ∨ ∃ a, v = .ref a ∧ d = .dict [] ∧ H a = some (.dK [])) ∧ Q (.str d.shown) H
theorem small_len {d : PyData} (h : Small d) : d.shown.length ≤ sizeLine := by
  have := PyData.shown_le_bulk 50 (by decide) d h.sl
  have b := h.bk
  rw [sizeLine_eq]
  omega
theorem call_reprK (K : PySem.W.Frag) {X : Cx} (hgd : X.A.guards = some []) (hu : X.A.units + 65 < cLine) (hK : X.K = K := by rfl) : CallR X (.builtin "repr") (rReprD K) := by
  subst hK
  intro pins s σ H xs us Q I r h
  obtain ⟨v, d, rfl, hd, q⟩ := h
  obtain ⟨u, rfl, rv⟩ := vals1 r
  have fin : ∀ (h' : Heap) (t : Tok) (tk : Nat), (∀ b o, s.heap.get? b = some o → h'.get? b = some o) → EP X pins σ Q (.str d.shown t) { s with heap := h', toks := tk } := fun h' t tk hk => ⟨.str d.shown, H, I.kept (t' := tk) hk, ⟨t, rfl⟩, q⟩
  rcases hd with ⟨hd, sm⟩ | ⟨a, rfl, rfl, ha⟩
  case inr =>
    cases rv
    obtain ⟨_, hm, vs, rk, o, es, ep, ho, hx, hdt, _, hp, _⟩ := I.hok a _ ha
    cases rk
    have he : es.toList = [] := by
      have := hp.length
      exact List.length_eq_zero_iff.mp this
    have rd : Reads s.heap (.ref a) (.dict []) (a :: [] ++ []) := .dict (es := es) ho hx.1 hdt (by rw [he]; exact .nil) (by rw [he]; exact .nil)
    exact repr_of_reads' rd rfl (fun _ z => by
      have e : sysModules = a := by simpa using (show sysModules ∈ [a] ++ [] from z)
      rw [← e] at hm
      simp at hm) hgd (by show X.A.units + (PyData.depth (.dict []) + 1) < cLine; exact Nat.lt_of_le_of_lt (Nat.add_le_add_left (by decide) _) hu) (fun _ _ e => e) (fun h' t tk hk => fin h' t tk hk) (by decide +kernel)
  cases hd with
  | non =>
    cases rv
    exact PySem.P.repr_of_none (fin s.heap _ _ fun _ _ e => e)
  | bl b =>
    cases rv
    refine PySem.P.repr_of_bool ?_
    have := fin s.heap s.toks (s.toks + 1) fun _ _ e => e
    rw [show (PyData.bool b).shown = if b then ("True" : Str) else "False" by cases b <;> rfl] at this
    cases b <;> exact this
  | int i =>
    obtain ⟨t, rfl⟩ := rv
    exact PySem.P.repr_of_int (by simpa [PyData.showable] using sm.sh) (fin s.heap _ _ fun _ _ e => e)
  | str x =>
    obtain ⟨t, rfl⟩ := rv
    exact PySem.P.repr_of_str (fin s.heap _ _ fun _ _ e => e) (small_len sm)
  | lst h1 h2 =>
    obtain ⟨as, rd⟩ := Dp.reads I _ _ _ (Dp.lst h1 h2) rv
    cases rv
    have dp := sm.ok.2
    exact repr_of_reads' rd sm.sh (fun z => by rw [hasDict_canLay0 _ sm.ok.1] at z; cases z) hgd (by omega) (fun _ _ e => e) (fun h' t tk hk => fin h' t tk hk) (small_len sm)
  | tup h1 h2 =>
    obtain ⟨as, rd⟩ := Dp.reads I _ _ _ (Dp.tup h1 h2) rv
    cases rv
    have dp := sm.ok.2
    exact repr_of_reads' rd sm.sh (fun z => by rw [hasDict_canLay0 _ sm.ok.1] at z; cases z) hgd (by omega) (fun _ _ e => e) (fun h' t tk hk => fin h' t tk hk) (small_len sm)
theorem rd_repr {K : PySem.W.Frag} {H : Hp} {Q : VK} {v : V} {d : PyData} (hd : Dt H v d) (sm : Small d) (h : Q (.str d.shown) H) : rReprD K [v] H Q := ⟨v, d, rfl, .inl ⟨hd.dp sm.ok.1, sm⟩, h⟩
theorem rd_reprE {K : PySem.W.Frag} {H : Hp} {Q : VK} {a : Addr} (ha : H a = some (.dK [])) (h : Q (.str (PyData.dict []).shown) H) : rReprD K [.ref a] H Q := ⟨_, _, rfl, .inr ⟨a, rfl, rfl, ha⟩, h⟩
/-- when a tuple or list of small things is small -/
theorem small_int {i : Int} (h : i.natAbs < 10 ^ 48) : Small (.int i) where
  ok := okd_int i
  sh := by
    show decide (i.natAbs.log2 < 1920) = true
    refine decide_eq_true ?_
    by_cases c : i.natAbs = 0
    · rw [c]; decide
    · exact Nat.lt_trans ((Nat.log2_lt (k := 160) c).mpr (Nat.lt_trans h (by decide))) (by decide)
  sl := by
    show decide ((PyData.shown (.int i)).length ≤ 50) = true
    refine decide_eq_true ?_
    have := int_text_length_le10 (k := 48) (by decide) h
    show (Str.ofString (toString i)).length ≤ 50
    rw [PySem.ofString_length]
    omega
  bk := Nat.zero_le _
theorem small_non : Small .none := ⟨okd_non, rfl, rfl, Nat.zero_le _⟩
theorem small_bl (b : Bool) : Small (.bool b) := ⟨okd_bl b, rfl, rfl, Nat.zero_le _⟩
theorem showableAll_iff : ∀ {ds : List PyData}, PyData.showableAll ds = true ↔ ∀ d ∈ ds, d.showable = true
  | [] => by simp [PyData.showableAll]
  | d :: ds => by simp [PyData.showableAll, showableAll_iff (ds := ds)]
theorem leavesShortAll_iff {B : Nat} : ∀ {ds : List PyData}, PyData.leavesShortAll B ds = true ↔ ∀ d ∈ ds, d.leavesShort B = true
  | [] => by simp [PyData.leavesShortAll]
  | d :: ds => by simp [PyData.leavesShortAll, leavesShortAll_iff (ds := ds)]
theorem bulkAll_le {b : Nat} : ∀ {ds : List PyData}, (∀ d ∈ ds, d.bulk ≤ b) → PyData.bulkAll ds ≤ (b + 1) * ds.length
  | [], _ => by simp [PyData.bulkAll]
  | d :: ds, h => by
    have h1 := h d List.mem_cons_self
    have h2 := bulkAll_le fun z m => h z (List.mem_cons_of_mem _ m)
    rw [PyData.bulkAll, List.length_cons, Nat.mul_add]
    omega
/-- a leaf or a small thing: not deep, little bulk -/
structure Tiny (k b : Nat) (d : PyData) : Prop where
  ok : Okd k d
  sh : d.showable = true
  sl : d.leavesShort 50 = true
  bk : d.bulk ≤ b
theorem Tiny.small {k b : Nat} {d : PyData} (h : Tiny k b d) (hk : k ≤ 60 := by omega) (hb : b ≤ 100000 := by omega) : Small d := ⟨h.ok.mono hk, h.sh, h.sl, Nat.le_trans h.bk hb⟩
theorem tiny_list {k b n : Nat} {ds : List PyData} (h : ∀ d ∈ ds, Tiny k b d) (hn : ds.length ≤ n) : Tiny (k + 1) ((b + 1) * n) (.list ds) :=
  ⟨okd_list.mpr fun d m => (h d m).ok, showableAll_iff.mpr fun d m => (h d m).sh, leavesShortAll_iff.mpr fun d m => (h d m).sl, Nat.le_trans (bulkAll_le fun d m => (h d m).bk) (Nat.mul_le_mul_left _ hn)⟩
theorem tiny_tup {k b n : Nat} {ds : List PyData} (h : ∀ d ∈ ds, Tiny k b d) (hn : ds.length ≤ n) : Tiny (k + 1) ((b + 1) * n) (.tuple ds) :=
  ⟨okd_tup.mpr fun d m => (h d m).ok, showableAll_iff.mpr fun d m => (h d m).sh, leavesShortAll_iff.mpr fun d m => (h d m).sl, Nat.le_trans (bulkAll_le fun d m => (h d m).bk) (Nat.mul_le_mul_left _ hn)⟩
theorem tiny_int {k b : Nat} {i : Int} (h : i.natAbs < 10 ^ 48) : Tiny k b (.int i) := ⟨okd_int i, (small_int h).sh, (small_int h).sl, Nat.zero_le _⟩
theorem tiny_non {k b : Nat} : Tiny k b .none := ⟨okd_non, rfl, rfl, Nat.zero_le _⟩
theorem tiny_bl {k b : Nat} (x : Bool) : Tiny k b (.bool x) := ⟨okd_bl x, rfl, rfl, Nat.zero_le _⟩
theorem Tiny.mono {k b k' b' : Nat} {d : PyData} (h : Tiny k b d) (hk : k ≤ k') (hb : b ≤ b') : Tiny k' b' d := ⟨h.ok.mono hk, h.sh, h.sl, Nat.le_trans h.bk hb⟩
end NC

namespace NC
open PySem PySem.Spec PyProof.Rows L2
/-! ### an int or a bool, and an int -/
def b2n (b : Bool) : Int := if b = true then 1 else 0
def rIB (f : Int → Int → V) : R2 := fun x y H Q => ∃ i j, (x = .int i ∨ ∃ b, x = .bl b ∧ i = b2n b) ∧ y = .int j ∧ Q (f i j) H
section
variable {X : Cx}
theorem op_addIB : OpR X (binaryOp .Add) (rIB fun i j => .int (i + j)) := by
  intro pins s σ H x y v u Q I rx ry h
  obtain ⟨i, j, rfl | ⟨b, rfl, rfl⟩, rfl, q⟩ := h
  · exact op_add pins s σ H _ _ v u Q I rx ry ⟨i, j, rfl, rfl, q⟩
  · obtain ⟨t, rfl⟩ := ry
    cases rx
    exact PySem.IntBool.add_bool_int ⟨.int (b2n b + j), H, I.tok _, ⟨_, rfl⟩, q⟩
theorem op_subIB : OpR X (binaryOp .Sub) (rIB fun i j => .int (i - j)) := by
  intro pins s σ H x y v u Q I rx ry h
  obtain ⟨i, j, rfl | ⟨b, rfl, rfl⟩, rfl, q⟩ := h
  · exact op_sub pins s σ H _ _ v u Q I rx ry ⟨i, j, rfl, rfl, q⟩
  · obtain ⟨t, rfl⟩ := ry
    cases rx
    exact PySem.IntBool.sub_bool_int ⟨.int (b2n b - j), H, I.tok _, ⟨_, rfl⟩, q⟩
end
theorem op_catAK (K : PySem.W.Frag) {X : Cx} (hK : X.K = K := by rfl) : OpR X (binaryOp .Add) (rCatA K) := by subst hK; exact op_catA
/-! ### the script as it is handed in -/
def SqX (K : PySem.W.Frag) (H : Hp) (a : Addr) (xs : List V) : Prop :=
  (∃ (its : Array Value) (n : Nat), H a = some (.frz { cls := .type "list", data := .seq its n } (.lst xs))) ∨
  ∃ (its : Array Value) (n : Nat), K.lookup a = some { cls := .type "list", data := .seq its n } ∧ its.size ≤ sizeLine ∧ Vals xs its.toList
theorem SqX.sq {K : PySem.W.Frag} {H : Hp} {a : Addr} {xs : List V} (h : SqX K H a xs) : SqL K H a xs := by
  rcases h with ⟨its, n, h⟩ | ⟨its, n, h1, h2, h3⟩
  · exact .inl (.inr ⟨_, h⟩)
  · exact .inr ⟨_, its, n, h1, rfl, rfl, rfl, h2, h3⟩
theorem SqX.sm {T : List (Addr × Str)} {K : PySem.W.Frag} {H H' : Hp} {a : Addr} {xs : List V} (s : Sm T H H') (h : SqX K H a xs) : SqX K H' a xs := h.elim (fun ⟨its, n, h⟩ => .inl ⟨its, n, s.frz h⟩) .inr
theorem SqX.get {X : Cx} {pins : List (Addr × Obj)} {σ : L2.St} {H : Hp} {s : Shared} {a : Addr} {xs : List V} (I : L2.Inv X pins σ H s) (h : SqX X.K H a xs) :
    ∃ (its : List Value) (n : Nat), Vals xs its ∧ s.heap.get? a = some { cls := .type "list", data := .seq its.toArray n } ∧ xs.length ≤ sizeLine := by
  rcases h with ⟨its, n, h⟩ | ⟨its, n, h1, h2, h3⟩
  · have ok : ObjOk X.prog X.w H s.heap a (.frz { cls := .type "list", data := .seq its n } (.lst xs)) := I.hok a _ h
    obtain ⟨e, hz, its2, n2, rv, e2⟩ := ok
    have e2' : s.heap.get? a = some { cls := .type "list", data := .seq its2.toArray n2 } := e2
    exact ⟨its2, n2, rv, e2', hz⟩
  · exact ⟨its.toList, n, h3, by simpa using I.kIn a _ h1, by rw [h3.length]; simpa using h2⟩
def rCat2 (K : PySem.W.Frag) : R2 := fun x y H Q => ∃ l b xs zs, x = .ref l ∧ y = .ref b ∧ SqX K H l xs ∧ H b = some (.lst zs) ∧ xs.length + zs.length ≤ sizeLine ∧ ∀ p, H p = none → Q (.ref p) (upd H p (.lst (xs ++ zs)))
theorem op_cat2 (K : PySem.W.Frag) {X : Cx} (hK : X.K = K := by rfl) : OpR X (binaryOp .Add) (rCat2 K) := by
  subst hK
  intro pins s σ H x y v u Q I rx ry h
  obtain ⟨l, b, xs, zs, rfl, rfl, hH, hB, hz, q⟩ := h
  cases rx
  cases ry
  obtain ⟨its, n, r, e, hl⟩ := SqX.get I hH
  obtain ⟨z2, its2, n2, r2, hl2, e2⟩ := I.lstM hB
  have hl1 := r.length
  refine PySem.P.add_list e e2 ?_ (by rw [List.size_toArray, List.size_toArray]; omega)
  have ea : its.toArray ++ its2.toArray = (its ++ its2).toArray := by simp
  rw [ea]
  exact ⟨.ref _, _, I.lnew (t' := s.toks) (r.append r2) (by rw [List.length_append]; omega), rfl, q _ I.fresh⟩
section
variable {K : PySem.W.Frag} {H : Hp} {Q : VK} {a b : Addr} {xs ys : List V}
theorem rd_cat2 (ha : SqX K H a xs) (hb : H b = some (.lst ys)) (hl : xs.length + ys.length ≤ sizeLine) (h : ∀ p H', NewO H p (.lst (xs ++ ys)) H' → Q (.ref p) H') : rCat2 K (.ref a) (.ref b) H Q := ⟨a, b, xs, ys, rfl, rfl, ha, hb, hl, fun p hp => h p _ (newO hp)⟩
theorem rd_cat (ha : H a = some (.lst xs)) (hb : H b = some (.lst ys)) (hl : xs.length + ys.length ≤ sizeLine) (h : ∀ p H', NewO H p (.lst (xs ++ ys)) H' → Q (.ref p) H') : rCat (.ref a) (.ref b) H Q := ⟨a, b, xs, ys, rfl, rfl, ha, hb, hl, fun p hp => h p _ (newO hp)⟩
theorem rd_catA (ha : H a = some (.tup xs)) (hb : H b = some (.tup ys)) (hl : xs.length + ys.length ≤ sizeLine) (h : ∀ p H', Same H H' → H' p = some (.tup (xs ++ ys)) → Q (.ref p) H') : rCatA K (.ref a) (.ref b) H Q := by
  refine ⟨a, b, xs, ys, rfl, rfl, SqT.of ha, SqT.of hb, hl, fun e => ?_, fun _ e => ?_, fun _ _ p hp => ?_⟩
  · subst e
    exact h b H (Same.refl H) hb
  · subst e
    exact h a H (Same.refl H) (by rw [List.append_nil]; exact ha)
  · have n := newO (o := .tup (xs ++ ys)) hp
    exact h p _ n.s n.at'
theorem rd_slA {lo hi : Option Int} (ha : H a = some (.tup xs)) (h : ∀ p H', Same H H' → H' p = some (.tup (cutV xs lo hi)) → Q (.ref p) H') : rSlA K (.ref a) lo hi H Q := by
  refine ⟨a, xs, rfl, SqT.of ha, fun c => ?_, fun _ p hp => ?_⟩
  · refine h a H (Same.refl H) ?_
    unfold cutV
    rw [c.1, c.2, List.drop_zero, Nat.sub_zero, List.take_length]
    exact ha
  · have n := newO (o := .tup (cutV xs lo hi)) hp
    exact h p _ n.s n.at'
theorem rd_IB {f : Int → Int → V} {x : V} {i j : Int} (hx : x = .int i ∨ ∃ b, x = .bl b ∧ i = b2n b) (h : Q (f i j) H) : rIB f x (.int j) H Q := ⟨i, j, hx, rfl, h⟩
end
theorem rd_par {i j : Nat} {ta : TA} {D : Ends} {σ : L2.St} {H : Hp} (h : ta σ H fun vs H1 => ∃ v w, vs = [v, w] ∧ D.nx ((σ.set i (some v)).set j (some w)) H1) : tPar i j ta D σ H := h
theorem rd_par2 {v w : V} {R : V → V → Prop} (h : R v w) : ∃ v' w', [v, w] = [v', w'] ∧ R v' w' := ⟨v, w, rfl, h⟩
end NC

namespace NC
open PySem PySem.Spec PyProof.Rows L2
/-! ### the law's end -/
/-- the law's call from a caller that guards nothing -/
theorem law_callG {P : Program} {w : World} {K : PySem.W.Frag} {mg mb : Str → Option Value} {CX : CXT} {k : Nat} {fa a : Addr} {cs : List (Addr × Addr)} {fd : FuncData} {x : Str} {sp : Sp} {s₁ : Shared} {vs : List Value} {ns : List Int}
    (KX : K.In s₁.heap) (hns : s₁.heap.Ns mainGlobals mg) (hb : s₁.heap.Ns builtinsNs mb) (hbb : ∀ x : Str, x ≠ "__name__" → mb x = bootBuiltins x) (hlim : s₁.heap.NoLimit) (hg : s₁.gens = #[])
    (hT : ∀ p ∈ cs, s₁.heap.get? p.2 = some { cls := .none, data := .fields #[] }) (nT : ∀ p ∈ cs, K.lookup p.2 = none) (C : ∀ p ∈ cs, PySem.W.CodeHd s₁.heap p.1 p.2)
    (hbm : ∃ (bm : Addr) (ob : Obj), mg "__builtins__" = some (.ref bm) ∧ bm ≠ builtinsNs ∧ s₁.heap.get? bm = some ob ∧ ob.cls = .type "module" ∧ ob.dict = some builtinsNs ∧ ob.data = .plain)
    (ha : s₁.heap.get? a = some { cls := .type "list", data := .seq vs.toArray }) (hi : IntsAre vs ns) (hl : ns.length ≤ sizeLine) (hr : Room k callerA)
    (F : ∀ base : Heap, K.In base → base.Ns mainGlobals mg → (∀ p ∈ cs, LamX.TabB base mg p.1 p.2) → FnOkG P w K mg base CX k fa fd [x] sp) (hbind : ∀ (s : Shared) (u : Value), BindsTo s fd ⟨[u], []⟩ [(x, u)])
    (hsp : ∀ H : Hp, (∀ p ∈ cs, H p.2 = some (.tbl #[])) → SqX K H a (ns.map V.int) → sp [.ref a] H (fun v _ => v = .bl true) fun _ _ _ => False)
    (hCX : ∀ H e s', CX [] H s₁ (fun _ _ _ => False) e s' → False) :
    codeAny (model P w) callerA (.call (.ref fa) ⟨[.ref a], []⟩) (fun r s' => r = .ok (.ret (.bool true)) ∧ OldK s₁.heap s'.heap ∧ s'.os = s₁.os ∧ AllBare s'.gens) s₁ := by
  have rv := vals_ints hi
  have lenV := hi.length
  have isT : ∀ b : Addr, b ∈ cs.map (·.2) → s₁.heap.get? b = some { cls := .none, data := .fields #[] } := fun b hb => by
    obtain ⟨p, hp, e⟩ := List.mem_map.mp hb
    rw [← e]
    exact hT p hp
  have aT : a ∉ cs.map (·.2) := fun z => by
    have q := isT a z
    rw [ha] at q
    have z' : Data.seq vs.toArray _ = Data.fields #[] := congrArg Obj.data (Option.some.inj q)
    cases z'
  have memT : ∀ p ∈ cs, p.2 ∈ cs.map (·.2) := fun p hp => List.mem_map.mpr ⟨p, hp, rfl⟩
  -- from an abstract heap in which nothing but the script and the tables may be tracked
  have core : ∀ H : Hp, (∀ p ∈ cs, H p.2 = some (.tbl #[])) → (∀ b, H b = none ∨ b ∈ cs.map (·.2) ∨ ∃ o xs, H b = some (.frz o (.lst xs))) → SqX K H a (ns.map V.int) → HOk P w H s₁.heap → (∀ b, H b ≠ none → b = a ∨ b ∈ cs.map (·.2)) → (H a ≠ none → K.lookup a = none) →
      codeAny (model P w) callerA (.call (.ref fa) ⟨[.ref a], []⟩) (fun r s' => r = .ok (.ret (.bool true)) ∧ OldK s₁.heap s'.heap ∧ s'.os = s₁.os ∧ AllBare s'.gens) s₁ := by
    intro H hH hO hS hok hA hK
    have base_of : ∀ {b : Addr} {o : Obj}, s₁.heap.get? b = some o → H b = none → (hidT s₁.heap H).get? b = some o := fun e n => hidT_get e n
    have noD : ∀ {b : Addr} {o : Obj}, s₁.heap.get? b = some o → (∀ vs n, o.data ≠ .seq vs n) → o.data ≠ .fields #[] → H b = none := fun {b o} e h1 h2 => by
      cases q : H b with
      | none => rfl
      | some u =>
        rcases hA b (by rw [q]; simp) with e' | e'
        · rw [e', ha] at e
          cases e
          exact (h1 _ _ rfl).elim
        · rw [isT b e'] at e
          cases e
          exact (h2 rfl).elim
    have noA : ∀ {b : Addr} {o : Obj} {es : Array DictEntry} {ep : Nat}, s₁.heap.get? b = some o → o.data = .dict es ep → H b = none := fun {b o es ep} e d => by
      refine noD e (fun vs n z => ?_) fun z => ?_
      · rw [d] at z
        cases z
      · rw [d] at z
        cases z
    have nsK : ∀ {b : Addr} {m : Str → Option Value}, s₁.heap.Ns b m → (hidT s₁.heap H).Ns b m := fun {b m} ⟨o, es, ep, e, d, r⟩ => ⟨o, es, ep, base_of e (noA e d), d, r⟩
    have hKb : K.In (hidT s₁.heap H) := fun b o e => base_of (KX b o e) (by
      cases q : H b with
      | none => rfl
      | some u =>
        rcases hA b (by rw [q]; simp) with e' | e'
        · rw [e'] at e q
          rw [hK (by rw [q]; simp)] at e
          cases e
        · obtain ⟨p, hp, ep⟩ := List.mem_map.mp e'
          rw [← ep, nT p hp] at e
          cases e)
    have hM : L2.Mod K mg (hidT s₁.heap H) := ⟨hKb, nsK hns, ⟨mb, nsK hb, hbb⟩, let ⟨mc, h1, h2⟩ := hlim; ⟨mc, nsK h1, h2⟩⟩
    have TB : ∀ p ∈ cs, LamX.TabB (hidT s₁.heap H) mg p.1 p.2 := fun p hp => by
      have hTp := hT p hp
      refine ⟨?_, ?_, fun z => ?_⟩
      · obtain ⟨o, us, file, tf, flags, tg, inF, text, tt, e1, r1, r2, r3, r4, r5, r6, r7, r8, hne⟩ := C p hp
        refine ⟨o, us, file, tf, flags, tg, inF, text, tt, base_of e1 (noD e1 (fun vs n z => ?_) fun z => ?_), r1, r2, r3, r4, r5, r6, r7, r8, hne⟩
        · rw [r2] at z
          cases z
        · rw [r2] at z
          cases z
          simp at r3
      · obtain ⟨bm, ob, b1, b2, b3, b4, b5, b6⟩ := hbm
        have nG : bm ≠ mainGlobals := fun q => by
          obtain ⟨o, es, ep, e, hd, _⟩ := hns
          rw [q, e] at b3
          cases b3
          rw [hd] at b6
          cases b6
        have nP : bm ≠ p.2 := fun q => by
          rw [q, hTp] at b3
          cases b3
          cases b6
        refine ⟨bm, ob, b1, b2, nG, nP, base_of b3 (noD b3 (fun vs n z => ?_) fun z => ?_), b4, b5, b6⟩
        · rw [b6] at z
          cases z
        · rw [b6] at z
          cases z
      · obtain ⟨o, es, ep, e, hd, _⟩ := hns
        rw [z, hTp] at e
        cases e
        cases hd
    have e0 : Env0 P w K mg (hidT s₁.heap H) callerA [] s₁ H := ⟨rfl, hM, fun b o e => of_hidT e, Nat.le_of_eq (hidT_size _ _), trivial, fun b hb => absurd (show b ∈ ([] : List Addr) from hb) (by simp), hok, .of_eq hg⟩
    refine codeAny_mono ((F _ hKb (nsK hns) TB).run callerA [] s₁ H ⟨[.ref a], []⟩ [.ref a] [.ref a] _ _ hr rfl e0 (hbind s₁ (.ref a)) (.cons rfl .nil) (hsp H hH hS)) fun r s' h => ?_
    cases r with
    | error e => exact (hCX H e s' h).elim
    | ok fl =>
      cases fl with
      | next => exact False.elim h
      | brk => exact False.elim h
      | cont => exact False.elim h
      | ret u =>
        obtain ⟨v, H', os, bare, un, hok', r', q⟩ := h
        have q' : v = .bl true := q
        subst q'
        obtain rfl : u = Value.bool true := r'
        have key : ∀ b o, b ∉ cs.map (·.2) → s₁.heap.get? b = some o → s'.heap.get? b = some o := fun b o nb e => by
          cases q : H b with
          | none => exact un.keep b o e q (by intro z; exact absurd (show b ∈ ([] : List Addr) from z) (by simp)) (by simp)
          | some u =>
            rcases hO b with z | z | ⟨ob, xs, z⟩
            · rw [q] at z; cases z
            · exact absurd z nb
            · have z2 := un.frzs b ob _ z
              obtain ⟨e1, _⟩ := hok b _ z
              obtain ⟨e2, _⟩ := hok' b _ z2
              rw [e] at e1; cases e1
              exact e2
        have grown : ∀ p ∈ cs, ∃ more : Array Value, s'.heap.get? p.2 = some { cls := .none, data := .fields more } := fun p hp => by
          obtain ⟨more, z⟩ := un.tbls p.2 #[] (hH p hp)
          exact ⟨_, hok' p.2 _ z⟩
        refine ⟨rfl, ⟨fun b o e => ?_, fun b o e => ?_⟩, os, bare⟩
        · by_cases hb : b ∈ cs.map (·.2)
          · obtain ⟨p, hp, ep⟩ := List.mem_map.mp hb
            obtain ⟨more, hm⟩ := grown p hp
            rw [← ep] at e ⊢
            rw [hT p hp] at e
            cases e
            exact .inr (.inl ⟨((C p hp).tab (hT p hp)).isCodeTable, rfl, #[], more, rfl, by rw [Array.empty_append]; exact hm⟩)
          · exact .inl (key b o hb e)
        · by_cases hb : b ∈ cs.map (·.2)
          · obtain ⟨p, hp, ep⟩ := List.mem_map.mp hb
            obtain ⟨more, hm⟩ := grown p hp
            rw [← ep]
            exact ⟨_, hm⟩
          · exact ⟨o, key b o hb e⟩
  cases hk : K.lookup a with
  | some o =>
    have e := KX a o hk
    rw [ha] at e
    cases e
    refine core (fun b => if b ∈ cs.map (·.2) then some (.tbl #[]) else none) (fun p hp => if_pos (memT p hp)) (fun b => ?_) (.inr ⟨vs.toArray, _, hk, by rw [List.size_toArray, lenV]; exact hl, by simpa using rv⟩) (fun b u z => ?_) (fun b z => ?_) fun z => absurd (show (if a ∈ cs.map (·.2) then some (HO.tbl #[]) else none) = none from if_neg aT) z
    · by_cases hb : b ∈ cs.map (·.2)
      · exact .inr (.inl hb)
      · exact .inl (if_neg hb)
    · by_cases hb : b ∈ cs.map (·.2)
      · have z' := (if_pos hb).symm.trans z
        cases z'
        exact isT b hb
      · have z' := (if_neg hb).symm.trans z
        cases z'
    · by_cases hb : b ∈ cs.map (·.2)
      · exact .inr hb
      · exact absurd (if_neg hb) z
  | none =>
    refine core (fun b => if b = a then some (.frz { cls := .type "list", data := .seq vs.toArray } (.lst (ns.map V.int))) else if b ∈ cs.map (·.2) then some (.tbl #[]) else none) (fun p hp => (if_neg (show ¬ p.2 = a from fun z => aT (by rw [← z]; exact memT p hp))).trans (if_pos (memT p hp))) (fun b => ?_)
      (.inl ⟨vs.toArray, _, if_pos rfl⟩) (fun b u z => ?_) (fun b z => ?_) fun _ => hk
    · by_cases hb : b = a
      · exact .inr (.inr ⟨_, _, if_pos hb⟩)
      · by_cases hb2 : b ∈ cs.map (·.2)
        · exact .inr (.inl hb2)
        · exact .inl ((if_neg hb).trans (if_neg hb2))
    · by_cases hb : b = a
      · have z' := (if_pos hb).symm.trans z
        cases z'
        rw [hb]
        exact ⟨ha, by rw [List.length_map]; exact hl, vs, _, rv, ha⟩
      · have z1 := (if_neg hb).symm.trans z
        by_cases hb2 : b ∈ cs.map (·.2)
        · have z' := (if_pos hb2).symm.trans z1
          cases z'
          exact isT b hb2
        · have z' := (if_neg hb2).symm.trans z1
          cases z'
    · by_cases hb : b = a
      · exact .inl hb
      · by_cases hb2 : b ∈ cs.map (·.2)
        · exact .inr hb2
        · exact absurd ((if_neg hb).trans (if_neg hb2)) z
/-- what is known of the law's promise at the head's heap h; cs: code objects (of lambdas) and their tables -/
def LawG (l : PySem.W.OpenLaw) (w : World) (K : PySem.W.Frag) (CX : CXT) (k n : Nat) (x : Str) (mg : Str → Option Value) (fa : Addr) (h : Heap) : Prop :=
  ∃ (fd : FuncData) (cs : List (Addr × Addr)) (sp : Sp), (∀ p ∈ cs, h.get? p.2 = some { cls := .none, data := .fields #[] }) ∧ (∀ p ∈ cs, K.lookup p.2 = none) ∧ (∀ p ∈ cs, PySem.W.CodeHd h p.1 p.2) ∧ (∀ (s : Shared) (u : Value), BindsTo s fd ⟨[u], []⟩ [(x, u)]) ∧
    (∀ (H : Hp) (a : Addr) (ns : List Int), ns.length ≤ n → (∀ z ∈ ns, Builtin.Int.intBits z ≤ 1048576) → (∀ p ∈ cs, H p.2 = some (.tbl #[])) → SqX K H a (ns.map V.int) → sp [.ref a] H (fun v _ => v = .bl true) fun _ _ _ => False) ∧
    ∀ base : Heap, K.In base → base.Ns mainGlobals mg → (∀ p ∈ cs, LamX.TabB base mg p.1 p.2) → FnOkG l.prog w K mg base CX k fa fd [x] sp
theorem walk_ofG {l : PySem.W.OpenLaw} {n k : Nat} {q : Program} {loose : List Str} {XP : (Str → Option Value) → Heap → Prop} {YP : World → Heap → Prop} {d : DefRec} {K : Params → PySem.W.Frag} {CX : World → CXT} {x : Str}
    (hn : l.most = some n) (hn2 : n ≤ sizeLine) (hdf : d.params.defaults = []) (hr : Room k callerA) (hY : ∀ (w : World) (h : Heap), YP w h → (K w.params).In h)
    (F : ∀ (w : World) (mg : Str → Option Value) (fa : Addr) (h : Heap), YP w h → (K w.params).In h → h.Ns mainGlobals mg → mg d.name = some (.ref fa) → LawG l w (K w.params) (CX w) k n x mg fa h)
    (hCX : ∀ (w : World) (H : Hp) (s : Shared) (e : Value) (s' : Shared), CX w [] H s (fun _ _ _ => False) e s' → False) :
    PySem.W.WalkO q loose XP YP l.row.toRowW d [] (fun f vs => PySem.call f vs) := by
  refine Att.attach_callB hn hdf fun w s₀ s₁ mg mb fa o pm cd doc a vs ns G Y ho hd hcd hmg hobj hints hlen hbits hg => ?_
  have KX := hY w _ Y
  obtain ⟨fd, cs, sp, hT, nT, C, hb, hsp, hF⟩ := F w mg fa _ Y KX G.T.g hmg
  exact law_callG KX G.T.g G.T.b G.T.builtins G.T.nolimit hg hT nT C G.T.bmain hobj hints (Nat.le_trans hlen hn2) hr hF hb (fun H hH hS => hsp H a ns hlen hbits hH hS) fun H e s' => hCX w H s₁ e s'
theorem cutV_ints (l : List Int) (lo hi : Option Int) : ∃ ms : List Int, cutV (l.map V.int) lo hi = ms.map V.int ∧ ms.length ≤ l.length := by
  refine ⟨(l.drop (HT.sIx l.length 0 lo)).take (HT.sIx l.length l.length hi - HT.sIx l.length 0 lo), ?_, ?_⟩
  · unfold cutV
    rw [List.length_map, List.map_take, List.map_drop]
  · rw [List.length_take, List.length_drop]
    omega
/-- the law: of any script -/
def spLaw (K : PySem.W.Frag) : Sp := fun vs H Q _ => ∃ (a : Addr) (ns : List Int), vs = [.ref a] ∧ SqX K H a (ns.map V.int) ∧ ns.length ≤ 1000 ∧ ∀ H', Q (.bl true) H'
/-- what is asked of each well -/
def spWell (Z : List (Addr × Str)) : Sp := fun vs H Q _ => ∃ a : Addr, vs = [.ref a] ∧ H a = some (WellO a) ∧ ∀ H', Sm Z H H' → Q (.bl true) H'
def spWell0 (Z : List (Addr × Str)) : Sp := fun vs H Q _ => ∃ (a : Addr) (x y z : Int), vs = [.ref a] ∧ H a = some (.lst [.int x, .int y, .int z]) ∧ ∀ H', Sm Z (upd H a (WellO a)) H' → Q (.bl true) H'
theorem spWell_of {Z : List (Addr × Str)} (vs : List V) (H : Hp) (Q : VK) (E : XK) (h : spWell0 Z vs H Q E) : vs.length = 1 ∧ ∃ (a : Addr) (x y z : Int), H a = some (.lst [.int x, .int y, .int z]) ∧ spWell Z vs (upd H a (WellO a)) (fun v H' => H' a = some (WellO a) ∧ Q v H') E := by
  obtain ⟨a, x, y, z, rfl, ha, k⟩ := h
  exact ⟨rfl, a, x, y, z, ha, a, rfl, upd_same, fun H' s => ⟨s.well upd_same, k H' s⟩⟩
end NC

namespace PySem
namespace HandSPX
open Builtin Builtin.ObjectAttr
section
variable {M : Model} {A : Around} {E : Value → Shared → Prop} {h : Heap} {g : Array GenState} {d : Drawn} {t : Nat} {os : OsState}
variable {nm q : Str} {C N : Addr} {bs bm bmB : List Value} {hdct : Bool} {sn : List Str} {sub : List Value} {ab : Bool} {col : Option Bool} {dd : Option Addr} {k0 k1 k2 k3 k5 : Option Value} {B newId initId : String}
theorem nc_check_new_kw (F : ExcBaseFacts B newId initId bmB) (hT : ∀ X : String, bm.contains (.type X) = bmB.contains (.type X)) {kw : List (Str × Value)} {Q : Unit → Shared → Prop}
    (hC : h.get? C = some (excClassObj nm q C N bs bm hdct sn sub ab col dd k0 k1 k2 k3 k5 newId)) (hq : Q () ⟨h, g, d, t, os⟩) : wpAny M A (checkBuiltinCall newId ⟨[.ref C], kw⟩) Q E ⟨h, g, d, t, os⟩ := by
  have hcont : (Value.ref C :: bm).contains (.type B) = true := by rw [List.contains_cons, hT, F.hasB, Bool.or_true]
  have hstar := F.noStar
  simp only [checkBuiltinCall, F.newKind, F.newSplit, F.newRow]
  repeat (first | refine wpAny_loadPart_at hC ?_ | (refine wpAny_isSubtype_exc hC ?_; rw [hcont]) | refine wpAny_staticBase_exc hC ?_ | refine wpAny_madeBy_exc hC ?_ | simp only [bne_self_eq_false, Bool.false_eq_true, if_false] | wp_step)
  exact hq
end
section
variable {prog : Program} {w : World} {A : Around} {E : Value → Shared → Prop} {R : Result → Shared → Prop} {h : Heap} {g : Array GenState} {d : Drawn} {t : Nat} {os : OsState}
variable {nm q : Str} {C N : Addr} {bs bm bmB : List Value} {hdct : Bool} {sn : List Str} {sub : List Value} {ab : Bool} {col : Option Bool} {dd : Option Addr} {k0 k1 k2 k3 k5 : Option Value} {B newId initId : String}
theorem nc_new_kw (F : ExcBaseFacts B newId initId bmB) (hT : ∀ X : String, bm.contains (.type X) = bmB.contains (.type X)) {kw : List (Str × Value)}
    (hC : h.get? C = some (excClassObj nm q C N bs bm hdct sn sub ab col dd k0 k1 k2 k3 k5 newId))
    (hq : R (.ok (.ret (.ref (h.objs.size + 1)))) ⟨(h.push { cls := .type "tuple", data := .seq ([] : List Value).toArray }).push
      { cls := .ref C, data := .fields #[.ref h.objs.size, .none, .none, .none, .bool false, .none] }, g, d, t, os⟩) :
    codeAny (model prog w) A (.builtin newId ⟨[.ref C], kw⟩) R ⟨h, g, d, t, os⟩ := by
  have hends := F.ends
  have hcB : (Value.ref C :: bm).contains (.type B) = true := by rw [List.contains_cons, hT, F.hasB, Bool.or_true]
  have hcA : (Value.ref C :: bm).contains (.type "AttributeError") = false := by rw [List.contains_cons, hT, F.noAttr]; rfl
  have hcN : (Value.ref C :: bm).contains (.type "NameError") = false := by rw [List.contains_cons, hT, F.noName]; rfl
  refine codeAny_builtinAt F.entry ?_
  unfold Builtin.«BaseException.__new__»
  refine wpAt_bind ?_
  show wpAt _ _ _ (stack >>= _) _ _ _
  refine wpAt_bind (wpAt_stack fun p below => wpAt_of_wpAny ?_)
  wp_walk
  refine wpAt_of_wpAny ?_
  rw [F.owner]
  repeat (first | with_reducible refine wpAny_madeHere_exc F.canon hC ?_ | with_reducible refine wpAny_loadPart_at hC ?_ | (with_reducible refine wpAny_isSubtype_exc hC ?_; first | rw [hcB] | rw [hcA] | rw [hcN]) | wp_step)
  show R _ _
  rw [Heap.size_push]
  exact hq
theorem nc_type_call_kw (F : ExcBaseFacts B newId initId bmB) (hT : ∀ X : String, bm.contains (.type X) = bmB.contains (.type X)) {kw : List (Str × Value)} {fI : Addr} {Q : Fin → Shared → Prop}
    (hC : h.get? C = some (excClassObj nm q C N bs bm hdct sn sub ab col dd k0 k1 k2 k3 k5 newId))
    (hi : W.Looks (model prog w) h (typeLookup (.ref C) "__init__") (some (.ref fI))) (hb : ∀ self, W.Looks (model prog w) h (bindSpecial (.ref fI) self) (.ref fI, [self]))
    (hq : codeAny (model prog w) A (.call (.ref fI) ⟨[.ref (h.objs.size + 1)], kw⟩)
      (fun r s' => match r with | .ok (.ret v) => v = .none ∧ Q (.done (.ret (.ref (h.objs.size + 1)))) s' | .ok _ => False | .error e => E e s')
      ⟨(h.push (W.kdv_tup [])).push (excO C h.objs.size), g, d, t, os⟩) :
    wpAny (model prog w) A (Builtin.«type.__call__» ⟨[.ref C], kw⟩) Q E ⟨h, g, d, t, os⟩ := by
  repeat (first | with_reducible refine wpAny_loadPart_at hC ?_ | with_reducible refine wpAny_madeBy_exc hC ?_ | wp_step)
  refine codeAny_call_builtin_code (Code.quiet_builtin _ F.quiet) (nc_check_new_kw F hT hC ?_)
  refine nc_new_kw F hT hC ?_
  show wpAny _ _ _ _ _ _
  have k : ∀ b o, h.get? b = some o → ((h.push (W.kdv_tup [])).push (excO C h.objs.size)).get? b = some o := fun b o e => Heap.get?_push_of_some _ (Heap.get?_push_of_some _ e)
  have hC₁ := k _ _ hC
  have hget : ((h.push (W.kdv_tup [])).push (excO C h.objs.size)).get? (h.objs.size + 1) = some (excO C h.objs.size) := by heap_get
  have hcC : (Value.ref C :: bm).contains (.ref C) = true := by simp
  have i1 := hi.keeps k
  have b1 := (hb (.ref (h.objs.size + 1))).keeps k
  unfold isInstance
  repeat (first | with_reducible refine wpAny_loadPart_at hget ?_ | (with_reducible refine wpAny_isSubtype_exc hC₁ ?_; rw [hcC]) | wp_step)
  show wpAny _ _ (typeLookup (.ref C) _) _ _ _
  refine i1.at ?_
  refine wpAny_holding (wpAny_bind (b1.at ?_))
  refine wpAny_bind (wpAny_call (codeAny_mono hq fun r s' z => ?_))
  rcases r with e | (v | _ | _ | _) <;> first | exact z | exact z.elim | skip
  obtain ⟨rfl, z⟩ := z
  first
    | exact wpAny_pure (wpAny_pure z)
    | (wp_walk; exact z)
theorem nc_call_kw (F : ExcBaseFacts B newId initId bmB) (hT : ∀ X : String, bm.contains (.type X) = bmB.contains (.type X)) {kw : List (Str × Value)} {fI : Addr}
    (hC : h.get? C = some (excClassObj nm q C N bs bm hdct sn sub ab col dd k0 k1 k2 k3 k5 newId))
    (hi : W.Looks (model prog w) h (typeLookup (.ref C) "__init__") (some (.ref fI))) (hb : ∀ self, W.Looks (model prog w) h (bindSpecial (.ref fI) self) (.ref fI, [self]))
    (hq : codeAny (model prog w) (A.under (.builtin "type.__call__" ⟨[.ref C], kw⟩)) (.call (.ref fI) ⟨[.ref (h.objs.size + 1)], kw⟩) (W.InitBack (h.objs.size + 1) R)
      ⟨(h.push (W.kdv_tup [])).push (excO C h.objs.size), g, d, t, os⟩) :
    codeAny (model prog w) A (.call (.ref C) ⟨[], kw⟩) R ⟨h, g, d, t, os⟩ := by
  have f1 := tc_lookup
  have f2 := tc_bind (.ref C)
  have hTy : (⟨h, g, d, t, os⟩ : Shared).TypeIs (.ref C) "type" := ⟨_, hC, rfl⟩
  refine codeAny_of_tree ?_
  show wpAny _ _ (callAny (.ref C) _) _ _ _
  repeat (any_goals (first | assumption | with_reducible refine wpAny_loadPart_at hC ?_ | wp_step))
  refine ⟨rfl, ?_⟩
  refine codeAny_call_builtin_at (Code.quiet_builtin _ (by decide +kernel)) entry_typeCall (wpAny_check_type_call_sub hC (nc_type_call_kw F hT hC hi hb ?_))
  refine codeAny_mono hq fun r s' z => ?_
  rcases r with e | (v | _ | _ | _) <;> exact z
end
end HandSPX
end PySem

namespace NC
open PySem PySem.Spec PyProof.Rows L2
/-! ### exceptions as values -/
/-- at a: an exception of the own class at C, its dict at d holds fs -/
def ExAt (H : Hp) (a C : Addr) (fs : List (Str × V)) : Prop := ∃ d, H a = some (exo a C (some d)) ∧ H d = some (exd d fs)
theorem exo_ext (a C : Addr) (d : Option Addr) : ∀ ps, exo a C d ≠ .tbl ps := fun ps z => by
  have z' : HO.ext _ = HO.tbl ps := z
  cases z'
theorem exd_ext (a : Addr) (fs : List (Str × V)) : ∀ ps, exd a fs ≠ .tbl ps := fun ps z => by
  have z' : HO.ext _ = HO.tbl ps := z
  cases z'
theorem ExAt.sm {T : List (Addr × Str)} {H H' : Hp} (s : Sm T H H') {a C : Addr} {fs : List (Str × V)} (h : ExAt H a C fs) : ExAt H' a C fs := by
  obtain ⟨d, h1, h2⟩ := h
  exact ⟨d, s.1 _ _ h1 (exo_ext _ _ _), s.1 _ _ h2 (exd_ext _ _)⟩
section
variable (P : Program) (w : World) (K : PySem.W.Frag) (mg : Str → Option Value) (base : Heap)
/-- an own exception class, its __init__ stores one field; made by place and by name -/
structure CalV (k : Nat) (x : Str) (C : Addr) (f : Str) : Prop where
  ex : ∃ (fI : Addr) (fd : FuncData), FnOk P w K mg base CX0 k fI fd ["self", f] (spErr K C f) ∧ mg x = some (.ref C) ∧ PySem.W.findIn K (.ref C) "__init__" = some (some (.ref fI)) ∧ PySem.W.typeIn K (.ref fI) = some (.type "function") ∧
    Binds K fd ["self", f] [] ∧ ∀ (s : Shared) (u v : Value), BindsTo s fd ⟨[u], [(f, v)]⟩ [("self", u), (f, v)]
  oex : OexC K C
  nf : PySem.W.findIn K (.ref C) f = some none
end
/-- C(e), C(f=e) -/
def tMkV (C : Addr) (f : Str) (ta : TA) : TE := fun σ H Q => ta σ H fun vs H1 => ∃ v, vs = [v] ∧ ∀ a H2, Same H1 H2 → H1 a = none → ExAt H2 a C [(f, v)] → Q (.ref a) H2
theorem ext_val {Q : VK} {H1 : Hp} {C a : Addr} {f : Str} {v : V} {K : PySem.W.Frag} (T : OexC K C) (nf : PySem.W.findIn K (.ref C) f = some none) (ha : H1 a = none) (q : ∀ a H2, Same H1 H2 → H1 a = none → ExAt H2 a C [(f, v)] → Q (.ref a) H2) :
    spErr K C f [.ref a, v] (upd H1 a (exo a C none)) (fun u H2 => u = .non ∧ Q (.ref a) H2) (fun _ _ _ => False) := by
  refine ⟨a, v, rfl, T, nf, upd_same, fun d hd hda => ⟨rfl, q a _ (fun b u hb => ?_) ha ⟨d, upd_same, by rw [upd_ne hda, upd_same]⟩⟩⟩
  rw [upd_ne hda] at hd
  rw [upd_ne (ne_of_none hb ha), upd_ne (ne_of_none hb hd), upd_ne (ne_of_none hb ha)]
  exact hb
section
variable {X : Cx} {j k : Nat} {C : Addr} {f x : Str} {p pos kpos : Pos} {e : Expr} {ta : TA} {te : TE}
theorem pe_mkV (hr : Room j X.A) (hk : k + 1 ≤ j) (c : CalV X.prog X.w X.K X.mg X.base k x C f) (hg : Gl X x) (ha : PA X [e] ta) (hdb : (x == ("__debug__" : Str)) = false := by decide)
    (he : starEach [e] X.env = (false, eval e X.env) :: starEach [] X.env := by rfl) (hpl : (backTo pos (starEach [] X.env)).any (·.1) = false := by rfl) : PE X (.Call (.Name x p) [e] [] pos) (tMkV C f ta) := by
  obtain ⟨fI, fd, F1, hm, iC, tI, hb, _⟩ := c.ex
  have T := c.oex
  have hr := hr.mono hk
  refine ⟨fun pins s σ H Q I h => ?_⟩
  obtain ⟨nm, q, N, bs, bm, sn, sub, ab, col, dd, k0, k1, k2, k3, k5, hC, hbm⟩ := T.cls
  refine wpAny_Call_Name_kw (ld_glob I hg hm ?_ hdb)
  refine PySem.W.callWith_K (h₀ := X.base) I.ok.mod.kin T.kC (thn (ha.run pos pins s σ H _ I h) fun us s1 ⟨vs, H1, I1, r1, v, ev, q1⟩ => ⟨I1.kIn, ?_⟩) he hpl
  subst ev
  show wpAny _ _ (call (.ref C) us) _ _ _
  obtain ⟨hp, g, dr, tk, os⟩ := s1
  have hsz : hp.objs.size ≤ hp.objs.size + 1 := Nat.le_succ _
  have hn : H1 (hp.objs.size + 1) = none := I1.hok.fresh hsz
  have hq := ext_val (Q := Q) T c.nf hn q1
  have kk : ∀ b o, hp.get? b = some o → ((hp.push (PySem.W.kdv_tup us)).push (PySem.HandSPX.excO C hp.objs.size)).get? b = some o := fun b o e => Heap.get?_push_of_some _ (Heap.get?_push_of_some _ e)
  have hget : ((hp.push (PySem.W.kdv_tup us)).push (PySem.HandSPX.excO C hp.objs.size)).get? (hp.objs.size + 1) = some (PySem.HandSPX.excO C hp.objs.size) := by heap_get
  have I2 : L2.Inv X pins σ (upd H1 (hp.objs.size + 1) (exo (hp.objs.size + 1) C none)) ⟨(hp.push (PySem.W.kdv_tup us)).push (PySem.HandSPX.excO C hp.objs.size), g, dr, tk, os⟩ :=
    I1.laid (t' := tk) (a := hp.objs.size + 1) (o := exo (hp.objs.size + 1) C none) (h' := (hp.push (PySem.W.kdv_tup us)).push (PySem.HandSPX.excO C hp.objs.size)) kk hsz (exo_ok hget)
  have r2 : Vals (V.ref (hp.objs.size + 1) :: [v]) (Value.ref (hp.objs.size + 1) :: us) := .cons rfl r1
  have hl : (Value.ref (hp.objs.size + 1) :: us).length = 2 := by
    rw [← r2.length]
    rfl
  have hus : us.length ≤ sizeLine := by
    rw [← Paired.length r1, sizeLine_eq]
    simp only [List.length_singleton]
    omega
  have b := hb ⟨(hp.push (PySem.W.kdv_tup us)).push (PySem.HandSPX.excO C hp.objs.size), g, dr, tk, os⟩ (Value.ref (hp.objs.size + 1) :: us) I2.kIn (by rw [List.append_nil]; exact hl)
  rw [List.append_nil] at b
  refine wpAny_call (PySem.HandSPX.call_own F.excBase_ValueError (fun Y => PySem.HandSPX.refsVE_contains Y bm hbm) (I1.kIn _ _ hC) (PySem.W.looks_findIn I1.kIn iC) (fun self => PySem.W.bind_fn I1.kIn self tI) hus
    (codeAny_mono (F1.run _ X.stack _ _ ⟨Value.ref (hp.objs.size + 1) :: us, []⟩ (Value.ref (hp.objs.size + 1) :: us) _ _ (fun _ _ _ => False) (hr.make C us []) (I2.env0.make C us []) b r2 hq) fun r s' hq' => ?_))
  cases r with
  | error er => exact ((fun _ _ _ _ _ _ _ h => h.elim : Passes CX0 X (fun _ _ _ => False)) pins σ _ _ er s' I2 hq')
  | ok fl =>
    cases fl with
    | ret u =>
      obtain ⟨v', H2, I3, rv, ev, q2⟩ := I2.after hq'
      subst ev
      exact ⟨rv, ⟨V.ref (hp.objs.size + 1), H2, I3, rfl, q2⟩⟩
    | next => exact False.elim hq'
    | brk => exact False.elim hq'
    | cont => exact False.elim hq'
theorem pe_mkKV (hr : Room j X.A) (hk : k + 1 ≤ j) (c : CalV X.prog X.w X.K X.mg X.base k x C f) (hg : Gl X x) (ha : PE X e te) (hdb : (x == ("__debug__" : Str)) = false := by decide)
    (hall : (backToKw pos (keywordEach [⟨some f, e, kpos⟩] X.env)).all (·.1.isSome) = true := by rfl) (hks : (backToKw pos (keywordEach [⟨some f, e, kpos⟩] X.env)).filterMap (·.1) = [f] := by rfl)
    (hpl : ((backTo pos (starEach [] X.env)).any (·.1) || (backToKw pos (keywordEach [⟨some f, e, kpos⟩] X.env)).any (·.1.isNone)) = false := by rfl) : PE X (.Call (.Name x p) [] [⟨some f, e, kpos⟩] pos) (tMkV C f (tCons te tNil)) := by
  obtain ⟨fI, fd, F1, hm, iC, tI, _, hb⟩ := c.ex
  have T := c.oex
  have hr := hr.mono hk
  refine ⟨fun pins s σ H Q I h => ?_⟩
  obtain ⟨nm, q, N, bs, bm, sn, sub, ab, col, dd, k0, k1, k2, k3, k5, hC, hbm⟩ := T.cls
  refine wpAny_Call_Name_kw (ld_glob I hg hm ?_ hdb)
  refine PySem.W.callWith_KW0 (h₀ := X.base) I.ok.mod.kin T.kC hall (thn ((pk_cons ha pk_nil : PK X [⟨some f, e, kpos⟩] (tCons te tNil)).run pos pins s σ H _ I h) fun us s1 ⟨vs, H1, I1, r1, v, ev, q1⟩ => ⟨I1.kIn, ?_⟩) hpl
  subst ev
  rw [hks]
  obtain ⟨u, rfl, ru⟩ := vals1 r1
  show wpAny _ _ (call (.ref C) [] [(f, u)]) _ _ _
  obtain ⟨hp, g, dr, tk, os⟩ := s1
  have hsz : hp.objs.size ≤ hp.objs.size + 1 := Nat.le_succ _
  have hn : H1 (hp.objs.size + 1) = none := I1.hok.fresh hsz
  have hq := ext_val (Q := Q) T c.nf hn q1
  have kk : ∀ b o, hp.get? b = some o → ((hp.push (PySem.W.kdv_tup [])).push (PySem.HandSPX.excO C hp.objs.size)).get? b = some o := fun b o e => Heap.get?_push_of_some _ (Heap.get?_push_of_some _ e)
  have hget : ((hp.push (PySem.W.kdv_tup [])).push (PySem.HandSPX.excO C hp.objs.size)).get? (hp.objs.size + 1) = some (PySem.HandSPX.excO C hp.objs.size) := by heap_get
  have I2 : L2.Inv X pins σ (upd H1 (hp.objs.size + 1) (exo (hp.objs.size + 1) C none)) ⟨(hp.push (PySem.W.kdv_tup [])).push (PySem.HandSPX.excO C hp.objs.size), g, dr, tk, os⟩ :=
    I1.laid (t' := tk) (a := hp.objs.size + 1) (o := exo (hp.objs.size + 1) C none) (h' := (hp.push (PySem.W.kdv_tup [])).push (PySem.HandSPX.excO C hp.objs.size)) kk hsz (exo_ok hget)
  have r2 : Vals (V.ref (hp.objs.size + 1) :: [v]) [Value.ref (hp.objs.size + 1), u] := .cons rfl (.cons ru .nil)
  refine wpAny_call (PySem.HandSPX.nc_call_kw F.excBase_ValueError (fun Y => PySem.HandSPX.refsVE_contains Y bm hbm) (I1.kIn _ _ hC) (PySem.W.looks_findIn I1.kIn iC) (fun self => PySem.W.bind_fn I1.kIn self tI)
    (codeAny_mono (F1.run _ X.stack _ _ ⟨[Value.ref (hp.objs.size + 1)], [(f, u)]⟩ [Value.ref (hp.objs.size + 1), u] _ _ (fun _ _ _ => False) (hr.make C [] [(f, u)]) (I2.env0.make C [] [(f, u)]) (hb _ _ _) r2 hq) fun r s' hq' => ?_))
  cases r with
  | error er => exact ((fun _ _ _ _ _ _ _ h => h.elim : Passes CX0 X (fun _ _ _ => False)) pins σ _ _ er s' I2 hq')
  | ok fl =>
    cases fl with
    | ret u =>
      obtain ⟨v', H2, I3, rv, ev, q2⟩ := I2.after hq'
      subst ev
      exact ⟨rv, ⟨V.ref (hp.objs.size + 1), H2, I3, rfl, q2⟩⟩
    | next => exact False.elim hq'
    | brk => exact False.elim hq'
    | cont => exact False.elim hq'
end
/-! ### e.f, isinstance -/
def tVFld (K : PySem.W.Frag) (f : Str) (te : TE) : TE := fun σ H Q => te σ H fun x H1 => ∃ (a C : Addr) (fs : List (Str × V)) (v : V), x = .ref a ∧ ExAt H1 a C fs ∧ GetX K C f ∧ fs.lookup f = some v ∧ Q v H1
/-- what a class must say, so that isinstance asks its instances rightly -/
structure ExcK (K : PySem.W.Frag) (C : Addr) : Prop where
  cl : (PySem.W.clsIn K C).isSome = true
  ga : PySem.W.findIn K (.ref C) "__getattribute__" = some (some (.builtin "BaseException.__getattribute__"))
  gg : PySem.W.findIn K (.ref C) "__getattr__" = some none
  sb : PySem.W.subIn K (.ref C) (.type "BaseException") = some true
  hc : PySem.W.findIn K (.ref C) "__class__" = some (some (.builtin "object.__class__"))
  hn : PySem.W.specialIn K (.builtin "object.__class__") "__get__" = some (some (.builtin "getset_descriptor.__get__"))
  ht : PySem.W.takesIn K (.builtin "object.__class__") = some true
  hm : PySem.W.mroIn K C (.type "object") = some true
def rIsV (K : PySem.W.Frag) : List V → Hp → VK → Prop := fun xs H Q => ∃ (a C : Addr) (fs : List (Str × V)) (c : V) (cv : Value) (b : Bool), xs = [.ref a, c] ∧ ExAt H a C fs ∧ ClsV c cv ∧ ExcK K C ∧ PySem.W.kitOne K (.ref C) cv = some b ∧ Q (.bl b) H
section
variable {X : Cx} {pins : List (Addr × Obj)} {σ : L2.St} {H : Hp} {s : Shared} {a C : Addr} {fs : List (Str × V)}
theorem ExAt.inst (I : L2.Inv X pins σ H s) (h : ExAt H a C fs) : ∃ (oe od : Obj) (mA : Str → Option Value), PySem.W.InstAt s.heap a oe C (some od) ∧ (∀ f, PySem.W.lookIn f od = some (mA f)) ∧ ∀ f, RelO (fs.lookup f) (mA f) := by
  obtain ⟨d, h1, h2⟩ := h
  obtain ⟨t0, hoe⟩ := exo_at I.hok h1
  obtain ⟨mA, hns, rel⟩ := exd_at I.hok h2
  obtain ⟨od, ho, hl⟩ := lookIn_ns hns
  exact ⟨_, od, mA, ⟨hoe, rfl, rfl, ho⟩, hl, rel⟩
end
theorem pe_vfld (K : PySem.W.Frag) {X : Cx} {f : Str} {e : Expr} {te : TE} {pos : Pos} (he : PE X e te) (hK : X.K = K := by rfl) (hb : attributeBase e f X.env (eval e X.env) = eval e X.env := by rfl) : PE X (.Attribute e f pos) (tVFld K f te) := by
  subst hK
  refine ⟨fun pins s σ H Q I h => ?_⟩
  refine attr_of hb (thn (he.run pins s σ H _ I h) fun u s1 hh => ?_)
  obtain ⟨x, H1, I1, rx, a, C, fs, v, ex, ha, G, l, q⟩ := hh
  subst ex
  obtain rfl : u = Value.ref a := rx
  obtain ⟨oe, od, mA, J, hl, rel⟩ := ha.inst I1
  obtain ⟨u, hu, ru⟩ := RelO.some_of (v := v) (o := mA f) (by rw [← l]; exact rel f)
  exact HandSPX.exc_get I1.kIn J G.ga G.gg G.exC (PySem.W.findObj_own G.hdC G.nf rfl (by rw [hl, hu])) (handed_of ru) ⟨v, H1, I1.tok _, ru, q⟩
theorem call_isV (K : PySem.W.Frag) {X : Cx} (hK : X.K = K := by rfl) : CallR X (.builtin "isinstance") (rIsV K) := by
  subst hK
  intro pins s σ H xs us Q I r h
  obtain ⟨a, C, fs, c, cv, b, rfl, ha, k, G, e, q⟩ := h
  obtain ⟨u1, u2, rfl, r1, r2⟩ := vals2 r
  have e2 := k.eq r2
  subst e2
  obtain rfl : u1 = Value.ref a := r1
  obtain ⟨oe, od, mA, J, hl, rel⟩ := ha.inst I
  exact PySem.W.kia_one (PySem.W.kitx_exc (ox := oe) (od := some od) G.cl G.ga G.gg G.sb G.hc G.hn G.ht G.hm) I.kIn J e (fun z => nomatch z) fun tk => ⟨.bl b, H, I.tok tk, rfl, q⟩
/-! ### ValueError("x") as a value -/
def BexO (a : Addr) (T : String) : HO := .ext fun h => ∃ o, h.get? a = some o ∧ o.cls = .type T
theorem pe_bex {X : Cx} {T N I' : String} {x : Str} {p pos : Pos} {e : Expr} {t : TA} (F : ExcClass T N I') (hg : Gl X x) (hm : X.mg x = none) (hv : bootBuiltins x = some (.type T)) (ha : PA X [e] t) (hn : x ≠ "__name__" := by decide) (hdb : (x == ("__debug__" : Str)) = false := by decide)
    (he : starEach [e] X.env = (false, eval e X.env) :: starEach [] X.env := by rfl) (hpl : (backTo pos (starEach [] X.env)).any (·.1) = false := by rfl) :
    PE X (.Call (.Name x p) [e] [] pos) (fun σ H Q => t σ H fun vs H1 => vs.length ≤ sizeLine ∧ ∀ a, H1 a = none → Q (.ref a) (upd H1 a (BexO a T))) := by
  refine ⟨fun pins s σ H Q J h => ?_⟩
  refine wpAny_Call_Name_kw (ld_blt J hg hm hv ?_ hn hdb)
  refine PyProof.Rows.callWith_type1 (thn (ha.run pos pins s σ H _ J h) fun us s1 hh => ?_) he hpl
  obtain ⟨vs, H1, I1, r1, q0, q1⟩ := hh
  refine PyProof.Rows.call_exc F (fun h' a mk => ?_) (Nat.le_trans (Nat.le_of_eq r1.length.symm) q0)
  obtain ⟨ob, t0, ha', hcls, hd⟩ := mk.there
  have hn1 := I1.hok.gone mk.new
  have new : ObjOk X.prog X.w (upd H1 a (BexO a T)) h' a (BexO a T) := ⟨⟨ob, ha', hcls⟩, ⟨ob, ha'⟩, fun h1 h2 ⟨o, e1, e2⟩ k => ⟨o, k o e1, e2⟩⟩
  exact ⟨.ref a, _, Inv.laidN (t' := s1.toks) I1 mk.keeps mk.new hn1 new, rfl, q1 a hn1⟩
def rIsB (K : PySem.W.Frag) (T : String) : List V → Hp → VK → Prop := fun xs H Q => ∃ (a : Addr) (c : V) (cv : Value) (b : Bool), xs = [.ref a, c] ∧ H a = some (BexO a T) ∧ ClsV c cv ∧ PySem.W.kitOne K (.type T) cv = some b ∧ Q (.bl b) H
theorem call_isB (K : PySem.W.Frag) {X : Cx} (hK : X.K = K := by rfl) : CallR X (.builtin "isinstance") (rIsB K "ValueError") := by
  subst hK
  intro pins s σ H xs us Q I r h
  obtain ⟨a, c, cv, b, rfl, ha, k, e, q⟩ := h
  obtain ⟨u1, u2, rfl, r1, r2⟩ := vals2 r
  have e2 := k.eq r2
  subst e2
  obtain rfl : u1 = Value.ref a := r1
  have ok : ObjOk X.prog X.w H s.heap a (BexO a "ValueError") := I.hok a _ ha
  obtain ⟨⟨o, h1, h2⟩, _⟩ := (show (∃ o, s.heap.get? a = some o ∧ o.cls = .type "ValueError") ∧ _ ∧ _ from ok)
  exact PySem.W.kia_one (PySem.W.kitx_bexc F.excAttr_ValueError (by rw [typeLookup_type, builtinLookup_eq_fast]; kernel_rfl) (by rw [isSubtype_type]; kernel_rfl) (by decide +kernel)) I.kIn ⟨o, h1, h2⟩ e (fun z => nomatch z) fun tk => ⟨.bl b, H, I.tok tk, rfl, q⟩
section
variable {K : PySem.W.Frag} {σ : L2.St} {H : Hp} {Q : VK} {tA : TA} {te : TE} {C : Addr} {f : Str}
theorem rd_mkV (h : tA σ H fun vs H1 => ∃ v, vs = [v] ∧ ∀ a H2, Same H1 H2 → H1 a = none → ExAt H2 a C [(f, v)] → Q (.ref a) H2) : tMkV C f tA σ H Q := h
theorem rd_vfld (h : te σ H fun x H1 => ∃ (a C : Addr) (fs : List (Str × V)) (v : V), x = .ref a ∧ ExAt H1 a C fs ∧ GetX K C f ∧ fs.lookup f = some v ∧ Q v H1) : tVFld K f te σ H Q := h
end
theorem pe_cls {X : Cx} {x : Str} {C : Addr} {pos : Pos} (hg : Gl X x) (hm : X.mg x = some (.ref C)) (hd : (x == ("__debug__" : Str)) = false := by decide) : PE X (.Name x pos) (tC (.ref C)) := pe_glob hg hm rfl hd
end NC

namespace NC
open PySem PySem.Spec PyProof.Rows L2
/-! ### == and != of data, or of two tuples whose items are data or the same object -/
/-- two items: the same object, or data -/
inductive EqI (K : PySem.W.Frag) (H : Hp) : V → V → Bool → Prop
  | same (a : Addr) : EqI K H (.ref a) (.ref a) true
  | dat {x y : V} {d e : PyData} : Dp K H x d → Dp K H y e → SeqAt.shaped d = true → SeqAt.shaped e = true → EqI K H x y (PyData.eqv d e)
inductive EqIs (K : PySem.W.Frag) (H : Hp) : List V → List V → Bool → Prop
  | nil : EqIs K H [] [] true
  | cons {x y : V} {xs ys : List V} {b c : Bool} : EqI K H x y b → EqIs K H xs ys c → EqIs K H (x :: xs) (y :: ys) (b && c)
def EqX (K : PySem.W.Frag) (H : Hp) (x y : V) (b : Bool) : Prop :=
  (∃ d e, Dp K H x d ∧ Dp K H y e ∧ SeqAt.shaped d = true ∧ SeqAt.shaped e = true ∧ b = PyData.eqv d e) ∨
  ∃ p q xs ys, x = .ref p ∧ y = .ref q ∧ SqT K H p xs ∧ SqT K H q ys ∧ EqIs K H xs ys b
def rEqX (K : PySem.W.Frag) : R2 := fun x y H Q => ∃ b, EqX K H x y b ∧ Q (.bl b) H
def rNeX (K : PySem.W.Frag) : R2 := fun x y H Q => ∃ b, EqX K H x y b ∧ Q (.bl (!b)) H
section
variable {X : Cx} {pins : List (Addr × Obj)} {σ : L2.St} {H : Hp} {s : Shared}
theorem EqI.at (I : L2.Inv X pins σ H s) {A : Around} (hu : A.units + 64 < cLine) {x y : V} {v u : Value} {b : Bool} (h : EqI X.K H x y b) (rx : RelV x v) (ry : RelV y u) : SeqAt.EqAt A s v u b := by
  cases h with
  | same a =>
    cases rx
    cases ry
    exact SeqAt.EqAt.same _
  | dat hd he sd se =>
    obtain ⟨as, r1⟩ := Dp.reads I _ x v hd rx
    obtain ⟨bs, r2⟩ := Dp.reads I _ y u he ry
    exact SeqAt.eqAt_reads _ _ A s v u as bs r1 r2 (SeqAt.canLay_of_shaped sd) (SeqAt.canLay_of_shaped se) (SeqAt.room_of_shaped sd hu)
theorem EqIs.at (I : L2.Inv X pins σ H s) {A : Around} (hu : A.units + 64 < cLine) : ∀ {xs ys : List V} {vs us : List Value} {b : Bool}, EqIs X.K H xs ys b → Vals xs vs → Vals ys us →
    ∃ e : Nat → Bool, vs.length = us.length ∧ (∀ j v u, vs[j]? = some v → us[j]? = some u → SeqAt.EqAt A s v u (e j)) ∧ (List.range vs.length).all e = b
  | _, _, _, _, _, .nil, .nil, .nil => ⟨fun _ => true, rfl, fun j v u h => by simp at h, rfl⟩
  | _, _, _, _, _, .cons (b := b0) h t, .cons r1 v1, .cons r2 v2 => by
    obtain ⟨e, hl, he, hb⟩ := EqIs.at I hu t v1 v2
    refine ⟨fun j => match j with | 0 => b0 | j + 1 => e j, by simp [hl], fun j v u h1 h2 => ?_, ?_⟩
    · match j, h1, h2 with
      | 0, h1, h2 =>
        simp at h1 h2
        subst h1 h2
        exact h.at I hu r1 r2
      | j + 1, h1, h2 => exact he j v u (by simpa using h1) (by simpa using h2)
    · rw [List.length_cons, List.range_succ_eq_map, List.all_cons, List.all_map, ← hb]
      rfl
theorem op_eqX (K : PySem.W.Frag) (hu : X.A.units + 65 < cLine) (hK : X.K = K := by rfl) : OpR X (compareOp .Eq) (rEqX K) := by
  subst hK
  intro pins s σ H x y v u Q I rx ry h
  obtain ⟨b, h, q⟩ := h
  rcases h with ⟨d, e, hd, he, sd, se, rfl⟩ | ⟨p, r, xs, ys, rfl, rfl, hp, hr, hE⟩
  · exact op_eqD (by omega) pins s σ H x y v u Q I rx ry ⟨d, e, hd, he, sd, se, q⟩
  · cases rx
    cases ry
    obtain ⟨its, rv, p1, _⟩ := I.tuple hp
    obtain ⟨its2, rv2, p2, _⟩ := I.tuple hr
    obtain ⟨e, hl, he, hb⟩ := EqIs.at I (A := X.A.in1) (by show X.A.units + 1 + 64 < cLine; omega) hE rv rv2
    refine SeqAt.RcAt.tuples (e := e) (show s.heap.IsTuple p its.toArray from p1) (show s.heap.IsTuple r its2.toArray from p2) (by omega) (fun j h1 h2 => he j _ _ (by simp at h1; simp [h1]) (by simp at h2; simp [h2])) _ _ _ _ ?_
    have eb : ((List.range (min its.toArray.size its2.toArray.size)).all e && its.toArray.size == its2.toArray.size) = b := by
      rw [List.size_toArray, List.size_toArray, ← hl, Nat.min_self, hb]
      simp
    rw [eb]
    exact ⟨.bl b, H, I, rfl, q⟩
theorem op_neX (K : PySem.W.Frag) (hu : X.A.units + 65 < cLine) (hK : X.K = K := by rfl) : OpR X (compareOp .NotEq) (rNeX K) := by
  subst hK
  intro pins s σ H x y v u Q I rx ry h
  obtain ⟨b, h, q⟩ := h
  rcases h with ⟨d, e, hd, he, sd, se, rfl⟩ | ⟨p, r, xs, ys, rfl, rfl, hp, hr, hE⟩
  · exact op_neD (by omega) pins s σ H x y v u Q I rx ry ⟨d, e, hd, he, sd, se, q⟩
  · cases rx
    cases ry
    obtain ⟨its, rv, p1, _⟩ := I.tuple hp
    obtain ⟨its2, rv2, p2, _⟩ := I.tuple hr
    obtain ⟨e, hl, he, hb⟩ := EqIs.at I (A := X.A.in1) (by show X.A.units + 1 + 64 < cLine; omega) hE rv rv2
    refine SeqAt.RcNeAt.tuples (e := e) (show s.heap.IsTuple p its.toArray from p1) (show s.heap.IsTuple r its2.toArray from p2) (by omega) (fun j h1 h2 => he j _ _ (by simp at h1; simp [h1]) (by simp at h2; simp [h2])) _ _ _ _ ?_
    have eb : ((List.range (min its.toArray.size its2.toArray.size)).all e && its.toArray.size == its2.toArray.size) = b := by
      rw [List.size_toArray, List.size_toArray, ← hl, Nat.min_self, hb]
      simp
    rw [eb]
    exact ⟨.bl (!b), H, I, rfl, q⟩
end
/-- a pair of a text and a value of any kind, and the same again -/
theorem eqX_pair {K : PySem.W.Frag} {H : Hp} {p q : Addr} {x : Str} {v : V} {d : PyData} (hp : H p = some (.tup [.str x, v])) (hq : H q = some (.tup [.str x, v])) (hx : PyData.strOk x = true) (hd : Dt H v d) (hok : Okd 60 d ∨ d = .dict []) : EqX K H (.ref p) (.ref q) true := by
  refine .inr ⟨p, q, _, _, rfl, rfl, SqT.of hp, SqT.of hq, ?_⟩
  have h1 : EqI K H (.str x) (.str x) true := by
    have := EqI.dat (K := K) (H := H) (.str x) (.str x) (okd_str (k := 0) hx).sh (okd_str (k := 0) hx).sh
    rwa [show PyData.eqv (.str x) (.str x) = true by simp [PyData.eqv]] at this
  have h2 : EqI K H v v true := by
    cases hd with
    | lst h _ => exact .same _
    | tup h _ => exact .same _
    | dic h => exact .same _
    | non => exact .dat .non .non rfl rfl
    | bl b =>
      have := EqI.dat (K := K) (H := H) (.bl b) (.bl b) (okd_bl (k := 0) b).sh (okd_bl (k := 0) b).sh
      rwa [show PyData.eqv (.bool b) (.bool b) = true by simp [PyData.eqv]] at this
    | int i =>
      have := EqI.dat (K := K) (H := H) (.int i) (.int i) (okd_int (k := 0) i).sh (okd_int (k := 0) i).sh
      rwa [show PyData.eqv (.int i) (.int i) = true by simp [PyData.eqv]] at this
    | str y =>
      rcases hok with hok | hok
      · have := EqI.dat (K := K) (H := H) (.str y) (.str y) hok.sh hok.sh
        rwa [show PyData.eqv (.str y) (.str y) = true by simp [PyData.eqv]] at this
      · cases hok
  exact .cons h1 (.cons h2 .nil)
theorem rd_eqX {K : PySem.W.Frag} {H : Hp} {Q : VK} {x y : V} {b : Bool} (h : EqX K H x y b) (q : Q (.bl b) H) : rEqX K x y H Q := ⟨b, h, q⟩
theorem rd_neX {K : PySem.W.Frag} {H : Hp} {Q : VK} {x y : V} {b : Bool} (h : EqX K H x y b) (q : Q (.bl (!b)) H) : rNeX K x y H Q := ⟨b, h, q⟩
theorem eqX_dt {K : PySem.W.Frag} {H : Hp} {x y : V} {d e : PyData} (hd : Dt H x d) (he : Dt H y e) (od : Okd 64 d) (oe : Okd 64 e) : EqX K H x y (PyData.eqv d e) := .inl ⟨d, e, hd.dp od.1, he.dp oe.1, od.sh, oe.sh, rfl⟩
end NC

namespace NC
open PySem PySem.Spec PyProof.Rows L2
/-! ### a try with several clauses, each of which may give the error a name -/
/-- one clause: the class named, the slot of the name (if it has one), what the suite does -/
structure Cls1 where
  c : Value
  slot : Option Nat
  ts : Addr → Value → Option Addr → TS
def unSlot (D : Ends) : Option Nat → Ends
  | none => D
  | some i => { nx := fun σ' H' => D.nx (σ'.set i none) H', rt := D.rt, bk := fun σ' H' => D.bk (σ'.set i none) H', ct := fun σ' H' => D.ct (σ'.set i none) H' }
def inSlot (a : Addr) (σ : L2.St) : Option Nat → L2.St
  | none => σ
  | some i => σ.set i (some (.ref a))
def wClauses (K : PySem.W.Frag) (W : WX) (D : Ends) : List Cls1 → WX
  | [] => W
  | q :: r => fun cls d σ H => ∃ b, PySem.W.exmOne K cls q.c = some b ∧ (b = true → ∀ a, H a = none → q.ts a cls d (unSlot D q.slot) (inSlot a σ q.slot) H) ∧ (b = false → wClauses K W D r cls d σ H)
/-- the error in hand, before the clauses are looked at -/
structure Held (X : Cx) (pins : List (Addr × Obj)) (σ : L2.St) (H : Hp) (cls : Value) (d : Option Addr) (a : Addr) (B : Heap) (sI s : Shared) : Prop where
  J : L2.Inv X pins σ H sI
  nb : ∀ (b : Addr) (o : Obj), sI.heap.get? b = some o → ¬b ∈ frs X.stack → B.get? b = some o
  up : sI.heap.UpToSlots s.heap
  na : H a = none
  os : s.os = sI.os
  ag : AllBare s.gens
  fl : HandSPX.FlyingZ B (X.env :: X.outer) a (Zc cls d) s.heap
section
variable {X : Cx} {pins : List (Addr × Obj)} {σ : L2.St} {H : Hp} {cls : Value} {d : Option Addr} {a : Addr} {B : Heap} {sI s : Shared} {W : WX} {D : Ends}
theorem Held.step (h : Held X pins σ H cls d a B sI s) {h' : Heap} (f : HandSPX.FlyingZ B (X.env :: X.outer) a (Zc cls d) h') (u : s.heap.UpToSlots h') : Held X pins σ H cls d a B sI { s with heap := h' } :=
  { J := h.J, nb := h.nb, up := h.up.trans u, na := h.na, os := h.os, ag := h.ag, fl := f }
theorem Held.inv (h : Held X pins σ H cls d a B sI s) : L2.Inv X pins σ H s := h.J.landed h.nb h.fl.1 h.up h.os h.ag
theorem Held.suite (hs : X.stack = X.env :: X.outer) (hf : X.env.frame = some X.env.locals) (h : Held X pins σ H cls d a B sI s) :
    ∃ o, Zc cls d o ∧ (∃ vs, o.data = .fields vs) ∧ s.heap.get? a = some o ∧ L2.Inv (X.suite a ((a, o) :: (X.pn ++ pins))) [] σ H s := by
  obtain ⟨o, vs, ho, hz, hd⟩ := h.fl.there
  have out : a ∉ frs (X.env :: X.outer) := fun hm => by
    obtain ⟨_, o', e', hnf⟩ := h.fl.2.2.1.mem hm
    rw [ho] at e'
    cases e'
    exact hnf _ hd
  have n1 : a ≠ X.env.locals := fun z => out (List.mem_filterMap.mpr ⟨X.env, .head _, by rw [hf, z]⟩)
  have n2 : a ∉ X.fs := fun hm => by
    obtain ⟨e, he, q⟩ := List.mem_filterMap.mp hm
    exact out (List.mem_filterMap.mpr ⟨e, .tail _ he, q⟩)
  exact ⟨o, hz, ⟨vs, hd⟩, ho, h.inv.suite ho hd h.na n1 n2⟩
theorem Held.pass (hs : X.stack = X.env :: X.outer) (hf : X.env.frame = some X.env.locals) (tk : Takes X W) (h : Held X pins σ H cls d a B sI s) (w : W cls d σ H) :
    wpAny (model X.prog X.w) X.A (handleBy (.ref a) X.env []) (SP X pins D) X.xe s := by
  refine wpAny_handleBy_nil ?_
  obtain ⟨_, _, _, o, vs, T, oT, tt, ho, _, hd, h1, _⟩ := id h.fl
  unfold PySem.passOn
  refine wpAny_bind (wpAny_field ho hd h1 ?_)
  rw [if_neg (show ¬ ((Value.ref T == Value.none) = true) from by simp)]
  have fin : wpAny (model X.prog X.w) X.A (setFlight (.ref a) X.env.frame) (fun _ z => wpAny (model X.prog X.w) X.A (throw (.ref a) : Sem Flow) (SP X pins D) X.xe z) X.xe s := by
    rw [hf]
    refine HandSPX.setFlight_upZ h.fl fun h4 q4 u4 => wpAny_throw (tk _ _ ?_)
    exact ⟨a, B, sI, pins, σ, H, cls, d, rfl, h.J, h.nb, h.up.trans u4, .inr (.inr (by rw [hs]; exact q4)), h.na, h.os, h.ag, w⟩
  first
    | exact wpAny_bind (wpAny_pure (wpAny_bind fin))
    | exact wpAny_bind fin
theorem Held.test (hs : X.stack = X.env :: X.outer) (hf : X.env.frame = some X.env.locals) (h : Held X pins σ H cls d a B sI s) {x : Str} {c : Value} {np : Pos} (hc : Names X x c) {Q E : Value → Shared → Prop} (q : Q c s) :
    wpAny (model X.prog X.w) (X.A.mark (some (.ref a))) (eval (.Name x np) X.env) Q E s := by
  obtain ⟨o, _, _, _, S⟩ := h.suite hs hf
  obtain ⟨hg, hdb, hm | ⟨hm, hv, hn⟩⟩ := hc
  · exact ld_glob (X := X.suite a ((a, o) :: (X.pn ++ pins))) S hg hm q hdb
  · exact ld_blt (X := X.suite a ((a, o) :: (X.pn ++ pins))) S hg hm hv q hn hdb
end
/-- the clauses of a try, told one by one -/
inductive Clauses (X : Cx) : List ExceptHandler → List Cls1 → Prop
  | nil : Clauses X [] []
  | bare {x : Str} {c : Value} {ts : Addr → Value → Option Addr → TS} {b : Stmt} {su : List Stmt} {np p : Pos} {hds : List ExceptHandler} {l : List Cls1} (hc : Names X x c)
      (hsu : ∀ (a : Addr) (o : Obj) (cls : Value) (d : Option Addr) (pn : List (Addr × Obj)), Zc cls d o → (∃ vs, o.data = .fields vs) → PSs (X.suite a ((a, o) :: pn)) (b :: su) (ts a cls d)) (r : Clauses X hds l) :
      Clauses X (.ExceptHandler (some (.Name x np)) none (b :: su) p :: hds) (⟨c, none, ts⟩ :: l)
  | named {x n : Str} {i : Nat} {c : Value} {ts : Addr → Value → Option Addr → TS} {b : Stmt} {su : List Stmt} {np p : Pos} {hds : List ExceptHandler} {l : List Cls1} (hc : Names X x c) (hi : X.N[i]? = some n) (hl : X.env.kindOf n = some .local)
      (hsu : ∀ (a : Addr) (o : Obj) (cls : Value) (d : Option Addr) (pn : List (Addr × Obj)), Zc cls d o → (∃ vs, o.data = .fields vs) → PSs (X.suite a ((a, o) :: pn)) (b :: su) (ts a cls d)) (r : Clauses X hds l) :
      Clauses X (.ExceptHandler (some (.Name x np)) (some n) (b :: su) p :: hds) (⟨c, some i, ts⟩ :: l)
section
variable {X : Cx} {pins : List (Addr × Obj)} {σ : L2.St} {H : Hp} {cls : Value} {d : Option Addr} {a : Addr} {B : Heap} {sI s : Shared} {W : WX} {D : Ends}
theorem Held.clauses (hs : X.stack = X.env :: X.outer) (hf : X.env.frame = some X.env.locals) (hN : X.N.Nodup) (tk : Takes X W) {s0 : Shared} {pins0 : List (Addr × Obj)} {σ0 : L2.St} {H0 : Hp} (ok : L2.Inv X pins0 σ0 H0 s0) (h : Held X pins σ H cls d a B sI s)
    {hds : List ExceptHandler} {l : List Cls1} (hk : Clauses X hds l) : wClauses X.K W D l cls d σ H → wpAny (model X.prog X.w) X.A (handleBy (.ref a) X.env hds) (SP X pins D) X.xe s := by
  have LT : PySem.W.Looks (model X.prog X.w) s.heap (typeOf (.ref a)) cls := fun A Q E z k q => by
    obtain ⟨o, hz, _, ho, _⟩ := h.suite hs hf
    exact wpAny_typeOf_ref (k _ _ ho) (by rw [hz.1]; exact q)
  induction hk with
  | nil => exact fun w => h.pass hs hf tk w
  | bare hc hsu r ih =>
    rintro ⟨b, hb, hy, hn⟩
    refine wpAny_handleBy_cons (codeAny_handlers_test ?_) (by intro q; cases q)
    refine h.test hs hf hc ((PySem.W.exm_one (M := model X.prog X.w) h.inv.kIn LT hb).here ?_)
    cases b with
    | false => exact ih (hn rfl)
    | true =>
      refine codeAny_handlers_suite (HandSPX.lands_againZ h.fl fun h4 f4 u4 => ?_)
      have h' := h.step f4 u4
      obtain ⟨o, hz, hd, _, S⟩ := h'.suite hs hf
      refine wpAny_mono ((hsu a o cls d (X.pn ++ pins) hz hd).run [] _ _ H _ S (hy rfl a h.na)) (fun f s6 hsp => ?_) (fun _ _ z => False.elim z)
      cases f with
      | ret u => obtain ⟨v, σ6, H6, S6, r6, q6⟩ := hsp; exact ⟨_, _, _, S6.unsuite ok.ok, r6, q6⟩
      | next => obtain ⟨σ6, H6, S6, q6⟩ := hsp; exact ⟨_, _, S6.unsuite ok.ok, q6⟩
      | brk => obtain ⟨σ6, H6, S6, q6⟩ := hsp; exact ⟨_, _, S6.unsuite ok.ok, q6⟩
      | cont => obtain ⟨σ6, H6, S6, q6⟩ := hsp; exact ⟨_, _, S6.unsuite ok.ok, q6⟩
  | @named x n i c ts b₀ su np p hds' l' hc hi hl hsu r ih =>
    rintro ⟨b, hb, hy, hn⟩
    refine wpAny_handleBy_cons (codeAny_handlers_test ?_) (by intro q; cases q)
    refine h.test hs hf hc ((PySem.W.exm_one (M := model X.prog X.w) h.inv.kIn LT hb).here ?_)
    cases b with
    | false => exact ih (hn rfl)
    | true =>
      refine codeAny_handlers_suite_as (HandSPX.lands_againZ h.fl fun h4 f4 u4 => ?_)
      have h' := h.step f4 u4
      obtain ⟨o, hz, hd, _, S⟩ := h'.suite hs hf
      have hloc : Loc X.env.scope n := .inl hl
      refine store_ok (X := X.suite a ((a, o) :: (X.pn ++ pins))) (v := .ref a) S hN hi hloc rfl (fun s5 S5 => ?_) (.inr hl)
      refine wpAny_mono ((hsu a o cls d (X.pn ++ pins) hz hd).run [] s5 _ H _ S5 (hy rfl a h.na)) (fun f s6 hsp => ?_) (fun _ _ z => False.elim z)
      cases f with
      | ret u => obtain ⟨v, σ6, H6, S6, r6, q6⟩ := hsp; exact gone_ok (S6.unsuite ok.ok) hN hi hl fun s7 J7 => ⟨_, _, _, J7, r6, q6⟩
      | next => obtain ⟨σ6, H6, S6, q6⟩ := hsp; exact gone_ok (S6.unsuite ok.ok) hN hi hl fun s7 J7 => ⟨_, _, J7, q6⟩
      | brk => obtain ⟨σ6, H6, S6, q6⟩ := hsp; exact gone_ok (S6.unsuite ok.ok) hN hi hl fun s7 J7 => ⟨_, _, J7, q6⟩
      | cont => obtain ⟨σ6, H6, S6, q6⟩ := hsp; exact gone_ok (S6.unsuite ok.ok) hN hi hl fun s7 J7 => ⟨_, _, J7, q6⟩
theorem ps_tryC {body : List Stmt} {h₀ : ExceptHandler} {hds : List ExceptHandler} {l : List Cls1} {pos : Pos} {tb : WX → TS} (hs : X.stack = X.env :: X.outer) (hf : X.env.frame = some X.env.locals) (hN : X.N.Nodup) (tk : Takes X W)
    (hb : ∀ (W : WX) (pn : List (Addr × Obj)) (xe : Value → Shared → Prop), Takes (X.tr pn xe) W → PassesOwn (model X.prog X.w) X.A X.env xe → PSs (X.tr pn xe) body (tb W))
    (hh : Clauses X (h₀ :: hds) l) : PS X (.Try body (h₀ :: hds) [] [] pos) (fun D σ H => tb (wClauses X.K W D l) D σ H) := by
  refine ⟨fun pins s σ H D I h => ?_⟩
  refine wpAny_Try_except (wpAny_mono ((hb (wClauses X.K W D l) (X.pn ++ pins) (fun e z => wpAny (model X.prog X.w) X.A (noteFrame e X.env) (fun _ z2 => wpAny (model X.prog X.w) X.A (setFlight e none) (fun _ z3 =>
    wpAny (model X.prog X.w) X.A (handleBy e X.env (h₀ :: hds)) (SP X pins D) X.xe z3) X.xe z2) X.xe z) ?_ PassesOwn.looking).run [] s σ H D (I.toTry _) h) ?_ fun _ _ he => he)
  · rintro u s' ⟨a, B, sI, pins', σ', H', cls, d, rfl, J', nb, up, sky, na, os, ag, w⟩
    have sky' : Sky B (X.env :: X.outer) a (Zc cls d) X.env.locals s'.heap := by rw [← hs]; exact sky
    have fr : X.A.frames = some (X.env :: X.outer) := by rw [I.ok.frames, hs]
    refine Sky.land Zc.steady fr hf sky' fun h3 f3 u3 => ?_
    exact Held.clauses hs hf hN tk I (Held.mk (s := { s' with heap := h3 }) (J'.ofTry I.ok) nb (up.trans u3) na os ag f3) hh w
  · intro f s1 hsp
    cases f with
    | ret u => obtain ⟨v, σ', H', J', r, q⟩ := hsp; exact ⟨v, σ', H', J'.ofTry I.ok, r, q⟩
    | next => obtain ⟨σ', H', J', q⟩ := hsp; exact wpAny_execs_nil ⟨σ', H', J'.ofTry I.ok, q⟩
    | brk => obtain ⟨σ', H', J', q⟩ := hsp; exact ⟨σ', H', J'.ofTry I.ok, q⟩
    | cont => obtain ⟨σ', H', J', q⟩ := hsp; exact ⟨σ', H', J'.ofTry I.ok, q⟩
end
end NC
namespace NC
open PySem PySem.Spec PyProof.Rows L2
section
variable {K : PySem.W.Frag} {W : WX} {D : Ends} {q : Cls1} {r : List Cls1} {cls : Value} {d : Option Addr} {σ : L2.St} {H : Hp}
/-- the first clause takes the error -/
theorem wc_yes (e : PySem.W.exmOne K cls q.c = some true) (h : ∀ a, H a = none → q.ts a cls d (unSlot D q.slot) (inSlot a σ q.slot) H) : wClauses K W D (q :: r) cls d σ H :=
  ⟨true, e, fun _ => h, fun z => Bool.noConfusion z⟩
/-- the first clause lets it by -/
theorem wc_no (e : PySem.W.exmOne K cls q.c = some false) (h : wClauses K W D r cls d σ H) : wClauses K W D (q :: r) cls d σ H :=
  ⟨false, e, fun z => Bool.noConfusion z, fun _ => h⟩
theorem wc_nil (h : W cls d σ H) : wClauses K W D [] cls d σ H := h
end
end NC
namespace NC
open PySem PySem.Spec PyProof.Rows L2
/-! ### xs[::-1] -/
theorem pe_revLK {X : Cx} (K : PySem.W.Frag) {e : Expr} {te : TE} {k : Nat} {p1 p2 p3 pos : Pos} (he : PE X e te) (hK : X.K = K := by rfl) : PE X (.Subscript e (.Slice none none (some (.UnaryOp .USub (.Constant (.int 1) k p1) p2)) p3) pos) (tRevL K te) := by
  subst hK
  exact pe_revL he
section
variable {K : PySem.W.Frag} {σ : L2.St} {H : Hp} {Q : VK} {te : TE} {a : Addr} {xs : List V}
theorem rd_revL (h : te σ H fun x H1 => ∃ a xs, x = .ref a ∧ SqL K H1 a xs ∧ ∀ p, H1 p = none → Q (.ref p) (upd H1 p (.lst xs.reverse))) : tRevL K te σ H Q := h
theorem rd_revD (hq : SqL K H a xs) (h : ∀ p H', NewO H p (.lst xs.reverse) H' → Q (.ref p) H') : ∃ b ys, V.ref a = .ref b ∧ SqL K H b ys ∧ ∀ p, H p = none → Q (.ref p) (upd H p (.lst ys.reverse)) := ⟨a, xs, rfl, hq, fun p hp => h p _ (newO hp)⟩
end
end NC
namespace NC
open PySem PySem.Spec PyProof.Rows L2
/-- whether «except S» takes an error of the class cls -/
theorem exm_oth {K : PySem.W.Frag} {S : Addr} {cls : Value} {b : Bool} (h1 : PySem.W.subIn K (.ref S) (.type "BaseException") = some true) (h2 : PySem.W.isClsIn K S = true) (h3 : PySem.W.typeIn K (.ref S) = some (.type "type")) (h4 : PySem.W.subIn K cls (.ref S) = some b) :
    PySem.W.exmOne K cls (.ref S) = some b := by
  have h2' : (PySem.W.clsIn K S).isSome = true := h2
  have e1 : (PySem.W.subIn K (.ref S) (.type "BaseException") == some true) = true := by rw [h1] <;> rfl
  have e2 : ((PySem.W.clsIn K S).isSome && PySem.W.typeIn K (.ref S) == some (.type "type")) = true := by rw [h2', h3] <;> rfl
  show (if (PySem.W.subIn K (.ref S) (.type "BaseException") == some true) = true then (if ((PySem.W.clsIn K S).isSome && PySem.W.typeIn K (.ref S) == some (.type "type")) = true then PySem.W.subIn K cls (.ref S) else none) else none) = some b
  rw [if_pos e1, if_pos e2]
  exact h4
/-- the classes of several clauses, each of which takes its own errors and no others of the list -/
def Aparts (K : PySem.W.Frag) (cs : List Addr) : Prop := ∀ (i j : Nat) (C D : Addr), cs[i]? = some C → cs[j]? = some D → PySem.W.exmOne K (.ref C) (.ref D) = some (decide (i = j))
end NC
namespace NC
open PySem PySem.Spec PyProof.Rows L2
section
variable {K : PySem.W.Frag} {W : WX} {D : Ends} {c : Value} {i : Nat} {ts : Addr → Value → Option Addr → TS} {r : List Cls1} {cls : Value} {d : Option Addr} {σ : L2.St} {H : Hp}
theorem wc_yesN (e : PySem.W.exmOne K cls c = some true)
    (h : ∀ a, H a = none → ts a cls d { nx := fun σ' H' => D.nx (σ'.set i none) H', rt := D.rt, bk := fun σ' H' => D.bk (σ'.set i none) H', ct := fun σ' H' => D.ct (σ'.set i none) H' } (σ.set i (some (.ref a))) H) : wClauses K W D (⟨c, some i, ts⟩ :: r) cls d σ H := wc_yes e h
theorem wc_yesB (e : PySem.W.exmOne K cls c = some true) (h : ∀ a, H a = none → ts a cls d D σ H) : wClauses K W D (⟨c, none, ts⟩ :: r) cls d σ H := wc_yes e h
end
end NC
namespace NC
open PySem PySem.Spec PyProof.Rows L2
/-! ### an int among ints -/
theorem op_inSK {X : Cx} (K : PySem.W.Frag) (hK : X.K = K := by rfl) : OpR X (compareOp .In) (rIn K false) := by
  subst hK
  exact op_in_seq
theorem op_notInSK {X : Cx} (K : PySem.W.Frag) (hK : X.K = K := by rfl) : OpR X (compareOp .NotIn) (rIn K true) := by
  subst hK
  exact op_notIn_seq
theorem inV_ints (i : Int) (ns : List Int) : inV (.int i) (ns.map V.int) = decide (i ∈ ns) := by
  unfold inV
  rw [List.any_map]
  rw [Bool.eq_iff_iff]
  simp only [List.any_eq_true, Function.comp_apply, decide_eq_true_eq]
  constructor
  · rintro ⟨x, hx, e⟩
    have : x = i := by simpa [eqV] using e
    exact this ▸ hx
  · intro h
    exact ⟨i, h, by simp [eqV]⟩
theorem flat_ints (ns : List Int) : (ns.map V.int).all flatV = true := by
  rw [List.all_map, List.all_eq_true]
  intro x _
  rfl
theorem rd_inI {K : PySem.W.Frag} {H : Hp} {Q : VK} {p : Addr} {i : Int} {ns : List Int} (hq : SqL K H p (ns.map V.int)) (h : Q (.bl (decide (i ∈ ns))) H) : rIn K false (.int i) (.ref p) H Q :=
  ⟨p, _, rfl, .inl hq, rfl, flat_ints ns, by rw [if_neg (by decide), inV_ints]; exact h⟩
theorem rd_notInI {K : PySem.W.Frag} {H : Hp} {Q : VK} {p : Addr} {i : Int} {ns : List Int} (hq : SqL K H p (ns.map V.int)) (h : Q (.bl (!decide (i ∈ ns))) H) : rIn K true (.int i) (.ref p) H Q :=
  ⟨p, _, rfl, .inl hq, rfl, flat_ints ns, by rw [if_pos rfl, inV_ints]; exact h⟩
end NC

namespace NC
open PySem PySem.Spec PyProof.Rows L2
/-! ### a def that makes lambdas: its code object is told -/
structure FunC (K : PySem.W.Frag) (x qual : Str) (st : Stmt) (f : Addr) (fd : FuncData) (c : Addr) : Prop where
  ex : ∃ (oc : Value) (od : Option Addr) (kV doc pm : Value) (an : Option Addr) (ct : Value) (osl : Array (Option Value)),
    fd = PySem.W.fnOf x qual (defArgs st) (defBody st) (defScope st) .none kV doc pm an (.ref c) ct ∧ K.lookup f = some ⟨oc, od, .func (PySem.W.fnOf x qual (defArgs st) (defBody st) (defScope st) .none kV doc pm an (.ref c) ct), osl⟩ ∧ PySem.W.codeIn K (.ref c) qual = true
  kp : PySem.W.keepIn K (.ref f) = true
section
variable {P : Program} {w : World} {K : PySem.W.Frag} {mg : Str → Option Value} {base : Heap}
theorem okGc {x qual : Str} {st : Stmt} {f c : Addr} {fd : FuncData} {N ps : List Str} {k : Nat} {sp : Sp} (F : FunC K x qual st f fd c) (S : FnScope N ps (defScope st)) (len : ∀ vs H Q E, sp vs H Q E → vs.length = ps.length)
    (hbody : ∀ (A : Around) (outer : List Env) (s : Shared) (H : Hp) (vs : List V) (Q : VK) (E : XK), Room k (A.deeper (envOfC qual (defScope st) s.heap.objs.size f (.ref c))) → A.guards = some [] → sp vs H Q E →
      ∃ t, PSs (cxOf CX0 P w K mg base N qual (defScope st) f (.ref c) A outer s H E).nox (defBody st) t ∧ t { nx := fun _ H' => Q .non H', rt := Q } (start N vs) H) : FnOkG P w K mg base CX0 (k + 1) f fd ps sp := by
  obtain ⟨oc, od, kV, doc, pm, an, ct, osl, rfl, lk, hcd⟩ := F.ex
  refine fn_ofG lk hcd S len fun A outer s H vs Q E hr hgd hsp => ?_
  obtain ⟨t, h, q⟩ := hbody A outer s H vs Q E hr hgd hsp
  exact ⟨t, h.nox, q⟩
end
end NC

namespace NC
open PySem PySem.Spec PyProof.Rows L2 LamX PySem.Calls
/-! ### sorted by a key that a lambda gives -/
/-- the order of the pairs (f x, x) -/
def keyLe (f : Int → Int) (x y : Int) : Bool := decide (f x < f y ∨ (f x = f y ∧ x ≤ y))
def keyOrd (f : Int → Int) (ns : List Int) : List Int := ns.mergeSort (keyLe f)
theorem keyOrd_perm (f : Int → Int) (ns : List Int) : (keyOrd f ns).Perm ns := List.mergeSort_perm ..
theorem keyOrd_pw (f : Int → Int) (ns : List Int) : (keyOrd f ns).Pairwise fun x y => f x < f y ∨ (f x = f y ∧ x ≤ y) :=
  (List.pairwise_mergeSort (le := keyLe f) (fun a b c h1 h2 => by simp only [keyLe, decide_eq_true_eq] at *; omega) (fun a b => by simp only [keyLe, Bool.or_eq_true, decide_eq_true_eq]; omega) ns).imp fun h => by simpa [keyLe] using h
abbrev kArgs (y : Str) (yp : Pos) : Arguments := { posonlyargs := [], args := [{ arg := y, annotation := none, pos := yp }], vararg := none, kwonlyargs := [], kw_defaults := [], kwarg := none, defaults := [] }
abbrev kScope (y z : Str) : Scope := { kind := .function, names := [(y, .local), (z, .free)], isGenerator := false, isCoroutine := false, more := [] }
abbrev kBody (y z : Str) (p1 p2 p3 p4 p5 : Pos) : Expr := .Tuple [.Subscript (.Name z p1) (.Name y p2) p3, .Name y p4] 0 p5
section
variable {prog : Program} {w : World} {A : Around} {s : Shared} {f c' cT q : Addr} {its : Array Value} {i x : Int} {t tx : Tok} {y z qn : Str} {yp p1 p2 p3 p4 p5 : Pos} {clos : List (Str × Addr)} {pm ctv : Value}
theorem key_call (hf : s.heap.get? f = some (PySem.W.kla_obj "<lambda>" qn (kArgs y yp) (kBody y z p1 p2 p3 p4 p5) (kScope y z) clos pm c' ctv))
    (hbind : ∀ v : Value, bindArgs (PySem.W.kla_fn "<lambda>" qn (kArgs y yp) (kBody y z p1 p2 p3 p4 p5) (kScope y z) clos pm (.ref c') ctv) ⟨[v], []⟩ = pure [(y, v)])
    (hcode : ∃ (oc : Obj) (vs : Array Value) (t : Tok), s.heap.get? c' = some oc ∧ oc.data = .fields vs ∧ vs[1]? = some (.str qn t))
    (hl : s.heap.NoLimit) (hcl : clos.lookup z = some cT) (hc : s.heap.IsCell cT (some (.ref q))) (hq : IsTup s.heap q its) (hx : its[i.toNat]? = some (.int x tx)) (h0 : 0 ≤ i) (hz : its.size ≤ sizeLine) (hd : A.depth < recursionLimit)
    (hyz : (z == y) = false) (hy : (y == ("__debug__" : Str)) = false) (hzd : (z == ("__debug__" : Str)) = false) (hzc : (z == ("__classdict__" : Str)) = false) :
    wpAny (model prog w) A (call (.ref f) [.int i t]) (PySem.W.KeyPure (.tuple [.int x, .int i]) s) (fun _ _ => False) s := by
  obtain ⟨oc, vs, tc, hoc, hdc, hvc⟩ := hcode
  refine wpAny_call (PySem.W.kla_callFunE hd hf rfl rfl rfl rfl ⟨c', oc, vs, tc, rfl, hoc, hdc, hvc⟩ ?_)
  rw [hbind]
  refine wpAny_pure (wpAny_newFunctionEnv (fun u hu => ?_) (fun u hu => ?_) (fun h₁ hns hsb => ⟨hl.fresh _ hsb, ?_⟩) rfl)
  · simp only [List.mem_cons, List.not_mem_nil, or_false] at hu
    rcases hu with rfl | rfl <;> simp
  · simp only [List.mem_cons, List.not_mem_nil, or_false] at hu
    subst hu
    simp [kScope]
  have kp : ∀ b o, s.heap.get? b = some o → h₁.get? b = some o := fun b o e => hsb.extBut b o (Nat.ne_of_lt (Heap.lt_size e)) (Heap.get?_push_of_some _ e)
  have hns' : h₁.Ns s.heap.objs.size (fun x => if x = y then some (.int i t) else none) := by
    refine cast (congrArg _ (funext fun u => ?_)) hns
    show [(y, Value.int i t)].lookup u = _
    rw [List.lookup_cons]
    by_cases h : u = y
    · rw [if_pos h, h]
      simp
    · rw [if_neg h]
      have : (u == y) = false := by simpa using h
      rw [this]
      rfl
  obtain ⟨oc2, ho2, hd2⟩ := hc
  obtain ⟨oq, hoq, hcq, nq, hdq⟩ := hq
  have lkY : ((kScope y z).names.lookup y) = some .local := by simp [kScope]
  have lkZ : ((kScope y z).names.lookup z) = some .free := by
    show List.lookup z [(y, NameKind.local), (z, NameKind.free)] = _
    rw [List.lookup_cons, hyz]
    simp
  refine PySem.W.kla_codeExpr ?_
  refine wpAny_Tuple_spliced ?_
  refine args_cons ?_
  refine Subscript_Name (wpAny_Name (wpAny_loadName_free rfl lkZ hcl ⟨oc2, kp _ _ ho2, hd2⟩ ?_ hzc) hzd)
  refine wpAny_Name (wpAny_loadName_local rfl lkY hns' (if_pos rfl) ?_) hy
  have line := line63
  have hsz : i.toNat < its.size := (Array.getElem?_eq_some_iff.mp hx).1
  have tq : IsTup h₁ q its := ⟨oq, kp _ _ hoq, hcq, nq, hdq⟩
  refine ⟨"tuple", _, slot_tuple_getitem.lookup, tq.typeIs, ?_⟩
  have hx2 : its.toList[i.toNat]? = some (.int x tx) := by rw [Array.getElem?_toList]; exact hx
  obtain ⟨j, j1, j2, j3, _, _⟩ := atI_get (atI_nat hx2)
  rw [show ((i.toNat : Nat) : Int) = i by omega, Array.length_toList] at j1
  rw [Array.getElem?_toList] at j2
  refine getItem_tuple (j := j) tq (by omega) (by omega) j1 j2 ?_
  refine args_cons ?_
  refine wpAny_Name (wpAny_loadName_local rfl lkY hns' (if_pos rfl) ?_) hy
  refine args_nil ?_
  refine ⟨by show 2 ≤ sizeLine; decide, ?_⟩
  refine ⟨_, _, rfl, fun b o e => Heap.get?_push_of_some _ (kp b o e), ?_⟩
  refine .tuple (Heap.get?_push_size _ rfl) rfl rfl ?_
  exact .cons (.int _ _) (.cons (.int _ _) .nil)
end
/-- sorted(e, key=lambda y: (t[y], y)): the tuple t in the slot it -/
def tSortKey (T : List (Addr × Str)) (K : PySem.W.Frag) (it : Nat) (te : TE) : TE := fun σ H Q => te σ H fun x H1 => LamX.Tabs T H1 ∧ ∃ (a q : Addr) (ns ts : List Int), x = .ref a ∧ SqL K H1 a (ns.map V.int) ∧ σ[it]? = some (some (.ref q)) ∧ SqT K H1 q (ts.map V.int) ∧
  (∀ i ∈ ns, 0 ≤ i ∧ i.toNat < ts.length) ∧ ∀ (p : Addr) (H' : Hp), Sm T H1 H' → Fr H1 p → H' p = some (.lst ((keyOrd (fun i => ts.getD i.toNat 0) ns).map V.int)) → Q (.ref p) H'
theorem each_ints : ∀ {ns : List Int} {vs : List Value}, Vals (ns.map V.int) vs → PySem.W.EachIs (fun v (x : Int) => ∃ t, v = Value.int x t) vs ns
  | [], _, .nil => .nil
  | _ :: _, _, .cons h t => .cons h (each_ints t)
theorem ints_each : ∀ {ns : List Int} {vs : List Value}, PySem.W.EachIs (fun v (x : Int) => ∃ t, v = Value.int x t) vs ns → Vals (ns.map V.int) vs
  | [], _, .nil => .nil
  | _ :: _, _, .cons h t => .cons h (ints_each t)
theorem pe_sortKey {X : Cx} (K : PySem.W.Frag) {T : List (Addr × Str)} {it k : Nat} {y z : Str} {e : Expr} {te : TE} {c P : Addr} {yp p1 p2 p3 p4 p5 p lpos kpos pos : Pos} (hK : X.K = K) (hg : Gl X "sorted") (hm : X.mg "sorted" = none) (ha : PE X e te) (hr : Room k X.A)
    (TB : TabB X.base X.mg c P) (hcode : X.env.code = .ref c) (hmT : (P, X.env.qual ++ "<lambda>") ∈ T) (hu : ∀ p ∈ T, p.1 = P → p.2 = X.env.qual ++ "<lambda>")
    (hN : X.N[it]? = some z) (hv : X.env.scope.names.lookup z = some .cell)
    (hdef : defaultsOf (kArgs y yp) X.env = ([], []) := by rfl)
    (hbind : ∀ (q : Str) (cl : List (Str × Addr)) (pm cv ctv v : Value), bindArgs (PySem.W.kla_fn "<lambda>" q (kArgs y yp) (kBody y z p1 p2 p3 p4 p5) (kScope y z) cl pm cv ctv) ⟨[v], []⟩ = pure [(y, v)] := by intros; rfl)
    (he : starEach [e] X.env = (false, eval e X.env) :: starEach [] X.env := by rfl)
    (hyz : (z == y) = false := by decide) (hy : (y == ("__debug__" : Str)) = false := by decide) (hzd : (z == ("__debug__" : Str)) = false := by decide) (hzc : (z == ("__classdict__" : Str)) = false := by decide) :
    PE X (.Call (.Name "sorted" p) [e] [⟨some "key", .Lambda (kArgs y yp) (kBody y z p1 p2 p3 p4 p5) (kScope y z) lpos, kpos⟩] pos) (tSortKey T K it te) := by
  subst hK
  refine ⟨fun pins s σ H Q I h => ?_⟩
  refine wpAny_Call_Name_kw (ld_blt I hg hm PyProof.Rows.boot_sorted ?_)
  refine PyProof.Rows.callWith_kw (args_cons (thn (ha.run pins s σ H _ I h) fun u s1 ⟨x, H1, I1, r1, hT, a, q, ns, ts, ex, hq, hsl, hqt, hin, hQ⟩ => args_nil ?_) he) (by rw [he] <;> rfl) (by rw [he] <;> rfl) rfl rfl
  subst ex
  cases r1
  have hfree : ∀ y' ∈ (kScope y z).names, y'.2 = .free → ∃ c, X.env.cells.lookup y'.1 = some c := fun y' hy' e => by
    simp only [List.mem_cons, List.not_mem_nil, or_false] at hy'
    rcases hy' with rfl | rfl
    · cases e
    · exact I1.ok.has _ (.inl hv)
  refine kws_cons (lam_make2 I1 TB hcode hmT hu hT hdef hfree fun f c' pm' ctv H2 s2 I2 eN T2 hf hfn hfr hco => kws_nil ?_)
  have sm : Sm T H1 H2 := ⟨eN, fun _ => T2⟩
  obtain ⟨its, rv, pl, hz⟩ := I2.list (sm.sqL hq)
  obtain ⟨tts, rt, pt, hzt⟩ := I2.tuple (sm.sqT hqt)
  obtain ⟨m, hns, hloc⟩ := I2.loc
  obtain ⟨uq, ruq, hlook⟩ := hloc it z _ hN hsl (.inr (.inl hv))
  cases ruq
  obtain ⟨cT, hcT, hcell⟩ : ∃ c, X.env.cells.lookup z = some c ∧ s2.heap.IsCell c (some (.ref q)) := by
    rcases hlook with ⟨hk, _⟩ | ⟨_, c3, h1, h2⟩
    · have hk : X.env.scope.names.lookup z = some .local := hk
      rw [hv] at hk
      cases hk
    · exact ⟨c3, h1, h2⟩
  have hclo : (cloFrom X.env.cells (kScope y z).names []).lookup z = some cT := by
    show (cloFrom X.env.cells [(y, .local), (z, .free)] []).lookup z = some cT
    simp [cloFrom, hcT]
  obtain ⟨⟨oc, vs, tc, hoc, hdc, hvc⟩, _, _⟩ := I2.hok c' _ hco
  have line := line63
  have hnl : ns.length ≤ sizeLine := by
    have := hz
    rw [List.length_map] at this
    exact this
  have hun := hr.un
  have hkd : ∀ x : Int, (PyData.tuple [.int (ts.getD x.toNat 0), .int x]).depth = 1 := fun x => by simp [PyData.depth, PyData.depthAll]
  have hsz0 : (([] : List Str).length) = 0 := rfl
  refine PySem.W.sorted_key_data (b := false) (R := fun v (x : Int) => ∃ t, v = Value.int x t) (fun x : Int => PyData.tuple [.int (ts.getD x.toNat 0), .int x]) (vs := its) pl.isList (each_ints rv) (PySem.W.AllAlike.of fun _ _ => by simp [PySem.W.alike, PySem.W.alikeAll]) (PySem.W.Sortable.tuples fun _ => ⟨_, _, rfl⟩) hnl
    (fun x _ => by rw [hkd]; omega) (ksk_s1 _ _) (fun _ => ksk_l1 _ _) (fun _ => ksk_t1 _ _) (fun v x hR hx h tk kp => ?_) fun out c3 h' tk kp hno hD _ eo => ?_
  · obtain ⟨t, rfl⟩ := hR
    obtain ⟨h0, h1⟩ := hin x hx
    obtain ⟨tx, htx⟩ : ∃ tx, tts.toArray[x.toNat]? = some (.int (ts.getD x.toNat 0) tx) := by
      have g := rt.get (i := x.toNat) (x := .int (ts.getD x.toNat 0)) (by rw [List.getElem?_map, List.getElem?_eq_getElem h1]; simp [h1])
      obtain ⟨u, e1, tx, e2⟩ := g
      exact ⟨tx, by simpa [e2] using e1⟩
    obtain ⟨oq, hoq, hcq, nq, hdq⟩ := pt
    obtain ⟨o2, ho2, hd2⟩ := hcell
    exact key_call (s := { s2 with heap := h, toks := tk }) (cT := cT) (q := q) (its := tts.toArray) (kp _ _ hf) (fun v => hbind _ _ _ _ _ _) ⟨oc, vs, tc, kp _ _ hoc, hdc, hvc⟩ (I2.nolimit.keeps kp) hclo ⟨o2, kp _ _ ho2, hd2⟩ ⟨oq, kp _ _ hoq, hcq, nq, hdq⟩ htx h0
      (by rw [List.size_toArray, ← rt.length]; exact hzt) hr.depth hyz hy hzd hzc
  · rw [show PySem.W.dataLe false (fun x : Int => PyData.tuple [.int (ts.getD x.toNat 0), .int x]) = keyLe (fun x => ts.getD x.toNat 0) from PySem.W.dataLe_ii (fun x => ts.getD x.toNat 0) (fun x => x)] at eo
    have rv2 := ints_each eo
    have nw : H2 (s2.heap.objs.size + 1) = none := I2.hok.fresh (Nat.le_succ _)
    refine ⟨.ref (s2.heap.objs.size + 1), upd H2 (s2.heap.objs.size + 1) (.lst ((keyOrd (fun i => ts.getD i.toNat 0) ns).map V.int)), I2.laid (t' := tk) kp (Nat.le_succ _) ⟨?_, out, c3, rv2, hD⟩, rfl, ?_⟩
    · rw [List.length_map, (keyOrd_perm _ ns).length_eq]
      exact hnl
    · refine hQ _ _ (sm.trans (Sm.of fun b o e => by rw [upd_ne (ne_of_none e nw)]; exact e)) (fun u hu => ?_) upd_same
      by_cases ht : ∃ ps, u = .tbl ps
      · exact ht
      · have := eN _ u hu (fun ps z => ht ⟨ps, z⟩)
        rw [nw] at this
        cases this
end NC

namespace NC
open PySem PySem.Spec PyProof.Rows L2
section
variable {K : PySem.W.Frag} {a : Addr} {xs : List V}
/-- enumerate(xs), while I holds -/
theorem wki_enum : WkI (Ite K a) xs.length (fun i v H => ∃ t x, v = .ref t ∧ H t = some (.tup [.int (i : Int), x]) ∧ xs[i]? = some x) (fun H => SqL K H a xs) where
  go := fun i H s hi => ⟨xs, xs[i], s, by simp [hi]⟩
  yld := fun i H v H' s _ y => by
    obtain ⟨t, x, e, n, eH, hx⟩ := y
    subst eH
    exact ⟨same_new n, t, x, e, upd_same, hx xs s⟩
  stop := fun H s => ⟨xs, s, Nat.le_refl _⟩
end
theorem ixN_m1 {n : Nat} (h : 0 < n) : ixN n (-1) = some (n - 1) := by
  unfold ixN
  rw [if_neg (by omega), if_pos (by omega)]
  congr 1
  omega
/-- xs[-1] -/
theorem atI_m1 {α : Type} {xs : List α} {v : α} (h : xs[xs.length - 1]? = some v) : atI xs (-1) = some v := by
  have h0 : 0 < xs.length := by
    have := (List.getElem?_eq_some_iff.mp h).1
    omega
  unfold atI
  rw [ixN_m1 h0]
  exact h
theorem eqv_lints {a b : List Int} : PyData.eqv (.list (a.map PyData.int)) (.list (b.map PyData.int)) = decide (a = b) := by
  show PyData.eqvAll _ _ = _
  exact eqv_ints
/-- how many places of a list hold what p wants -/
theorem range_count (p : Int → Bool) (xs : List Int) : ((List.range xs.length).filter fun i => p (xs.getD i 0)).length = xs.countP p := by
  have e : xs = (List.range xs.length).map fun i => xs.getD i 0 := by
    refine List.ext_getElem? fun i => ?_
    rw [List.getElem?_map]
    by_cases h : i < xs.length
    · rw [List.getElem?_range h]
      simp [h]
    · rw [List.getElem?_eq_none (by omega), List.getElem?_eq_none (by simpa using h)]
      rfl
  conv => rhs; rw [e]
  rw [List.countP_map, List.countP_eq_length_filter]
  rfl
/-- a write that leaves the rows alone -/
theorem RowsP.keep {H H' : Hp} {ps : List Addr} {rows : List (List Int)} {p : Addr} (h : RowsP H ps rows) (n : p ∉ ps) (k : ∀ b, b ≠ p → H' b = H b) : RowsP H' ps rows :=
  Paired.mapP (RowsP.put.paired_in h) fun a b z => by rw [k a (fun c => n (c ▸ z.2))]; exact z.1
theorem nbr_permM {ks es : List Lk} (h : ks.Perm es) (v : Int) : (nbr ks v).Perm (nbr es v) := h.filterMap _
/-! ### a def that makes lambdas, by its name -/
structure DefAtC (K : PySem.W.Frag) (mg : Str → Option Value) (x : Str) (st : Stmt) (c : Addr) : Prop where
  ex : ∃ (f : Addr) (fd : FuncData), FunC K x x st f fd c ∧ mg x = some (.ref f)
section
variable {P : Program} {w : World} {K : PySem.W.Frag} {mg : Str → Option Value} {base : Heap} {x qual : Str} {st : Stmt} {f c : Addr} {fd : FuncData} {N ps : List Str} {k : Nat} {sp : Sp} {CX : CXT}
theorem FunC.binds (F : FunC K x qual st f fd c)
    (h : ∀ (kV doc pm : Value) (an : Option Addr) (cdv ct : Value) (us : List Value), us.length = ps.length → bindArgs (PySem.W.fnOf x qual (defArgs st) (defBody st) (defScope st) .none kV doc pm an cdv ct) ⟨us, []⟩ = pure (ps.zip us)) : Binds K fd ps [] := by
  obtain ⟨oc, od, kV, doc, pm, an, ct, osl, rfl, lk, hcd⟩ := F.ex
  exact .all (h kV doc pm an (.ref c) ct)
theorem funC_mk {oc : Value} {od an : Option Addr} {osl : Array (Option Value)} {kV doc pm ct : Value} (l : K.lookup f = some ⟨oc, od, .func (PySem.W.fnOf x qual (defArgs st) (defBody st) (defScope st) .none kV doc pm an (.ref c) ct), osl⟩)
    (h : PySem.W.codeIn K (.ref c) qual = true) (k : PySem.W.keepIn K (.ref f) = true) : FunC K x qual st f (PySem.W.fnOf x qual (defArgs st) (defBody st) (defScope st) .none kV doc pm an (.ref c) ct) c := ⟨⟨oc, od, kV, doc, pm, an, ct, osl, rfl, l, h⟩, k⟩
theorem FunC.ok (F : FunC K x qual st f fd c) (S : FnScope N ps (defScope st)) (len : ∀ vs H Q E, sp vs H Q E → vs.length = ps.length)
    (hbody : ∀ (A : Around) (outer : List Env) (s : Shared) (H : Hp) (vs : List V) (Q : VK) (E : XK), Room k (A.deeper (envOfC qual (defScope st) s.heap.objs.size f (.ref c))) → sp vs H Q E →
      ∃ t, PSs (cxOf CX0 P w K mg base N qual (defScope st) f (.ref c) A outer s H E).nox (defBody st) t ∧ t { nx := fun _ H' => Q .non H', rt := Q } (start N vs) H) : FnOk P w K mg base CX0 (k + 1) f fd ps sp := by
  obtain ⟨oc, od, kV, doc, pm, an, ct, osl, rfl, lk, hcd⟩ := F.ex
  refine fn_of lk hcd S len fun A outer s H vs Q E hr hsp => ?_
  obtain ⟨t, h, q⟩ := hbody A outer s H vs Q E hr hsp
  exact ⟨t, h.nox, q⟩
theorem FunC.okX (F : FunC K x qual st f fd c) (S : FnScope N ps (defScope st)) (len : ∀ vs H Q E, sp vs H Q E → vs.length = ps.length)
    (hbody : ∀ (A : Around) (outer : List Env) (s : Shared) (H : Hp) (vs : List V) (Q : VK) (E : XK), Room k (A.deeper (envOfC qual (defScope st) s.heap.objs.size f (.ref c))) → sp vs H Q E →
      ∃ t, PSs (cxOf (L2.CX P w) P w K mg base N qual (defScope st) f (.ref c) A outer s H E) (defBody st) t ∧ t { nx := fun _ H' => Q .non H', rt := Q } (start N vs) H) : FnOk P w K mg base (L2.CX P w) (k + 1) f fd ps sp := by
  obtain ⟨oc, od, kV, doc, pm, an, ct, osl, rfl, lk, hcd⟩ := F.ex
  exact fn_of lk hcd S len fun A outer s H vs Q E hr hsp => hbody A outer s H vs Q E hr hsp
theorem DefAtC.cal (D : DefAtC K mg x st c)
    (hb : ∀ (kV doc pm : Value) (an : Option Addr) (cdv ct : Value) (us : List Value), us.length = ps.length → bindArgs (PySem.W.fnOf x x (defArgs st) (defBody st) (defScope st) .none kV doc pm an cdv ct) ⟨us, []⟩ = pure (ps.zip us))
    (h : ∀ (f : Addr) (fd : FuncData), FunC K x x st f fd c → FnOk P w K mg base CX k f fd ps sp) : Cal P w K mg base CX k x sp := by
  obtain ⟨f, fd, F, hm⟩ := D.ex
  exact ⟨f, fd, ps, h f fd F, hm, F.kp, F.binds hb⟩
end
/-- a raise of an own error with one field -/
def RaisesV (Z : List (Addr × Str)) (E : XK) (CN : Addr) (f : Str) (H : Hp) (v : V) : Prop := ∀ d H', Sm Z H H' → H' d = some (.xd [(f, v)]) → E (.ref CN) (some d) H'
section
variable {K : PySem.W.Frag} {σ : L2.St} {H : Hp} {Q : VK} {te : TE} {T : List (Addr × Str)} {it : Nat}
theorem rd_sortKey (h : te σ H fun x H1 => LamX.Tabs T H1 ∧ ∃ (a q : Addr) (ns ts : List Int), x = .ref a ∧ SqL K H1 a (ns.map V.int) ∧ σ[it]? = some (some (.ref q)) ∧ SqT K H1 q (ts.map V.int) ∧
  (∀ i ∈ ns, 0 ≤ i ∧ i.toNat < ts.length) ∧ ∀ (p : Addr) (H' : Hp), Sm T H1 H' → Fr H1 p → H' p = some (.lst ((keyOrd (fun i => ts.getD i.toNat 0) ns).map V.int)) → Q (.ref p) H') : tSortKey T K it te σ H Q := h
theorem rd_keyD {a q : Addr} {ns ts : List Int} (hT : LamX.Tabs T H) (ha : SqL K H a (ns.map V.int)) (hs : σ[it]? = some (some (.ref q))) (hq : SqT K H q (ts.map V.int)) (hi : ∀ i ∈ ns, 0 ≤ i ∧ i.toNat < ts.length)
    (h : ∀ (p : Addr) (H' : Hp), Sm T H H' → Fr H p → H' p = some (.lst ((keyOrd (fun i => ts.getD i.toNat 0) ns).map V.int)) → Q (.ref p) H') :
    LamX.Tabs T H ∧ ∃ (a' q : Addr) (ns ts : List Int), V.ref a = .ref a' ∧ SqL K H a' (ns.map V.int) ∧ σ[it]? = some (some (.ref q)) ∧ SqT K H q (ts.map V.int) ∧
      (∀ i ∈ ns, 0 ≤ i ∧ i.toNat < ts.length) ∧ ∀ (p : Addr) (H' : Hp), Sm T H H' → Fr H p → H' p = some (.lst ((keyOrd (fun i => ts.getD i.toNat 0) ns).map V.int)) → Q (.ref p) H' := ⟨hT, a, q, ns, ts, rfl, ha, hs, hq, hi, h⟩
end
/-! ### a method of a Network -/
theorem netFs_none {kp nr : Addr} {x : Str} (h1 : ¬ (("near" : Str) = x) := by decide +kernel) (h2 : ¬ (("kept" : Str) = x) := by decide +kernel) (h3 : ¬ (x = "near") := by decide +kernel) (h4 : ¬ (x = "kept") := by decide +kernel) : (netFs kp nr).lookup x = none := by
  unfold netFs
  first
    | (rw [lookup_putF, if_neg h3, lookup_putF, if_neg h4]; rfl)
    | (rw [lookup_putF, if_neg h1, lookup_putF, if_neg h2]; rfl)
theorem rd_netM {C : Addr} {H : Hp} {p : Addr} {n : Nat} {ks : List Lk} {x : Str} {R : Addr → Prop} (hn : NetAt C H p n ks) (h : R p) (e : ∀ kp nr, (netFs kp nr).lookup x = none := by intro _ _; exact netFs_none) :
    ∃ a dx fs, V.ref p = .ref a ∧ H a = some (.ins C dx fs) ∧ List.lookup x fs = none ∧ R a := by
  obtain ⟨dx, kp, nr, h1, _, _⟩ := hn
  exact ⟨p, dx, _, rfl, h1, e _ _, h⟩
/-! ### the law's well, where tables of code objects stand -/
def spWellT (Z : List (Addr × Str)) : Sp := fun vs H Q _ => ∃ a : Addr, vs = [.ref a] ∧ H a = some (WellO a) ∧ LamX.Tabs Z H ∧ ∀ H', Sm Z H H' → Q (.bl true) H'
def spWell0T (Z : List (Addr × Str)) : Sp := fun vs H Q _ => ∃ (a : Addr) (x y z : Int), vs = [.ref a] ∧ H a = some (.lst [.int x, .int y, .int z]) ∧ LamX.Tabs Z H ∧ ∀ H', Sm Z (upd H a (WellO a)) H' → Q (.bl true) H'
theorem tabs_well {Z : List (Addr × Str)} {H : Hp} {a : Addr} {xs : List V} (ha : H a = some (.lst xs)) (t : LamX.Tabs Z H) : LamX.Tabs Z (upd H a (WellO a)) := tabs_at ha lst_no (fun b hb => upd_ne hb) t
theorem spWellT_of {Z : List (Addr × Str)} (vs : List V) (H : Hp) (Q : VK) (E : XK) (h : spWell0T Z vs H Q E) : vs.length = 1 ∧ ∃ (a : Addr) (x y z : Int), H a = some (.lst [.int x, .int y, .int z]) ∧ spWellT Z vs (upd H a (WellO a)) (fun v H' => H' a = some (WellO a) ∧ Q v H') E := by
  obtain ⟨a, x, y, z, rfl, ha, t, k⟩ := h
  exact ⟨rfl, a, x, y, z, ha, a, rfl, upd_same, tabs_well ha t, fun H' s => ⟨s.well upd_same, k H' s⟩⟩
/-- the law: of any script, the tables empty -/
def spLawT (Z : List (Addr × Str)) (K : PySem.W.Frag) : Sp := fun vs H Q _ => ∃ (a : Addr) (ns : List Int), vs = [.ref a] ∧ SqX K H a (ns.map V.int) ∧ ns.length ≤ 1000 ∧ LamX.Tabs Z H ∧ ∀ H', Q (.bl true) H'
/-! ### len(set(xs)) -/
theorem pe_lenSetK {X : Cx} (K : PySem.W.Frag) {a : Expr} {ta : TE} {p p2 q pos : Pos} (hg : Gl X "len") (hm : X.mg "len" = none) (hg2 : Gl X "set") (hm2 : X.mg "set" = none) (ha : PE X a ta) (hc : X.calm = true := by rfl) (hK : X.K = K := by rfl)
    (na : starEach [a] X.env = (false, eval a X.env) :: starEach [] X.env := by rfl) : PE X (.Call (.Name "len" p) [.Call (.Name "set" p2) [a] [] q] [] pos) (RZ.tLenSetI K ta) := by
  subst hK
  exact RZ.pe_lenSetI hg hm hg2 hm2 ha hc na
theorem rd_lenSet {K : PySem.W.Frag} {σ : L2.St} {H : Hp} {Q : VK} {ta : TE} (h : ta σ H fun x H1 => ∃ (l : Addr) (ns : List Int), x = .ref l ∧ SqL K H1 l (ns.map V.int) ∧ ns.Nodup ∧ ns.length ≤ 4000 ∧ Q (.int (ns.length : Nat)) H1) : RZ.tLenSetI K ta σ H Q := h
/-! ### links: in another order, turned around -/
theorem paired_rev {α β : Type} {F : α → β → Prop} : ∀ {xs : List α} {es : List β}, Paired F xs es → Paired F xs.reverse es.reverse
  | _, _, .nil => .nil
  | _, _, .cons r t => by
    rw [List.reverse_cons, List.reverse_cons]
    exact paired_app (paired_rev t) (.cons r .nil)
theorem OkLks.perm {n : Nat} {es fs : List Lk} (p : fs.Perm es) (h : OkLks n es) : OkLks n fs := ⟨fun e m => h.1 e (p.mem_iff.mp m), p.nodup_iff.mpr h.2⟩
/-- the links in ascending order are told by which they are -/
theorem ks_uniq {ks ls : List Lk} (p : ks.Perm ls) (h1 : ks.Pairwise fun x y => SrtO.lexB y x = false) (h2 : ls.Pairwise fun x y => SrtO.lexB y x = false) : ks = ls := by
  refine List.Perm.eq_of_pairwise (le := fun x y => SrtO.lexB y x = false) (fun a b _ _ a1 a2 => ?_) h1 h2 p
  have n1 : ¬ (SrtO.lexB b a = true) := by rw [a1]; simp
  have n2 : ¬ (SrtO.lexB a b = true) := by rw [a2]; simp
  rw [SrtO.lexB_iff] at n1 n2
  have e1 : a.1 = b.1 := by omega
  have e2 : a.2 = b.2 := by omega
  exact Prod.ext e1 e2
theorem nbr_nodup {n : Nat} : ∀ {es : List Lk}, OkLks n es → ∀ v : Int, (nbr es v).Nodup
  | [], _, v => List.nodup_nil
  | e :: es, h, v => by
    have h' : OkLks n es := ⟨fun x m => h.1 x (List.mem_cons_of_mem _ m), (List.nodup_cons.mp h.2).2⟩
    have ih := nbr_nodup h' v
    have he := (List.nodup_cons.mp h.2).1
    have ok := h.1 e (List.mem_cons_self ..)
    have tail : nbr (e :: es) v = (if e.1 = v then [e.2] else if e.2 = v then [e.1] else []) ++ nbr es v := by
      show List.filterMap _ (e :: es) = _
      rw [List.filterMap_cons]
      by_cases c : e.1 = v
      · rw [if_pos c, if_pos c]
        rfl
      · rw [if_neg c, if_neg c]
        by_cases c2 : e.2 = v
        · rw [if_pos c2, if_pos c2]
          rfl
        · rw [if_neg c2, if_neg c2]
          rfl
    have no : ∀ u, u ∈ nbr es v → (e = (v, u) → False) ∧ (e = (u, v) → False) := fun u m => by
      have m2 := (nbr_mem.mp m).1
      constructor
      · rintro rfl
        rcases m2 with m2 | m2
        · exact he m2
        · have a := h.1 _ (List.mem_cons_of_mem (v, u) m2)
          obtain ⟨_, a2, _⟩ := a
          obtain ⟨_, b2, _⟩ := ok
          simp only at a2 b2
          omega
      · rintro rfl
        rcases m2 with m2 | m2
        · have a := h.1 _ (List.mem_cons_of_mem (u, v) m2)
          obtain ⟨_, a2, _⟩ := a
          obtain ⟨_, b2, _⟩ := ok
          simp only at a2 b2
          omega
        · exact he m2
    rw [tail]
    by_cases c : e.1 = v
    · rw [if_pos c]
      refine List.nodup_cons.mpr ⟨fun m => (no _ m).1 (Prod.ext c rfl), ih⟩
    · rw [if_neg c]
      by_cases c2 : e.2 = v
      · rw [if_pos c2]
        refine List.nodup_cons.mpr ⟨fun m => (no _ m).2 (Prod.ext rfl c2), ih⟩
      · rw [if_neg c2]
        exact ih
/-- the table of a code object -/
def tabOf (K : PySem.W.Frag) (c : Addr) : Option Addr := match K.lookup c with
  | some ⟨_, _, .fields vs, _⟩ => (match (vs[11]? : Option Value) with | some (.ref P) => some P | _ => none)
  | _ => none
theorem nbr_lt {n : Nat} {ks : List Lk} (ok : ∀ e ∈ ks, OkLk n e) (v u : Int) (h : u ∈ nbr ks v) : 0 ≤ u ∧ u < n := by
  rcases (nbr_mem.mp h).1 with m | m
  · obtain ⟨h1, h2, h3⟩ := ok _ m
    exact ⟨by omega, h3⟩
  · obtain ⟨h1, h2, h3⟩ := ok _ m
    exact ⟨h1, by omega⟩
theorem list_range (xs : List Int) : (List.range xs.length).map (fun i => xs.getD i 0) = xs := by
  refine List.ext_getElem? fun i => ?_
  rw [List.getElem?_map]
  by_cases h : i < xs.length
  · rw [List.getElem?_range h]
    simp [h]
  · rw [List.getElem?_eq_none (by simpa using h), List.getElem?_eq_none (by omega)]
    rfl
theorem range_filter (p : Int → Bool) (us : List Int) : (((List.range us.length).filter fun i => p (us.getD i 0)).map fun i => V.int (us.getD i 0)) = (us.filter p).map V.int := by
  have e := list_range us
  conv => rhs; rw [← e]
  rw [List.filter_map, List.map_map]
  rfl
theorem range_map (us : List Int) (f : Int → V) : ((List.range us.length).map fun i => f (us.getD i 0)) = us.map f := by
  have e := list_range us
  conv => rhs; rw [← e]
  rw [List.map_map]
  rfl
theorem dt_intsS {H : Hp} : ∀ {xs : List V} {t : List Int}, DtAll H xs (t.map PyData.int) → xs = t.map V.int
  | xs, [], h => by cases h; rfl
  | xs, z :: t, h => by
    rw [List.map_cons] at h
    cases h with
    | cons a r =>
      cases a
      rw [dt_intsS r]
      rfl
theorem was_yesG {K : PySem.W.Frag} {c cls : Value} {i : Nat} {ts : Addr → Value → Option Addr → TS} {W : WX} {D : Ends} {d : Option Addr} {σ : L2.St} {H : Hp} (te : PySem.W.exmOne K cls c = some true)
    (h : ∀ a, H a = none → ts a cls d { nx := fun σ' H' => D.nx (σ'.set i none) H', rt := D.rt, bk := fun σ' H' => D.bk (σ'.set i none) H', ct := fun σ' H' => D.ct (σ'.set i none) H' } (σ.set i (some (.ref a))) H) : wAs K c i ts W D cls d σ H :=
  ⟨true, te, fun _ => h, fun q => Bool.noConfusion q⟩
theorem rd_lam {T : List (Addr × Str)} {TT : (XK → Hp → VK → Prop) → Hp → VK → Prop} {t : XK → TE} {σ : L2.St} {H : Hp} {Q : VK} (hT : LamX.Tabs T H) (h : ∀ H1, Sm T H H1 → TT (fun E H' Q' => t E σ H' Q') H1 Q) : LamX.tLam T TT t σ H Q := ⟨hT, fun H1 e t => h H1 ⟨e, fun _ => t⟩⟩
theorem paired_refs {H : Hp} : ∀ {ps : List Addr} {es : List Lk}, Paired (fun (p : Addr) (e : Lk) => H p = some (.tup [.int e.1, .int e.2])) ps es → Paired (IsPr H) (ps.map V.ref) es
  | _, _, .nil => .nil
  | _, _, .cons r t => .cons ⟨_, rfl, r⟩ (paired_refs t)
/-- a comprehension of new pairs of ints -/
theorem lc_pairs {T : List (Addr × Str)} {J : It} {n : Nat} {item : Nat → V → Hp → Prop} {H : Hp} {σ : L2.St} {g : TG} {te : TE} {vs : List Nat} {Qd : Addr → Hp → Prop} (w : Wk T J n item H) (hn : n < sizeLine) (r : Nat → Lk)
    (hs : ∀ i x H1 H2, i < n → Sm T H H1 → Same H1 H2 → item i x H2 → ∀ kt : VK, (∀ a H5, Sm T H1 H5 → H1 a = none → H5 a = some (.tup [.int (r i).1, .int (r i).2]) → kt (.ref a) H5) → g x (wipe σ vs) H2 fun σ2 H3 => wipe σ2 vs = wipe σ vs ∧ te σ2 H3 kt)
    (hd : ∀ D H', Fr H D → Sm T H H' → PairsAt H' D ((List.range n).map r) → Qd D H') :
    ∀ D, H D = none → ∃ W : Nat → Nat → Hp → Prop, (∃ m, W 0 m (upd H D (.lst []))) ∧ ∀ i m H, W i m H →
      (J.stop i H ∧ Qd D H) ∨ (J.go i H ∧ ∃ Nx : Hp → Prop, (∀ H', Nx H' → ∃ m', m' < m ∧ W (i + 1) m' H') ∧ ∀ x H', J.yld i H x H' → g x (wipe σ vs) H' fun σ2 H2 => wipe σ2 vs = wipe σ vs ∧ tYes σ2 H2 fun b H3 =>
        if b = true then te σ2 H3 fun y H4 => ∃ acc, H4 D = some (.lst acc) ∧ acc.length < sizeLine ∧ Nx (upd H4 D (.lst (acc ++ [y]))) else Nx H3) := by
  refine lc_w (T := T) w hn (fun D i acc H' => ∃ ps : List Addr, acc = ps.map V.ref ∧ D ∉ ps ∧ Paired (fun (p : Addr) (e : Lk) => H' p = some (.tup [.int e.1, .int e.2])) ps ((List.range i).map r))
    (fun D H' fD _ _ => ⟨[], rfl, List.not_mem_nil, .nil⟩)
    (fun D i acc Ha Hb h k => ?_) (fun D i acc x H4 H5 hi fD s4 hD hl hP s5 hit kt kf ht _ => ?_) (fun D acc H4 fD s4 hD hl hP => ?_)
  · obtain ⟨ps, e1, e2, e3⟩ := h
    refine ⟨ps, e1, e2, ?_⟩
    have key : ∀ {ps : List Addr} {es : List Lk}, Paired (fun (p : Addr) (e : Lk) => Ha p = some (.tup [.int e.1, .int e.2])) ps es → D ∉ ps → Paired (fun (p : Addr) (e : Lk) => Hb p = some (.tup [.int e.1, .int e.2])) ps es := by
      intro ps es h
      induction h with
      | nil => exact fun _ => .nil
      | cons r t ih => exact fun m => .cons (by rw [k _ (fun z => m (z ▸ List.mem_cons_self ..))]; exact r) (ih fun z => m (List.mem_cons_of_mem _ z))
    exact key e3 e2
  · obtain ⟨ps, e1, e2, e3⟩ := hP
    refine hs i x H4 H5 hi s4 s5 hit kt fun a H6 s6 ha h6 => ht _ H6 s6 ⟨ps ++ [a], by rw [e1, List.map_append]; rfl, fun m => ?_, ?_⟩
    · rcases List.mem_append.mp m with m | m
      · exact e2 m
      · rw [List.mem_singleton.mp m, ha] at hD
        cases hD
    · rw [List.range_succ, List.map_append]
      exact paired_app (Paired.mapP e3 fun _ _ q => s6.tup q) (.cons h6 .nil)
  · obtain ⟨ps, e1, e2, e3⟩ := hP
    refine hd D H4 fD s4 ⟨acc, hD, ?_⟩
    rw [e1]
    exact paired_refs e3
theorem PairsAt.cat {H H' : Hp} {p : Addr} {es fs : List Lk} (s : Same H H') {xs ys : List V} (h1 : Paired (IsPr H) xs es) (h2 : Paired (IsPr H) ys fs) (hp : H' p = some (.lst (xs ++ ys))) : PairsAt H' p (es ++ fs) :=
  ⟨_, hp, paired_app (Paired.mapP h1 fun _ _ q => q.sm (T := []) (Sm.of s)) (Paired.mapP h2 fun _ _ q => q.sm (T := []) (Sm.of s))⟩
end NC

namespace NC
open PySem PySem.Spec PyProof.Rows L2 LamX
/-! ### a lambda handed to a def, its errors seen by the def's own clauses -/
section
variable {X : Cx} {pins : List (Addr × Obj)} {σ : L2.St} {H HZ : Hp} {s s1 : Shared}
/-- x(), in the def that got the lambda; what it lets out is wished of the names as they stand -/
theorem pe_actW {CXg : CXT} {Eg : XK} {Ng : List Str} {qg : Str} {sg : Scope} {g f c' : Addr} {cdg pm ctv : Value} {params : Arguments} {body : Expr} {scope : Scope} {k i : Nat} {a : Str} {pn : List (Addr × Obj)} {xe : Value → Shared → Prop} {W : WX} {tb : XK → TE} {p1 p2 : Pos}
    (I : L2.Inv X pins σ H s) (L : LamS X.env.scope scope) (hf : s.heap.get? f = some (PySem.W.kla_obj "<lambda>" (X.env.qual ++ "<lambda>") params body scope (cloFrom X.env.cells scope.names []) pm c' ctv)) (hfn : H f = none) (hfr : f ∉ frs X.stack)
    (hbind : bindArgs (PySem.W.kla_fn "<lambda>" (X.env.qual ++ "<lambda>") params body scope (cloFrom X.env.cells scope.names []) pm (.ref c') ctv) ⟨[], []⟩ = pure [])
    (tk : Takes ((cxOf CXg X.prog X.w X.K X.mg X.base Ng qg sg g cdg X.A X.stack s H Eg).tr pn xe) W) (hr : Room (k + 1) (X.A.deeper (envOfC qg sg s.heap.objs.size g cdg)))
    (hbody : ∀ (A : Around) (outer : List Env) (s : Shared) (H : Hp) (E : XK), Room k (A.deeper (lamEnv X scope s.heap.objs.size f c')) → PE (lamCx X A outer s H E scope f c') body (tb E))
    (hN : Ng[i]? = some a) (hv : Vis sg a) (hd : (a == ("__debug__" : Str)) = false := by decide) (hcd : (a == ("__classdict__" : Str)) = false := by decide) :
    PE ((cxOf CXg X.prog X.w X.K X.mg X.base Ng qg sg g cdg X.A X.stack s H Eg).tr pn xe) (.Call (.Name a p1) [] [] p2)
      (fun σZ HZ Q => σZ[i]? = some (some (.ref f)) ∧ HZ c' = some (CodeO c' (X.env.qual ++ "<lambda>")) ∧ ∃ E : XK, (∀ cls d H', E cls d H' → W cls d σZ H') ∧ tb E σ HZ Q) := by
  refine ⟨fun pinsZ sZ σZ HZ Q IZ h => ?_⟩
  obtain ⟨hs, hc, E, hE, ht⟩ := h
  refine wpAny_Call_Name_kw (thn ((pe_var (pos := p1) (i := i) hN hv hd hcd).run pinsZ sZ σZ HZ (fun v H1 => v = .ref f ∧ H1 = HZ) IZ ⟨.ref f, hs, rfl, rfl⟩) fun u s1 ⟨v, H1, I1, r1, q1⟩ => ?_)
  obtain ⟨ev, eH⟩ := q1
  subst ev
  rw [eH] at I1
  obtain rfl : u = Value.ref f := r1
  have of1 : s1.heap.get? f = some (PySem.W.kla_obj "<lambda>" (X.env.qual ++ "<lambda>") params body scope (cloFrom X.env.cells scope.names []) pm c' ctv) := I1.base.keep f _ hf hfn hfr (fun z => nomatch (show f ∈ ([] : List Addr) from z))
  refine PySem.W.callWith_F0 ⟨_, _, _, _, of1⟩ ?_
  have un : Un (frs X.stack) [] H HZ s.heap s1.heap := I1.base
  obtain ⟨⟨oc, vs, t, hoc, hdc, hvc⟩, _, _⟩ := I1.hok c' _ hc
  have rc : codeAny (model X.prog X.w) (X.A.deeper (envOfC qg sg s.heap.objs.size g cdg)) (.call (.ref f) ⟨[], []⟩) (CR (L2.CX X.prog X.w) (envOfC qg sg s.heap.objs.size g cdg :: X.stack) X.prog X.w HZ s1 Q E) s1 := by
    refine PySem.W.kla_callFunE hr.depth of1 rfl L.co L.gen rfl ⟨c', oc, vs, t, rfl, hoc, hdc, hvc⟩ ?_
    rw [hbind]
    refine wpAny_pure (wpAny_newFunctionEnv (fun y hy => (L.own y hy).2) (fun y hy => absurd hy (by simp)) (fun h₁ hns hsb => ⟨I1.nolimit.fresh _ hsb, ?_⟩) L.kind)
    show codeAny _ _ (.expr body (lamEnv X scope s1.heap.objs.size f c')) _ _
    have kp : ∀ b o, s1.heap.get? b = some o → h₁.get? b = some o := fun b o e => hsb.extBut b o (Nat.ne_of_lt (Heap.lt_size e)) (Heap.get?_push_of_some _ e)
    have J : L2.Inv (lamCx X (X.A.deeper (envOfC qg sg s.heap.objs.size g cdg)) (envOfC qg sg s.heap.objs.size g cdg :: X.stack) s1 HZ E scope f c') [] σ HZ { s1 with heap := h₁, toks := s1.toks + ([] : List (Str × Value)).length } :=
      lam_start2 I L I1.env0 hr.hd un hns kp
    refine PySem.W.kla_codeExpr (wpAny_mono ((hbody _ _ s1 HZ _ (hr.deeper _)).run [] _ _ HZ Q J ht) (fun v s' hq => ?_) fun e s' hq => hq)
    obtain ⟨w', H', J', rv, q⟩ := hq
    exact ⟨w', H', J'.os, J'.bare, J'.base, J'.hok, rv, q⟩
  have hx := passAt tk σZ
  refine wpAny_call (codeAny_mono rc fun r s' hq => ?_)
  cases r with
  | error e =>
    obtain ⟨a, B, H', cls, d, e1, e2, e3, e4, e5, e6, e7, e8⟩ := (show L2.CX X.prog X.w _ HZ s1 E e s' from hq)
    exact hx pinsZ HZ s1 e s' I1 ⟨a, B, H', cls, d, e1, e2, e3, e4, e5, e6, e7, hE _ _ _ e8⟩
  | ok fl =>
    cases fl with
    | ret u => exact I1.after hq
    | next => exact False.elim hq
    | brk => exact False.elim hq
    | cont => exact False.elim hq
end
/-- the call of what a def got in its first parameter -/
def tAct (f c' : Addr) (q : Str) (tl : XK → Hp → VK → Prop) (W : WX) : TE := fun σZ HZ Q => σZ[0]? = some (some (.ref f)) ∧ HZ c' = some (CodeO c' q) ∧ ∃ E : XK, (∀ cls d H', E cls d H' → W cls d σZ H') ∧ tl E HZ Q
/-- the def that calls what it got; TT: what it makes of the call -/
def Gives (P : Program) (w : World) (K : PySem.W.Frag) (mg : Str → Option Value) (base : Heap) (Ng : List Str) (x : Str) (st : Stmt) (g : Addr) (cdg : Value) (a : Str) (TT : (XK → Hp → VK → Prop) → Hp → VK → Prop) : Prop :=
  ∀ (A : Around) (outer : List Env) (q : Str) (f c' : Addr) (s : Shared) (H : Hp) (Q : VK) (tl : XK → Hp → VK → Prop),
    (∀ (W : WX) (pn : List (Addr × Obj)) (xe : Value → Shared → Prop) (p1 p2 : Pos), Takes ((cxOf L2.CX0 P w K mg base Ng x (defScope st) g cdg A outer s H L2.E0).nox.tr pn xe) W →
      PE ((cxOf L2.CX0 P w K mg base Ng x (defScope st) g cdg A outer s H L2.E0).nox.tr pn xe) (.Call (.Name a p1) [] [] p2) (tAct f c' q tl W)) →
    H c' = some (CodeO c' q) → TT tl H Q →
    ∃ t, PSs (cxOf L2.CX0 P w K mg base Ng x (defScope st) g cdg A outer s H L2.E0).nox (defBody st) t ∧ t { nx := fun _ H' => Q .non H', rt := Q } (L2.start Ng [.ref f]) H
structure CalK (P : Program) (w : World) (K : PySem.W.Frag) (mg : Str → Option Value) (base : Heap) (x a : Str) (TT : (XK → Hp → VK → Prop) → Hp → VK → Prop) : Prop where
  ex : ∃ (g : Addr) (st : Stmt) (oc : Value) (od : Option Addr) (kV doc pm : Value) (an : Option Addr) (cdv ct : Value) (osl : Array (Option Value)) (Ng : List Str),
    K.lookup g = some ⟨oc, od, .func (PySem.W.fnOf x x (defArgs st) (defBody st) (defScope st) .none kV doc pm an cdv ct), osl⟩ ∧ PySem.W.codeIn K cdv x = true ∧ PySem.W.keepIn K (.ref g) = true ∧ mg x = some (.ref g) ∧
      Binds K (PySem.W.fnOf x x (defArgs st) (defBody st) (defScope st) .none kV doc pm an cdv ct) [a] [] ∧ FnScope Ng [a] (defScope st) ∧ Ng[0]? = some a ∧ Vis (defScope st) a ∧ Gives P w K mg base Ng x st g cdv a TT
theorem nox_act {X : Cx} {pn : List (Addr × Obj)} {xe : Value → Shared → Prop} {e : Expr} {t : TE} (h : PE (X.tr pn xe) e t) : PE (X.nox.tr pn xe) e t := h
section
variable {X : Cx}
/-- x(lambda: body) -/
theorem pe_lamK (T : List (Addr × Str)) {TT : (XK → Hp → VK → Prop) → Hp → VK → Prop} {x a : Str} {c P : Addr} {j k : Nat} {params : Arguments} {body : Expr} {scope : Scope} {t : XK → TE} {p lpos pos : Pos} (hr : Room j X.A) (hk : k + 2 ≤ j) (C : CalK X.prog X.w X.K X.mg X.base x a TT) (hg : Gl X x)
    (TB : TabB X.base X.mg c P) (hcode : X.env.code = .ref c) (hmT : (P, X.env.qual ++ "<lambda>") ∈ T) (hu : ∀ p ∈ T, p.1 = P → p.2 = X.env.qual ++ "<lambda>") (L : LamS X.env.scope scope)
    (hbody : ∀ (A : Around) (outer : List Env) (s : Shared) (H : Hp) (E : XK) (f c' : Addr), Room k (A.deeper (lamEnv X scope s.heap.objs.size f c')) → PE (lamCx X A outer s H E scope f c') body (t E))
    (hdef : defaultsOf params X.env = ([], []) := by rfl)
    (hbind : ∀ (q : Str) (cl : List (Str × Addr)) (pm cv ctv : Value), bindArgs (PySem.W.kla_fn "<lambda>" q params body scope cl pm cv ctv) ⟨[], []⟩ = pure [] := by intros; rfl)
    (hdb : (x == ("__debug__" : Str)) = false := by decide) (hd : (a == ("__debug__" : Str)) = false := by decide) (hcd : (a == ("__classdict__" : Str)) = false := by decide) :
    PE X (.Call (.Name x p) [.Lambda params body scope lpos] [] pos) (tLam T TT t) := by
  obtain ⟨g, st, oc, od, kV, doc, pm, an, cdv, ct, osl, Ng, lk, hcg, hkp, hm, hb, Sg, hNg, hva, hG⟩ := C.ex
  have hr := hr.mono hk
  refine ⟨fun pins s σ H Q I h => ?_⟩
  obtain ⟨hT, h⟩ := h
  refine wpAny_Call_Name_kw (ld_glob I hg hm ?_ hdb)
  refine PySem.W.callWith_K (h₀ := X.base) I.ok.mod.kin hkp ?_ (by rfl) (by rfl)
  show wpAny _ _ (spliced ((false, eval (.Lambda params body scope lpos) X.env) :: backTo pos (starEach [] X.env))) _ _ s
  refine Calls.spliced_cons (lam_make2 I TB hcode hmT hu hT hdef (L.has I.ok) fun f c' pm' ctv H1 s' I1 eN T1 hf hfn hfr hco => ?_)
  refine Calls.spliced_nil ⟨I1.kIn, ?_⟩
  have rc : codeAny (model X.prog X.w) X.A (.call (.ref g) ⟨[.ref f], []⟩) (CR L2.CX0 X.stack X.prog X.w H1 s' Q L2.E0) s' := by
    refine run_ofS (N := Ng) (ps := [a]) (us := [.ref f]) (vs := [.ref f]) lk hcg Sg hr I1.env0 (hb s' [.ref f] I1.kIn rfl) (.cons rfl .nil) rfl fun hr' => ?_
    obtain ⟨t', ht', hq'⟩ := hG X.A X.stack (X.env.qual ++ "<lambda>") f c' s' H1 Q (fun E H' Q' => t E σ H' Q') (fun W pn xe p1 p2 tk => nox_act (pe_actW (i := 0) I1 L hf hfn hfr (hbind _ _ _ _ _) tk hr' (fun A outer s H E hr2 => hbody A outer s H E f c' hr2) hNg hva hd hcd)) hco (h H1 eN T1)
    exact ⟨t', ht'.nox, hq'⟩
  refine wpAny_call (codeAny_mono rc fun r s2 hq => ?_)
  cases r with
  | error e => exact (show False from hq).elim
  | ok fl =>
    cases fl with
    | ret u => exact I1.after hq
    | next => exact False.elim hq
    | brk => exact False.elim hq
    | cont => exact False.elim hq
end
end NC

namespace NC
open PySem PySem.Spec PyProof.Rows L2
/-! ### isinstance of a caught error -/
def rIsC (K : PySem.W.Frag) (cls : Value) (d : Option Addr) (a : Addr) : List V → Hp → VK → Prop := fun xs H Q => ∃ (D dd : Addr) (fs : List (Str × V)) (c : V) (b : Bool), cls = .ref D ∧ d = some dd ∧ H dd = some (.xd fs) ∧ xs = [.ref a, c] ∧ ExcK K D ∧ Q (.bl b) H ∧
  ((∃ cv, ClsV c cv ∧ PySem.W.kitOne K (.ref D) cv = some b) ∨ (∃ (tp : Addr) (cs : List Addr), c = .ref tp ∧ H tp = some (.tup (cs.map V.ref)) ∧ PySem.W.kitAny K (.ref D) (cs.map Value.ref) = some b))
theorem vals_refs : ∀ {cs : List Addr} {us : List Value}, Vals (cs.map V.ref) us → us = cs.map Value.ref
  | [], _, .nil => rfl
  | c :: cs, _, .cons r t => by
    rw [vals_refs t]
    cases r
    rfl
theorem call_isC {X : Cx} (K : PySem.W.Frag) {a : Addr} {oe : Obj} {cls : Value} {d : Option Addr} {pn : List (Addr × Obj)} (hz : Zc cls d oe) (hf : ∃ vs, oe.data = .fields vs) (hK : X.K = K := by rfl) : CallR (X.suite a ((a, oe) :: pn)) (.builtin "isinstance") (rIsC K cls d a) := by
  subst hK
  intro pins s σ H xs us Q I r h
  obtain ⟨D, dd, fs, c, b, rfl, rfl, ea, rfl, G, q, hc⟩ := h
  obtain ⟨u1, u2, rfl, r1, r2⟩ := vals2 r
  obtain rfl : u1 = Value.ref a := r1
  obtain ⟨ha, _⟩ := I.pin (a, oe) (List.mem_append_left _ List.mem_cons_self)
  obtain ⟨vs, hd⟩ := hf
  have hx : ObjOk X.prog X.w H s.heap dd (.xd fs) := I.hok dd _ ea
  obtain ⟨mA, hns, hr⟩ := hx
  obtain ⟨od, ho, hl⟩ := lookIn_ns hns
  have J : PySem.W.InstAt s.heap a oe D (some od) := ⟨ha, hz.1, by unfold PySem.W.notCls; rw [hd] <;> rfl, by rw [hz.2]; exact ho⟩
  have Z := PySem.W.kitx_exc (x := a) (ox := oe) (od := some od) G.cl G.ga G.gg G.sb G.hc G.hn G.ht G.hm
  rcases hc with ⟨cv, k, e⟩ | ⟨tp, cs, rfl, htp, e⟩
  · have e2 := k.eq r2
    subst e2
    exact PySem.W.kia_one Z I.kIn J e (fun z => nomatch z) fun tk => ⟨.bl b, H, I.tok tk, rfl, q⟩
  · obtain rfl : u2 = Value.ref tp := r2
    obtain ⟨its, rv, ⟨ot, hot, hct, nt, hdt⟩, _⟩ := I.tuple (SqT.of htp)
    have ei := vals_refs rv
    subst ei
    obtain ⟨c0, dd0, da0, sl0⟩ := ot
    simp only at hct hdt
    subst hct
    subst hdt
    exact PySem.W.kia_tup Z I.kIn J hot e (fun z => nomatch z) fun tk => ⟨.bl b, H, I.tok tk, rfl, q⟩
/-! ### == and != of instances with an own == -/
section
variable {prog : Program} {w : World} {A : Around} {E : Value → Shared → Prop} {s : Shared} {K : PySem.W.Frag} {x C f : Addr} {ox : Obj} {od : Option Obj} {b tb : Value}
theorem own_ne {Q : Value → Shared → Prop} (hu : A.units + 1 < cLine) (X : K.In s.heap) (I : PySem.W.InstAt s.heap x ox C od) (hb : PySem.W.Looks (model prog w) s.heap (typeOf b) tb) (hn : PySem.W.notFirst K C tb = true)
    (hs : PySem.W.findIn K (.ref C) "__eq__" = some (some (.ref f))) (hf : PySem.W.isFn K (.ref f) = true) (hne : PySem.W.findIn K (.ref C) "__ne__" = some (some (.builtin "object.__ne__"))) (hso : PySem.W.subIn K (.ref C) (.type "object") = some true)
    (h : wpAny (model prog w) A.in1 (call (.ref f) [.ref x, b]) (fun v s' => ∃ r, v = .bool r ∧ Q (.bool (!r)) s') E s) : wpAny (model prog w) A (richCompare .NotEq (.ref x) b) Q E s := by
  have L0 := I.type (M := model prog w)
  have sub : PySem.W.Looks (model prog w) s.heap (isInstance (.ref x) (.type "object")) true := L0.andThen (PySem.W.looks_subIn X hso)
  have hu0 : A.units < cLine := Nat.lt_of_succ_lt hu
  have body : wpAny (model prog w) A.in1 (Builtin.«object.__ne__» ⟨[.ref x, b], []⟩) (fun fin s' => ∃ r, fin = .done (.ret (.bool (!r))) ∧ Q (.bool (!r)) s') E s := by
    unfold Builtin.«object.__ne__»
    repeat (first
      | with_reducible refine wpAny_cRoomFor hu ?_
      | (refine wpAny_bind (m := callSpecialIfBound? (.ref x) (Str.ofString "__eq__") [b])
          (PySem.W.ifBound_K X I hs hf (wpAny_mono h (fun r s' hr => by
            obtain ⟨b, rfl, hq⟩ := hr
            repeat (first | exact ⟨_, rfl, hq⟩ | refine wpAny_pure ?_ | refine wpAny_truthy_bool ?_ | (refine wpAny_bind (m := truthy (.bool _)) (wpAny_truthy_bool ?_)) | wp_step)) fun _ _ e => e)))
      | wp_step)
  have one : wpAny (model prog w) A (tryCompare (.ref x) "__ne__" b) (fun r s' => ∃ v, r = some v ∧ Q v s') E s := by
    unfold tryCompare
    refine wpAny_bind ?_
    simp only [callSpecialIfBound?, bindSpecialIfBound?]
    refine wpAny_holding (wpAny_bind (wpAny_bind (wpAny_bind (L0.here ((PySem.W.looks_findIn X hne).here ?_)))))
    simp only [F.cmp_object.ne.bind]
    refine wpAny_bind (wpAny_askSetting (wpAny_ite ?_))
    have call_ : wpAny (model prog w) A (call (.builtin "object.__ne__") [.ref x, b]) (fun v s' => ∃ r, v = .bool (!r) ∧ Q (.bool (!r)) s') E s := by
      refine wpAny_call (codeAny_call_builtin F.cmp_object.ne.plain F.cmpEntry_ne ?_)
      refine PySem.W.check_slot F.cmpKind_ne F.cmpSplit_ne sub (F.cmpArgs_ne _ _) (wpAny_mono body (fun fin s' z => ?_) fun _ _ e => e)
      obtain ⟨r, rfl, hq⟩ := z
      exact ⟨r, rfl, hq⟩
    split
    · refine wpAny_bind (wpAny_pure (wpAny_pure (wpAny_bind (wpAny_mono call_ (fun v s' z => ?_) fun _ _ e => e))))
      obtain ⟨r, rfl, hq⟩ := z
      exact wpAny_pure (wpAny_pure ⟨_, rfl, hq⟩)
    · refine wpAny_tryCatch (wpAny_bind (wpAny_pure (wpAny_pure (wpAny_bind (wpAny_mono call_ (fun v s' z => ?_) fun _ _ e => e)))))
      obtain ⟨r, rfl, hq⟩ := z
      exact wpAny_pure (wpAny_pure ⟨_, rfl, hq⟩)
  unfold richCompare
  simp only [oneThing_ref]
  refine wpAny_holding (wpAny_bind (wpAny_cRoomFor hu0 ?_))
  refine wpAny_bind (L0.here (wpAny_bind (hb.here ?_)))
  split
  · rename_i q
    have e : PySem.W.subIn K tb (.ref C) = some false := by
      rcases Bool.or_eq_true_iff.mp hn with e | e
      · rw [beq_iff_eq.mp e] at q; simp at q
      · exact beq_iff_eq.mp e
    refine wpAny_bind ((PySem.W.looks_subIn X e).here ?_)
    simp only [Bool.false_eq_true, if_false]
    refine wpAny_bind (wpAny_mono one (fun r s' z => ?_) fun _ _ e => e)
    obtain ⟨v, rfl, hq⟩ := z
    exact wpAny_pure hq
  · refine wpAny_bind (wpAny_pure ?_)
    simp only [Bool.false_eq_true, if_false]
    refine wpAny_bind (wpAny_mono one (fun r s' z => ?_) fun _ _ e => e)
    obtain ⟨v, rfl, hq⟩ := z
    exact wpAny_pure hq
end
section
variable (P : Program) (w : World) (K : PySem.W.Frag) (mg : Str → Option Value) (base : Heap)
/-- the class at C has its own == -/
structure CalE (k : Nat) (C : Addr) (sp : Sp) : Prop where
  ex : ∃ (f : Addr) (fd : FuncData) (ps : List Str), FnOk P w K mg base CX0 k f fd ps sp ∧ Binds K fd ps [] ∧ PySem.W.findIn K (.ref C) "__eq__" = some (some (.ref f)) ∧ PySem.W.isFn K (.ref f) = true
  ne : PySem.W.findIn K (.ref C) "__ne__" = some (some (.builtin "object.__ne__"))
  so : PySem.W.subIn K (.ref C) (.type "object") = some true
  tt : PySem.W.notFirst K C (.type "tuple") = true
end
/-- an instance of C, or a tuple -/
def InsOr (K : PySem.W.Frag) (C : Addr) (H : Hp) (y : V) : Prop := (∃ b dy gs, y = .ref b ∧ H b = some (.ins C dy gs)) ∨ ∃ b ys, y = .ref b ∧ H b = some (.tup ys)
def rEqO (K : PySem.W.Frag) (C : Addr) (sp : Sp) : R2 := fun x y H Q => ∃ a dx fs, x = .ref a ∧ H a = some (.ins C dx fs) ∧ InsOr K C H y ∧ sp [x, y] H (fun v H' => ∃ r, v = .bl r ∧ Q (.bl r) H') E0
def rNeO (K : PySem.W.Frag) (C : Addr) (sp : Sp) : R2 := fun x y H Q => ∃ a dx fs, x = .ref a ∧ H a = some (.ins C dx fs) ∧ InsOr K C H y ∧ sp [x, y] H (fun v H' => ∃ r, v = .bl r ∧ Q (.bl (!r)) H') E0
section
variable {X : Cx} {pins : List (Addr × Obj)} {σ : L2.St} {H : Hp} {s : Shared}
theorem InsOr.looks {C : Addr} {y : V} {v : Value} (I : L2.Inv X pins σ H s) (h : InsOr X.K C H y) (r : RelV y v) (tt : PySem.W.notFirst X.K C (.type "tuple") = true) : ∃ b tb, v = .ref b ∧ y = .ref b ∧ PySem.W.Looks (model X.prog X.w) s.heap (typeOf v) tb ∧ PySem.W.notFirst X.K C tb = true := by
  rcases h with ⟨b, dy, gs, rfl, hb⟩ | ⟨b, ys, rfl, hb⟩
  · cases r
    obtain ⟨mB, J', _⟩ := ins_get I.hok hb
    obtain ⟨od', J', _⟩ := J'.look
    exact ⟨b, .ref C, rfl, rfl, J'.type, by simp [PySem.W.notFirst]⟩
  · cases r
    obtain ⟨its, rv, ⟨o, ho, hc, n, hd⟩, _⟩ := I.tuple (SqT.of hb)
    refine ⟨b, .type "tuple", rfl, rfl, ?_, tt⟩
    intro A Q E z k q
    exact wpAny_typeOf_ref (k _ _ ho) (by rw [hc]; exact q)
theorem own_call {k : Nat} {A : Around} {sp : Sp} {f : Addr} {fd : FuncData} {ps : List Str} {x y : V} {v u : Value} {Q : V → Hp → Prop} {G : Value → Shared → Prop} (hr : Room k A) (hfr : A.frames = X.A.frames) (I : L2.Inv X pins σ H s) (F : FnOk X.prog X.w X.K X.mg X.base CX0 k f fd ps sp) (hb : Binds X.K fd ps []) (rx : RelV x v) (ry : RelV y u)
    (h : sp [x, y] H Q E0) (hG : ∀ v u H' s', L2.Inv X pins σ H' s' → RelV v u → Q v H' → G u s') : wpAny (model X.prog X.w) A (call (.ref f) [v, u]) G X.xe s := by
  have e0 : Env0 X.prog X.w X.K X.mg X.base A X.stack s H := by
    have e := I.env0
    exact ⟨by rw [hfr]; exact e.frames, e.mod, e.bs, e.bsz, e.funs, e.frf, e.hok, e.bare⟩
  have hl := F.len _ _ _ _ h
  have r2 : Vals [x, y] [v, u] := .cons rx (.cons ry .nil)
  refine wpAny_call (codeAny_mono (F.run A X.stack s H ⟨[v, u], []⟩ [v, u] [x, y] Q E0 hr e0 (by
    have := hb s [v, u] I.kIn (by simpa using hl)
    simpa using this) r2 h) fun r s' hq => ?_)
  cases r with
  | error e => exact (show False from hq).elim
  | ok fl =>
    cases fl with
    | ret w =>
      obtain ⟨z, H', I', rz, q⟩ := I.after hq
      exact hG z w H' s' I' rz q
    | next => exact False.elim hq
    | brk => exact False.elim hq
    | cont => exact False.elim hq
theorem op_eqO (K : PySem.W.Frag) {j k : Nat} {C : Addr} {sp : Sp} (hr : Room j X.A) (hk : k ≤ j) (c : CalE X.prog X.w X.K X.mg X.base k C sp) (hK : X.K = K := by rfl) : OpR X (compareOp .Eq) (rEqO K C sp) := by
  subst hK
  intro pins s σ H x y v u Q I rx ry h
  obtain ⟨f, fd, ps, F, hb, hs, hf⟩ := c.ex
  obtain ⟨a, dx, fs, rfl, ha, hy, hq⟩ := h
  have hr := hr.mono hk
  cases rx
  obtain ⟨b, tb, rfl, rfl, lk, nf⟩ := hy.looks I ry c.tt
  obtain ⟨mA, J, _⟩ := ins_get I.hok ha
  obtain ⟨od, J, _⟩ := J.look
  obtain ⟨m, hF⟩ := I.fr
  show wpAny (model X.prog X.w) X.A (richCompare .Eq (.ref a) (.ref b)) (EP X pins σ Q) X.xe s
  refine PySem.W.cmp_K (op := .Eq) (tb := tb) hr.units0 hF I.ok.mod.kin J lk nf hs hf ?_
  refine own_call (x := .ref a) (y := .ref b) hr rfl I F hb rfl rfl hq fun v u H' s' I' r q => ?_
  obtain ⟨t, rfl, q⟩ := q
  cases r
  exact ⟨.bl t, H', I', rfl, q⟩
theorem op_neO (K : PySem.W.Frag) {j k : Nat} {C : Addr} {sp : Sp} (hr : Room j X.A) (hk : k + 1 ≤ j) (c : CalE X.prog X.w X.K X.mg X.base k C sp) (hK : X.K = K := by rfl) : OpR X (compareOp .NotEq) (rNeO K C sp) := by
  subst hK
  intro pins s σ H x y v u Q I rx ry h
  obtain ⟨f, fd, ps, F, hb, hs, hf⟩ := c.ex
  obtain ⟨a, dx, fs, rfl, ha, hy, hq⟩ := h
  have hr := hr.mono hk
  cases rx
  obtain ⟨b, tb, rfl, rfl, lk, nf⟩ := hy.looks I ry c.tt
  obtain ⟨mA, J, _⟩ := ins_get I.hok ha
  obtain ⟨od, J, _⟩ := J.look
  show wpAny (model X.prog X.w) X.A (richCompare .NotEq (.ref a) (.ref b)) (EP X pins σ Q) X.xe s
  refine own_ne (hu_of hr) I.kIn J lk nf hs hf c.ne c.so ?_
  refine own_call (x := .ref a) (y := .ref b) hr.in1 rfl I F hb rfl rfl hq fun v u H' s' I' r q => ?_
  obtain ⟨t, rfl, q⟩ := q
  cases r
  exact ⟨t, rfl, .bl (!t), H', I', rfl, q⟩
end
end NC

namespace NC
open PySem PySem.Spec PyProof.Rows L2
/-! ### (x,) * 1 -/
theorem tuple_mul1 (l : Addr) (items : Array Value) (n : Nat) (dd : Option Addr) (sl : Array (Option Value)) (x : Int) (u : Tok) (c0 : (decide (x < -(2 ^ 63)) || decide (x ≥ 2 ^ 63)) = false) (c1 : (items.isEmpty || x == 1) = true) :
    Meets (Builtin.«tuple.__mul__» ⟨[.ref l, .int x u], []⟩) (fun _ R s => s.heap.get? l = some { cls := .type "tuple", dict := dd, data := .seq items n, slots := sl } ∧ R (.ok (.ret (Value.ref l))) s) :=
  .of_wp fun prog w A R s h => by
    obtain ⟨hp, g, d, tk, os⟩ := s
    obtain ⟨hl, h⟩ := h
    have f1 := AutoSeq1.idx_int
    wp_walk using wpAny_loadPart' hl
    repeat (first
      | (refine wpAny_ite_false (decide_eq_false (by rw [c0]; exact Bool.false_ne_true)) ?_; wp_walk using wpAny_loadPart' hl)
      | (refine wpAny_ite_true (decide_eq_true (by rw [c1])) ?_; wp_walk using wpAny_loadPart' hl))
    exact ⟨_, rfl, h⟩
def rRepT2 (K : PySem.W.Frag) : R2 := fun x y H Q => (∃ l xs, x = .ref l ∧ y = .int 1 ∧ SqT K H l xs ∧ Q (.ref l) H) ∨ rRepT K x y H Q
theorem op_repT2 {X : Cx} (K : PySem.W.Frag) (hK : X.K = K := by rfl) : OpR X (binaryOp .Mult) (rRepT2 K) := by
  subst hK
  intro pins s σ H x y v u Q I rx ry h
  rcases h with ⟨l, xs, rfl, rfl, hT, q⟩ | h
  · cases rx
    obtain ⟨t, rfl⟩ := ry
    obtain ⟨its, r, ⟨⟨cls, dd, data, sl⟩, ho, hc, n, hd⟩, hs⟩ := I.tuple hT
    simp only at hc hd
    subst hc hd
    have c0 : (decide ((1 : Int) < -(2 ^ 63)) || decide ((1 : Int) ≥ 2 ^ 63)) = false := by decide
    exact wpAny_binaryOp_repeat_ref (T := "tuple") (U := "int") (by decide) ⟨_, ho, rfl⟩ (fun s' => typeIs_int s' 1 t) noFill_tuple_mul F.fills_int_mul F.slot_int_rmul repeat_tuple F.slot_int_index.lookup
      (call_meets F.slot_int_rmul (typeIs_int s 1 t) F.entry_int_rmul (F.args_int_rmul_2 _ _) (int_rmul_tuple 1 t l its.toArray n dd sl)
        ⟨ho, rfl, ⟨_, ho, rfl⟩, call_meets F.slot_tuple_mul ⟨_, ho, rfl⟩ F.entry_tuple_mul (F.args_tuple_mul_2 _ _) (tuple_mul1 l its.toArray n dd sl 1 t c0 (by simp)) ⟨ho, ⟨.ref l, H, I, rfl, q⟩⟩⟩)
  · exact op_repT pins s σ H x y v u Q I rx ry h
theorem rep_flat (x : V) : ∀ m : Nat, (List.replicate m [x]).flatten = List.replicate m x
  | 0 => rfl
  | m + 1 => by
    rw [List.replicate_succ, List.flatten_cons, rep_flat x m, List.replicate_succ]
    rfl
/-- (x,) * k, a tuple of k equal items -/
theorem rd_rep1 {K : PySem.W.Frag} {H : Hp} {Q : VK} {l : Addr} {x : V} {k : Int} {n : Nat} (hl : H l = some (.tup [x])) (hk : k = (n : Int)) (h1 : 1 ≤ n) (h2 : n ≤ 1000) (h : ∀ (q : Addr) (H' : Hp), Same H H' → H' q = some (.tup (List.replicate n x)) → Q (.ref q) H') : rRepT2 K (.ref l) (.int k) H Q := by
  subst hk
  by_cases c : n = 1
  · subst c
    exact .inl ⟨l, _, rfl, rfl, SqT.of hl, h l H (Same.refl _) hl⟩
  · refine .inr ⟨l, n, [x], rfl, rfl, SqT.of hl, by simp, by omega, by omega, by show 1 ≤ 1000; decide, fun p hp => h p _ (same_new hp) ?_⟩
    rw [upd_same, Int.toNat_natCast]
    rw [rep_flat]
theorem DefAtC.calG {P : Program} {w : World} {K : PySem.W.Frag} {mg : Str → Option Value} {base : Heap} {x : Str} {st : Stmt} {c : Addr} {CX : CXT} {k : Nat} {ps : List Str} {sp : Sp} (D : DefAtC K mg x st c)
    (hb : ∀ (kV doc pm : Value) (an : Option Addr) (cdv ct : Value) (us : List Value), us.length = ps.length → bindArgs (PySem.W.fnOf x x (defArgs st) (defBody st) (defScope st) .none kV doc pm an cdv ct) ⟨us, []⟩ = pure (ps.zip us))
    (h : ∀ (f : Addr) (fd : FuncData), FunC K x x st f fd c → FnOkG P w K mg base CX k f fd ps sp) : CalG P w K mg base CX k x sp := by
  obtain ⟨f, fd, F, hm⟩ := D.ex
  exact ⟨f, fd, ps, h f fd F, hm, F.kp, F.binds hb⟩
/-- a < b < c < d as a test -/
theorem pt_chain3 {X : Cx} {a b c d : Expr} {ta tb tc td : TE} {pos : Pos} {op1 op2 op3 : CmpOp} {r1 r2 r3 : R2} (ho1 : OpR X (compareOp op1) r1) (ho2 : OpR X (compareOp op2) r2) (ho3 : OpR X (compareOp op3) r3) (ha : PE X a ta) (hb : PE X b tb) (hc : PE X c tc) (hd : PE X d td)
    (hm : lastMarks [op1, op2, op3] [b, c, d] = false := by with_unfolding_all rfl) : PT X (.Compare a [op1, op2, op3] [b, c, d] pos) (tTest (tChain3 r1 r2 r3 ta tb tc td)) := by
  refine ⟨fun pins s σ H Q I h => ?_⟩
  refine isTrue_chain (thn (ha.run pins s σ H _ I h) fun v s1 ⟨x, H1, I1, e1, q1⟩ => test_link (thn (hb.run pins s1 σ H1 _ I1 q1) fun u s2 ⟨y, H2, I2, e2, q2⟩ =>
    thn (ho1 pins s2 σ H2 x y v u _ I2 e1 e2 q2) fun d s3 ⟨z, H3, I3, e3, k, e, q3⟩ => ?_)) hm
  subst e
  cases e3
  refine wpAny_truthy_bool ?_
  cases k with
  | false =>
    obtain ⟨k', e', q'⟩ := q3
    cases e'
    exact ite_ff ⟨H3, I3, q'⟩
  | true =>
    refine ite_tt (test_link (thn (hc.run pins s3 σ H3 _ I3 q3) fun w' s4 ⟨z', H4, I4, e4, q4⟩ => thn (ho2 pins s4 σ H4 y z' u w' _ I4 e2 e4 q4) fun d' s5 ⟨z2, H5, I5, e5, k2, ek2, q5⟩ => ?_))
    subst ek2
    cases e5
    refine wpAny_truthy_bool ?_
    cases k2 with
    | false =>
      obtain ⟨k', e', q'⟩ := q5
      cases e'
      exact ite_ff ⟨H5, I5, q'⟩
    | true =>
      refine ite_tt (test_last (thn (hd.run pins s5 σ H5 _ I5 q5) fun w2 s6 ⟨z3, H6, I6, e6, q6⟩ => thn (ho3 pins s6 σ H6 z' z3 w' w2 _ I6 e4 e6 q6) fun d2 s7 ⟨z4, H7, I7, e7, k3, ek3, q7⟩ => ?_))
      subst ek3
      cases e7
      exact wpAny_truthy_bool ⟨H7, I7, q7⟩
end NC

namespace NC
open PySem PySem.Spec PyProof.Rows L2 PySem.W

/-! ### min(xs, default=None) -/
def tMinD (K : PySem.W.Frag) (te : TE) : TE := fun σ H Q => te σ H fun x H1 => ∃ (a : Addr) (ns : List Int), x = .ref a ∧ SqL K H1 a (ns.map V.int) ∧ (ns = [] → Q .non H1) ∧ ∀ m, m ∈ ns → (∀ y, y ∈ ns → m ≤ y) → Q (.int m) H1
theorem minOf_spec : ∀ (ys : List Int) (y : Int), minOf y ys ∈ y :: ys ∧ ∀ z, z ∈ y :: ys → minOf y ys ≤ z
  | [], y => ⟨List.mem_singleton_self _, fun z m => by rw [List.mem_singleton.mp m]; exact Int.le_refl _⟩
  | x :: r, y => by
    have e : minOf y (x :: r) = minOf (if decide (x < y) = true then x else y) r := rfl
    obtain ⟨h1, h2⟩ := minOf_spec r (if decide (x < y) = true then x else y)
    rw [e]
    refine ⟨?_, fun z m => ?_⟩
    · rcases List.mem_cons.mp h1 with h | h
      · rw [h]
        split
        · exact List.mem_cons_of_mem _ (List.mem_cons_self ..)
        · exact List.mem_cons_self ..
      · exact List.mem_cons_of_mem _ (List.mem_cons_of_mem _ h)
    · have h0 := h2 _ (List.mem_cons_self ..)
      rcases List.mem_cons.mp m with rfl | m
      · refine Int.le_trans h0 ?_
        split
        · rename_i c
          have := of_decide_eq_true c
          omega
        · exact Int.le_refl _
      · rcases List.mem_cons.mp m with rfl | m
        · refine Int.le_trans h0 ?_
          split
          · exact Int.le_refl _
          · rename_i c
            have : ¬ z < y := fun q => c (decide_eq_true q)
            omega
        · exact h2 z (List.mem_cons_of_mem _ m)
theorem pe_minD {X : Cx} (K : PySem.W.Frag) {e : Expr} {te : TE} {kk : Nat} {p p2 kpos pos : Pos} (hg : Gl X "min") (hm : X.mg "min" = none) (ha : PE X e te) (hu : X.A.units + 65 < cLine) (hc : X.calm = true := by rfl) (hK : X.K = K := by rfl)
    (he : starEach [e] X.env = (false, eval e X.env) :: starEach [] X.env := by rfl) :
    PE X (.Call (.Name "min" p) [e] [⟨some "default", .Constant .none kk p2, kpos⟩] pos) (tMinD K te) := by
  subst hK
  refine ⟨fun pins s σ H Q I h => ?_⟩
  refine wpAny_Call_Name_kw (ld_blt I hg hm PyProof.Rows.boot_min ?_)
  refine PyProof.Rows.callWith_kw (args_cons (thn (ha.run pins s σ H _ I h) fun u s1 ⟨x, H1, I1, r1, a, ns, ex, hs, q0, q1⟩ => args_nil ?_) he) (by rw [he] <;> rfl) (by rw [he] <;> rfl) rfl rfl
  subst ex
  cases r1
  obtain ⟨its, rv, pl, hz⟩ := I1.list hs
  refine kws_cons (wpAny_pure (kws_nil ?_))
  refine min_list_datum_default (xs := ns) (I1.ok.hd hc) pl.isList (by simpa using HoldAll.of_ints rv.ints) (by show _ + 1 + 0 < _; omega) (fun e0 h' tk hk => ⟨.non, H1, I1.kept hk, rfl, q0 e0⟩) (fun y ys i v h' tk e0 hi hv hk => ?_)
  subst e0
  obtain ⟨h1, h2⟩ := minOf_spec ys y
  refine ⟨.int (minOf y ys), H1, I1.kept hk, ?_, q1 _ h1 h2⟩
  obtain ⟨as, r⟩ := hv
  cases r
  exact ⟨_, rfl⟩
theorem rd_minD {K : PySem.W.Frag} {σ : L2.St} {H : Hp} {Q : VK} {te : TE} (h : te σ H fun x H1 => ∃ (a : Addr) (ns : List Int), x = .ref a ∧ SqL K H1 a (ns.map V.int) ∧ (ns = [] → Q .non H1) ∧ ∀ m, m ∈ ns → (∀ y, y ∈ ns → m ≤ y) → Q (.int m) H1) : tMinD K te σ H Q := h
end NC

namespace NC
open PySem PySem.Spec PyProof.Rows L2

/-! ### {t: e}, t a tuple -/
def tDispT (tk tv : TE) : TE := fun σ H Q => ∀ p, H p = none → tk σ (upd H p (.dT [])) fun x H1 => tv σ H1 fun y H2 => H2 p = some (.dT []) ∧ ∃ (b : Addr) (k : List Key), x = .ref b ∧ H2 b = some (.tup (k.map kV)) ∧ Q (.ref p) (upd H2 p (.dT [(k, y)]))
theorem pe_dispT {X : Cx} {pos : Pos} {k v : Expr} {tk tv : TE} (hk : PE X k tk) (hv : PE X v tv) (hu : X.A.units + 65 < cLine) : PE X (.Dict [some k] [v] pos) (tDispT tk tv) := by
  refine ⟨fun pins s σ H Q I q => ?_⟩
  have hn := I.hok.fresh (Nat.le_refl s.heap.objs.size)
  have I1 := I.laid (a := s.heap.objs.size) (o := .dT []) (h' := s.heap.push { cls := .type "dict", data := .dict #[] }) (t' := s.toks) (fun _ _ q => Heap.get?_push_of_some _ q) (Nat.le_refl _) (dt_empty s.heap I.big)
  rw [arm_eval_Dict, zip_pairTrees [some k] [v] X.env pos rfl rfl, dictDisplay_pairs _ (fun z => by cases z) (by show 1 < _; decide)]
  refine wpAny_bind (wpAny_standAt (wpAny_bind (wpAny_subDictH (knd := tupleKind (mixKind X.prog X.w)) (Q := fun d s' => wpAny (model X.prog X.w) X.A (pure (Value.ref d)) _ _ s') (by show X.A.units < cLine; omega) (by show 1 ≤ 15; decide) ?_)))
  refine thn ((pps_cons hk hv pps_nil).run pins _ σ _ (fun ps H2 => match ps with | [(x, y)] => H2 s.heap.objs.size = some (.dT []) ∧ ∃ (b : Addr) (k : List Key), x = .ref b ∧ H2 b = some (.tup (k.map kV)) ∧ Q (.ref s.heap.objs.size) (upd H2 s.heap.objs.size (.dT [(k, y)])) | _ => False) I1 ?_) ?_
  · exact q _ hn
  · rintro ws s2 ⟨ps, H2, I2, rel, qq⟩
    obtain ⟨x, y, rfl⟩ : ∃ x y, ps = [(x, y)] := by
      match ps, qq with
      | [(x, y)], _ => exact ⟨x, y, rfl⟩
    obtain ⟨e, b, k, rfl, hb, q2⟩ := qq
    cases rel with
    | cons r rr =>
      cases rr
      rename_i w
      obtain ⟨w1, w2⟩ := w
      obtain ⟨r1, r2⟩ := r
      cases (show w1 = Value.ref b from r1)
      obtain ⟨z, hd, xs, rl, dd⟩ := dt_of I2.hok e
      cases rl
      refine ⟨[(k, b, w2)], ⟨rfl, rfl, key_of I2.hok hb, True.intro⟩, dd, fun h' tk' dd' hs => wpAny_pure ⟨.ref s.heap.objs.size, _, ?_, rfl, q2⟩⟩
      obtain ⟨o, es, ep, hq, h2, h3, h4, _, h5⟩ := dd'
      have rel2 : KT H2 [(k, y)] [(k, b, w2)] := KT.put (kvs := []) (xs := []) .nil k hb r2
      refine d_write I2 (by rw [e]; exact True.intro) hs ⟨o, hq⟩ ⟨by show 1 ≤ sizeLine; decide, hd, _, rel2.keeps fun c ys ec => ?_, o, es, ep, hq, h2, h3, h4, h5⟩
      rw [upd_ne (ne_of ec e (fun z => nomatch z))]
      exact ec
end NC

namespace NC
open PySem
def top (i : Nat) : Stmt := PySem.Challenge.pw_nextchannel_k18_networks_by_names.main.body.getD i (.Pass ⟨0, 0, 0, 0⟩)
end NC
namespace NC
open PySem PySem.Spec PyProof.Rows L2
local macro_rules | `(tactic| walk_at "sd") => `(tactic| first | rfl | assumption | omega | decide | (refine ⟨by omega, by omega⟩) | exact Or.inl ⟨by omega, by omega⟩ | exact Or.inr ⟨by omega, by omega⟩)
local macro_rules | `(tactic| walk_at "rd1") => `(tactic| first
  | with_reducible refine rd_seq ?_
  | with_reducible refine rd_asg ?_
  | with_reducible refine rd_gname ?_
  | with_reducible refine rd_var rfl ?_
  | with_reducible refine rd_c ?_
  | with_reducible refine rd_cons ?_
  | with_reducible refine rd_nil ?_
  | with_reducible refine rd_op ?_
  | with_reducible refine rd_ifs ?_
  | with_reducible refine rd_test ?_
  | with_reducible refine rd_tb ?_
  | with_reducible refine rd_bl ?_
  | with_reducible refine rd_I0 ?_
  | ((with_reducible refine rd_I ?_ ?_); · walk_at "sd")
  | with_reducible refine rd_U ?_
  | with_reducible refine rd_ret ?_
  | with_reducible refine rd_next ?_
  | with_reducible refine rd_drop ?_
  | with_reducible refine rd_cb ?_
  | with_reducible refine rd_call ?_
  | with_reducible refine rd_eqI ?_
  | with_reducible refine rd_neI ?_
  | with_reducible refine rd_and ?_
  | with_reducible refine rd_or ?_
  | with_reducible refine rd_not ?_
  | with_reducible refine rd_notV ?_
  | with_reducible refine rd_lc ?_
  | with_reducible refine rd_for ?_
  | with_reducible refine rd_iL ?_
  | with_reducible refine rd_iT ?_
  | with_reducible refine rd_iR1 ?_
  | with_reducible refine rd_iR2 ?_
  | with_reducible refine rd_iE ?_
  | with_reducible refine rd_lrg1 ?_
  | with_reducible refine rd_iRW2 ?_
  | with_reducible refine rd_callS ?_
  | with_reducible refine rd_methS ?_
  | with_reducible refine rd_makeS ?_
  | with_reducible refine rd_meth ?_
  | with_reducible refine rd_make ?_
  | with_reducible refine rd_exf ?_
  | with_reducible refine rd_par ?_
  | with_reducible refine rd_mkV ?_
  | with_reducible refine rd_vfld ?_
  | with_reducible refine rd_par2 ?_
  | with_reducible refine rd_iET ?_
  | with_reducible refine rd_sortKey ?_
  | with_reducible refine rd_lenSet ?_
  | with_reducible refine rd_revL ?_
  | with_reducible refine rd_yes ?_
  | with_reducible refine rd_gcons1 ?_
  | with_reducible refine rd_gnil ?_
  | with_reducible refine rd_sl ?_
  | with_reducible refine rd_nopart ?_
  | with_reducible refine rd_part ?_
  | with_reducible refine rd_int1 ?_
  | with_reducible refine rd_fld ?_
  | with_reducible refine rd_sfld ?_
  | with_reducible refine rd_bm ?_
  | with_reducible refine rd_bm0 ?_
  | with_reducible refine rd_raise ?_
  | with_reducible refine rd_raise1 ?_
  | with_reducible refine rd_andV ?_
  | with_reducible refine rd_orV ?_
  | with_reducible refine rd_ifE ?_
  | with_reducible refine rd_chain ?_
  | with_reducible refine rd_chain3 ?_
  | with_reducible refine rd_un ?_
  | with_reducible refine rd_gsub ?_
  | with_reducible refine rd_aug rfl ?_
  | with_reducible refine rd_ipI ?_
  | with_reducible refine rd_lst ?_
  | with_reducible refine rd_tup ?_
  | with_reducible refine rd_retN ?_
  | with_reducible refine L2.iteT ?_
  | with_reducible refine rd_nf ?_
  | with_reducible refine rd_nt ?_
  | with_reducible refine L2.iteF ?_)
local macro_rules | `(tactic| walk_at "rd") => `(tactic| repeat walk_at "rd1")
abbrev s_law_draw : Stmt := top 34
theorem sc_law_draw : FnScope ["_law_well", "_law_many", "_law_found", "_law_number"] ["_law_well", "_law_many"] (defScope s_law_draw) := ⟨rfl, rfl, rfl, by decide +kernel, rfl, by decide +kernel, by decide +kernel⟩
/-- a well and a bound: a number below the bound; the well's numbers are some -/
def spDraw0 : Sp := fun vs H Q _ => ∃ (a : Addr) (n x y z : Int), vs = [.ref a, .int n] ∧ H a = some (.lst [.int x, .int y, .int z]) ∧ 0 < n ∧ n < 1000000 ∧
  ∀ r x' y' z' : Int, 0 ≤ r → r < n → Q (.int r) (upd H a (.lst [.int x', .int y', .int z']))
def spDraw : Sp := fun vs H Q _ => ∃ (a : Addr) (n : Int), vs = [.ref a, .int n] ∧ H a = some (WellO a) ∧ 0 < n ∧ n < 1000000 ∧ ∀ r : Int, 0 ≤ r → r < n → Q (.int r) H
section
variable {P : Program} {w : World} {K : PySem.W.Frag} {mg : Str → Option Value} {base : Heap}
theorem ok_draw0 {pn : List Str} {f : Addr} {fd : FuncData} (F : Fun K "_law_draw" "_law_draw" s_law_draw f fd) (S : FnScope (["_law_well", "_law_many", "_law_found", "_law_number"]) pn (defScope s_law_draw)) (hp : pn.length = 2) : FnOk P w K mg base CX0 1 f fd pn spDraw0 := by
  refine F.ok S (fun vs H Q E h => ?_) (fun cdv A outer s H vs Q E hr h => ?_)
  · obtain ⟨a, n, x, y, z, rfl, _⟩ := h
    exact hp.symm
  · obtain ⟨a, n, x, y, z, rfl, ha, h0, h1, k⟩ := h
    refine ⟨_, (pss_cons (ps_if (pt_cmpR op_gt (pe_ix (ix_listK K) (pv 0) pe_int (fun _ _ => rfl)) pe_int (nomark _)) (pss_cons (ps_set (i := 2) sc_law_draw.nd rfl (Or.inl rfl) (pe_op op_mod (pe_ix (ix_listK K) (pv 0) pe_int (fun _ _ => rfl)) (pv 1)))
  (pss_cons (ps_asg (pe_op op_fdiv (pe_ix (ix_listK K) (pv 0) pe_int (fun _ _ => rfl)) (pv 1)) (pg_sub (pv 0) pe_int set_list))
  (pss_one (ps_ret (pv 2))))) pss_nil)
  (pss_cons (ps_asg (pe_op op_add (pe_ix (ix_listK K) (pv 0) pe_int (fun _ _ => rfl)) pe_int) (pg_sub (pv 0) pe_int set_list))
  (pss_cons (ps_set (i := 3) sc_law_draw.nd rfl (Or.inl rfl) (pe_op op_mod (pe_op op_mul (pe_op op_add (pe_op op_add (pe_ix (ix_listK K) (pv 0) pe_int (fun _ _ => rfl)) (pe_op op_mul pe_int (pe_ix (ix_listK K) (pv 0) pe_int (fun _ _ => rfl)))) pe_int) pe_int) pe_int))
  (pss_cons (ps_set (i := 3) sc_law_draw.nd rfl (Or.inl rfl) (pe_op op_mod (pe_op op_mul (pv 3) (pe_op op_add (pe_op op_fdiv (pv 3) pe_int) pe_int)) pe_int))
  (pss_one (ps_ret (pe_op op_mod (pe_op op_mod (pe_op op_mul (pv 3) (pe_op op_add (pe_op op_fdiv (pv 3) pe_int) pe_int)) pe_int) (pv 1)))))))), ?_⟩
    walk_at "rd"
    refine rd_ixL (SqL.of ha) rfl ?_
    walk_at "rd"
    refine rifD (fun c => ?_) (fun c => ?_)
    · walk_at "rd"
      refine rd_ixL (SqL.of ha) rfl ?_
      walk_at "rd"
      refine rd_ixL (SqL.of ha) rfl ?_
      walk_at "rd"
      refine rd_setL ha rfl ?_
      walk_at "rd"
      exact k _ _ _ _ (Int.emod_nonneg _ (by omega)) (Int.emod_lt_of_pos _ h0)
    · walk_at "rd"
      refine rd_ixL (SqL.of ha) rfl ?_
      walk_at "rd"
      refine rd_setL ha rfl ?_
      walk_at "rd"
      refine rd_ixL (SqL.of upd_same) rfl ?_
      walk_at "rd"
      refine rd_ixL (SqL.of upd_same) rfl ?_
      walk_at "rd"
      exact k _ _ _ _ (Int.emod_nonneg _ (by omega)) (Int.emod_lt_of_pos _ h0)
theorem well_id {H : Hp} {a : Addr} {o : HO} {u : HO} (h : H a = some u) : upd (upd H a o) a u = H := by
  funext b
  by_cases hb : b = a
  · rw [hb, upd_same, h]
  · rw [upd_ne hb, upd_ne hb]
theorem spDraw_of (vs : List V) (H : Hp) (Q : VK) (E : XK) (h : spDraw vs H Q E) : vs.length = 2 ∧ ∃ a, H a = some (WellO a) ∧ ∀ x y z : Int, spDraw0 vs (upd H a (.lst [.int x, .int y, .int z]))
      (fun v H' => ∃ x' y' z' : Int, H' a = some (.lst [.int x', .int y', .int z']) ∧ Q v (upd H' a (WellO a))) E := by
  obtain ⟨a, n, rfl, ha, h0, h1, k⟩ := h
  refine ⟨rfl, a, ha, fun x y z => ⟨a, n, x, y, z, rfl, upd_same, h0, h1, fun r x' y' z' r0 r1 => ⟨x', y', z', upd_same, ?_⟩⟩⟩
  rw [upd_upd, well_id ha]
  exact k r r0 r1
theorem rd_draw {H : Hp} {Q : VK} {E : XK} {a : Addr} {m : Int} (ha : H a = some (WellO a)) (h0 : 0 < m) (h1 : m < 1000000) (h : ∀ r : Int, 0 ≤ r → r < m → Q (.int r) H) : spDraw ([.ref a, .int m] ++ []) H Q E := ⟨a, m, rfl, ha, h0, h1, h⟩
theorem c_draw (D : DefAt K mg "_law_draw" s_law_draw) : Cal P w K mg base CX0 1 "_law_draw" spDraw :=
  D.cal (fun _ _ _ _ _ _ us hl => match us, hl with | [_, _], _ => rfl) fun f fd F => well_in (ok_draw0 F sc_law_draw rfl) fun vs H Q E h => spDraw_of vs H Q E h
end

abbrev s_is_int : Stmt := top 12
theorem sc_is_int : FnScope ["value"] ["value"] (defScope s_is_int) := ⟨rfl, rfl, rfl, by decide +kernel, rfl, by decide +kernel, by decide +kernel⟩
abbrev s_is_link : Stmt := top 13
theorem sc_is_link : FnScope ["value", "stations", "part"] ["value", "stations"] (defScope s_is_link) := ⟨rfl, rfl, rfl, by decide +kernel, rfl, by decide +kernel, by decide +kernel⟩
abbrev s_NoNetwork_init : Stmt := inClass (top 2) 0
theorem sc_NoNetwork_init : FnScope ["self", "index"] ["self", "index"] (defScope s_NoNetwork_init) := ⟨rfl, rfl, rfl, by decide +kernel, rfl, by decide +kernel, by decide +kernel⟩
theorem x_of_NoNetwork {P : Program} {w : World} {K : PySem.W.Frag} {mg : Str → Option Value} {base : Heap} {B C : Addr} (ce : CeB K mg B) (D : ExcAt K mg "NoNetwork" C "index" "NoNetwork.__init__" s_NoNetwork_init) : CalX P w K mg base 1 "NoNetwork" C "index" (spErr K C "index") := by
  refine D.cal (ps := ["self", "index"]) (fun _ _ _ _ _ _ us hl => match us, hl with | [_, _], _ => rfl) fun f fd F => ?_
  refine F.ok sc_NoNetwork_init (fun vs H Q E h => ?_) (fun cdv A outer s H vs Q E hr h => ?_)
  · obtain ⟨a, v, rfl, _⟩ := h
    rfl
  · obtain ⟨a, v, rfl, T, nf, ha, k⟩ := h
    refine ⟨_, (pss_cons (ps_expr (pe_ceinit ce rfl (pa_cons (pv 0) (pa_cons pe_str pa_nil))))
  (pss_one (ps_ost (pv 0) (pv 1) rfl))), ?_⟩
    exact ⟨_, rfl, a, C, _, rfl, (by show 1 ≤ 1000; decide), T, ha, _, rfl, _, rfl, a, C, rfl, T, nf, .inl ⟨ha, fun dx hdx hne => k dx hdx hne⟩⟩
/-- is_int: of a value of one of the seven kinds -/
def spIsInt (K : PySem.W.Frag) : Sp := fun vs H Q _ => ∃ (v : V) (T : String), vs = [v] ∧ TyX K H v (.type T) ∧ T ∈ kinds ∧ Q (.bl (T == "int")) H
/-- is a piece of data a link between two of n stations -/
def isLink2 (n : Int) : PyData → PyData → Bool
  | .int a, .int b => decide (0 ≤ a) && decide (a < b) && decide (b < n)
  | _, _ => false
def isLinkD (n : Int) : PyData → Bool
  | .tuple [x, y] => isLink2 n x y
  | _ => false
def spIsLink (Z : List (Addr × Str)) : Sp := fun vs H Q _ => ∃ (v : V) (n : Int) (d : PyData), vs = [v, .int n] ∧ Dt H v d ∧ ∀ H', Sm Z H H' → Q (.bl (isLinkD n d)) H'
section
variable {P : Program} {w : World} {K : PySem.W.Frag} {mg : Str → Option Value} {base : Heap} {Z : List (Addr × Str)}
theorem ok_is_int (T : Bt mg) {f : Addr} {fd : FuncData} (F : Fun K "is_int" "is_int" s_is_int f fd) : FnOk P w K mg base CX0 1 f fd ["value"] (spIsInt K) := by
  refine F.ok sc_is_int (fun vs H Q E h => ?_) (fun cdv A outer s H vs Q E hr h => ?_)
  · obtain ⟨v, T, rfl, _⟩ := h
    rfl
  · obtain ⟨v, t, rfl, ht, hk, k⟩ := h
    refine ⟨_, (pss_one (ps_ret (pe_and (pe_callB (call_isiK K) (by rfl) T.no_isinstance (by decide +kernel) (pa_cons (pv 0) (pa_cons (pe_ty "int" (by rfl) T.no_int (by decide +kernel)) pa_nil))) (pe_one (pe_not (pe_callB (call_isiK K) (by rfl) T.no_isinstance (by decide +kernel) (pa_cons (pv 0) (pa_cons (pe_ty "bool" (by rfl) T.no_bool (by decide +kernel)) pa_nil)))))))), ?_⟩
    walk_at "rd"
    refine rd_isi ht (kit_int hk) ?_
    walk_at "rd"
    refine rif (fun c => ?_) (fun c => ?_)
    · walk_at "rd"
      refine rd_isi ht (kit_bool hk) ?_
      walk_at "rd"
      have e : (!(t == "bool")) = (t == "int") := by
        simp only [kinds, List.mem_cons, List.not_mem_nil, or_false] at hk
        rcases hk with rfl | rfl | rfl | rfl | rfl | rfl | rfl <;> first | rfl | exact absurd c (by decide)
      rw [e]
      exact k
    · have e : (t == "int") = false := by
        simp only [kinds, List.mem_cons, List.not_mem_nil, or_false] at hk
        rcases hk with rfl | rfl | rfl | rfl | rfl | rfl | rfl <;> first | rfl | exact absurd c (by decide)
      rw [e] at k
      exact k
theorem c_isint (T : Bt mg) (D : DefAt K mg "is_int" s_is_int) : Cal P w K mg base CX0 1 "is_int" (spIsInt K) :=
  D.cal (fun _ _ _ _ _ _ us hl => match us, hl with | [_], _ => rfl) fun f fd F => ok_is_int T F
theorem ok_is_link (T : Bt mg) (c_is_int : Cal P w K mg base CX0 1 "is_int" (spIsInt K)) {f : Addr} {fd : FuncData} (F : Fun K "is_link" "is_link" s_is_link f fd) : FnOk P w K mg base CX0 2 f fd ["value", "stations"] (spIsLink Z) := by
  refine F.ok sc_is_link (fun vs H Q E h => ?_) (fun cdv A outer s H vs Q E hr h => ?_)
  · obtain ⟨v, n, d, rfl, _⟩ := h
    rfl
  · obtain ⟨v, n, d, rfl, hd, k⟩ := h
    refine ⟨_, (pss_cons (ps_if (PW.pt (pw_or (pt_not (pt_val (pe_callB (call_isiK K) (by rfl) T.no_isinstance (by decide +kernel) (pa_cons (pv 0) (pa_cons (pe_ty "tuple" (by rfl) T.no_tuple (by decide +kernel)) pa_nil))))) (pw_or (pt_cmpR op_ne (pe_callB (call_lenK K) (by rfl) T.no_len (by decide +kernel) (pa_cons (pv 0) pa_nil)) pe_int (nomark _)) (pw_or1 (pt_not (pt_val (pe_callB (cr_allK K rfl) (by rfl) T.no_all (by decide +kernel) (pa_cons (pe_lc (own := [("part", 2)]) (g := gName 2) rfl sc_is_link.nd (pi_tupK K (pv 0)) (blkOk_by (by kernel_rfl)) (fun _ _ _ _ _ => (pg_name (i := 2) sc_is_link.nd rfl (Or.inl rfl))) (fun _ _ _ _ _ => pts_nil) (fun _ _ _ _ _ => (pe_cal hr (by decide) c_is_int pass0 rfl (pa_cons (pv 2) pa_nil)))) pa_nil)))))))) (pss_one (ps_ret pe_bl)) pss_nil)
  (pss_one (ps_ret (pe_chain3 op_le op_lt op_lt pe_int (pe_ix (ix_tupK K) (pv 0) pe_int (fun _ _ => rfl)) (pe_ix (ix_tupK K) (pv 0) pe_int (fun _ _ => rfl)) (pv 1))))), ?_⟩
    walk_at "rd"
    refine rd_isi hd.ty (kit_tuple (tyN_kind d)) ?_
    walk_at "rd"
    cases hd with
    | tup ha hds =>
      rename_i a xs ds
      walk_at "rd"
      refine L2.iteF ?_
      walk_at "rd"
      refine rd_lenT (SqT.of ha) ?_
      walk_at "rd"
      have hl := hds.length
      refine rifN (fun c => ?_) (fun c => ?_)
      · walk_at "rd"
        have e : isLinkD n (.tuple ds) = false := by
          match ds, hl with
          | [], _ => rfl
          | [_], _ => rfl
          | [_, _], hl => exact absurd (by rw [hl]; rfl) c
          | _ :: _ :: _ :: _, _ => rfl
        have k' := k H (Sm.refl H)
        rw [e] at k'
        exact k'
      · have c2 : xs.length = 2 := by omega
        obtain ⟨x1, x2, rfl⟩ : ∃ x1 x2, xs = [x1, x2] := by
          match xs, c2 with
          | [x1, x2], _ => exact ⟨x1, x2, rfl⟩
        cases hds with
        | cons h1 hds =>
          cases hds with
          | cons h2 hds =>
            cases hds
            rename_i d1 d2
            walk_at "rd"
            refine ⟨a, rfl, ⟨_, SqT.of ha⟩, ?_⟩
            refine lcm_w (T := Z) (wk_tup (SqT.of ha)) (by show 2 < sizeLine; decide) (fun i => .bl (tyN (if i = 0 then d1 else d2) == "int")) (fun i x H1 H2 hi s1 s2 it kt ht => ?_) (fun D H' fD s hD => ?_)
            · refine ⟨rfl, ?_⟩
              walk_at "rd"
              have hx : ∃ d, Dt H x d ∧ d = (if i = 0 then d1 else d2) := by
                match i, hi, it with
                | 0, _, it =>
                  obtain rfl : x1 = x := Option.some.inj it
                  exact ⟨d1, h1, rfl⟩
                | 1, _, it =>
                  obtain rfl : x2 = x := Option.some.inj it
                  exact ⟨d2, h2, rfl⟩
                | i + 2, hi, _ => exact absurd hi (by show ¬ (i + 2 < 2); omega)
              obtain ⟨d, hx, rfl⟩ := hx
              exact ⟨x, _, rfl, ((hx.sm s1).same s2).ty, tyN_kind _, ht _ (Sm.of s2)⟩
            · walk_at "rd"
              refine ⟨D, [tyN d1 == "int", tyN d2 == "int"], rfl, SqL.of hD, ?_⟩
              walk_at "rd"
              have k' := k H' s
              refine rif (fun c => ?_) (fun c => ?_)
              · walk_at "rd"
                have e : isLinkD n (.tuple [d1, d2]) = false := by
                  cases d1 with
                  | int a =>
                    cases d2 with
                    | int b => simp [tyN] at c
                    | _ => rfl
                  | _ => rfl
                rw [e] at k'
                exact k'
              · have hd12 : ∃ i j, d1 = .int i ∧ d2 = .int j := by
                  cases d1 with
                  | int a =>
                    cases d2 with
                    | int b => exact ⟨a, b, rfl, rfl⟩
                    | _ => simp [tyN] at c
                  | _ =>
                    simp [tyN] at c
                obtain ⟨i, j, rfl, rfl⟩ := hd12
                cases h1
                cases h2
                walk_at "rd"
                refine rd_ixT (SqT.of (s.tup ha)) rfl ?_
                walk_at "rd"
                have e : isLinkD n (.tuple [.int i, .int j]) = (decide (0 ≤ i) && decide (i < j) && decide (j < n)) := rfl
                rw [e] at k'
                refine rifD (fun c1 => ?_) (fun c1 => ?_)
                · walk_at "rd"
                  refine rd_ixT (SqT.of (s.tup ha)) rfl ?_
                  walk_at "rd"
                  refine rifD (fun c2 => ?_) (fun c2 => ?_)
                  · walk_at "rd"
                    rw [decide_eq_true c1, decide_eq_true c2] at k'
                    exact k'
                  · rw [decide_eq_true c1, decide_eq_false c2] at k'
                    exact k'
                · rw [decide_eq_false c1] at k'
                  exact k'
    | _ =>
      walk_at "rd"
      exact k H (Sm.refl H)
end


abbrev s_Network_init : Stmt := inClass (top 14) 0
theorem sc_Network_init : FnScope ["self", "stations", "links", "index", "link", "one", "other", "station"] ["self", "stations", "links"] (defScope s_Network_init) := ⟨rfl, rfl, rfl, by decide +kernel, rfl, by decide +kernel, by decide +kernel⟩
abbrev s_Network_len : Stmt := inClass (top 14) 2
theorem sc_Network_len : FnScope ["self"] ["self"] (defScope s_Network_len) := ⟨rfl, rfl, rfl, by decide +kernel, rfl, by decide +kernel, by decide +kernel⟩
/-- the item at i is no link, or repeats an earlier one -/
def badAt (n : Int) (ds : List PyData) (i : Nat) : Bool := match ds[i]? with
  | some d => !isLinkD n d || (ds.take i).any fun z => PyData.eqv z d
  | none => false
theorem eqv_lkD (a b : Lk) : PyData.eqv (lkD a) (lkD b) = true ↔ a = b := by
  obtain ⟨a1, a2⟩ := a
  obtain ⟨b1, b2⟩ := b
  simp [lkD, PyData.eqv, PyData.eqvAll]
theorem isLinkD_of {n : Int} {d : PyData} (h : isLinkD n d = true) : ∃ e : Lk, d = lkD e ∧ OkLk n.toNat e := by
  unfold isLinkD at h
  split at h
  · rename_i x y
    unfold isLink2 at h
    split at h
    · rename_i a b
      simp only [Bool.and_eq_true, decide_eq_true_eq] at h
      exact ⟨(a, b), rfl, h.1.1, h.1.2, by show b < (n.toNat : Int); omega⟩
    · cases h
  · cases h
theorem isLinkD_lk {n : Int} {e : Lk} (h : OkLk n.toNat e) : isLinkD n (lkD e) = true := by
  obtain ⟨h1, h2, h3⟩ := h
  show (decide (0 ≤ e.1) && decide (e.1 < e.2) && decide (e.2 < n)) = true
  rw [decide_eq_true h1, decide_eq_true h2, decide_eq_true (by omega)]
  rfl
theorem lkD_list : ∀ {ds : List PyData}, (∀ d ∈ ds, ∃ e : Lk, d = lkD e) → ∃ es : List Lk, ds = es.map lkD
  | [], _ => ⟨[], rfl⟩
  | d :: ds, h => by
    obtain ⟨e, rfl⟩ := h d List.mem_cons_self
    obtain ⟨es, rfl⟩ := lkD_list fun z m => h z (List.mem_cons_of_mem _ m)
    exact ⟨e :: es, rfl⟩
theorem good_links {n : Int} {ds : List PyData} (h : ∀ i : Nat, badAt n ds i = false) : ∃ es : List Lk, ds = es.map lkD ∧ OkLks n.toNat es := by
  have link : ∀ d ∈ ds, isLinkD n d = true := fun d m => by
    obtain ⟨i, hi⟩ := List.mem_iff_getElem?.mp m
    have := h i
    unfold badAt at this
    rw [hi] at this
    cases c : isLinkD n d with
    | true => rfl
    | false =>
      have this' : (!isLinkD n d || (ds.take i).any fun z => PyData.eqv z d) = false := this
      rw [c] at this'
      cases this'
  obtain ⟨es, rfl⟩ := lkD_list fun d m => let ⟨e, h1, _⟩ := isLinkD_of (link d m); ⟨e, h1⟩
  refine ⟨es, rfl, fun e m => ?_, ?_⟩
  · obtain ⟨e', h1, h2⟩ := isLinkD_of (link (lkD e) (List.mem_map_of_mem m))
    have : e = e' := (eqv_lkD e e').mp (by rw [← h1]; exact (eqv_lkD e e).mpr rfl)
    rw [this]
    exact h2
  · refine List.pairwise_iff_getElem.mpr fun i j hi hj hij eq => ?_
    have := h j
    unfold badAt at this
    rw [List.getElem?_map, List.getElem?_eq_getElem hj] at this
    have hb : (((es.map lkD).take j).any fun z => PyData.eqv z (lkD es[j])) = true := by
      refine List.any_eq_true.mpr ⟨lkD es[i], ?_, (eqv_lkD _ _).mpr eq⟩
      rw [← List.map_take]
      exact List.mem_map_of_mem (List.mem_iff_getElem?.mpr ⟨i, by rw [List.getElem?_take, if_pos hij, List.getElem?_eq_getElem hi]⟩)
    have this' : (!isLinkD n (lkD es[j]) || ((es.map lkD).take j).any fun z => PyData.eqv z (lkD es[j])) = false := this
    rw [hb, Bool.or_true] at this'
    cases this'
theorem dt_paired {H : Hp} : ∀ {xs : List V} {es : List Lk}, DtAll H xs (es.map lkD) → Paired (IsPr H) xs es
  | xs, [], h => by cases h; exact .nil
  | xs, e :: es, h => by
    rw [List.map_cons] at h
    cases h with
    | cons a r =>
      refine .cons ?_ (dt_paired r)
      cases a with
      | tup ht q =>
        cases q with
        | cons q1 q =>
          cases q with
          | cons q2 q =>
            cases q
            cases q1
            cases q2
            exact ⟨_, rfl, ht⟩
/-- what is wanted of a NoNetwork with this index -/
def RaisesIx (Z : List (Addr × Str)) (E : XK) (CN : Addr) (H : Hp) (i : Int) : Prop := ∀ d H', Sm Z H H' → H' d = some (.xd [("index", .int i)]) → E (.ref CN) (some d) H'
/-- a Network that shares no list with H -/
def NetF (C : Addr) (H H' : Hp) (p : Addr) (n : Nat) (ks : List Lk) : Prop := NetAt C H' p n ks ∧ ∀ (r : Addr) (rs : List V), H r = some (.lst rs) → ∀ H'' : Hp, (∀ b, b ≠ r → H'' b = H' b) → NetAt C H'' p n ks
def spNetInit (Z : List (Addr × Str)) (K : PySem.W.Frag) (C CN : Addr) : Sp := fun vs H Q E => ∃ (p dx : Addr) (v l : V) (tv tl : String), vs = [.ref p, v, l] ∧ H p = some (.ins C dx []) ∧ TyX K H v (.type tv) ∧ tv ∈ kinds ∧ TyX K H l (.type tl) ∧ tl ∈ kinds ∧
  ((((tv = "int" → ∃ n, v = .int n ∧ ¬ (1 ≤ n ∧ n ≤ 60)) ∨ tl ≠ "list") ∧ RaisesIx Z E CN H (-1)) ∨
   (∃ (n : Int) (L : Addr) (xs : List V) (ds : List PyData), tv = "int" ∧ tl = "list" ∧ v = .int n ∧ l = .ref L ∧ 1 ≤ n ∧ n ≤ 60 ∧ H L = some (.lst xs) ∧ DtAll H xs ds ∧ (∀ d ∈ ds, Okd 63 d) ∧ ds.length ≤ 100000 ∧
     ((∃ i : Nat, badAt n ds i = true ∧ (∀ j : Nat, j < i → badAt n ds j = false) ∧ RaisesIx Z E CN H (i : Int)) ∨
      ((∀ i : Nat, badAt n ds i = false) ∧ ∀ es : List Lk, PairsAt H L es → OkLks n.toNat es → ∀ (ks : List Lk) (H' : Hp), Smx Z p H H' → ks.Perm es → ks.Pairwise (fun x y => SrtO.lexB y x = false) → NetF C H H' p n.toNat ks → Q .non H'))))

section
variable {P : Program} {w : World} {K : PySem.W.Frag} {mg : Str → Option Value} {base : Heap} {Z : List (Addr × Str)} {C CN : Addr}
theorem ty_int {H : Hp} {v : V} {t : String} (h : TyX K H v (.type t)) (e : t = "int") : ∃ n, v = .int n := by
  cases h with
  | base h =>
    cases h with
    | int n => exact ⟨n, rfl⟩
    | _ => exact absurd e (by decide)
  | _ => exact absurd e (by decide)
theorem ok_net_init (T : Bt mg) (N : NetC K C) (g_MAX_STATIONS : ∃ t, mg "MAX_STATIONS" = some (.int 60 t)) (c_is_int : Cal P w K mg base CX0 1 "is_int" (spIsInt K)) (c_is_link : Cal P w K mg base CX0 2 "is_link" (spIsLink Z))
    (x_NoNetwork : CalX P w K mg base 1 "NoNetwork" CN "index" (spErr K CN "index")) {f : Addr} {fd : FuncData} (F : Fun K "__init__" "Network.__init__" s_Network_init f fd) :
    FnOk P w K mg base (L2.CX P w) 4 f fd ["self", "stations", "links"] (spNetInit Z K C CN) := by
  refine F.okX sc_Network_init (fun vs H Q E h => ?_) (fun cdv A outer s H vs Q E hr h => ?_)
  · obtain ⟨p, dx, v, l, tv, tl, rfl, _⟩ := h
    rfl
  · obtain ⟨p, dx, v, l, tv, tl, rfl, hp, htv, hkv, htl, hkl, k⟩ := h
    refine ⟨_, (pss_cons (ps_if (PW.pt (pw_or (pt_not (pt_val (pe_cal hr (by decide) c_is_int pass0 rfl (pa_cons (pv 1) pa_nil)))) (pw_or (pt_not (pt_chain op_le op_le pe_int (pv 1) (pe_globI rfl g_MAX_STATIONS))) (pw_or1 (pt_not (pt_val (pe_callB (call_isiK K) (by rfl) T.no_isinstance (by decide +kernel) (pa_cons (pv 2) (pa_cons (pe_ty "list" (by rfl) T.no_list (by decide +kernel)) pa_nil))))))))) (pss_one (ps_raiseOwn rfl hr (by decide) x_NoNetwork (takes_of rfl rfl rfl rfl) rfl (pa_cons (pe_un un_neg pe_int) pa_nil))) pss_nil)
  (pss_cons (ps_for (passes_of rfl) rfl (pi_enumK K (by rfl) T.no_enumerate (pa_cons (pv 2) pa_nil)) (pg_tupK K 2 rfl (pgs_cons (pg_name (i := 3) sc_Network_init.nd rfl (Or.inl rfl)) (pgs_cons (pg_name (i := 4) sc_Network_init.nd rfl (Or.inl rfl)) pgs_nil))) (pss_one (ps_if (PW.pt (pw_or (pt_not (pt_val (pe_cal hr (by decide) c_is_link pass0 rfl (pa_cons (pv 4) (pa_cons (pv 1) pa_nil))))) (pw_or1 (pt_cmpR (op_inDK K (hu65 hr)) (pv 4) (pe_slice (sl_listK K) (pv 2) po_none (po_some (pv 3))) (by rfl))))) (pss_one (ps_raiseOwn rfl hr (by decide) x_NoNetwork (takes_of rfl rfl rfl rfl) rfl (pa_cons (pv 3) pa_nil))) pss_nil)))
  (pss_cons (ps_fld (pv 0) (pe_callB (sortedPOK K) (by rfl) T.no_sorted (by decide +kernel) (pa_cons (pv 2) pa_nil)) rfl)
  (pss_cons (ps_fld (pv 0) (pe_lc (own := [("station", 7)]) (g := gName 7) rfl sc_Network_init.nd (pi_range1 (by rfl) T.no_range (pa_cons (pv 1) pa_nil)) (blkOk_by (by kernel_rfl)) (fun _ _ _ _ _ => (pg_name (i := 7) sc_Network_init.nd rfl (Or.inl rfl))) (fun _ _ _ _ _ => pts_nil) (fun _ _ _ _ _ => (pe_lst pa_nil))) rfl)
  (pss_one (ps_for (passes_of rfl) rfl (pi_listK K (pe_fldK K (pv 0) rfl)) (pg_tupK K 2 rfl (pgs_cons (pg_name (i := 5) sc_Network_init.nd rfl (Or.inl rfl)) (pgs_cons (pg_name (i := 6) sc_Network_init.nd rfl (Or.inl rfl)) pgs_nil))) (pss_cons (ps_expr (pe_bmK K PySem.F.plainAttrs_list PySem.F.slot_list_append PySem.F.type_list_append mt_append (pe_ix (ix_listK K) (pe_fldK K (pv 0) rfl) (pv 5) (fun _ _ => rfl)) (pa_cons (pv 6) pa_nil)))
  (pss_one (ps_expr (pe_bmK K PySem.F.plainAttrs_list PySem.F.slot_list_append PySem.F.type_list_append mt_append (pe_ix (ix_listK K) (pe_fldK K (pv 0) rfl) (pv 6) (fun _ _ => rfl)) (pa_cons (pv 5) pa_nil))))))))))), ?_⟩
    walk_at "rd"
    refine ⟨v, tv, rfl, htv, hkv, ?_⟩
    walk_at "rd"
    have bad0 : ((tv = "int" → ∃ n, v = .int n ∧ ¬ (1 ≤ n ∧ n ≤ 60)) ∨ tl ≠ "list") → ∀ d H', NewO H d (.xd [("index", .int (-1))]) H' → E (.ref CN) (some d) H' := fun hb d H' hd => by
      rcases k with k | ⟨n, L, xs, ds, e1, e2, rfl, rfl, h1, h2, hL, _⟩
      · exact k.2 d _ (Sm.of hd.s) hd.at'
      · exfalso
        rcases hb with hb | hb
        · obtain ⟨m, em, hm⟩ := hb e1
          cases em
          exact hm ⟨h1, h2⟩
        · exact hb e2
    refine rif (fun c => ?_) (fun c => ?_)
    · have c1 : tv ≠ "int" := by simpa using c
      walk_at "rd"
      exact bad0 (.inl (fun e => absurd e c1))
    have c1 : tv = "int" := by simpa using c
    obtain ⟨n, rfl⟩ := ty_int htv c1
    walk_at "rd"
    have b1 : ¬ (1 ≤ n ∧ n ≤ 60) → ∀ d H', NewO H d (.xd [("index", .int (-1))]) H' → E (.ref CN) (some d) H' := fun hb => bad0 (.inl fun _ => ⟨n, rfl, hb⟩)
    refine rifDn (fun c2 => ?_) (fun c2 => ?_)
    · walk_at "rd"
      exact b1 fun z => c2 z.1
    obtain ⟨tk, gm⟩ := g_MAX_STATIONS
    walk_at "rd"
    refine rifN (fun c3 => ?_) (fun c3 => ?_)
    · walk_at "rd"
      exact b1 fun z => c3 z.2
    walk_at "rd"
    refine rd_isi htl (kit_list hkl) ?_
    walk_at "rd"
    refine rif (fun c4 => ?_) (fun c4 => ?_)
    · walk_at "rd"
      exact bad0 (.inr (by simpa using c4))
    have c5 : tl = "list" := by simpa using c4
    rcases k with ⟨hb | hb, _⟩ | ⟨n, L, xs, ds, -, -, en, rfl, -, -, hL, hds, hsh, hlen, k⟩
    · obtain ⟨m, em, hm⟩ := hb c1
      cases em
      exact absurd ⟨c2, c3⟩ hm
    · exact absurd c5 hb
    cases en
    walk_at "rd"
    refine ⟨L, xs, rfl, SqL.of hL, ?_⟩
    have hxl : xs.length = ds.length := hds.length
    refine for_w (T := Z) (wk_enum (SqL.of hL)) (fun i σ' H' => ∃ u3 u4, σ' = [some (.ref p), some (.int n), some (.ref L), u3, u4, none, none, none] ∧ Sm Z H H' ∧ ∀ j : Nat, j < i → badAt n ds j = false) ⟨none, none, rfl, Sm.refl H, fun j hj => absurd hj (Nat.not_lt_zero j)⟩ (fun i σ' H' h => by obtain ⟨_, _, _, h, _⟩ := h; exact h) (fun i x σ1 H1 H2 hi hP s2 hit => ?_) (fun σ' H' hP => ?_)
    · obtain ⟨u3, u4, rfl, s1, good⟩ := hP
      obtain ⟨t, y, rfl, ht, hy⟩ := hit
      obtain ⟨d, hd, hyd⟩ := hds.get hy
      have s12 := s1.new s2
      have raised : badAt n ds i = true → ∀ H', Sm Z H H' → ∀ d H2, NewO H' d (.xd [("index", .int (i : Int))]) H2 → E (.ref CN) (some d) H2 := fun hb H' sH d1 H2 hd1 => by
        rcases k with ⟨i0, h1, h2, h3⟩ | ⟨h1, _⟩
        · have e : i0 = i := by
            by_cases c : i0 < i
            · rw [good i0 c] at h1
              cases h1
            · by_cases c : i < i0
              · rw [h2 i c] at hb
                cases hb
              · omega
          subst e
          exact h3 d1 _ (sH.new hd1.s) hd1.at'
        · rw [h1 i] at hb
          cases hb
      refine rd_gtup2 (SqT.of ht) rfl ?_
      walk_at "rd"
      refine ⟨y, n, d, rfl, hyd.sm s12, fun H3 s3 => ?_⟩
      walk_at "rd"
      have s13 := s12.trans s3
      refine rif (fun c => ?_) (fun c => ?_)
      · walk_at "rd"
        exact raised (by unfold badAt; rw [hd]; show (!isLinkD n d || _) = true; rw [c]; rfl) H3 s13
      walk_at "rd"
      refine rd_slL (SqL.of (s13.lst hL)) (fun q H4 nq => ?_)
      have s14 := s13.new nq.s
      have hq4 := nq.at'
      rw [cutV_take] at hq4
      refine ⟨d, ds.take i, (hyd.sm s14).dp (hsh d (List.mem_of_getElem? hd)).1, (Dt.lst hq4 ((hds.sm s14).take i)).dp (okd_list.mpr fun e he => hsh e (List.mem_of_mem_take he)).1, (hsh d (List.mem_of_getElem? hd)).sh, (okd_list.mpr fun e he => hsh e (List.mem_of_mem_take he)).sh, ?_⟩
      walk_at "rd"
      refine rif (fun c' => ?_) (fun c' => ?_)
      · walk_at "rd"
        exact raised (by unfold badAt; rw [hd]; show (!isLinkD n d || _) = true; rw [c', Bool.or_true]) H4 s14
      walk_at "rd"
      refine ⟨_, _, rfl, s14, fun j hj => ?_⟩
      by_cases cj : j < i
      · exact good j cj
      · have e : j = i := by omega
        subst e
        unfold badAt
        rw [hd]
        show (!isLinkD n d || _) = false
        rw [c, c']
        rfl
    · obtain ⟨u3, u4, rfl, s1, good⟩ := hP
      rcases k with ⟨i0, h1, h2, h3⟩ | ⟨allgood, k⟩
      · by_cases c : i0 < xs.length
        · rw [good i0 c] at h1
          cases h1
        · unfold badAt at h1
          rw [List.getElem?_eq_none (by omega)] at h1
          cases h1
      obtain ⟨es, rfl, hok⟩ := good_links allgood
      have pL : PairsAt H L es := ⟨xs, hL, dt_paired hds⟩
      walk_at "rd"
      refine rd_sortedP (pL.sm s1) (fun q H2 ks nq sq hperm hsrt pq => ?_)
      walk_at "rd"
      have s2 := s1.new sq
      refine ⟨p, C, dx, [], rfl, s2.ins hp, N.cl, N.nk, (by show 0 < 1000; decide), ?_⟩
      refine rd_write (fun H3 h3 k3 => ?_)
      have qp : q ≠ p := fun z => by
        have := s1.ins hp
        rw [← z, nq] at this
        cases this
      have x3 : Smx Z p H H3 := (Smx.of s2).put (s2.ins hp) ins_no k3
      obtain ⟨qs, hq2, hqs2⟩ := pq
      have hq3 : H3 q = some (.lst qs) := by rw [k3 q qp]; exact hq2
      have hqs3 : Paired (IsPr H3) qs ks := Paired.mapP hqs2 fun v e ⟨t, h1, h2⟩ => ⟨t, h1, by rw [k3 t (fun z => by rw [z, s2.ins hp] at h2; cases h2)]; exact h2⟩
      walk_at "rd"
      refine ⟨n, rfl, by omega, by omega, ?_⟩
      have hn0 : n.toNat < sizeLine := by rw [sizeLine_eq]; omega
      refine lc_fresh (T := Z) (wk_range 0 n.toNat) hn0 (fun _ => rfl) (fun D H4 ps fD s4 hD hps nd nDps fps rows => ?_)
      walk_at "rd"
      have Dp : D ≠ p := fun z => by
        obtain ⟨_, e⟩ := fD _ (z ▸ h3)
        cases e
      refine ⟨p, C, dx, _, rfl, s4.ins h3, N.cl, N.nn, (by have := length_putF ("kept" : Str) (.ref q) []; simp only [List.length_nil] at this; omega), ?_⟩
      refine rd_write (fun H5 h5 k5 => ?_)
      have x5 : Smx Z p H H5 := (x3.trans (Smx.of s4)).put (s4.ins h3) ins_no k5
      have hq5 : H5 q = some (.lst qs) := by rw [k5 q qp]; exact s4.lst hq3
      have hqs5 : Paired (IsPr H5) qs ks := Paired.mapP hqs3 fun v e ⟨t, h1, h2⟩ => ⟨t, h1, by rw [k5 t (fun z => by rw [z, h3] at h2; cases h2)]; exact s4.tup h2⟩
      have hD5 : H5 D = some (.lst (ps.map V.ref)) := by rw [k5 D Dp]; exact hD
      have rows5 : RowsP H5 ps (nbrs n.toNat (ks.take 0)) := by
        rw [List.take_zero, nbrs_nil]
        refine Paired.mapP rows fun a b z => ?_
        rw [k5 a (fun c => by rw [c, s4.ins h3] at z; cases z)]
        exact z
      have hokk : ∀ e ∈ ks, OkLk n.toNat e := fun e m => hok.1 e (hperm.mem_iff.mp m)
      walk_at "rd"
      refine ⟨p, C, dx, netFs q D, .ref q, rfl, h5, N.cl, N.nk, netFs_kept q D, q, rfl, ⟨qs, SqL.of hq5⟩, ?_⟩
      refine for_i (wki_list (xs := qs)) (fun i σ' H' => ∃ u5 u6, σ' = [some (.ref p), some (.int n), some (.ref L), u3, u4, u5, u6, none] ∧ Smx Z p H H' ∧ H' p = some (.ins C dx (netFs q D)) ∧ H' q = some (.lst qs) ∧ Paired (IsPr H') qs ks ∧
        H' D = some (.lst (ps.map V.ref)) ∧ RowsP H' ps (nbrs n.toNat (ks.take i))) ⟨none, none, rfl, x5, h5, hq5, hqs5, hD5, rows5⟩ (fun i σ' H' _ h => by obtain ⟨_, _, _, _, _, h, _⟩ := h; exact SqL.of h)
        (fun i x σ1 H6 H7 hi hP s7 hit => ?_) (fun σ' H6 hP => ?_)
      · obtain ⟨u5, u6, rfl, x6, h6, hq6, hqs6, hD6, rows6⟩ := hP
        obtain ⟨e, he, t, rfl, ht⟩ := paired_get hqs6 hit
        have ok := hokk e (List.mem_of_getElem? he)
        have rows7 : RowsP H7 ps (nbrs n.toNat (ks.take i)) := rows6.sm (T := Z) (Sm.of s7)
        refine rd_gtup2 (SqT.of (s7 _ _ ht)) rfl ?_
        walk_at "rd"
        have h7 := s7 _ _ h6
        have hD7 := s7 _ _ hD6
        obtain ⟨h0, h1, h2⟩ := ok
        obtain ⟨p1, p2, a1, a2, b1, kk⟩ := rows_link rows7 nd ⟨h0, h1, h2⟩
        have len : ∀ v : Int, ((nbr (ks.take i) v).map V.int).length < sizeLine := fun v => by
          have z1 := nbr_len (ks.take i) v
          have z2 : (ks.take i).length ≤ ks.length := by rw [List.length_take]; omega
          have z3 := hperm.length_eq
          rw [List.length_map] at hlen ⊢
          rw [sizeLine_eq]
          omega
        refine ⟨p, C, dx, _, .ref D, rfl, h7, N.cl, N.nn, netFs_near q D, ?_⟩
        walk_at "rd"
        refine rd_ixL (SqL.of hD7) (sat (j := e.1.toNat) (by omega) (by rw [List.getElem?_map, a1]; rfl)) ?_
        refine ⟨tyL b1, ?_⟩
        walk_at "rd"
        refine rd_append b1 (len _) ?_
        refine rd_write (fun H8 h8 k8 => ?_)
        have m1 := List.mem_of_getElem? a1
        have m2 := List.mem_of_getElem? a2
        have p_ne : ∀ b ∈ ps, p ≠ b := fun b m => (fps b m).ne h3 fun _ z => nomatch z
        have q_ne : ∀ b ∈ ps, q ≠ b := fun b m => (fps b m).ne hq3 fun _ z => nomatch z
        have D_ne : ∀ b ∈ ps, D ≠ b := fun b m z => nDps (z ▸ m)
        rw [show ((nbr (ks.take i) e.1).map V.int) ++ [V.int e.2] = ((nbr (ks.take i) e.1) ++ [e.2]).map V.int by rw [List.map_append]; rfl] at h8
        obtain ⟨b2, kk⟩ := kk H8 h8 k8
        have hp8 : H8 p = some (.ins C dx (netFs q D)) := by rw [k8 p (p_ne _ m1)]; exact h7
        have hD8 : H8 D = some (.lst (ps.map V.ref)) := by rw [k8 D (D_ne _ m1)]; exact hD7
        walk_at "rd"
        refine ⟨p, C, dx, _, .ref D, rfl, hp8, N.cl, N.nn, netFs_near q D, ?_⟩
        walk_at "rd"
        refine rd_ixL (SqL.of hD8) (sat (j := e.2.toNat) (by omega) (by rw [List.getElem?_map, a2]; rfl)) ?_
        refine ⟨tyL b2, ?_⟩
        walk_at "rd"
        refine rd_append b2 (len _) ?_
        refine rd_write (fun H9 h9 k9 => ?_)
        rw [show ((nbr (ks.take i) e.2).map V.int) ++ [V.int e.1] = ((nbr (ks.take i) e.2) ++ [e.1]).map V.int by rw [List.map_append]; rfl] at h9
        have rows9 := kk H9 h9 k9
        have hp9 : H9 p = some (.ins C dx (netFs q D)) := by rw [k9 p (p_ne _ m2)]; exact hp8
        have hD9 : H9 D = some (.lst (ps.map V.ref)) := by rw [k9 D (D_ne _ m2)]; exact hD8
        have hq9 : H9 q = some (.lst qs) := by rw [k9 q (q_ne _ m2), k8 q (q_ne _ m1)]; exact s7 _ _ hq6
        have hqs9 : Paired (IsPr H9) qs ks := Paired.mapP hqs6 fun v e ⟨t, z1, z2⟩ => by
          have z3 := s7 _ _ z2
          refine ⟨t, z1, ?_⟩
          have z4 : H8 t = some (.tup [.int e.1, .int e.2]) := by rw [k8 t (fun z => by rw [z, b1] at z3; cases z3)]; exact z3
          rw [k9 t (fun z => by rw [z, b2] at z4; cases z4)]
          exact z4
        have f1 : ∀ b ∈ ps, Fr H b := fun b m => x3.fr (p_ne b m).symm (fps b m)
        refine ⟨_, _, rfl, ((x6.trans (Smx.of (Sm.of s7))).mutL (f1 _ m1) b1 k8).mutL (f1 _ m2) b2 k9, hp9, hq9, hqs9, hD9, ?_⟩
        rw [List.take_add_one, he]
        exact rows9
      · obtain ⟨u5, u6, rfl, x6, h6, hq6, hqs6, hD6, rows6⟩ := hP
        rw [Paired.length hqs6, List.take_length] at rows6
        refine k es pL hok ks H6 x6 hperm hsrt ⟨⟨dx, q, D, h6, ⟨qs, hq6, hqs6⟩, ⟨ps, hD6, rows6⟩⟩, fun r rs hr H'' k'' => ?_⟩
        have hr1 := s1.lst hr
        have hr2 := s2.lst hr
        have rp : p ≠ r := fun z => by rw [← z, hp] at hr; cases hr
        have hr3 : H3 r = some (.lst rs) := by rw [k3 r rp.symm]; exact hr2
        have rq : q ≠ r := fun z => by rw [← z, nq] at hr1; cases hr1
        have rD : D ≠ r := fun z => fD.ne hr3 (fun _ z => nomatch z) z.symm
        have rps : ∀ b ∈ ps, b ≠ r := fun b m z => (fps b m).ne hr3 (fun _ z => nomatch z) z.symm
        refine ⟨dx, q, D, by rw [k'' p rp]; exact h6, ⟨qs, by rw [k'' q rq]; exact hq6, Paired.mapP hqs6 fun v e ⟨t, z1, z2⟩ => ?_⟩, ⟨ps, by rw [k'' D rD]; exact hD6, ?_⟩⟩
        · refine ⟨t, z1, ?_⟩
          rw [k'' t fun z => by rw [z, x6.1 r _ rp.symm hr (fun _ z => nomatch z)] at z2; cases z2]
          exact z2
        · exact RowsP.keep rows6 (fun m => rps r m rfl) k''
end

section
variable {P : Program} {w : World} {K : PySem.W.Frag} {mg : Str → Option Value} {base : Heap} {Z : List (Addr × Str)} {C CN : Addr}
theorem c_islink (T : Bt mg) (c_is_int : Cal P w K mg base CX0 1 "is_int" (spIsInt K)) (D : DefAt K mg "is_link" s_is_link) : Cal P w K mg base CX0 2 "is_link" (spIsLink Z) :=
  D.cal (fun _ _ _ _ _ _ us hl => match us, hl with | [_, _], _ => rfl) fun f fd F => ok_is_link T c_is_int F
end
section
variable {P : Program} {w : World} {K : PySem.W.Frag} {mg : Str → Option Value} {base : Heap} {Z : List (Addr × Str)} {C CN : Addr}
theorem ok_net_len (T : Bt mg) (N : NetC K C) {f : Addr} {fd : FuncData} (F : Fun K "__len__" "Network.__len__" s_Network_len f fd) : FnOk P w K mg base CX0 1 f fd ["self"] (spLen C) := by
  refine F.ok sc_Network_len (fun vs H Q E h => ?_) (fun cdv A outer s H vs Q E hr h => ?_)
  · obtain ⟨p, n, ks, rfl, _⟩ := h
    rfl
  · obtain ⟨p, n, ks, rfl, ⟨dx, kp, nr, h1, h2, ps, h3, h4⟩, k⟩ := h
    refine ⟨_, (pss_one (ps_ret (pe_callB (call_lenK K) (by rfl) T.no_len (by decide +kernel) (pa_cons (pe_fldK K (pv 0) rfl) pa_nil)))), ?_⟩
    walk_at "rd"
    refine ⟨p, C, dx, _, .ref nr, rfl, h1, N.cl, N.nn, netFs_near kp nr, ?_⟩
    walk_at "rd"
    refine rd_lenL (SqL.of h3) ?_
    have e : ((ps.map V.ref).length : Int) = (n : Int) := by rw [List.length_map, Paired.length h4, nbrs_len]
    rw [e]
    exact k
theorem c_netlen (T : Bt mg) (N : NetC K C) (D : MetAt K C "__len__" "Network.__len__" s_Network_len) : CalL P w K mg base 1 C (spLen C) := by
  obtain ⟨f, fd, F, h1, h2⟩ := D.ex
  exact ⟨f, fd, ["self"], ok_net_len T N F, F.binds fun _ _ _ _ _ _ us hl => match us, hl with | [_], _ => rfl, h1, h2⟩
/-- Network(stations, links) -/
theorem c_net (T : Bt mg) (N : NetC K C) (g_MAX_STATIONS : ∃ t, mg "MAX_STATIONS" = some (.int 60 t)) (c_is_int : Cal P w K mg base CX0 1 "is_int" (spIsInt K)) (c_is_link : Cal P w K mg base CX0 2 "is_link" (spIsLink Z))
    (x_NoNetwork : CalX P w K mg base 1 "NoNetwork" CN "index" (spErr K CN "index")) (g : mg "Network" = some (.ref C)) (mk : PySem.W.makesIn K C = true) (kc : PySem.W.keepIn K (.ref C) = true) (D : MetAt K C "__init__" "Network.__init__" s_Network_init) :
    CalC P w K mg base (L2.CX P w) 4 "Network" C (spNetInit Z K C CN) :=
  D.cls g mk kc (fun _ _ _ _ _ _ us hl => match us, hl with | [_, _, _], _ => rfl) fun f fd F => ok_net_init T N g_MAX_STATIONS c_is_int c_is_link x_NoNetwork F
end

abbrev s_NoStation_init : Stmt := inClass (top 3) 0
theorem sc_NoStation_init : FnScope ["self", "station"] ["self", "station"] (defScope s_NoStation_init) := ⟨rfl, rfl, rfl, by decide +kernel, rfl, by decide +kernel, by decide +kernel⟩
theorem x_of_NoStation {P : Program} {w : World} {K : PySem.W.Frag} {mg : Str → Option Value} {base : Heap} {B C : Addr} (ce : CeB K mg B) (D : ExcAt K mg "NoStation" C "station" "NoStation.__init__" s_NoStation_init) : CalX P w K mg base 1 "NoStation" C "station" (spErr K C "station") := by
  refine D.cal (ps := ["self", "station"]) (fun _ _ _ _ _ _ us hl => match us, hl with | [_, _], _ => rfl) fun f fd F => ?_
  refine F.ok sc_NoStation_init (fun vs H Q E h => ?_) (fun cdv A outer s H vs Q E hr h => ?_)
  · obtain ⟨a, v, rfl, _⟩ := h
    rfl
  · obtain ⟨a, v, rfl, T, nf, ha, k⟩ := h
    refine ⟨_, (pss_cons (ps_expr (pe_ceinit ce rfl (pa_cons (pv 0) (pa_cons pe_str pa_nil))))
  (pss_one (ps_ost (pv 0) (pv 1) rfl))), ?_⟩
    exact ⟨_, rfl, a, C, _, rfl, (by show 1 ≤ 1000; decide), T, ha, _, rfl, _, rfl, a, C, rfl, T, nf, .inl ⟨ha, fun dx hdx hne => k dx hdx hne⟩⟩
abbrev s_Network_check_station : Stmt := inClass (top 14) 5
theorem sc_Network_check_station : FnScope ["self", "station"] ["self", "station"] (defScope s_Network_check_station) := ⟨rfl, rfl, rfl, by decide +kernel, rfl, by decide +kernel, by decide +kernel⟩
/-- is a piece of data a station of n -/
def isSt (n : Nat) : PyData → Bool
  | .int i => decide (0 ≤ i) && decide (i < n)
  | _ => false
theorem isSt_int {n : Nat} {d : PyData} (h : isSt n d = true) : ∃ i : Nat, d = .int (i : Int) ∧ i < n := by
  cases d with
  | int i =>
    have h' : (decide (0 ≤ i) && decide (i < n)) = true := h
    simp only [Bool.and_eq_true, decide_eq_true_eq] at h'
    exact ⟨i.toNat, by rw [Int.toNat_of_nonneg h'.1], by omega⟩
  | _ => cases h
def spStation (Z : List (Addr × Str)) (C CS : Addr) : Sp := fun vs H Q E => ∃ (p : Addr) (n : Nat) (ks : List Lk) (v : V) (d : PyData), vs = [.ref p, v] ∧ NetAt C H p n ks ∧ n ≤ 60 ∧ Dt H v d ∧
  (isSt n d = true → Q .non H) ∧ (isSt n d = false → RaisesV Z E CS "station" H v)
section
variable {P : Program} {w : World} {K : PySem.W.Frag} {mg : Str → Option Value} {base : Heap} {Z : List (Addr × Str)} {C CS : Addr}
theorem ok_station (T : Bt mg) (N : NetC K C) (c_is_int : Cal P w K mg base CX0 1 "is_int" (spIsInt K)) (x_NoStation : CalX P w K mg base 1 "NoStation" CS "station" (spErr K CS "station"))
    {f : Addr} {fd : FuncData} (F : Fun K "check_station" "Network.check_station" s_Network_check_station f fd) : FnOk P w K mg base (L2.CX P w) 3 f fd ["self", "station"] (spStation Z C CS) := by
  refine F.okX sc_Network_check_station (fun vs H Q E h => ?_) (fun cdv A outer s H vs Q E hr h => ?_)
  · obtain ⟨p, n, ks, v, d, rfl, _⟩ := h
    rfl
  · obtain ⟨p, n, ks, v, d, rfl, hn, hn60, hd, kQ, kE⟩ := h
    refine ⟨_, (pss_one (ps_if (PW.pt (pw_or (pt_not (pt_val (pe_cal hr (by decide) c_is_int pass0 rfl (pa_cons (pv 1) pa_nil)))) (pw_or1 (pt_not (pt_chain op_le op_lt pe_int (pv 1) (pe_callB (call_lenK K) (by rfl) T.no_len (by decide +kernel) (pa_cons (pe_fldK K (pv 0) rfl) pa_nil))))))) (pss_one (ps_raiseOwn rfl hr (by decide) x_NoStation (takes_of rfl rfl rfl rfl) rfl (pa_cons (pv 1) pa_nil))) pss_nil)), ?_⟩
    walk_at "rd"
    refine ⟨v, tyN d, rfl, hd.ty, tyN_kind d, ?_⟩
    walk_at "rd"
    have raised : isSt n d = false → ∀ d1 H2, NewO H d1 (.xd [("station", v)]) H2 → E (.ref CS) (some d1) H2 := fun e d1 H2 h => kE e d1 H2 (Sm.of h.s) h.at'
    cases hd with
    | int i =>
      refine L2.iteF ?_
      walk_at "rd"
      by_cases c0 : 0 ≤ i
      · rw [decide_eq_true c0]
        refine L2.iteT ?_
        walk_at "rd"
        obtain ⟨dx, kp, nr, h1, h2, ps, h3, h4⟩ := hn
        refine ⟨p, C, dx, _, .ref nr, rfl, h1, N.cl, N.nn, netFs_near kp nr, ?_⟩
        walk_at "rd"
        refine rd_lenL (SqL.of h3) ?_
        have e : ((ps.map V.ref).length : Int) = (n : Int) := by rw [List.length_map, Paired.length h4, nbrs_len]
        rw [e]
        walk_at "rd"
        refine rifN (fun c => ?_) (fun c => ?_)
        · walk_at "rd"
          exact raised (by show (decide (0 ≤ i) && decide (i < (n : Int))) = false; rw [decide_eq_false c, Bool.and_false])
        · exact kQ (by show (decide (0 ≤ i) && decide (i < (n : Int))) = true; rw [decide_eq_true c0, decide_eq_true c]; rfl)
      · rw [decide_eq_false c0]
        refine L2.iteF ?_
        walk_at "rd"
        exact raised (by show (decide (0 ≤ i) && decide (i < (n : Int))) = false; rw [decide_eq_false c0, Bool.false_and])
    | non => refine L2.iteT (L2.iteT ?_); walk_at "rd"; exact raised rfl
    | bl b => refine L2.iteT (L2.iteT ?_); walk_at "rd"; exact raised rfl
    | str x => refine L2.iteT (L2.iteT ?_); walk_at "rd"; exact raised rfl
    | lst _ _ => refine L2.iteT (L2.iteT ?_); walk_at "rd"; exact raised rfl
    | tup _ _ => refine L2.iteT (L2.iteT ?_); walk_at "rd"; exact raised rfl
    | dic _ => refine L2.iteT (L2.iteT ?_); walk_at "rd"; exact raised rfl
end

abbrev s_Network_neighbours : Stmt := inClass (top 14) 4
theorem sc_Network_neighbours : FnScope ["self", "station"] ["self", "station"] (defScope s_Network_neighbours) := ⟨rfl, rfl, rfl, by decide +kernel, rfl, by decide +kernel, by decide +kernel⟩
/-- network.neighbours(station) -/
def spNeigh (Z : List (Addr × Str)) (C CS : Addr) : Sp := fun vs H Q E => ∃ (p : Addr) (n : Nat) (ks : List Lk) (v : V) (d : PyData), vs = [.ref p, v] ∧ NetAt C H p n ks ∧ n ≤ 60 ∧ Dt H v d ∧
  (∀ i : Nat, d = .int (i : Int) → i < n → ∀ (q : Addr) (H' : Hp), Sm Z H H' → H q = none → H' q = some (.lst ((srt (nbr ks (i : Int))).map V.int)) → Q (.ref q) H') ∧ (isSt n d = false → RaisesV Z E CS "station" H v)
section
variable {P : Program} {w : World} {K : PySem.W.Frag} {mg : Str → Option Value} {base : Heap} {Z : List (Addr × Str)} {C CS : Addr}
theorem ok_neigh (T : Bt mg) (N : NetC K C) (c_Network_check_station : CalM P w K mg base (L2.CX P w) 3 C "check_station" (spStation Z C CS))
    {f : Addr} {fd : FuncData} (F : Fun K "neighbours" "Network.neighbours" s_Network_neighbours f fd) : FnOk P w K mg base (L2.CX P w) 4 f fd ["self", "station"] (spNeigh Z C CS) := by
  refine F.okX sc_Network_neighbours (fun vs H Q E h => ?_) (fun cdv A outer s H vs Q E hr h => ?_)
  · obtain ⟨p, n, ks, v, d, rfl, _⟩ := h
    rfl
  · obtain ⟨p, n, ks, v, d, rfl, hn, hn60, hd, kQ, kE⟩ := h
    refine ⟨_, (pss_cons (ps_expr (pe_calM (pv 0) hr (by decide) c_Network_check_station (passE (takes_of rfl rfl rfl rfl)) (pa_cons (pv 1) pa_nil)))
  (pss_one (ps_ret (pe_callB (sortedIK K) (by rfl) T.no_sorted (by decide +kernel) (pa_cons (pe_ix (ix_listK K) (pe_fldK K (pv 0) rfl) (pv 1) (fun _ _ => rfl)) pa_nil))))), ?_⟩
    walk_at "rd"
    refine rd_netM hn ?_
    walk_at "rd"
    refine ⟨p, n, ks, v, d, rfl, hn, hn60, hd, fun hs => ?_, kE⟩
    obtain ⟨i, rfl, hi⟩ := isSt_int hs
    cases hd
    walk_at "rd"
    refine rd_near N hn (fun nr hr => ?_)
    walk_at "rd"
    refine rd_row hr i rfl (nbrs_at ks hi) (fun q hq => ?_)
    refine rd_sortedI (SqL.of hq) (fun q2 H1 n1 => ?_)
    exact kQ i rfl hi q2 H1 (Sm.of n1.s) n1.no n1.at'
theorem rd_neigh {p : Addr} {n : Nat} {ks : List Lk} {i : Nat} {H : Hp} {Q : VK} {E : XK} (hn : NetAt C H p n ks) (hn60 : n ≤ 60) (hi : i < n) (h : ∀ (q : Addr) (H' : Hp), Sm Z H H' → H q = none → H' q = some (.lst ((srt (nbr ks (i : Int))).map V.int)) → Q (.ref q) H') :
    spNeigh Z C CS [.ref p, .int (i : Int)] H Q E := by
  refine ⟨p, n, ks, _, .int (i : Int), rfl, hn, hn60, .int _, fun i' e _ => by cases e; exact h, fun hb => ?_⟩
  have : isSt n (.int (i : Int)) = true := by
    show (decide ((0 : Int) ≤ i) && decide ((i : Int) < n)) = true
    rw [decide_eq_true (by omega), decide_eq_true (by omega)]
    rfl
  rw [this] at hb
  cases hb
end

/-! ### states, plainly -/
/-- the smallest number from 1 on that is not in a list -/
def mex (us : List Int) : Int := ((((List.range (us.length + 1)).find? fun (k : Nat) => !decide (((k : Int) + 1) ∈ us)).getD 0 : Nat) : Int) + 1
theorem all_in_len : ∀ (m : Nat) (us : List Int), (∀ k : Nat, k < m → ((k : Int) + 1) ∈ us) → m ≤ us.length
  | 0, us, _ => Nat.zero_le _
  | m + 1, us, h => by
    have hm := h m (Nat.lt_succ_self m)
    have ih := all_in_len m (us.erase ((m : Int) + 1)) fun k hk => (List.mem_erase_of_ne (by omega)).mpr (h k (by omega))
    rw [List.length_erase_of_mem hm] at ih
    have := List.length_pos_of_mem hm
    omega
theorem mex_spec (us : List Int) : 1 ≤ mex us ∧ mex us ≤ us.length + 1 ∧ mex us ∉ us ∧ ∀ c : Int, 1 ≤ c → c < mex us → c ∈ us := by
  unfold mex
  cases e : (List.range (us.length + 1)).find? fun (k : Nat) => !decide (((k : Int) + 1) ∈ us) with
  | none =>
    exfalso
    have := all_in_len (us.length + 1) us fun k hk => by
      have := List.find?_range_eq_none.mp e k hk
      simpa using this
    omega
  | some k =>
    obtain ⟨h1, h2, h3⟩ := List.find?_range_eq_some.mp e
    have h2 := List.mem_range.mp h2
    simp only [Option.getD_some]
    refine ⟨by omega, by omega, by simpa using h1, fun c c1 c2 => ?_⟩
    have := h3 (c.toNat - 1) (by omega)
    rw [show (((c.toNat - 1 : Nat) : Int)) + 1 = c by omega] at this
    simpa using this
theorem mex_uniq {us : List Int} {c : Int} (h1 : 1 ≤ c) (h2 : c ∉ us) (h3 : ∀ b : Int, 1 ≤ b → b < c → b ∈ us) : c = mex us := by
  obtain ⟨m1, _, m2, m3⟩ := mex_spec us
  by_cases a : c < mex us
  · exact absurd (m3 c h1 a) h2
  · by_cases b : mex us < c
    · exact absurd (h3 _ m1 b) m2
    · omega
theorem mex_perm {us vs : List Int} (p : us.Perm vs) : mex us = mex vs := by
  obtain ⟨m1, _, m2, m3⟩ := mex_spec us
  exact mex_uniq m1 (fun h => m2 (p.mem_iff.mpr h)) fun b b1 b2 => p.mem_iff.mp (m3 b b1 b2)
/-- the channels of the neighbours -/
def usedS (ks : List Lk) (s : List Int) (i : Int) : List Int := (nbr ks i).map fun u => s.getD u.toNat 0
/-- is it this number -/
def isI (c : Int) : PyData → Bool
  | .int x => decide (x = c)
  | _ => false
/-- what is wrong with the item i of a state: none of its neighbours before it may have the same channel -/
def badS (ks : List Lk) (ds : List PyData) (i : Nat) : Bool := match ds.getD i .none with
  | .int c => decide (c < 0) || (decide (0 < c) && (nbr ks (i : Int)).any fun u => decide (u < (i : Int)) && isI c (ds.getD u.toNat .none))
  | _ => true
/-- the first thing that is wrong with a state -/
def dueS (n : Nat) (ks : List Lk) : PyData → Option Int
  | .tuple ds => if ds.length = n then ((List.range n).find? (badS ks ds)).map fun i => ((i : Nat) : Int) else some (-1)
  | _ => some (-1)
/-- a state: no channel below 0, no two neighbours with one channel -/
structure StOk (n : Nat) (ks : List Lk) (s : List Int) : Prop where
  len : s.length = n
  pos : ∀ i : Nat, i < n → 0 ≤ s.getD i 0
  apart : ∀ i : Nat, i < n → 0 < s.getD i 0 → ∀ u ∈ nbr ks (i : Int), s.getD u.toNat 0 ≠ s.getD i 0
theorem getD_ints (s : List Int) {i : Nat} (h : i < s.length) : (s.map PyData.int).getD i .none = .int (s.getD i 0) := by simp [h]
theorem StOk.due {n : Nat} {ks : List Lk} {s : List Int} (h : StOk n ks s) : dueS n ks (.tuple (s.map PyData.int)) = none := by
  show (if (s.map PyData.int).length = n then _ else _) = _
  rw [if_pos (by rw [List.length_map]; exact h.len), Option.map_eq_none_iff]
  refine List.find?_range_eq_none.mpr fun i hi => ?_
  have hil : i < s.length := by rw [h.len]; exact hi
  have p := h.pos i hi
  unfold badS
  rw [getD_ints s hil]
  show (!(decide (s.getD i 0 < 0) || (decide (0 < s.getD i 0) && (nbr ks (i : Int)).any fun u => decide (u < (i : Int)) && isI (s.getD i 0) ((s.map PyData.int).getD u.toNat .none)))) = true
  rw [decide_eq_false (by omega), Bool.false_or]
  by_cases c : 0 < s.getD i 0
  · rw [decide_eq_true c, Bool.true_and, Bool.not_eq_true', List.any_eq_false]
    intro u hu
    simp only [Bool.and_eq_true, decide_eq_true_eq, not_and]
    intro hui e
    by_cases hul : u.toNat < s.length
    · rw [getD_ints s hul] at e
      exact h.apart i hi c u hu (of_decide_eq_true e)
    · have e0 : (s.map PyData.int).getD u.toNat .none = .none := by
        rw [List.getD_eq_getElem?_getD, List.getElem?_eq_none (by simpa using hul)]
        rfl
      rw [e0] at e
      cases e
  · rw [decide_eq_false c, Bool.false_and]
    rfl
/-- one station goes on -/
def onS (ks : List Lk) (s : List Int) (i : Nat) : List Int := s.set i (mex (usedS ks s (i : Int)))
theorem onS_len (ks : List Lk) (s : List Int) (i : Nat) : (onS ks s i).length = s.length := by simp [onS]
theorem onS_at (ks : List Lk) (s : List Int) (i j : Nat) (h : i < s.length) : (onS ks s i).getD j 0 = if i = j then mex (usedS ks s (i : Int)) else s.getD j 0 := by
  unfold onS
  rw [List.getD_eq_getElem?_getD, List.getElem?_set]
  by_cases c : i = j
  · rw [if_pos c, if_pos c, if_pos h]
    rfl
  · rw [if_neg c, if_neg c, ← List.getD_eq_getElem?_getD]
theorem nbr_symm {ks : List Lk} {u v : Int} (h : u ∈ nbr ks v) : v ∈ nbr ks u := nbr_mem.mpr ⟨(nbr_mem.mp h).1.symm, trivial⟩
theorem nbr_irr {n : Nat} {ks : List Lk} (ok : ∀ e ∈ ks, OkLk n e) {v : Int} : v ∉ nbr ks v := fun h => by
  rcases (nbr_mem.mp h).1 with m | m
  · have := (ok _ m).2.1
    simp only at this
    omega
  · have := (ok _ m).2.1
    simp only at this
    omega
theorem StOk.on {n : Nat} {ks : List Lk} {s : List Int} (ok : ∀ e ∈ ks, OkLk n e) (h : StOk n ks s) {i : Nat} (hi : i < n) : StOk n ks (onS ks s i) := by
  obtain ⟨m1, m2, m3, m4⟩ := mex_spec (usedS ks s (i : Int))
  have hil : i < s.length := by rw [h.len]; exact hi
  refine ⟨by rw [onS_len, h.len], fun j hj => ?_, fun j hj hp u hu => ?_⟩
  · rw [onS_at ks s i j hil]
    split
    · omega
    · exact h.pos j hj
  · have hub := nbr_lt ok _ _ hu
    rw [onS_at ks s i j hil] at hp ⊢
    rw [onS_at ks s i u.toNat hil]
    by_cases c : i = j
    · subst c
      rw [if_pos rfl]
      have hne : i ≠ u.toNat := fun z => nbr_irr ok (v := (i : Int)) (by rwa [show u = (i : Int) by omega] at hu)
      rw [if_neg hne]
      intro z
      exact m3 (z ▸ List.mem_map.mpr ⟨u, hu, rfl⟩)
    · rw [if_neg c] at hp ⊢
      by_cases c2 : i = u.toNat
      · rw [if_pos c2]
        intro z
        have hj2 : (j : Int) ∈ nbr ks (i : Int) := by
          have := nbr_symm hu
          rwa [show u = (i : Int) by omega] at this
        refine m3 (z ▸ List.mem_map.mpr ⟨(j : Int), hj2, ?_⟩)
        simp
      · rw [if_neg c2]
        exact h.apart j hj hp u hu
theorem StOk.zero (n : Nat) (ks : List Lk) : StOk n ks (List.replicate n 0) := by
  have z : ∀ j : Nat, (List.replicate n (0 : Int)).getD j 0 = 0 := fun j => by
    rw [List.getD_eq_getElem?_getD, List.getElem?_replicate]
    split <;> rfl
  exact ⟨by simp, fun i _ => by rw [z]; exact Int.le_refl _, fun i _ h => by rw [z] at h; exact absurd h (by decide)⟩
/-- a station is switched -/
def swS (ks : List Lk) (s : List Int) (i : Nat) : List Int := if 0 < s.getD i 0 then s.set i 0 else onS ks s i
theorem swS_len (ks : List Lk) (s : List Int) (i : Nat) : (swS ks s i).length = s.length := by
  unfold swS
  split
  · simp
  · exact onS_len ks s i
theorem StOk.sw {n : Nat} {ks : List Lk} {s : List Int} (ok : ∀ e ∈ ks, OkLk n e) (h : StOk n ks s) {i : Nat} (hi : i < n) : StOk n ks (swS ks s i) := by
  unfold swS
  by_cases c : 0 < s.getD i 0
  · rw [if_pos c]
    have at' : ∀ j : Nat, (s.set i 0).getD j 0 = if i = j then 0 else s.getD j 0 := fun j => by
      rw [List.getD_eq_getElem?_getD, List.getElem?_set]
      by_cases c : i = j
      · rw [if_pos c, if_pos c, if_pos (by rw [h.len]; exact hi)]
        rfl
      · rw [if_neg c, if_neg c, ← List.getD_eq_getElem?_getD]
    refine ⟨by rw [List.length_set, h.len], fun j hj => ?_, fun j hj hp u hu => ?_⟩
    · rw [at']
      split
      · exact Int.le_refl _
      · exact h.pos j hj
    · rw [at'] at hp ⊢
      rw [at']
      by_cases c1 : i = j
      · rw [if_pos c1] at hp
        omega
      · rw [if_neg c1] at hp ⊢
        by_cases c2 : i = u.toNat
        · rw [if_pos c2]
          omega
        · rw [if_neg c2]
          exact h.apart j hj hp u hu
  · rw [if_neg c]
    exact h.on ok hi
/-- s[:i] + (c,) + s[i + 1:] -/
theorem set_cut {s : List Int} {i : Nat} {c : Int} (h : i < s.length) : s.take i ++ [c] ++ s.drop (i + 1) = s.set i c := by
  rw [List.set_eq_take_append_cons_drop, if_pos h, List.append_assoc]
  rfl
theorem dueS_none {n : Nat} {ks : List Lk} {d : PyData} (ok : ∀ e ∈ ks, OkLk n e) (h : dueS n ks d = none) : ∃ s : List Int, d = .tuple (s.map PyData.int) ∧ StOk n ks s := by
  cases d with
  | tuple ds =>
    have h' : (if ds.length = n then ((List.range n).find? (badS ks ds)).map fun i => ((i : Nat) : Int) else some (-1)) = none := h
    by_cases c : ds.length = n
    · rw [if_pos c, Option.map_eq_none_iff] at h'
      have nb : ∀ i, i < n → badS ks ds i = false := fun i hi => by
        have := List.find?_range_eq_none.mp h' i hi
        simpa using this
      have isint : ∀ i, i < n → ∃ z, ds.getD i .none = .int z := fun i hi => by
        have := nb i hi
        unfold badS at this
        cases e : ds.getD i .none with
        | int z => exact ⟨z, rfl⟩
        | _ => rw [e] at this; cases this
      obtain ⟨s, hs⟩ : ∃ s : List Int, ds = s.map PyData.int := by
        refine ⟨ds.map fun d => match d with | .int z => z | _ => 0, ?_⟩
        rw [List.map_map]
        refine (List.map_id ds).symm.trans (List.map_congr_left fun d m => ?_)
        obtain ⟨i, hi⟩ := List.mem_iff_getElem?.mp m
        have hil := (List.getElem?_eq_some_iff.mp hi).1
        obtain ⟨z, hz⟩ := isint i (by omega)
        rw [List.getD_eq_getElem?_getD, hi] at hz
        simp only [Option.getD_some] at hz
        subst hz
        rfl
      subst hs
      rw [List.length_map] at c
      have at' : ∀ i, i < n → (s.map PyData.int).getD i .none = .int (s.getD i 0) := fun i hi => getD_ints s (by omega)
      have bad : ∀ i, i < n → ¬ s.getD i 0 < 0 ∧ (0 < s.getD i 0 → ∀ u ∈ nbr ks (i : Int), u < (i : Int) → s.getD u.toNat 0 ≠ s.getD i 0) := fun i hi => by
        have := nb i hi
        unfold badS at this
        rw [at' i hi] at this
        have this : (decide (s.getD i 0 < 0) || (decide (0 < s.getD i 0) && (nbr ks (i : Int)).any fun u => decide (u < (i : Int)) && isI (s.getD i 0) ((s.map PyData.int).getD u.toNat .none))) = false := this
        rw [Bool.or_eq_false_iff, decide_eq_false_iff_not] at this
        refine ⟨this.1, fun hp u hu hui e => ?_⟩
        have h2 := this.2
        rw [decide_eq_true hp, Bool.true_and] at h2
        have h3 := List.any_eq_false.mp h2 u hu
        have hub := nbr_lt ok _ _ hu
        rw [at' u.toNat (by omega), decide_eq_true hui, Bool.true_and] at h3
        exact h3 (by show decide (s.getD u.toNat 0 = s.getD i 0) = true; exact decide_eq_true e)
      refine ⟨s, rfl, c, fun i hi => by have := (bad i hi).1; omega, fun i hi hp u hu e => ?_⟩
      have hub := nbr_lt ok _ _ hu
      by_cases a : u < (i : Int)
      · exact (bad i hi).2 hp u hu a e
      · have hne : u ≠ (i : Int) := fun z => nbr_irr ok (v := (i : Int)) (z ▸ hu)
        have hu2 : (i : Int) ∈ nbr ks ((u.toNat : Nat) : Int) := by
          have := nbr_symm hu
          rwa [show u = ((u.toNat : Nat) : Int) by omega] at this
        refine (bad u.toNat (by omega)).2 (by omega) (i : Int) hu2 (by omega) ?_
        simpa using e.symm
    · rw [if_neg c] at h'
      cases h'
  | _ => cases h
theorem isSt_nat {n i : Nat} (h : i < n) : isSt n (.int (i : Int)) = true := by
  show (decide ((0 : Int) ≤ i) && decide ((i : Int) < n)) = true
  rw [decide_eq_true (by omega), decide_eq_true (by omega)]
  rfl
/-- stations are switched one after the other -/
def playS (ks : List Lk) (s : List Int) (is : List Nat) : List Int := is.foldl (fun s i => swS ks s i) s
theorem put_eq {s : List Int} {i : Nat} {c : Int} (h : i < s.length) : (cutV (s.map V.int) none (some (i : Int)) ++ [V.int c]) ++ cutV (s.map V.int) (some ((i : Int) + 1)) none = (s.set i c).map V.int := by
  rw [cutV_take, show (i : Int) + 1 = ((i + 1 : Nat) : Int) by omega, cutV_drop, ← List.map_take, ← List.map_drop, ← set_cut h, List.map_append, List.map_append]
  rfl
theorem put_l1 {s : List Int} {i : Nat} (h : s.length ≤ 60) : (cutV (s.map V.int) none (some (i : Int))).length + 1 ≤ sizeLine := by
  rw [cutV_take, List.length_take, List.length_map, sizeLine_eq]
  omega
theorem put_l2 {s : List Int} {i : Nat} {c : Int} (h : s.length ≤ 60) : (cutV (s.map V.int) none (some (i : Int)) ++ [V.int c]).length + (cutV (s.map V.int) (some ((i : Int) + 1)) none).length ≤ sizeLine := by
  rw [show (i : Int) + 1 = ((i + 1 : Nat) : Int) by omega, cutV_drop, List.length_append, cutV_take, List.length_take, List.length_drop, List.length_map, sizeLine_eq]
  simp only [List.length_singleton]
  omega
theorem playS_snoc (ks : List Lk) (s : List Int) (is : List Nat) (i : Nat) : playS ks s (is ++ [i]) = swS ks (playS ks s is) i := by
  unfold playS
  rw [List.foldl_append]
  rfl
theorem StOk.play {n : Nat} {ks : List Lk} (ok : ∀ e ∈ ks, OkLk n e) : ∀ (is : List Nat) {s : List Int}, StOk n ks s → (∀ i ∈ is, i < n) → StOk n ks (playS ks s is)
  | [], s, h, _ => h
  | i :: r, s, h, hi => StOk.play ok r (h.sw ok (hi i (List.mem_cons_self ..))) fun j m => hi j (List.mem_cons_of_mem _ m)

theorem nodup_sub_len {α : Type} [DecidableEq α] : ∀ (l m : List α), l.Nodup → (∀ x ∈ l, x ∈ m) → l.length ≤ m.length
  | [], m, _, _ => Nat.zero_le _
  | x :: l, m, nd, h => by
    have hx := h x (List.mem_cons_self ..)
    have ih := nodup_sub_len l (m.erase x) (List.nodup_cons.mp nd).2 fun y hy => (List.mem_erase_of_ne (fun z => (List.nodup_cons.mp nd).1 (by rw [← z]; exact hy))).mpr (h y (List.mem_cons_of_mem _ hy))
    rw [List.length_erase_of_mem hx] at ih
    have := List.length_pos_of_mem hx
    rw [List.length_cons]
    omega
theorem all_below {n : Nat} {us : List Int} (nd : us.Nodup) (h : ∀ u ∈ us, 0 ≤ u ∧ u < (n : Int)) : us.length ≤ n := by
  have := nodup_sub_len us ((List.range n).map fun (i : Nat) => (i : Int)) nd fun u m => List.mem_map.mpr ⟨u.toNat, List.mem_range.mpr (by have := h u m; omega), by have := h u m; omega⟩
  simpa using this

/-! ### rings, plainly -/
def mergeM (m : List Int) (e : Lk) : List Int := m.map fun x => if x = m.getD e.2.toNat 0 then m.getD e.1.toNat 0 else x
def forestF : List Int → List Lk → Bool
  | _, [] => true
  | m, e :: r => if m.getD e.1.toNat 0 = m.getD e.2.toNat 0 then false else forestF (mergeM m e) r
def ids (n : Nat) : List Int := (List.range n).map fun (i : Nat) => (i : Int)
/-- the links make no ring: found link by link -/
def isForest (n : Nat) (ks : List Lk) : Bool := forestF (ids n) ks
theorem mem_ids {n : Nat} {v : Int} : v ∈ ids n ↔ 0 ≤ v ∧ v < n := by
  unfold ids
  rw [List.mem_map]
  constructor
  · rintro ⟨i, hi, rfl⟩
    have := List.mem_range.mp hi
    omega
  · intro h
    exact ⟨v.toNat, List.mem_range.mpr (by omega), by omega⟩
/-- each link is the only one between its two sides, among the stations ls -/
def Br (ks : List Lk) (ls : List Int) : Prop := ∀ e ∈ ks, e.1 ∈ ls → e.2 ∈ ls → ∃ f : Int → Bool, f e.1 ≠ f e.2 ∧ ∀ e' ∈ ks, e' ≠ e → e'.1 ∈ ls → e'.2 ∈ ls → f e'.1 = f e'.2
theorem mergeM_at {m : List Int} {e : Lk} {a : Nat} (h : a < m.length) : (mergeM m e).getD a 0 = if m.getD a 0 = m.getD e.2.toNat 0 then m.getD e.1.toNat 0 else m.getD a 0 := by
  unfold mergeM
  simp [h]
theorem mergeM_len (m : List Int) (e : Lk) : (mergeM m e).length = m.length := by simp [mergeM]
theorem br_go {n : Nat} {ks : List Lk} (hk : OkLks n ks) (br : Br ks (ids n)) : ∀ (rest done : List Lk) (m : List Int), done ++ rest = ks → m.length = n →
    (∀ f : Int → Bool, (∀ e ∈ done, f e.1 = f e.2) → ∀ a b : Nat, a < n → b < n → m.getD a 0 = m.getD b 0 → f (a : Int) = f (b : Int)) → forestF m rest = true
  | [], _, _, _, _, _ => rfl
  | e :: r, done, m, he, hl, inv => by
    have hm : e ∈ ks := by rw [← he]; simp
    obtain ⟨o0, o1, o2⟩ := hk.1 e hm
    have hnd : e ∉ done := fun z => by
      have := hk.2
      rw [← he] at this
      exact (List.nodup_append.mp this).2.2 e z e (List.mem_cons_self ..) rfl
    have c1 : ((e.1.toNat : Nat) : Int) = e.1 := by omega
    have c2 : ((e.2.toNat : Nat) : Int) = e.2 := by omega
    unfold forestF
    rw [if_neg fun z => ?_]
    · refine br_go hk br r (done ++ [e]) (mergeM m e) (by rw [List.append_assoc]; exact he) (by rw [mergeM_len, hl]) fun f hf a b ha hb hab => ?_
      have hfe : f e.1 = f e.2 := hf e (by simp)
      have hfd : ∀ e' ∈ done, f e'.1 = f e'.2 := fun e' m => hf e' (List.mem_append_left _ m)
      have i2 := fun (a : Nat) ha z => inv f hfd a e.2.toNat ha (by omega) z
      have i1 := fun (a : Nat) ha z => inv f hfd a e.1.toNat ha (by omega) z
      rw [c2] at i2
      rw [c1] at i1
      rw [mergeM_at (by omega), mergeM_at (by omega)] at hab
      by_cases ca : m.getD a 0 = m.getD e.2.toNat 0
      · by_cases cb : m.getD b 0 = m.getD e.2.toNat 0
        · rw [i2 a ha ca, i2 b hb cb]
        · rw [if_pos ca, if_neg cb] at hab
          rw [i2 a ha ca, i1 b hb hab.symm, hfe]
      · by_cases cb : m.getD b 0 = m.getD e.2.toNat 0
        · rw [if_neg ca, if_pos cb] at hab
          rw [i2 b hb cb, i1 a ha hab, hfe]
        · rw [if_neg ca, if_neg cb] at hab
          exact inv f hfd a b ha hb hab
    · obtain ⟨f, hne, hall⟩ := br e hm (mem_ids.mpr ⟨o0, by omega⟩) (mem_ids.mpr ⟨by omega, o2⟩)
      refine hne ?_
      have := inv f (fun e' m => ?_) e.1.toNat e.2.toNat (by omega) (by omega) z
      · rwa [c1, c2] at this
      · have hm' : e' ∈ ks := by rw [← he]; exact List.mem_append_left _ m
        obtain ⟨p0, p1, p2⟩ := hk.1 e' hm'
        exact hall e' hm' (fun z => hnd (z ▸ m)) (mem_ids.mpr ⟨p0, by omega⟩) (mem_ids.mpr ⟨by omega, p2⟩)
theorem br_forest {n : Nat} {ks : List Lk} (hk : OkLks n ks) (br : Br ks (ids n)) : isForest n ks = true := by
  refine br_go hk br ks [] (ids n) rfl (by simp [ids]) fun f _ a b ha hb hab => ?_
  have : (a : Int) = (b : Int) := by simpa [ids, ha, hb] using hab
  rw [this]
/-! ### stations with fewer than two neighbours left -/
def inN (ks : List Lk) (ls : List Int) (v : Int) : List Int := (nbr ks v).filter fun u => decide (u ∈ ls)
def thinF (ks : List Lk) (ls : List Int) : List Int := ls.filter fun v => decide ((inN ks ls v).length < 2)
def fatF (ks : List Lk) (ls : List Int) : List Int := ls.filter fun v => !decide (v ∈ thinF ks ls)
theorem mem_inN {ks : List Lk} {ls : List Int} {v u : Int} : u ∈ inN ks ls v ↔ u ∈ nbr ks v ∧ u ∈ ls := by
  unfold inN
  rw [List.mem_filter, decide_eq_true_eq]
theorem mem_thin {ks : List Lk} {ls : List Int} {v : Int} : v ∈ thinF ks ls ↔ v ∈ ls ∧ (inN ks ls v).length < 2 := by
  unfold thinF
  rw [List.mem_filter, decide_eq_true_eq]
theorem mem_fat {ks : List Lk} {ls : List Int} {v : Int} : v ∈ fatF ks ls ↔ v ∈ ls ∧ v ∉ thinF ks ls := by
  unfold fatF
  rw [List.mem_filter]
  simp
theorem one_of {α : Type} {l : List α} {a b : α} (h : l.length < 2) (ha : a ∈ l) (hb : b ∈ l) : a = b := by
  match l, h with
  | [], _ => cases ha
  | [x], _ =>
    rw [List.mem_singleton] at ha hb
    rw [ha, hb]
theorem br_step {n : Nat} {ks : List Lk} {ls : List Int} (ok : ∀ e ∈ ks, OkLk n e) (h : Br ks (fatF ks ls)) : Br ks ls := by
  intro e he h1 h2
  have n1 : ∀ e ∈ ks, e.2 ∈ nbr ks e.1 := fun e m => nbr_mem.mpr ⟨.inl m, trivial⟩
  have n2 : ∀ e ∈ ks, e.1 ∈ nbr ks e.2 := fun e m => nbr_mem.mpr ⟨.inr m, trivial⟩
  by_cases t1 : e.1 ∈ thinF ks ls
  · have hl := (mem_thin.mp t1).2
    refine ⟨fun v => decide (v = e.1), ?_, fun e' m ne a1 a2 => ?_⟩
    · have := (ok e he).2.1
      show decide (e.1 = e.1) ≠ decide (e.2 = e.1)
      rw [decide_eq_true rfl, decide_eq_false (by omega)]
      decide
    · have o' := (ok e' m).2.1
      have o := (ok e he).2.1
      by_cases c1 : e'.1 = e.1
      · exact absurd (Prod.ext c1 (one_of hl (mem_inN.mpr ⟨c1 ▸ n1 e' m, a2⟩) (mem_inN.mpr ⟨n1 e he, h2⟩))) ne
      · by_cases c2 : e'.2 = e.1
        · have := one_of hl (mem_inN.mpr ⟨c2 ▸ n2 e' m, a1⟩) (mem_inN.mpr ⟨n1 e he, h2⟩)
          omega
        · show decide (e'.1 = e.1) = decide (e'.2 = e.1)
          rw [decide_eq_false c1, decide_eq_false c2]
  by_cases t2 : e.2 ∈ thinF ks ls
  · have hl := (mem_thin.mp t2).2
    refine ⟨fun v => decide (v = e.2), ?_, fun e' m ne a1 a2 => ?_⟩
    · have := (ok e he).2.1
      show decide (e.1 = e.2) ≠ decide (e.2 = e.2)
      rw [decide_eq_true (rfl : e.2 = e.2), decide_eq_false (show ¬ e.1 = e.2 by omega)]
      decide
    · have o' := (ok e' m).2.1
      have o := (ok e he).2.1
      by_cases c2 : e'.2 = e.2
      · exact absurd (Prod.ext (one_of hl (mem_inN.mpr ⟨c2 ▸ n2 e' m, a1⟩) (mem_inN.mpr ⟨n2 e he, h1⟩)) c2) ne
      · by_cases c1 : e'.1 = e.2
        · have := one_of hl (mem_inN.mpr ⟨c1 ▸ n1 e' m, a2⟩) (mem_inN.mpr ⟨n2 e he, h1⟩)
          omega
        · show decide (e'.1 = e.2) = decide (e'.2 = e.2)
          rw [decide_eq_false c1, decide_eq_false c2]
  obtain ⟨f, hne, hall⟩ := h e he (mem_fat.mpr ⟨h1, t1⟩) (mem_fat.mpr ⟨h2, t2⟩)
  obtain ⟨g, hg⟩ : ∃ g : Int → Bool, ∀ v, g v = if v ∈ thinF ks ls then (match (inN ks (fatF ks ls) v).head? with | some x => f x | none => false) else f v := ⟨_, fun _ => rfl⟩
  have gn : ∀ v, v ∉ thinF ks ls → g v = f v := fun v hv => by rw [hg, if_neg hv]
  have hin : ∀ v u, u ∈ inN ks (fatF ks ls) v → u ∈ inN ks ls v ∧ u ∉ thinF ks ls := fun v u m => by
    obtain ⟨m1, m2⟩ := mem_inN.mp m
    exact ⟨mem_inN.mpr ⟨m1, (mem_fat.mp m2).1⟩, (mem_fat.mp m2).2⟩
  -- a thin station beside one that stays
  have side : ∀ v u, v ∈ thinF ks ls → u ∈ nbr ks v → u ∈ ls → u ∉ thinF ks ls → g v = f u := fun v u tv un ul tu => by
    have hu : u ∈ inN ks (fatF ks ls) v := mem_inN.mpr ⟨un, mem_fat.mpr ⟨ul, tu⟩⟩
    rw [hg, if_pos tv]
    cases e : (inN ks (fatF ks ls) v).head? with
    | none =>
      rw [List.head?_eq_none_iff] at e
      rw [e] at hu
      cases hu
    | some x =>
      have hx : x ∈ inN ks (fatF ks ls) v := List.mem_of_head? e
      rw [one_of (mem_thin.mp tv).2 (hin v x hx).1 (hin v u hu).1]
  -- a thin station beside a thin one
  have pair : ∀ v u, v ∈ thinF ks ls → u ∈ nbr ks v → u ∈ ls → u ∈ thinF ks ls → g v = false := fun v u tv un ul tu => by
    rw [hg, if_pos tv]
    cases e : (inN ks (fatF ks ls) v).head? with
    | none => rfl
    | some x =>
      have hx := hin v x (List.mem_of_head? e)
      have := one_of (mem_thin.mp tv).2 hx.1 (mem_inN.mpr ⟨un, ul⟩)
      rw [this] at hx
      exact absurd tu hx.2
  refine ⟨g, by rw [gn _ t1, gn _ t2]; exact hne, fun e' m ne a1 a2 => ?_⟩
  by_cases c1 : e'.1 ∈ thinF ks ls
  · by_cases c2 : e'.2 ∈ thinF ks ls
    · rw [pair _ _ c1 (n1 e' m) a2 c2, pair _ _ c2 (n2 e' m) a1 c1]
    · rw [side _ _ c1 (n1 e' m) a2 c2, gn _ c2]
  · by_cases c2 : e'.2 ∈ thinF ks ls
    · rw [side _ _ c2 (n2 e' m) a1 c1, gn _ c1]
    · rw [gn _ c1, gn _ c2]
      exact hall e' m ne (mem_fat.mpr ⟨a1, c1⟩) (mem_fat.mpr ⟨a2, c2⟩)
theorem br_nil (ks : List Lk) : Br ks [] := fun e _ h => absurd h List.not_mem_nil
theorem fat_lt {ks : List Lk} {ls : List Int} (h : thinF ks ls ≠ []) : (fatF ks ls).length < ls.length := by
  obtain ⟨v, hv⟩ : ∃ v, v ∈ thinF ks ls := by
    cases e : thinF ks ls with
    | nil => exact absurd e h
    | cons x r => exact ⟨x, List.mem_cons_self ..⟩
  have hvl := (mem_thin.mp hv).1
  refine Nat.lt_of_le_of_ne (List.length_filter_le ..) fun z => ?_
  have := (List.length_filter_eq_length_iff.mp z) v hvl
  simp at this
  exact this hv
/-- where no station is thin, a walk goes on, and not back -/
theorem cand_ne {n : Nat} {ks : List Lk} {ls : List Int} (hk : OkLks n ks) (ht : thinF ks ls = []) {v : Int} (hv : v ∈ ls) (b : Int) : ∃ u, u ∈ inN ks ls v ∧ u ≠ b := by
  have hl : ¬ (inN ks ls v).length < 2 := fun z => by
    have := mem_thin.mpr ⟨hv, z⟩
    rw [ht] at this
    cases this
  have hnd : (inN ks ls v).Nodup := (nbr_nodup hk v).sublist List.filter_sublist
  match hm : inN ks ls v, hl, hnd with
  | [], hl, _ => exact absurd (by simp) hl
  | [_], hl, _ => exact absurd (by simp) hl
  | x :: y :: r, _, nd =>
    by_cases c : x = b
    · refine ⟨y, by simp, fun z => ?_⟩
      have := (List.nodup_cons.mp nd).1
      rw [c, ← z] at this
      exact this (List.mem_cons_self ..)
    · exact ⟨x, by simp, c⟩
/-! ### a walk and the ring at its end -/
structure IsRing (n : Nat) (ks : List Lk) (ring : List Int) : Prop where
  len : 3 ≤ ring.length
  le : ring.length ≤ n
  nd : ring.Nodup
  nb : ∀ i, i + 1 < ring.length → ring.getD (i + 1) 0 ∈ nbr ks (ring.getD i 0)
  last : ring.getD 0 0 ∈ nbr ks (ring.getD (ring.length - 1) 0)
  bd : ∀ v ∈ ring, 0 ≤ v ∧ v < (n : Int)
structure WalkS (ks : List Lk) (ls qs : List Int) (z : Int) : Prop where
  ins : ∀ v ∈ qs ++ [z], v ∈ ls
  nd : qs.Nodup
  nb : ∀ i, i + 1 < (qs ++ [z]).length → (qs ++ [z]).getD (i + 1) 0 ∈ nbr ks ((qs ++ [z]).getD i 0)
  tw : ∀ i, i + 2 < (qs ++ [z]).length → (qs ++ [z]).getD (i + 2) 0 ≠ (qs ++ [z]).getD i 0
theorem getD_app1 {l r : List Int} {i : Nat} (h : i < l.length) : (l ++ r).getD i 0 = l.getD i 0 := by
  rw [List.getD_eq_getElem?_getD, List.getD_eq_getElem?_getD, List.getElem?_append_left h]
theorem getD_app2 {l : List Int} {z : Int} : (l ++ [z]).getD l.length 0 = z := by
  rw [List.getD_eq_getElem?_getD, List.getElem?_append_right (Nat.le_refl _), Nat.sub_self]
  rfl
theorem WalkS.step {ks : List Lk} {ls qs : List Int} {z u : Int} (h : WalkS ks ls qs z) (hz : z ∉ qs) (hu : u ∈ inN ks ls z) (hb : ∀ i, i + 1 = qs.length → u ≠ qs.getD i 0) : WalkS ks ls (qs ++ [z]) u := by
  obtain ⟨u1, u2⟩ := mem_inN.mp hu
  have len : (qs ++ [z]).length = qs.length + 1 := by simp
  refine ⟨fun v m => ?_, ?_, fun i hi => ?_, fun i hi => ?_⟩
  · rcases List.mem_append.mp m with m | m
    · exact h.ins v m
    · rw [List.mem_singleton.mp m]
      exact u2
  · exact List.nodup_append.mpr ⟨h.nd, by simp, fun a m b m2 e => hz (by rw [List.mem_singleton.mp m2] at e; exact e ▸ m)⟩
  · by_cases c : i + 1 < (qs ++ [z]).length
    · rw [getD_app1 c, getD_app1 (by omega)]
      exact h.nb i c
    · rw [List.length_append, List.length_singleton] at hi
      have e : i + 1 = (qs ++ [z]).length := by omega
      rw [e, getD_app2, getD_app1 (by omega), show i = qs.length by omega, getD_app2]
      exact u1
  · by_cases c : i + 2 < (qs ++ [z]).length
    · rw [getD_app1 (l := qs ++ [z]) c, getD_app1 (l := qs ++ [z]) (i := i) (by omega)]
      exact h.tw i c
    · rw [List.length_append, List.length_singleton] at hi
      have e : i + 2 = (qs ++ [z]).length := by omega
      rw [e, getD_app2, getD_app1 (l := qs ++ [z]) (by omega), getD_app1 (by omega)]
      exact hb i (by omega)
theorem WalkS.ring {n : Nat} {ks : List Lk} {ls qs : List Int} {z : Int} (ok : ∀ e ∈ ks, OkLk n e) (hls : ∀ v ∈ ls, 0 ≤ v ∧ v < (n : Int)) (h : WalkS ks ls qs z) {i : Nat} (hi : qs[i]? = some z) : IsRing n ks (qs.drop i) := by
  have hil : i < qs.length := (List.getElem?_eq_some_iff.mp hi).1
  have len : (qs ++ [z]).length = qs.length + 1 := by simp
  have gd : ∀ j, (qs.drop i).getD j 0 = qs.getD (i + j) 0 := fun j => by rw [List.getD_eq_getElem?_getD, List.getD_eq_getElem?_getD, List.getElem?_drop]
  have gz : qs.getD i 0 = z := by rw [List.getD_eq_getElem?_getD, hi]; rfl
  have dl : (qs.drop i).length = qs.length - i := List.length_drop
  have nd : (qs.drop i).Nodup := h.nd.sublist (List.drop_sublist _ _)
  have bd : ∀ v ∈ qs.drop i, 0 ≤ v ∧ v < (n : Int) := fun v m => hls v (h.ins v (List.mem_append_left _ (List.mem_of_mem_drop m)))
  have hlast : z ∈ nbr ks (qs.getD (qs.length - 1) 0) := by
    have := h.nb (qs.length - 1) (by omega)
    rw [show qs.length - 1 + 1 = qs.length by omega, getD_app2, getD_app1 (by omega)] at this
    exact this
  refine ⟨?_, all_below nd bd, nd, fun j hj => ?_, ?_, bd⟩
  · rw [dl]
    by_cases c1 : qs.length - i = 1
    · rw [show qs.length - 1 = i by omega, gz] at hlast
      exact absurd hlast (nbr_irr ok)
    · by_cases c2 : qs.length - i = 2
      · have := h.tw i (by omega)
        rw [show i + 2 = qs.length by omega, getD_app2, getD_app1 hil, gz] at this
        exact absurd rfl this
      · omega
  · rw [dl] at hj
    have := h.nb (i + j) (by omega)
    rw [getD_app1 (by omega), getD_app1 (by omega)] at this
    rw [gd, gd, show i + (j + 1) = i + j + 1 by omega]
    exact this
  · rw [gd, gd, dl, Nat.add_zero, gz, show i + (qs.length - i - 1) = qs.length - 1 by omega]
    exact hlast

abbrev s_HasRing_init : Stmt := inClass (top 8) 0
theorem sc_HasRing_init : FnScope ["self", "ring"] ["self", "ring"] (defScope s_HasRing_init) := ⟨rfl, rfl, rfl, by decide +kernel, rfl, by decide +kernel, by decide +kernel⟩
theorem x_of_HasRing {P : Program} {w : World} {K : PySem.W.Frag} {mg : Str → Option Value} {base : Heap} {B C : Addr} (ce : CeB K mg B) (D : ExcAt K mg "HasRing" C "ring" "HasRing.__init__" s_HasRing_init) : CalX P w K mg base 1 "HasRing" C "ring" (spErr K C "ring") := by
  refine D.cal (ps := ["self", "ring"]) (fun _ _ _ _ _ _ us hl => match us, hl with | [_, _], _ => rfl) fun f fd F => ?_
  refine F.ok sc_HasRing_init (fun vs H Q E h => ?_) (fun cdv A outer s H vs Q E hr h => ?_)
  · obtain ⟨a, v, rfl, _⟩ := h
    rfl
  · obtain ⟨a, v, rfl, T, nf, ha, k⟩ := h
    refine ⟨_, (pss_cons (ps_expr (pe_ceinit ce rfl (pa_cons (pv 0) (pa_cons pe_str pa_nil))))
  (pss_one (ps_ost (pv 0) (pv 1) rfl))), ?_⟩
    exact ⟨_, rfl, a, C, _, rfl, (by show 1 ≤ 1000; decide), T, ha, _, rfl, _, rfl, a, C, rfl, T, nf, .inl ⟨ha, fun dx hdx hne => k dx hdx hne⟩⟩
abbrev s_is_forest : Stmt := top 15
theorem sc_is_forest : FnScope ["network", "marks", "one", "other", "low", "high", "mark"] ["network"] (defScope s_is_forest) := ⟨rfl, rfl, rfl, by decide +kernel, rfl, by decide +kernel, by decide +kernel⟩
abbrev s_ring_of : Stmt := top 16
theorem sc_ring_of : FnScope ["network", "left", "thin", "walk", "before", "station", "one", "other"] ["network"] (defScope s_ring_of) := ⟨rfl, rfl, rfl, by decide +kernel, rfl, by decide +kernel, by decide +kernel⟩
abbrev s_check_forest : Stmt := top 17
theorem sc_check_forest : FnScope ["network", "ring"] ["network"] (defScope s_check_forest) := ⟨rfl, rfl, rfl, by decide +kernel, rfl, by decide +kernel, by decide +kernel⟩
def spForest (Z : List (Addr × Str)) (C : Addr) : Sp := fun vs H Q _ => ∃ (p : Addr) (n : Nat) (ks : List Lk), vs = [.ref p] ∧ NetAt C H p n ks ∧ n ≤ 60 ∧ ks.length ≤ 100000 ∧ OkLks n ks ∧ ∀ H', Sm Z H H' → Q (.bl (isForest n ks)) H'
def spRing (Z : List (Addr × Str)) (C : Addr) : Sp := fun vs H Q _ => ∃ (p : Addr) (n : Nat) (ks : List Lk), vs = [.ref p] ∧ NetAt C H p n ks ∧ n ≤ 60 ∧ ks.length ≤ 100000 ∧ OkLks n ks ∧
  (isForest n ks = true → ∀ H', Sm Z H H' → Q .non H') ∧ (isForest n ks = false → ∀ (q : Addr) (ring : List Int) (H' : Hp), Sm Z H H' → H' q = some (.tup (ring.map V.int)) → IsRing n ks ring → Q (.ref q) H')
def spChkF (Z : List (Addr × Str)) (C CR : Addr) : Sp := fun vs H Q E => ∃ (p : Addr) (n : Nat) (ks : List Lk), vs = [.ref p] ∧ NetAt C H p n ks ∧ n ≤ 60 ∧ ks.length ≤ 100000 ∧ OkLks n ks ∧
  (isForest n ks = true → ∀ H', Sm Z H H' → Q .non H') ∧ (isForest n ks = false → ∀ (q : Addr) (ring : List Int) (d : Addr) (H' : Hp), Sm Z H H' → H' q = some (.tup (ring.map V.int)) → IsRing n ks ring → H' d = some (.xd [("ring", .ref q)]) → E (.ref CR) (some d) H')
theorem inN_all {n : Nat} {ks : List Lk} (ok : ∀ e ∈ ks, OkLk n e) (v : Int) : inN ks (ids n) v = nbr ks v := by
  unfold inN
  rw [List.filter_eq_self]
  intro u m
  have := nbr_lt ok v u m
  exact decide_eq_true (mem_ids.mpr this)
theorem cutV_last (xs : List V) (z : V) : cutV (xs ++ [z]) none (some (-1)) = xs := by
  have e : HT.sIx (xs ++ [z]).length (xs ++ [z]).length (some (-1)) = xs.length := by
    show (if (-1 : Int) < 0 then ((-1 : Int) + ((xs ++ [z]).length : Int)).toNat else min (-1 : Int).toNat (xs ++ [z]).length) = _
    rw [if_pos (by decide), List.length_append, List.length_singleton]
    omega
  unfold cutV
  rw [e, HT.sIx_none, List.drop_zero, Nat.sub_zero, List.take_append_of_le_length (Nat.le_refl _), List.take_length]
theorem cutV_im1 (xs : List V) (z : V) {i : Nat} (h : i < xs.length) : cutV (xs ++ [z]) (some (i : Int)) (some (-1)) = xs.drop i := by
  have e : HT.sIx (xs ++ [z]).length (xs ++ [z]).length (some (-1)) = xs.length := by
    show (if (-1 : Int) < 0 then ((-1 : Int) + ((xs ++ [z]).length : Int)).toNat else min (-1 : Int).toNat (xs ++ [z]).length) = _
    rw [if_pos (by decide), List.length_append, List.length_singleton]
    omega
  unfold cutV
  rw [e, HT.sIx_nat, Nat.min_eq_left (by rw [List.length_append]; omega), List.drop_append_of_le_length (by omega), List.take_append_of_le_length (by rw [List.length_drop]; exact Nat.le_refl _), List.take_of_length_le (by rw [List.length_drop]; exact Nat.le_refl _)]
theorem atI_m2 {α : Type} {xs : List α} {v : α} (h : 2 ≤ xs.length) (h2 : xs[xs.length - 2]? = some v) : atI xs (-2) = some v := by
  unfold atI ixN
  rw [if_neg (by decide), if_pos (by omega)]
  show xs[((-2 : Int) + (xs.length : Int)).toNat]? = some v
  rw [show ((-2 : Int) + (xs.length : Int)).toNat = xs.length - 2 by omega]
  exact h2
theorem if_joinE {c : Bool} {A : Prop} {σ : L2.St} {H : Hp} {R : VK} (Pv : V → Prop) (h1 : c = true → ∃ v, Pv v ∧ (R v H → A)) (h0 : c = false → Pv .non) (k : ∀ v, Pv v → R v H) : if c = true then A else tC .non σ H R := by
  cases c with
  | true =>
    obtain ⟨v, p, q⟩ := h1 rfl
    exact q (k v p)
  | false => exact k .non (h0 rfl)
section
variable {P : Program} {w : World} {K : PySem.W.Frag} {mg : Str → Option Value} {base : Heap} {Z : List (Addr × Str)} {C CS CR : Addr}
theorem ok_forest (T : Bt mg) (N : NetC K C) (c_len : CalL P w K mg base 1 C (spLen C)) {f : Addr} {fd : FuncData} (F : Fun K "is_forest" "is_forest" s_is_forest f fd) : FnOk P w K mg base CX0 3 f fd ["network"] (spForest Z C) := by
  refine F.ok sc_is_forest (fun vs H Q E h => ?_) (fun cdv A outer s H vs Q E hr h => ?_)
  · obtain ⟨p, n, ks, rfl, _⟩ := h
    rfl
  · obtain ⟨p, n, ks, rfl, hn, hn60, hkl, hk, k⟩ := h
    refine ⟨_, (pss_cons (ps_set (i := 1) sc_is_forest.nd rfl (Or.inl rfl) (pe_listRg rfl rfl T.no_list (prg_1 rfl T.no_range (pe_lenOwn hr (by decide) c_len pass0 (by rfl) T.no_len (pa_cons (pv 0) pa_nil)))))
  (pss_cons (ps_for PassesOwn.never rfl (pi_listK K (pe_fldK K (pv 0) rfl)) (pg_tupK K 2 rfl (pgs_cons (pg_name (i := 2) sc_is_forest.nd rfl (Or.inl rfl)) (pgs_cons (pg_name (i := 3) sc_is_forest.nd rfl (Or.inl rfl)) pgs_nil))) (pss_cons (ps_asg (pe_tup (pa_cons (pe_ix (ix_listK K) (pv 1) (pv 2) (fun _ _ => rfl)) (pa_cons (pe_ix (ix_listK K) (pv 1) (pv 3) (fun _ _ => rfl)) pa_nil))) (pg_tupK K 2 rfl (pgs_cons (pg_name (i := 4) sc_is_forest.nd rfl (Or.inr rfl)) (pgs_cons (pg_name (i := 5) sc_is_forest.nd rfl (Or.inr rfl)) pgs_nil))))
  (pss_cons (ps_if (pt_cmpR op_eq (pv 4) (pv 5) (nomark _)) (pss_one (ps_ret pe_bl)) pss_nil)
  (pss_one (ps_setLc (i := 1) (own := [("mark", 6)]) (g := gName 6) rfl sc_is_forest.nd rfl rfl (sw_true rfl rfl rfl (by decide +kernel)) (pi_listK K (pv 1)) (blkOk_by (by kernel_rfl)) (fun _ _ _ _ _ => (pg_name (i := 6) sc_is_forest.nd rfl (Or.inl rfl))) (fun _ _ _ _ _ => pts_nil) (fun _ _ _ _ _ => (pe_ifExp (pt_cmpR op_eq (pv 6) (pv 5) (nomark _)) (pv 4) (pv 6))))))))
  (pss_one (ps_ret pe_bl)))), ?_⟩
    walk_at "rd"
    refine rd_len hn (by omega) ?_
    refine ⟨_, rfl, rgOk_nat (by omega), fun M0 hM0 => genO hM0 fun H1 n1 => ?_⟩
    rw [rgV_nat] at n1
    walk_at "rd"
    refine rd_kept N (hn.sm (T := Z) (Sm.of n1.s)) (fun kp hkp => ?_)
    obtain ⟨xs, hx1, hx2⟩ := hkp
    have hxl : xs.length = ks.length := Paired.length hx2
    refine ⟨kp, rfl, ⟨_, SqL.of hx1⟩, ?_⟩
    refine for_w (T := Z) (wk_list (SqL.of hx1)) (fun i σ' H' => ∃ (M : Addr) (m : List Int) (u2 u3 u4 u5 : Option V), σ' = [some (.ref p), some (.ref M), u2, u3, u4, u5, none] ∧ Sm Z H1 H' ∧ H' M = some (.lst (m.map V.int)) ∧ m.length = n ∧ forestF m (ks.drop i) = isForest n ks)
      ⟨M0, ids n, none, none, none, none, rfl, Sm.refl _, n1.at', by simp [ids], rfl⟩ (fun i σ' H' h => by obtain ⟨_, _, _, _, _, _, _, h, _⟩ := h; exact h) (fun i x σ1 H2 H3 hi hP s3 hit => ?_) (fun σ' H2 hP => ?_)
    · obtain ⟨M, m, u2, u3, u4, u5, rfl, s2, hM, hml, hfo⟩ := hP
      rw [hxl] at hi
      obtain ⟨e, he⟩ : ∃ e, ks[i]? = some e := ⟨_, List.getElem?_eq_getElem hi⟩
      obtain ⟨x', hx', hpr⟩ := paired_get' hx2 he
      obtain rfl : x = x' := by
        have it2 : xs[i]? = some x := hit
        rw [hx'] at it2
        exact (Option.some.inj it2).symm
      obtain ⟨o0, o1, o2⟩ := hk.1 e (List.mem_of_getElem? he)
      obtain ⟨t, rfl, ht⟩ := hpr
      have s13 : Sm Z H1 H3 := s2.new s3
      have hM3 := s3 _ _ hM
      refine rd_gtup2 (SqT.of (s13.tup ht)) rfl ?_
      walk_at "rd"
      refine rd_intL hM3 e.1.toNat (by omega) (by omega) ?_
      walk_at "rd"
      refine rd_intL hM3 e.2.toNat (by omega) (by omega) ?_
      walk_at "rd"
      refine ⟨by show 2 ≤ sizeLine; decide, fun q hq => genO hq fun H4 n4 => ?_⟩
      refine rd_gtup2 (SqT.of n4.at') rfl ?_
      walk_at "rd"
      have hdrop : ks.drop i = e :: ks.drop (i + 1) := by
        rw [List.drop_eq_getElem_cons (by omega)]
        congr 1
        exact (List.getElem?_eq_some_iff.mp he).2
      rw [hdrop] at hfo
      have s14 : Sm Z H1 H4 := s13.new n4.s
      refine rifD (fun c => ?_) (fun c => ?_)
      · have : isForest n ks = false := by
          rw [← hfo]
          show (if _ then _ else _) = _
          rw [if_pos c]
        walk_at "rd"
        exact this ▸ k H4 ((Sm.of n1.s).trans s14)
      · walk_at "rd"
        have hM4 := n4.s _ _ hM3
        refine ⟨M, rfl, ⟨_, SqL.of hM4⟩, ?_⟩
        refine lcm_w (T := Z) (wk_list (SqL.of hM4)) (by rw [List.length_map, hml, sizeLine_eq]; omega) (fun j => V.int ((mergeM m e).getD j 0)) (fun j y Ha Hb hj sa sb it kt ht => ?_) (fun D Ha fD sa hD => ?_)
        · refine ⟨rfl, ?_⟩
          rw [List.length_map] at hj
          have hy : y = .int (m.getD j 0) := by
            have it2 : (m.map V.int)[j]? = some y := it
            rw [List.getElem?_map, List.getElem?_eq_getElem hj] at it2
            simp [hj, ← Option.some.inj it2]
          subst hy
          have hmj := mergeM_at (e := e) hj
          walk_at "rd"
          refine rifD (fun c2 => ?_) (fun c2 => ?_)
          · walk_at "rd"
            have := ht Hb (Sm.of sb)
            rw [hmj, if_pos c2] at this
            exact this
          · walk_at "rd"
            have := ht Hb (Sm.of sb)
            rw [hmj, if_neg c2] at this
            exact this
        · rw [List.length_map, hml] at hD
          walk_at "rd"
          refine ⟨D, mergeM m e, _, _, _, _, rfl, s14.trans sa, ?_, by rw [mergeM_len, hml], ?_⟩
          · rw [hD, show (List.range n).map (fun j => V.int ((mergeM m e).getD j 0)) = ((List.range (mergeM m e).length).map (fun j => (mergeM m e).getD j 0)).map V.int by rw [List.map_map, mergeM_len, hml]; rfl, list_range]
          · rw [← hfo]
            show _ = (if _ then _ else _)
            rw [if_neg c]
    · obtain ⟨M, m, u2, u3, u4, u5, rfl, s2, hM, hml, hfo⟩ := hP
      rw [hxl, List.drop_length] at hfo
      walk_at "rd"
      have e2 : isForest n ks = true := hfo.symm
      exact e2 ▸ k H2 ((Sm.of n1.s).trans s2)
theorem ok_ring (T : Bt mg) (N : NetC K C) (c_len : CalL P w K mg base 1 C (spLen C)) (c_is_forest : Cal P w K mg base CX0 3 "is_forest" (spForest Z C)) (c_Network_neighbours : CalM P w K mg base (L2.CX P w) 4 C "neighbours" (spNeigh Z C CS))
    {f : Addr} {fd : FuncData} (F : Fun K "ring_of" "ring_of" s_ring_of f fd) : FnOk P w K mg base CX0 5 f fd ["network"] (spRing Z C) := by
  refine F.ok sc_ring_of (fun vs H Q E h => ?_) (fun cdv A outer s H vs Q E hr h => ?_)
  · obtain ⟨p, n, ks, rfl, _⟩ := h
    rfl
  · obtain ⟨p, n, ks, rfl, hn, hn60, hkl, hk, kN, kR⟩ := h
    refine ⟨_, (pss_cons (ps_if (pt_val (pe_cal hr (by decide) c_is_forest pass0 rfl (pa_cons (pv 0) pa_nil))) (pss_one (ps_ret pe_non)) pss_nil)
  (pss_cons (ps_set (i := 1) sc_ring_of.nd rfl (Or.inr rfl) (pe_listRg rfl rfl T.no_list (prg_1 rfl T.no_range (pe_lenOwn hr (by decide) c_len pass0 (by rfl) T.no_len (pa_cons (pv 0) pa_nil)))))
  (pss_cons (ps_set (i := 2) sc_ring_of.nd rfl (Or.inr rfl) (pe_lc (own := [("station", 5)]) (g := gName 5) rfl sc_ring_of.nd (pi_listK K (pv 1)) (blkOk_by (by kernel_rfl)) (fun _ _ _ _ _ => (pg_name (i := 5) sc_ring_of.nd rfl (Or.inl rfl))) (fun _ _ _ _ _ => (pts_one (pt_cmpR op_lt (pe_callB (call_lenK K) (by rfl) T.no_len (by decide +kernel) (pa_cons (pe_ix (ix_listK K) (pe_fldK K (pv 0) rfl) (pv 5) (fun _ _ => rfl)) pa_nil)) pe_int (nomark _)))) (fun _ _ _ _ _ => (pv 5))))
  (pss_cons (ps_while PassesOwn.never (pt_cmpR (op_neDK K hr.units) (pv 2) (pe_lst pa_nil) (nomark _)) (pss_cons (ps_set (i := 1) sc_ring_of.nd rfl (Or.inr rfl) (pe_lc (own := [("station", 5)]) (g := gName 5) rfl sc_ring_of.nd (pi_listK K (pv 1)) (blkOk_by (by kernel_rfl)) (fun _ _ _ _ _ => (pg_name (i := 5) sc_ring_of.nd rfl (Or.inl rfl))) (fun _ _ _ _ _ => (pts_one (pt_cmpR (op_notInSK K) (pv 5) (pv 2) (by rfl)))) (fun _ _ _ _ _ => (pv 5))))
  (pss_one (ps_set (i := 2) sc_ring_of.nd rfl (Or.inr rfl) (pe_lc (own := [("one", 6)]) (g := gName 6) rfl sc_ring_of.nd (pi_listK K (pv 1)) (blkOk_by (by kernel_rfl)) (fun _ _ _ _ _ => (pg_name (i := 6) sc_ring_of.nd rfl (Or.inl rfl))) (fun _ _ _ _ _ => (pts_one (pt_cmpR op_lt (pe_callB (call_lenK K) (by rfl) T.no_len (by decide +kernel) (pa_cons (pe_lc (own := [("other", 7)]) (g := gName 7) rfl sc_ring_of.nd (pi_listK K (pe_ix (ix_listK K) (pe_fldK K (pv 0) rfl) (pv 6) (fun _ _ => rfl))) (blkOk_by (by kernel_rfl)) (fun _ _ _ _ _ => (pg_name (i := 7) sc_ring_of.nd rfl (Or.inl rfl))) (fun _ _ _ _ _ => (pts_one (pt_cmpR (op_inSK K) (pv 7) (pv 1) (by rfl)))) (fun _ _ _ _ _ => (pv 7))) pa_nil)) pe_int (nomark _)))) (fun _ _ _ _ _ => (pv 6)))))))
  (pss_cons (ps_set (i := 3) sc_ring_of.nd rfl (Or.inl rfl) (pe_lst (pa_cons (pe_ix (ix_listK K) (pv 1) pe_int (fun _ _ => rfl)) pa_nil)))
  (pss_cons (ps_while PassesOwn.never (pt_cmpR (op_notInSK K) (pe_ix (ix_listK K) (pv 3) (pe_un un_neg pe_int) (fun _ _ => rfl)) (pe_slice (sl_listK K) (pv 3) po_none (po_some (pe_un un_neg pe_int))) (by rfl)) (pss_cons (ps_set (i := 4) sc_ring_of.nd rfl (Or.inr rfl) (pe_ifExp (pt_cmpR op_gt (pe_callB (call_lenK K) (by rfl) T.no_len (by decide +kernel) (pa_cons (pv 3) pa_nil)) pe_int (nomark _)) (pe_ix (ix_listK K) (pv 3) (pe_un un_neg pe_int) (fun _ _ => rfl)) pe_non))
  (pss_one (ps_expr (pe_bmK K PySem.F.plainAttrs_list PySem.F.slot_list_append PySem.F.type_list_append mt_append (pv 3) (pa_cons (pe_ix (ix_listK K) (pe_lc (own := [("one", 6)]) (g := gName 6) rfl sc_ring_of.nd (pi_listK K (pe_calM (pv 0) hr (by decide) c_Network_neighbours passL (pa_cons (pe_ix (ix_listK K) (pv 3) (pe_un un_neg pe_int) (fun _ _ => rfl)) pa_nil))) (blkOk_by (by kernel_rfl)) (fun _ _ _ _ _ => (pg_name (i := 6) sc_ring_of.nd rfl (Or.inl rfl))) (fun _ _ _ _ _ => (pts_one (PW.pt (pw_and (pt_cmpR (op_inSK K) (pv 6) (pv 1) (by rfl)) (pw_and1 (pt_cmpR (op_neX K (hu65 hr)) (pv 6) (pv 4) (nomark _))))))) (fun _ _ _ _ _ => (pv 6))) pe_int (fun _ _ => rfl)) pa_nil))))))
  (pss_one (ps_ret (pe_callTy (call_tupleK K) (by rfl) T.no_tuple (by decide +kernel) (pa_cons (pe_slice (sl_listK K) (pv 3) (po_some (pe_bmK K PySem.F.plainAttrs_list PySem.F.slot_list_index PySem.F.type_list_index mt_index (pv 3) (pa_cons (pe_ix (ix_listK K) (pv 3) (pe_un un_neg pe_int) (fun _ _ => rfl)) pa_nil))) (po_some (pe_un un_neg pe_int))) pa_nil)))))))))), ?_⟩
    walk_at "rd"
    refine ⟨p, n, ks, rfl, hn, hn60, hkl, hk, fun H1 s1 => ?_⟩
    walk_at "rd"
    refine rif (fun hf => ?_) (fun hf => ?_)
    · walk_at "rd"
      exact kN hf H1 s1
    walk_at "rd"
    refine rd_len (hn.sm s1) (by omega) ?_
    refine ⟨_, rfl, rgOk_nat (by omega), fun A0 hA0 => genO hA0 fun H2 n2 => ?_⟩
    rw [rgV_nat] at n2
    have hA0' : H2 A0 = some (.lst ((ids n).map V.int)) := n2.at'
    have s02 : Sm Z H H2 := s1.new n2.s
    have idl : (ids n).length = n := by simp [ids]
    walk_at "rd"
    refine ⟨A0, rfl, ⟨_, SqL.of hA0'⟩, ?_⟩
    refine lcf_w (T := Z) (wk_list (SqL.of hA0')) (by rw [List.length_map, idl, sizeLine_eq]; omega) (fun j => decide ((inN ks (ids n) ((ids n).getD j 0)).length < 2)) (fun j => .int ((ids n).getD j 0)) (fun j y Ha Hb hj sa sb it kt kf ht hf' => ?_) (fun B0 H3 fB0 s3 hB0 => ?_)
    · refine ⟨rfl, ?_⟩
      rw [List.length_map] at hj
      have hy : y = .int ((ids n).getD j 0) := by
        have it2 : ((ids n).map V.int)[j]? = some y := it
        rw [List.getElem?_map, List.getElem?_eq_getElem hj] at it2
        simp [hj, ← Option.some.inj it2]
      subst hy
      have hv := mem_ids.mp (by simp [hj] : (ids n).getD j 0 ∈ ids n)
      rw [inN_all hk.1] at ht hf'
      generalize (ids n).getD j 0 = v at hv ht hf' ⊢
      walk_at "rd"
      refine rd_near N (hn.sm (s02.trans (sa.new sb))) (fun nr hnr => ?_)
      walk_at "rd"
      refine rd_row hnr v.toNat (by omega) (nbrs_at ks (by omega)) (fun q hq => ?_)
      walk_at "rd"
      refine rd_lenL (SqL.of hq) ?_
      walk_at "rd"
      rw [List.length_map, show ((v.toNat : Nat) : Int) = v by omega]
      refine rifD (fun c => ?_) (fun c => ?_)
      · walk_at "rd"
        exact ht Hb (decide_eq_true (by omega)) (Sm.of sb)
      · exact hf' Hb (decide_eq_false (by omega)) (Sm.of sb)
    rw [List.length_map, range_filter (fun v => decide ((inN ks (ids n) v).length < 2)) (ids n)] at hB0
    have hB0' : H3 B0 = some (.lst ((thinF ks (ids n)).map V.int)) := hB0
    walk_at "rd"
    refine rd_while (fun m σ' H' => ∃ (A B : Addr) (ls : List Int), σ' = [some (.ref p), some (.ref A), some (.ref B), none, none, none, none, none] ∧ Sm Z H2 H' ∧ H' A = some (.lst (ls.map V.int)) ∧ H' B = some (.lst ((thinF ks ls).map V.int)) ∧ (∀ v ∈ ls, 0 ≤ v ∧ v < (n : Int)) ∧ (Br ks ls → Br ks (ids n)) ∧ ls.length ≤ n ∧ m = ls.length) n
      ⟨A0, B0, ids n, rfl, s3, s3.lst hA0', hB0', fun v m => mem_ids.mp m, id, by rw [idl]; exact Nat.le_refl _, idl.symm⟩ (fun m σ2 H4 hW => ?_)
    obtain ⟨A, B, ls, rfl, s4, hA, hB, hbd, hbr, hll, rfl⟩ := hW
    walk_at "rd"
    refine ⟨by show 0 ≤ sizeLine; decide, fun q5 hq5 => genO hq5 fun H5 n5 => ?_⟩
    have s5 : Sm Z H2 H5 := s4.new n5.s
    have hA5 := n5.s _ _ hA
    have hB5 := n5.s _ _ hB
    refine rd_neD (Dt.ints hB5) (Dt.ints (ns := []) n5.at') (okd_ints _) (okd_ints []) ?_
    rw [eqv_lints]
    walk_at "rd"
    refine rifN (fun c => ?_) (fun c => ?_)
    · refine rd_turn ?_
      walk_at "rd"
      refine ⟨A, rfl, ⟨_, SqL.of hA5⟩, ?_⟩
      refine lcf_w (T := Z) (wk_list (SqL.of hA5)) (by rw [List.length_map, sizeLine_eq]; omega) (fun j => !decide (ls.getD j 0 ∈ thinF ks ls)) (fun j => .int (ls.getD j 0)) (fun j y Ha Hb hj sa sb it kt kf ht hf' => ?_) (fun A2 H6 fA2 s6 hA2 => ?_)
      · refine ⟨rfl, ?_⟩
        rw [List.length_map] at hj
        have hy : y = .int (ls.getD j 0) := by
          have it2 : (ls.map V.int)[j]? = some y := it
          rw [List.getElem?_map, List.getElem?_eq_getElem hj] at it2
          simp [hj, ← Option.some.inj it2]
        subst hy
        walk_at "rd"
        refine rd_notInI (SqL.of ((sa.new sb).lst hB5)) ?_
        walk_at "rd"
        refine rif (fun hin => ?_) (fun hin => ?_)
        · walk_at "rd"
          exact ht _ hin (Sm.of sb)
        · exact hf' _ hin (Sm.of sb)
      rw [List.length_map, range_filter (fun v => !decide (v ∈ thinF ks ls)) ls] at hA2
      have hA2' : H6 A2 = some (.lst ((fatF ks ls).map V.int)) := hA2
      obtain ⟨fs, hfs⟩ : ∃ fs, fs = fatF ks ls := ⟨_, rfl⟩
      rw [← hfs] at hA2'
      have hfl : fs.length < ls.length := hfs ▸ fat_lt c
      have hfb : ∀ v ∈ fs, 0 ≤ v ∧ v < (n : Int) := fun v m => hbd v (by rw [hfs] at m; exact (mem_fat.mp m).1)
      have s26 : Sm Z H2 H6 := s5.trans s6
      walk_at "rd"
      refine ⟨A2, rfl, ⟨_, SqL.of hA2'⟩, ?_⟩
      refine lcf_w (T := Z) (wk_list (SqL.of hA2')) (by rw [List.length_map, sizeLine_eq]; omega) (fun j => decide ((inN ks fs (fs.getD j 0)).length < 2)) (fun j => .int (fs.getD j 0)) (fun j y Ha Hb hj sa sb it kt kf ht hf' => ?_) (fun B2 H7 fB2 s7 hB2 => ?_)
      · refine ⟨rfl, ?_⟩
        rw [List.length_map] at hj
        have hy : y = .int (fs.getD j 0) := by
          have it2 : (fs.map V.int)[j]? = some y := it
          rw [List.getElem?_map, List.getElem?_eq_getElem hj] at it2
          simp [hj, ← Option.some.inj it2]
        subst hy
        have hv := hfb _ (by simp [hj] : fs.getD j 0 ∈ fs)
        generalize fs.getD j 0 = v at hv ht hf' ⊢
        walk_at "rd"
        refine rd_near N (hn.sm (s02.trans (s26.trans (sa.new sb)))) (fun nr hnr => ?_)
        walk_at "rd"
        refine rd_row hnr v.toNat (by omega) (nbrs_at ks (by omega)) (fun q hq => ?_)
        rw [show ((v.toNat : Nat) : Int) = v by omega] at hq
        have hqn := nbr_len ks v
        refine ⟨q, rfl, ⟨_, SqL.of hq⟩, ?_⟩
        refine lcf_w (T := Z) (wk_list (SqL.of hq)) (by rw [List.length_map, sizeLine_eq]; omega) (fun j => decide ((nbr ks v).getD j 0 ∈ fs)) (fun j => .int ((nbr ks v).getD j 0)) (fun j2 y2 Hc Hd hj2 sc sd it2 kt2 kf2 ht2 hf2 => ?_) (fun D2 He fD2 se hD2 => ?_)
        · refine ⟨rfl, ?_⟩
          rw [List.length_map] at hj2
          have hy2 : y2 = .int ((nbr ks v).getD j2 0) := by
            have it3 : ((nbr ks v).map V.int)[j2]? = some y2 := it2
            rw [List.getElem?_map, List.getElem?_eq_getElem hj2] at it3
            simp [hj2, ← Option.some.inj it3]
          subst hy2
          walk_at "rd"
          refine rd_inI (SqL.of (((sa.new sb).trans (sc.new sd)).lst hA2')) ?_
          walk_at "rd"
          refine rif (fun hin => ?_) (fun hin => ?_)
          · walk_at "rd"
            exact ht2 _ hin (Sm.of sd)
          · exact hf2 _ hin (Sm.of sd)
        · rw [List.length_map, range_filter (fun u => decide (u ∈ fs)) (nbr ks v)] at hD2
          have hD2' : He D2 = some (.lst ((inN ks fs v).map V.int)) := hD2
          walk_at "rd"
          refine rd_lenL (SqL.of hD2') ?_
          walk_at "rd"
          rw [List.length_map]
          refine rifD (fun c => ?_) (fun c => ?_)
          · walk_at "rd"
            exact ht He (decide_eq_true (by omega)) ((Sm.of sb).trans se)
          · exact hf' He (decide_eq_false (by omega)) ((Sm.of sb).trans se)
      rw [List.length_map, range_filter (fun v => decide ((inN ks fs v).length < 2)) fs] at hB2
      walk_at "rd"
      exact ⟨fs.length, hfl, A2, B2, fs, rfl, s26.trans s7, s7.lst hA2', hB2, hfb, fun h => hbr (br_step hk.1 (hfs ▸ h)), by omega, rfl⟩
    have hne : ls ≠ [] := fun z => by
      have := br_forest hk (hbr (z ▸ br_nil ks))
      rw [hf] at this
      cases this
    obtain ⟨z0, hz0⟩ : ∃ z0, ls[0]? = some z0 := by
      cases ls with
      | nil => exact absurd rfl hne
      | cons x r => exact ⟨x, rfl⟩
    walk_at "rd"
    refine rd_ixL (SqL.of hA5) (sat (j := 0) rfl (by rw [List.getElem?_map, hz0]; rfl)) ?_
    walk_at "rd"
    refine ⟨by show 1 ≤ sizeLine; decide, fun W0 hW0 => genO hW0 fun H6 n6 => ?_⟩
    walk_at "rd"
    have hzl0 : z0 ∈ ls := List.mem_of_getElem? hz0
    have s56 : Sm Z H5 H6 := Sm.of n6.s
    have fW : Fr H5 W0 := fr_none n6.no
    have hqn : ∀ {qs : List Int} {z : Int}, WalkS ks ls qs z → qs.length ≤ n := fun h => all_below h.nd fun u m => hbd u (h.ins u (List.mem_append_left _ m))
    refine rd_while (fun m σ' H' => ∃ (qs : List Int) (z : Int) (ub : Option V), σ' = [some (.ref p), some (.ref A), some (.ref B), some (.ref W0), ub, none, none, none] ∧ Sm Z H5 H' ∧ H' W0 = some (.lst ((qs ++ [z]).map V.int)) ∧ WalkS ks ls qs z ∧ m = n + 1 - qs.length) (n + 1)
      ⟨[], z0, none, rfl, s56, n6.at', ⟨fun v m => by rw [List.mem_singleton.mp m]; exact hzl0, List.nodup_nil, fun i hi => by simp at hi, fun i hi => by simp at hi⟩, rfl⟩ (fun m σ2 H7 hW => ?_)
    obtain ⟨qs, z, ub, rfl, s7, hW7, wk, rfl⟩ := hW
    have hql := hqn wk
    have s07 : Sm Z H H7 := (s02.trans s5).trans s7
    have hA7 := s7.lst hA5
    have elast : ((qs ++ [z]).map V.int)[((qs ++ [z]).map V.int).length - 1]? = some (V.int z) := by
      rw [List.length_map, List.length_append, List.length_singleton, Nat.add_sub_cancel, List.getElem?_map, List.getElem?_append_right (Nat.le_refl _), Nat.sub_self]
      rfl
    walk_at "rd"
    refine rd_ixL (SqL.of hW7) (atI_m1 elast) ?_
    walk_at "rd"
    refine rd_slL (SqL.of hW7) (fun S1 H8 n8 => ?_)
    have hS1 := n8.at'
    rw [List.map_append, show [z].map V.int = [V.int z] from rfl, show (-(1 : Int)) = -1 from rfl, cutV_last] at hS1
    refine rd_notInI (SqL.of hS1) ?_
    have hW8 := n8.s _ _ hW7
    have s78 : Sm Z H5 H8 := s7.new n8.s
    have s08 : Sm Z H H8 := s07.new n8.s
    have hzls := wk.ins z (by simp)
    have hzb := hbd z hzls
    walk_at "rd"
    refine rifN (fun hz => ?_) (fun hz => ?_)
    · refine rd_turn ?_
      walk_at "rd"
      refine rd_lenL (SqL.of hW8) ?_
      walk_at "rd"
      rw [List.length_map, List.length_append, List.length_singleton]
      have eb : qs ≠ [] → qs[qs.length - 1]? = some (qs.getD (qs.length - 1) 0) := fun h => by
        have := List.length_pos_iff.mpr h
        rw [List.getD_eq_getElem?_getD, List.getElem?_eq_getElem (by omega)]
        rfl
      refine if_joinE (fun v => ∃ bd, Dt H8 v bd ∧ Okd 64 bd ∧ ∀ u : Int, PyData.eqv (.int u) bd = false ↔ ∀ i, i + 1 = qs.length → u ≠ qs.getD i 0) (fun c => ?_) (fun c => ?_) (fun bv hbv => ?_)
      · have hq0 : qs ≠ [] := fun z => by rw [z] at c; simp at c
        have hq1 := List.length_pos_iff.mpr hq0
        refine ⟨.int (qs.getD (qs.length - 1) 0), ⟨_, .int _, okd_int _, fun u => ?_⟩, fun hR => ?_⟩
        · constructor
          · intro h i hi e
            rw [e, show i = qs.length - 1 by omega] at h
            simp [PyData.eqv] at h
          · intro h
            have := h (qs.length - 1) (by omega)
            show (u == qs.getD (qs.length - 1) 0) = false
            exact beq_eq_false_iff_ne.mpr this
        · walk_at "rd"
          refine rd_ixL (SqL.of hW8) (atI_m2 (by rw [List.length_map, List.length_append, List.length_singleton]; omega) ?_) hR
          rw [List.length_map, List.length_append, List.length_singleton, List.getElem?_map, show qs.length + 1 - 2 = qs.length - 1 by omega, List.getElem?_append_left (by omega), eb hq0]
          rfl
      · have hq0 : qs.length = 0 := by
          have := of_decide_eq_false c
          omega
        exact ⟨.none, .non, okd_non, fun u => ⟨fun _ i hi => by omega, fun _ => rfl⟩⟩
      obtain ⟨bd, hbd2, hbo, hbe⟩ := hbv
      walk_at "rd"
      refine ⟨tyL hW8, ?_⟩
      walk_at "rd"
      refine rd_netM (hn.sm s08) ?_
      walk_at "rd"
      refine rd_ixL (SqL.of hW8) (atI_m1 elast) ?_
      walk_at "rd"
      have ez : z = ((z.toNat : Nat) : Int) := by omega
      rw [ez]
      refine rd_neigh (hn.sm s08) hn60 (by omega) (fun q9 H9 s9 nq9 hq9 => ?_)
      rw [← ez] at hq9
      obtain ⟨us, hus⟩ : ∃ us, us = srt (nbr ks z) := ⟨_, rfl⟩
      rw [← hus] at hq9
      have usm : ∀ u, u ∈ us ↔ u ∈ nbr ks z := fun u => by rw [hus]; exact (srt_perm _).mem_iff
      have usl : us.length ≤ 100000 := by
        have := nbr_len ks z
        rw [hus, srt_len]
        omega
      refine ⟨q9, rfl, ⟨_, SqL.of hq9⟩, ?_⟩
      refine lcf_w (T := Z) (wk_list (SqL.of hq9)) (by rw [List.length_map, sizeLine_eq]; omega) (fun j => decide (us.getD j 0 ∈ ls) && !PyData.eqv (.int (us.getD j 0)) bd) (fun j => .int (us.getD j 0)) (fun j y Ha Hb hj sa sb it kt kf ht hf' => ?_) (fun D H10 fD s10 hD => ?_)
      · refine ⟨rfl, ?_⟩
        rw [List.length_map] at hj
        have hy : y = .int (us.getD j 0) := by
          have it2 : (us.map V.int)[j]? = some y := it
          rw [List.getElem?_map, List.getElem?_eq_getElem hj] at it2
          simp [hj, ← Option.some.inj it2]
        subst hy
        generalize us.getD j 0 = u at ht hf' ⊢
        have s8b : Sm Z H8 Hb := s9.trans (sa.new sb)
        walk_at "rd"
        refine rd_inI (SqL.of (s8b.lst (n8.s _ _ hA7))) ?_
        walk_at "rd"
        refine rifD (fun c1 => ?_) (fun c1 => ?_)
        · walk_at "rd"
          refine rd_neX (eqX_dt (.int u) (hbd2.sm s8b) (okd_int _) hbo) ?_
          walk_at "rd"
          refine rif (fun c2 => ?_) (fun c2 => ?_)
          · walk_at "rd"
            exact ht Hb (by rw [decide_eq_true c1, c2]; rfl) (Sm.of sb)
          · exact hf' Hb (by rw [decide_eq_true c1, c2]; rfl) (Sm.of sb)
        · walk_at "rd"
          exact hf' Hb (by rw [decide_eq_false c1]; rfl) (Sm.of sb)
      · rw [List.length_map, range_filter (fun u => decide (u ∈ ls) && !PyData.eqv (.int u) bd) us] at hD
        obtain ⟨cs, hcs⟩ : ∃ cs, cs = us.filter (fun u => decide (u ∈ ls) && !PyData.eqv (.int u) bd) := ⟨_, rfl⟩
        rw [← hcs] at hD
        have csm : ∀ u, u ∈ cs ↔ u ∈ inN ks ls z ∧ ∀ i, i + 1 = qs.length → u ≠ qs.getD i 0 := fun u => by
          rw [hcs, List.mem_filter, Bool.and_eq_true, decide_eq_true_eq, Bool.not_eq_true', hbe, mem_inN, usm]
          exact and_assoc.symm
        obtain ⟨u0, hu0⟩ : ∃ u0, u0 ∈ cs := by
          obtain ⟨u, h1, h2⟩ := cand_ne hk c hzls (qs.getD (qs.length - 1) 0)
          refine ⟨u, (csm u).mpr ⟨h1, fun i hi => ?_⟩⟩
          rw [show i = qs.length - 1 by omega]
          exact h2
        obtain ⟨u, hu⟩ : ∃ u, cs[0]? = some u := ⟨_, List.getElem?_eq_getElem (List.length_pos_of_mem hu0)⟩
        obtain ⟨hu1, hu2⟩ := (csm u).mp (List.mem_of_getElem? hu)
        walk_at "rd"
        refine rd_ixL (SqL.of hD) (sat (j := 0) rfl (by rw [List.getElem?_map, hu]; rfl)) ?_
        walk_at "rd"
        have s810 : Sm Z H8 H10 := s9.trans s10
        have hW10 := s810.lst hW8
        have wk2 := wk.step hz hu1 hu2
        have hq2 := hqn wk2
        refine rd_app hW10 (by rw [List.length_map, List.length_append, List.length_singleton, sizeLine_eq]; omega) (fun H11 hW11 k11 => ?_)
        walk_at "rd"
        rw [List.length_append, List.length_singleton] at hq2
        refine ⟨n + 1 - (qs ++ [z]).length, by rw [List.length_append, List.length_singleton]; omega, qs ++ [z], u, _, rfl, (s78.trans s810).mutL fW hW10 k11, by rw [hW11, List.map_append (l₁ := qs ++ [z])]; rfl, wk2, rfl⟩
    · walk_at "rd"
      refine ⟨tyL hW8, ?_⟩
      walk_at "rd"
      refine rd_ixL (SqL.of hW8) (atI_m1 elast) ?_
      walk_at "rd"
      obtain ⟨i, hi⟩ := List.mem_iff_getElem?.mp hz
      have hil : i < qs.length := (List.getElem?_eq_some_iff.mp hi).1
      refine ⟨W0, _, .int z, i, .int z, rfl, rfl, SqL.of hW8, rfl, flat_ints _, by rw [List.getElem?_map, List.getElem?_append_left hil, hi]; rfl, by show (z == z) = true; simp, fun m z' hm hz' => ?_, ?_⟩
      · rw [List.getElem?_map, List.getElem?_append_left (by omega), List.getElem?_eq_getElem (by omega)] at hz'
        obtain rfl := Option.some.inj hz'
        show (qs[m] == z) = false
        refine beq_eq_false_iff_ne.mpr fun e => ?_
        have := (List.getElem?_inj (show m < qs.length by omega) wk.nd).mp ((List.getElem?_eq_getElem (by omega)).trans ((congrArg some e).trans hi.symm))
        omega
      walk_at "rd"
      refine rd_slL (SqL.of hW8) (fun S2 H9 n9 => ?_)
      have hS2 := n9.at'
      rw [List.map_append, show [z].map V.int = [V.int z] from rfl, show (-(1 : Int)) = -1 from rfl, cutV_im1 _ _ (by rw [List.length_map]; exact hil), ← List.map_drop] at hS2
      walk_at "rd"
      refine rd_tupL (SqL.of hS2) (fun q H10 n10 => ?_)
      exact kR hf q (qs.drop i) H10 ((s08.new n9.s).new n10.s) n10.at' (wk.ring hk.1 hbd hi)
theorem ok_chkF (T : Bt mg) (c_ring_of : Cal P w K mg base CX0 5 "ring_of" (spRing Z C)) (x_HasRing : CalX P w K mg base 1 "HasRing" CR "ring" (spErr K CR "ring")) {f : Addr} {fd : FuncData} (F : Fun K "check_forest" "check_forest" s_check_forest f fd) :
    FnOk P w K mg base (L2.CX P w) 6 f fd ["network"] (spChkF Z C CR) := by
  refine F.okX sc_check_forest (fun vs H Q E h => ?_) (fun cdv A outer s H vs Q E hr h => ?_)
  · obtain ⟨p, n, ks, rfl, _⟩ := h
    rfl
  · obtain ⟨p, n, ks, rfl, hn, hn60, hkl, hk, kN, kR⟩ := h
    refine ⟨_, (pss_cons (ps_set (i := 1) sc_check_forest.nd rfl (Or.inl rfl) (pe_cal hr (by decide) c_ring_of pass0 rfl (pa_cons (pv 0) pa_nil)))
  (pss_one (ps_if (pt_cmpR op_notN (pv 1) pe_non (nomark _)) (pss_one (ps_raiseOwn rfl hr (by decide) x_HasRing (takes_of rfl rfl rfl rfl) rfl (pa_cons (pv 1) pa_nil))) pss_nil))), ?_⟩
    walk_at "rd"
    refine ⟨p, n, ks, rfl, hn, hn60, hkl, hk, fun hf H1 s1 => ?_, fun hf q ring H1 s1 hq hr => ?_⟩
    · walk_at "rd"
      refine ⟨rfl, ?_⟩
      walk_at "rd"
      refine L2.iteF ?_
      walk_at "rd"
      exact kN hf H1 s1
    · walk_at "rd"
      refine ⟨rfl, ?_⟩
      walk_at "rd"
      refine L2.iteT ?_
      walk_at "rd"
      intro d H2 n2
      exact kR hf q ring d H2 (s1.new n2.s) (n2.s _ _ hq) hr n2.at'
end

abbrev s_chain : Stmt := top 25
theorem sc_chain : FnScope ["numbers", "found", "number"] ["numbers"] (defScope s_chain) := ⟨rfl, rfl, rfl, by decide +kernel, rfl, by decide +kernel, by decide +kernel⟩
abbrev s_greatest_channels : Stmt := top 26
theorem sc_greatest_channels : FnScope ["network", "table", "lowered", "later", "station", "one"] ["network"] (defScope s_greatest_channels) := ⟨rfl, rfl, rfl, by decide +kernel, rfl, by decide +kernel, by decide +kernel⟩
/-- chain: of a list of ints -/
def spChain (Z : List (Addr × Str)) (K : PySem.W.Frag) : Sp := fun vs H Q _ => ∃ (a : Addr) (ns : List Int), vs = [.ref a] ∧ SqL K H a (ns.map V.int) ∧ ∀ H', Sm Z H H' → Q (.int (chainN ns)) H'
/-- one step of the table -/
def nextT (n : Nat) (ks : List Lk) (t : List Int) : List Int := (List.range n).map fun (i : Nat) => 1 + chainN ((nbr ks (i : Int)).map fun u => t.getD u.toNat 0)
def topT (n : Nat) (ks : List Lk) : List Int := (List.range n).map fun (i : Nat) => (((nbr ks (i : Int)).length : Nat) : Int) + 1
/-- the table of greatest channels -/
def GT (n : Nat) (ks : List Lk) (t : List Int) : Prop := t.length = n ∧ nextT n ks t = t ∧ ∀ i : Nat, i < n → 1 ≤ t.getD i 0 ∧ t.getD i 0 ≤ (nbr ks (i : Int)).length + 1
theorem nextT_len (n : Nat) (ks : List Lk) (t : List Int) : (nextT n ks t).length = n := by simp [nextT]
theorem topT_len (n : Nat) (ks : List Lk) : (topT n ks).length = n := by simp [topT]
theorem nextT_at {n : Nat} (ks : List Lk) (t : List Int) {i : Nat} (h : i < n) : (nextT n ks t).getD i 0 = 1 + chainN ((nbr ks (i : Int)).map fun u => t.getD u.toNat 0) := by simp [nextT, h]
theorem topT_at {n : Nat} (ks : List Lk) {i : Nat} (h : i < n) : (topT n ks).getD i 0 = (nbr ks (i : Int)).length + 1 := by simp [topT, h]
theorem chain_mono {us : List Int} {f g : Int → Int} (h : ∀ u ∈ us, f u ≤ g u) : chainN (us.map f) ≤ chainN (us.map g) := by
  have h0 := chainN_nonneg (us.map f)
  have := (chainN_ge (us.map f) (chainN (us.map f)).toNat).mp (by omega)
  have r := (chainN_ge (us.map g) (chainN (us.map f)).toNat).mpr fun j h1 h2 => by
    refine Nat.le_trans (this j h1 h2) ?_
    rw [List.countP_map, List.countP_map]
    refine List.countP_mono_left fun u m hu => ?_
    have := h u m
    simp only [Function.comp_apply, decide_eq_true_eq] at *
    omega
  omega
theorem nextT_mono {n : Nat} {ks : List Lk} {s t : List Int} (hk : ∀ v u : Int, u ∈ nbr ks v → u.toNat < n) (h : ∀ i : Nat, i < n → s.getD i 0 ≤ t.getD i 0) (i : Nat) (hi : i < n) : (nextT n ks s).getD i 0 ≤ (nextT n ks t).getD i 0 := by
  rw [nextT_at ks s hi, nextT_at ks t hi]
  have := chain_mono (us := nbr ks (i : Int)) (f := fun u => s.getD u.toNat 0) (g := fun u => t.getD u.toNat 0) fun u hu => h _ (hk _ u hu)
  omega
theorem nextT_top {n : Nat} {ks : List Lk} (i : Nat) (hi : i < n) : (nextT n ks (topT n ks)).getD i 0 ≤ (topT n ks).getD i 0 := by
  rw [nextT_at ks _ hi, topT_at ks hi]
  have := chainN_le_len ((nbr ks (i : Int)).map fun u => (topT n ks).getD u.toNat 0)
  rw [List.length_map] at this
  omega
theorem nextT_pos {n : Nat} {ks : List Lk} {t : List Int} (i : Nat) (hi : i < n) : 1 ≤ (nextT n ks t).getD i 0 := by
  rw [nextT_at ks _ hi]
  have := chainN_nonneg ((nbr ks (i : Int)).map fun u => t.getD u.toNat 0)
  omega
/-- a table that is not below its step lies below each bound -/
theorem below_bound {n : Nat} {ks : List Lk} {t b : List Int} (hk : ∀ v u : Int, u ∈ nbr ks v → u.toNat < n) (ht : ∀ i : Nat, i < n → t.getD i 0 ≤ (nextT n ks t).getD i 0) (hb : ∀ i : Nat, i < n → (nextT n ks b).getD i 0 ≤ b.getD i 0) :
    ∀ i : Nat, i < n → t.getD i 0 ≤ b.getD i 0 := by
  have key : ∀ (k : Nat) (i : Nat), i < n → (k : Int) ≤ t.getD i 0 → (k : Int) ≤ b.getD i 0 := by
    intro k
    induction k using Nat.strongRecOn with
    | ind k ih =>
      intro i hi h
      have hb1 := hb i hi
      rw [nextT_at ks b hi] at hb1
      cases k with
      | zero =>
        have := chainN_nonneg ((nbr ks (i : Int)).map fun u => b.getD u.toNat 0)
        omega
      | succ m =>
        have ht1 := ht i hi
        rw [nextT_at ks t hi] at ht1
        have c1 := (chainN_ge ((nbr ks (i : Int)).map fun u => t.getD u.toNat 0) m).mp (by omega)
        have c2 := (chainN_ge ((nbr ks (i : Int)).map fun u => b.getD u.toNat 0) m).mpr fun j h1 h2 => by
          refine Nat.le_trans (c1 j h1 h2) ?_
          rw [List.countP_map, List.countP_map]
          refine List.countP_mono_left fun u mu hu => ?_
          have := ih j (by omega) u.toNat (hk _ u mu)
          simp only [Function.comp_apply, decide_eq_true_eq] at *
          exact this hu
        omega
  intro i hi
  by_cases h : 0 ≤ t.getD i 0
  · have := key (t.getD i 0).toNat i hi (by omega)
    omega
  · have := hb i hi
    rw [nextT_at ks b hi] at this
    have := chainN_nonneg ((nbr ks (i : Int)).map fun u => b.getD u.toNat 0)
    omega
theorem getD_ext {s t : List Int} (hl : s.length = t.length) (h : ∀ i : Nat, i < s.length → s.getD i 0 = t.getD i 0) : s = t := by
  refine List.ext_getElem hl fun i h1 h2 => ?_
  have := h i h1
  simpa [h1, h2] using this
theorem GT.uniq {n : Nat} {ks : List Lk} {s t : List Int} (hk : ∀ v u : Int, u ∈ nbr ks v → u.toNat < n) (a : GT n ks s) (b : GT n ks t) : s = t := by
  refine getD_ext (a.1.trans b.1.symm) fun i hi => ?_
  rw [a.1] at hi
  have h1 := below_bound (b := t) hk (fun i _ => by rw [a.2.1]; exact Int.le_refl _) (fun i _ => by rw [b.2.1]; exact Int.le_refl _) i hi
  have h2 := below_bound (b := s) hk (fun i _ => by rw [b.2.1]; exact Int.le_refl _) (fun i _ => by rw [a.2.1]; exact Int.le_refl _) i hi
  omega
def sumN (l : List Int) : Nat := (l.map Int.toNat).sum
theorem sumN_lt : ∀ {s t : List Int}, s.length = t.length → (∀ i : Nat, i < s.length → 0 ≤ s.getD i 0 ∧ s.getD i 0 ≤ t.getD i 0) → sumN s ≤ sumN t ∧ (s ≠ t → sumN s < sumN t)
  | [], [], _, _ => ⟨Nat.le_refl _, fun h => absurd rfl h⟩
  | [], _ :: _, h, _ => by simp at h
  | _ :: _, [], h, _ => by simp at h
  | x :: s, y :: t, h, k => by
    have hl : s.length = t.length := by simpa using h
    have ih := sumN_lt hl fun i hi => by
      have := k (i + 1) (by simpa using hi)
      simpa using this
    have h0 := k 0 (by simp)
    simp only [List.getD_cons_zero] at h0
    have e1 : sumN (x :: s) = x.toNat + sumN s := by simp [sumN]
    have e2 : sumN (y :: t) = y.toNat + sumN t := by simp [sumN]
    rw [e1, e2]
    refine ⟨by omega, fun ne => ?_⟩
    by_cases c : x = y
    · have : s ≠ t := fun z => ne (by rw [c, z])
      have := ih.2 this
      omega
    · omega
/-- greatest_channels: of a network -/
def spGreat (Z : List (Addr × Str)) (C : Addr) : Sp := fun vs H Q _ => ∃ (p : Addr) (n : Nat) (ks : List Lk), vs = [.ref p] ∧ NetAt C H p n ks ∧ n ≤ 60 ∧ ks.length ≤ 100000 ∧ (∀ e ∈ ks, OkLk n e) ∧
  ∀ (t : List Int) (q : Addr) (H' : Hp), GT n ks t → Sm Z H H' → H' q = some (.tup (t.map V.int)) → Q (.ref q) H'
section
variable {P : Program} {w : World} {K : PySem.W.Frag} {mg : Str → Option Value} {base : Heap} {Z : List (Addr × Str)} {C CN : Addr}
theorem ok_chain (T : Bt mg) {f : Addr} {fd : FuncData} (F : Fun K "chain" "chain" s_chain f fd) : FnOk P w K mg base CX0 1 f fd ["numbers"] (spChain Z K) := by
  refine F.ok sc_chain (fun vs H Q E h => ?_) (fun cdv A outer s H vs Q E hr h => ?_)
  · obtain ⟨p, n, rfl, _⟩ := h
    rfl
  · obtain ⟨a, ns, rfl, ha, k⟩ := h
    refine ⟨_, (pss_cons (ps_set (i := 1) sc_chain.nd rfl (Or.inl rfl) pe_int)
  (pss_cons (ps_for PassesOwn.never rfl (pi_listK K (pe_callB (sortedIK K) (by rfl) T.no_sorted (by decide +kernel) (pa_cons (pv 0) pa_nil))) (pg_name (i := 2) sc_chain.nd rfl (Or.inl rfl)) (pss_one (ps_if (pt_cmpR op_gt (pv 2) (pv 1) (nomark _)) (pss_one (ps_aug (i := 1) sc_chain.nd rfl (Or.inl rfl) pe_int ip_add)) pss_nil)))
  (pss_one (ps_ret (pv 1))))), ?_⟩
    walk_at "rd"
    refine rd_sortedI ha (fun p H1 n1 => ?_)
    refine ⟨p, rfl, ⟨_, SqL.of n1.at'⟩, ?_⟩
    refine for_w (T := Z) (wk_list (SqL.of n1.at')) (fun i σ' H' => ∃ u, σ' = [some (.ref a), some (.int (chainF 0 ((srt ns).take i))), u] ∧ Sm Z H1 H') ⟨none, rfl, Sm.refl _⟩ (fun i σ' H' h => by obtain ⟨_, _, h⟩ := h; exact h) (fun i x σ1 H2 H3 hi hP s3 hit => ?_) (fun σ' H2 hP => ?_)
    · obtain ⟨u, rfl, s2⟩ := hP
      obtain ⟨z, hz, rfl⟩ : ∃ z, (srt ns)[i]? = some z ∧ x = .int z := by
        rw [List.getElem?_map] at hit
        cases e : (srt ns)[i]? with
        | none => rw [e] at hit; cases hit
        | some z => rw [e] at hit; exact ⟨z, rfl, (Option.some.inj hit).symm⟩
      have e : chainF 0 ((srt ns).take (i + 1)) = if z > chainF 0 ((srt ns).take i) then chainF 0 ((srt ns).take i) + 1 else chainF 0 ((srt ns).take i) := by
        unfold chainF
        rw [List.take_add_one, hz]
        simp
      walk_at "rd"
      refine rifD (fun c => ?_) (fun c => ?_)
      · walk_at "rd"
        refine ⟨some (.int z), ?_, s2.new s3⟩
        rw [e, if_pos c]
        rfl
      · walk_at "rd"
        refine ⟨some (.int z), ?_, s2.new s3⟩
        rw [e, if_neg c]
        rfl
    · obtain ⟨u, rfl, s2⟩ := hP
      rw [List.length_map, List.take_length]
      walk_at "rd"
      exact k H2 ((Sm.of n1.s).trans s2)
theorem c_chain_of (T : Bt mg) (D : DefAt K mg "chain" s_chain) : Cal P w K mg base CX0 1 "chain" (spChain Z K) :=
  D.cal (fun _ _ _ _ _ _ us hl => match us, hl with | [_], _ => rfl) fun f fd F => ok_chain T F
theorem ok_great (T : Bt mg) (N : NetC K C) (c_chain : Cal P w K mg base CX0 1 "chain" (spChain Z K)) (c_len : CalL P w K mg base 1 C (spLen C)) {f : Addr} {fd : FuncData} (F : Fun K "greatest_channels" "greatest_channels" s_greatest_channels f fd) :
    FnOk P w K mg base CX0 3 f fd ["network"] (spGreat Z C) := by
  refine F.ok sc_greatest_channels (fun vs H Q E h => ?_) (fun cdv A outer s H vs Q E hr h => ?_)
  · obtain ⟨p, n, ks, rfl, _⟩ := h
    rfl
  · obtain ⟨p, n, ks, rfl, hn, hn60, hkl, hok, k⟩ := h
    refine ⟨_, (pss_cons (ps_set (i := 1) sc_greatest_channels.nd rfl (Or.inr rfl) (pe_lc (own := [("station", 4)]) (g := gName 4) rfl sc_greatest_channels.nd (pi_range1 (by rfl) T.no_range (pa_cons (pe_lenOwn hr (by decide) c_len pass0 (by rfl) T.no_len (pa_cons (pv 0) pa_nil)) pa_nil)) (blkOk_by (by kernel_rfl)) (fun _ _ _ _ _ => (pg_name (i := 4) sc_greatest_channels.nd rfl (Or.inl rfl))) (fun _ _ _ _ _ => pts_nil) (fun _ _ _ _ _ => (pe_op op_add (pe_callB (call_lenK K) (by rfl) T.no_len (by decide +kernel) (pa_cons (pe_ix (ix_listK K) (pe_fldK K (pv 0) rfl) (pv 4) (fun _ _ => rfl)) pa_nil)) pe_int))))
  (pss_cons (ps_set (i := 2) sc_greatest_channels.nd rfl (Or.inl rfl) pe_bl)
  (pss_cons (ps_while PassesOwn.never (pt_val (pv 2)) (pss_cons (ps_setLc (i := 3) (own := [("station", 4)]) (g := gName 4) rfl sc_greatest_channels.nd rfl rfl (sw_true rfl rfl rfl (by decide +kernel)) (pi_range1 (by rfl) T.no_range (pa_cons (pe_lenOwn hr (by decide) c_len pass0 (by rfl) T.no_len (pa_cons (pv 0) pa_nil)) pa_nil)) (blkOk_by (by kernel_rfl)) (fun _ _ _ _ _ => (pg_name (i := 4) sc_greatest_channels.nd rfl (Or.inl rfl))) (fun _ _ _ _ _ => pts_nil) (fun _ _ _ _ _ => (pe_op op_add pe_int (pe_cal hr (by decide) c_chain pass0 rfl (pa_cons (pe_lc (own := [("one", 5)]) (g := gName 5) rfl sc_greatest_channels.nd (pi_listK K (pe_ix (ix_listK K) (pe_fldK K (pv 0) rfl) (pv 4) (fun _ _ => rfl))) (blkOk_by (by kernel_rfl)) (fun _ _ _ _ _ => (pg_name (i := 5) sc_greatest_channels.nd rfl (Or.inl rfl))) (fun _ _ _ _ _ => pts_nil) (fun _ _ _ _ _ => (pe_ix (ix_listK K) (pv 1) (pv 5) (fun _ _ => rfl)))) pa_nil)))))
  (pss_cons (ps_set (i := 2) sc_greatest_channels.nd rfl (Or.inl rfl) (pe_cmpR (op_neDK K hr.units) (pv 3) (pv 1) (nomark _)))
  (pss_one (ps_set (i := 1) sc_greatest_channels.nd rfl (Or.inr rfl) (pv 3))))))
  (pss_one (ps_ret (pe_callTy (call_tupleK K) (by rfl) T.no_tuple (by decide +kernel) (pa_cons (pv 1) pa_nil))))))), ?_⟩
    walk_at "rd"
    refine rd_len hn (by omega) ?_
    walk_at "rd"
    refine ⟨n, rfl, by omega, by omega, ?_⟩
    have hns : n < sizeLine := by rw [sizeLine_eq]; omega
    refine lcm_w (T := Z) (wk_range 0 n) hns (fun i => .int ((topT n ks).getD i 0)) (fun i x H1 H2 hi s1 s2 it kt ht => ?_) (fun D H1 fD s1 hD => ?_)
    · refine ⟨rfl, ?_⟩
      have it' : x = .int (0 + (i : Int)) := it
      subst it'
      have hn2 := (hn.sm s1).sm (Sm.of (T := Z) s2)
      walk_at "rd"
      refine rd_near N hn2 (fun nr hr => ?_)
      walk_at "rd"
      refine rd_row hr i (by omega) (nbrs_at ks hi) (fun q hq => ?_)
      walk_at "rd"
      refine rd_lenL (SqL.of hq) ?_
      walk_at "rd"
      have h := ht H2 (Sm.of s2)
      rw [topT_at ks hi] at h
      rw [List.length_map]
      exact h
    have hD' : H1 D = some (.lst ((topT n ks).map V.int)) := by
      rw [hD]
      congr 2
      have := map_at (xs := (List.range n).map fun i => V.int (0 : Int)) (l := topT n ks) (f := fun i => V.int ((topT n ks).getD i 0)) (h := V.int) (by simp [topT_len]) (fun i a e => by simp [e])
      simpa using this
    have hkn : ∀ v u : Int, u ∈ nbr ks v → u.toNat < n := fun v u m => by have := nbr_lt hok v u m; omega
    walk_at "rd"
    refine rd_while (fun m σ' H' => ∃ (t : List Int) (D : Addr) (low : Bool) (u3 : Option V), σ' = [some (.ref p), some (.ref D), some (.bl low), u3, none, none] ∧ t.length = n ∧ Sm Z H H' ∧ H' D = some (.lst (t.map V.int)) ∧
      (∀ i : Nat, i < n → (nextT n ks t).getD i 0 ≤ t.getD i 0) ∧ (∀ i : Nat, i < n → 1 ≤ t.getD i 0 ∧ t.getD i 0 ≤ (nbr ks (i : Int)).length + 1) ∧ m = sumN t + (if low = true then 1 else 0) ∧ (low = false → nextT n ks t = t)) _
      ⟨topT n ks, D, true, none, rfl, topT_len n ks, s1, hD', nextT_top, fun i hi => by rw [topT_at ks hi]; omega, rfl, fun z => by cases z⟩ (fun m σ2 H2 hW => ?_)
    obtain ⟨t, Da, low, u3, rfl, htl, s2, hDt, hnx, hpos, hm, hlow⟩ := hW
    walk_at "rd"
    refine rif (fun c => ?_) (fun c => ?_)
    · refine rd_turn ?_
      walk_at "rd"
      refine rd_len (hn.sm s2) (by omega) ?_
      walk_at "rd"
      refine ⟨n, rfl, by omega, by omega, ?_⟩
      refine lcm_w (T := Z) (wk_range 0 n) hns (fun i => .int ((nextT n ks t).getD i 0)) (fun i x H3 H4 hi s3 s4 it kt ht => ?_) (fun D3 H3 fD3 s3 hD3 => ?_)
      · refine ⟨rfl, ?_⟩
        have it' : x = .int (0 + (i : Int)) := it
        subst it'
        have s24 : Sm Z H2 H4 := s3.new s4
        walk_at "rd"
        refine rd_near N (hn.sm (s2.trans s24)) (fun nr hr => ?_)
        walk_at "rd"
        refine rd_row hr i (by omega) (nbrs_at ks hi) (fun q hq => ?_)
        refine ⟨q, rfl, ⟨_, SqL.of hq⟩, ?_⟩
        have hnl : ((nbr ks (i : Int)).map V.int).length < sizeLine := by
          have := nbr_len ks (i : Int)
          rw [List.length_map, sizeLine_eq]
          omega
        refine lcm_w (T := Z) (wk_list (SqL.of hq)) hnl (fun j => .int (t.getD ((nbr ks (i : Int)).getD j 0).toNat 0)) (fun j x H5 H6 hj s5 s6 it2 kt2 ht2 => ?_) (fun D5 H5 fD5 s5 hD5 => ?_)
        · refine ⟨rfl, ?_⟩
          have hj' : j < (nbr ks (i : Int)).length := by simpa using hj
          have hx : x = .int ((nbr ks (i : Int)).getD j 0) := by
            have it3 : ((nbr ks (i : Int)).map V.int)[j]? = some x := it2
            rw [List.getElem?_map, List.getElem?_eq_getElem hj'] at it3
            rw [← Option.some.inj it3]
            simp [hj']
          subst hx
          have mem : (nbr ks (i : Int)).getD j 0 ∈ nbr ks (i : Int) := by
            simp [hj']
          have hb := nbr_lt hok _ _ mem
          have s26 : Sm Z H2 H6 := (s24.trans s5).new s6
          walk_at "rd"
          exact rd_intL (s26.lst hDt) _ (by omega) (by rw [htl]; omega) (ht2 H6 (Sm.of s6))
        · walk_at "rd"
          refine ⟨D5, (nbr ks (i : Int)).map fun u => t.getD u.toNat 0, rfl, ?_, fun H6 s6 => ?_⟩
          · refine SqL.of ?_
            rw [hD5, List.map_map]
            congr 2
            exact map_at (by simp) (fun j a e => by simp [e])
          · walk_at "rd"
            have h := ht H6 ((Sm.of s4).trans (s5.trans s6))
            rw [nextT_at ks t hi] at h
            exact h
      · have hD3' : H3 D3 = some (.lst ((nextT n ks t).map V.int)) := by
          rw [hD3]
          congr 2
          have := map_at (xs := (List.range n).map fun i => V.int (0 : Int)) (l := nextT n ks t) (f := fun i => V.int ((nextT n ks t).getD i 0)) (h := V.int) (by simp [nextT_len]) (fun i a e => by simp [e])
          simpa using this
        walk_at "rd"
        refine rd_neD (Dt.ints hD3') (Dt.ints (s3.lst hDt)) (okd_ints _) (okd_ints _) ?_
        walk_at "rd"
        have e : PyData.eqv (.list ((nextT n ks t).map PyData.int)) (.list (t.map PyData.int)) = decide (nextT n ks t = t) := eqv_ints
        rw [e]
        have sl := sumN_lt (s := nextT n ks t) (t := t) (by rw [nextT_len, htl]) fun i hi => by
          rw [nextT_len] at hi
          exact ⟨by have := nextT_pos (ks := ks) (t := t) i hi; omega, hnx i hi⟩
        refine ⟨_, ?_, nextT n ks t, D3, _, some (.ref D3), rfl, nextT_len n ks t, s2.trans s3, hD3', fun i hi => nextT_mono hkn hnx i hi, fun i hi => ⟨nextT_pos i hi, Int.le_trans (hnx i hi) (hpos i hi).2⟩, rfl, fun z => ?_⟩
        · rw [hm, if_pos c]
          by_cases ce : nextT n ks t = t
          · rw [decide_eq_true ce, ce]
            simp
          · rw [decide_eq_false ce]
            have := sl.2 ce
            simp
            omega
        · have ce : nextT n ks t = t := by simpa using z
          rw [ce, ce]
    · subst c
      walk_at "rd"
      refine rd_tupL (SqL.of hDt) (fun q H3 n3 => ?_)
      exact k t q H3 ⟨htl, hlow rfl, hpos⟩ (s2.new n3.s) n3.at'
end

/-! ### k13: what helpers returns, plainly -/
/-- the stations in the order of the table's numbers, of equal ones the smaller first; one is taken if its number exceeds how many are -/
def grab (f : Int → Int) : List Int → List Int → List Int
  | acc, [] => acc
  | acc, u :: r => if (acc.length : Int) < f u then grab f (acc ++ [u]) r else grab f acc r
theorem grab_len (f : Int → Int) : ∀ (us acc : List Int), ((grab f acc us).length : Int) = chainF acc.length (us.map f)
  | [], acc => rfl
  | u :: r, acc => by
    unfold grab
    have e : chainF (acc.length : Int) ((u :: r).map f) = chainF (if f u > (acc.length : Int) then (acc.length : Int) + 1 else acc.length) (r.map f) := rfl
    rw [e]
    by_cases h : (acc.length : Int) < f u
    · rw [if_pos h, if_pos h, grab_len f r (acc ++ [u])]
      simp
    · rw [if_neg h, if_neg h, grab_len f r acc]
theorem grab_pre (f : Int → Int) : ∀ (us acc : List Int), ∃ r, grab f acc us = acc ++ r
  | [], acc => ⟨[], by simp [grab]⟩
  | u :: r, acc => by
    unfold grab
    by_cases h : (acc.length : Int) < f u
    · rw [if_pos h]
      obtain ⟨q, e⟩ := grab_pre f r (acc ++ [u])
      exact ⟨u :: q, by rw [e]; simp⟩
    · rw [if_neg h]
      exact grab_pre f r acc
/-- each one taken has a number above its place, and comes from the list -/
theorem grab_at (f : Int → Int) : ∀ (us acc : List Int), (∀ (i : Nat) (x : Int), acc[i]? = some x → (i : Int) < f x) → ∀ (i : Nat) (x : Int), (grab f acc us)[i]? = some x → (i : Int) < f x
  | [], acc, h => by simpa [grab] using h
  | u :: r, acc, h => by
    unfold grab
    by_cases hu : (acc.length : Int) < f u
    · rw [if_pos hu]
      refine grab_at f r _ fun i x e => ?_
      rcases Nat.lt_or_ge i acc.length with hi | hi
      · rw [List.getElem?_append_left hi] at e
        exact h i x e
      · rw [List.getElem?_append_right hi] at e
        rcases Nat.lt_or_ge acc.length i with hl | hl
        · rw [List.getElem?_eq_none (by simp; omega)] at e
          cases e
        · obtain rfl : i = acc.length := by omega
          simp at e
          subst e
          exact hu
    · rw [if_neg hu]
      exact grab_at f r acc h
theorem grab_sub (f : Int → Int) : ∀ (us acc : List Int), ∃ r, grab f acc us = acc ++ r ∧ r.Sublist us
  | [], acc => ⟨[], by simp [grab], .slnil⟩
  | u :: r, acc => by
    unfold grab
    by_cases h : (acc.length : Int) < f u
    · rw [if_pos h]
      obtain ⟨q, e, s⟩ := grab_sub f r (acc ++ [u])
      exact ⟨u :: q, by rw [e]; simp, s.cons₂ u⟩
    · rw [if_neg h]
      obtain ⟨q, e, s⟩ := grab_sub f r acc
      exact ⟨q, e, s.cons u⟩
/-- the order of helpers' key: by number, then by name -/
def byKey (f : Int → Int) (x y : Int) : Prop := f x < f y ∨ (f x = f y ∧ x ≤ y)
theorem byKey_uniq {f : Int → Int} {us ws : List Int} (p : us.Perm ws) (h1 : us.Pairwise (byKey f)) (h2 : ws.Pairwise (byKey f)) : us = ws :=
  List.Perm.eq_of_pairwise (le := byKey f) (fun a b _ _ a1 a2 => by unfold byKey at a1 a2; omega) h1 h2 p
theorem grab_chain {f : Int → Int} {us ns : List Int} (p : us.Perm ns) (h : us.Pairwise (byKey f)) : ((grab f [] us).length : Int) = chainN (ns.map f) := by
  rw [grab_len]
  unfold chainN
  have s : (us.map f).Pairwise (· ≤ ·) := List.pairwise_map.mpr (h.imp fun {a b} q => by unfold byKey at q; omega)
  rw [← srt_uniq (p.map f) s]
  rfl
theorem grab_nodup {f : Int → Int} {us : List Int} (h : us.Nodup) : (grab f [] us).Nodup := by
  obtain ⟨r, e, s⟩ := grab_sub f us []
  rw [e]
  simpa using s.nodup h
theorem grab_mem {f : Int → Int} {us : List Int} {x : Int} (h : x ∈ grab f [] us) : x ∈ us := by
  obtain ⟨r, e, s⟩ := grab_sub f us []
  rw [e] at h
  exact s.subset (by simpa using h)
/-- there is a table that is its own step -/
theorem GT.ex {n : Nat} {ks : List Lk} (ok : ∀ e ∈ ks, OkLk n e) : ∃ t, GT n ks t := by
  have hk : ∀ v u : Int, u ∈ nbr ks v → u.toNat < n := fun v u m => by have := nbr_lt ok v u m; omega
  have key : ∀ (m : Nat) (t : List Int), sumN t ≤ m → t.length = n → (∀ i : Nat, i < n → (nextT n ks t).getD i 0 ≤ t.getD i 0) → (∀ i : Nat, i < n → 1 ≤ t.getD i 0 ∧ t.getD i 0 ≤ (nbr ks (i : Int)).length + 1) → ∃ t, GT n ks t := by
    intro m
    induction m with
    | zero =>
      intro t hm hl h1 h2
      by_cases e : nextT n ks t = t
      · exact ⟨t, hl, e, h2⟩
      · have := (sumN_lt (s := nextT n ks t) (t := t) (by rw [nextT_len, hl]) fun i hi => by rw [nextT_len] at hi; exact ⟨by have := nextT_pos (ks := ks) (t := t) i hi; omega, h1 i hi⟩).2 e
        omega
    | succ m ih =>
      intro t hm hl h1 h2
      by_cases e : nextT n ks t = t
      · exact ⟨t, hl, e, h2⟩
      · have := (sumN_lt (s := nextT n ks t) (t := t) (by rw [nextT_len, hl]) fun i hi => by rw [nextT_len] at hi; exact ⟨by have := nextT_pos (ks := ks) (t := t) i hi; omega, h1 i hi⟩).2 e
        exact ih (nextT n ks t) (by omega) (nextT_len _ _ _) (nextT_mono hk h1) fun i hi => ⟨nextT_pos i hi, Int.le_trans (h1 i hi) (h2 i hi).2⟩
  exact key _ (topT n ks) (Nat.le_refl _) (topT_len _ _) nextT_top fun i hi => by rw [topT_at ks hi]; omega
theorem grab_snoc (f : Int → Int) (u : Int) : ∀ (us acc : List Int), grab f acc (us ++ [u]) = if ((grab f acc us).length : Int) < f u then grab f acc us ++ [u] else grab f acc us
  | [], acc => by
    show (if (acc.length : Int) < f u then grab f (acc ++ [u]) [] else grab f acc []) = _
    rfl
  | x :: r, acc => by
    show (if (acc.length : Int) < f x then grab f (acc ++ [x]) (r ++ [u]) else grab f acc (r ++ [u])) = if ((if (acc.length : Int) < f x then grab f (acc ++ [x]) r else grab f acc r).length : Int) < f u then (if (acc.length : Int) < f x then grab f (acc ++ [x]) r else grab f acc r) ++ [u] else (if (acc.length : Int) < f x then grab f (acc ++ [x]) r else grab f acc r)
    by_cases h : (acc.length : Int) < f x
    · rw [if_pos h, if_pos h, grab_snoc f u r]
    · rw [if_neg h, if_neg h, grab_snoc f u r]
theorem grab_le (f : Int → Int) (us : List Int) : (grab f [] us).length ≤ us.length := by
  obtain ⟨r, e, s⟩ := grab_sub f us []
  rw [e]
  simpa using s.length_le

abbrev s_helpers : Stmt := top 28
theorem sc_helpers : FnScope ["network", "station", "table", "found", "one", "other"] ["network", "station"] (defScope s_helpers) := ⟨rfl, rfl, rfl, by decide +kernel, rfl, by decide +kernel, by decide +kernel⟩
/-- helpers(network, station) -/
def spHelp (Z : List (Addr × Str)) (C CS : Addr) : Sp := fun vs H Q E => ∃ (p : Addr) (n : Nat) (ks : List Lk) (v : V) (d : PyData) (t : List Int), vs = [.ref p, v] ∧ NetAt C H p n ks ∧ n ≤ 60 ∧ ks.length ≤ 100000 ∧ (∀ e ∈ ks, OkLk n e) ∧ Dt H v d ∧ GT n ks t ∧ LamX.Tabs Z H ∧
  (∀ i : Nat, d = .int (i : Int) → i < n → ∀ (q : Addr) (H' : Hp), Sm Z H H' → Fr H q → H' q = some (.lst ((grab (fun u => t.getD u.toNat 0) [] (keyOrd (fun u => t.getD u.toNat 0) (nbr ks (i : Int)))).map V.int)) → Q (.ref q) H') ∧
  (isSt n d = false → RaisesV Z E CS "station" H v)
section
variable {P : Program} {w : World} {K : PySem.W.Frag} {mg : Str → Option Value} {base : Heap} {Z : List (Addr × Str)} {C CS c Pt : Addr}
theorem ok_helpers (T : Bt mg) (N : NetC K C) (c_Network_check_station : CalM P w K mg base (L2.CX P w) 3 C "check_station" (spStation Z C CS)) (c_greatest_channels : Cal P w K mg base CX0 3 "greatest_channels" (spGreat Z C))
    (TB : LamX.TabB base mg c Pt) (hZ : (Pt, (("helpers" : Str) ++ ".<locals>.") ++ "<lambda>") ∈ Z) (hZu : ∀ p ∈ Z, p.1 = Pt → p.2 = (("helpers" : Str) ++ ".<locals>.") ++ "<lambda>") {f : Addr} {fd : FuncData} (F : FunC K "helpers" "helpers" s_helpers f fd c) :
    FnOk P w K mg base (L2.CX P w) 4 f fd ["network", "station"] (spHelp Z C CS) := by
  refine F.okX sc_helpers (fun vs H Q E h => ?_) (fun A outer s H vs Q E hr h => ?_)
  · obtain ⟨p, n, ks, v, d, t, rfl, _⟩ := h
    rfl
  · obtain ⟨p, n, ks, v, d, t, rfl, hn, hn60, hkl, hok, hd, g, hT, kQ, kE⟩ := h
    refine ⟨_, (pss_cons (ps_expr (pe_calM (pv 0) hr (by decide) c_Network_check_station (passE (takes_of rfl rfl rfl rfl)) (pa_cons (pv 1) pa_nil)))
  (pss_cons (ps_set (i := 2) sc_helpers.nd rfl (Or.inr rfl) (pe_cal hr (by decide) c_greatest_channels pass0 rfl (pa_cons (pv 0) pa_nil)))
  (pss_cons (ps_set (i := 3) sc_helpers.nd rfl (Or.inl rfl) (pe_lst pa_nil))
  (pss_cons (ps_for (passes_of rfl) rfl (pi_listK K (pe_sortKey K (it := 2) rfl rfl T.no_sorted (pe_ix (ix_listK K) (pe_fldK K (pv 0) rfl) (pv 1) (fun _ _ => rfl)) hr TB rfl hZ hZu rfl rfl)) (pg_name (i := 4) sc_helpers.nd rfl (Or.inl rfl)) (pss_one (ps_if (pt_cmpR op_gt (pe_ix (ix_tupK K) (pv 2) (pv 4) (fun _ _ => rfl)) (pe_callB (call_lenK K) (by rfl) T.no_len (by decide +kernel) (pa_cons (pv 3) pa_nil)) (nomark _)) (pss_one (ps_expr (pe_bmK K PySem.F.plainAttrs_list PySem.F.slot_list_append PySem.F.type_list_append mt_append (pv 3) (pa_cons (pv 4) pa_nil)))) pss_nil)))
  (pss_one (ps_ret (pv 3))))))), ?_⟩
    walk_at "rd"
    refine rd_netM hn ?_
    walk_at "rd"
    refine ⟨p, n, ks, v, d, rfl, hn, hn60, hd, fun hs => ?_, kE⟩
    obtain ⟨i, rfl, hi⟩ := isSt_int hs
    cases hd
    walk_at "rd"
    refine ⟨p, n, ks, rfl, hn, hn60, hkl, hok, fun t' q H1 g' s1 hq => ?_⟩
    have hkn : ∀ v u : Int, u ∈ nbr ks v → u.toNat < n := fun v u m => by have := nbr_lt hok v u m; omega
    have et : t' = t := GT.uniq hkn g' g
    subst et
    walk_at "rd"
    refine ⟨by show 0 ≤ sizeLine; decide, fun Lf hLf => genO hLf fun H2 n2 => ?_⟩
    walk_at "rd"
    have s12 : Sm Z H H2 := s1.new n2.s
    refine rd_near N (hn.sm s12) (fun nr hr => ?_)
    walk_at "rd"
    refine rd_row hr i rfl (nbrs_at ks hi) (fun pq hpq => ?_)
    have hin : ∀ u ∈ nbr ks (i : Int), 0 ≤ u ∧ u.toNat < t'.length := fun u m => by
      have := nbr_lt hok _ u m
      rw [g.1]
      omega
    refine ⟨s12.2 hT, pq, q, _, t', rfl, SqL.of hpq, rfl, SqT.of (n2.s _ _ hq), hin, fun po H3 s3 f3 ho => ?_⟩
    refine ⟨po, rfl, ⟨_, SqL.of ho⟩, ?_⟩
    obtain ⟨ff, hff⟩ : ∃ ff : Int → Int, ff = fun u => t'.getD u.toNat 0 := ⟨_, rfl⟩
    rw [← hff] at ho
    obtain ⟨us, hus⟩ : ∃ us, us = keyOrd ff (nbr ks (i : Int)) := ⟨_, rfl⟩
    rw [← hus] at ho
    have hul : us.length = (nbr ks (i : Int)).length := by rw [hus]; exact (keyOrd_perm _ _).length_eq
    have hnl := nbr_len ks (i : Int)
    have fL : Fr H Lf := s1.free hLf
    have hoL : po ≠ Lf := fun z => by
      obtain ⟨ps, e⟩ := f3 _ (z ▸ n2.at')
      cases e
    refine for_i (wki_list (xs := us.map V.int)) (fun j σ' H' => ∃ (u4 : Option V), σ' = [some (.ref p), some (.int (i : Int)), some (.ref q), some (.ref Lf), u4, none] ∧ Sm Z H H' ∧ H' Lf = some (.lst ((grab ff [] (us.take j)).map V.int)) ∧ H' po = some (.lst (us.map V.int)) ∧ H' q = some (.tup (t'.map V.int)))
      ⟨none, rfl, s12.trans s3, s3.lst n2.at', ho, s3.tup (n2.s _ _ hq)⟩ (fun j σ' H' _ h => by obtain ⟨_, _, _, _, h, _⟩ := h; exact SqL.of h) (fun j x σ1 H4 H5 hj hP s5 hit => ?_) (fun σ' H4 hP => ?_)
    · obtain ⟨u4, rfl, s4, hL4, ho4, hq4⟩ := hP
      rw [List.length_map] at hj
      obtain ⟨u, hu⟩ : ∃ u, us[j]? = some u := ⟨_, List.getElem?_eq_getElem hj⟩
      have hx : x = .int u := by
        have it3 : (us.map V.int)[j]? = some x := hit
        rw [List.getElem?_map, hu] at it3
        exact (Option.some.inj it3).symm
      subst hx
      have hum : u ∈ nbr ks (i : Int) := (keyOrd_perm ff _).mem_iff.mp (hus ▸ List.mem_of_getElem? hu)
      obtain ⟨hu0, hu1⟩ := hin u hum
      walk_at "rd"
      refine rd_intT (s5 _ _ hq4) u.toNat (by omega) hu1 ?_
      walk_at "rd"
      refine rd_lenL (SqL.of (s5 _ _ hL4)) ?_
      walk_at "rd"
      have step : grab ff [] (us.take (j + 1)) = if ((grab ff [] (us.take j)).length : Int) < ff u then grab ff [] (us.take j) ++ [u] else grab ff [] (us.take j) := by
        rw [List.take_add_one, hu]
        exact grab_snoc ff u _ _
      rw [List.length_map, show t'.getD u.toNat 0 = ff u by rw [hff]]
      refine rifD (fun hc => ?_) (fun hc => ?_)
      · walk_at "rd"
        refine ⟨tyL (s5 _ _ hL4), ?_⟩
        walk_at "rd"
        refine rd_app (s5 _ _ hL4) ?_ (fun H6 h6 k6 => ?_)
        · have := grab_le ff (us.take j)
          rw [List.length_take] at this
          rw [List.length_map, sizeLine_eq]
          omega
        · refine ⟨_, rfl, (s4.new s5).mutL fL (s5 _ _ hL4) k6, ?_, ?_, ?_⟩
          · rw [h6, step, if_pos hc, List.map_append]
            rfl
          · rw [k6 po hoL]
            exact s5 _ _ ho4
          · rw [k6 q (fun z => by have h9 := n2.s _ _ hq; rw [z, n2.at'] at h9; cases h9)]
            exact s5 _ _ hq4
      · walk_at "rd"
        refine ⟨_, rfl, s4.new s5, ?_, s5 _ _ ho4, s5 _ _ hq4⟩
        rw [step, if_neg hc]
        exact s5 _ _ hL4
    · obtain ⟨u4, rfl, s4, hL4, ho4, hq4⟩ := hP
      rw [List.length_map, List.take_length] at hL4
      walk_at "rd"
      refine kQ i rfl hi Lf H4 s4 fL ?_
      rw [← hff, ← hus]
      exact hL4
end

abbrev s_setting : Stmt := top 30
theorem sc_setting : FnScope ["lists", "station", "channel", "found", "some", "index"] ["lists", "station", "channel"] (defScope s_setting) := ⟨rfl, rfl, rfl, by decide +kernel, rfl, by decide +kernel, by decide +kernel⟩
/-! ### setting, plainly -/
def setP (L : List (List Int)) : Nat → Nat → Int → List Int
  | 0, _, _ => []
  | f + 1, c, v => (((List.range ((L.getD v.toNat []).take (c - 1)).length).reverse.map fun i => setP L f (i + 1) (((L.getD v.toNat []).take (c - 1)).getD i 0)).flatten ++ [v]) ++ (L.getD v.toNat []).take (c - 1)
theorem setP_fuel (L : List (List Int)) : ∀ (f g c : Nat) (v : Int), 1 ≤ c → c ≤ f → c ≤ g → setP L f c v = setP L g c v
  | 0, _, c, _, h1, h2, _ => by omega
  | _ + 1, 0, c, _, h1, _, h3 => by omega
  | f + 1, g + 1, c, v, h1, h2, h3 => by
    unfold setP
    congr 3
    refine List.map_congr_left fun i hi => setP_fuel L f g (i + 1) _ (by omega) ?_ ?_ <;>
    · have := List.mem_range.mp (List.mem_reverse.mp hi)
      rw [List.length_take] at this
      omega
theorem flat_len (g : Nat → List Int) : ∀ m : Nat, (∀ i, i < m → (g i).length + 1 ≤ 2 ^ (i + 1)) → (((List.range m).reverse.map g).flatten).length + m + 2 ≤ 2 ^ (m + 1)
  | 0, _ => by simp
  | m + 1, h => by
    have ih := flat_len g m fun i hi => h i (by omega)
    have hm := h m (by omega)
    rw [List.range_succ, List.reverse_append, List.map_append, List.flatten_append, List.length_append]
    have e : (([m].reverse.map g).flatten).length = (g m).length := by simp
    rw [e, Nat.pow_succ]
    omega
theorem setP_len (L : List (List Int)) : ∀ (f c : Nat) (v : Int), 1 ≤ c → c ≤ f → (setP L f c v).length + 1 ≤ 2 ^ c
  | 0, c, _, h1, h2 => by omega
  | f + 1, c, v, h1, h2 => by
    unfold setP
    obtain ⟨sm, hsm⟩ : ∃ sm, sm = (L.getD v.toNat []).take (c - 1) := ⟨_, rfl⟩
    rw [← hsm]
    have hl : sm.length ≤ c - 1 := by rw [hsm, List.length_take]; omega
    have := flat_len (fun i => setP L f (i + 1) (sm.getD i 0)) sm.length fun i hi => setP_len L f (i + 1) _ (by omega) (by omega)
    rw [List.length_append, List.length_append, List.length_singleton]
    have hp : 2 ^ (sm.length + 1) ≤ 2 ^ c := Nat.pow_le_pow_right (by decide) (by omega)
    omega
theorem getD_mem' {l : List Int} {i : Nat} (h : i < l.length) : l.getD i 0 ∈ l := by
  rw [List.getD_eq_getElem?_getD, List.getElem?_eq_getElem h]
  exact List.getElem_mem h
theorem rd_iR3 {σ : L2.St} {H : Hp} {tA : TA} {R : It → Hp → Prop} (h : tA σ H fun vs H1 => ∃ (i j c : Int) (n : Nat), vs = [.int i, .int j, .int c] ∧ RgC i j c n ∧ R (Itc i c n) H1) : iRng3 tA σ H R := h
theorem setP_mem {L : List (List Int)} {R : Int → Prop} (hL : ∀ row ∈ L, ∀ u ∈ row, R u) : ∀ (f c : Nat) (v : Int), R v → ∀ w ∈ setP L f c v, R w
  | 0, _, _, _, w, m => by cases m
  | f + 1, c, v, hv, w, m => by
    unfold setP at m
    have hs : ∀ u ∈ (L.getD v.toNat []).take (c - 1), R u := fun u mu => by
      have mu := List.mem_of_mem_take mu
      rw [List.getD_eq_getElem?_getD] at mu
      cases e : L[v.toNat]? with
      | none => rw [e] at mu; cases mu
      | some row => rw [e] at mu; exact hL row (List.mem_of_getElem? e) u mu
    rcases List.mem_append.mp m with m | m
    · rcases List.mem_append.mp m with m | m
      · obtain ⟨l, hl, hw⟩ := List.mem_flatten.mp m
        obtain ⟨i, hi, rfl⟩ := List.mem_map.mp hl
        have hi := List.mem_range.mp (List.mem_reverse.mp hi)
        exact setP_mem hL f (i + 1) _ (hs _ (getD_mem' hi)) w hw
      · rw [List.mem_singleton.mp m]
        exact hv
    · exact hs w m
def spSet (Z : List (Addr × Str)) (c : Nat) : Sp := fun vs H Q _ => ∃ (lr : Addr) (L : List (List Int)) (v : Nat), vs = [.ref lr, .int (v : Int), .int (c : Int)] ∧ RowsAt H lr L ∧ v < L.length ∧ (∀ row ∈ L, ∀ u ∈ row, 0 ≤ u ∧ u < (L.length : Int)) ∧ 1 ≤ c ∧ c ≤ 16 ∧
  ∀ (q : Addr) (H' : Hp), Sm Z H H' → Fr H q → H' q = some (.lst ((setP L c c (v : Int)).map V.int)) → Q (.ref q) H'
theorem FnOk.below {P : Program} {w : World} {K : PySem.W.Frag} {mg : Str → Option Value} {base : Heap} {CX : CXT} {f : Addr} {fd : FuncData} {ps : List Str} {sp : Nat → Sp} {c : Nat} (h : ∀ i, i < c → FnOk P w K mg base CX (i + 1) f fd ps (sp i)) :
    FnOk P w K mg base CX c f fd ps (fun vs H Q E => ∃ i, i < c ∧ sp i vs H Q E) :=
  ⟨fun vs H Q E ⟨i, hi, q⟩ => (h i hi).len vs H Q E q, fun A outer s H args us vs Q E hr e0 hb hv ⟨i, hi, q⟩ => ((h i hi).mono (by omega)).run A outer s H args us vs Q E hr e0 hb hv q⟩
theorem wk_rangeC {T : List (Addr × Str)} {H0 : Hp} (lo c : Int) (n : Nat) : Wk T (Itc lo c n) n (fun i x _ => x = .int (lo + (i : Int) * c)) H0 where
  go := fun i H s hi => hi
  yld := fun i H x H' s _ y => by
    obtain ⟨e, y⟩ := y
    subst e
    exact ⟨Same.refl _, y⟩
  stop := fun H s => Nat.le_refl _
section
variable {P : Program} {w : World} {K : PySem.W.Frag} {mg : Str → Option Value} {base : Heap} {Z : List (Addr × Str)} {C CS CR : Addr}
theorem ok_setting1 (T : Bt mg) (c : Nat) {f : Addr} {fd : FuncData} (c_setting : Cal P w K mg base CX0 c "setting" (fun vs H Q E => ∃ i, i < c ∧ spSet Z i vs H Q E)) (F : Fun K "setting" "setting" s_setting f fd) : FnOk P w K mg base CX0 (c + 1) f fd ["lists", "station", "channel"] (spSet Z c) := by
  refine F.ok sc_setting (fun vs H Q E h => ?_) (fun cdv A outer s H vs Q E hr h => ?_)
  · obtain ⟨lr, L, v, rfl, _⟩ := h
    rfl
  · obtain ⟨lr, L, v, rfl, hL, hv, hLb, hc1, hc16, k⟩ := h
    refine ⟨_, (pss_cons (ps_set (i := 3) sc_setting.nd rfl (Or.inl rfl) (pe_lst pa_nil))
  (pss_cons (ps_set (i := 4) sc_setting.nd rfl (Or.inl rfl) (pe_slice (sl_listK K) (pe_ix (ix_listK K) (pv 0) (pv 1) (fun _ _ => rfl)) po_none (po_some (pe_op op_sub (pv 2) pe_int))))
  (pss_cons (ps_for PassesOwn.never rfl (pi_range3 (by rfl) T.no_range (pa_cons (pe_op op_sub (pe_callB (call_lenK K) (by rfl) T.no_len (by decide +kernel) (pa_cons (pv 4) pa_nil)) pe_int) (pa_cons (pe_un un_neg pe_int) (pa_cons (pe_un un_neg pe_int) pa_nil)))) (pg_name (i := 5) sc_setting.nd rfl (Or.inl rfl)) (pss_one (ps_set (i := 3) sc_setting.nd rfl (Or.inl rfl) (pe_op op_cat (pv 3) (pe_cal hr (Nat.le_refl _) c_setting pass0 rfl (pa_cons (pv 0) (pa_cons (pe_ix (ix_listK K) (pv 4) (pv 5) (fun _ _ => rfl)) (pa_cons (pe_op op_add (pv 5) pe_int) pa_nil))))))))
  (pss_one (ps_ret (pe_op op_cat (pe_op op_cat (pv 3) (pe_lst (pa_cons (pv 1) pa_nil))) (pv 4))))))), ?_⟩
    walk_at "rd"
    refine ⟨by show 0 ≤ sizeLine; decide, fun F0 hF0 => genO hF0 fun H1 n1 => ?_⟩
    walk_at "rd"
    have s1 : Sm Z H H1 := Sm.of n1.s
    obtain ⟨row, hrow⟩ : ∃ row, L[v]? = some row := ⟨_, List.getElem?_eq_getElem hv⟩
    refine rd_row (hL.sm s1) v rfl hrow (fun q hq => ?_)
    walk_at "rd"
    refine rd_slL (SqL.of hq) (fun S H2 n2 => ?_)
    have hS := n2.at'
    rw [show (c : Int) - 1 = ((c - 1 : Nat) : Int) by omega, cutV_take, ← List.map_take] at hS
    obtain ⟨sm, hsm⟩ : ∃ sm, sm = row.take (c - 1) := ⟨_, rfl⟩
    rw [← hsm] at hS
    have esm : (L.getD v []).take (c - 1) = sm := by rw [hsm, List.getD_eq_getElem?_getD, hrow]; rfl
    have hsl : sm.length ≤ c - 1 := by rw [hsm, List.length_take]; omega
    have hsb : ∀ u ∈ sm, 0 ≤ u ∧ u < (L.length : Int) := fun u m => hLb row (List.mem_of_getElem? hrow) u (List.mem_of_mem_take (hsm ▸ m))
    have s2 : Sm Z H H2 := s1.new n2.s
    walk_at "rd"
    refine rd_iR3 ?_
    walk_at "rd"
    refine rd_lenL (SqL.of hS) ?_
    rw [List.length_map]
    walk_at "rd"
    refine ⟨_, _, _, _, rfl, RgC.neg (by omega) (by omega) (by omega) (by omega), ?_⟩
    have cz : (((sm.length : Nat) : Int) - 1 - -1).toNat = sm.length := by omega
    rw [cz]
    obtain ⟨g, hg⟩ : ∃ g : Nat → List Int, g = fun i => setP L (c - 1) (i + 1) (sm.getD i 0) := ⟨_, rfl⟩
    obtain ⟨R, hR⟩ : ∃ R, R = (List.range sm.length).reverse := ⟨_, rfl⟩
    have hRl : R.length = sm.length := by rw [hR, List.length_reverse, List.length_range]
    have hRi : ∀ i, i < sm.length → R[i]? = some (sm.length - 1 - i) := fun i hi => by
      rw [hR, List.getElem?_reverse (by rw [List.length_range]; exact hi), List.length_range, List.getElem?_range (by omega)]
    have hpow : 2 ^ c ≤ 65536 := Nat.le_trans (Nat.pow_le_pow_right (by decide) hc16) (by decide)
    have hgl : ∀ i, i < sm.length → (g i).length + 1 ≤ 2 ^ (i + 1) := fun i hi => by rw [hg]; exact setP_len L (c - 1) (i + 1) _ (by omega) (by omega)
    have hfull := flat_len g sm.length hgl
    have hp2 : 2 ^ (sm.length + 1) ≤ 2 ^ c := Nat.pow_le_pow_right (by decide) (by omega)
    have hpart : ∀ i, (((R.take i).map g).flatten).length ≤ 65536 := fun i => by
      have h1 : ((R.take i).map g).flatten.length ≤ ((R.map g).flatten).length := by
        have e : (R.map g).flatten = ((R.take i).map g).flatten ++ ((R.drop i).map g).flatten := by rw [← List.flatten_append, ← List.map_append, List.take_append_drop]
        rw [e, List.length_append]
        omega
      rw [hR] at h1 ⊢
      omega
    have fF : Fr H F0 := fr_none n1.no
    refine for_w (T := Z) (wk_rangeC _ _ _) (fun i σ' H' => ∃ (Fd : Addr) (u5 : Option V), σ' = [some (.ref lr), some (.int (v : Int)), some (.int (c : Int)), some (.ref Fd), some (.ref S), u5] ∧ Sm Z H2 H' ∧ H' Fd = some (.lst ((((R.take i).map g).flatten).map V.int)))
      ⟨F0, none, rfl, Sm.refl _, n2.s _ _ n1.at'⟩ (fun i σ' H' h => by obtain ⟨_, _, _, h, _⟩ := h; exact h) (fun i y σ1 H3 H4 hi hP s4 hit => ?_) (fun σ' H3 hP => ?_)
    · obtain ⟨Fd, u5, rfl, s3, hFd⟩ := hP
      have it' : y = .int (((sm.length : Nat) : Int) - 1 + (i : Int) * -1) := hit
      obtain ⟨j, hj, hij⟩ : ∃ j : Nat, ((sm.length : Nat) : Int) - 1 + (i : Int) * -1 = (j : Int) ∧ j = sm.length - 1 - i := ⟨sm.length - 1 - i, by omega, rfl⟩
      rw [hj] at it'
      subst it'
      have hjl : j < sm.length := by omega
      have s24 : Sm Z H2 H4 := s3.new s4
      obtain ⟨u, hu⟩ : ∃ u, sm.getD j 0 = u := ⟨_, rfl⟩
      have hub := hsb u (hu ▸ getD_mem' hjl)
      walk_at "rd"
      refine rd_intL (s24.lst hS) j rfl hjl ?_
      rw [hu]
      walk_at "rd"
      refine ⟨j + 1, by omega, lr, L, u.toNat, by rw [show ((u.toNat : Nat) : Int) = u by omega]; rfl, hL.sm (s2.trans s24), by omega, hLb, by omega, by omega, fun q1 H5 s5 f5 hq1 => ?_⟩
      rw [show ((u.toNat : Nat) : Int) = u by omega, setP_fuel L (j + 1) (c - 1) (j + 1) u (by omega) (Nat.le_refl _) (by omega)] at hq1
      have e1 : setP L (c - 1) (j + 1) u = g j := by rw [hg, ← hu]
      rw [e1] at hq1
      have l1 := hpart i
      have l2 := hgl j hjl
      have l3 : 2 ^ (j + 1) ≤ 2 ^ c := Nat.pow_le_pow_right (by decide) (by omega)
      refine rd_cat (s5.lst (s4 _ _ hFd)) hq1 (by rw [List.length_map, List.length_map, sizeLine_eq]; omega) (fun q2 H6 n6 => ?_)
      walk_at "rd"
      refine ⟨q2, _, rfl, (s24.trans s5).new n6.s, ?_⟩
      rw [n6.at', List.take_add_one, hRi i (by omega), ← hij, show (some j).toList = [j] from rfl, List.map_append (f := g), List.flatten_append, List.map_append]
      simp
    · obtain ⟨Fd, u5, rfl, s3, hFd⟩ := hP
      rw [← hRl, List.take_length] at hFd
      have l1 := hpart R.length
      rw [List.take_length] at l1
      walk_at "rd"
      refine ⟨by show 1 ≤ sizeLine; decide, fun p1 hp1 => genO hp1 fun H4 n4 => ?_⟩
      refine rd_cat (n4.s _ _ hFd) n4.at' (by rw [List.length_map, sizeLine_eq]; simp only [List.length_singleton]; omega) (fun p2 H5 n5 => ?_)
      walk_at "rd"
      refine rd_cat n5.at' (n5.s _ _ (n4.s _ _ (s3.lst hS))) (by rw [List.length_append, List.length_map, List.length_map, sizeLine_eq]; simp only [List.length_singleton]; omega) (fun p3 H6 n6 => ?_)
      have s06 : Sm Z H H6 := ((s2.trans s3).new n4.s).new n5.s |>.new n6.s
      refine k p3 H6 s06 ((((s2.trans s3).new n4.s).new n5.s).free n6.no) ?_
      rw [n6.at']
      obtain ⟨c', rfl⟩ : ∃ c', c = c' + 1 := ⟨c - 1, by omega⟩
      show some (HO.lst _) = some (HO.lst ((((((List.range ((L.getD ((v : Nat) : Int).toNat []).take (c' + 1 - 1)).length).reverse.map fun i => setP L c' (i + 1) (((L.getD ((v : Nat) : Int).toNat []).take (c' + 1 - 1)).getD i 0)).flatten ++ [(v : Int)]) ++ (L.getD ((v : Nat) : Int).toNat []).take (c' + 1 - 1))).map V.int))
      rw [Int.toNat_natCast, esm, ← hR, List.map_append, List.map_append, hg]
      rfl
/-- setting, at channels up to 16 -/
theorem c_set_of (T : Bt mg) (D : DefAt K mg "setting" s_setting) : Cal P w K mg base CX0 17 "setting" (fun vs H Q E => ∃ i, i < 17 ∧ spSet Z i vs H Q E) := by
  obtain ⟨f, fd, F, hm⟩ := D.ex
  have hb : Binds K fd ["lists", "station", "channel"] [] := F.binds (fun _ _ _ _ _ _ us hl => match us, hl with | [_, _, _], _ => rfl)
  have all : ∀ c : Nat, ∀ i, i < c → FnOk P w K mg base CX0 (i + 1) f fd ["lists", "station", "channel"] (spSet Z i) := fun c => by
    induction c with
    | zero => exact fun i hi => by omega
    | succ c ih =>
      intro i hi
      by_cases e : i = c
      · subst e
        exact ok_setting1 T i ⟨f, fd, _, FnOk.below ih, hm, F.kp, hb⟩ F
      · exact ih i (by omega)
  exact ⟨f, fd, _, FnOk.below (all 17), hm, F.kp, hb⟩
end

abbrev s_NoState_init : Stmt := inClass (top 4) 0
theorem sc_NoState_init : FnScope ["self", "index"] ["self", "index"] (defScope s_NoState_init) := ⟨rfl, rfl, rfl, by decide +kernel, rfl, by decide +kernel, by decide +kernel⟩
theorem x_of_NoState {P : Program} {w : World} {K : PySem.W.Frag} {mg : Str → Option Value} {base : Heap} {B C : Addr} (ce : CeB K mg B) (D : ExcAt K mg "NoState" C "index" "NoState.__init__" s_NoState_init) : CalX P w K mg base 1 "NoState" C "index" (spErr K C "index") := by
  refine D.cal (ps := ["self", "index"]) (fun _ _ _ _ _ _ us hl => match us, hl with | [_, _], _ => rfl) fun f fd F => ?_
  refine F.ok sc_NoState_init (fun vs H Q E h => ?_) (fun cdv A outer s H vs Q E hr h => ?_)
  · obtain ⟨a, v, rfl, _⟩ := h
    rfl
  · obtain ⟨a, v, rfl, T, nf, ha, k⟩ := h
    refine ⟨_, (pss_cons (ps_expr (pe_ceinit ce rfl (pa_cons (pv 0) (pa_cons pe_str pa_nil))))
  (pss_one (ps_ost (pv 0) (pv 1) rfl))), ?_⟩
    exact ⟨_, rfl, a, C, _, rfl, (by show 1 ≤ 1000; decide), T, ha, _, rfl, _, rfl, a, C, rfl, T, nf, .inl ⟨ha, fun dx hdx hne => k dx hdx hne⟩⟩
abbrev s_NoSteps_init : Stmt := inClass (top 5) 0
theorem sc_NoSteps_init : FnScope ["self", "index"] ["self", "index"] (defScope s_NoSteps_init) := ⟨rfl, rfl, rfl, by decide +kernel, rfl, by decide +kernel, by decide +kernel⟩
theorem x_of_NoSteps {P : Program} {w : World} {K : PySem.W.Frag} {mg : Str → Option Value} {base : Heap} {B C : Addr} (ce : CeB K mg B) (D : ExcAt K mg "NoSteps" C "index" "NoSteps.__init__" s_NoSteps_init) : CalX P w K mg base 1 "NoSteps" C "index" (spErr K C "index") := by
  refine D.cal (ps := ["self", "index"]) (fun _ _ _ _ _ _ us hl => match us, hl with | [_, _], _ => rfl) fun f fd F => ?_
  refine F.ok sc_NoSteps_init (fun vs H Q E h => ?_) (fun cdv A outer s H vs Q E hr h => ?_)
  · obtain ⟨a, v, rfl, _⟩ := h
    rfl
  · obtain ⟨a, v, rfl, T, nf, ha, k⟩ := h
    refine ⟨_, (pss_cons (ps_expr (pe_ceinit ce rfl (pa_cons (pv 0) (pa_cons pe_str pa_nil))))
  (pss_one (ps_ost (pv 0) (pv 1) rfl))), ?_⟩
    exact ⟨_, rfl, a, C, _, rfl, (by show 1 ≤ 1000; decide), T, ha, _, rfl, _, rfl, a, C, rfl, T, nf, .inl ⟨ha, fun dx hdx hne => k dx hdx hne⟩⟩
abbrev s_check_state : Stmt := top 19
theorem sc_check_state : FnScope ["network", "state", "index", "channel", "one"] ["network", "state"] (defScope s_check_state) := ⟨rfl, rfl, rfl, by decide +kernel, rfl, by decide +kernel, by decide +kernel⟩
abbrev s_all_off : Stmt := top 20
theorem sc_all_off : FnScope ["network"] ["network"] (defScope s_all_off) := ⟨rfl, rfl, rfl, by decide +kernel, rfl, by decide +kernel, by decide +kernel⟩
abbrev s_next_channel : Stmt := top 21
theorem sc_next_channel : FnScope ["network", "state", "station", "used", "channel", "one"] ["network", "state", "station"] (defScope s_next_channel) := ⟨rfl, rfl, rfl, by decide +kernel, rfl, by decide +kernel, by decide +kernel⟩
abbrev s_switched : Stmt := top 22
theorem sc_switched : FnScope ["network", "state", "station", "channel"] ["network", "state", "station"] (defScope s_switched) := ⟨rfl, rfl, rfl, by decide +kernel, rfl, by decide +kernel, by decide +kernel⟩
abbrev s_played : Stmt := top 23
theorem sc_played : FnScope ["network", "state", "steps", "index", "station"] ["network", "state", "steps"] (defScope s_played) := ⟨rfl, rfl, rfl, by decide +kernel, rfl, by decide +kernel, by decide +kernel⟩
def spState (Z : List (Addr × Str)) (C CT : Addr) : Sp := fun vs H Q E => ∃ (p : Addr) (n : Nat) (ks : List Lk) (v : V) (d : PyData), vs = [.ref p, v] ∧ NetAt C H p n ks ∧ n ≤ 60 ∧ ks.length ≤ 100000 ∧ (∀ e ∈ ks, OkLk n e) ∧ Dt H v d ∧
  (∀ i, dueS n ks d = some i → RaisesV Z E CT "index" H (.int i)) ∧ (dueS n ks d = none → ∀ H', Sm Z H H' → Q .non H')
section
variable {P : Program} {w : World} {K : PySem.W.Frag} {mg : Str → Option Value} {base : Heap} {Z : List (Addr × Str)} {C CS CT CP : Addr}
theorem ok_state (T : Bt mg) (N : NetC K C) (c_is_int : Cal P w K mg base CX0 1 "is_int" (spIsInt K)) (c_len : CalL P w K mg base 1 C (spLen C)) (c_Network_neighbours : CalM P w K mg base (L2.CX P w) 4 C "neighbours" (spNeigh Z C CS))
    (x_NoState : CalX P w K mg base 1 "NoState" CT "index" (spErr K CT "index")) {f : Addr} {fd : FuncData} (F : Fun K "check_state" "check_state" s_check_state f fd) :
    FnOk P w K mg base (L2.CX P w) 5 f fd ["network", "state"] (spState Z C CT) := by
  refine F.okX sc_check_state (fun vs H Q E h => ?_) (fun cdv A outer s H vs Q E hr h => ?_)
  · obtain ⟨p, n, ks, v, d, rfl, _⟩ := h
    rfl
  · obtain ⟨p, n, ks, v, d, rfl, hn, hn60, hkl, hok, hd, kE, kQ⟩ := h
    refine ⟨_, (pss_cons (ps_if (PW.pt (pw_or (pt_not (pt_val (pe_callB (call_isiK K) (by rfl) T.no_isinstance (by decide +kernel) (pa_cons (pv 1) (pa_cons (pe_ty "tuple" (by rfl) T.no_tuple (by decide +kernel)) pa_nil))))) (pw_or1 (pt_cmpR op_ne (pe_callB (call_lenK K) (by rfl) T.no_len (by decide +kernel) (pa_cons (pv 1) pa_nil)) (pe_lenOwn hr (by decide) c_len pass0 (by rfl) T.no_len (pa_cons (pv 0) pa_nil)) (nomark _))))) (pss_one (ps_raiseOwn rfl hr (by decide) x_NoState (takes_of rfl rfl rfl rfl) rfl (pa_cons (pe_un un_neg pe_int) pa_nil))) pss_nil)
  (pss_one (ps_for (passes_of rfl) rfl (pi_enumTK K (by rfl) T.no_enumerate (pa_cons (pv 1) pa_nil)) (pg_tupK K 2 rfl (pgs_cons (pg_name (i := 2) sc_check_state.nd rfl (Or.inr rfl)) (pgs_cons (pg_name (i := 3) sc_check_state.nd rfl (Or.inr rfl)) pgs_nil))) (pss_cons (ps_if (PW.pt (pw_or (pt_not (pt_val (pe_cal hr (by decide) c_is_int pass0 rfl (pa_cons (pv 3) pa_nil)))) (pw_or1 (pt_cmpR op_lt (pv 3) pe_int (nomark _))))) (pss_one (ps_raiseOwn rfl hr (by decide) x_NoState (takes_of rfl rfl rfl rfl) rfl (pa_cons (pv 2) pa_nil))) pss_nil)
  (pss_one (ps_if (PW.pt (pw_and (pt_cmpR op_gt (pv 3) pe_int (nomark _)) (pw_and1 (pt_cmpR (op_neDK K hr.units) (pe_lc (own := [("one", 4)]) (g := gName 4) rfl sc_check_state.nd (pi_listK K (pe_calM (pv 0) hr (by decide) c_Network_neighbours (passE (takes_of rfl rfl rfl rfl)) (pa_cons (pv 2) pa_nil))) (blkOk_by (by kernel_rfl)) (fun _ _ _ _ _ => (pg_name (i := 4) sc_check_state.nd rfl (Or.inl rfl))) (fun _ _ _ _ _ => (pts_one (PW.pt (pw_and (pt_cmpR op_lt (pv 4) (pv 2) (nomark _)) (pw_and1 (pt_cmpR op_eq (pe_ix (ix_tupK K) (pv 1) (pv 4) (fun _ _ => rfl)) (pv 3) (nomark _))))))) (fun _ _ _ _ _ => (pv 4))) (pe_lst pa_nil) (nomark _))))) (pss_one (ps_raiseOwn rfl hr (by decide) x_NoState (takes_of rfl rfl rfl rfl) rfl (pa_cons (pv 2) pa_nil))) pss_nil)))))), ?_⟩
    walk_at "rd"
    refine rd_isi hd.ty (kit_tuple (tyN_kind d)) ?_
    walk_at "rd"
    have raised : ∀ i, dueS n ks d = some i → ∀ H1, Sm Z H H1 → ∀ d1 H2, NewO H1 d1 (.xd [("index", .int i)]) H2 → E (.ref CT) (some d1) H2 := fun i e H1 s d1 H2 h => kE i e d1 H2 (s.new h.s) h.at'
    cases hd with
    | tup ha hds =>
      rename_i a xs ds
      refine L2.iteF ?_
      walk_at "rd"
      refine rd_lenT (SqT.of ha) ?_
      walk_at "rd"
      refine rd_len hn (by omega) ?_
      have hl := hds.length
      walk_at "rd"
      refine rifN (fun c => ?_) (fun c => ?_)
      · walk_at "rd"
        refine raised (-1) ?_ H (Sm.refl _)
        show (if ds.length = n then _ else some (-1)) = _
        rw [if_neg (by omega)]
      · have hdn : ds.length = n := by omega
        have hxn : xs.length = n := by omega
        have due : dueS n ks (.tuple ds) = ((List.range n).find? (badS ks ds)).map fun i => ((i : Nat) : Int) := by
          show (if ds.length = n then _ else some (-1)) = _
          rw [if_pos hdn]
        walk_at "rd"
        refine ⟨a, _, rfl, SqT.of ha, ?_⟩
        refine for_w (T := Z) (wk_enumT (SqT.of ha)) (fun i σ' H' => ∃ u2 u3, σ' = [some (.ref p), some (.ref a), u2, u3, none] ∧ Sm Z H H' ∧ ∀ j : Nat, j < i → badS ks ds j = false) ⟨none, none, rfl, Sm.refl H, fun j hj => absurd hj (Nat.not_lt_zero j)⟩
          (fun i σ' H' h => by obtain ⟨_, _, _, h, _⟩ := h; exact h) (fun i y σ1 H1 H2 hi hP s2 hit => ?_) (fun σ' H1 hP => ?_)
        · obtain ⟨u2, u3, rfl, s1, hbj⟩ := hP
          obtain ⟨tt, y, rfl, htt, hy⟩ := hit
          rw [hxn] at hi
          obtain ⟨d, hd, hyd⟩ := hds.get hy
          have hdi : ds.getD i .none = d := by rw [List.getD_eq_getElem?_getD, hd]; rfl
          have s12 : Sm Z H H2 := s1.new s2
          have bad_due : badS ks ds i = true → dueS n ks (.tuple ds) = some (i : Int) := fun hb => by
            rw [due, List.find?_range_eq_some.mpr ⟨hb, List.mem_range.mpr hi, fun j hj => by rw [hbj j hj]; rfl⟩]
            rfl
          refine rd_gtup2 (SqT.of htt) rfl ?_
          walk_at "rd"
          refine ⟨y, tyN d, rfl, TyX.sm s12 hyd.ty, tyN_kind d, ?_⟩
          walk_at "rd"
          have notint : (tyN d == "int") = false → ∀ d1 H3, NewO H2 d1 (.xd [("index", .int i)]) H3 → E (.ref CT) (some d1) H3 := fun hb d1 H3 n3 => raised i (bad_due (by unfold badS; rw [hdi]; cases d <;> first | rfl | cases hb)) H2 s12 d1 H3 n3
          cases hyd with
          | int cc =>
            refine L2.iteF ?_
            walk_at "rd"
            refine rifD (fun c0 => ?_) (fun c0 => ?_)
            · walk_at "rd"
              exact raised i (bad_due (by unfold badS; rw [hdi]; show (decide (cc < 0) || _) = true; rw [decide_eq_true c0, Bool.true_or])) H2 s12
            walk_at "rd"
            have bad_is : badS ks ds i = (decide (0 < cc) && (nbr ks (i : Int)).any fun u => decide (u < (i : Int)) && isI cc (ds.getD u.toNat .none)) := by
              unfold badS
              rw [hdi]
              show (decide (cc < 0) || _) = _
              rw [decide_eq_false c0, Bool.false_or]
            refine rifD (fun c1 => ?_) (fun c1 => ?_)
            · rw [decide_eq_true c1, Bool.true_and] at bad_is
              walk_at "rd"
              refine rd_netM (hn.sm s12) ?_
              walk_at "rd"
              refine rd_neigh (hn.sm s12) hn60 hi (fun q H3 s3 hq0 hq => ?_)
              refine ⟨q, rfl, ⟨_, SqL.of hq⟩, ?_⟩
              obtain ⟨us, hus⟩ : ∃ us, us = srt (nbr ks (i : Int)) := ⟨_, rfl⟩
              rw [← hus] at hq
              have hum : ∀ u ∈ us, u ∈ nbr ks (i : Int) := fun u m => (srt_perm _).mem_iff.mp (hus ▸ m)
              have s23 : Sm Z H H3 := s12.trans s3
              have hul : us.length < sizeLine := by
                have := nbr_len ks (i : Int)
                rw [hus, srt_len, sizeLine_eq]
                omega
              refine lcf_w (T := Z) (wk_list (SqL.of hq)) (by rw [List.length_map]; exact hul) (fun m => (fun u => decide (u < (i : Int)) && isI cc (ds.getD u.toNat .none)) (us.getD m 0)) (fun m => .int (us.getD m 0)) (fun m x Ha Hb hm sa sb it kt kf ht hf => ?_) (fun D Ha fD sa hD => ?_)
              · refine ⟨rfl, ?_⟩
                rw [List.length_map] at hm
                have hx : x = .int (us.getD m 0) := by
                  have it2 : (us.map V.int)[m]? = some x := it
                  rw [List.getElem?_map, List.getElem?_eq_getElem hm] at it2
                  simp [hm, ← Option.some.inj it2]
                subst hx
                have hub := nbr_lt hok _ _ (hum _ (by simp [hm] : us.getD m 0 ∈ us))
                generalize us.getD m 0 = u at hub ht hf ⊢
                have ht : ∀ H5, (decide (u < (i : Int)) && isI cc (ds.getD u.toNat .none)) = true → Sm Z Ha H5 → kt (V.int u) H5 := ht
                have hf : ∀ H5, (decide (u < (i : Int)) && isI cc (ds.getD u.toNat .none)) = false → Sm Z Ha H5 → kf H5 := hf
                walk_at "rd"
                refine rifD (fun c2 => ?_) (fun c2 => ?_)
                · have hb := hbj u.toNat (by omega)
                  obtain ⟨z, hz⟩ : ∃ z, ds.getD u.toNat .none = .int z := by
                    unfold badS at hb
                    cases e : ds.getD u.toNat .none with
                    | int z => exact ⟨z, rfl⟩
                    | _ => rw [e] at hb; cases hb
                  have hxu : xs[u.toNat]? = some (.int z) := by
                    obtain ⟨v, hv⟩ : ∃ v, xs[u.toNat]? = some v := ⟨_, List.getElem?_eq_getElem (by omega)⟩
                    obtain ⟨d2, hd2, hyd2⟩ := hds.get hv
                    have : d2 = .int z := by
                      rw [List.getD_eq_getElem?_getD, hd2] at hz
                      exact hz
                    subst this
                    cases hyd2
                    exact hv
                  walk_at "rd"
                  refine rd_ixT (SqT.of ((s23.trans (sa.new sb)).tup ha)) (sat (j := u.toNat) (by omega) hxu) ?_
                  walk_at "rd"
                  rw [decide_eq_true c2, Bool.true_and, hz] at ht hf
                  refine rifD (fun c3 => ?_) (fun c3 => ?_)
                  · walk_at "rd"
                    exact ht _ (decide_eq_true c3) (Sm.of sb)
                  · exact hf _ (decide_eq_false c3) (Sm.of sb)
                · have hf2 : ∀ H5, Sm Z Ha H5 → kf H5 := fun H5 s5 => hf H5 (by rw [decide_eq_false c2, Bool.false_and]) s5
                  walk_at "rd"
                  exact hf2 _ (Sm.of sb)
              · rw [List.length_map, range_filter (fun u => decide (u < (i : Int)) && isI cc (ds.getD u.toNat .none)) us] at hD
                walk_at "rd"
                refine ⟨by show 0 ≤ sizeLine; decide, fun p5 hp5 => genO hp5 fun Hb nb => ?_⟩
                refine rd_neD (d := .list ((us.filter fun u => decide (u < (i : Int)) && isI cc (ds.getD u.toNat .none)).map PyData.int)) (e := .list (([] : List Int).map PyData.int)) (Dt.ints (nb.s _ _ hD)) (Dt.ints nb.at') (okd_ints _) (okd_ints _) ?_
                rw [eqv_lints]
                have s2b : Sm Z H Hb := (s23.trans sa).new nb.s
                walk_at "rd"
                refine rifN (fun c2 => ?_) (fun c2 => ?_)
                · walk_at "rd"
                  refine raised i (bad_due ?_) Hb s2b
                  rw [bad_is]
                  obtain ⟨u, hu⟩ := List.exists_mem_of_ne_nil _ c2
                  obtain ⟨hu1, hu2⟩ := List.mem_filter.mp hu
                  exact List.any_eq_true.mpr ⟨u, hum u hu1, hu2⟩
                · walk_at "rd"
                  refine ⟨_, _, rfl, s2b, fun j hj => ?_⟩
                  by_cases e : j = i
                  · rw [e, bad_is]
                    refine List.any_eq_false.mpr fun u hu => ?_
                    have := List.filter_eq_nil_iff.mp c2 u (by rw [hus]; exact (srt_perm _).mem_iff.mpr hu)
                    exact this
                  · exact hbj j (by omega)
            · rw [decide_eq_false c1, Bool.false_and] at bad_is
              walk_at "rd"
              refine ⟨_, _, rfl, s12, fun j hj => ?_⟩
              by_cases e : j = i
              · rw [e]
                exact bad_is
              · exact hbj j (by omega)
          | non => refine L2.iteT (L2.iteT ?_); walk_at "rd"; exact notint rfl
          | bl b => refine L2.iteT (L2.iteT ?_); walk_at "rd"; exact notint rfl
          | str x => refine L2.iteT (L2.iteT ?_); walk_at "rd"; exact notint rfl
          | lst _ _ => refine L2.iteT (L2.iteT ?_); walk_at "rd"; exact notint rfl
          | tup _ _ => refine L2.iteT (L2.iteT ?_); walk_at "rd"; exact notint rfl
          | dic _ => refine L2.iteT (L2.iteT ?_); walk_at "rd"; exact notint rfl
        · obtain ⟨u2, u3, rfl, s1, hbj⟩ := hP
          rw [hxn] at hbj
          refine kQ ?_ H1 s1
          rw [due, List.find?_range_eq_none.mpr fun j hj => by rw [hbj j hj]; rfl]
          rfl
    | non => refine L2.iteT (L2.iteT ?_); walk_at "rd"; exact raised (-1) rfl H (Sm.refl _)
    | bl b => refine L2.iteT (L2.iteT ?_); walk_at "rd"; exact raised (-1) rfl H (Sm.refl _)
    | int i => refine L2.iteT (L2.iteT ?_); walk_at "rd"; exact raised (-1) rfl H (Sm.refl _)
    | str x => refine L2.iteT (L2.iteT ?_); walk_at "rd"; exact raised (-1) rfl H (Sm.refl _)
    | lst _ _ => refine L2.iteT (L2.iteT ?_); walk_at "rd"; exact raised (-1) rfl H (Sm.refl _)
    | dic _ => refine L2.iteT (L2.iteT ?_); walk_at "rd"; exact raised (-1) rfl H (Sm.refl _)
end

def spOff (Z : List (Addr × Str)) (C : Addr) : Sp := fun vs H Q _ => ∃ (p : Addr) (n : Nat) (ks : List Lk), vs = [.ref p] ∧ NetAt C H p n ks ∧ 1 ≤ n ∧ n ≤ 60 ∧ ∀ (q : Addr) (H' : Hp), Sm Z H H' → H' q = some (.tup ((List.replicate n (0 : Int)).map V.int)) → Q (.ref q) H'
def spNext (Z : List (Addr × Str)) (C CT CS : Addr) : Sp := fun vs H Q E => ∃ (p : Addr) (n : Nat) (ks : List Lk) (v x : V) (d e : PyData), vs = [.ref p, v, x] ∧ NetAt C H p n ks ∧ n ≤ 60 ∧ ks.length ≤ 100000 ∧ (∀ e ∈ ks, OkLk n e) ∧ Dt H v d ∧ Dt H x e ∧
  (∀ i, dueS n ks d = some i → RaisesV Z E CT "index" H (.int i)) ∧ (dueS n ks d = none → isSt n e = false → RaisesV Z E CS "station" H x) ∧
  (∀ (s : List Int) (i : Nat), d = .tuple (s.map PyData.int) → StOk n ks s → e = .int (i : Int) → i < n → ∀ H', Sm Z H H' → Q (.int (mex (usedS ks s (i : Int)))) H')
def spSwitched (Z : List (Addr × Str)) (C CT CS : Addr) : Sp := fun vs H Q E => ∃ (p : Addr) (n : Nat) (ks : List Lk) (v x : V) (d e : PyData), vs = [.ref p, v, x] ∧ NetAt C H p n ks ∧ n ≤ 60 ∧ ks.length ≤ 100000 ∧ (∀ e ∈ ks, OkLk n e) ∧ Dt H v d ∧ Dt H x e ∧
  (∀ i, dueS n ks d = some i → RaisesV Z E CT "index" H (.int i)) ∧ (dueS n ks d = none → isSt n e = false → RaisesV Z E CS "station" H x) ∧
  (∀ (s : List Int) (i : Nat), d = .tuple (s.map PyData.int) → StOk n ks s → e = .int (i : Int) → i < n → ∀ (q : Addr) (H' : Hp), Sm Z H H' → H' q = some (.tup ((swS ks s i).map V.int)) → Q (.ref q) H')
def spPlayed (Z : List (Addr × Str)) (C CT CP : Addr) : Sp := fun vs H Q E => ∃ (p : Addr) (n : Nat) (ks : List Lk) (v x : V) (d e : PyData), vs = [.ref p, v, x] ∧ NetAt C H p n ks ∧ n ≤ 60 ∧ ks.length ≤ 100000 ∧ (∀ e ∈ ks, OkLk n e) ∧ Dt H v d ∧ Dt H x e ∧
  (∀ i, dueS n ks d = some i → RaisesV Z E CT "index" H (.int i)) ∧ (dueS n ks d = none → (∀ es, e ≠ .list es) → RaisesV Z E CP "index" H (.int (-1))) ∧
  (dueS n ks d = none → ∀ (es : List PyData) (i : Nat), e = .list es → i < es.length → isSt n (es.getD i .none) = false → (∀ j, j < i → isSt n (es.getD j .none) = true) → RaisesV Z E CP "index" H (.int (i : Int))) ∧
  (∀ (s : List Int) (is : List Nat), d = .tuple (s.map PyData.int) → StOk n ks s → e = .list (is.map fun i => .int ((i : Nat) : Int)) → (∀ i ∈ is, i < n) → ∀ (q : Addr) (H' : Hp), Sm Z H H' → H' q = some (.tup ((playS ks s is).map V.int)) → Q (.ref q) H')
theorem rd_state {Z : List (Addr × Str)} {C CT p : Addr} {n : Nat} {ks : List Lk} {s : List Int} {v : V} {H : Hp} {Q : VK} {E : XK} (hn : NetAt C H p n ks) (hn60 : n ≤ 60) (hkl : ks.length ≤ 100000) (ok : ∀ e ∈ ks, OkLk n e) (hd : Dt H v (.tuple (s.map PyData.int))) (hs : StOk n ks s)
    (h : ∀ H', Sm Z H H' → Q .non H') : spState Z C CT [.ref p, v] H Q E := ⟨p, n, ks, v, _, rfl, hn, hn60, hkl, ok, hd, fun i e => (by rw [hs.due] at e; cases e), fun _ => h⟩
section
variable {P : Program} {w : World} {K : PySem.W.Frag} {mg : Str → Option Value} {base : Heap} {Z : List (Addr × Str)} {C CS CT CP : Addr}
theorem ok_off (T : Bt mg) (c_len : CalL P w K mg base 1 C (spLen C)) {f : Addr} {fd : FuncData} (F : Fun K "all_off" "all_off" s_all_off f fd) : FnOk P w K mg base CX0 3 f fd ["network"] (spOff Z C) := by
  refine F.ok sc_all_off (fun vs H Q E h => ?_) (fun cdv A outer s H vs Q E hr h => ?_)
  · obtain ⟨p, n, ks, rfl, _⟩ := h
    rfl
  · obtain ⟨p, n, ks, rfl, hn, hn1, hn60, k⟩ := h
    refine ⟨_, (pss_one (ps_ret (pe_op (op_repT2 K) (pe_tup (pa_cons pe_int pa_nil)) (pe_lenOwn hr (by decide) c_len pass0 (by rfl) T.no_len (pa_cons (pv 0) pa_nil))))), ?_⟩
    walk_at "rd"
    refine ⟨by show 1 ≤ sizeLine; decide, fun q1 hq1 => genO hq1 fun H1 n1 => ?_⟩
    walk_at "rd"
    refine rd_len (hn.sm (T := Z) (Sm.of n1.s)) (by omega) ?_
    walk_at "rd"
    refine rd_rep1 n1.at' rfl hn1 (by omega) (fun q2 H2 s2 hq2 => ?_)
    walk_at "rd"
    refine k q2 H2 ((Sm.of n1.s).new s2) ?_
    rw [List.map_replicate]
    exact hq2
theorem ok_next (T : Bt mg) (c_check_state : Cal P w K mg base (L2.CX P w) 5 "check_state" (spState Z C CT)) (c_Network_neighbours : CalM P w K mg base (L2.CX P w) 4 C "neighbours" (spNeigh Z C CS))
    {f : Addr} {fd : FuncData} (F : Fun K "next_channel" "next_channel" s_next_channel f fd) : FnOk P w K mg base (L2.CX P w) 6 f fd ["network", "state", "station"] (spNext Z C CT CS) := by
  refine F.okX sc_next_channel (fun vs H Q E h => ?_) (fun cdv A outer s H vs Q E hr h => ?_)
  · obtain ⟨p, n, ks, v, x, d, e, rfl, _⟩ := h
    rfl
  · obtain ⟨p, n, ks, v, x, d, e, rfl, hn, hn60, hkl, ok, hd, he, kT, kS, kQ⟩ := h
    refine ⟨_, (pss_cons (ps_expr (pe_cal hr (by decide) c_check_state (passE (takes_of rfl rfl rfl rfl)) rfl (pa_cons (pv 0) (pa_cons (pv 1) pa_nil))))
  (pss_cons (ps_setLc (i := 3) (own := [("one", 5)]) (g := gName 5) rfl sc_next_channel.nd rfl rfl (sw_true rfl rfl rfl (by decide +kernel)) (pi_listK K (pe_calM (pv 0) hr (by decide) c_Network_neighbours (passE (takes_of rfl rfl rfl rfl)) (pa_cons (pv 2) pa_nil))) (blkOk_by (by kernel_rfl)) (fun _ _ _ _ _ => (pg_name (i := 5) sc_next_channel.nd rfl (Or.inl rfl))) (fun _ _ _ _ _ => pts_nil) (fun _ _ _ _ _ => (pe_ix (ix_tupK K) (pv 1) (pv 5) (fun _ _ => rfl))))
  (pss_cons (ps_set (i := 4) sc_next_channel.nd rfl (Or.inl rfl) pe_int)
  (pss_cons (ps_while (passes_of rfl) (pt_cmpR (op_inSK K) (pv 4) (pv 3) (by rfl)) (pss_one (ps_aug (i := 4) sc_next_channel.nd rfl (Or.inl rfl) pe_int ip_add)))
  (pss_one (ps_ret (pv 4))))))), ?_⟩
    walk_at "rd"
    refine ⟨p, n, ks, v, d, rfl, hn, hn60, hkl, ok, hd, kT, fun hdu H1 s1 => ?_⟩
    obtain ⟨s, rfl, hs⟩ := dueS_none ok hdu
    walk_at "rd"
    refine rd_netM (hn.sm s1) ?_
    walk_at "rd"
    refine ⟨p, n, ks, x, e, rfl, hn.sm s1, hn60, he.sm s1, fun i ei hi q H2 s2 hq0 hq => ?_, fun hb d1 H2 s2 h2 => kS hdu hb d1 H2 (s1.trans s2) h2⟩
    subst ei
    cases he
    have s12 : Sm Z H H2 := s1.trans s2
    cases hd with
    | tup ha hds =>
      rename_i a xs
      have := dt_intsS hds
      subst this
      refine ⟨q, rfl, ⟨_, SqL.of hq⟩, ?_⟩
      obtain ⟨us, hus⟩ : ∃ us, us = srt (nbr ks (i : Int)) := ⟨_, rfl⟩
      rw [← hus] at hq
      have hum : ∀ u ∈ us, u ∈ nbr ks (i : Int) := fun u m => (srt_perm _).mem_iff.mp (hus ▸ m)
      have hul : us.length < sizeLine := by
        have := nbr_len ks (i : Int)
        rw [hus, srt_len, sizeLine_eq]
        omega
      have hsl := hs.len
      refine lcm_w (T := Z) (wk_list (SqL.of hq)) (by rw [List.length_map]; exact hul) (fun m => (fun u => V.int (s.getD u.toNat 0)) (us.getD m 0)) (fun m x Ha Hb hm sa sb it kt ht => ?_) (fun D Ha fD sa hD => ?_)
      · refine ⟨rfl, ?_⟩
        rw [List.length_map] at hm
        have hx : x = .int (us.getD m 0) := by
          have it2 : (us.map V.int)[m]? = some x := it
          rw [List.getElem?_map, List.getElem?_eq_getElem hm] at it2
          simp [hm, ← Option.some.inj it2]
        subst hx
        have hub := nbr_lt ok _ _ (hum _ (by simp [hm] : us.getD m 0 ∈ us))
        generalize us.getD m 0 = u at hub ht ⊢
        walk_at "rd"
        refine rd_intT ((s12.trans (sa.new sb)).tup ha) u.toNat (by omega) (by omega) ?_
        exact ht Hb (Sm.of sb)
      · rw [List.length_map, range_map us (fun u => V.int (s.getD u.toNat 0)), show us.map (fun u => V.int (s.getD u.toNat 0)) = (us.map fun u => s.getD u.toNat 0).map V.int by rw [List.map_map]; rfl] at hD
        obtain ⟨used, hused⟩ : ∃ used, used = us.map fun u => s.getD u.toNat 0 := ⟨_, rfl⟩
        rw [← hused] at hD
        have hmex : mex used = mex (usedS ks s (i : Int)) := by
          rw [hused, hus]
          exact mex_perm ((srt_perm _).map _)
        obtain ⟨m1, m2, m3, m4⟩ := mex_spec used
        walk_at "rd"
        refine rd_while (fun m σ' H' => ∃ c : Int, σ' = [some (.ref p), some (.ref a), some (.int (i : Int)), some (.ref D), some (.int c), none] ∧ 1 ≤ c ∧ c ≤ mex used ∧ m = (mex used - c).toNat ∧ Sm Z Ha H') (mex used - 1).toNat ⟨1, rfl, Int.le_refl _, m1, rfl, Sm.refl _⟩ (fun m σ2 Hb hW => ?_)
        obtain ⟨c, rfl, c1, c2, rfl, sb⟩ := hW
        walk_at "rd"
        refine rd_inI (SqL.of (sb.lst hD)) ?_
        walk_at "rd"
        refine rifD (fun hc => ?_) (fun hc => ?_)
        · refine rd_turn ?_
          have hne : c ≠ mex used := fun z => m3 (z ▸ hc)
          walk_at "rd"
          exact ⟨(mex used - (c + 1)).toNat, by omega, c + 1, rfl, by omega, by omega, rfl, sb⟩
        · have hce : c = mex used := by
            by_cases z : c < mex used
            · exact absurd (m4 c c1 z) hc
            · omega
          walk_at "rd"
          rw [hce, hmex]
          exact kQ s i rfl hs rfl hi Hb ((s12.trans sa).trans sb)
theorem ok_switched (T : Bt mg) (c_next_channel : Cal P w K mg base (L2.CX P w) 6 "next_channel" (spNext Z C CT CS)) {f : Addr} {fd : FuncData} (F : Fun K "switched" "switched" s_switched f fd) :
    FnOk P w K mg base (L2.CX P w) 7 f fd ["network", "state", "station"] (spSwitched Z C CT CS) := by
  refine F.okX sc_switched (fun vs H Q E h => ?_) (fun cdv A outer s H vs Q E hr h => ?_)
  · obtain ⟨p, n, ks, v, x, d, e, rfl, _⟩ := h
    rfl
  · obtain ⟨p, n, ks, v, x, d, e, rfl, hn, hn60, hkl, ok, hd, he, kT, kS, kQ⟩ := h
    refine ⟨_, (pss_cons (ps_set (i := 3) sc_switched.nd rfl (Or.inl rfl) (pe_cal hr (by decide) c_next_channel (passE (takes_of rfl rfl rfl rfl)) rfl (pa_cons (pv 0) (pa_cons (pv 1) (pa_cons (pv 2) pa_nil)))))
  (pss_cons (ps_if (pt_cmpR op_gt (pe_ix (ix_tupK K) (pv 1) (pv 2) (fun _ _ => rfl)) pe_int (nomark _)) (pss_one (ps_set (i := 3) sc_switched.nd rfl (Or.inl rfl) pe_int)) pss_nil)
  (pss_one (ps_ret (pe_op (op_catAK K) (pe_op (op_catAK K) (pe_slice (sl_tupAK K) (pv 1) po_none (po_some (pv 2))) (pe_tup (pa_cons (pv 3) pa_nil))) (pe_slice (sl_tupAK K) (pv 1) (po_some (pe_op op_add (pv 2) pe_int)) po_none)))))), ?_⟩
    walk_at "rd"
    refine ⟨p, n, ks, v, x, d, e, rfl, hn, hn60, hkl, ok, hd, he, kT, kS, fun s i ed hs ee hi H1 s1 => ?_⟩
    subst ed
    subst ee
    cases he
    cases hd with
    | tup ha hds =>
      rename_i a xs
      have := dt_intsS hds
      subst this
      have hsl := hs.len
      walk_at "rd"
      refine rd_intT (s1.tup ha) i rfl (by omega) ?_
      walk_at "rd"
      refine rifD (fun hp => ?_) (fun hp => ?_)
      · walk_at "rd"
        refine rd_slA (s1.tup ha) (fun q1 H2 s2 hq1 => ?_)
        walk_at "rd"
        refine ⟨by show 1 ≤ sizeLine; decide, fun q2 hq2 => genO hq2 fun H3 n3 => ?_⟩
        refine rd_catA (n3.s _ _ hq1) n3.at' (put_l1 (by omega)) (fun q3 H4 s4 hq3 => ?_)
        walk_at "rd"
        have s14 : Sm Z H H4 := ((s1.new s2).new n3.s).new s4
        refine rd_slA (s14.tup ha) (fun q4 H5 s5 hq4 => ?_)
        walk_at "rd"
        refine rd_catA (s5 _ _ hq3) hq4 (put_l2 (by omega)) (fun q5 H6 s6 hq5 => ?_)
        rw [put_eq (by omega)] at hq5
        refine kQ s i rfl hs rfl hi q5 H6 ((s14.new s5).new s6) ?_
        unfold swS
        rw [if_pos hp]
        exact hq5
      · walk_at "rd"
        refine rd_slA (s1.tup ha) (fun q1 H2 s2 hq1 => ?_)
        walk_at "rd"
        refine ⟨by show 1 ≤ sizeLine; decide, fun q2 hq2 => genO hq2 fun H3 n3 => ?_⟩
        refine rd_catA (n3.s _ _ hq1) n3.at' (put_l1 (by omega)) (fun q3 H4 s4 hq3 => ?_)
        walk_at "rd"
        have s14 : Sm Z H H4 := ((s1.new s2).new n3.s).new s4
        refine rd_slA (s14.tup ha) (fun q4 H5 s5 hq4 => ?_)
        walk_at "rd"
        refine rd_catA (s5 _ _ hq3) hq4 (put_l2 (by omega)) (fun q5 H6 s6 hq5 => ?_)
        rw [put_eq (by omega)] at hq5
        refine kQ s i rfl hs rfl hi q5 H6 ((s14.new s5).new s6) ?_
        unfold swS
        rw [if_neg hp]
        exact hq5
theorem ok_played (T : Bt mg) (c_is_int : Cal P w K mg base CX0 1 "is_int" (spIsInt K)) (c_len : CalL P w K mg base 1 C (spLen C)) (c_check_state : Cal P w K mg base (L2.CX P w) 5 "check_state" (spState Z C CT)) (c_switched : Cal P w K mg base (L2.CX P w) 7 "switched" (spSwitched Z C CT CS))
    (x_NoSteps : CalX P w K mg base 1 "NoSteps" CP "index" (spErr K CP "index")) {f : Addr} {fd : FuncData} (F : Fun K "played" "played" s_played f fd) :
    FnOk P w K mg base (L2.CX P w) 8 f fd ["network", "state", "steps"] (spPlayed Z C CT CP) := by
  refine F.okX sc_played (fun vs H Q E h => ?_) (fun cdv A outer s H vs Q E hr h => ?_)
  · obtain ⟨p, n, ks, v, x, d, e, rfl, _⟩ := h
    rfl
  · obtain ⟨p, n, ks, v, x, d, e, rfl, hn, hn60, hkl, ok, hd, he, kT, kL, kB, kQ⟩ := h
    refine ⟨_, (pss_cons (ps_expr (pe_cal hr (by decide) c_check_state (passE (takes_of rfl rfl rfl rfl)) rfl (pa_cons (pv 0) (pa_cons (pv 1) pa_nil))))
  (pss_cons (ps_if (pt_not (pt_val (pe_callB (call_isiK K) (by rfl) T.no_isinstance (by decide +kernel) (pa_cons (pv 2) (pa_cons (pe_ty "list" (by rfl) T.no_list (by decide +kernel)) pa_nil))))) (pss_one (ps_raiseOwn rfl hr (by decide) x_NoSteps (takes_of rfl rfl rfl rfl) rfl (pa_cons (pe_un un_neg pe_int) pa_nil))) pss_nil)
  (pss_cons (ps_for (passes_of rfl) rfl (pi_enumK K (by rfl) T.no_enumerate (pa_cons (pv 2) pa_nil)) (pg_tupK K 2 rfl (pgs_cons (pg_name (i := 3) sc_played.nd rfl (Or.inl rfl)) (pgs_cons (pg_name (i := 4) sc_played.nd rfl (Or.inl rfl)) pgs_nil))) (pss_cons (ps_if (PW.pt (pw_or (pt_not (pt_val (pe_cal hr (by decide) c_is_int pass0 rfl (pa_cons (pv 4) pa_nil)))) (pw_or1 (pt_not (pt_chain op_le op_lt pe_int (pv 4) (pe_lenOwn hr (by decide) c_len pass0 (by rfl) T.no_len (pa_cons (pv 0) pa_nil))))))) (pss_one (ps_raiseOwn rfl hr (by decide) x_NoSteps (takes_of rfl rfl rfl rfl) rfl (pa_cons (pv 3) pa_nil))) pss_nil)
  (pss_one (ps_set (i := 1) sc_played.nd rfl (Or.inl rfl) (pe_cal hr (by decide) c_switched (passE (takes_of rfl rfl rfl rfl)) rfl (pa_cons (pv 0) (pa_cons (pv 1) (pa_cons (pv 4) pa_nil))))))))
  (pss_one (ps_ret (pv 1)))))), ?_⟩
    walk_at "rd"
    refine ⟨p, n, ks, v, d, rfl, hn, hn60, hkl, ok, hd, kT, fun hdu H1 s1 => ?_⟩
    obtain ⟨s, rfl, hs⟩ := dueS_none ok hdu
    walk_at "rd"
    refine rd_isi (TyX.sm s1 he.ty) (kit_list (tyN_kind e)) ?_
    walk_at "rd"
    cases he with
    | lst hb hes =>
      rename_i b xs es
      refine L2.iteF ?_
      walk_at "rd"
      have hb1 := s1.lst hb
      refine ⟨b, _, rfl, SqL.of hb1, ?_⟩
      have hxl := hes.length
      cases hd with
      | tup ha hds =>
        rename_i a ys
        have := dt_intsS hds
        subst this
        refine for_w (T := Z) (wk_enum (SqL.of hb1)) (fun i σ' H' => ∃ (is : List Nat) (a' : Addr) (u3 u4 : Option V), σ' = [some (.ref p), some (.ref a'), some (.ref b), u3, u4] ∧ Sm Z H1 H' ∧ is.length = i ∧ (∀ j, j < i → es.getD j .none = .int ((is.getD j 0 : Nat) : Int)) ∧ (∀ i ∈ is, i < n) ∧
          H' a' = some (.tup ((playS ks s is).map V.int))) ⟨[], a, none, none, rfl, Sm.refl _, rfl, fun j hj => absurd hj (Nat.not_lt_zero j), fun _ m => absurd m List.not_mem_nil, s1.tup ha⟩
          (fun i σ' H' h => by obtain ⟨_, _, _, _, _, h, _⟩ := h; exact h) (fun i y σ1 H2 H3 hi hP s3 hit => ?_) (fun σ' H2 hP => ?_)
        · obtain ⟨is, a', u3, u4, rfl, s2, hil, hpre, hin, ha'⟩ := hP
          obtain ⟨tt, y, rfl, htt, hy⟩ := hit
          obtain ⟨d, hd, hyd⟩ := hes.get hy
          have hdi : es.getD i .none = d := by rw [List.getD_eq_getElem?_getD, hd]; rfl
          have s13 : Sm Z H1 H3 := s2.new s3
          have s03 : Sm Z H H3 := s1.trans s13
          have preOk : ∀ j, j < i → isSt n (es.getD j .none) = true := fun j hj => by
            rw [hpre j hj]
            exact isSt_nat (hin _ (by have : j < is.length := by omega
                                      simp [this]))
          have raised : isSt n d = false → ∀ d1 H4, NewO H3 d1 (.xd [("index", .int (i : Int))]) H4 → E (.ref CP) (some d1) H4 := fun hb d1 H4 n4 => kB hdu es i rfl (by omega) (by rw [hdi]; exact hb) preOk d1 H4 (s03.new n4.s) n4.at'
          refine rd_gtup2 (SqT.of htt) rfl ?_
          walk_at "rd"
          refine ⟨y, tyN d, rfl, TyX.sm s03 hyd.ty, tyN_kind d, ?_⟩
          walk_at "rd"
          cases hyd with
          | int z =>
            refine L2.iteF ?_
            walk_at "rd"
            by_cases z0 : 0 ≤ z
            · rw [decide_eq_true z0]
              refine L2.iteT ?_
              walk_at "rd"
              refine rd_len (hn.sm s03) (by omega) ?_
              walk_at "rd"
              refine rifN (fun c => ?_) (fun c => ?_)
              · walk_at "rd"
                exact raised (by show (decide (0 ≤ z) && decide (z < (n : Int))) = false; rw [decide_eq_false c, Bool.and_false])
              · walk_at "rd"
                have hst := hs.play ok is hin
                refine ⟨p, n, ks, _, _, .tuple ((playS ks s is).map PyData.int), .int z, rfl, hn.sm s03, hn60, hkl, ok, .tup (s3 _ _ ha') (DtAll.ints _), .int z, fun j e => (by rw [hst.due] at e; cases e), fun _ hb => ?_, fun s' i' e1 _ e2 hi' q H4 s4 hq => ?_⟩
                · have : isSt n (.int z) = true := by
                    show (decide (0 ≤ z) && decide (z < (n : Int))) = true
                    rw [decide_eq_true z0, decide_eq_true c]
                    rfl
                  rw [this] at hb
                  cases hb
                · have es' : s' = playS ks s is := by
                    have := congrArg (fun d => match d with | PyData.tuple ds => ds.map (fun d => match d with | PyData.int z => z | _ => 0) | _ => []) e1
                    simp only [List.map_map] at this
                    have id1 : ∀ l : List Int, l.map ((fun d => match d with | PyData.int z => z | _ => 0) ∘ PyData.int) = l := fun l => List.map_id l
                    rw [id1, id1] at this
                    exact this.symm
                  subst es'
                  cases e2
                  walk_at "rd"
                  refine ⟨is ++ [i'], q, _, _, rfl, s13.trans s4, by rw [List.length_append, hil]; rfl, fun j hj => ?_, fun k m => ?_, by rw [playS_snoc]; exact hq⟩
                  · by_cases e : j < i
                    · rw [hpre j e]
                      congr 2
                      rw [List.getD_eq_getElem?_getD, List.getD_eq_getElem?_getD, List.getElem?_append_left (by omega)]
                    · have : j = i := by omega
                      subst this
                      rw [hdi, List.getD_eq_getElem?_getD, List.getElem?_append_right (by omega), hil, Nat.sub_self]
                      rfl
                  · rcases List.mem_append.mp m with m | m
                    · exact hin k m
                    · rw [List.mem_singleton.mp m]
                      exact hi'
            · rw [decide_eq_false z0]
              refine L2.iteF ?_
              walk_at "rd"
              exact raised (by show (decide (0 ≤ z) && decide (z < (n : Int))) = false; rw [decide_eq_false z0, Bool.false_and])
          | non => refine L2.iteT (L2.iteT ?_); walk_at "rd"; exact raised rfl
          | bl b => refine L2.iteT (L2.iteT ?_); walk_at "rd"; exact raised rfl
          | str x => refine L2.iteT (L2.iteT ?_); walk_at "rd"; exact raised rfl
          | lst _ _ => refine L2.iteT (L2.iteT ?_); walk_at "rd"; exact raised rfl
          | tup _ _ => refine L2.iteT (L2.iteT ?_); walk_at "rd"; exact raised rfl
          | dic _ => refine L2.iteT (L2.iteT ?_); walk_at "rd"; exact raised rfl
        · obtain ⟨is, a', u3, u4, rfl, s2, hil, hpre, hin, ha'⟩ := hP
          walk_at "rd"
          refine kQ s is rfl hs ?_ hin a' H2 (s1.trans s2) ha'
          congr 1
          refine List.ext_getElem? fun j => ?_
          by_cases hj : j < es.length
          · have := hpre j (by omega)
            rw [List.getD_eq_getElem?_getD, List.getElem?_eq_getElem hj] at this
            simp only [Option.getD_some] at this
            rw [List.getElem?_eq_getElem hj, this, List.getElem?_map, List.getElem?_eq_getElem (by omega)]
            simp [show j < is.length by omega]
          · rw [List.getElem?_eq_none (by omega), List.getElem?_eq_none (by rw [List.length_map]; omega)]
    | non => refine L2.iteT ?_; walk_at "rd"; exact fun d1 H2 n2 => kL hdu (fun es e => by cases e) d1 H2 (s1.new n2.s) n2.at'
    | bl b => refine L2.iteT ?_; walk_at "rd"; exact fun d1 H2 n2 => kL hdu (fun es e => by cases e) d1 H2 (s1.new n2.s) n2.at'
    | int i => refine L2.iteT ?_; walk_at "rd"; exact fun d1 H2 n2 => kL hdu (fun es e => by cases e) d1 H2 (s1.new n2.s) n2.at'
    | str x => refine L2.iteT ?_; walk_at "rd"; exact fun d1 H2 n2 => kL hdu (fun es e => by cases e) d1 H2 (s1.new n2.s) n2.at'
    | tup _ _ => refine L2.iteT ?_; walk_at "rd"; exact fun d1 H2 n2 => kL hdu (fun es e => by cases e) d1 H2 (s1.new n2.s) n2.at'
    | dic _ => refine L2.iteT ?_; walk_at "rd"; exact fun d1 H2 n2 => kL hdu (fun es e => by cases e) d1 H2 (s1.new n2.s) n2.at'
end

/-- stations as data -/
def nI (is : List Nat) : List PyData := is.map fun i => .int ((i : Nat) : Int)
theorem nI_len (is : List Nat) : (nI is).length = is.length := by simp [nI]
theorem dt_nI {H : Hp} : ∀ {xs : List V} {is : List Nat}, DtAll H xs (nI is) → xs = is.map fun i => V.int ((i : Nat) : Int)
  | xs, [], h => by cases h; rfl
  | xs, z :: t, h => by
    cases h with
    | cons a r =>
      cases a
      rw [dt_nI r]
      rfl
theorem dt_isN {H : Hp} (is : List Nat) : DtAll H ((is.map fun i => ((i : Nat) : Int)).map V.int) (nI is) := by
  have := DtAll.ints (H := H) (is.map fun i => ((i : Nat) : Int))
  rwa [show (is.map fun i => ((i : Nat) : Int)).map PyData.int = nI is by unfold nI; rw [List.map_map]; rfl] at this
theorem okd_nI {k : Nat} (is : List Nat) : ∀ d ∈ nI is, Okd k d := fun d m => by
  obtain ⟨i, _, rfl⟩ := List.mem_map.mp m
  exact okd_int _
theorem nI_getD (is : List Nat) {j : Nat} (h : j < is.length) : (nI is).getD j .none = .int ((is.getD j 0 : Nat) : Int) := by simp [nI, h]
theorem eqv_int (a b : Int) : PyData.eqv (.int a) (.int b) = decide (a = b) := by
  show (a == b) = decide (a = b)
  by_cases h : a = b <;> simp [h]

abbrev s_NoChannel_init : Stmt := inClass (top 7) 0
theorem sc_NoChannel_init : FnScope ["self", "channel"] ["self", "channel"] (defScope s_NoChannel_init) := ⟨rfl, rfl, rfl, by decide +kernel, rfl, by decide +kernel, by decide +kernel⟩
theorem x_of_NoChannel {P : Program} {w : World} {K : PySem.W.Frag} {mg : Str → Option Value} {base : Heap} {B C : Addr} (ce : CeB K mg B) (D : ExcAt K mg "NoChannel" C "channel" "NoChannel.__init__" s_NoChannel_init) : CalX P w K mg base 1 "NoChannel" C "channel" (spErr K C "channel") := by
  refine D.cal (ps := ["self", "channel"]) (fun _ _ _ _ _ _ us hl => match us, hl with | [_, _], _ => rfl) fun f fd F => ?_
  refine F.ok sc_NoChannel_init (fun vs H Q E h => ?_) (fun cdv A outer s H vs Q E hr h => ?_)
  · obtain ⟨a, v, rfl, _⟩ := h
    rfl
  · obtain ⟨a, v, rfl, T, nf, ha, k⟩ := h
    refine ⟨_, (pss_cons (ps_expr (pe_ceinit ce rfl (pa_cons (pv 0) (pa_cons pe_str pa_nil))))
  (pss_one (ps_ost (pv 0) (pv 1) rfl))), ?_⟩
    exact ⟨_, rfl, a, C, _, rfl, (by show 1 ≤ 1000; decide), T, ha, _, rfl, _, rfl, a, C, rfl, T, nf, .inl ⟨ha, fun dx hdx hne => k dx hdx hne⟩⟩
abbrev s_NoSchedule_init : Stmt := inClass (top 9) 0
theorem sc_NoSchedule_init : FnScope ["self", "index"] ["self", "index"] (defScope s_NoSchedule_init) := ⟨rfl, rfl, rfl, by decide +kernel, rfl, by decide +kernel, by decide +kernel⟩
theorem x_of_NoSchedule {P : Program} {w : World} {K : PySem.W.Frag} {mg : Str → Option Value} {base : Heap} {B C : Addr} (ce : CeB K mg B) (D : ExcAt K mg "NoSchedule" C "index" "NoSchedule.__init__" s_NoSchedule_init) : CalX P w K mg base 1 "NoSchedule" C "index" (spErr K C "index") := by
  refine D.cal (ps := ["self", "index"]) (fun _ _ _ _ _ _ us hl => match us, hl with | [_, _], _ => rfl) fun f fd F => ?_
  refine F.ok sc_NoSchedule_init (fun vs H Q E h => ?_) (fun cdv A outer s H vs Q E hr h => ?_)
  · obtain ⟨a, v, rfl, _⟩ := h
    rfl
  · obtain ⟨a, v, rfl, T, nf, ha, k⟩ := h
    refine ⟨_, (pss_cons (ps_expr (pe_ceinit ce rfl (pa_cons (pv 0) (pa_cons pe_str pa_nil))))
  (pss_one (ps_ost (pv 0) (pv 1) rfl))), ?_⟩
    exact ⟨_, rfl, a, C, _, rfl, (by show 1 ≤ 1000; decide), T, ha, _, rfl, _, rfl, a, C, rfl, T, nf, .inl ⟨ha, fun dx hdx hne => k dx hdx hne⟩⟩
abbrev s_schedule : Stmt := top 31
theorem sc_schedule : FnScope ["network", "station", "channel", "lists", "one"] ["network", "station", "channel"] (defScope s_schedule) := ⟨rfl, rfl, rfl, by decide +kernel, rfl, by decide +kernel, by decide +kernel⟩
abbrev s_check_schedule : Stmt := top 32
theorem sc_check_schedule : FnScope ["network", "station", "channel", "steps", "state", "index", "one"] ["network", "station", "channel", "steps"] (defScope s_check_schedule) := ⟨rfl, rfl, rfl, by decide +kernel, rfl, by decide +kernel, by decide +kernel⟩
/-- the helpers of each station -/
def helpL (n : Nat) (ks : List Lk) (t : List Int) : List (List Int) := (List.range n).map fun (i : Nat) => grab (fun u => t.getD u.toNat 0) [] (keyOrd (fun u => t.getD u.toNat 0) (nbr ks (i : Int)))
theorem helpL_at {n i : Nat} (ks : List Lk) (t : List Int) (h : i < n) : (helpL n ks t)[i]? = some (grab (fun u => t.getD u.toNat 0) [] (keyOrd (fun u => t.getD u.toNat 0) (nbr ks (i : Int)))) := by simp [helpL, h]
theorem helpL_mem {n : Nat} {ks : List Lk} {t : List Int} (ok : ∀ e ∈ ks, OkLk n e) : ∀ row ∈ helpL n ks t, ∀ u ∈ row, 0 ≤ u ∧ u < (n : Int) := fun row m u mu => by
  obtain ⟨i, _, rfl⟩ := List.mem_map.mp m
  exact nbr_lt ok _ _ ((keyOrd_perm _ _).mem_iff.mp (grab_mem mu))
/-- a comprehension of lists of ints, each newly made -/
theorem lc_rowsF {T : List (Addr × Str)} {J : It} {n : Nat} {item : Nat → V → Hp → Prop} {H : Hp} {σ : L2.St} {g : TG} {te : TE} {vs : List Nat} {Qd : Addr → Hp → Prop} (w : Wk T J n item H) (hn : n < sizeLine) (r : Nat → List Int)
    (hs : ∀ i x H1 H2, i < n → Sm T H H1 → Same H1 H2 → item i x H2 → ∀ kt : VK, (∀ a H5, Sm T H1 H5 → Fr H1 a → H5 a = some (.lst ((r i).map V.int)) → kt (.ref a) H5) → g x (wipe σ vs) H2 fun σ2 H3 => wipe σ2 vs = wipe σ vs ∧ te σ2 H3 kt)
    (hd : ∀ D H', Fr H D → Sm T H H' → RowsAt H' D ((List.range n).map r) → Qd D H') :
    ∀ D, H D = none → ∃ W : Nat → Nat → Hp → Prop, (∃ m, W 0 m (upd H D (.lst []))) ∧ ∀ i m H, W i m H →
      (J.stop i H ∧ Qd D H) ∨ (J.go i H ∧ ∃ Nx : Hp → Prop, (∀ H', Nx H' → ∃ m', m' < m ∧ W (i + 1) m' H') ∧ ∀ x H', J.yld i H x H' → g x (wipe σ vs) H' fun σ2 H2 => wipe σ2 vs = wipe σ vs ∧ tYes σ2 H2 fun b H3 =>
        if b = true then te σ2 H3 fun y H4 => ∃ acc, H4 D = some (.lst acc) ∧ acc.length < sizeLine ∧ Nx (upd H4 D (.lst (acc ++ [y]))) else Nx H3) := by
  refine lc_w (T := T) w hn (fun D i acc H' => ∃ ps : List Addr, acc = ps.map V.ref ∧ D ∉ ps ∧ RowsP H' ps ((List.range i).map r))
    (fun D H' fD _ _ => ⟨[], rfl, List.not_mem_nil, .nil⟩)
    (fun D i acc Ha Hb h k => ?_) (fun D i acc x H4 H5 hi fD s4 hD hl hP s5 hit kt kf ht _ => ?_) (fun D acc H4 fD s4 hD hl hP => ?_)
  · obtain ⟨ps, e1, e2, e3⟩ := h
    exact ⟨ps, e1, e2, e3.keep e2 k⟩
  · obtain ⟨ps, e1, e2, e3⟩ := hP
    refine hs i x H4 H5 hi s4 s5 hit kt fun a H6 s6 fa ha => ht _ H6 s6 ⟨ps ++ [a], by rw [e1, List.map_append]; rfl, fun m => ?_, ?_⟩
    · rcases List.mem_append.mp m with m | m
      · exact e2 m
      · obtain ⟨qs, e⟩ := fa _ (List.mem_singleton.mp m ▸ hD)
        cases e
    · rw [List.range_succ, List.map_append]
      exact paired_app (e3.sm s6) (.cons ha .nil)
  · obtain ⟨ps, e1, e2, e3⟩ := hP
    exact hd D H4 fD s4 ⟨ps, by rw [hD, e1], e3⟩
def spSched (Z : List (Addr × Str)) (C : Addr) : Sp := fun vs H Q _ => ∃ (p : Addr) (n : Nat) (ks : List Lk) (i c : Nat), vs = [.ref p, .int (i : Int), .int (c : Int)] ∧ NetAt C H p n ks ∧ n ≤ 60 ∧ ks.length ≤ 100000 ∧ OkLks n ks ∧ isForest n ks = true ∧ i < n ∧ 1 ≤ c ∧ c ≤ 16 ∧ LamX.Tabs Z H ∧
  (∀ t, GT n ks t → (c : Int) ≤ t.getD i 0) ∧ ∀ (t : List Int) (q : Addr) (H' : Hp), GT n ks t → Sm Z H H' → Fr H q → H' q = some (.lst ((setP (helpL n ks t) c c (i : Int)).map V.int)) → Q (.ref q) H'
section
variable {P : Program} {w : World} {K : PySem.W.Frag} {mg : Str → Option Value} {base : Heap} {Z : List (Addr × Str)} {C CS CR CC CD CT : Addr}
theorem rd_stat {p : Addr} {n : Nat} {ks : List Lk} {i : Nat} {H : Hp} {Q : VK} {E : XK} (hn : NetAt C H p n ks) (hn60 : n ≤ 60) (hi : i < n) (h : Q .non H) : spStation Z C CS [.ref p, .int (i : Int)] H Q E :=
  ⟨p, n, ks, _, .int (i : Int), rfl, hn, hn60, .int _, fun _ => h, fun hb => by rw [isSt_nat hi] at hb; cases hb⟩
theorem ok_schedule (T : Bt mg) (c_is_int : Cal P w K mg base CX0 1 "is_int" (spIsInt K)) (c_len : CalL P w K mg base 1 C (spLen C)) (c_Network_check_station : CalM P w K mg base (L2.CX P w) 3 C "check_station" (spStation Z C CS)) (c_check_forest : Cal P w K mg base (L2.CX P w) 6 "check_forest" (spChkF Z C CR))
    (c_greatest_channels : Cal P w K mg base CX0 3 "greatest_channels" (spGreat Z C)) (c_helpers : Cal P w K mg base (L2.CX P w) 4 "helpers" (spHelp Z C CS)) (c_setting : Cal P w K mg base CX0 17 "setting" (fun vs H Q E => ∃ i, i < 17 ∧ spSet Z i vs H Q E)) (x_NoChannel : CalX P w K mg base 1 "NoChannel" CC "channel" (spErr K CC "channel"))
    {f : Addr} {fd : FuncData} (F : Fun K "schedule" "schedule" s_schedule f fd) : FnOk P w K mg base (L2.CX P w) 18 f fd ["network", "station", "channel"] (spSched Z C) := by
  refine F.okX sc_schedule (fun vs H Q E h => ?_) (fun cdv A outer s H vs Q E hr h => ?_)
  · obtain ⟨p, n, ks, i, c, rfl, _⟩ := h
    rfl
  · obtain ⟨p, n, ks, i, c, rfl, hn, hn60, hkl, hk, hfo, hi, hc1, hc16, hT, hct, k⟩ := h
    refine ⟨_, (pss_cons (ps_expr (pe_calM (pv 0) hr (by decide) c_Network_check_station (passE (takes_of rfl rfl rfl rfl)) (pa_cons (pv 1) pa_nil)))
  (pss_cons (ps_expr (pe_cal hr (by decide) c_check_forest (passE (takes_of rfl rfl rfl rfl)) rfl (pa_cons (pv 0) pa_nil)))
  (pss_cons (ps_if (PW.pt (pw_or (pt_not (pt_val (pe_cal hr (by decide) c_is_int pass0 rfl (pa_cons (pv 2) pa_nil)))) (pw_or1 (pt_not (pt_chain op_le op_le pe_int (pv 2) (pe_ix (ix_tupK K) (pe_cal hr (by decide) c_greatest_channels pass0 rfl (pa_cons (pv 0) pa_nil)) (pv 1) (fun _ _ => rfl))))))) (pss_one (ps_raiseOwn rfl hr (by decide) x_NoChannel (takes_of rfl rfl rfl rfl) rfl (pa_cons (pv 2) pa_nil))) pss_nil)
  (pss_cons (ps_setLc (i := 3) (own := [("one", 4)]) (g := gName 4) rfl sc_schedule.nd rfl rfl (sw_true rfl rfl rfl (by decide +kernel)) (pi_range1 (by rfl) T.no_range (pa_cons (pe_lenOwn hr (by decide) c_len pass0 (by rfl) T.no_len (pa_cons (pv 0) pa_nil)) pa_nil)) (blkOk_by (by kernel_rfl)) (fun _ _ _ _ _ => (pg_name (i := 4) sc_schedule.nd rfl (Or.inl rfl))) (fun _ _ _ _ _ => pts_nil) (fun _ _ _ _ _ => (pe_cal hr (by decide) c_helpers passL rfl (pa_cons (pv 0) (pa_cons (pv 4) pa_nil)))))
  (pss_one (ps_ret (pe_cal hr (by decide) c_setting pass0 rfl (pa_cons (pv 3) (pa_cons (pv 1) (pa_cons (pv 2) pa_nil)))))))))), ?_⟩
    walk_at "rd"
    refine rd_netM hn ?_
    walk_at "rd"
    refine rd_stat hn hn60 hi ?_
    walk_at "rd"
    refine ⟨p, n, ks, rfl, hn, hn60, hkl, hk, fun _ H1 s1 => ?_, fun hf => by rw [hfo] at hf; cases hf⟩
    walk_at "rd"
    refine ⟨_, "int", rfl, .base (.int _), by decide, ?_⟩
    walk_at "rd"
    refine L2.iteF ?_
    walk_at "rd"
    rw [decide_eq_true (show (1 : Int) ≤ (c : Int) by omega)]
    walk_at "rd"
    refine ⟨p, n, ks, rfl, hn.sm s1, hn60, hkl, hk.1, fun t qt H2 g s2 hqt => ?_⟩
    walk_at "rd"
    refine rd_intT hqt i rfl (by rw [g.1]; exact hi) ?_
    walk_at "rd"
    rw [decide_eq_true (hct t g)]
    walk_at "rd"
    have s02 : Sm Z H H2 := s1.trans s2
    refine rd_len (hn.sm s02) (by omega) ?_
    refine ⟨(n : Int), rfl, by omega, by omega, ?_⟩
    refine lc_rowsF (T := Z) (wk_range 0 _) (by rw [sizeLine_eq]; omega) (fun j => grab (fun u => t.getD u.toNat 0) [] (keyOrd (fun u => t.getD u.toNat 0) (nbr ks (j : Int)))) (fun j x Ha Hb hj sa sb it kt ht => ?_) (fun D Ha fD sa hD => ?_)
    · refine ⟨rfl, ?_⟩
      rw [Int.toNat_natCast] at hj
      have it' : x = .int (0 + (j : Int)) := it
      rw [Int.zero_add] at it'
      subst it'
      have s0b : Sm Z H Hb := s02.trans (sa.new sb)
      walk_at "rd"
      refine ⟨p, n, ks, .int (j : Int), .int (j : Int), t, rfl, hn.sm s0b, hn60, hkl, hk.1, .int _, g, s0b.2 hT, fun j' e hj' q Hc sc fc hq => ?_, fun hb => by rw [isSt_nat hj] at hb; cases hb⟩
      have e' : j' = j := by
        have := PyData.int.inj e
        omega
      subst e'
      exact ht q Hc ((Sm.of sb).trans sc) ((Sm.of (T := Z) sb).fr fc) hq
    · rw [Int.toNat_natCast] at hD
      have hD' : RowsAt Ha D (helpL n ks t) := hD
      have s0a := s02.trans sa
      walk_at "rd"
      refine ⟨c, by omega, D, helpL n ks t, i, rfl, hD', by simp [helpL, hi], fun row m u mu => by rw [show (helpL n ks t).length = n by simp [helpL]]; exact helpL_mem hk.1 row m u mu, hc1, hc16, fun q H3 s3 f3 hq => ?_⟩
      exact k t q H3 g (s0a.trans s3) (s0a.fr f3) hq
end
theorem ints_inj' {a b : List Int} (h : a.map PyData.int = b.map PyData.int) : a = b := (List.map_inj_right (fun a b h => PyData.int.inj h)).mp h
section
variable {P : Program} {w : World} {K : PySem.W.Frag} {mg : Str → Option Value} {base : Heap} {Z : List (Addr × Str)} {C CS CR CC CD CT : Addr}
/-- what check_schedule finds -/
def chkD (n : Nat) (ks : List Lk) (i : Nat) (c : Int) (es : List PyData) : Option Int := match (List.range es.length).find? (fun j => !isSt n (es.getD j .none)) with
  | some j => some ((j : Nat) : Int)
  | none => if (playS ks (List.replicate n 0) (es.map fun e => match e with | .int z => z.toNat | _ => 0)).getD i 0 = c then none else some ((es.length : Nat) : Int)
theorem chkD_bad {n : Nat} {ks : List Lk} {i j : Nat} {c : Int} {es : List PyData} (hj : j < es.length) (hb : isSt n (es.getD j .none) = false) (hall : ∀ m, m < j → isSt n (es.getD m .none) = true) : chkD n ks i c es = some ((j : Nat) : Int) := by
  have : (List.range es.length).find? (fun j => !isSt n (es.getD j .none)) = some j := by
    rw [List.find?_range_eq_some]
    exact ⟨by rw [hb]; rfl, List.mem_range.mpr hj, fun m hm => by rw [hall m hm]; rfl⟩
  unfold chkD
  rw [this]
theorem chkD_ok {n : Nat} {ks : List Lk} {i : Nat} {c : Int} {js : List Nat} (hin : ∀ j ∈ js, j < n) : chkD n ks i c (nI js) = if (playS ks (List.replicate n 0) js).getD i 0 = c then none else some ((js.length : Nat) : Int) := by
  have : (List.range (nI js).length).find? (fun j => !isSt n ((nI js).getD j .none)) = none := by
    rw [List.find?_eq_none]
    intro j hj
    have hj := List.mem_range.mp hj
    rw [nI_len] at hj
    rw [nI_getD js hj, isSt_nat (hin _ (by rw [List.getD_eq_getElem?_getD, List.getElem?_eq_getElem hj]; exact List.getElem_mem hj))]
    decide
  unfold chkD
  rw [this]
  have e : (nI js).map (fun e => match e with | .int z => z.toNat | _ => 0) = js := by
    unfold nI
    rw [List.map_map]
    exact List.map_id js
  rw [e, nI_len]
def spChkS (Z : List (Addr × Str)) (C CS CC CD : Addr) : Sp := fun vs H Q E => ∃ (p : Addr) (n : Nat) (ks : List Lk) (vs' vc vp : V) (ds dc dp : PyData), vs = [.ref p, vs', vc, vp] ∧ NetAt C H p n ks ∧ 1 ≤ n ∧ n ≤ 60 ∧ ks.length ≤ 100000 ∧ (∀ e ∈ ks, OkLk n e) ∧ Dt H vs' ds ∧ Dt H vc dc ∧ Dt H vp dp ∧
  (isSt n ds = false → RaisesV Z E CS "station" H vs') ∧
  (∀ i : Nat, ds = .int (i : Int) → i < n → (∀ z, dc = .int z → ¬ 1 ≤ z) → RaisesV Z E CC "channel" H vc) ∧
  (∀ (i : Nat) (c : Int), ds = .int (i : Int) → i < n → dc = .int c → 1 ≤ c → (∀ es, dp ≠ .list es) → RaisesV Z E CD "index" H (.int (-1))) ∧
  (∀ (i : Nat) (c : Int) (es : List PyData), ds = .int (i : Int) → i < n → dc = .int c → 1 ≤ c → dp = .list es → (∀ m, chkD n ks i c es = some m → RaisesV Z E CD "index" H (.int m)) ∧ (chkD n ks i c es = none → ∀ H', Sm Z H H' → Q (.int ((es.length : Nat) : Int)) H'))
theorem ok_chkS (T : Bt mg) (c_is_int : Cal P w K mg base CX0 1 "is_int" (spIsInt K)) (c_len : CalL P w K mg base 1 C (spLen C)) (c_Network_check_station : CalM P w K mg base (L2.CX P w) 3 C "check_station" (spStation Z C CS)) (c_all_off : Cal P w K mg base CX0 3 "all_off" (spOff Z C)) (c_switched : Cal P w K mg base (L2.CX P w) 7 "switched" (spSwitched Z C CT CS))
    (x_NoChannel : CalX P w K mg base 1 "NoChannel" CC "channel" (spErr K CC "channel")) (x_NoSchedule : CalX P w K mg base 1 "NoSchedule" CD "index" (spErr K CD "index"))
    {f : Addr} {fd : FuncData} (F : Fun K "check_schedule" "check_schedule" s_check_schedule f fd) : FnOk P w K mg base (L2.CX P w) 8 f fd ["network", "station", "channel", "steps"] (spChkS Z C CS CC CD) := by
  refine F.okX sc_check_schedule (fun vs H Q E h => ?_) (fun cdv A outer s H vs Q E hr h => ?_)
  · obtain ⟨p, n, ks, vs', vc, vp, ds, dc, dp, rfl, _⟩ := h
    rfl
  · obtain ⟨p, n, ks, vs', vc, vp, ds, dc, dp, rfl, hn, hn1, hn60, hkl, ok, hds, hdc, hdp, k1, k2, k3, k4⟩ := h
    refine ⟨_, (pss_cons (ps_expr (pe_calM (pv 0) hr (by decide) c_Network_check_station (passE (takes_of rfl rfl rfl rfl)) (pa_cons (pv 1) pa_nil)))
  (pss_cons (ps_if (PW.pt (pw_or (pt_not (pt_val (pe_cal hr (by decide) c_is_int pass0 rfl (pa_cons (pv 2) pa_nil)))) (pw_or1 (pt_cmpR op_lt (pv 2) pe_int (nomark _))))) (pss_one (ps_raiseOwn rfl hr (by decide) x_NoChannel (takes_of rfl rfl rfl rfl) rfl (pa_cons (pv 2) pa_nil))) pss_nil)
  (pss_cons (ps_if (pt_not (pt_val (pe_callB (call_isiK K) (by rfl) T.no_isinstance (by decide +kernel) (pa_cons (pv 3) (pa_cons (pe_ty "list" (by rfl) T.no_list (by decide +kernel)) pa_nil))))) (pss_one (ps_raiseOwn rfl hr (by decide) x_NoSchedule (takes_of rfl rfl rfl rfl) rfl (pa_cons (pe_un un_neg pe_int) pa_nil))) pss_nil)
  (pss_cons (ps_set (i := 4) sc_check_schedule.nd rfl (Or.inl rfl) (pe_cal hr (by decide) c_all_off pass0 rfl (pa_cons (pv 0) pa_nil)))
  (pss_cons (ps_for (passes_of rfl) rfl (pi_enumK K (by rfl) T.no_enumerate (pa_cons (pv 3) pa_nil)) (pg_tupK K 2 rfl (pgs_cons (pg_name (i := 5) sc_check_schedule.nd rfl (Or.inl rfl)) (pgs_cons (pg_name (i := 6) sc_check_schedule.nd rfl (Or.inl rfl)) pgs_nil))) (pss_cons (ps_if (PW.pt (pw_or (pt_not (pt_val (pe_cal hr (by decide) c_is_int pass0 rfl (pa_cons (pv 6) pa_nil)))) (pw_or1 (pt_not (pt_chain op_le op_lt pe_int (pv 6) (pe_lenOwn hr (by decide) c_len pass0 (by rfl) T.no_len (pa_cons (pv 0) pa_nil))))))) (pss_one (ps_raiseOwn rfl hr (by decide) x_NoSchedule (takes_of rfl rfl rfl rfl) rfl (pa_cons (pv 5) pa_nil))) pss_nil)
  (pss_one (ps_set (i := 4) sc_check_schedule.nd rfl (Or.inl rfl) (pe_cal hr (by decide) c_switched (passE (takes_of rfl rfl rfl rfl)) rfl (pa_cons (pv 0) (pa_cons (pv 4) (pa_cons (pv 6) pa_nil))))))))
  (pss_cons (ps_if (pt_cmpR (op_neX K (hu65 hr)) (pe_ix (ix_tupK K) (pv 4) (pv 1) (fun _ _ => rfl)) (pv 2) (nomark _)) (pss_one (ps_raiseOwn rfl hr (by decide) x_NoSchedule (takes_of rfl rfl rfl rfl) rfl (pa_cons (pe_callB (call_lenK K) (by rfl) T.no_len (by decide +kernel) (pa_cons (pv 3) pa_nil)) pa_nil))) pss_nil)
  (pss_one (ps_ret (pe_callB (call_lenK K) (by rfl) T.no_len (by decide +kernel) (pa_cons (pv 3) pa_nil)))))))))), ?_⟩
    walk_at "rd"
    refine rd_netM hn ?_
    walk_at "rd"
    refine ⟨p, n, ks, vs', ds, rfl, hn, hn60, hds, fun hst => ?_, k1⟩
    obtain ⟨i, rfl, hi⟩ := isSt_int hst
    cases hds
    walk_at "rd"
    refine ⟨vc, tyN dc, rfl, hdc.ty, tyN_kind dc, ?_⟩
    walk_at "rd"
    have bad : ∀ {v : V}, v = vc → (∀ z, dc = .int z → ¬ 1 ≤ z) → ∀ d1 H2, NewO H d1 (.xd [("channel", v)]) H2 → E (.ref CC) (some d1) H2 := fun e hz d1 H2 n2 => k2 i rfl hi hz d1 H2 (Sm.of n2.s) (e ▸ n2.at')
    cases hdc with
    | int c =>
      refine L2.iteF ?_
      walk_at "rd"
      refine rifD (fun hc => ?_) (fun hc => ?_)
      · walk_at "rd"
        exact bad rfl fun z e => by cases e; omega
      have hc1 : 1 ≤ c := by omega
      walk_at "rd"
      refine rd_isi hdp.ty (kit_list (tyN_kind dp)) ?_
      walk_at "rd"
      have badS : (∀ es, dp ≠ .list es) → ∀ d1 H2, NewO H d1 (.xd [("index", .int (-1))]) H2 → E (.ref CD) (some d1) H2 := fun hz d1 H2 n2 => k3 i c rfl hi rfl hc1 hz d1 H2 (Sm.of n2.s) n2.at'
      cases hdp with
      | lst hb hes =>
        rename_i b xs es
        refine L2.iteF ?_
        walk_at "rd"
        obtain ⟨k5, k6⟩ := k4 i c es rfl hi rfl hc1 rfl
        refine ⟨p, n, ks, rfl, hn, hn1, hn60, fun q H1 s1 hq => ?_⟩
        walk_at "rd"
        refine ⟨b, _, rfl, SqL.of (s1.lst hb), ?_⟩
        have hxl := hes.length
        refine for_w (T := Z) (wk_enum (SqL.of (s1.lst hb))) (fun j σ' H' => ∃ (q : Addr) (js : List Nat) (u5 u6 : Option V), σ' = [some (.ref p), some (.int (i : Int)), some (.int c), some (.ref b), some (.ref q), u5, u6] ∧ Sm Z H1 H' ∧ H' q = some (.tup ((playS ks (List.replicate n 0) js).map V.int)) ∧ js.length = j ∧ es.take j = nI js ∧ ∀ m ∈ js, m < n)
          ⟨q, [], none, none, rfl, Sm.refl _, hq, rfl, rfl, fun _ m => absurd m List.not_mem_nil⟩ (fun j σ' H' h => by obtain ⟨_, _, _, _, _, h, _⟩ := h; exact h) (fun j y σ1 H2 H3 hj hP s3 hit => ?_) (fun σ' H2 hP => ?_)
        · obtain ⟨q, js, u5, u6, rfl, s2, hq, hjl, hpre, hin⟩ := hP
          obtain ⟨tt, y, rfl, htt, hy⟩ := hit
          obtain ⟨d, hd, hyd⟩ := hes.get hy
          have s03 : Sm Z H H3 := s1.trans (s2.new s3)
          have hyd3 := hyd.sm s03
          rw [hxl] at hj
          have edj : es.getD j .none = d := by rw [List.getD_eq_getElem?_getD, hd]; rfl
          have hpast : ∀ m, m < j → isSt n (es.getD m .none) = true := fun m hm => by
            have e : es.getD m .none = (es.take j).getD m .none := by rw [List.getD_eq_getElem?_getD, List.getD_eq_getElem?_getD, List.getElem?_take, if_pos hm]
            rw [e, hpre, nI_getD js (by omega), isSt_nat (hin _ (by rw [List.getD_eq_getElem?_getD, List.getElem?_eq_getElem (by omega)]; exact List.getElem_mem _))]
          have raised : isSt n d = false → ∀ d1 H4, NewO H3 d1 (.xd [("index", .int (j : Int))]) H4 → E (.ref CD) (some d1) H4 := fun hbd d1 H4 n4 =>
            k5 _ (chkD_bad hj (by rw [edj]; exact hbd) hpast) d1 H4 (s03.new n4.s) n4.at'
          refine rd_gtup2 (SqT.of htt) rfl ?_
          walk_at "rd"
          refine ⟨y, tyN d, rfl, hyd3.ty, tyN_kind d, ?_⟩
          walk_at "rd"
          cases hyd3 with
          | int z =>
            refine L2.iteF ?_
            walk_at "rd"
            by_cases z0 : 0 ≤ z
            · rw [decide_eq_true z0]
              refine L2.iteT ?_
              walk_at "rd"
              refine rd_len (hn.sm s03) (by omega) ?_
              walk_at "rd"
              refine rifN (fun c2 => ?_) (fun c2 => ?_)
              · walk_at "rd"
                exact raised (by show (decide (0 ≤ z) && decide (z < (n : Int))) = false; rw [decide_eq_false c2, Bool.and_false])
              · walk_at "rd"
                obtain ⟨zn, rfl⟩ : ∃ zn : Nat, z = (zn : Int) := ⟨z.toNat, by omega⟩
                have hzn : zn < n := by omega
                refine ⟨p, n, ks, .ref q, .int (zn : Int), .tuple ((playS ks (List.replicate n 0) js).map PyData.int), .int (zn : Int), rfl, hn.sm s03, hn60, hkl, ok, .tup (s3 _ _ hq) (DtAll.ints _), .int _, fun j' e => (by rw [(StOk.play ok js (StOk.zero n ks) hin).due] at e; cases e), fun _ hb2 => (by rw [isSt_nat hzn] at hb2; cases hb2), fun s' i' e1 _ e2 _ q2 H4 s4 hq2 => ?_⟩
                have e3 : s' = playS ks (List.replicate n 0) js := (ints_inj' (PyData.tuple.inj e1)).symm
                have e4 : i' = zn := by
                  have := PyData.int.inj e2
                  omega
                subst e3
                subst e4
                walk_at "rd"
                refine ⟨q2, js ++ [i'], _, _, rfl, (s2.new s3).trans s4, by rw [playS_snoc]; exact hq2, by rw [List.length_append, hjl]; rfl, ?_, fun m mm => ?_⟩
                · rw [List.take_add_one, hpre, hd]
                  unfold nI
                  rw [List.map_append]
                  rfl
                · rcases List.mem_append.mp mm with mm | mm
                  · exact hin m mm
                  · rw [List.mem_singleton.mp mm]
                    exact hzn
            · rw [decide_eq_false z0]
              refine L2.iteF ?_
              walk_at "rd"
              exact raised (by show (decide (0 ≤ z) && decide (z < (n : Int))) = false; rw [decide_eq_false z0, Bool.false_and])
          | non => refine L2.iteT (L2.iteT ?_); walk_at "rd"; exact raised rfl
          | bl b => refine L2.iteT (L2.iteT ?_); walk_at "rd"; exact raised rfl
          | str x => refine L2.iteT (L2.iteT ?_); walk_at "rd"; exact raised rfl
          | lst _ _ => refine L2.iteT (L2.iteT ?_); walk_at "rd"; exact raised rfl
          | tup _ _ => refine L2.iteT (L2.iteT ?_); walk_at "rd"; exact raised rfl
          | dic _ => refine L2.iteT (L2.iteT ?_); walk_at "rd"; exact raised rfl
        · obtain ⟨q, js, u5, u6, rfl, s2, hq, hjl, hpre, hin⟩ := hP
          rw [hxl, List.take_length] at hpre
          subst hpre
          rw [chkD_ok hin] at k5 k6
          have s02 := s1.trans s2
          have hpl : (playS ks (List.replicate n 0) js).length = n := (StOk.play ok js (StOk.zero n ks) hin).len
          walk_at "rd"
          refine rd_intT hq i rfl (by omega) ?_
          walk_at "rd"
          generalize (playS ks (List.replicate n 0) js).getD i 0 = pv at k5 k6 ⊢
          refine rd_neX (eqX_dt (.int _) (.int _) (okd_int _) (okd_int _)) ?_
          rw [eqv_int]
          walk_at "rd"
          refine rifN (fun c2 => ?_) (fun c2 => ?_)
          · walk_at "rd"
            refine rd_lenL (SqL.of (s02.lst hb)) ?_
            walk_at "rd"
            intro d1 H3 n3
            refine k5 _ (by rw [if_neg c2]) d1 H3 (s02.new n3.s) ?_
            rw [n3.at', hxl, nI_len]
          · walk_at "rd"
            refine rd_lenL (SqL.of (s02.lst hb)) ?_
            rw [hxl]
            exact k6 (by rw [if_pos c2]) H2 s02
      | non => refine L2.iteT ?_; walk_at "rd"; exact badS fun es e => by cases e
      | bl b => refine L2.iteT ?_; walk_at "rd"; exact badS fun es e => by cases e
      | int i => refine L2.iteT ?_; walk_at "rd"; exact badS fun es e => by cases e
      | str x => refine L2.iteT ?_; walk_at "rd"; exact badS fun es e => by cases e
      | tup _ _ => refine L2.iteT ?_; walk_at "rd"; exact badS fun es e => by cases e
      | dic _ => refine L2.iteT ?_; walk_at "rd"; exact badS fun es e => by cases e
    | non => refine L2.iteT (L2.iteT ?_); walk_at "rd"; exact bad rfl fun z e => by cases e
    | bl b => refine L2.iteT (L2.iteT ?_); walk_at "rd"; exact bad rfl fun z e => by cases e
    | str x => refine L2.iteT (L2.iteT ?_); walk_at "rd"; exact bad rfl fun z e => by cases e
    | lst _ _ => refine L2.iteT (L2.iteT ?_); walk_at "rd"; exact bad rfl fun z e => by cases e
    | tup _ _ => refine L2.iteT (L2.iteT ?_); walk_at "rd"; exact bad rfl fun z e => by cases e
    | dic _ => refine L2.iteT (L2.iteT ?_); walk_at "rd"; exact bad rfl fun z e => by cases e
end

abbrev s_law_links : Stmt := top 35
theorem sc_law_links : FnScope ["_law_well", "_law_many", "_law_extra", "_law_kind", "_law_left", "_law_order", "_law_found", "_law_k", "_law_some", "_law_low", "_law_high"] ["_law_well", "_law_many", "_law_extra"] (defScope s_law_links) := ⟨rfl, rfl, rfl, by decide +kernel, rfl, by decide +kernel, by decide +kernel⟩
/-- links between the k first of an order, grown one by one -/
inductive Grown (ord : List Int) : Nat → List Lk → Prop
  | nil : Grown ord 1 []
  | skip {k : Nat} {es : List Lk} : Grown ord k es → Grown ord (k + 1) es
  | link {k : Nat} {es : List Lk} (j : Nat) (e : Lk) : Grown ord k es → j < k → (e = (ord.getD k 0, ord.getD j 0) ∨ e = (ord.getD j 0, ord.getD k 0)) → e.1 ≤ e.2 → Grown ord (k + 1) (es ++ [e])
theorem grown_mem {ord : List Int} {k : Nat} {es : List Lk} (g : Grown ord k es) : ∀ e ∈ es, ∃ i j : Nat, i < k ∧ j < i ∧ (e = (ord.getD i 0, ord.getD j 0) ∨ e = (ord.getD j 0, ord.getD i 0)) ∧ e.1 ≤ e.2 := by
  induction g with
  | nil => exact fun e m => absurd m List.not_mem_nil
  | skip _ ih => exact fun e m => let ⟨i, j, h1, h2, h3⟩ := ih e m; ⟨i, j, by omega, h2, h3⟩
  | link j e _ hj he hle ih =>
    intro e' m
    rcases List.mem_append.mp m with m | m
    · obtain ⟨i, j, h1, h2, h3⟩ := ih e' m
      exact ⟨i, j, by omega, h2, h3⟩
    · rw [List.mem_singleton] at m
      subst m
      exact ⟨_, j, Nat.lt_succ_self _, hj, he, hle⟩
theorem grown_len {ord : List Int} {k : Nat} {es : List Lk} (g : Grown ord k es) : es.length + 1 ≤ k := by
  induction g with
  | nil => exact Nat.le_refl _
  | skip _ ih => omega
  | link j e _ _ _ _ ih =>
    rw [List.length_append]
    simp
    omega
theorem okd_lk {k : Nat} (e : Lk) : Okd (k + 1) (lkD e) := okd_tup.mpr fun d hd => by
  simp only [List.mem_cons, List.not_mem_nil, or_false] at hd
  rcases hd with rfl | rfl <;> exact okd_int _
theorem okd_lks {k : Nat} (l : List Lk) : ∀ e ∈ l.map lkD, Okd (k + 1) e := fun e m => by
  obtain ⟨y, _, rfl⟩ := List.mem_map.mp m
  exact okd_lk y
theorem ord_get {n : Nat} {ord : List Int} (hp : ord.Perm ((List.range n).map fun (i : Nat) => (i : Int))) : ord.length = n ∧ (∀ i, i < n → 0 ≤ ord.getD i 0 ∧ ord.getD i 0 < n) ∧ ∀ i j, i < n → j < n → ord.getD i 0 = ord.getD j 0 → i = j := by
  have hl : ord.length = n := by simpa using hp.length_eq
  have nd : ord.Nodup := hp.nodup_iff.mpr (List.pairwise_map.mpr (List.nodup_range.imp fun h z => h (by omega)))
  refine ⟨hl, fun i hi => ?_, fun i j hi hj e => ?_⟩
  · have m : ord.getD i 0 ∈ ord := by simp [hl, hi]
    obtain ⟨j, hj, e⟩ := List.mem_map.mp (hp.mem_iff.mp m)
    have := List.mem_range.mp hj
    omega
  · have e' : ord[i]? = ord[j]? := by
      rw [List.getElem?_eq_getElem (by omega), List.getElem?_eq_getElem (by omega)]
      simpa [hl, hi, hj] using e
    exact (List.getElem?_inj (by omega) nd).mp e'
theorem grown_ok {n : Nat} {ord : List Int} (hp : ord.Perm ((List.range n).map fun (i : Nat) => (i : Int))) {k : Nat} {es : List Lk} (g : Grown ord k es) (hk : k ≤ n) : OkLks n es := by
  obtain ⟨hl, hb, hi⟩ := ord_get hp
  constructor
  · intro e m
    obtain ⟨i, j, h1, h2, h3, h4⟩ := grown_mem g e m
    have b1 := hb i (by omega)
    have b2 := hb j (by omega)
    have ne : ord.getD i 0 ≠ ord.getD j 0 := fun z => by have := hi i j (by omega) (by omega) z; omega
    rcases h3 with rfl | rfl
    · exact ⟨b1.1, by simp only at *; omega, b2.2⟩
    · exact ⟨b2.1, by simp only at *; omega, b1.2⟩
  · induction g with
    | nil => exact List.nodup_nil
    | skip _ ih => exact ih (by omega)
    | @link k es j e g hj he hle ih =>
      refine List.nodup_append.mpr ⟨ih (by omega), by simp, fun a ha b hb' z => ?_⟩
      rw [List.mem_singleton] at hb'
      subst hb'
      subst z
      obtain ⟨i', j', h1, h2, h3, _⟩ := grown_mem g a ha
      have c1 : ∀ u, u < k → ord.getD k 0 ≠ ord.getD u 0 := fun u hu z => by have := hi k u (by omega) (by omega) z; omega
      rcases he with rfl | rfl
      · rcases h3 with h3 | h3
        · exact c1 i' h1 (congrArg Prod.fst h3)
        · exact c1 j' (by omega) (congrArg Prod.fst h3)
      · rcases h3 with h3 | h3
        · exact c1 j' (by omega) (congrArg Prod.snd h3)
        · exact c1 i' h1 (congrArg Prod.snd h3)
def spLinks (Z : List (Addr × Str)) : Sp := fun vs H Q _ => ∃ (a : Addr) (n x : Nat), vs = [.ref a, .int n, .int x] ∧ H a = some (WellO a) ∧ 1 ≤ n ∧ n ≤ 60 ∧ x ≤ 100 ∧
  ∀ (L : Addr) (ord : List Int) (es xs : List Lk) (H' : Hp), Sm Z H H' → Fr H L → PairsAt H' L (es ++ xs) → ord.Perm ((List.range n).map fun (i : Nat) => (i : Int)) → Grown ord n es → xs.length ≤ x → OkLks n (es ++ xs) → Q (.ref L) H'
section
variable {P : Program} {w : World} {K : PySem.W.Frag} {mg : Str → Option Value} {base : Heap} {Z : List (Addr × Str)} {C CN : Addr}
theorem ok_links (T : Bt mg) (c_law_draw : Cal P w K mg base CX0 1 "_law_draw" spDraw) {f : Addr} {fd : FuncData} (F : Fun K "_law_links" "_law_links" s_law_links f fd) :
    FnOk P w K mg base CX0 2 f fd ["_law_well", "_law_many", "_law_extra"] (spLinks Z) := by
  refine F.ok sc_law_links (fun vs H Q E h => ?_) (fun cdv A outer s H vs Q E hr h => ?_)
  · obtain ⟨a, n, x, rfl, _⟩ := h
    rfl
  · obtain ⟨a, n, x, rfl, ha, hn1, hn60, hx, k⟩ := h
    refine ⟨_, (pss_cons (ps_set (i := 3) sc_law_links.nd rfl (Or.inl rfl) (pe_cal hr (by decide) c_law_draw pass0 rfl (pa_cons (pv 0) (pa_cons pe_int pa_nil))))
  (pss_cons (ps_set (i := 4) sc_law_links.nd rfl (Or.inl rfl) (pe_listRg rfl rfl T.no_list (prg_1 rfl T.no_range (pv 1))))
  (pss_cons (ps_set (i := 5) sc_law_links.nd rfl (Or.inl rfl) (pe_lst pa_nil))
  (pss_cons (ps_while PassesOwn.never (pt_cmpR (op_neDK K hr.units) (pv 4) (pe_lst pa_nil) (nomark _)) (pss_one (ps_expr (pe_bmK K PySem.F.plainAttrs_list PySem.F.slot_list_append PySem.F.type_list_append mt_append (pv 5) (pa_cons (pe_bmK K PySem.F.plainAttrs_list PySem.F.slot_list_pop PySem.F.type_list_pop mt_popAt (pv 4) (pa_cons (pe_op op_mul (pe_cal hr (by decide) c_law_draw pass0 rfl (pa_cons (pv 0) (pa_cons (pe_callB (call_lenK K) (by rfl) T.no_len (by decide +kernel) (pa_cons (pv 4) pa_nil)) pa_nil))) (pe_callTy call_int1 (by rfl) T.no_int (by decide +kernel) (pa_cons (pe_cmpR op_gt (pv 3) pe_int (nomark _)) pa_nil))) pa_nil)) pa_nil)))))
  (pss_cons (ps_set (i := 6) sc_law_links.nd rfl (Or.inl rfl) (pe_lst pa_nil))
  (pss_cons (ps_for PassesOwn.never rfl (pi_range2 (by rfl) T.no_range (pa_cons pe_int (pa_cons (pv 1) pa_nil))) (pg_name (i := 7) sc_law_links.nd rfl (Or.inl rfl)) (pss_cons (ps_set (i := 8) sc_law_links.nd rfl (Or.inl rfl) (pe_lst (pa_cons (pe_op op_sub (pv 7) pe_int) (pa_cons pe_int (pa_cons (pe_op op_add (pe_op op_sub (pv 7) pe_int) (pe_op op_mod (pv 7) pe_int)) (pa_cons (pe_callB (call_max2 rfl) (by rfl) T.no_max (by decide +kernel) (pa_cons pe_int (pa_cons (pe_op op_sub (pe_op op_sub (pv 7) pe_int) (pe_cal hr (by decide) c_law_draw pass0 rfl (pa_cons (pv 0) (pa_cons pe_int pa_nil)))) pa_nil))) (pa_cons (pe_op op_fdiv (pe_op op_sub (pv 7) pe_int) pe_int) (pa_cons (pe_cal hr (by decide) c_law_draw pass0 rfl (pa_cons (pv 0) (pa_cons (pv 7) pa_nil))) pa_nil))))))))
  (pss_cons (ps_expr (pe_bmK K PySem.F.plainAttrs_list PySem.F.slot_list_append PySem.F.type_list_append mt_append (pv 8) (pa_cons (pe_cal hr (by decide) c_law_draw pass0 rfl (pa_cons (pv 0) (pa_cons (pe_op op_add pe_int (pe_op op_fdiv (pv 7) pe_int)) pa_nil))) pa_nil)))
  (pss_one (ps_if (pt_cmpR op_gt (pe_cal hr (by decide) c_law_draw pass0 rfl (pa_cons (pv 0) (pa_cons pe_int pa_nil))) pe_int (nomark _)) (pss_one (ps_expr (pe_bmK K PySem.F.plainAttrs_list PySem.F.slot_list_append PySem.F.type_list_append mt_append (pv 6) (pa_cons (pe_callTy (call_tupleK K) (by rfl) T.no_tuple (by decide +kernel) (pa_cons (pe_callB (sortedIK K) (by rfl) T.no_sorted (by decide +kernel) (pa_cons (pe_lst (pa_cons (pe_ix (ix_listK K) (pv 5) (pv 7) (fun _ _ => rfl)) (pa_cons (pe_ix (ix_listK K) (pv 5) (pe_ix (ix_listK K) (pv 8) (pv 3) (fun _ _ => rfl)) (fun _ _ => rfl)) pa_nil))) pa_nil)) pa_nil)) pa_nil)))) pss_nil)))))
  (pss_cons (ps_for PassesOwn.never rfl (pi_range1 (by rfl) T.no_range (pa_cons (pv 2) pa_nil)) (pg_name (i := 7) sc_law_links.nd rfl (Or.inl rfl)) (pss_cons (ps_asg (pe_callB (sortedIK K) (by rfl) T.no_sorted (by decide +kernel) (pa_cons (pe_lst (pa_cons (pe_cal hr (by decide) c_law_draw pass0 rfl (pa_cons (pv 0) (pa_cons (pv 1) pa_nil))) (pa_cons (pe_cal hr (by decide) c_law_draw pass0 rfl (pa_cons (pv 0) (pa_cons (pv 1) pa_nil))) pa_nil))) pa_nil)) (pg_lstK K 2 rfl (pgs_cons (pg_name (i := 9) sc_law_links.nd rfl (Or.inl rfl)) (pgs_cons (pg_name (i := 10) sc_law_links.nd rfl (Or.inl rfl)) pgs_nil))))
  (pss_one (ps_if (PW.pt (pw_and (pt_cmpR op_lt (pv 9) (pv 10) (nomark _)) (pw_and1 (pt_cmpR (op_notInDK K (hu65 hr)) (pe_tup (pa_cons (pv 9) (pa_cons (pv 10) pa_nil))) (pv 6) (by rfl))))) (pss_one (ps_expr (pe_bmK K PySem.F.plainAttrs_list PySem.F.slot_list_append PySem.F.type_list_append mt_append (pv 6) (pa_cons (pe_tup (pa_cons (pv 9) (pa_cons (pv 10) pa_nil))) pa_nil)))) pss_nil))))
  (pss_one (ps_ret (pv 6)))))))))), ?_⟩
    walk_at "rd"
    refine rd_draw ha (by omega) (by omega) (fun kd hk0 hk1 => ?_)
    walk_at "rd"
    refine ⟨rgOk_nat (by omega), fun Lf hLf => genO hLf fun H1 n1 => ?_⟩
    rw [rgV_nat] at n1
    walk_at "rd"
    refine ⟨Nat.zero_le _, fun Od hOd => genO hOd fun H2 n2 => ?_⟩
    walk_at "rd"
    have LO : Lf ≠ Od := fun z => by
      have := n1.at'
      rw [z, n2.no] at this
      cases this
    have fL : Fr H Lf := fr_none n1.no
    have fO : Fr H Od := (Sm.of (T := Z) n1.s).free n2.no
    refine rd_while (fun m σ' H' => ∃ (ls os : List Int), σ' = [some (.ref a), some (.int n), some (.int x), some (.int kd), some (.ref Lf), some (.ref Od), none, none, none, none, none] ∧ Sm Z H H' ∧ H' Lf = some (.lst (ls.map V.int)) ∧ H' Od = some (.lst (os.map V.int)) ∧
      (os ++ ls).Perm ((List.range n).map fun (i : Nat) => (i : Int)) ∧ m = ls.length) _ ⟨(List.range n).map fun (i : Nat) => (i : Int), [], rfl, (Sm.of n1.s).new n2.s, n2.s _ _ n1.at', n2.at', List.Perm.refl _, rfl⟩ (fun m σ2 H3 hW => ?_)
    obtain ⟨ls, os, rfl, s3, hL3, hO3, hperm, rfl⟩ := hW
    have hlen : os.length + ls.length = n := by
      have := hperm.length_eq
      simpa using this
    walk_at "rd"
    refine ⟨Nat.zero_le _, fun q hq => genO hq fun H4 n4 => ?_⟩
    have s4 := s3.new n4.s
    have hL4 := n4.s _ _ hL3
    have hO4 := n4.s _ _ hO3
    refine rd_neD (Dt.ints hL4) (.lst (ds := []) n4.at' .nil) (okd_ints _) (okd_ints []) ?_
    have e : PyData.eqv (.list (ls.map PyData.int)) (.list []) = decide (ls = []) := by
      have := eqv_ints (a := ls) (b := [])
      exact this
    rw [e]
    walk_at "rd"
    refine rifN (fun c => ?_) (fun c => ?_)
    · refine rd_turn ?_
      walk_at "rd"
      refine ⟨tyL hO4, ?_⟩
      walk_at "rd"
      refine ⟨tyL hL4, ?_⟩
      walk_at "rd"
      refine rd_lenL (SqL.of hL4) ?_
      walk_at "rd"
      refine rd_draw (s4.well ha) (by rw [List.length_map]; have := List.length_pos_iff.mpr c; omega) (by rw [List.length_map]; omega) (fun r hr0 hr1 => ?_)
      rw [List.length_map] at hr1
      walk_at "rd"
      refine .inr ⟨_, rfl, ?_⟩
      have hp : 0 ≤ r * (if decide ((1 : Int) < kd) = true then 1 else 0) ∧ r * (if decide ((1 : Int) < kd) = true then 1 else 0) < (ls.length : Int) := by
        by_cases cc : (1 : Int) < kd
        · rw [decide_eq_true cc]
          simp
          omega
        · rw [decide_eq_false cc]
          simp
          omega
      refine rd_I (.inl ⟨by omega, by omega⟩) ?_
      generalize r * (if decide ((1 : Int) < kd) = true then 1 else 0) = pi at hp ⊢
      walk_at "rd"
      obtain ⟨z, hz⟩ : ∃ z, ls[pi.toNat]? = some z := ⟨_, List.getElem?_eq_getElem (by omega)⟩
      refine rd_popAt (k := pi.toNat) hL4 (by rw [List.length_map]; omega) (by omega) (by rw [List.getElem?_map, hz]; rfl) (fun H5 hL5 k5 => ?_)
      walk_at "rd"
      have hO5 : H5 Od = some (.lst (os.map V.int)) := by rw [k5 Od LO.symm]; exact hO4
      refine rd_app hO5 (by rw [List.length_map, sizeLine_eq]; omega) (fun H6 hO6 k6 => ?_)
      have hL6 : H6 Lf = some (.lst ((ls.eraseIdx pi.toNat).map V.int)) := by
        rw [k6 Lf LO, hL5, map_eraseIdx]
      refine ⟨(ls.eraseIdx pi.toNat).length, ?_, ls.eraseIdx pi.toNat, os ++ [z], rfl, (s4.mutL fL hL4 k5).mutL fO hO5 k6, hL6, by rw [hO6, List.map_append]; rfl, ?_, rfl⟩
      · have hlt : pi.toNat < ls.length := by omega
        rw [List.length_eraseIdx, if_pos hlt]
        omega
      · refine List.Perm.trans ?_ hperm
        rw [List.append_assoc]
        refine List.Perm.append_left os ?_
        exact perm_eraseIdx ls pi.toNat z hz
    subst c
    rw [List.append_nil] at hperm
    walk_at "rd"
    refine ⟨Nat.zero_le _, fun Fd hFd => genO hFd fun H5 n5 => ?_⟩
    obtain ⟨hol, hob, hoi⟩ := ord_get hperm
    have fF : Fr H Fd := s4.free n5.no
    have s5 := s4.new n5.s
    have OF : Od ≠ Fd := fun z => by rw [z, n5.no] at hO4; cases hO4
    walk_at "rd"
    refine ⟨1, n, rfl, ⟨by omega, by omega, by omega, by omega⟩, ?_⟩
    refine for_i (wki_range 1 _) (fun i σ' H' => ∃ (es : List Lk) (u7 u8 : Option V), σ' = [some (.ref a), some (.int n), some (.int x), some (.int kd), some (.ref Lf), some (.ref Od), some (.ref Fd), u7, u8, none, none] ∧ Sm Z H H' ∧ H' Od = some (.lst (os.map V.int)) ∧
      PairsAt H' Fd es ∧ Grown os (i + 1) es ∧ es.length ≤ i) ⟨[], none, none, rfl, s5, n5.s _ _ hO4, ⟨[], n5.at', .nil⟩, .nil, Nat.le_refl _⟩ (fun _ _ _ _ _ => trivial) (fun i y σ1 H6 H7 hi hP s7 hit => ?_) (fun σ' H6 hP => ?_)
    · obtain ⟨es, u7, u8, rfl, s6, hO6, hF6, gr, hel⟩ := hP
      have hi' : i + 1 < n := by omega
      have hit' : y = .int (1 + (i : Int)) := hit
      subst hit'
      have sm7 := s6.new s7
      have hO7 := s7 _ _ hO6
      have hF7 := hF6.sm (T := Z) (Sm.of s7)
      walk_at "rd"
      have haw := sm7.well ha
      refine rd_draw haw (by omega) (by omega) (fun r3 h30 h31 => ?_)
      walk_at "rd"
      refine ⟨_, _, rfl, ?_⟩
      walk_at "rd"
      refine rd_draw haw (by omega) (by omega) (fun r5 h50 h51 => ?_)
      walk_at "rd"
      refine ⟨by show 6 ≤ sizeLine; decide, fun S hS => genO hS fun H8 n8 => ?_⟩
      have sm8 := sm7.new n8.s
      walk_at "rd"
      refine ⟨tyL n8.at', ?_⟩
      walk_at "rd"
      refine rd_draw (sm8.well ha) (by omega) (by omega) (fun r6 h60 h61 => ?_)
      walk_at "rd"
      refine rd_app n8.at' (by show 6 < sizeLine; decide) (fun H9 h9 k9 => ?_)
      have fS : Fr H S := sm7.free n8.no
      have sm9 : Sm Z H H9 := sm8.mutL fS n8.at' k9
      walk_at "rd"
      refine rd_draw (sm9.well ha) (by omega) (by omega) (fun r12 h120 h121 => ?_)
      walk_at "rd"
      have SO : Od ≠ S := fun z => by rw [z, n8.no] at hO7; cases hO7
      have hO9 : H9 Od = some (.lst (os.map V.int)) := by rw [k9 Od SO]; exact n8.s _ _ hO7
      have hF9 : PairsAt H9 Fd es := by
        obtain ⟨xs, g1, g2⟩ := hF7
        have keep : ∀ {t : Addr} {o : HO}, H7 t = some o → H9 t = some o := fun {t o} h => by rw [k9 t (fun z => by rw [z, n8.no] at h; cases h)]; exact n8.s _ _ h
        exact ⟨xs, keep g1, Paired.mapP g2 fun v e ⟨t, h1, h2⟩ => ⟨t, h1, keep h2⟩⟩
      refine rifD (fun c => ?_) (fun c => ?_)
      · walk_at "rd"
        obtain ⟨ss, hS9, hsl, hsb⟩ : ∃ ss : List Int, H9 S = some (.lst (ss.map V.int)) ∧ ss.length = 7 ∧ ∀ z ∈ ss, 0 ≤ z ∧ z < 1 + (i : Int) := by
          refine ⟨[_, _, _, _, _, _, _], h9, rfl, fun z m => ?_⟩
          simp only [List.mem_cons, List.not_mem_nil, or_false] at m
          rcases m with rfl | rfl | rfl | rfl | rfl | rfl | rfl <;> (try split) <;> omega
        have hsz : ss.getD kd.toNat 0 ∈ ss := by simp [show kd.toNat < ss.length by omega]
        have hb := hsb _ hsz
        generalize hj : ss.getD kd.toNat 0 = jj at hb
        obtain ⟨xs, hF9a, hF9b⟩ := hF9
        refine ⟨tyL hF9a, ?_⟩
        walk_at "rd"
        refine rd_intL hO9 (i + 1) (by omega) (by omega) ?_
        walk_at "rd"
        refine rd_intL hS9 kd.toNat (by omega) (by omega) ?_
        rw [hj]
        refine rd_intL hO9 jj.toNat (by omega) (by omega) ?_
        walk_at "rd"
        refine ⟨by show 2 ≤ sizeLine; decide, fun q1 hq1 => genO hq1 fun H10 n10 => ?_⟩
        walk_at "rd"
        have h10 : H10 q1 = some (.lst ([os.getD (i + 1) 0, os.getD jj.toNat 0].map V.int)) := n10.at'
        refine rd_sortedI (SqL.of h10) (fun q2 H11 n11 => ?_)
        walk_at "rd"
        refine rd_tupL (SqL.of n11.at') (fun q3 H12 n12 => ?_)
        walk_at "rd"
        have keep : ∀ {t : Addr} {o : HO}, H9 t = some o → H12 t = some o := fun {t o} h => n12.s _ _ (n11.s _ _ (n10.s _ _ h))
        have sm12 : Sm Z H H12 := ((sm9.new n10.s).new n11.s).new n12.s
        refine rd_app (keep hF9a) (by have := Paired.length hF9b; rw [sizeLine_eq]; omega) (fun H13 h13 k13 => ?_)
        obtain ⟨e, he, hele, hte⟩ : ∃ e : Lk, (e = (os.getD (i + 1) 0, os.getD jj.toNat 0) ∨ e = (os.getD jj.toNat 0, os.getD (i + 1) 0)) ∧ e.1 ≤ e.2 ∧ H12 q3 = some (.tup [.int e.1, .int e.2]) := by
          have := n12.at'
          rw [srt_pair] at this
          by_cases c : os.getD (i + 1) 0 ≤ os.getD jj.toNat 0
          · rw [if_pos c] at this
            exact ⟨(_, _), .inl rfl, c, this⟩
          · rw [if_neg c] at this
            exact ⟨(_, _), .inr rfl, by simp only; omega, this⟩
        have hF13 : PairsAt H13 Fd (es ++ [e]) := PairsAt.app (Paired.mapP hF9b fun v e ⟨t, h1, h2⟩ => ⟨t, h1, keep h2⟩) h13 k13 (keep hF9a) hte
        refine ⟨es ++ [e], _, _, rfl, sm12.mutL fF (keep hF9a) k13, by rw [k13 Od OF]; exact keep hO9, hF13, gr.link jj.toNat e (by omega) he hele, by rw [List.length_append]; simp; omega⟩
      · walk_at "rd"
        exact ⟨es, _, _, rfl, sm9, hO9, hF9, gr.skip, by omega⟩
    · obtain ⟨es, u7, u8, rfl, s6, hO6, hF6, gr, hel⟩ := hP
      have gr' : Grown os n es := by
        have e : ((n : Int) - 1).toNat + 1 = n := by omega
        rw [e] at gr
        exact gr
      have hok0 := grown_ok hperm gr' (Nat.le_refl _)
      walk_at "rd"
      refine ⟨x, rfl, by omega, by omega, ?_⟩
      refine for_i (wki_range 0 _) (fun i σ' H' => ∃ (xs : List Lk) (u7 u9 u10 : Option V), σ' = [some (.ref a), some (.int n), some (.int x), some (.int kd), some (.ref Lf), some (.ref Od), some (.ref Fd), u7, u8, u9, u10] ∧ Sm Z H H' ∧
        PairsAt H' Fd (es ++ xs) ∧ xs.length ≤ i ∧ OkLks n (es ++ xs)) ⟨[], u7, none, none, rfl, s6, by rw [List.append_nil]; exact hF6, Nat.le_refl _, by rw [List.append_nil]; exact hok0⟩ (fun _ _ _ _ _ => trivial) (fun i y σ1 H7 H8 hi hP s8 hit => ?_) (fun σ' H7 hP => ?_)
      · obtain ⟨xs, u7, u9, u10, rfl, s7, hF7, hxl, hok⟩ := hP
        have sm8 := s7.new s8
        have hi' : i < x := by omega
        obtain ⟨vs, hF8a, hF8b⟩ := hF7.sm (T := Z) (Sm.of s8)
        walk_at "rd"
        refine rd_draw (sm8.well ha) (by omega) (by omega) (fun ra ha0 ha1 => ?_)
        walk_at "rd"
        refine rd_draw (sm8.well ha) (by omega) (by omega) (fun rb hb0 hb1 => ?_)
        walk_at "rd"
        refine ⟨by show 2 ≤ sizeLine; decide, fun q1 hq1 => genO hq1 fun H10 n10 => ?_⟩
        walk_at "rd"
        have h10 : H10 q1 = some (.lst ([ra, rb].map V.int)) := n10.at'
        refine rd_sortedI (SqL.of h10) (fun q2 H11 n11 => ?_)
        obtain ⟨lo, hi2, hlo, hlb⟩ : ∃ lo hi2 : Int, H11 q2 = some (.lst [.int lo, .int hi2]) ∧ 0 ≤ lo ∧ hi2 < n := by
          have := n11.at'
          rw [srt_pair] at this
          by_cases c : ra ≤ rb
          · rw [if_pos c] at this
            exact ⟨_, _, this, ha0, hb1⟩
          · rw [if_neg c] at this
            exact ⟨_, _, this, hb0, ha1⟩
        have sm11 : Sm Z H H11 := (sm8.new n10.s).new n11.s
        refine rd_glst2 (SqL.of hlo) rfl ?_
        walk_at "rd"
        refine rifDn (fun c => ?_) (fun c => ?_)
        · walk_at "rd"
          exact ⟨xs, _, _, _, rfl, sm11, ⟨vs, n11.s _ _ (n10.s _ _ hF8a), Paired.mapP hF8b fun v e ⟨t, h1, h2⟩ => ⟨t, h1, n11.s _ _ (n10.s _ _ h2)⟩⟩, by omega, hok⟩
        walk_at "rd"
        refine ⟨by show 2 ≤ sizeLine; decide, fun q3 hq3 => genO hq3 fun H12 n12 => ?_⟩
        walk_at "rd"
        have sm12 := sm11.new n12.s
        have hF12 : PairsAt H12 Fd (es ++ xs) := ⟨vs, n12.s _ _ (n11.s _ _ (n10.s _ _ hF8a)), Paired.mapP hF8b fun v e ⟨t, h1, h2⟩ => ⟨t, h1, n12.s _ _ (n11.s _ _ (n10.s _ _ h2))⟩⟩
        have hd12 : Dt H12 (.ref q3) (lkD (lo, hi2)) := .tup n12.at' (.cons (.int _) (.cons (.int _) .nil))
        refine rd_notInD hd12 hF12.dt (okd_lk (k := 63) (lo, hi2)) (okd_lks _) ?_
        rw [any_lkD eqv_lkD]
        walk_at "rd"
        refine rifN (fun c2 => ?_) (fun c2 => ?_)
        · walk_at "rd"
          obtain ⟨vs, hF12a, hF12b⟩ := hF12
          refine ⟨tyL hF12a, ?_⟩
          walk_at "rd"
          refine ⟨by show 2 ≤ sizeLine; decide, fun q4 hq4 => genO hq4 fun H13 n13 => ?_⟩
          walk_at "rd"
          refine rd_app (n13.s _ _ hF12a) (by have h1 := Paired.length hF12b; have h2 := (grown_len gr'); rw [List.length_append] at h1; rw [sizeLine_eq]; omega) (fun H14 h14 k14 => ?_)
          have hF14 : PairsAt H14 Fd ((es ++ xs) ++ [(lo, hi2)]) := PairsAt.app (Paired.mapP hF12b fun v e ⟨t, h1, h2⟩ => ⟨t, h1, n13.s _ _ h2⟩) h14 k14 (n13.s _ _ hF12a) n13.at'
          rw [List.append_assoc] at hF14
          refine ⟨xs ++ [(lo, hi2)], _, _, _, rfl, (sm12.new n13.s).mutL fF (n13.s _ _ hF12a) k14, hF14, by rw [List.length_append]; simp; omega, ?_⟩
          rw [← List.append_assoc]
          refine ⟨fun e m => ?_, List.nodup_append.mpr ⟨hok.2, by simp, fun a1 m1 b1 m2 z => ?_⟩⟩
          · rcases List.mem_append.mp m with m | m
            · exact hok.1 e m
            · rw [List.mem_singleton] at m
              subst m
              exact ⟨hlb.1, c, hlb.2⟩
          · rw [List.mem_singleton] at m2
            subst m2
            subst z
            exact c2 m1
        · walk_at "rd"
          exact ⟨xs, _, _, _, rfl, sm12, hF12, by omega, hok⟩
      · obtain ⟨xs, u7, u9, u10, rfl, s7, hF7, hxl, hok⟩ := hP
        walk_at "rd"
        exact k Fd os es xs H7 s7 fF hF7 hperm gr' (by omega) hok
end

theorem links_good {n : Nat} {es : List Lk} (h : OkLks n es) (i : Nat) : badAt (n : Int) (es.map lkD) i = false := by
  unfold badAt
  rw [List.getElem?_map]
  cases e : es[i]? with
  | none => rfl
  | some l =>
    have m := List.mem_of_getElem? e
    show (!isLinkD n (lkD l) || ((es.map lkD).take i).any fun z => PyData.eqv z (lkD l)) = false
    rw [isLinkD_lk (by rw [Int.toNat_natCast]; exact h.1 l m), ← List.map_take, any_lkD eqv_lkD]
    have : ¬ l ∈ es.take i := fun m2 => by
      obtain ⟨j, hj⟩ := List.mem_iff_getElem?.mp m2
      rw [List.getElem?_take] at hj
      split at hj
      · rename_i hji
        have := (List.getElem?_inj (List.getElem?_eq_some_iff.mp hj).1 h.2).mp (hj.trans e.symm)
        omega
      · cases hj
    rw [decide_eq_false this]
    rfl
theorem net_okF {Z : List (Addr × Str)} {K : PySem.W.Frag} {C CN L x dx : Addr} {H2 : Hp} {es : List Lk} {n : Nat} {Q : VK} {E : XK} (hL : PairsAt H2 L es) (hok : OkLks n es) (hn1 : 1 ≤ n) (hn60 : n ≤ 60) (hel : es.length ≤ 100000) (hx : H2 x = none) (hdx : H2 dx = none) (hne : dx ≠ x)
    (h : ∀ (ks : List Lk) (H3 : Hp), Sm Z H2 H3 → ks.Perm es → ks.Pairwise (fun x y => SrtO.lexB y x = false) → NetAt C H3 x n ks → (∀ (r : Addr) (rs : List V), H2 r = some (.lst rs) → ∀ H'' : Hp, (∀ b, b ≠ r → H'' b = H3 b) → NetAt C H'' x n ks) → Q .non H3) : spNetInit Z K C CN [.ref x, .int n, .ref L] (upd (upd H2 dx (.own x)) x (.ins C dx [])) Q E := by
  have sm : Same H2 (upd (upd H2 dx (.own x)) x (.ins C dx [])) := fun b o e => by
    rw [upd_ne (ne_of_none e hx), upd_ne (ne_of_none e hdx)]
    exact e
  obtain ⟨xs, h1, h2⟩ := hL.sm (T := Z) (Sm.of sm)
  have hd : DtAll (upd (upd H2 dx (.own x)) x (.ins C dx [])) xs (es.map lkD) := paired_dt h2
  have tl : TyX K (upd (upd H2 dx (.own x)) x (.ins C dx [])) (.ref L) (.type "list") := .base (.lst h1)
  refine ⟨x, dx, .int n, .ref L, "int", "list", rfl, upd_same, .base (.int _), by simp [kinds], tl, by simp [kinds], .inr ⟨n, L, xs, es.map lkD, rfl, rfl, rfl, rfl, by omega, by omega, h1, hd, okd_lks es, by rw [List.length_map]; exact hel, .inr ⟨links_good hok, fun es' hL' hok' ks H3 sx hp hs hn => ?_⟩⟩⟩
  have ee : es' = es := hL'.inj ⟨xs, h1, h2⟩
  subst ee
  refine h ks H3 ⟨fun b u hb hn2 => sx.1 b u (ne_of_none hb hx) (sm b u hb) hn2, fun t => sx.2 ((Sm.of (T := Z) sm).2 t)⟩ hp hs ?_ ?_
  · rw [Int.toNat_natCast] at hn
    exact hn.1
  · rw [Int.toNat_natCast] at hn
    exact fun r rs hr => hn.2 r rs (sm _ _ hr)
theorem net_ok {Z : List (Addr × Str)} {K : PySem.W.Frag} {C CN L x dx : Addr} {H2 : Hp} {es : List Lk} {n : Nat} {Q : VK} {E : XK} (hL : PairsAt H2 L es) (hok : OkLks n es) (hn1 : 1 ≤ n) (hn60 : n ≤ 60) (hel : es.length ≤ 100000) (hx : H2 x = none) (hdx : H2 dx = none) (hne : dx ≠ x)
    (h : ∀ (ks : List Lk) (H3 : Hp), Sm Z H2 H3 → ks.Perm es → ks.Pairwise (fun x y => SrtO.lexB y x = false) → NetAt C H3 x n ks → Q .non H3) : spNetInit Z K C CN [.ref x, .int n, .ref L] (upd (upd H2 dx (.own x)) x (.ins C dx [])) Q E :=
  net_okF hL hok hn1 hn60 hel hx hdx hne fun ks H3 s p q r _ => h ks H3 s p q r

/-! ### calls by keywords alone, told in the parameters' order turned around -/
def kwG : List Value → List Value → List Value := fun us ws => us ++ ws.reverse
def kwV : List V → List V → List V := fun vs zs => vs ++ zs.reverse
theorem kw_rel {vs : List V} {us : List Value} {zs : List V} {ws : List Value} (r : Vals vs us) (s : Vals zs ws) : Vals (kwV vs zs) (kwG us ws) := paired_app r (paired_rev s)
/-- f(k = v, ..): what the keywords give, the last one first -/
def tCallW (m : Nat) (sp : Sp) (E : XK) (tk : TA) : TE := fun σ H Q => tk σ H fun zs H1 => zs.length = m ∧ sp zs.reverse H1 Q E
def tMethW (C : Addr) (x : Str) (m : Nat) (sp : Sp) (E : XK) (ta : TE) (tk : TA) : TE := fun σ H Q => ta σ H fun x' H1 => ∃ a dx fs, x' = .ref a ∧ H1 a = some (.ins C dx fs) ∧ fs.lookup x = none ∧ tk σ H1 fun zs H2 => zs.length = m ∧ sp (.ref a :: zs.reverse) H2 Q E
def tMakeW (C : Addr) (m : Nat) (sp : Sp) (E : XK) (tk : TA) : TE := fun σ H Q => tk σ H fun zs H1 => zs.length = m ∧ ∀ x dx, H1 x = none → H1 dx = none → dx ≠ x → sp (.ref x :: zs.reverse) (upd (upd H1 dx (.own x)) x (.ins C dx [])) (fun v H2 => v = .non ∧ Q (.ref x) H2) E
section
variable (P : Program) (w : World) (K : PySem.W.Frag) (mg : Str → Option Value) (base : Heap)
structure CalW (CX : CXT) (k : Nat) (x : Str) (ks : List Str) (sp : Sp) : Prop where
  ex : ∃ (f : Addr) (fd : FuncData) (ps : List Str), FnOk P w K mg base CX k f fd ps sp ∧ mg x = some (.ref f) ∧ PySem.W.keepIn K (.ref f) = true ∧ KBn K fd ps 0 ks kwG kwV
structure CalMW (CX : CXT) (k : Nat) (C : Addr) (m : Str) (ks : List Str) (sp : Sp) : Prop where
  ex : ∃ (f : Addr) (fd : FuncData) (ps : List Str), FnOk P w K mg base CX k f fd ps sp ∧ Meth K C m f ∧ KBn K fd ps 1 ks kwG kwV ∧ Cls K C
structure CalCW (CX : CXT) (k : Nat) (x : Str) (C : Addr) (ks : List Str) (sp : Sp) : Prop where
  ex : ∃ (f : Addr) (fd : FuncData) (ps : List Str), FnOk P w K mg base CX k f fd ps sp ∧ mg x = some (.ref C) ∧ Mk K C f ∧ KBn K fd ps 1 ks kwG kwV
end
section
variable {X : Cx} {CX : CXT} {j k : Nat} {C : Addr} {ks : List Str} {sp : Sp} {E : XK} {x m : Str} {p pos apos : Pos} {o : Expr} {kws : List Keyword} {ta : TE} {tk : TA}
theorem pe_callW (hr : Room j X.A) (hk : k ≤ j) (c : CalW X.prog X.w X.K X.mg X.base CX k x ks sp) (hx : Passes CX X E) (hg : Gl X x) (hkw : PK X kws tk) (hall : (backToKw pos (keywordEach kws X.env)).all (·.1.isSome) = true := by rfl)
    (hks : (backToKw pos (keywordEach kws X.env)).filterMap (·.1) = ks := by rfl) (hdb : (x == ("__debug__" : Str)) = false := by decide) (hpl : ((backTo pos (starEach [] X.env)).any (·.1) || (backToKw pos (keywordEach kws X.env)).any (·.1.isNone)) = false := by rfl) :
    PE X (.Call (.Name x p) [] kws pos) (tCallW ks.length sp E tk) := by
  obtain ⟨f, fd, ps, F, hm, hkp, hb⟩ := c.ex
  refine ⟨fun pins s σ H Q I h => ?_⟩
  refine wpAny_Call_Name_kw (ld_glob I hg hm ?_ hdb)
  refine PySem.W.callWith_KW0 (h₀ := X.base) I.ok.mod.kin hkp hall (thn (hkw.run pos pins s σ H _ I h) fun ws s2 ⟨zs, H2, I2, rz, l2, q2⟩ => ⟨I2.kIn, ?_⟩) hpl
  rw [hks]
  exact run_fnN (us := []) (vs := []) F (hr.mono hk) hb hx I2 .nil rz rfl l2 q2
theorem pe_makeW (hr : Room j X.A) (hk : k + 1 ≤ j) (c : CalCW X.prog X.w X.K X.mg X.base CX k x C ks sp) (hx : Passes CX X E) (hg : Gl X x) (hkw : PK X kws tk) (hall : (backToKw pos (keywordEach kws X.env)).all (·.1.isSome) = true := by rfl)
    (hks : (backToKw pos (keywordEach kws X.env)).filterMap (·.1) = ks := by rfl) (hdb : (x == ("__debug__" : Str)) = false := by decide) (hpl : ((backTo pos (starEach [] X.env)).any (·.1) || (backToKw pos (keywordEach kws X.env)).any (·.1.isNone)) = false := by rfl) :
    PE X (.Call (.Name x p) [] kws pos) (tMakeW C ks.length sp E tk) := by
  obtain ⟨f, fd, ps, F, hm, M, hb⟩ := c.ex
  refine ⟨fun pins s σ H Q I h => ?_⟩
  refine wpAny_Call_Name_kw (ld_glob I hg hm ?_ hdb)
  refine PySem.W.callWith_KW0 (h₀ := X.base) I.ok.mod.kin M.kp hall (thn (hkw.run pos pins s σ H _ I h) fun ws s2 ⟨zs, H2, I2, rz, l2, q2⟩ => ⟨I2.kIn, ?_⟩) hpl
  rw [hks]
  exact run_makeN (us := []) (vs := []) M F (hr.mono hk) hb hx I2 .nil rz rfl l2 q2
theorem pe_methW {pl : Sem Bool} (ho : PE X o ta) (hr : Room j X.A) (hk : k ≤ j) (c : CalMW X.prog X.w X.K X.mg X.base CX k C m ks sp) (hx : Passes CX X E) (hkw : PK X kws tk) (hall : (backToKw pos (keywordEach kws X.env)).all (·.1.isSome) = true := by rfl)
    (hks : (backToKw pos (keywordEach kws X.env)).filterMap (·.1) = ks := by rfl) (hpl : ((backTo pos (starEach [] X.env)).any (·.1) || (backToKw pos (keywordEach kws X.env)).any (·.1.isNone)) = false := by rfl)
    (hc : eval (.Call (.Attribute o m apos) [] kws pos) X.env = (do
      let ov ← eval o X.env
      standAt apos.atName
      let (f, first) ← holding [ov] (getMethod ov m pl)
      callWith pos f first (backTo pos (starEach [] X.env)) (backToKw pos (keywordEach kws X.env))) := by rfl) :
    PE X (.Call (.Attribute o m apos) [] kws pos) (tMethW C m ks.length sp E ta tk) := by
  obtain ⟨f, fd, ps, F, hm, hb, hcl⟩ := c.ex
  refine ⟨fun pins s σ H Q I h => ?_⟩
  refine PySem.W.methodCall_KW (pl := pl) (thn (ho.run pins s σ H _ I h) fun u s1 ⟨x, H1, I1, rx, a, dx, fs, ex, ea, l, q⟩ => ?_) hc
  subst ex
  obtain rfl : u = Value.ref a := rx
  refine getmeth_ok I1 ea hcl hm l ?_
  refine PySem.W.callWith_KW0 (first := [.ref a]) (h₀ := X.base) I.ok.mod.kin hm.kp hall (thn (hkw.run pos pins s1 σ H1 _ I1 q) fun ws s2 ⟨zs, H2, I2, rz, l2, q2⟩ => ⟨I2.kIn, ?_⟩) hpl
  rw [hks]
  exact run_fnN (us := [.ref a]) (vs := [.ref a]) F (hr.mono hk) hb hx I2 (.cons rfl .nil) rz rfl l2 q2
end
section
variable {P : Program} {w : World} {K : PySem.W.Frag} {mg : Str → Option Value} {base : Heap} {x qual m : Str} {st : Stmt} {c C : Addr} {CX : CXT} {k : Nat} {ps ks : List Str} {sp : Sp}
theorem DefAt.calW (D : DefAt K mg x st)
    (hb : ∀ (kV doc pm : Value) (an : Option Addr) (cdv ct : Value) (ws : List Value), ws.length = ks.length → bindArgs (PySem.W.fnOf x x (defArgs st) (defBody st) (defScope st) .none kV doc pm an cdv ct) ⟨[], ks.zip ws⟩ = pure (ps.zip ws.reverse))
    (h : ∀ (f : Addr) (fd : FuncData), Fun K x x st f fd → FnOk P w K mg base CX k f fd ps sp) : CalW P w K mg base CX k x ks sp := by
  obtain ⟨f, fd, F, hm⟩ := D.ex
  refine ⟨f, fd, ps, h f fd F, hm, F.kp, ⟨fun s us ws _ l1 l2 => ?_, fun r s => kw_rel r s⟩⟩
  obtain ⟨oc, od, kV, doc, pm, an, cdv, ct, osl, rfl, lk, hcd⟩ := F.ex
  cases List.eq_nil_of_length_eq_zero l1
  exact .of_eq (hb kV doc pm an cdv ct ws l2)
theorem DefAtC.calW (D : DefAtC K mg x st c)
    (hb : ∀ (kV doc pm : Value) (an : Option Addr) (cdv ct : Value) (ws : List Value), ws.length = ks.length → bindArgs (PySem.W.fnOf x x (defArgs st) (defBody st) (defScope st) .none kV doc pm an cdv ct) ⟨[], ks.zip ws⟩ = pure (ps.zip ws.reverse))
    (h : ∀ (f : Addr) (fd : FuncData), FunC K x x st f fd c → FnOk P w K mg base CX k f fd ps sp) : CalW P w K mg base CX k x ks sp := by
  obtain ⟨f, fd, F, hm⟩ := D.ex
  refine ⟨f, fd, ps, h f fd F, hm, F.kp, ⟨fun s us ws _ l1 l2 => ?_, fun r s => kw_rel r s⟩⟩
  obtain ⟨oc, od, kV, doc, pm, an, ct, osl, rfl, lk, hcd⟩ := F.ex
  cases List.eq_nil_of_length_eq_zero l1
  exact .of_eq (hb kV doc pm an (.ref c) ct ws l2)
theorem MetAt.calW (D : MetAt K C m qual st) (cl : Cls K C)
    (hb : ∀ (kV doc pm : Value) (an : Option Addr) (cdv ct u : Value) (ws : List Value), ws.length = ks.length → bindArgs (PySem.W.fnOf m qual (defArgs st) (defBody st) (defScope st) .none kV doc pm an cdv ct) ⟨[u], ks.zip ws⟩ = pure (ps.zip (u :: ws.reverse)))
    (h : ∀ (f : Addr) (fd : FuncData), Fun K m qual st f fd → FnOk P w K mg base CX k f fd ps sp) : CalMW P w K mg base CX k C m ks sp := by
  obtain ⟨f, fd, F, h1, h2⟩ := D.ex
  refine ⟨f, fd, ps, h f fd F, ⟨h1, h2, F.kp⟩, ⟨fun s us ws _ l1 l2 => ?_, fun r s => kw_rel r s⟩, cl⟩
  obtain ⟨oc, od, kV, doc, pm, an, cdv, ct, osl, rfl, lk, hcd⟩ := F.ex
  match us, l1 with
  | [u], _ => exact .of_eq (hb kV doc pm an cdv ct u ws l2)
theorem MetAt.clsW (D : MetAt K C "__init__" qual st) (g : mg x = some (.ref C)) (mk : PySem.W.makesIn K C = true) (kc : PySem.W.keepIn K (.ref C) = true)
    (hb : ∀ (kV doc pm : Value) (an : Option Addr) (cdv ct u : Value) (ws : List Value), ws.length = ks.length → bindArgs (PySem.W.fnOf "__init__" qual (defArgs st) (defBody st) (defScope st) .none kV doc pm an cdv ct) ⟨[u], ks.zip ws⟩ = pure (ps.zip (u :: ws.reverse)))
    (h : ∀ (f : Addr) (fd : FuncData), Fun K "__init__" qual st f fd → FnOk P w K mg base CX k f fd ps sp) : CalCW P w K mg base CX k x C ks sp := by
  obtain ⟨f, fd, F, h1, h2⟩ := D.ex
  refine ⟨f, fd, ps, h f fd F, g, ⟨mk, h1, h2, kc⟩, ⟨fun s us ws _ l1 l2 => ?_, fun r s => kw_rel r s⟩⟩
  obtain ⟨oc, od, kV, doc, pm, an, cdv, ct, osl, rfl, lk, hcd⟩ := F.ex
  match us, l1 with
  | [u], _ => exact .of_eq (hb kV doc pm an cdv ct u ws l2)
end
section
variable {σ : L2.St} {H : Hp} {Q : VK} {sp : Sp} {E : XK} {tk : TA} {ta : TE} {C : Addr} {x : Str} {m : Nat}
theorem rd_callW (h : tk σ H fun zs H1 => zs.length = m ∧ sp zs.reverse H1 Q E) : tCallW m sp E tk σ H Q := h
theorem rd_methW (h : ta σ H fun x' H1 => ∃ a dx fs, x' = .ref a ∧ H1 a = some (.ins C dx fs) ∧ fs.lookup x = none ∧ tk σ H1 fun zs H2 => zs.length = m ∧ sp (.ref a :: zs.reverse) H2 Q E) : tMethW C x m sp E ta tk σ H Q := h
theorem rd_makeW (h : tk σ H fun zs H1 => zs.length = m ∧ ∀ x dx, H1 x = none → H1 dx = none → dx ≠ x → sp (.ref x :: zs.reverse) (upd (upd H1 dx (.own x)) x (.ins C dx [])) (fun v H2 => v = .non ∧ Q (.ref x) H2) E) : tMakeW C m sp E tk σ H Q := h
end

/-! ### networks that grow have no ring -/
def BrA (es : List Lk) : Prop := ∀ e ∈ es, ∃ f : Int → Bool, f e.1 ≠ f e.2 ∧ ∀ e' ∈ es, e' ≠ e → f e'.1 = f e'.2
theorem BrA.br {ks : List Lk} (h : BrA ks) (ls : List Int) : Br ks ls := fun e he _ _ => let ⟨f, h1, h2⟩ := h e he; ⟨f, h1, fun e' m ne _ _ => h2 e' m ne⟩
theorem BrA.perm {ks es : List Lk} (p : ks.Perm es) (h : BrA es) : BrA ks := fun e he => let ⟨f, h1, h2⟩ := h e (p.mem_iff.mp he); ⟨f, h1, fun e' m ne => h2 e' (p.mem_iff.mp m) ne⟩
theorem grown_br {n : Nat} {ord : List Int} (hp : ord.Perm ((List.range n).map fun (i : Nat) => (i : Int))) {k : Nat} {es : List Lk} (g : Grown ord k es) : k ≤ n → BrA es := by
  obtain ⟨hl, hb, hi⟩ := ord_get hp
  induction g with
  | nil => exact fun _ e m => absurd m List.not_mem_nil
  | skip _ ih => exact fun hk => ih (by omega)
  | @link k es j e g hj he hle ih =>
    intro hk
    have ih := ih (by omega)
    have ne : ∀ i, i < k → ord.getD i 0 ≠ ord.getD k 0 := fun i h z => by
      have := hi i k (by omega) (by omega) z
      omega
    have old : ∀ e0 ∈ es, e0.1 ≠ ord.getD k 0 ∧ e0.2 ≠ ord.getD k 0 := fun e0 m => by
      obtain ⟨i', j', h1, h2, h3, _⟩ := grown_mem g e0 m
      rcases h3 with rfl | rfl
      · exact ⟨ne i' h1, ne j' (by omega)⟩
      · exact ⟨ne j' (by omega), ne i' h1⟩
    have hnj := ne j hj
    clear ne hle
    generalize ord.getD k 0 = z at he old hnj
    generalize ord.getD j 0 = y at he hnj
    intro e0 m
    rcases List.mem_append.mp m with m | m
    · obtain ⟨f, h1, h2⟩ := ih e0 m
      obtain ⟨o1, o2⟩ := old e0 m
      refine ⟨fun x => if x = z then f (y) else f x, ?_, fun e' m' ne' => ?_⟩
      · simp only [if_neg o1, if_neg o2]
        exact h1
      · rcases List.mem_append.mp m' with m' | m'
        · obtain ⟨p1, p2⟩ := old e' m'
          simp only [if_neg p1, if_neg p2]
          exact h2 e' m' ne'
        · rw [List.mem_singleton.mp m']
          rcases he with rfl | rfl <;> simp [hnj]
    · rw [List.mem_singleton.mp m]
      refine ⟨fun x => decide (x = z), ?_, fun e' m' ne' => ?_⟩
      · rcases he with rfl | rfl <;> simp [hnj]
      · rcases List.mem_append.mp m' with m' | m'
        · obtain ⟨p1, p2⟩ := old e' m'
          simp [p1, p2]
        · exact absurd (List.mem_singleton.mp m') ne'
/-- a way from a that never comes to y -/
inductive Cn (ks : List Lk) (y a : Int) : Int → Prop
  | base : a ≠ y → Cn ks y a a
  | step {v u : Int} : Cn ks y a v → u ∈ nbr ks v → u ≠ y → Cn ks y a u
theorem Cn.ne {ks : List Lk} {y a v : Int} (h : Cn ks y a v) : v ≠ y := by cases h <;> assumption
theorem cn_f {ks : List Lk} {y a v : Int} {e : Lk} {f : Int → Bool} (he : e.1 = y ∨ e.2 = y) (hf : ∀ e' ∈ ks, e' ≠ e → f e'.1 = f e'.2) (h : Cn ks y a v) : f a = f v := by
  induction h with
  | base _ => rfl
  | @step v u hv hu hy ih =>
    rw [ih]
    have hvy := hv.ne
    rcases (nbr_mem.mp hu).1 with m | m
    · exact hf _ m fun z => by subst z; rcases he with h | h <;> simp only at h <;> first | exact hvy h | exact hy h
    · exact (hf _ m fun z => by subst z; rcases he with h | h <;> simp only at h <;> first | exact hvy h | exact hy h).symm
/-- two neighbours of a station are not joined by a way around it -/
theorem cn_apart {ks : List Lk} (br : BrA ks) {y u w a : Int} (hu : u ∈ nbr ks y) (hw : w ∈ nbr ks y) (ne : u ≠ w) (h1 : Cn ks y a u) (h2 : Cn ks y a w) : False := by
  have go : ∀ e ∈ ks, (e = (y, u) ∨ e = (u, y)) → False := fun e he hd => by
    obtain ⟨f, hs, hall⟩ := br e he
    have hey : e.1 = y ∨ e.2 = y := by rcases hd with rfl | rfl <;> simp
    have huw : f u = f w := (cn_f hey hall h1).symm.trans (cn_f hey hall h2)
    have huy : f u ≠ f y := by
      rcases hd with rfl | rfl
      · exact fun z => hs z.symm
      · exact hs
    have hwy : f w = f y := by
      have hne1 := h2.ne
      rcases (nbr_mem.mp hw).1 with m | m
      · refine (hall _ m fun z => ?_).symm
        rcases hd with rfl | rfl
        · exact ne (congrArg Prod.snd z).symm
        · exact hne1 (congrArg Prod.snd z)
      · refine hall _ m fun z => ?_
        rcases hd with rfl | rfl
        · exact hne1 (congrArg Prod.fst z)
        · exact ne (congrArg Prod.fst z).symm
    exact huy (huw.trans hwy)
  rcases (nbr_mem.mp hu).1 with m | m
  · exact go _ m (.inl rfl)
  · exact go _ m (.inr rfl)

/-! ### a schedule in a network without rings, plainly -/
def sv (s : List Int) (x : Int) : Int := s.getD x.toNat 0
def Lr (L : List (List Int)) (x : Int) : List Int := L.getD x.toNat []
/-- the stations that are reached from v by stations that are off -/
inductive Rg (ks : List Lk) (s : List Int) (v : Int) : Int → Prop
  | base : Rg ks s v v
  | step {x u : Int} : Rg ks s v x → u ∈ nbr ks x → sv s u = 0 → Rg ks s v u
/-- each station that is on beside them is a helper of its neighbour, by its channel, above c -/
def CondS (ks : List Lk) (L : List (List Int)) (s : List Int) (v : Int) (c : Nat) : Prop := ∀ y z, Rg ks s v z → y ∈ nbr ks z → sv s y ≠ 0 → (c : Int) < sv s y ∧ (Lr L z)[(sv s y - 1).toNat]? = some y
/-- what is known of the helpers -/
structure HelpS (n : Nat) (ks : List Lk) (L : List (List Int)) (t : List Int) : Prop where
  nb : ∀ v : Int, 0 ≤ v → v < n → ∀ u ∈ Lr L v, u ∈ nbr ks v
  nd : ∀ v : Int, 0 ≤ v → v < n → (Lr L v).Nodup
  len : ∀ v : Int, 0 ≤ v → v < n → sv t v ≤ (Lr L v).length + 1
  big : ∀ v : Int, 0 ≤ v → v < n → ∀ (i : Nat) (u : Int), (Lr L v)[i]? = some u → (i : Int) < sv t u
theorem help_ok {n : Nat} {ks : List Lk} {t : List Int} (hk : OkLks n ks) (g : GT n ks t) : HelpS n ks (helpL n ks t) t := by
  have row : ∀ v : Int, 0 ≤ v → v < n → Lr (helpL n ks t) v = grab (fun u => t.getD u.toNat 0) [] (keyOrd (fun u => t.getD u.toNat 0) (nbr ks v)) := fun v h0 h1 => by
    unfold Lr
    rw [List.getD_eq_getElem?_getD, helpL_at ks t (show v.toNat < n by omega), Int.toNat_of_nonneg h0]
    rfl
  refine ⟨fun v h0 h1 u m => ?_, fun v h0 h1 => ?_, fun v h0 h1 => ?_, fun v h0 h1 i u h => ?_⟩
  · rw [row v h0 h1] at m
    exact (keyOrd_perm _ _).mem_iff.mp (grab_mem m)
  · rw [row v h0 h1]
    exact grab_nodup ((keyOrd_perm _ _).nodup_iff.mpr (nbr_nodup hk _))
  · rw [row v h0 h1, grab_chain (keyOrd_perm _ _) (keyOrd_pw _ _)]
    have h2 := nextT_at ks t (show v.toNat < n by omega)
    rw [g.2.1, Int.toNat_of_nonneg h0] at h2
    show t.getD v.toNat 0 ≤ _
    omega
  · rw [row v h0 h1] at h
    exact grab_at (fun u => t.getD u.toNat 0) _ [] (fun i x hx => by simp at hx) i u h
theorem sv_set {s : List Int} {x y c : Int} (hx : 0 ≤ x) (hy : 0 ≤ y) (h : x.toNat < s.length) : sv (s.set x.toNat c) y = if x = y then c else sv s y := by
  unfold sv
  rw [List.getD_eq_getElem?_getD, List.getD_eq_getElem?_getD, List.getElem?_set]
  by_cases e : x = y
  · subst e
    rw [if_pos rfl, if_pos h, if_pos rfl]
    rfl
  · rw [if_neg (by omega), if_neg e]
theorem sv_ext {s t : List Int} (hl : s.length = t.length) (h : ∀ x : Int, 0 ≤ x → x < s.length → sv s x = sv t x) : s = t := by
  refine List.ext_getElem hl fun i h1 h2 => ?_
  have := h (i : Int) (by omega) (by omega)
  unfold sv at this
  rw [Int.toNat_natCast] at this
  simpa [h1, h2] using this
/-- the stations of a list are switched -/
def playI (ks : List Lk) (s : List Int) (l : List Int) : List Int := playS ks s (l.map Int.toNat)
theorem playI_app (ks : List Lk) (s : List Int) (a b : List Int) : playI ks s (a ++ b) = playI ks (playI ks s a) b := by
  unfold playI playS
  rw [List.map_append, List.foldl_append]
theorem playI_one (ks : List Lk) (s : List Int) (v : Int) : playI ks s [v] = swS ks s v.toNat := rfl
theorem playI_len (ks : List Lk) : ∀ (l : List Int) (s : List Int), (playI ks s l).length = s.length
  | [], s => rfl
  | v :: l, s => by
    show (playI ks (swS ks s v.toNat) l).length = _
    rw [playI_len ks l, swS_len]
/-- stations that are on go off -/
theorem playI_off {n : Nat} (ks : List Lk) : ∀ (l : List Int) (s : List Int), s.length = n → l.Nodup → (∀ x ∈ l, 0 ≤ x ∧ x < (n : Int) ∧ 0 < sv s x) → ∀ y : Int, 0 ≤ y → sv (playI ks s l) y = if y ∈ l then 0 else sv s y
  | [], s, _, _, _, y, _ => by rw [if_neg List.not_mem_nil]; rfl
  | x :: l, s, hl, nd, h, y, hy => by
    obtain ⟨x0, x1, xp⟩ := h x (List.mem_cons_self ..)
    have hxl : x.toNat < s.length := by omega
    have e : swS ks s x.toNat = s.set x.toNat 0 := by
      unfold swS
      exact if_pos xp
    show sv (playI ks (swS ks s x.toNat) l) y = _
    rw [e, playI_off (n := n) ks l (s.set x.toNat 0) (by rw [List.length_set]; exact hl) (List.nodup_cons.mp nd).2 (fun z m => ?_) y hy, sv_set x0 hy hxl]
    · by_cases c1 : y ∈ l
      · rw [if_pos c1, if_pos (List.mem_cons_of_mem _ c1)]
      · rw [if_neg c1]
        by_cases c2 : x = y
        · rw [if_pos c2, if_pos (List.mem_cons.mpr (.inl c2.symm))]
        · rw [if_neg c2, if_neg fun m => (List.mem_cons.mp m).elim (fun z => c2 z.symm) c1]
    · obtain ⟨z0, z1, zp⟩ := h z (List.mem_cons_of_mem _ m)
      refine ⟨z0, z1, ?_⟩
      rw [sv_set x0 z0 hxl, if_neg fun e => (List.nodup_cons.mp nd).1 (by rw [e]; exact m)]
      exact zp
theorem rg_bd {n : Nat} {ks : List Lk} {s : List Int} {v z : Int} (ok : ∀ e ∈ ks, OkLk n e) (h0 : 0 ≤ v) (h1 : v < n) (h : Rg ks s v z) : 0 ≤ z ∧ z < n := by
  induction h with
  | base => exact ⟨h0, h1⟩
  | step _ hu _ _ => exact nbr_lt ok _ _ hu
theorem set_ok {n : Nat} {ks : List Lk} {L : List (List Int)} {t : List Int} (hk : OkLks n ks) (br : BrA ks) (hh : HelpS n ks L t) : ∀ (c : Nat) (v : Int) (s : List Int), 1 ≤ c → (c : Int) ≤ sv t v → 0 ≤ v → v < n → s.length = n → (∀ x : Int, 0 ≤ x → x < n → 0 ≤ sv s x) → sv s v = 0 → CondS ks L s v c →
    playI ks s (setP L c c v) = s.set v.toNat c := by
  intro c
  induction c using Nat.strongRecOn with
  | _ c ih =>
    intro v s hc1 hct v0 v1 hsl hnn hoff cond
    obtain ⟨sm, hsm⟩ : ∃ sm, sm = (Lr L v).take (c - 1) := ⟨_, rfl⟩
    have hlen := hh.len v v0 v1
    have hsl' : sm.length = c - 1 := by rw [hsm, List.length_take]; omega
    have snd : sm.Nodup := by rw [hsm]; exact (hh.nd v v0 v1).sublist (List.take_sublist _ _)
    have smL : ∀ i u, sm[i]? = some u → (Lr L v)[i]? = some u ∧ i < c - 1 := fun i u h => by
      have hi := (List.getElem?_eq_some_iff.mp h).1
      rw [hsm, List.getElem?_take] at h
      split at h
      · exact ⟨h, by omega⟩
      · cases h
    have smn : ∀ u ∈ sm, u ∈ nbr ks v := fun u m => hh.nb v v0 v1 u (List.mem_of_mem_take (hsm ▸ m))
    have smb : ∀ u ∈ sm, 0 ≤ u ∧ u < (n : Int) := fun u m => nbr_lt hk.1 _ _ (smn u m)
    have smo : ∀ u ∈ sm, sv s u = 0 := fun u m => by
      obtain ⟨i, hi⟩ := List.mem_iff_getElem?.mp m
      obtain ⟨h1, h2⟩ := smL i u hi
      by_cases e : sv s u = 0
      · exact e
      · obtain ⟨h3, h4⟩ := cond u v .base (smn u m) e
        have := (List.getElem?_inj (List.getElem?_eq_some_iff.mp h1).1 (hh.nd v v0 v1)).mp (h1.trans h4.symm)
        omega
    -- after the first m helpers, from the last one on
    obtain ⟨g, hg⟩ : ∃ g : Nat → List Int, g = fun i => setP L (c - 1) (i + 1) (sm.getD i 0) := ⟨_, rfl⟩
    have run : ∀ m, m ≤ c - 1 → ∀ st, st = playI ks s (((List.range (c - 1)).reverse.take m).map g).flatten → st.length = n ∧ (∀ i u, c - 1 - m ≤ i → sm[i]? = some u → sv st u = (i : Int) + 1) ∧ (∀ x : Int, 0 ≤ x → x < n → (∀ i, c - 1 - m ≤ i → sm[i]? ≠ some x) → sv st x = sv s x) := by
      intro m
      induction m with
      | zero =>
        intro _ st hst
        rw [List.take_zero] at hst
        subst hst
        exact ⟨hsl, fun i u h1 h2 => by have := (smL i u h2).2; omega, fun x _ _ _ => rfl⟩
      | succ m ihm =>
        intro hm st hst
        obtain ⟨st1, hst1⟩ : ∃ st1, st1 = playI ks s (((List.range (c - 1)).reverse.take m).map g).flatten := ⟨_, rfl⟩
        obtain ⟨l1, on1, of1⟩ := ihm (by omega) st1 hst1
        obtain ⟨k, hk'⟩ : ∃ k, k = c - 1 - (m + 1) := ⟨_, rfl⟩
        have hR : (List.range (c - 1)).reverse[m]? = some k := by
          rw [List.getElem?_reverse (by rw [List.length_range]; omega), List.length_range, List.getElem?_range (by omega)]
          congr 1
          omega
        obtain ⟨u, hu⟩ : ∃ u, sm[k]? = some u := ⟨_, List.getElem?_eq_getElem (by omega)⟩
        have hum : u ∈ sm := List.mem_of_getElem? hu
        obtain ⟨u0, u1⟩ := smb u hum
        have hug : sm.getD k 0 = u := by rw [List.getD_eq_getElem?_getD, hu]; rfl
        have est : st = playI ks st1 (setP L (k + 1) (k + 1) u) := by
          rw [hst, List.take_add_one, hR, show (some k).toList = [k] from rfl, List.map_append, List.flatten_append, playI_app, ← hst1]
          show playI ks st1 ((g k) ++ []) = _
          rw [List.append_nil, hg]
          show playI ks st1 (setP L (c - 1) (k + 1) (sm.getD k 0)) = _
          rw [setP_fuel L (c - 1) (k + 1) (k + 1) _ (by omega) (by omega) (Nat.le_refl _), hug]
        have notdone : ∀ i, c - 1 - m ≤ i → sm[i]? ≠ some u := fun i hi e => by
          have := (List.getElem?_inj (List.getElem?_eq_some_iff.mp hu).1 snd).mp (hu.trans e.symm)
          omega
        have hvdone : ∀ i, c - 1 - m ≤ i → sm[i]? ≠ some v := fun i _ e => nbr_irr hk.1 (smn v (List.mem_of_getElem? e))
        have off1 : ∀ x : Int, 0 ≤ x → x < n → sv st1 x = 0 → sv s x = 0 := fun x x0 x1 hx => by
          by_cases d : ∃ i, c - 1 - m ≤ i ∧ sm[i]? = some x
          · obtain ⟨i, h1, h2⟩ := d
            rw [on1 i x h1 h2] at hx
            omega
          · rw [← of1 x x0 x1 fun i h1 h2 => d ⟨i, h1, h2⟩]
            exact hx
        have hu0 : sv st1 u = 0 := by rw [of1 u u0 u1 notdone]; exact smo u hum
        have hv0 : sv st1 v = 0 := by rw [of1 v v0 v1 hvdone]; exact hoff
        have key : playI ks st1 (setP L (k + 1) (k + 1) u) = st1.set u.toNat ((k + 1 : Nat) : Int) := by
          refine ih (k + 1) (by omega) u st1 (by omega) ?_ u0 u1 l1 (fun x x0 x1 => ?_) hu0 (fun y z hz hy hyn => ?_)
          · have := hh.big v v0 v1 k u (smL k u hu).1
            omega
          · by_cases d : ∃ i, c - 1 - m ≤ i ∧ sm[i]? = some x
            · obtain ⟨i, h1, h2⟩ := d
              rw [on1 i x h1 h2]
              omega
            · rw [of1 x x0 x1 fun i h1 h2 => d ⟨i, h1, h2⟩]
              exact hnn x x0 x1
          · obtain ⟨z0, z1⟩ := rg_bd hk.1 u0 u1 hz
            obtain ⟨y0, y1⟩ := nbr_lt hk.1 _ _ hy
            have hzv : Rg ks s v z := by
              clear hy
              induction hz with
              | base => exact .step .base (smn u hum) (smo u hum)
              | step hx hw h0 ih' =>
                obtain ⟨x0, x1⟩ := rg_bd hk.1 u0 u1 hx
                obtain ⟨w0, w1⟩ := nbr_lt hk.1 _ _ hw
                exact .step (ih' x0 x1) hw (off1 _ w0 w1 h0)
            by_cases d : ∃ i, c - 1 - m ≤ i ∧ sm[i]? = some y
            · obtain ⟨i, h1, h2⟩ := d
              have hyv := smn y (List.mem_of_getElem? h2)
              have hsy := on1 i y h1 h2
              have hcn : Cn ks y u z := by
                clear hzv hy z0 z1
                induction hz with
                | base => exact .base fun e => notdone i h1 (e ▸ h2)
                | step hx hw h0 ih' => exact .step ih' hw fun e => by rw [e, hsy] at h0; omega
              have hcv : Cn ks y u v := .step (.base fun e => notdone i h1 (e ▸ h2)) (nbr_symm (smn u hum)) fun e => nbr_irr hk.1 (e ▸ hyv)
              have ezv : z = v := by
                by_cases e : z = v
                · exact e
                · exact (cn_apart br (nbr_symm hy) (nbr_symm hyv) e hcn hcv).elim
              rw [hsy, ezv]
              refine ⟨by omega, ?_⟩
              rw [show ((i : Int) + 1 - 1).toNat = i by omega]
              exact (smL i y h2).1
            · have e := of1 y y0 y1 fun i h1 h2 => d ⟨i, h1, h2⟩
              rw [e] at hyn ⊢
              obtain ⟨h3, h4⟩ := cond y z hzv hy hyn
              exact ⟨by omega, h4⟩
        rw [key] at est
        subst est
        have hul : u.toNat < st1.length := by omega
        refine ⟨by rw [List.length_set]; exact l1, fun i x hi hx => ?_, fun x x0 x1 hx => ?_⟩
        · have xb := smb x (List.mem_of_getElem? hx)
          rw [sv_set u0 xb.1 hul]
          by_cases e : u = x
          · rw [if_pos e]
            subst e
            have := (List.getElem?_inj (List.getElem?_eq_some_iff.mp hu).1 snd).mp (hu.trans hx.symm)
            omega
          · rw [if_neg e]
            refine on1 i x ?_ hx
            by_cases e2 : i = k
            · subst e2
              rw [hu] at hx
              exact absurd (Option.some.inj hx) e
            · omega
        · rw [sv_set u0 x0 hul, if_neg (fun e : u = x => hx k (by omega) (e ▸ hu))]
          exact of1 x x0 x1 fun i hi => hx i (by omega)
    obtain ⟨st, hst⟩ : ∃ st, st = playI ks s (((List.range (c - 1)).reverse.take (c - 1)).map g).flatten := ⟨_, rfl⟩
    obtain ⟨l1, on1, of1⟩ := run (c - 1) (Nat.le_refl _) st hst
    rw [List.take_of_length_le (by rw [List.length_reverse, List.length_range]; exact Nat.le_refl _)] at hst
    have on2 : ∀ (i : Nat) (u : Int), sm[i]? = some u → sv st u = (i : Int) + 1 := fun i u h => on1 i u (by omega) h
    have of2 : ∀ x : Int, 0 ≤ x → x < n → x ∉ sm → sv st x = sv s x := fun x x0 x1 hx => of1 x x0 x1 fun i _ e => hx (List.mem_of_getElem? e)
    have vsm : v ∉ sm := fun m => nbr_irr hk.1 (smn v m)
    have hvst : sv st v = 0 := by rw [of2 v v0 v1 vsm]; exact hoff
    have hvl : v.toNat < st.length := by omega
    have cv : ((v.toNat : Nat) : Int) = v := by omega
    have hmex : mex (usedS ks st ((v.toNat : Nat) : Int)) = (c : Int) := by
      rw [cv]
      refine (mex_uniq (by omega) (fun m => ?_) fun b b1 b2 => ?_).symm
      · obtain ⟨u, hu, eu⟩ := List.mem_map.mp m
        have eu : sv st u = (c : Int) := eu
        obtain ⟨u0, u1⟩ := nbr_lt hk.1 _ _ hu
        by_cases d : u ∈ sm
        · obtain ⟨i, hi⟩ := List.mem_iff_getElem?.mp d
          have := (smL i u hi).2
          rw [on2 i u hi] at eu
          omega
        · rw [of2 u u0 u1 d] at eu
          have := (cond u v .base hu (by omega)).1
          omega
      · obtain ⟨u, hu⟩ : ∃ u, sm[(b - 1).toNat]? = some u := ⟨_, List.getElem?_eq_getElem (by omega)⟩
        refine List.mem_map.mpr ⟨u, smn u (List.mem_of_getElem? hu), ?_⟩
        show sv st u = b
        rw [on2 _ u hu]
        omega
    have hsw : swS ks st v.toNat = st.set v.toNat (c : Int) := by
      unfold swS
      rw [if_neg (by show ¬ 0 < sv st v; omega)]
      unfold onS
      rw [hmex]
    obtain ⟨c', rfl⟩ : ∃ c', c = c' + 1 := ⟨c - 1, by omega⟩
    have eP : setP L (c' + 1) (c' + 1) v = (((List.range (c' + 1 - 1)).reverse.map g).flatten ++ [v]) ++ sm := by
      have e1 : (L.getD v.toNat []).take (c' + 1 - 1) = sm := hsm.symm
      show (((List.range ((L.getD v.toNat []).take (c' + 1 - 1)).length).reverse.map fun i => setP L c' (i + 1) (((L.getD v.toNat []).take (c' + 1 - 1)).getD i 0)).flatten ++ [v]) ++ (L.getD v.toNat []).take (c' + 1 - 1) = _
      rw [e1, hsl', hg]
      rfl
    rw [eP, playI_app, playI_app, ← hst, playI_one, hsw]
    have on3 : ∀ x ∈ sm, 0 ≤ x ∧ x < (n : Int) ∧ 0 < sv (st.set v.toNat ((c' + 1 : Nat) : Int)) x := fun x m => by
      obtain ⟨x0, x1⟩ := smb x m
      refine ⟨x0, x1, ?_⟩
      obtain ⟨i, hi⟩ := List.mem_iff_getElem?.mp m
      rw [sv_set v0 x0 hvl, if_neg (fun e : v = x => vsm (e ▸ m)), on2 i x hi]
      omega
    have hl2 : (st.set v.toNat ((c' + 1 : Nat) : Int)).length = n := by rw [List.length_set]; exact l1
    refine sv_ext (by rw [playI_len, hl2, List.length_set, hsl]) fun x x0 x1 => ?_
    rw [playI_len, hl2] at x1
    rw [playI_off ks sm _ hl2 snd on3 x x0, sv_set v0 x0 hvl, sv_set v0 x0 (by omega)]
    by_cases d : x ∈ sm
    · rw [if_pos d, if_neg (fun e : v = x => vsm (e ▸ d))]
      exact (smo x d).symm
    · rw [if_neg d]
      by_cases e : v = x
      · rw [if_pos e, if_pos e]
      · rw [if_neg e, if_neg e]
        exact of2 x x0 x1 d

abbrev s_NoBound_init : Stmt := inClass (top 6) 0
theorem sc_NoBound_init : FnScope ["self", "index"] ["self", "index"] (defScope s_NoBound_init) := ⟨rfl, rfl, rfl, by decide +kernel, rfl, by decide +kernel, by decide +kernel⟩
theorem x_of_NoBound {P : Program} {w : World} {K : PySem.W.Frag} {mg : Str → Option Value} {base : Heap} {B C : Addr} (ce : CeB K mg B) (D : ExcAt K mg "NoBound" C "index" "NoBound.__init__" s_NoBound_init) : CalX P w K mg base 1 "NoBound" C "index" (spErr K C "index") := by
  refine D.cal (ps := ["self", "index"]) (fun _ _ _ _ _ _ us hl => match us, hl with | [_, _], _ => rfl) fun f fd F => ?_
  refine F.ok sc_NoBound_init (fun vs H Q E h => ?_) (fun cdv A outer s H vs Q E hr h => ?_)
  · obtain ⟨a, v, rfl, _⟩ := h
    rfl
  · obtain ⟨a, v, rfl, T, nf, ha, k⟩ := h
    refine ⟨_, (pss_cons (ps_expr (pe_ceinit ce rfl (pa_cons (pv 0) (pa_cons pe_str pa_nil))))
  (pss_one (ps_ost (pv 0) (pv 1) rfl))), ?_⟩
    exact ⟨_, rfl, a, C, _, rfl, (by show 1 ≤ 1000; decide), T, ha, _, rfl, _, rfl, a, C, rfl, T, nf, .inl ⟨ha, fun dx hdx hne => k dx hdx hne⟩⟩
abbrev s_check_bound : Stmt := top 27
theorem sc_check_bound : FnScope ["network", "table", "index", "number", "one"] ["network", "table"] (defScope s_check_bound) := ⟨rfl, rfl, rfl, by decide +kernel, rfl, by decide +kernel, by decide +kernel⟩
def posI : PyData → Bool
  | .int i => decide (1 ≤ i)
  | _ => false
def intOf : PyData → Int
  | .int i => i
  | _ => 0
theorem posI_int {d : PyData} (h : posI d = true) : d = .int (intOf d) ∧ 1 ≤ intOf d := by
  cases d with
  | int i => exact ⟨rfl, by simpa [posI, intOf] using h⟩
  | _ => cases h
/-- the first i below n of which p holds -/
def firstI (n : Nat) (p : Nat → Bool) : Option Nat := (List.range n).find? p
theorem firstI_some {n i : Nat} {p : Nat → Bool} (h : p i = true) (hi : i < n) (k : ∀ j, j < i → p j = false) : firstI n p = some i := List.find?_range_eq_some.mpr ⟨h, List.mem_range.mpr hi, fun j hj => by rw [k j hj]; rfl⟩
theorem firstI_none {n : Nat} {p : Nat → Bool} (k : ∀ j, j < n → p j = false) : firstI n p = none := List.find?_range_eq_none.mpr fun j hj => by rw [k j hj]; rfl
def tooLow (ks : List Lk) (t : List Int) (i : Nat) : Bool := decide (t.getD i 0 ≤ chainN ((nbr ks (i : Int)).map fun u => t.getD u.toNat 0))
/-- what is wrong with a bound -/
def dueB (n : Nat) (ks : List Lk) : PyData → Option Int
  | .tuple ds => if ds.length = n then (match firstI n (fun i => !posI (ds.getD i .none)) with
    | some i => some (i : Int)
    | none => match firstI n (tooLow ks (ds.map intOf)) with
      | some i => some ((n : Int) + (i : Int))
      | none => none) else some (-1)
  | _ => some (-1)
theorem dt_ints {H : Hp} : ∀ {xs : List V} {t : List Int}, DtAll H xs (t.map PyData.int) → xs = t.map V.int
  | xs, [], h => by cases h; rfl
  | xs, z :: t, h => by
    rw [List.map_cons] at h
    cases h with
    | cons a r =>
      cases a
      rw [dt_ints r]
      rfl
def spBound (Z : List (Addr × Str)) (C CN : Addr) : Sp := fun vs H Q E => ∃ (p : Addr) (n : Nat) (ks : List Lk) (v : V) (d : PyData), vs = [.ref p, v] ∧ NetAt C H p n ks ∧ n ≤ 60 ∧ ks.length ≤ 100000 ∧ (∀ e ∈ ks, OkLk n e) ∧ Dt H v d ∧
  (∀ i, dueB n ks d = some i → RaisesIx Z E CN H i) ∧ (dueB n ks d = none → ∀ H', Sm Z H H' → Q .non H')
section
variable {P : Program} {w : World} {K : PySem.W.Frag} {mg : Str → Option Value} {base : Heap} {Z : List (Addr × Str)} {C CN : Addr}
theorem ok_bound (T : Bt mg) (N : NetC K C) (c_is_int : Cal P w K mg base CX0 1 "is_int" (spIsInt K)) (c_chain : Cal P w K mg base CX0 1 "chain" (spChain Z K)) (c_len : CalL P w K mg base 1 C (spLen C))
    (x_NoBound : CalX P w K mg base 1 "NoBound" CN "index" (spErr K CN "index")) {f : Addr} {fd : FuncData} (F : Fun K "check_bound" "check_bound" s_check_bound f fd) :
    FnOk P w K mg base (L2.CX P w) 3 f fd ["network", "table"] (spBound Z C CN) := by
  refine F.okX sc_check_bound (fun vs H Q E h => ?_) (fun cdv A outer s H vs Q E hr h => ?_)
  · obtain ⟨p, n, ks, v, d, rfl, _⟩ := h
    rfl
  · obtain ⟨p, n, ks, v, d, rfl, hn, hn60, hkl, hok, hd, kE, kQ⟩ := h
    refine ⟨_, (pss_cons (ps_if (PW.pt (pw_or (pt_not (pt_val (pe_callB (call_isiK K) (by rfl) T.no_isinstance (by decide +kernel) (pa_cons (pv 1) (pa_cons (pe_ty "tuple" (by rfl) T.no_tuple (by decide +kernel)) pa_nil))))) (pw_or1 (pt_cmpR op_ne (pe_callB (call_lenK K) (by rfl) T.no_len (by decide +kernel) (pa_cons (pv 1) pa_nil)) (pe_lenOwn hr (by decide) c_len pass0 (by rfl) T.no_len (pa_cons (pv 0) pa_nil)) (nomark _))))) (pss_one (ps_raiseOwn rfl hr (by decide) x_NoBound (takes_of rfl rfl rfl rfl) rfl (pa_cons (pe_un un_neg pe_int) pa_nil))) pss_nil)
  (pss_cons (ps_for (passes_of rfl) rfl (pi_enumTK K (by rfl) T.no_enumerate (pa_cons (pv 1) pa_nil)) (pg_tupK K 2 rfl (pgs_cons (pg_name (i := 2) sc_check_bound.nd rfl (Or.inl rfl)) (pgs_cons (pg_name (i := 3) sc_check_bound.nd rfl (Or.inl rfl)) pgs_nil))) (pss_one (ps_if (PW.pt (pw_or (pt_not (pt_val (pe_cal hr (by decide) c_is_int pass0 rfl (pa_cons (pv 3) pa_nil)))) (pw_or1 (pt_cmpR op_lt (pv 3) pe_int (nomark _))))) (pss_one (ps_raiseOwn rfl hr (by decide) x_NoBound (takes_of rfl rfl rfl rfl) rfl (pa_cons (pv 2) pa_nil))) pss_nil)))
  (pss_one (ps_for (passes_of rfl) rfl (pi_enumTK K (by rfl) T.no_enumerate (pa_cons (pv 1) pa_nil)) (pg_tupK K 2 rfl (pgs_cons (pg_name (i := 2) sc_check_bound.nd rfl (Or.inl rfl)) (pgs_cons (pg_name (i := 3) sc_check_bound.nd rfl (Or.inl rfl)) pgs_nil))) (pss_one (ps_if (pt_cmpR op_ge (pe_cal hr (by decide) c_chain pass0 rfl (pa_cons (pe_lc (own := [("one", 4)]) (g := gName 4) rfl sc_check_bound.nd (pi_listK K (pe_ix (ix_listK K) (pe_fldK K (pv 0) rfl) (pv 2) (fun _ _ => rfl))) (blkOk_by (by kernel_rfl)) (fun _ _ _ _ _ => (pg_name (i := 4) sc_check_bound.nd rfl (Or.inl rfl))) (fun _ _ _ _ _ => pts_nil) (fun _ _ _ _ _ => (pe_ix (ix_tupK K) (pv 1) (pv 4) (fun _ _ => rfl)))) pa_nil)) (pv 3) (nomark _)) (pss_one (ps_raiseOwn rfl hr (by decide) x_NoBound (takes_of rfl rfl rfl rfl) rfl (pa_cons (pe_op op_add (pe_callB (call_lenK K) (by rfl) T.no_len (by decide +kernel) (pa_cons (pv 1) pa_nil)) (pv 2)) pa_nil))) pss_nil)))))), ?_⟩
    walk_at "rd"
    refine rd_isi hd.ty (kit_tuple (tyN_kind d)) ?_
    walk_at "rd"
    have raised : ∀ i, dueB n ks d = some i → ∀ H1, Sm Z H H1 → ∀ d1 H2, NewO H1 d1 (.xd [("index", .int i)]) H2 → E (.ref CN) (some d1) H2 := fun i e H1 s d1 H2 h => kE i e d1 H2 (s.new h.s) h.at'
    cases hd with
    | tup ha hds =>
      rename_i a xs ds
      refine L2.iteF ?_
      walk_at "rd"
      refine rd_lenT (SqT.of ha) ?_
      walk_at "rd"
      refine rd_len hn (by omega) ?_
      have hl := hds.length
      walk_at "rd"
      refine rifN (fun c => ?_) (fun c => ?_)
      · walk_at "rd"
        exact raised (-1) (by show (if ds.length = n then _ else _) = _; rw [if_neg (by omega)]) H (Sm.refl H)
      have hln : ds.length = n := by omega
      walk_at "rd"
      refine ⟨a, xs, rfl, SqT.of ha, ?_⟩
      refine for_w (T := Z) (wk_enumT (SqT.of ha)) (fun i σ' H' => ∃ u2 u3, σ' = [some (.ref p), some (.ref a), u2, u3, none] ∧ Sm Z H H' ∧ ∀ j : Nat, j < i → posI (ds.getD j .none) = true) ⟨none, none, rfl, Sm.refl H, fun j hj => absurd hj (Nat.not_lt_zero j)⟩
        (fun i σ' H' h => by obtain ⟨_, _, _, h, _⟩ := h; exact h) (fun i x σ1 H1 H2 hi hP s2 hit => ?_) (fun σ' H' hP => ?_)
      · obtain ⟨u2, u3, rfl, s1, good⟩ := hP
        obtain ⟨t, y, rfl, ht, hy⟩ := hit
        obtain ⟨d, hd, hyd⟩ := hds.get hy
        have s12 := s1.new s2
        have gd : ds.getD i .none = d := by simp [List.getD, hd]
        have bad : posI d = false → dueB n ks (.tuple ds) = some (i : Int) := fun hb => by
          show (if ds.length = n then _ else _) = _
          rw [if_pos hln, firstI_some (i := i) (by rw [gd, hb]; rfl) (by omega) (fun j hj => by rw [good j hj]; rfl)]
        refine rd_gtup2 (SqT.of ht) rfl ?_
        walk_at "rd"
        refine ⟨y, tyN d, rfl, (hyd.sm s12).ty, tyN_kind d, ?_⟩
        walk_at "rd"
        refine rif (fun c => ?_) (fun c => ?_)
        · walk_at "rd"
          exact raised _ (bad (by cases d <;> first | rfl | simp [tyN] at c)) H2 s12
        obtain ⟨z, rfl⟩ : ∃ z, d = .int z := by
          cases d with
          | int z => exact ⟨z, rfl⟩
          | _ => simp [tyN] at c
        cases hyd
        walk_at "rd"
        refine rifD (fun c2 => ?_) (fun c2 => ?_)
        · walk_at "rd"
          exact raised _ (bad (by show decide (1 ≤ z) = false; exact decide_eq_false (by omega))) H2 s12
        walk_at "rd"
        refine ⟨_, _, rfl, s12, fun j hj => ?_⟩
        by_cases cj : j < i
        · exact good j cj
        · have e : j = i := by omega
          subst e
          rw [gd]
          exact decide_eq_true (by omega)
      · obtain ⟨u2, u3, rfl, s1, good⟩ := hP
        have hpos : ∀ j, j < n → posI (ds.getD j .none) = true := fun j hj => good j (by omega)
        have hdi : ds = (ds.map intOf).map PyData.int := by
          rw [List.map_map]
          refine (List.map_id ds).symm.trans (List.map_congr_left fun d m => ?_)
          obtain ⟨j, hj⟩ := List.mem_iff_getElem?.mp m
          have := hpos j (by have := (List.getElem?_eq_some_iff.mp hj).1; omega)
          rw [List.getD, hj] at this
          exact (posI_int this).1
        walk_at "rd"
        generalize ht0 : ds.map intOf = t at hdi
        subst hdi
        have htl : t.length = n := by simpa using hln
        have hds' : xs = t.map V.int := dt_ints hds
        subst hds'
        have due0 : dueB n ks (.tuple (t.map PyData.int)) = match firstI n (tooLow ks t) with | some i => some ((n : Int) + (i : Int)) | none => none := by
          show (if (t.map PyData.int).length = n then _ else _) = _
          rw [if_pos hln, firstI_none (fun j hj => by rw [hpos j hj]; rfl)]
          show (match firstI n (tooLow ks ((t.map PyData.int).map intOf)) with | some i => some ((n : Int) + (i : Int)) | none => none) = _
          rw [ht0]
        refine ⟨a, _, rfl, SqT.of (s1.tup ha), ?_⟩
        refine for_w (T := Z) (wk_enumT (SqT.of (s1.tup ha))) (fun i σ' H2 => ∃ u2 u3, σ' = [some (.ref p), some (.ref a), u2, u3, none] ∧ Sm Z H' H2 ∧ ∀ j : Nat, j < i → tooLow ks t j = false) ⟨u2, u3, rfl, Sm.refl H', fun j hj => absurd hj (Nat.not_lt_zero j)⟩
          (fun i σ' H' h => by obtain ⟨_, _, _, h, _⟩ := h; exact h) (fun i x σ1 H1 H2 hi hP s2 hit => ?_) (fun σ' H2 hP => ?_)
        · obtain ⟨u2, u3, rfl, s3, good2⟩ := hP
          obtain ⟨tt, y, rfl, ht, hy⟩ := hit
          have hi' : i < n := by simpa [htl] using hi
          have hy' : y = .int (t.getD i 0) := by
            rw [List.getElem?_map, List.getElem?_eq_getElem (by omega)] at hy
            rw [← Option.some.inj hy]
            simp [show i < t.length by omega]
          subst hy'
          have s12 : Sm Z H H2 := s1.trans (s3.new s2)
          refine rd_gtup2 (SqT.of ht) rfl ?_
          walk_at "rd"
          refine rd_near N (hn.sm s12) (fun nr hr => ?_)
          walk_at "rd"
          refine rd_row hr i rfl (nbrs_at ks hi') (fun q hq => ?_)
          refine ⟨q, rfl, ⟨_, SqL.of hq⟩, ?_⟩
          have hnl : ((nbr ks (i : Int)).map V.int).length < sizeLine := by
            have := nbr_len ks (i : Int)
            rw [List.length_map, sizeLine_eq]
            omega
          refine lcm_w (T := Z) (wk_list (SqL.of hq)) hnl (fun j => .int (t.getD ((nbr ks (i : Int)).getD j 0).toNat 0)) (fun j x H5 H6 hj s5 s6 it2 kt2 ht2 => ?_) (fun D5 H5 fD5 s5 hD5 => ?_)
          · refine ⟨rfl, ?_⟩
            have hj' : j < (nbr ks (i : Int)).length := by simpa using hj
            have hx : x = .int ((nbr ks (i : Int)).getD j 0) := by
              have it3 : ((nbr ks (i : Int)).map V.int)[j]? = some x := it2
              rw [List.getElem?_map, List.getElem?_eq_getElem hj'] at it3
              rw [← Option.some.inj it3]
              simp [hj']
            subst hx
            have mem : (nbr ks (i : Int)).getD j 0 ∈ nbr ks (i : Int) := by
              simp [hj']
            have hb := nbr_lt hok _ _ mem
            walk_at "rd"
            exact rd_intT ((s12.trans (s5.new s6)).tup ha) _ (by omega) (by rw [htl]; omega) (ht2 H6 (Sm.of s6))
          · walk_at "rd"
            refine ⟨D5, (nbr ks (i : Int)).map fun u => t.getD u.toNat 0, rfl, ?_, fun H6 s6 => ?_⟩
            · refine SqL.of ?_
              rw [hD5, List.map_map]
              congr 2
              exact map_at (by simp) (fun j a e => by simp [e])
            · walk_at "rd"
              have s16 : Sm Z H H6 := s12.trans (s5.trans s6)
              refine rifD (fun c2 => ?_) (fun c2 => ?_)
              · walk_at "rd"
                refine rd_lenT (SqT.of (s16.tup ha)) ?_
                walk_at "rd"
                rw [List.length_map, htl]
                exact raised _ (by rw [due0, firstI_some (i := i) (decide_eq_true c2) hi' (fun j hj => good2 j hj)]) H6 s16
              · walk_at "rd"
                refine ⟨_, _, rfl, (s3.new s2).trans (s5.trans s6), fun j hj => ?_⟩
                by_cases cj : j < i
                · exact good2 j cj
                · have e : j = i := by omega
                  subst e
                  exact decide_eq_false c2
        · obtain ⟨u2, u3, rfl, s3, good2⟩ := hP
          exact kQ (by rw [due0, firstI_none (fun j hj => good2 j (by simpa [htl] using hj))]) H2 (s1.trans s3)
    | _ =>
      refine L2.iteT ?_
      walk_at "rd"
      exact raised (-1) rfl H (Sm.refl H)
end

/-- a schedule is a schedule -/
theorem sched_good {n : Nat} {ks : List Lk} {t : List Int} (hk : OkLks n ks) (br : BrA ks) (g : GT n ks t) {i c : Nat} (hi : i < n) (h1 : 1 ≤ c) (h2 : (c : Int) ≤ t.getD i 0) {es : List PyData} (he : es = nI ((setP (helpL n ks t) c c (i : Int)).map Int.toNat)) : chkD n ks i (c : Int) es = none := by
  have hin : ∀ j ∈ (setP (helpL n ks t) c c (i : Int)).map Int.toNat, j < n := fun j m => by
    obtain ⟨u, mu, rfl⟩ := List.mem_map.mp m
    have := setP_mem (R := fun u => 0 ≤ u ∧ u < (n : Int)) (helpL_mem hk.1) c c (i : Int) ⟨by omega, by omega⟩ u mu
    omega
  rw [he, chkD_ok hin]
  have hz : ∀ x : Int, sv (List.replicate n 0) x = 0 := fun x => by
    unfold sv
    rw [List.getD_eq_getElem?_getD, List.getElem?_replicate]
    by_cases h : x.toNat < n
    · rw [if_pos h]
      rfl
    · rw [if_neg h]
      rfl
  have e := set_ok (L := helpL n ks t) hk br (help_ok hk g) c (i : Int) (List.replicate n 0) h1 h2 (by omega) (by omega) (List.length_replicate ..) (fun x _ _ => by rw [hz]; exact Int.le_refl _) (hz _) (fun y z _ _ h => absurd (hz y) h)
  have e2 : playS ks (List.replicate n 0) ((setP (helpL n ks t) c c (i : Int)).map Int.toNat) = (List.replicate n 0).set i (c : Int) := e
  rw [e2, if_pos (by rw [List.getD_eq_getElem?_getD, List.getElem?_set, if_pos rfl, if_pos (by rw [List.length_replicate]; exact hi)]; rfl)]
theorem bound_good {n : Nat} {ks : List Lk} {t : List Int} (g : GT n ks t) : dueB n ks (.tuple (t.map PyData.int)) = none := by
  have hn : t.length = n := g.1
  have ev : (t.map PyData.int).map intOf = t := by
    rw [List.map_map]
    exact List.map_id t
  have h1 : firstI n (fun i => !posI ((t.map PyData.int).getD i .none)) = none := firstI_none fun j hj => by
    have := (g.2.2 j hj).1
    rw [List.getD_eq_getElem?_getD, List.getElem?_map, List.getElem?_eq_getElem (by omega)]
    rw [List.getD_eq_getElem?_getD, List.getElem?_eq_getElem (by omega)] at this
    have this : (1 : Int) ≤ t[j] := this
    show (!decide ((1 : Int) ≤ t[j])) = false
    rw [decide_eq_true this]
    rfl
  have h2 : firstI n (tooLow ks t) = none := firstI_none fun j hj => by
    have h := nextT_at ks t hj
    rw [g.2.1] at h
    unfold tooLow
    exact decide_eq_false (by omega)
  show (if (t.map PyData.int).length = n then (match firstI n (fun i => !posI ((t.map PyData.int).getD i .none)) with
    | some i => some (i : Int)
    | none => match firstI n (tooLow ks ((t.map PyData.int).map intOf)) with
      | some i => some ((n : Int) + (i : Int))
      | none => none) else some (-1)) = none
  rw [ev, h1, h2, List.length_map, if_pos hn]

abbrev s_Network_eq : Stmt := inClass (top 14) 3
theorem sc_Network_eq : FnScope ["self", "other"] ["self", "other"] (defScope s_Network_eq) := ⟨rfl, rfl, rfl, by decide +kernel, rfl, by decide +kernel, by decide +kernel⟩
/-- network == other: of two networks; of a network and a tuple -/
def spEqN (Z : List (Addr × Str)) (K : PySem.W.Frag) (C : Addr) : Sp := fun vs H Q _ => ∃ (p : Addr) (n : Nat) (ks : List Lk) (y : V), vs = [.ref p, y] ∧ NetAt C H p n ks ∧ n ≤ 60 ∧
  ((∃ (q : Addr) (m : Nat) (ls : List Lk), y = .ref q ∧ NetAt C H q m ls ∧ m ≤ 60 ∧ ∀ H', Sm Z H H' → Q (.bl (decide (n = m ∧ ks = ls))) H') ∨ (∃ (q : Addr) (ys : List V), y = .ref q ∧ H q = some (.tup ys) ∧ ∀ H', Sm Z H H' → Q (.bl false) H'))
/-- what the class must say, so that isinstance asks its instances rightly -/
structure InC (K : PySem.W.Frag) (C : Addr) : Prop where
  ha : PySem.W.findIn K (.ref C) "__class__" = some (some (.builtin "object.__class__"))
  hn : PySem.W.specialIn K (.builtin "object.__class__") "__get__" = some (some (.builtin "getset_descriptor.__get__"))
  ht : PySem.W.takesIn K (.builtin "object.__class__") = some true
  hm : PySem.W.mroIn K C (.type "object") = some true
  tt : PySem.W.kitOne K (.type "tuple") (.ref C) = some false
theorem InC.ty {K : PySem.W.Frag} {C : Addr} (I : InC K C) (cl : Cls K C) {H : Hp} {p dx : Addr} {fs : List (Str × V)} (h : H p = some (.ins C dx fs)) : TyX K H (.ref p) (.ref C) := .base (.ins h cl I.ha I.hn I.ht I.hm)
theorem kit_self {K : PySem.W.Frag} {C : Addr} : PySem.W.kitOne K (.ref C) (.ref C) = some true := by
  unfold PySem.W.kitOne
  rw [if_pos (by simp)]
theorem NetAt.ins {C p : Addr} {H : Hp} {n : Nat} {ks : List Lk} (h : NetAt C H p n ks) : ∃ dx fs, H p = some (.ins C dx fs) := by
  obtain ⟨dx, kp, nr, h1, _⟩ := h
  exact ⟨dx, _, h1⟩
theorem eqv_lks : ∀ {a b : List Lk}, PyData.eqvAll (a.map lkD) (b.map lkD) = decide (a = b)
  | [], [] => rfl
  | [], _ :: _ => rfl
  | _ :: _, [] => rfl
  | x :: a, y :: b => by
    show (PyData.eqv (lkD x) (lkD y) && PyData.eqvAll (a.map lkD) (b.map lkD)) = _
    rw [eqv_lks]
    by_cases h : x = y
    · subst h
      rw [(eqv_lkD x x).mpr rfl]
      simp
    · have : PyData.eqv (lkD x) (lkD y) = false := Bool.eq_false_iff.mpr fun z => h ((eqv_lkD x y).mp z)
      rw [this]
      simp [h]
section
variable {P : Program} {w : World} {K : PySem.W.Frag} {mg : Str → Option Value} {base : Heap} {Z : List (Addr × Str)} {C : Addr}
theorem ok_eqN (T : Bt mg) (N : NetC K C) (I : InC K C) (g_Network : mg "Network" = some (.ref C)) (c_len : CalL P w K mg base 1 C (spLen C)) {f : Addr} {fd : FuncData} (F : Fun K "__eq__" "Network.__eq__" s_Network_eq f fd) : FnOk P w K mg base CX0 3 f fd ["self", "other"] (spEqN Z K C) := by
  refine F.ok sc_Network_eq (fun vs H Q E h => ?_) (fun cdv A outer s H vs Q E hr h => ?_)
  · obtain ⟨p, n, ks, y, rfl, _⟩ := h
    rfl
  · obtain ⟨p, n, ks, y, rfl, hn, hn60, h⟩ := h
    refine ⟨_, (pss_one (ps_ret (pe_and (pe_callB (call_isiK K) (by rfl) T.no_isinstance (by decide +kernel) (pa_cons (pv 1) (pa_cons (pe_cls rfl g_Network) pa_nil))) (pe_and (pe_cmpR op_eq (pe_lenOwn hr (by decide) c_len pass0 (by rfl) T.no_len (pa_cons (pv 0) pa_nil)) (pe_lenOwn hr (by decide) c_len pass0 (by rfl) T.no_len (pa_cons (pv 1) pa_nil)) (nomark _)) (pe_one (pe_cmpR (op_eqDK K hr.units) (pe_fldK K (pv 0) rfl) (pe_fldK K (pv 1) rfl) (nomark _))))))), ?_⟩
    walk_at "rd"
    rcases h with ⟨q, m, ls, rfl, hm, hm60, k⟩ | ⟨q, ys, rfl, hq, k⟩
    · obtain ⟨dx, fs, hi⟩ := hm.ins
      refine ⟨_, _, _, _, true, rfl, .own C, I.ty N.cl hi, kit_self, ?_⟩
      walk_at "rd"
      refine rd_len hn (by omega) ?_
      walk_at "rd"
      refine rd_len hm (by omega) ?_
      walk_at "rd"
      refine rifDn (fun c => ?_) (fun c => ?_)
      · have := k H (Sm.refl _)
        rw [decide_eq_false (fun z => c (by rw [z.1]))] at this
        exact this
      · walk_at "rd"
        refine rd_kept N hn (fun k1 h1 => ?_)
        walk_at "rd"
        refine rd_kept N hm (fun k2 h2 => ?_)
        refine rd_eqD h1.dt h2.dt (okd_list.mpr (okd_lks ks)) (okd_list.mpr (okd_lks ls)) ?_
        have e : PyData.eqv (.list (ks.map lkD)) (.list (ls.map lkD)) = decide (n = m ∧ ks = ls) := by
          show PyData.eqvAll _ _ = _
          rw [eqv_lks]
          have : n = m := by omega
          simp [this]
        rw [e]
        exact k H (Sm.refl _)
    · refine ⟨_, _, _, _, false, rfl, .own C, .base (.tup hq), I.tt, ?_⟩
      walk_at "rd"
      exact k H (Sm.refl _)
end

abbrev s_law_right : Stmt := top 36
theorem sc_law_right : FnScope ["_law_well", "_law_many", "_law_wires", "_law_web", "_law_twin", "_law_spot", "_law_row", "_law_here", "_law_most", "_law_told", "_law_k"] ["_law_well"] (defScope s_law_right) := ⟨rfl, rfl, rfl, by decide +kernel, rfl, by decide +kernel, by decide +kernel⟩
theorem rd_neN2 {Z : List (Addr × Str)} {K : PySem.W.Frag} {C : Addr} {H : Hp} {Q : VK} {p q : Addr} {n m : Nat} {ks ls : List Lk} (h1 : NetAt C H p n ks) (h2 : NetAt C H q m ls) (hn : n ≤ 60) (hm : m ≤ 60) (k : ∀ H', Sm Z H H' → Q (.bl (!decide (n = m ∧ ks = ls))) H') : rNeO K C (spEqN Z K C) (.ref p) (.ref q) H Q := by
  obtain ⟨dxa, fsa, hia⟩ := h1.ins
  obtain ⟨dxb, fsb, hib⟩ := h2.ins
  exact ⟨p, dxa, fsa, rfl, hia, .inl ⟨q, dxb, fsb, rfl, hib⟩, p, n, ks, .ref q, rfl, h1, hn, .inl ⟨q, m, ls, rfl, h2, hm, fun H6 s6 => ⟨_, rfl, k H6 s6⟩⟩⟩
theorem rd_neL {K : PySem.W.Frag} {H : Hp} {Q : VK} {a b : Addr} {l : List Int} (ha : H a = some (.lst (l.map V.int))) (hb : H b = some (.lst (l.map V.int))) (h : Q (.bl false) H) : rNeD K (.ref a) (.ref b) H Q := by
  refine rd_neD (.lst ha (DtAll.ints l)) (.lst hb (DtAll.ints l)) (okd_ints l) (okd_ints l) ?_
  rw [eqv_lints, decide_eq_true rfl]
  exact h
theorem rd_neTu {K : PySem.W.Frag} {H : Hp} {Q : VK} {a b : Addr} {l : List Int} (ha : H a = some (.tup (l.map V.int))) (hb : H b = some (.tup (l.map V.int))) (h : Q (.bl false) H) : rNeD K (.ref a) (.ref b) H Q := by
  refine rd_neD (Dt.tints ha) (Dt.tints hb) (okd_tints l) (okd_tints l) ?_
  rw [show PyData.eqv (.tuple (l.map PyData.int)) (.tuple (l.map PyData.int)) = decide (l = l) from eqv_ints, decide_eq_true rfl]
  exact h
section
local macro_rules | `(tactic| walk_at "rd1") => `(tactic| first | with_reducible refine rd_callW ?_ | with_reducible refine rd_methW ?_ | with_reducible refine rd_makeW ?_)
variable {P : Program} {w : World} {K : PySem.W.Frag} {mg : Str → Option Value} {base : Heap} {Z : List (Addr × Str)} {C CN CS CR CC CD CT CP CB : Addr}
theorem ok_right (T : Bt mg) (c_law_draw : Cal P w K mg base CX0 1 "_law_draw" spDraw) (c_law_links : Cal P w K mg base CX0 2 "_law_links" (spLinks Z)) (c_Network : CalC P w K mg base (L2.CX P w) 4 "Network" C (spNetInit Z K C CN)) (w_Network : CalCW P w K mg base (L2.CX P w) 4 "Network" C ["links", "stations"] (spNetInit Z K C CN))
    (c_eq : CalE P w K mg base 3 C (spEqN Z K C)) (c_Network_neighbours : CalM P w K mg base (L2.CX P w) 4 C "neighbours" (spNeigh Z C CS)) (w_Network_neighbours : CalMW P w K mg base (L2.CX P w) 4 C "neighbours" ["station"] (spNeigh Z C CS))
    (w_ring_of : CalW P w K mg base CX0 5 "ring_of" ["network"] (spRing Z C)) (w_check_forest : CalW P w K mg base (L2.CX P w) 6 "check_forest" ["network"] (spChkF Z C CR))
    (w_all_off : CalW P w K mg base CX0 3 "all_off" ["network"] (spOff Z C)) (c_all_off : Cal P w K mg base CX0 3 "all_off" (spOff Z C))
    (w_played : CalW P w K mg base (L2.CX P w) 8 "played" ["steps", "state", "network"] (spPlayed Z C CT CP)) (c_played : Cal P w K mg base (L2.CX P w) 8 "played" (spPlayed Z C CT CP))
    (w_check_state : CalW P w K mg base (L2.CX P w) 5 "check_state" ["state", "network"] (spState Z C CT))
    (w_next_channel : CalW P w K mg base (L2.CX P w) 6 "next_channel" ["station", "state", "network"] (spNext Z C CT CS)) (c_next_channel : Cal P w K mg base (L2.CX P w) 6 "next_channel" (spNext Z C CT CS))
    (w_switched : CalW P w K mg base (L2.CX P w) 7 "switched" ["station", "state", "network"] (spSwitched Z C CT CS)) (c_switched : Cal P w K mg base (L2.CX P w) 7 "switched" (spSwitched Z C CT CS))
    (w_greatest_channels : CalW P w K mg base CX0 3 "greatest_channels" ["network"] (spGreat Z C)) (c_greatest_channels : Cal P w K mg base CX0 3 "greatest_channels" (spGreat Z C))
    (w_check_bound : CalW P w K mg base (L2.CX P w) 3 "check_bound" ["table", "network"] (spBound Z C CB))
    (w_helpers : CalW P w K mg base (L2.CX P w) 4 "helpers" ["station", "network"] (spHelp Z C CS)) (c_helpers : Cal P w K mg base (L2.CX P w) 4 "helpers" (spHelp Z C CS))
    (w_schedule : CalW P w K mg base (L2.CX P w) 18 "schedule" ["channel", "station", "network"] (spSched Z C)) (c_schedule : Cal P w K mg base (L2.CX P w) 18 "schedule" (spSched Z C))
    (w_check_schedule : CalW P w K mg base (L2.CX P w) 8 "check_schedule" ["steps", "channel", "station", "network"] (spChkS Z C CS CC CD))
    {f : Addr} {fd : FuncData} (F : Fun K "_law_right" "_law_right" s_law_right f fd) : FnOkG P w K mg base CX0 20 f fd ["_law_well"] (spWellT Z) := by
  refine okG F sc_law_right (fun vs H Q E h => ?_) (fun cdv A outer s H vs Q E hr hgd h => ?_)
  · obtain ⟨a, rfl, _⟩ := h
    rfl
  · obtain ⟨a, rfl, ha, hT, k⟩ := h
    refine ⟨_, (pss_cons (ps_set (i := 1) sc_law_right.nd rfl (Or.inr rfl) (pe_op op_add pe_int (pe_cal hr (by decide) c_law_draw pass0 rfl (pa_cons (pv 0) (pa_cons pe_int pa_nil)))))
  (pss_cons (ps_set (i := 2) sc_law_right.nd rfl (Or.inl rfl) (pe_cal hr (by decide) c_law_links pass0 rfl (pa_cons (pv 0) (pa_cons (pv 1) (pa_cons pe_int pa_nil)))))
  (pss_cons (ps_par (i := 3) (j := 4) (by rfl) sc_law_right.nd rfl rfl (by decide) rfl rfl (pa_cons (pe_makeW hr (by decide) w_Network passL rfl (pk_cons (pv 2) (pk_cons (pv 1) pk_nil))) (pa_cons (pe_calC hr (by decide) c_Network passL rfl (pa_cons (pv 1) (pa_cons (pv 2) pa_nil))) pa_nil)) (by rfl))
  (pss_cons (ps_set (i := 5) sc_law_right.nd rfl (Or.inl rfl) (pe_cal hr (by decide) c_law_draw pass0 rfl (pa_cons (pv 0) (pa_cons (pv 1) pa_nil))))
  (pss_cons (ps_setLc (i := 6) (own := [("_law_k", 10)]) (g := gName 10) rfl sc_law_right.nd rfl rfl (sw_true rfl rfl rfl (by decide +kernel)) (pi_range1 (by rfl) T.no_range (pa_cons (pe_cal hr (by decide) c_law_draw pass0 rfl (pa_cons (pv 0) (pa_cons pe_int pa_nil))) pa_nil)) (blkOk_by (by kernel_rfl)) (fun _ _ _ _ _ => (pg_name (i := 10) sc_law_right.nd rfl (Or.inl rfl))) (fun _ _ _ _ _ => pts_nil) (fun _ _ _ _ _ => (pe_cal hr (by decide) c_law_draw pass0 rfl (pa_cons (pv 0) (pa_cons (pv 1) pa_nil)))))
  (pss_cons (ps_if (PW.pt (pw_or (pt_cmpR (op_neO K hr (by decide) c_eq) (pv 3) (pv 4) (nomark _)) (pw_or1 (pt_cmpR (op_neDK K hr.units) (pe_methW (pv 3) hr (by decide) w_Network_neighbours passL (pk_cons (pv 5) pk_nil)) (pe_calM (pv 4) hr (by decide) c_Network_neighbours passL (pa_cons (pv 5) pa_nil)) (nomark _))))) (pss_one (ps_ret pe_bl)) pss_nil)
  (pss_cons (ps_if (PW.pt (pw_or (pt_cmpR op_notN (pe_callW hr (by decide) w_ring_of pass0 rfl (pk_cons (pv 3) pk_nil)) pe_non (nomark _)) (pw_or1 (pt_cmpR op_notN (pe_callW hr (by decide) w_check_forest passL rfl (pk_cons (pv 3) pk_nil)) pe_non (nomark _))))) (pss_one (ps_ret pe_bl)) pss_nil)
  (pss_cons (ps_set (i := 7) sc_law_right.nd rfl (Or.inl rfl) (pe_callW hr (by decide) w_played passL rfl (pk_cons (pv 6) (pk_cons (pe_callW hr (by decide) w_all_off pass0 rfl (pk_cons (pv 3) pk_nil)) (pk_cons (pv 3) pk_nil)))))
  (pss_cons (ps_if (PW.pt (pw_or (pt_cmpR (op_neDK K hr.units) (pv 7) (pe_cal hr (by decide) c_played passL rfl (pa_cons (pv 4) (pa_cons (pe_cal hr (by decide) c_all_off pass0 rfl (pa_cons (pv 4) pa_nil)) (pa_cons (pv 6) pa_nil)))) (nomark _)) (pw_or1 (pt_cmpR op_notN (pe_callW hr (by decide) w_check_state passL rfl (pk_cons (pv 7) (pk_cons (pv 3) pk_nil))) pe_non (nomark _))))) (pss_one (ps_ret pe_bl)) pss_nil)
  (pss_cons (ps_if (pt_cmpR op_ne (pe_callW hr (by decide) w_next_channel passL rfl (pk_cons (pv 5) (pk_cons (pv 7) (pk_cons (pv 3) pk_nil)))) (pe_cal hr (by decide) c_next_channel passL rfl (pa_cons (pv 4) (pa_cons (pv 7) (pa_cons (pv 5) pa_nil)))) (nomark _)) (pss_one (ps_ret pe_bl)) pss_nil)
  (pss_cons (ps_if (pt_cmpR (op_neDK K hr.units) (pe_callW hr (by decide) w_switched passL rfl (pk_cons (pv 5) (pk_cons (pv 7) (pk_cons (pv 3) pk_nil)))) (pe_cal hr (by decide) c_switched passL rfl (pa_cons (pv 4) (pa_cons (pv 7) (pa_cons (pv 5) pa_nil)))) (nomark _)) (pss_one (ps_ret pe_bl)) pss_nil)
  (pss_cons (ps_set (i := 8) sc_law_right.nd rfl (Or.inl rfl) (pe_callW hr (by decide) w_greatest_channels pass0 rfl (pk_cons (pv 3) pk_nil)))
  (pss_cons (ps_if (PW.pt (pw_or (pt_cmpR (op_neDK K hr.units) (pv 8) (pe_cal hr (by decide) c_greatest_channels pass0 rfl (pa_cons (pv 4) pa_nil)) (nomark _)) (pw_or1 (pt_cmpR op_notN (pe_callW hr (by decide) w_check_bound passL rfl (pk_cons (pv 8) (pk_cons (pv 3) pk_nil))) pe_non (nomark _))))) (pss_one (ps_ret pe_bl)) pss_nil)
  (pss_cons (ps_if (pt_cmpR (op_neDK K hr.units) (pe_callW hr (by decide) w_helpers passL rfl (pk_cons (pv 5) (pk_cons (pv 3) pk_nil))) (pe_cal hr (by decide) c_helpers passL rfl (pa_cons (pv 4) (pa_cons (pv 5) pa_nil))) (nomark _)) (pss_one (ps_ret pe_bl)) pss_nil)
  (pss_cons (ps_set (i := 9) sc_law_right.nd rfl (Or.inl rfl) (pe_callW hr (by decide) w_schedule passL rfl (pk_cons (pe_ix (ix_tupK K) (pv 8) (pv 5) (fun _ _ => rfl)) (pk_cons (pv 5) (pk_cons (pv 3) pk_nil)))))
  (pss_cons (ps_if (pt_cmpR (op_neDK K hr.units) (pv 9) (pe_cal hr (by decide) c_schedule passL rfl (pa_cons (pv 4) (pa_cons (pv 5) (pa_cons (pe_ix (ix_tupK K) (pv 8) (pv 5) (fun _ _ => rfl)) pa_nil)))) (nomark _)) (pss_one (ps_ret pe_bl)) pss_nil)
  (pss_one (ps_ret (pe_cmpR op_eq (pe_callW hr (by decide) w_check_schedule passL rfl (pk_cons (pv 9) (pk_cons (pe_ix (ix_tupK K) (pv 8) (pv 5) (fun _ _ => rfl)) (pk_cons (pv 5) (pk_cons (pv 3) pk_nil))))) (pe_callB (call_lenK K) (by rfl) T.no_len (by decide +kernel) (pa_cons (pv 9) pa_nil)) (nomark _)))))))))))))))))))), ?_⟩
    walk_at "rd"
    refine rd_draw ha (by omega) (by omega) (fun r1 h10 h11 => ?_)
    walk_at "rd"
    obtain ⟨n, hn2, hn12, hnr⟩ : ∃ n : Nat, 2 ≤ n ∧ n ≤ 12 ∧ 2 + r1 = (n : Int) := ⟨(2 + r1).toNat, by omega, by omega, by omega⟩
    rw [hnr]
    have hn1 : 1 ≤ n := by omega
    have hn60 : n ≤ 60 := by omega
    refine ⟨a, n, 0, rfl, ha, hn1, hn60, by omega, fun L ord es0 xs0 H1 s1 fL hL hperm gr hxl hok => ?_⟩
    have hx0 : xs0 = [] := List.eq_nil_of_length_eq_zero (by omega)
    subst hx0
    rw [List.append_nil] at hL hok
    have hel : es0.length + 1 ≤ n := grown_len gr
    have brE : BrA es0 := grown_br hperm gr (Nat.le_refl _)
    walk_at "rd"
    refine ⟨rfl, ?_⟩
    intro x dx hx hdx hne
    refine net_ok hL hok hn1 hn60 (by omega) hx hdx hne (fun ks H2 s2 hpe hsrt hnet => ⟨rfl, ?_⟩)
    walk_at "rd"
    intro y dy hy hdy hney
    refine net_ok (hL.sm s2) hok hn1 hn60 (by omega) hy hdy hney (fun ks2 H3 s3 hpe2 hsrt2 hnet2 => ⟨rfl, ?_⟩)
    have ek : ks2 = ks := ks_uniq (hpe2.trans hpe.symm) hsrt2 hsrt
    subst ek
    have hokk : OkLks n ks2 := hok.perm hpe
    have hkl : ks2.length + 1 ≤ n := by rw [hpe.length_eq]; exact hel
    have brK : BrA ks2 := brE.perm hpe
    have hfo : isForest n ks2 = true := br_forest hokk (brK.br _)
    obtain ⟨t, g⟩ := GT.ex hokk.1
    have hkn : ∀ v u : Int, u ∈ nbr ks2 v → u.toNat < n := fun v u m => by have := nbr_lt hokk.1 v u m; omega
    have s03 : Sm Z H H3 := (s1.trans s2).trans s3
    have hX : NetAt C H3 x n ks2 := hnet.sm s3
    have hY : NetAt C H3 y n ks2 := hnet2
    clear hnet hnet2 s1 s2 s3
    walk_at "rd"
    refine rd_draw (s03.well ha) (by omega) (by omega) (fun st0 hs0 hs1 => ?_)
    obtain ⟨i, rfl⟩ : ∃ i : Nat, st0 = (i : Int) := ⟨st0.toNat, by omega⟩
    have hi : i < n := by omega
    walk_at "rd"
    refine rd_draw (s03.well ha) (by omega) (by omega) (fun r4 h40 h41 => ?_)
    walk_at "rd"
    refine ⟨r4, rfl, by omega, by omega, ?_⟩
    refine lc_w (T := Z) (wk_range 0 _) (by rw [sizeLine_eq]; omega) (fun _ i acc _ => ∃ is : List Nat, acc = is.map (fun j => V.int ((j : Nat) : Int)) ∧ is.length = i ∧ ∀ j ∈ is, j < n) (fun _ _ _ _ _ => ⟨[], rfl, rfl, fun j m => absurd m List.not_mem_nil⟩) (fun _ _ _ _ _ p _ => p)
      (fun D i acc y Hb Hc hi fD sb hD hl hP sc hit kt kf ht hf => ?_) (fun D acc H5 fD s5 hD hl hP => ?_)
    · obtain ⟨is, rfl, il, hin⟩ := hP
      have it' : y = .int (0 + (i : Int)) := hit
      subst it'
      refine ⟨rfl, ?_⟩
      walk_at "rd"
      refine rd_draw ((s03.trans (sb.new sc)).well ha) (by omega) (by omega) (fun r5 h50 h51 => ?_)
      refine ht _ _ (Sm.of sc) ⟨is ++ [r5.toNat], ?_, by rw [List.length_append, il]; rfl, fun j m => (List.mem_append.mp m).elim (hin j) fun m => by rw [List.mem_singleton.mp m]; omega⟩
      rw [List.map_append, List.map_singleton, Int.toNat_of_nonneg h50]
    obtain ⟨is, rfl, il, hin⟩ := hP
    have s05 := s03.trans s5
    have hX5 := hX.sm s5
    have hY5 := hY.sm s5
    clear hX hY s5 s03
    rw [show (is.map fun j => V.int ((j : Nat) : Int)) = (is.map fun j => ((j : Nat) : Int)).map V.int by rw [List.map_map]; rfl] at hD
    walk_at "rd"
    -- the two networks
    refine rd_neN2 hX5 hY5 hn60 hn60 (fun H6 s6 => ?_)
    rw [decide_eq_true (show n = n ∧ ks2 = ks2 from ⟨rfl, rfl⟩)]
    walk_at "rd"
    refine rd_netM (hX5.sm s6) ?_
    walk_at "rd"
    refine ⟨rfl, ?_⟩
    refine rd_neigh (hX5.sm s6) hn60 hi (fun q1 H7 s7 _ hq1 => ?_)
    walk_at "rd"
    refine rd_netM (hY5.sm (s6.trans s7)) ?_
    walk_at "rd"
    refine rd_neigh (hY5.sm (s6.trans s7)) hn60 hi (fun q2 H8 s8 _ hq2 => ?_)
    refine rd_neL (s8.lst hq1) hq2 ?_
    walk_at "rd"
    -- no ring
    have s58 : Sm Z H5 H8 := (s6.trans s7).trans s8
    refine ⟨rfl, x, n, ks2, rfl, hX5.sm s58, hn60, by omega, hokk, fun _ H9 s9 => ?_, fun hf => by rw [hfo] at hf; cases hf⟩
    walk_at "rd"
    refine ⟨rfl, false, by rw [decide_eq_true rfl]; rfl, ?_⟩
    refine L2.iteF ?_
    walk_at "rd"
    refine ⟨rfl, x, n, ks2, rfl, hX5.sm (s58.trans s9), hn60, by omega, hokk, fun _ H10 s10 => ?_, fun hf => by rw [hfo] at hf; cases hf⟩
    walk_at "rd"
    refine ⟨rfl, false, by rw [decide_eq_true rfl]; rfl, ?_⟩
    refine L2.iteF ?_
    walk_at "rd"
    -- the state
    have s5a : Sm Z H5 H10 := (s58.trans s9).trans s10
    clear s58 s9 s10 s6 s7 s8
    refine ⟨rfl, x, n, ks2, rfl, hX5.sm s5a, hn1, hn60, fun o1 H11 s11 ho1 => ?_⟩
    walk_at "rd"
    have hzS : StOk n ks2 (List.replicate n 0) := StOk.zero n ks2
    have eis : is.map (fun i => PyData.int ((i : Nat) : Int)) = nI is := rfl
    refine ⟨rfl, x, n, ks2, .ref o1, .ref D, _, _, rfl, hX5.sm (s5a.trans s11), hn60, by omega, hokk.1, Dt.tints ho1, .lst ((s5a.trans s11).lst hD) (dt_isN is), fun i e => (by rw [hzS.due] at e; cases e), fun _ h => absurd rfl (h _), fun _ es j e hj hb _ => ?_, fun s' is' e1 hs' e2 hin' q H12 s12 hq => ?_⟩
    · cases e
      rw [nI_len] at hj
      rw [nI_getD is hj, isSt_nat (hin _ (by rw [List.getD_eq_getElem?_getD, List.getElem?_eq_getElem hj]; exact List.getElem_mem hj))] at hb
      cases hb
    have e3 : s' = List.replicate n 0 := (ints_inj' (PyData.tuple.inj e1)).symm
    subst e3
    have e4 : is' = is := by
      have e5 := PyData.list.inj e2
      refine ((List.map_inj_right (fun a b h => ?_)).mp e5).symm
      have := PyData.int.inj h
      omega
    subst e4
    obtain ⟨S, hS⟩ : ∃ S, S = playS ks2 (List.replicate n 0) is' := ⟨_, rfl⟩
    have hSt : StOk n ks2 S := by rw [hS]; exact StOk.play hokk.1 is' hzS hin
    rw [← hS] at hq
    walk_at "rd"
    have s5b : Sm Z H5 H12 := (s5a.trans s11).trans s12
    refine ⟨y, n, ks2, rfl, hY5.sm s5b, hn1, hn60, fun o2 H13 s13 ho2 => ?_⟩
    walk_at "rd"
    refine ⟨y, n, ks2, .ref o2, .ref D, _, _, rfl, hY5.sm (s5b.trans s13), hn60, by omega, hokk.1, Dt.tints ho2, .lst ((s5b.trans s13).lst hD) (dt_isN is'), fun i e => (by rw [hzS.due] at e; cases e), fun _ h => absurd rfl (h _), fun _ es j e hj hb _ => ?_, fun s'' is'' e1' hs'' e2' hin'' q3 H14 s14 hq3 => ?_⟩
    · cases e
      rw [nI_len] at hj
      rw [nI_getD is' hj, isSt_nat (hin _ (by rw [List.getD_eq_getElem?_getD, List.getElem?_eq_getElem hj]; exact List.getElem_mem hj))] at hb
      cases hb
    have e3 : s'' = List.replicate n 0 := (ints_inj' (PyData.tuple.inj e1')).symm
    subst e3
    have e4 : is'' = is' := by
      have e5 := PyData.list.inj e2'
      refine ((List.map_inj_right (fun a b h => ?_)).mp e5).symm
      have := PyData.int.inj h
      omega
    subst e4
    rw [← hS] at hq3
    have s1214 := s13.trans s14
    refine rd_neTu (s1214.tup hq) hq3 ?_
    walk_at "rd"
    have s5c : Sm Z H5 H14 := s5b.trans s1214
    have hq14 := s1214.tup hq
    clear hq3 hq s13 s14 s1214 s5b s11 s12 s5a
    refine ⟨rfl, rd_state (hX5.sm s5c) hn60 (by omega) hokk.1 (Dt.tints hq14) hSt (fun H15 s15 => ?_)⟩
    walk_at "rd"
    refine ⟨rfl, false, by rw [decide_eq_true rfl]; rfl, ?_⟩
    refine L2.iteF ?_
    walk_at "rd"
    -- the next channel
    have s5d := s5c.trans s15
    have hq15 := s15.tup hq14
    have hnxt : ∀ (z : Addr) (Hx : Hp) (Q : VK) (E : XK), NetAt C Hx z n ks2 → Hx q = some (.tup (S.map V.int)) → (∀ H', Sm Z Hx H' → Q (.int (mex (usedS ks2 S (i : Int)))) H') → spNext Z C CT CS [.ref z, .ref q, .int (i : Int)] Hx Q E := fun z Hx Q E hz hqx kq =>
      ⟨z, n, ks2, .ref q, .int (i : Int), _, .int (i : Int), rfl, hz, hn60, by omega, hokk.1, Dt.tints hqx, .int _, fun j e => (by rw [hSt.due] at e; cases e), fun _ hb => (by rw [isSt_nat hi] at hb; cases hb), fun s j e1 _ e2 _ H' s' => by
        have e3 : s = S := (ints_inj' (PyData.tuple.inj e1)).symm
        have e4 : j = i := by have := PyData.int.inj e2; omega
        subst e3
        subst e4
        exact kq H' s'⟩
    have hswt : ∀ (z : Addr) (Hx : Hp) (Q : VK) (E : XK), NetAt C Hx z n ks2 → Hx q = some (.tup (S.map V.int)) → (∀ (r : Addr) (H' : Hp), Sm Z Hx H' → H' r = some (.tup ((swS ks2 S i).map V.int)) → Q (.ref r) H') → spSwitched Z C CT CS [.ref z, .ref q, .int (i : Int)] Hx Q E := fun z Hx Q E hz hqx kq =>
      ⟨z, n, ks2, .ref q, .int (i : Int), _, .int (i : Int), rfl, hz, hn60, by omega, hokk.1, Dt.tints hqx, .int _, fun j e => (by rw [hSt.due] at e; cases e), fun _ hb => (by rw [isSt_nat hi] at hb; cases hb), fun s j e1 _ e2 _ r H' s' hr => by
        have e3 : s = S := (ints_inj' (PyData.tuple.inj e1)).symm
        have e4 : j = i := by have := PyData.int.inj e2; omega
        subst e3
        subst e4
        exact kq r H' s' hr⟩
    refine ⟨rfl, hnxt x H15 _ _ (hX5.sm s5d) hq15 (fun H16 s16 => ?_)⟩
    walk_at "rd"
    refine hnxt y H16 _ _ (hY5.sm (s5d.trans s16)) (s16.tup hq15) (fun H17 s17 => ?_)
    generalize mex (usedS ks2 S (i : Int)) = mx
    walk_at "rd"
    rw [decide_eq_true (rfl : mx = mx)]
    walk_at "rd"
    have s5e := (s5d.trans s16).trans s17
    have hq17 := (s16.trans s17).tup hq15
    refine ⟨rfl, hswt x H17 _ _ (hX5.sm s5e) hq17 (fun r1 H18 s18 hr1 => ?_)⟩
    walk_at "rd"
    refine hswt y H18 _ _ (hY5.sm (s5e.trans s18)) (s18.tup hq17) (fun r2 H19 s19 hr2 => ?_)
    refine rd_neTu (s19.tup hr1) hr2 ?_
    walk_at "rd"
    have s5f := (s5e.trans s18).trans s19
    clear s5c s5d s5e s15 s16 s17 s18 s19 hnxt hswt hq14 hq15 hq17 hr1 hr2
    -- the greatest channels
    refine ⟨rfl, x, n, ks2, rfl, hX5.sm s5f, hn60, by omega, hokk.1, fun t1 m1 H20 g1 s20 hm1 => ?_⟩
    have et1 : t1 = t := GT.uniq hkn g1 g
    subst et1
    walk_at "rd"
    have s5g := s5f.trans s20
    refine ⟨y, n, ks2, rfl, hY5.sm s5g, hn60, by omega, hokk.1, fun t2 m2 H21 g2 s21 hm2 => ?_⟩
    have et2 : t2 = t1 := GT.uniq hkn g2 g
    subst et2
    refine rd_neTu (s21.tup hm1) hm2 ?_
    walk_at "rd"
    have s5h := s5g.trans s21
    have hm21 := s21.tup hm1
    refine ⟨rfl, x, n, ks2, .ref m1, _, rfl, hX5.sm s5h, hn60, by omega, hokk.1, Dt.tints hm21, fun i e => (by rw [bound_good g] at e; cases e), fun _ H22 s22 => ?_⟩
    walk_at "rd"
    refine ⟨rfl, false, by rw [decide_eq_true rfl]; rfl, ?_⟩
    refine L2.iteF ?_
    walk_at "rd"
    have s5i := s5h.trans s22
    have hm22 := s22.tup hm21
    -- the helpers
    have s0i : Sm Z H H22 := s05.trans s5i
    refine ⟨rfl, x, n, ks2, .int (i : Int), .int (i : Int), _, rfl, hX5.sm s5i, hn60, by omega, hokk.1, .int _, g, s0i.2 hT, fun j' e hj' q4 H23 s23 _ hq4 => ?_, fun hb => by rw [isSt_nat hi] at hb; cases hb⟩
    have e' : j' = i := by have := PyData.int.inj e; omega
    subst e'
    walk_at "rd"
    refine ⟨y, n, ks2, .int (j' : Int), .int (j' : Int), _, rfl, hY5.sm (s5i.trans s23), hn60, by omega, hokk.1, .int _, g, (s0i.trans s23).2 hT, fun j'' e hj'' q5 H24 s24 _ hq5 => ?_, fun hb => by rw [isSt_nat hi] at hb; cases hb⟩
    have e' : j'' = j' := by have := PyData.int.inj e; omega
    subst e'
    refine rd_neL (s24.lst hq4) hq5 ?_
    walk_at "rd"
    -- the schedule
    have s5j := (s5i.trans s23).trans s24
    have hm24 := (s23.trans s24).tup hm22
    obtain ⟨c, hc⟩ : ∃ c : Nat, t2.getD j'' 0 = (c : Int) := ⟨(t2.getD j'' 0).toNat, by have := (g.2.2 j'' hi).1; omega⟩
    have hc1 : 1 ≤ c := by have := (g.2.2 j'' hi).1; omega
    have hc16 : c ≤ 16 := by
      have h2 := (g.2.2 j'' hi).2
      have h3 := nbr_len ks2 (j'' : Int)
      omega
    have hixm : ∀ (Hx : Hp) (Q : VK), Hx m1 = some (.tup (t2.map V.int)) → Q (.int (c : Int)) Hx → rIxT K (.ref m1) (.int (j'' : Int)) Hx Q := fun Hx Q h1 h2 => rd_intT h1 j'' rfl (by rw [g.1]; exact hi) (by rw [hc]; exact h2)
    refine hixm _ _ hm24 ?_
    walk_at "rd"
    have hbig : ∀ t', GT n ks2 t' → (c : Int) ≤ t'.getD j'' 0 := fun t' g' => by
      rw [GT.uniq hkn g' g, hc]
      exact Int.le_refl _
    refine ⟨rfl, x, n, ks2, j'', c, rfl, hX5.sm s5j, hn60, by omega, hokk, hfo, hi, hc1, hc16, (s05.trans s5j).2 hT, hbig, fun t3 R1 H25 g3 s25 _ hR1 => ?_⟩
    have et3 : t3 = t2 := GT.uniq hkn g3 g
    subst et3
    walk_at "rd"
    have s5k := s5j.trans s25
    have hm25 := s25.tup hm24
    refine hixm _ _ hm25 ?_
    walk_at "rd"
    refine ⟨y, n, ks2, j'', c, rfl, hY5.sm s5k, hn60, by omega, hokk, hfo, hi, hc1, hc16, (s05.trans s5k).2 hT, hbig, fun t4 R2 H26 g4 s26 _ hR2 => ?_⟩
    have et4 : t4 = t3 := GT.uniq hkn g4 g
    subst et4
    refine rd_neL (s26.lst hR1) hR2 ?_
    walk_at "rd"
    have s5l := s5k.trans s26
    have hm26 := s26.tup hm25
    have hR26 := s26.lst hR1
    refine hixm _ _ hm26 ?_
    walk_at "rd"
    obtain ⟨R, hR⟩ : ∃ R, R = setP (helpL n ks2 t4) c c (j'' : Int) := ⟨_, rfl⟩
    rw [← hR] at hR26
    have hRn : ∀ u ∈ R, 0 ≤ u ∧ u < (n : Int) := fun u m => setP_mem (R := fun u => 0 ≤ u ∧ u < (n : Int)) (helpL_mem hokk.1) c c (j'' : Int) ⟨by omega, by omega⟩ u (hR ▸ m)
    have eR : R.map V.int = ((R.map Int.toNat).map fun i => ((i : Nat) : Int)).map V.int := by
      congr 1
      rw [List.map_map]
      refine (List.map_id R).symm.trans (List.map_congr_left fun u m => ?_)
      have := hRn u m
      show u = ((u.toNat : Nat) : Int)
      omega
    rw [eR] at hR26
    have hgood := sched_good hokk brK g hi hc1 (by rw [hc]; exact Int.le_refl _) (es := nI (R.map Int.toNat)) (by rw [hR])
    refine ⟨rfl, x, n, ks2, .int (j'' : Int), .int (c : Int), .ref R1, .int (j'' : Int), .int (c : Int), .list (nI (R.map Int.toNat)), rfl, hX5.sm s5l, hn1, hn60, by omega, hokk.1, .int _, .int _, .lst hR26 (dt_isN _), fun hb => (by rw [isSt_nat hi] at hb; cases hb), fun _ _ _ hz => absurd (hz c rfl) (by omega), fun _ _ _ _ _ _ hz => absurd rfl (hz _), fun j3 c3 es e1 _ e2 _ e3 => ?_⟩
    have ej : j3 = j'' := by have := PyData.int.inj e1; omega
    have ec : c3 = (c : Int) := (PyData.int.inj e2).symm
    cases e3
    subst ej
    subst ec
    refine ⟨fun m e => (by rw [hgood] at e; cases e), fun _ H27 s27 => ?_⟩
    walk_at "rd"
    refine rd_lenL (SqL.of (s27.lst hR26)) ?_
    walk_at "rd"
    rw [decide_eq_true (by simp [nI_len])]
    exact k H27 ((s05.trans s5l).trans s27)
end

abbrev s_law : Stmt := top 37
theorem sc_law : FnScope ["_law_script", "_law_k", "_law_cell"] ["_law_script"] (defScope s_law) := ⟨rfl, rfl, rfl, by decide +kernel, rfl, by decide +kernel, by decide +kernel⟩
section
variable {P : Program} {w : World} {K : PySem.W.Frag} {mg : Str → Option Value} {base : Heap} {Z : List (Addr × Str)} 
theorem ok_law (T : Bt mg) (c_law_right : CalG P w K mg base CX0 20 "_law_right" (spWell0T Z)) {f : Addr} {fd : FuncData} (F : Fun K "law" "law" s_law f fd) :
    FnOkG P w K mg base CX0 21 f fd ["_law_script"] (spLawT Z K) := by
  refine okG F sc_law (fun vs H Q E h => ?_) (fun cdv A outer s H vs Q E hr hgd h => ?_)
  · obtain ⟨a, ns, rfl, _⟩ := h
    rfl
  · obtain ⟨a, ns, rfl, ha, hl, hT, k⟩ := h
    refine ⟨_, (pss_cons (ps_for PassesOwn.never rfl (pi_enumK K (by rfl) T.no_enumerate (pa_cons (pe_slice (sl_listK K) (pe_op (op_cat2 K) (pv 0) (pe_lst (pa_cons pe_int pa_nil))) po_none (po_some pe_int)) pa_nil)) (pg_tupK K 2 rfl (pgs_cons (pg_name (i := 1) sc_law.nd rfl (Or.inl rfl)) (pgs_cons (pg_name (i := 2) sc_law.nd rfl (Or.inl rfl)) pgs_nil))) (pss_one (ps_if (pt_not (pt_val (pe_calG hr (by decide) hgd c_law_right pass0 rfl (pa_cons (pe_lst (pa_cons (pe_op op_mul (pv 2) (pe_callTy call_int1 (by rfl) T.no_int (by decide +kernel) (pa_cons (pe_cmpR op_ge (pv 2) (pe_op op_pow pe_int pe_int) (nomark _)) pa_nil))) (pa_cons (pe_op op_add (pe_op op_mod (pv 2) pe_int) (pe_op op_mul pe_int (pv 1))) (pa_cons pe_int pa_nil)))) pa_nil)))) (pss_one (ps_ret pe_bl)) pss_nil)))
  (pss_one (ps_ret pe_bl))), ?_⟩
    walk_at "rd"
    refine ⟨by show 1 ≤ sizeLine; decide, fun p1 hp1 => genO hp1 fun H1 n1 => ?_⟩
    refine rd_cat2 (ha.sm (T := Z) (Sm.of n1.s)) n1.at' (by rw [List.length_map, sizeLine_eq]; simp only [List.length_singleton]; omega) (fun p2 H2 n2 => ?_)
    walk_at "rd"
    refine rd_slL (SqL.of n2.at') (fun p3 H3 n3 => ?_)
    have e0 : ns.map V.int ++ [V.int 0] = (ns ++ [0]).map V.int := by rw [List.map_append]; rfl
    have h3 := n3.at'
    rw [e0] at h3
    obtain ⟨ms, hms, hml⟩ := cutV_ints (ns ++ [0]) none (some _)
    rw [hms] at h3
    walk_at "rd"
    refine ⟨p3, _, rfl, SqL.of h3, ?_⟩
    refine for_w (T := Z) (wk_enum (SqL.of h3)) (fun i σ' H' => ∃ u1 u2, σ' = [some (.ref a), u1, u2] ∧ Sm Z H3 H') ⟨none, none, rfl, Sm.refl _⟩ (fun i σ' H' h => by obtain ⟨_, _, _, h⟩ := h; exact h) (fun i x σ1 H4 H5 hi hP s5 hit => ?_) (fun σ' H4 hP => ?_)
    · obtain ⟨u1, u2, rfl, s4⟩ := hP
      obtain ⟨t, y, rfl, ht, hy⟩ := hit
      obtain ⟨z, rfl⟩ : ∃ z, y = .int z := by
        rw [List.getElem?_map] at hy
        cases e : ms[i]? with
        | none => rw [e] at hy; cases hy
        | some z => rw [e] at hy; exact ⟨z, (Option.some.inj hy).symm⟩
      refine rd_gtup2 (SqT.of ht) rfl ?_
      walk_at "rd"
      refine .inr ⟨_, rfl, ?_⟩
      refine rd_I (.inr (by split <;> exact ⟨by decide, by decide⟩)) ?_
      walk_at "rd"
      refine ⟨by show 3 ≤ sizeLine; decide, fun p6 hp6 => genO hp6 fun H6 n6 => ?_⟩
      walk_at "rd"
      have hT3 : LamX.Tabs Z H3 := ((((Sm.of n1.s).new n2.s).new n3.s) : Sm Z H H3).2 hT
      refine ⟨p6, _, _, _, rfl, n6.at', ((s4.new s5).new n6.s).2 hT3, fun H7 s7 => ?_⟩
      walk_at "rd"
      refine ⟨_, _, rfl, (s4.new s5).trans (sm_well n6 s7)⟩
    · obtain ⟨u1, u2, rfl, s4⟩ := hP
      walk_at "rd"
      exact k H4
end

theorem all_mk {l : PySem.W.OpenLaw} {w : World} {K : PySem.W.Frag} {h : Heap} {mg : Str → Option Value} {fa : Addr} (X : K.In h) (G : h.Ns mainGlobals mg) (hfa : mg "law" = some (.ref fa))
    {f_law : Addr} {f_law_right : Addr} {f_law_links : Addr} {f_law_draw : Addr} {f_check_schedule : Addr} {f_schedule : Addr} {f_setting : Addr} {P_helpers : Addr} {cc_helpers : Addr} {f_helpers : Addr} {f_check_bound : Addr} {f_greatest_channels : Addr} {f_chain : Addr} {f_played : Addr} {f_switched : Addr} {f_next_channel : Addr} {f_all_off : Addr} {f_check_state : Addr} {f_check_forest : Addr} {f_ring_of : Addr} {f_is_forest : Addr} {f_is_link : Addr} {f_is_int : Addr} {f_NoSchedule_init : Addr} {C_NoSchedule : Addr} {f_HasRing_init : Addr} {C_HasRing : Addr} {f_NoChannel_init : Addr} {C_NoChannel : Addr} {f_NoBound_init : Addr} {C_NoBound : Addr} {f_NoSteps_init : Addr} {C_NoSteps : Addr} {f_NoState_init : Addr} {C_NoState : Addr} {f_NoStation_init : Addr} {C_NoStation : Addr} {f_NoNetwork_init : Addr} {C_NoNetwork : Addr} {f_Network_check_station : Addr} {f_Network_neighbours : Addr} {f_Network_eq : Addr} {f_Network_len : Addr} {f_Network_init : Addr} {C : Addr} {B : Addr} {od_Network_init an_Network_init : Option Addr} {sl_Network_init : Array (Option Value)} {oc_Network_init kV_Network_init dc_Network_init pm_Network_init cd_Network_init ct_Network_init : Value} {od_Network_len an_Network_len : Option Addr} {sl_Network_len : Array (Option Value)} {oc_Network_len kV_Network_len dc_Network_len pm_Network_len cd_Network_len ct_Network_len : Value} {od_Network_eq an_Network_eq : Option Addr} {sl_Network_eq : Array (Option Value)} {oc_Network_eq kV_Network_eq dc_Network_eq pm_Network_eq cd_Network_eq ct_Network_eq : Value} {od_Network_neighbours an_Network_neighbours : Option Addr} {sl_Network_neighbours : Array (Option Value)} {oc_Network_neighbours kV_Network_neighbours dc_Network_neighbours pm_Network_neighbours cd_Network_neighbours ct_Network_neighbours : Value} {od_Network_check_station an_Network_check_station : Option Addr} {sl_Network_check_station : Array (Option Value)} {oc_Network_check_station kV_Network_check_station dc_Network_check_station pm_Network_check_station cd_Network_check_station ct_Network_check_station : Value} {nm_NoNetwork q_NoNetwork : Str} {N_NoNetwork : Addr} {bs_NoNetwork bm_NoNetwork : List Value} {sn_NoNetwork : List Str} {sub_NoNetwork : List Value} {ab_NoNetwork : Bool} {col_NoNetwork : Option Bool} {dd_NoNetwork : Option Addr} {m0_NoNetwork m1_NoNetwork m2_NoNetwork m3_NoNetwork m5_NoNetwork : Option Value} {od_NoNetwork_init an_NoNetwork_init : Option Addr} {sl_NoNetwork_init : Array (Option Value)} {oc_NoNetwork_init kV_NoNetwork_init dc_NoNetwork_init pm_NoNetwork_init cd_NoNetwork_init ct_NoNetwork_init : Value} {nm_NoStation q_NoStation : Str} {N_NoStation : Addr} {bs_NoStation bm_NoStation : List Value} {sn_NoStation : List Str} {sub_NoStation : List Value} {ab_NoStation : Bool} {col_NoStation : Option Bool} {dd_NoStation : Option Addr} {m0_NoStation m1_NoStation m2_NoStation m3_NoStation m5_NoStation : Option Value} {od_NoStation_init an_NoStation_init : Option Addr} {sl_NoStation_init : Array (Option Value)} {oc_NoStation_init kV_NoStation_init dc_NoStation_init pm_NoStation_init cd_NoStation_init ct_NoStation_init : Value} {nm_NoState q_NoState : Str} {N_NoState : Addr} {bs_NoState bm_NoState : List Value} {sn_NoState : List Str} {sub_NoState : List Value} {ab_NoState : Bool} {col_NoState : Option Bool} {dd_NoState : Option Addr} {m0_NoState m1_NoState m2_NoState m3_NoState m5_NoState : Option Value} {od_NoState_init an_NoState_init : Option Addr} {sl_NoState_init : Array (Option Value)} {oc_NoState_init kV_NoState_init dc_NoState_init pm_NoState_init cd_NoState_init ct_NoState_init : Value} {nm_NoSteps q_NoSteps : Str} {N_NoSteps : Addr} {bs_NoSteps bm_NoSteps : List Value} {sn_NoSteps : List Str} {sub_NoSteps : List Value} {ab_NoSteps : Bool} {col_NoSteps : Option Bool} {dd_NoSteps : Option Addr} {m0_NoSteps m1_NoSteps m2_NoSteps m3_NoSteps m5_NoSteps : Option Value} {od_NoSteps_init an_NoSteps_init : Option Addr} {sl_NoSteps_init : Array (Option Value)} {oc_NoSteps_init kV_NoSteps_init dc_NoSteps_init pm_NoSteps_init cd_NoSteps_init ct_NoSteps_init : Value} {nm_NoBound q_NoBound : Str} {N_NoBound : Addr} {bs_NoBound bm_NoBound : List Value} {sn_NoBound : List Str} {sub_NoBound : List Value} {ab_NoBound : Bool} {col_NoBound : Option Bool} {dd_NoBound : Option Addr} {m0_NoBound m1_NoBound m2_NoBound m3_NoBound m5_NoBound : Option Value} {od_NoBound_init an_NoBound_init : Option Addr} {sl_NoBound_init : Array (Option Value)} {oc_NoBound_init kV_NoBound_init dc_NoBound_init pm_NoBound_init cd_NoBound_init ct_NoBound_init : Value} {nm_NoChannel q_NoChannel : Str} {N_NoChannel : Addr} {bs_NoChannel bm_NoChannel : List Value} {sn_NoChannel : List Str} {sub_NoChannel : List Value} {ab_NoChannel : Bool} {col_NoChannel : Option Bool} {dd_NoChannel : Option Addr} {m0_NoChannel m1_NoChannel m2_NoChannel m3_NoChannel m5_NoChannel : Option Value} {od_NoChannel_init an_NoChannel_init : Option Addr} {sl_NoChannel_init : Array (Option Value)} {oc_NoChannel_init kV_NoChannel_init dc_NoChannel_init pm_NoChannel_init cd_NoChannel_init ct_NoChannel_init : Value} {nm_HasRing q_HasRing : Str} {N_HasRing : Addr} {bs_HasRing bm_HasRing : List Value} {sn_HasRing : List Str} {sub_HasRing : List Value} {ab_HasRing : Bool} {col_HasRing : Option Bool} {dd_HasRing : Option Addr} {m0_HasRing m1_HasRing m2_HasRing m3_HasRing m5_HasRing : Option Value} {od_HasRing_init an_HasRing_init : Option Addr} {sl_HasRing_init : Array (Option Value)} {oc_HasRing_init kV_HasRing_init dc_HasRing_init pm_HasRing_init cd_HasRing_init ct_HasRing_init : Value} {nm_NoSchedule q_NoSchedule : Str} {N_NoSchedule : Addr} {bs_NoSchedule bm_NoSchedule : List Value} {sn_NoSchedule : List Str} {sub_NoSchedule : List Value} {ab_NoSchedule : Bool} {col_NoSchedule : Option Bool} {dd_NoSchedule : Option Addr} {m0_NoSchedule m1_NoSchedule m2_NoSchedule m3_NoSchedule m5_NoSchedule : Option Value} {od_NoSchedule_init an_NoSchedule_init : Option Addr} {sl_NoSchedule_init : Array (Option Value)} {oc_NoSchedule_init kV_NoSchedule_init dc_NoSchedule_init pm_NoSchedule_init cd_NoSchedule_init ct_NoSchedule_init : Value} {t_MAX_STATIONS : Tok} {od_is_int an_is_int : Option Addr} {sl_is_int : Array (Option Value)} {oc_is_int kV_is_int dc_is_int pm_is_int cd_is_int ct_is_int : Value} {od_is_link an_is_link : Option Addr} {sl_is_link : Array (Option Value)} {oc_is_link kV_is_link dc_is_link pm_is_link cd_is_link ct_is_link : Value} {od_is_forest an_is_forest : Option Addr} {sl_is_forest : Array (Option Value)} {oc_is_forest kV_is_forest dc_is_forest pm_is_forest cd_is_forest ct_is_forest : Value} {od_ring_of an_ring_of : Option Addr} {sl_ring_of : Array (Option Value)} {oc_ring_of kV_ring_of dc_ring_of pm_ring_of cd_ring_of ct_ring_of : Value} {od_check_forest an_check_forest : Option Addr} {sl_check_forest : Array (Option Value)} {oc_check_forest kV_check_forest dc_check_forest pm_check_forest cd_check_forest ct_check_forest : Value} {od_check_state an_check_state : Option Addr} {sl_check_state : Array (Option Value)} {oc_check_state kV_check_state dc_check_state pm_check_state cd_check_state ct_check_state : Value} {od_all_off an_all_off : Option Addr} {sl_all_off : Array (Option Value)} {oc_all_off kV_all_off dc_all_off pm_all_off cd_all_off ct_all_off : Value} {od_next_channel an_next_channel : Option Addr} {sl_next_channel : Array (Option Value)} {oc_next_channel kV_next_channel dc_next_channel pm_next_channel cd_next_channel ct_next_channel : Value} {od_switched an_switched : Option Addr} {sl_switched : Array (Option Value)} {oc_switched kV_switched dc_switched pm_switched cd_switched ct_switched : Value} {od_played an_played : Option Addr} {sl_played : Array (Option Value)} {oc_played kV_played dc_played pm_played cd_played ct_played : Value} {od_chain an_chain : Option Addr} {sl_chain : Array (Option Value)} {oc_chain kV_chain dc_chain pm_chain cd_chain ct_chain : Value} {od_greatest_channels an_greatest_channels : Option Addr} {sl_greatest_channels : Array (Option Value)} {oc_greatest_channels kV_greatest_channels dc_greatest_channels pm_greatest_channels cd_greatest_channels ct_greatest_channels : Value} {od_check_bound an_check_bound : Option Addr} {sl_check_bound : Array (Option Value)} {oc_check_bound kV_check_bound dc_check_bound pm_check_bound cd_check_bound ct_check_bound : Value} {od_helpers an_helpers : Option Addr} {sl_helpers : Array (Option Value)} {oc_helpers kV_helpers dc_helpers pm_helpers ct_helpers : Value} {od_setting an_setting : Option Addr} {sl_setting : Array (Option Value)} {oc_setting kV_setting dc_setting pm_setting cd_setting ct_setting : Value} {od_schedule an_schedule : Option Addr} {sl_schedule : Array (Option Value)} {oc_schedule kV_schedule dc_schedule pm_schedule cd_schedule ct_schedule : Value} {od_check_schedule an_check_schedule : Option Addr} {sl_check_schedule : Array (Option Value)} {oc_check_schedule kV_check_schedule dc_check_schedule pm_check_schedule cd_check_schedule ct_check_schedule : Value} {od_law_draw an_law_draw : Option Addr} {sl_law_draw : Array (Option Value)} {oc_law_draw kV_law_draw dc_law_draw pm_law_draw cd_law_draw ct_law_draw : Value} {od_law_links an_law_links : Option Addr} {sl_law_links : Array (Option Value)} {oc_law_links kV_law_links dc_law_links pm_law_links cd_law_links ct_law_links : Value} {od_law_right an_law_right : Option Addr} {sl_law_right : Array (Option Value)} {oc_law_right kV_law_right dc_law_right pm_law_right cd_law_right ct_law_right : Value} {od_law an_law : Option Addr} {sl_law : Array (Option Value)} {oc_law kV_law dc_law pm_law cd_law ct_law : Value}
    (a_B : PySem.W.nsIn K mainGlobals "ChannelError" = some (some (.ref B)))
    (gaB : PySem.W.specialIn K (.ref B) "__getattribute__" = some (some (.builtin "type.__getattribute__")))
    (rdB : PySem.W.readsIn K B (.type "type") = true)
    (vIB : PySem.W.findCls K (.ref B) (.type "type") "__init__" = some (.val (.builtin "ValueError.__init__")))
    (a_C : PySem.W.nsIn K mainGlobals "Network" = some (some (.ref C)))
    (pg : PySem.W.plainGet K C Str.empty = true)
    (hd : PySem.W.hasDictIn K C = true)
    (po : PySem.W.plainOver K C = true)
    (sa : PySem.W.findIn K (.ref C) "__setattr__" = some (some (.builtin "object.__setattr__")))
    (mk : PySem.W.makesIn K C = true)
    (kc : PySem.W.keepIn K (.ref C) = true)
    (nK : PySem.W.findIn K (.ref C) "kept" = some none)
    (nN : PySem.W.findIn K (.ref C) "near" = some none)
    (b_Network_init : PySem.W.findIn K (.ref C) "__init__" = some (some (.ref f_Network_init)))
    (i_Network_init : PySem.W.isFn K (.ref f_Network_init) = true)
    (l_Network_init : K.lookup f_Network_init = some ⟨oc_Network_init, od_Network_init, .func (PySem.W.fnOf "__init__" "Network.__init__" (defArgs s_Network_init) (defBody s_Network_init) (defScope s_Network_init) .none kV_Network_init dc_Network_init pm_Network_init an_Network_init cd_Network_init ct_Network_init), sl_Network_init⟩)
    (c_Network_init : PySem.W.codeIn K cd_Network_init "Network.__init__" = true)
    (k_Network_init : PySem.W.keepIn K (.ref f_Network_init) = true)
    (b_Network_len : PySem.W.findIn K (.ref C) "__len__" = some (some (.ref f_Network_len)))
    (i_Network_len : PySem.W.isFn K (.ref f_Network_len) = true)
    (l_Network_len : K.lookup f_Network_len = some ⟨oc_Network_len, od_Network_len, .func (PySem.W.fnOf "__len__" "Network.__len__" (defArgs s_Network_len) (defBody s_Network_len) (defScope s_Network_len) .none kV_Network_len dc_Network_len pm_Network_len an_Network_len cd_Network_len ct_Network_len), sl_Network_len⟩)
    (c_Network_len : PySem.W.codeIn K cd_Network_len "Network.__len__" = true)
    (k_Network_len : PySem.W.keepIn K (.ref f_Network_len) = true)
    (b_Network_eq : PySem.W.findIn K (.ref C) "__eq__" = some (some (.ref f_Network_eq)))
    (i_Network_eq : PySem.W.isFn K (.ref f_Network_eq) = true)
    (l_Network_eq : K.lookup f_Network_eq = some ⟨oc_Network_eq, od_Network_eq, .func (PySem.W.fnOf "__eq__" "Network.__eq__" (defArgs s_Network_eq) (defBody s_Network_eq) (defScope s_Network_eq) .none kV_Network_eq dc_Network_eq pm_Network_eq an_Network_eq cd_Network_eq ct_Network_eq), sl_Network_eq⟩)
    (c_Network_eq : PySem.W.codeIn K cd_Network_eq "Network.__eq__" = true)
    (k_Network_eq : PySem.W.keepIn K (.ref f_Network_eq) = true)
    (b_Network_neighbours : PySem.W.findIn K (.ref C) "neighbours" = some (some (.ref f_Network_neighbours)))
    (i_Network_neighbours : PySem.W.isFn K (.ref f_Network_neighbours) = true)
    (l_Network_neighbours : K.lookup f_Network_neighbours = some ⟨oc_Network_neighbours, od_Network_neighbours, .func (PySem.W.fnOf "neighbours" "Network.neighbours" (defArgs s_Network_neighbours) (defBody s_Network_neighbours) (defScope s_Network_neighbours) .none kV_Network_neighbours dc_Network_neighbours pm_Network_neighbours an_Network_neighbours cd_Network_neighbours ct_Network_neighbours), sl_Network_neighbours⟩)
    (c_Network_neighbours : PySem.W.codeIn K cd_Network_neighbours "Network.neighbours" = true)
    (k_Network_neighbours : PySem.W.keepIn K (.ref f_Network_neighbours) = true)
    (b_Network_check_station : PySem.W.findIn K (.ref C) "check_station" = some (some (.ref f_Network_check_station)))
    (i_Network_check_station : PySem.W.isFn K (.ref f_Network_check_station) = true)
    (l_Network_check_station : K.lookup f_Network_check_station = some ⟨oc_Network_check_station, od_Network_check_station, .func (PySem.W.fnOf "check_station" "Network.check_station" (defArgs s_Network_check_station) (defBody s_Network_check_station) (defScope s_Network_check_station) .none kV_Network_check_station dc_Network_check_station pm_Network_check_station an_Network_check_station cd_Network_check_station ct_Network_check_station), sl_Network_check_station⟩)
    (c_Network_check_station : PySem.W.codeIn K cd_Network_check_station "Network.check_station" = true)
    (k_Network_check_station : PySem.W.keepIn K (.ref f_Network_check_station) = true)
    (haC : PySem.W.findIn K (.ref C) "__class__" = some (some (.builtin "object.__class__")))
    (hnG : PySem.W.specialIn K (.builtin "object.__class__") "__get__" = some (some (.builtin "getset_descriptor.__get__")))
    (htG : PySem.W.takesIn K (.builtin "object.__class__") = some true)
    (hmC : PySem.W.mroIn K C (.type "object") = some true)
    (ttC : PySem.W.kitOne K (.type "tuple") (.ref C) = some false)
    (neC : PySem.W.findIn K (.ref C) "__ne__" = some (some (.builtin "object.__ne__")))
    (soC : PySem.W.subIn K (.ref C) (.type "object") = some true)
    (nfC : PySem.W.notFirst K C (.type "tuple") = true)
    (a_NoNetwork : PySem.W.nsIn K mainGlobals "NoNetwork" = some (some (.ref C_NoNetwork)))
    (x_NoNetwork : K.lookup C_NoNetwork = some (excClassObj nm_NoNetwork q_NoNetwork C_NoNetwork N_NoNetwork bs_NoNetwork bm_NoNetwork true sn_NoNetwork sub_NoNetwork ab_NoNetwork col_NoNetwork dd_NoNetwork m0_NoNetwork m1_NoNetwork m2_NoNetwork m3_NoNetwork m5_NoNetwork "ValueError.__new__"))
    (r_NoNetwork : PySem.HandSPX.refsVE bm_NoNetwork = true)
    (s_a_NoNetwork : PySem.W.findIn K (.ref C_NoNetwork) "__setattr__" = some (some (.builtin "object.__setattr__")))
    (e_NoNetwork : PySem.W.subIn K (.ref C_NoNetwork) (.type "BaseException") = some true)
    (t_NoNetwork : PySem.W.typeIn K (.ref C_NoNetwork) = some (.type "type"))
    (kc_NoNetwork : PySem.W.keepIn K (.ref C_NoNetwork) = true)
    (nf_NoNetwork : PySem.W.findIn K (.ref C_NoNetwork) "index" = some none)
    (b_NoNetwork_init : PySem.W.findIn K (.ref C_NoNetwork) "__init__" = some (some (.ref f_NoNetwork_init)))
    (ti_NoNetwork_init : PySem.W.typeIn K (.ref f_NoNetwork_init) = some (.type "function"))
    (l_NoNetwork_init : K.lookup f_NoNetwork_init = some ⟨oc_NoNetwork_init, od_NoNetwork_init, .func (PySem.W.fnOf "__init__" "NoNetwork.__init__" (defArgs s_NoNetwork_init) (defBody s_NoNetwork_init) (defScope s_NoNetwork_init) .none kV_NoNetwork_init dc_NoNetwork_init pm_NoNetwork_init an_NoNetwork_init cd_NoNetwork_init ct_NoNetwork_init), sl_NoNetwork_init⟩)
    (c_NoNetwork_init : PySem.W.codeIn K cd_NoNetwork_init "NoNetwork.__init__" = true)
    (k_NoNetwork_init : PySem.W.keepIn K (.ref f_NoNetwork_init) = true)
    (a_NoStation : PySem.W.nsIn K mainGlobals "NoStation" = some (some (.ref C_NoStation)))
    (x_NoStation : K.lookup C_NoStation = some (excClassObj nm_NoStation q_NoStation C_NoStation N_NoStation bs_NoStation bm_NoStation true sn_NoStation sub_NoStation ab_NoStation col_NoStation dd_NoStation m0_NoStation m1_NoStation m2_NoStation m3_NoStation m5_NoStation "ValueError.__new__"))
    (r_NoStation : PySem.HandSPX.refsVE bm_NoStation = true)
    (s_a_NoStation : PySem.W.findIn K (.ref C_NoStation) "__setattr__" = some (some (.builtin "object.__setattr__")))
    (e_NoStation : PySem.W.subIn K (.ref C_NoStation) (.type "BaseException") = some true)
    (t_NoStation : PySem.W.typeIn K (.ref C_NoStation) = some (.type "type"))
    (kc_NoStation : PySem.W.keepIn K (.ref C_NoStation) = true)
    (nf_NoStation : PySem.W.findIn K (.ref C_NoStation) "station" = some none)
    (b_NoStation_init : PySem.W.findIn K (.ref C_NoStation) "__init__" = some (some (.ref f_NoStation_init)))
    (ti_NoStation_init : PySem.W.typeIn K (.ref f_NoStation_init) = some (.type "function"))
    (l_NoStation_init : K.lookup f_NoStation_init = some ⟨oc_NoStation_init, od_NoStation_init, .func (PySem.W.fnOf "__init__" "NoStation.__init__" (defArgs s_NoStation_init) (defBody s_NoStation_init) (defScope s_NoStation_init) .none kV_NoStation_init dc_NoStation_init pm_NoStation_init an_NoStation_init cd_NoStation_init ct_NoStation_init), sl_NoStation_init⟩)
    (c_NoStation_init : PySem.W.codeIn K cd_NoStation_init "NoStation.__init__" = true)
    (k_NoStation_init : PySem.W.keepIn K (.ref f_NoStation_init) = true)
    (a_NoState : PySem.W.nsIn K mainGlobals "NoState" = some (some (.ref C_NoState)))
    (x_NoState : K.lookup C_NoState = some (excClassObj nm_NoState q_NoState C_NoState N_NoState bs_NoState bm_NoState true sn_NoState sub_NoState ab_NoState col_NoState dd_NoState m0_NoState m1_NoState m2_NoState m3_NoState m5_NoState "ValueError.__new__"))
    (r_NoState : PySem.HandSPX.refsVE bm_NoState = true)
    (s_a_NoState : PySem.W.findIn K (.ref C_NoState) "__setattr__" = some (some (.builtin "object.__setattr__")))
    (e_NoState : PySem.W.subIn K (.ref C_NoState) (.type "BaseException") = some true)
    (t_NoState : PySem.W.typeIn K (.ref C_NoState) = some (.type "type"))
    (kc_NoState : PySem.W.keepIn K (.ref C_NoState) = true)
    (nf_NoState : PySem.W.findIn K (.ref C_NoState) "index" = some none)
    (b_NoState_init : PySem.W.findIn K (.ref C_NoState) "__init__" = some (some (.ref f_NoState_init)))
    (ti_NoState_init : PySem.W.typeIn K (.ref f_NoState_init) = some (.type "function"))
    (l_NoState_init : K.lookup f_NoState_init = some ⟨oc_NoState_init, od_NoState_init, .func (PySem.W.fnOf "__init__" "NoState.__init__" (defArgs s_NoState_init) (defBody s_NoState_init) (defScope s_NoState_init) .none kV_NoState_init dc_NoState_init pm_NoState_init an_NoState_init cd_NoState_init ct_NoState_init), sl_NoState_init⟩)
    (c_NoState_init : PySem.W.codeIn K cd_NoState_init "NoState.__init__" = true)
    (k_NoState_init : PySem.W.keepIn K (.ref f_NoState_init) = true)
    (a_NoSteps : PySem.W.nsIn K mainGlobals "NoSteps" = some (some (.ref C_NoSteps)))
    (x_NoSteps : K.lookup C_NoSteps = some (excClassObj nm_NoSteps q_NoSteps C_NoSteps N_NoSteps bs_NoSteps bm_NoSteps true sn_NoSteps sub_NoSteps ab_NoSteps col_NoSteps dd_NoSteps m0_NoSteps m1_NoSteps m2_NoSteps m3_NoSteps m5_NoSteps "ValueError.__new__"))
    (r_NoSteps : PySem.HandSPX.refsVE bm_NoSteps = true)
    (s_a_NoSteps : PySem.W.findIn K (.ref C_NoSteps) "__setattr__" = some (some (.builtin "object.__setattr__")))
    (e_NoSteps : PySem.W.subIn K (.ref C_NoSteps) (.type "BaseException") = some true)
    (t_NoSteps : PySem.W.typeIn K (.ref C_NoSteps) = some (.type "type"))
    (kc_NoSteps : PySem.W.keepIn K (.ref C_NoSteps) = true)
    (nf_NoSteps : PySem.W.findIn K (.ref C_NoSteps) "index" = some none)
    (b_NoSteps_init : PySem.W.findIn K (.ref C_NoSteps) "__init__" = some (some (.ref f_NoSteps_init)))
    (ti_NoSteps_init : PySem.W.typeIn K (.ref f_NoSteps_init) = some (.type "function"))
    (l_NoSteps_init : K.lookup f_NoSteps_init = some ⟨oc_NoSteps_init, od_NoSteps_init, .func (PySem.W.fnOf "__init__" "NoSteps.__init__" (defArgs s_NoSteps_init) (defBody s_NoSteps_init) (defScope s_NoSteps_init) .none kV_NoSteps_init dc_NoSteps_init pm_NoSteps_init an_NoSteps_init cd_NoSteps_init ct_NoSteps_init), sl_NoSteps_init⟩)
    (c_NoSteps_init : PySem.W.codeIn K cd_NoSteps_init "NoSteps.__init__" = true)
    (k_NoSteps_init : PySem.W.keepIn K (.ref f_NoSteps_init) = true)
    (a_NoBound : PySem.W.nsIn K mainGlobals "NoBound" = some (some (.ref C_NoBound)))
    (x_NoBound : K.lookup C_NoBound = some (excClassObj nm_NoBound q_NoBound C_NoBound N_NoBound bs_NoBound bm_NoBound true sn_NoBound sub_NoBound ab_NoBound col_NoBound dd_NoBound m0_NoBound m1_NoBound m2_NoBound m3_NoBound m5_NoBound "ValueError.__new__"))
    (r_NoBound : PySem.HandSPX.refsVE bm_NoBound = true)
    (s_a_NoBound : PySem.W.findIn K (.ref C_NoBound) "__setattr__" = some (some (.builtin "object.__setattr__")))
    (e_NoBound : PySem.W.subIn K (.ref C_NoBound) (.type "BaseException") = some true)
    (t_NoBound : PySem.W.typeIn K (.ref C_NoBound) = some (.type "type"))
    (kc_NoBound : PySem.W.keepIn K (.ref C_NoBound) = true)
    (nf_NoBound : PySem.W.findIn K (.ref C_NoBound) "index" = some none)
    (b_NoBound_init : PySem.W.findIn K (.ref C_NoBound) "__init__" = some (some (.ref f_NoBound_init)))
    (ti_NoBound_init : PySem.W.typeIn K (.ref f_NoBound_init) = some (.type "function"))
    (l_NoBound_init : K.lookup f_NoBound_init = some ⟨oc_NoBound_init, od_NoBound_init, .func (PySem.W.fnOf "__init__" "NoBound.__init__" (defArgs s_NoBound_init) (defBody s_NoBound_init) (defScope s_NoBound_init) .none kV_NoBound_init dc_NoBound_init pm_NoBound_init an_NoBound_init cd_NoBound_init ct_NoBound_init), sl_NoBound_init⟩)
    (c_NoBound_init : PySem.W.codeIn K cd_NoBound_init "NoBound.__init__" = true)
    (k_NoBound_init : PySem.W.keepIn K (.ref f_NoBound_init) = true)
    (a_NoChannel : PySem.W.nsIn K mainGlobals "NoChannel" = some (some (.ref C_NoChannel)))
    (x_NoChannel : K.lookup C_NoChannel = some (excClassObj nm_NoChannel q_NoChannel C_NoChannel N_NoChannel bs_NoChannel bm_NoChannel true sn_NoChannel sub_NoChannel ab_NoChannel col_NoChannel dd_NoChannel m0_NoChannel m1_NoChannel m2_NoChannel m3_NoChannel m5_NoChannel "ValueError.__new__"))
    (r_NoChannel : PySem.HandSPX.refsVE bm_NoChannel = true)
    (s_a_NoChannel : PySem.W.findIn K (.ref C_NoChannel) "__setattr__" = some (some (.builtin "object.__setattr__")))
    (e_NoChannel : PySem.W.subIn K (.ref C_NoChannel) (.type "BaseException") = some true)
    (t_NoChannel : PySem.W.typeIn K (.ref C_NoChannel) = some (.type "type"))
    (kc_NoChannel : PySem.W.keepIn K (.ref C_NoChannel) = true)
    (nf_NoChannel : PySem.W.findIn K (.ref C_NoChannel) "channel" = some none)
    (b_NoChannel_init : PySem.W.findIn K (.ref C_NoChannel) "__init__" = some (some (.ref f_NoChannel_init)))
    (ti_NoChannel_init : PySem.W.typeIn K (.ref f_NoChannel_init) = some (.type "function"))
    (l_NoChannel_init : K.lookup f_NoChannel_init = some ⟨oc_NoChannel_init, od_NoChannel_init, .func (PySem.W.fnOf "__init__" "NoChannel.__init__" (defArgs s_NoChannel_init) (defBody s_NoChannel_init) (defScope s_NoChannel_init) .none kV_NoChannel_init dc_NoChannel_init pm_NoChannel_init an_NoChannel_init cd_NoChannel_init ct_NoChannel_init), sl_NoChannel_init⟩)
    (c_NoChannel_init : PySem.W.codeIn K cd_NoChannel_init "NoChannel.__init__" = true)
    (k_NoChannel_init : PySem.W.keepIn K (.ref f_NoChannel_init) = true)
    (a_HasRing : PySem.W.nsIn K mainGlobals "HasRing" = some (some (.ref C_HasRing)))
    (x_HasRing : K.lookup C_HasRing = some (excClassObj nm_HasRing q_HasRing C_HasRing N_HasRing bs_HasRing bm_HasRing true sn_HasRing sub_HasRing ab_HasRing col_HasRing dd_HasRing m0_HasRing m1_HasRing m2_HasRing m3_HasRing m5_HasRing "ValueError.__new__"))
    (r_HasRing : PySem.HandSPX.refsVE bm_HasRing = true)
    (s_a_HasRing : PySem.W.findIn K (.ref C_HasRing) "__setattr__" = some (some (.builtin "object.__setattr__")))
    (e_HasRing : PySem.W.subIn K (.ref C_HasRing) (.type "BaseException") = some true)
    (t_HasRing : PySem.W.typeIn K (.ref C_HasRing) = some (.type "type"))
    (kc_HasRing : PySem.W.keepIn K (.ref C_HasRing) = true)
    (nf_HasRing : PySem.W.findIn K (.ref C_HasRing) "ring" = some none)
    (b_HasRing_init : PySem.W.findIn K (.ref C_HasRing) "__init__" = some (some (.ref f_HasRing_init)))
    (ti_HasRing_init : PySem.W.typeIn K (.ref f_HasRing_init) = some (.type "function"))
    (l_HasRing_init : K.lookup f_HasRing_init = some ⟨oc_HasRing_init, od_HasRing_init, .func (PySem.W.fnOf "__init__" "HasRing.__init__" (defArgs s_HasRing_init) (defBody s_HasRing_init) (defScope s_HasRing_init) .none kV_HasRing_init dc_HasRing_init pm_HasRing_init an_HasRing_init cd_HasRing_init ct_HasRing_init), sl_HasRing_init⟩)
    (c_HasRing_init : PySem.W.codeIn K cd_HasRing_init "HasRing.__init__" = true)
    (k_HasRing_init : PySem.W.keepIn K (.ref f_HasRing_init) = true)
    (a_NoSchedule : PySem.W.nsIn K mainGlobals "NoSchedule" = some (some (.ref C_NoSchedule)))
    (x_NoSchedule : K.lookup C_NoSchedule = some (excClassObj nm_NoSchedule q_NoSchedule C_NoSchedule N_NoSchedule bs_NoSchedule bm_NoSchedule true sn_NoSchedule sub_NoSchedule ab_NoSchedule col_NoSchedule dd_NoSchedule m0_NoSchedule m1_NoSchedule m2_NoSchedule m3_NoSchedule m5_NoSchedule "ValueError.__new__"))
    (r_NoSchedule : PySem.HandSPX.refsVE bm_NoSchedule = true)
    (s_a_NoSchedule : PySem.W.findIn K (.ref C_NoSchedule) "__setattr__" = some (some (.builtin "object.__setattr__")))
    (e_NoSchedule : PySem.W.subIn K (.ref C_NoSchedule) (.type "BaseException") = some true)
    (t_NoSchedule : PySem.W.typeIn K (.ref C_NoSchedule) = some (.type "type"))
    (kc_NoSchedule : PySem.W.keepIn K (.ref C_NoSchedule) = true)
    (nf_NoSchedule : PySem.W.findIn K (.ref C_NoSchedule) "index" = some none)
    (b_NoSchedule_init : PySem.W.findIn K (.ref C_NoSchedule) "__init__" = some (some (.ref f_NoSchedule_init)))
    (ti_NoSchedule_init : PySem.W.typeIn K (.ref f_NoSchedule_init) = some (.type "function"))
    (l_NoSchedule_init : K.lookup f_NoSchedule_init = some ⟨oc_NoSchedule_init, od_NoSchedule_init, .func (PySem.W.fnOf "__init__" "NoSchedule.__init__" (defArgs s_NoSchedule_init) (defBody s_NoSchedule_init) (defScope s_NoSchedule_init) .none kV_NoSchedule_init dc_NoSchedule_init pm_NoSchedule_init an_NoSchedule_init cd_NoSchedule_init ct_NoSchedule_init), sl_NoSchedule_init⟩)
    (c_NoSchedule_init : PySem.W.codeIn K cd_NoSchedule_init "NoSchedule.__init__" = true)
    (k_NoSchedule_init : PySem.W.keepIn K (.ref f_NoSchedule_init) = true)
    (a_MAX_STATIONS : PySem.W.nsIn K mainGlobals "MAX_STATIONS" = some (some (.int 60 t_MAX_STATIONS)))
    (a_is_int : PySem.W.nsIn K mainGlobals "is_int" = some (some (.ref f_is_int)))
    (l_is_int : K.lookup f_is_int = some ⟨oc_is_int, od_is_int, .func (PySem.W.fnOf "is_int" "is_int" (defArgs s_is_int) (defBody s_is_int) (defScope s_is_int) .none kV_is_int dc_is_int pm_is_int an_is_int cd_is_int ct_is_int), sl_is_int⟩)
    (c_is_int : PySem.W.codeIn K cd_is_int "is_int" = true)
    (k_is_int : PySem.W.keepIn K (.ref f_is_int) = true)
    (a_is_link : PySem.W.nsIn K mainGlobals "is_link" = some (some (.ref f_is_link)))
    (l_is_link : K.lookup f_is_link = some ⟨oc_is_link, od_is_link, .func (PySem.W.fnOf "is_link" "is_link" (defArgs s_is_link) (defBody s_is_link) (defScope s_is_link) .none kV_is_link dc_is_link pm_is_link an_is_link cd_is_link ct_is_link), sl_is_link⟩)
    (c_is_link : PySem.W.codeIn K cd_is_link "is_link" = true)
    (k_is_link : PySem.W.keepIn K (.ref f_is_link) = true)
    (a_is_forest : PySem.W.nsIn K mainGlobals "is_forest" = some (some (.ref f_is_forest)))
    (l_is_forest : K.lookup f_is_forest = some ⟨oc_is_forest, od_is_forest, .func (PySem.W.fnOf "is_forest" "is_forest" (defArgs s_is_forest) (defBody s_is_forest) (defScope s_is_forest) .none kV_is_forest dc_is_forest pm_is_forest an_is_forest cd_is_forest ct_is_forest), sl_is_forest⟩)
    (c_is_forest : PySem.W.codeIn K cd_is_forest "is_forest" = true)
    (k_is_forest : PySem.W.keepIn K (.ref f_is_forest) = true)
    (a_ring_of : PySem.W.nsIn K mainGlobals "ring_of" = some (some (.ref f_ring_of)))
    (l_ring_of : K.lookup f_ring_of = some ⟨oc_ring_of, od_ring_of, .func (PySem.W.fnOf "ring_of" "ring_of" (defArgs s_ring_of) (defBody s_ring_of) (defScope s_ring_of) .none kV_ring_of dc_ring_of pm_ring_of an_ring_of cd_ring_of ct_ring_of), sl_ring_of⟩)
    (c_ring_of : PySem.W.codeIn K cd_ring_of "ring_of" = true)
    (k_ring_of : PySem.W.keepIn K (.ref f_ring_of) = true)
    (a_check_forest : PySem.W.nsIn K mainGlobals "check_forest" = some (some (.ref f_check_forest)))
    (l_check_forest : K.lookup f_check_forest = some ⟨oc_check_forest, od_check_forest, .func (PySem.W.fnOf "check_forest" "check_forest" (defArgs s_check_forest) (defBody s_check_forest) (defScope s_check_forest) .none kV_check_forest dc_check_forest pm_check_forest an_check_forest cd_check_forest ct_check_forest), sl_check_forest⟩)
    (c_check_forest : PySem.W.codeIn K cd_check_forest "check_forest" = true)
    (k_check_forest : PySem.W.keepIn K (.ref f_check_forest) = true)
    (a_check_state : PySem.W.nsIn K mainGlobals "check_state" = some (some (.ref f_check_state)))
    (l_check_state : K.lookup f_check_state = some ⟨oc_check_state, od_check_state, .func (PySem.W.fnOf "check_state" "check_state" (defArgs s_check_state) (defBody s_check_state) (defScope s_check_state) .none kV_check_state dc_check_state pm_check_state an_check_state cd_check_state ct_check_state), sl_check_state⟩)
    (c_check_state : PySem.W.codeIn K cd_check_state "check_state" = true)
    (k_check_state : PySem.W.keepIn K (.ref f_check_state) = true)
    (a_all_off : PySem.W.nsIn K mainGlobals "all_off" = some (some (.ref f_all_off)))
    (l_all_off : K.lookup f_all_off = some ⟨oc_all_off, od_all_off, .func (PySem.W.fnOf "all_off" "all_off" (defArgs s_all_off) (defBody s_all_off) (defScope s_all_off) .none kV_all_off dc_all_off pm_all_off an_all_off cd_all_off ct_all_off), sl_all_off⟩)
    (c_all_off : PySem.W.codeIn K cd_all_off "all_off" = true)
    (k_all_off : PySem.W.keepIn K (.ref f_all_off) = true)
    (a_next_channel : PySem.W.nsIn K mainGlobals "next_channel" = some (some (.ref f_next_channel)))
    (l_next_channel : K.lookup f_next_channel = some ⟨oc_next_channel, od_next_channel, .func (PySem.W.fnOf "next_channel" "next_channel" (defArgs s_next_channel) (defBody s_next_channel) (defScope s_next_channel) .none kV_next_channel dc_next_channel pm_next_channel an_next_channel cd_next_channel ct_next_channel), sl_next_channel⟩)
    (c_next_channel : PySem.W.codeIn K cd_next_channel "next_channel" = true)
    (k_next_channel : PySem.W.keepIn K (.ref f_next_channel) = true)
    (a_switched : PySem.W.nsIn K mainGlobals "switched" = some (some (.ref f_switched)))
    (l_switched : K.lookup f_switched = some ⟨oc_switched, od_switched, .func (PySem.W.fnOf "switched" "switched" (defArgs s_switched) (defBody s_switched) (defScope s_switched) .none kV_switched dc_switched pm_switched an_switched cd_switched ct_switched), sl_switched⟩)
    (c_switched : PySem.W.codeIn K cd_switched "switched" = true)
    (k_switched : PySem.W.keepIn K (.ref f_switched) = true)
    (a_played : PySem.W.nsIn K mainGlobals "played" = some (some (.ref f_played)))
    (l_played : K.lookup f_played = some ⟨oc_played, od_played, .func (PySem.W.fnOf "played" "played" (defArgs s_played) (defBody s_played) (defScope s_played) .none kV_played dc_played pm_played an_played cd_played ct_played), sl_played⟩)
    (c_played : PySem.W.codeIn K cd_played "played" = true)
    (k_played : PySem.W.keepIn K (.ref f_played) = true)
    (a_chain : PySem.W.nsIn K mainGlobals "chain" = some (some (.ref f_chain)))
    (l_chain : K.lookup f_chain = some ⟨oc_chain, od_chain, .func (PySem.W.fnOf "chain" "chain" (defArgs s_chain) (defBody s_chain) (defScope s_chain) .none kV_chain dc_chain pm_chain an_chain cd_chain ct_chain), sl_chain⟩)
    (c_chain : PySem.W.codeIn K cd_chain "chain" = true)
    (k_chain : PySem.W.keepIn K (.ref f_chain) = true)
    (a_greatest_channels : PySem.W.nsIn K mainGlobals "greatest_channels" = some (some (.ref f_greatest_channels)))
    (l_greatest_channels : K.lookup f_greatest_channels = some ⟨oc_greatest_channels, od_greatest_channels, .func (PySem.W.fnOf "greatest_channels" "greatest_channels" (defArgs s_greatest_channels) (defBody s_greatest_channels) (defScope s_greatest_channels) .none kV_greatest_channels dc_greatest_channels pm_greatest_channels an_greatest_channels cd_greatest_channels ct_greatest_channels), sl_greatest_channels⟩)
    (c_greatest_channels : PySem.W.codeIn K cd_greatest_channels "greatest_channels" = true)
    (k_greatest_channels : PySem.W.keepIn K (.ref f_greatest_channels) = true)
    (a_check_bound : PySem.W.nsIn K mainGlobals "check_bound" = some (some (.ref f_check_bound)))
    (l_check_bound : K.lookup f_check_bound = some ⟨oc_check_bound, od_check_bound, .func (PySem.W.fnOf "check_bound" "check_bound" (defArgs s_check_bound) (defBody s_check_bound) (defScope s_check_bound) .none kV_check_bound dc_check_bound pm_check_bound an_check_bound cd_check_bound ct_check_bound), sl_check_bound⟩)
    (c_check_bound : PySem.W.codeIn K cd_check_bound "check_bound" = true)
    (k_check_bound : PySem.W.keepIn K (.ref f_check_bound) = true)
    (a_helpers : PySem.W.nsIn K mainGlobals "helpers" = some (some (.ref f_helpers)))
    (l_helpers : K.lookup f_helpers = some ⟨oc_helpers, od_helpers, .func (PySem.W.fnOf "helpers" "helpers" (defArgs s_helpers) (defBody s_helpers) (defScope s_helpers) .none kV_helpers dc_helpers pm_helpers an_helpers (.ref cc_helpers) ct_helpers), sl_helpers⟩)
    (c_helpers : PySem.W.codeIn K (.ref cc_helpers) "helpers" = true)
    (k_helpers : PySem.W.keepIn K (.ref f_helpers) = true)
    (t_helpers : tabOf K cc_helpers = some P_helpers)
    (h_helpers : PySem.W.codeHdIn K cc_helpers P_helpers = true)
    (n_helpers : K.lookup P_helpers = none)
    (e_helpers : h.get? P_helpers = some { cls := .none, data := .fields #[] })
    (a_setting : PySem.W.nsIn K mainGlobals "setting" = some (some (.ref f_setting)))
    (l_setting : K.lookup f_setting = some ⟨oc_setting, od_setting, .func (PySem.W.fnOf "setting" "setting" (defArgs s_setting) (defBody s_setting) (defScope s_setting) .none kV_setting dc_setting pm_setting an_setting cd_setting ct_setting), sl_setting⟩)
    (c_setting : PySem.W.codeIn K cd_setting "setting" = true)
    (k_setting : PySem.W.keepIn K (.ref f_setting) = true)
    (a_schedule : PySem.W.nsIn K mainGlobals "schedule" = some (some (.ref f_schedule)))
    (l_schedule : K.lookup f_schedule = some ⟨oc_schedule, od_schedule, .func (PySem.W.fnOf "schedule" "schedule" (defArgs s_schedule) (defBody s_schedule) (defScope s_schedule) .none kV_schedule dc_schedule pm_schedule an_schedule cd_schedule ct_schedule), sl_schedule⟩)
    (c_schedule : PySem.W.codeIn K cd_schedule "schedule" = true)
    (k_schedule : PySem.W.keepIn K (.ref f_schedule) = true)
    (a_check_schedule : PySem.W.nsIn K mainGlobals "check_schedule" = some (some (.ref f_check_schedule)))
    (l_check_schedule : K.lookup f_check_schedule = some ⟨oc_check_schedule, od_check_schedule, .func (PySem.W.fnOf "check_schedule" "check_schedule" (defArgs s_check_schedule) (defBody s_check_schedule) (defScope s_check_schedule) .none kV_check_schedule dc_check_schedule pm_check_schedule an_check_schedule cd_check_schedule ct_check_schedule), sl_check_schedule⟩)
    (c_check_schedule : PySem.W.codeIn K cd_check_schedule "check_schedule" = true)
    (k_check_schedule : PySem.W.keepIn K (.ref f_check_schedule) = true)
    (a_law_draw : PySem.W.nsIn K mainGlobals "_law_draw" = some (some (.ref f_law_draw)))
    (l_law_draw : K.lookup f_law_draw = some ⟨oc_law_draw, od_law_draw, .func (PySem.W.fnOf "_law_draw" "_law_draw" (defArgs s_law_draw) (defBody s_law_draw) (defScope s_law_draw) .none kV_law_draw dc_law_draw pm_law_draw an_law_draw cd_law_draw ct_law_draw), sl_law_draw⟩)
    (c_law_draw : PySem.W.codeIn K cd_law_draw "_law_draw" = true)
    (k_law_draw : PySem.W.keepIn K (.ref f_law_draw) = true)
    (a_law_links : PySem.W.nsIn K mainGlobals "_law_links" = some (some (.ref f_law_links)))
    (l_law_links : K.lookup f_law_links = some ⟨oc_law_links, od_law_links, .func (PySem.W.fnOf "_law_links" "_law_links" (defArgs s_law_links) (defBody s_law_links) (defScope s_law_links) .none kV_law_links dc_law_links pm_law_links an_law_links cd_law_links ct_law_links), sl_law_links⟩)
    (c_law_links : PySem.W.codeIn K cd_law_links "_law_links" = true)
    (k_law_links : PySem.W.keepIn K (.ref f_law_links) = true)
    (a_law_right : PySem.W.nsIn K mainGlobals "_law_right" = some (some (.ref f_law_right)))
    (l_law_right : K.lookup f_law_right = some ⟨oc_law_right, od_law_right, .func (PySem.W.fnOf "_law_right" "_law_right" (defArgs s_law_right) (defBody s_law_right) (defScope s_law_right) .none kV_law_right dc_law_right pm_law_right an_law_right cd_law_right ct_law_right), sl_law_right⟩)
    (c_law_right : PySem.W.codeIn K cd_law_right "_law_right" = true)
    (k_law_right : PySem.W.keepIn K (.ref f_law_right) = true)
    (a_law : PySem.W.nsIn K mainGlobals "law" = some (some (.ref f_law)))
    (l_law : K.lookup f_law = some ⟨oc_law, od_law, .func (PySem.W.fnOf "law" "law" (defArgs s_law) (defBody s_law) (defScope s_law) .none kV_law dc_law pm_law an_law cd_law ct_law), sl_law⟩)
    (c_law : PySem.W.codeIn K cd_law "law" = true)
    (k_law : PySem.W.keepIn K (.ref f_law) = true)
    (z1 : PySem.W.nsIn K mainGlobals "len" = some none)
    (z2 : PySem.W.nsIn K mainGlobals "range" = some none)
    (z3 : PySem.W.nsIn K mainGlobals "sorted" = some none)
    (z4 : PySem.W.nsIn K mainGlobals "enumerate" = some none)
    (z5 : PySem.W.nsIn K mainGlobals "isinstance" = some none)
    (z6 : PySem.W.nsIn K mainGlobals "int" = some none)
    (z7 : PySem.W.nsIn K mainGlobals "bool" = some none)
    (z8 : PySem.W.nsIn K mainGlobals "tuple" = some none)
    (z9 : PySem.W.nsIn K mainGlobals "list" = some none)
    (z10 : PySem.W.nsIn K mainGlobals "str" = some none)
    (z11 : PySem.W.nsIn K mainGlobals "all" = some none)
    (z12 : PySem.W.nsIn K mainGlobals "min" = some none)
    (z13 : PySem.W.nsIn K mainGlobals "max" = some none)
    (z14 : PySem.W.nsIn K mainGlobals "repr" = some none)
    (z15 : PySem.W.nsIn K mainGlobals "zip" = some none)
    (z16 : PySem.W.nsIn K mainGlobals "set" = some none)
    (z17 : PySem.W.nsIn K mainGlobals "ValueError" = some none) :
    LawG l w K CX0 21 63 "_law_script" mg fa h := by
  have efa := hfa.symm.trans (PySem.W.mg_of X G a_law)
  cases efa
  have ce : CeB K mg B := ⟨PySem.W.mg_of X G a_B, gaB, rdB, vIB⟩
  have N : NetC K C := ⟨⟨pg, hd, po, sa⟩, nK, nN⟩
  have g_Network := PySem.W.mg_of X G a_C
  have M_Network_init : MetAt K C "__init__" "Network.__init__" s_Network_init := ⟨_, _, fun_mk (st := s_Network_init) l_Network_init c_Network_init k_Network_init, b_Network_init, i_Network_init⟩
  have M_Network_len : MetAt K C "__len__" "Network.__len__" s_Network_len := ⟨_, _, fun_mk (st := s_Network_len) l_Network_len c_Network_len k_Network_len, b_Network_len, i_Network_len⟩
  have M_Network_eq : MetAt K C "__eq__" "Network.__eq__" s_Network_eq := ⟨_, _, fun_mk (st := s_Network_eq) l_Network_eq c_Network_eq k_Network_eq, b_Network_eq, i_Network_eq⟩
  have M_Network_neighbours : MetAt K C "neighbours" "Network.neighbours" s_Network_neighbours := ⟨_, _, fun_mk (st := s_Network_neighbours) l_Network_neighbours c_Network_neighbours k_Network_neighbours, b_Network_neighbours, i_Network_neighbours⟩
  have M_Network_check_station : MetAt K C "check_station" "Network.check_station" s_Network_check_station := ⟨_, _, fun_mk (st := s_Network_check_station) l_Network_check_station c_Network_check_station k_Network_check_station, b_Network_check_station, i_Network_check_station⟩
  have IC : InC K C := ⟨haC, hnG, htG, hmC, ttC⟩
  have E_NoNetwork : ExcAt K mg "NoNetwork" C_NoNetwork "index" "NoNetwork.__init__" s_NoNetwork_init := ⟨⟨_, _, fun_mk (st := s_NoNetwork_init) l_NoNetwork_init c_NoNetwork_init k_NoNetwork_init, PySem.W.mg_of X G a_NoNetwork, b_NoNetwork_init, ti_NoNetwork_init⟩, ⟨⟨nm_NoNetwork, q_NoNetwork, N_NoNetwork, bs_NoNetwork, bm_NoNetwork, sn_NoNetwork, sub_NoNetwork, ab_NoNetwork, col_NoNetwork, dd_NoNetwork, m0_NoNetwork, m1_NoNetwork, m2_NoNetwork, m3_NoNetwork, m5_NoNetwork, x_NoNetwork, r_NoNetwork⟩, s_a_NoNetwork, e_NoNetwork, t_NoNetwork, kc_NoNetwork⟩, nf_NoNetwork⟩
  have g_NoNetwork := PySem.W.mg_of X G a_NoNetwork
  have E_NoStation : ExcAt K mg "NoStation" C_NoStation "station" "NoStation.__init__" s_NoStation_init := ⟨⟨_, _, fun_mk (st := s_NoStation_init) l_NoStation_init c_NoStation_init k_NoStation_init, PySem.W.mg_of X G a_NoStation, b_NoStation_init, ti_NoStation_init⟩, ⟨⟨nm_NoStation, q_NoStation, N_NoStation, bs_NoStation, bm_NoStation, sn_NoStation, sub_NoStation, ab_NoStation, col_NoStation, dd_NoStation, m0_NoStation, m1_NoStation, m2_NoStation, m3_NoStation, m5_NoStation, x_NoStation, r_NoStation⟩, s_a_NoStation, e_NoStation, t_NoStation, kc_NoStation⟩, nf_NoStation⟩
  have g_NoStation := PySem.W.mg_of X G a_NoStation
  have E_NoState : ExcAt K mg "NoState" C_NoState "index" "NoState.__init__" s_NoState_init := ⟨⟨_, _, fun_mk (st := s_NoState_init) l_NoState_init c_NoState_init k_NoState_init, PySem.W.mg_of X G a_NoState, b_NoState_init, ti_NoState_init⟩, ⟨⟨nm_NoState, q_NoState, N_NoState, bs_NoState, bm_NoState, sn_NoState, sub_NoState, ab_NoState, col_NoState, dd_NoState, m0_NoState, m1_NoState, m2_NoState, m3_NoState, m5_NoState, x_NoState, r_NoState⟩, s_a_NoState, e_NoState, t_NoState, kc_NoState⟩, nf_NoState⟩
  have g_NoState := PySem.W.mg_of X G a_NoState
  have E_NoSteps : ExcAt K mg "NoSteps" C_NoSteps "index" "NoSteps.__init__" s_NoSteps_init := ⟨⟨_, _, fun_mk (st := s_NoSteps_init) l_NoSteps_init c_NoSteps_init k_NoSteps_init, PySem.W.mg_of X G a_NoSteps, b_NoSteps_init, ti_NoSteps_init⟩, ⟨⟨nm_NoSteps, q_NoSteps, N_NoSteps, bs_NoSteps, bm_NoSteps, sn_NoSteps, sub_NoSteps, ab_NoSteps, col_NoSteps, dd_NoSteps, m0_NoSteps, m1_NoSteps, m2_NoSteps, m3_NoSteps, m5_NoSteps, x_NoSteps, r_NoSteps⟩, s_a_NoSteps, e_NoSteps, t_NoSteps, kc_NoSteps⟩, nf_NoSteps⟩
  have g_NoSteps := PySem.W.mg_of X G a_NoSteps
  have E_NoBound : ExcAt K mg "NoBound" C_NoBound "index" "NoBound.__init__" s_NoBound_init := ⟨⟨_, _, fun_mk (st := s_NoBound_init) l_NoBound_init c_NoBound_init k_NoBound_init, PySem.W.mg_of X G a_NoBound, b_NoBound_init, ti_NoBound_init⟩, ⟨⟨nm_NoBound, q_NoBound, N_NoBound, bs_NoBound, bm_NoBound, sn_NoBound, sub_NoBound, ab_NoBound, col_NoBound, dd_NoBound, m0_NoBound, m1_NoBound, m2_NoBound, m3_NoBound, m5_NoBound, x_NoBound, r_NoBound⟩, s_a_NoBound, e_NoBound, t_NoBound, kc_NoBound⟩, nf_NoBound⟩
  have g_NoBound := PySem.W.mg_of X G a_NoBound
  have E_NoChannel : ExcAt K mg "NoChannel" C_NoChannel "channel" "NoChannel.__init__" s_NoChannel_init := ⟨⟨_, _, fun_mk (st := s_NoChannel_init) l_NoChannel_init c_NoChannel_init k_NoChannel_init, PySem.W.mg_of X G a_NoChannel, b_NoChannel_init, ti_NoChannel_init⟩, ⟨⟨nm_NoChannel, q_NoChannel, N_NoChannel, bs_NoChannel, bm_NoChannel, sn_NoChannel, sub_NoChannel, ab_NoChannel, col_NoChannel, dd_NoChannel, m0_NoChannel, m1_NoChannel, m2_NoChannel, m3_NoChannel, m5_NoChannel, x_NoChannel, r_NoChannel⟩, s_a_NoChannel, e_NoChannel, t_NoChannel, kc_NoChannel⟩, nf_NoChannel⟩
  have g_NoChannel := PySem.W.mg_of X G a_NoChannel
  have E_HasRing : ExcAt K mg "HasRing" C_HasRing "ring" "HasRing.__init__" s_HasRing_init := ⟨⟨_, _, fun_mk (st := s_HasRing_init) l_HasRing_init c_HasRing_init k_HasRing_init, PySem.W.mg_of X G a_HasRing, b_HasRing_init, ti_HasRing_init⟩, ⟨⟨nm_HasRing, q_HasRing, N_HasRing, bs_HasRing, bm_HasRing, sn_HasRing, sub_HasRing, ab_HasRing, col_HasRing, dd_HasRing, m0_HasRing, m1_HasRing, m2_HasRing, m3_HasRing, m5_HasRing, x_HasRing, r_HasRing⟩, s_a_HasRing, e_HasRing, t_HasRing, kc_HasRing⟩, nf_HasRing⟩
  have g_HasRing := PySem.W.mg_of X G a_HasRing
  have E_NoSchedule : ExcAt K mg "NoSchedule" C_NoSchedule "index" "NoSchedule.__init__" s_NoSchedule_init := ⟨⟨_, _, fun_mk (st := s_NoSchedule_init) l_NoSchedule_init c_NoSchedule_init k_NoSchedule_init, PySem.W.mg_of X G a_NoSchedule, b_NoSchedule_init, ti_NoSchedule_init⟩, ⟨⟨nm_NoSchedule, q_NoSchedule, N_NoSchedule, bs_NoSchedule, bm_NoSchedule, sn_NoSchedule, sub_NoSchedule, ab_NoSchedule, col_NoSchedule, dd_NoSchedule, m0_NoSchedule, m1_NoSchedule, m2_NoSchedule, m3_NoSchedule, m5_NoSchedule, x_NoSchedule, r_NoSchedule⟩, s_a_NoSchedule, e_NoSchedule, t_NoSchedule, kc_NoSchedule⟩, nf_NoSchedule⟩
  have g_NoSchedule := PySem.W.mg_of X G a_NoSchedule
  have g_MAX_STATIONS : ∃ t, mg "MAX_STATIONS" = some (.int 60 t) := ⟨_, PySem.W.mg_of X G a_MAX_STATIONS⟩
  have D_is_int : DefAt K mg "is_int" s_is_int := ⟨_, _, fun_mk (st := s_is_int) l_is_int c_is_int k_is_int, PySem.W.mg_of X G a_is_int⟩
  have D_is_link : DefAt K mg "is_link" s_is_link := ⟨_, _, fun_mk (st := s_is_link) l_is_link c_is_link k_is_link, PySem.W.mg_of X G a_is_link⟩
  have D_is_forest : DefAt K mg "is_forest" s_is_forest := ⟨_, _, fun_mk (st := s_is_forest) l_is_forest c_is_forest k_is_forest, PySem.W.mg_of X G a_is_forest⟩
  have D_ring_of : DefAt K mg "ring_of" s_ring_of := ⟨_, _, fun_mk (st := s_ring_of) l_ring_of c_ring_of k_ring_of, PySem.W.mg_of X G a_ring_of⟩
  have D_check_forest : DefAt K mg "check_forest" s_check_forest := ⟨_, _, fun_mk (st := s_check_forest) l_check_forest c_check_forest k_check_forest, PySem.W.mg_of X G a_check_forest⟩
  have D_check_state : DefAt K mg "check_state" s_check_state := ⟨_, _, fun_mk (st := s_check_state) l_check_state c_check_state k_check_state, PySem.W.mg_of X G a_check_state⟩
  have D_all_off : DefAt K mg "all_off" s_all_off := ⟨_, _, fun_mk (st := s_all_off) l_all_off c_all_off k_all_off, PySem.W.mg_of X G a_all_off⟩
  have D_next_channel : DefAt K mg "next_channel" s_next_channel := ⟨_, _, fun_mk (st := s_next_channel) l_next_channel c_next_channel k_next_channel, PySem.W.mg_of X G a_next_channel⟩
  have D_switched : DefAt K mg "switched" s_switched := ⟨_, _, fun_mk (st := s_switched) l_switched c_switched k_switched, PySem.W.mg_of X G a_switched⟩
  have D_played : DefAt K mg "played" s_played := ⟨_, _, fun_mk (st := s_played) l_played c_played k_played, PySem.W.mg_of X G a_played⟩
  have D_chain : DefAt K mg "chain" s_chain := ⟨_, _, fun_mk (st := s_chain) l_chain c_chain k_chain, PySem.W.mg_of X G a_chain⟩
  have D_greatest_channels : DefAt K mg "greatest_channels" s_greatest_channels := ⟨_, _, fun_mk (st := s_greatest_channels) l_greatest_channels c_greatest_channels k_greatest_channels, PySem.W.mg_of X G a_greatest_channels⟩
  have D_check_bound : DefAt K mg "check_bound" s_check_bound := ⟨_, _, fun_mk (st := s_check_bound) l_check_bound c_check_bound k_check_bound, PySem.W.mg_of X G a_check_bound⟩
  have D_helpers : DefAtC K mg "helpers" s_helpers cc_helpers := ⟨_, _, funC_mk (st := s_helpers) l_helpers c_helpers k_helpers, PySem.W.mg_of X G a_helpers⟩
  have D_setting : DefAt K mg "setting" s_setting := ⟨_, _, fun_mk (st := s_setting) l_setting c_setting k_setting, PySem.W.mg_of X G a_setting⟩
  have D_schedule : DefAt K mg "schedule" s_schedule := ⟨_, _, fun_mk (st := s_schedule) l_schedule c_schedule k_schedule, PySem.W.mg_of X G a_schedule⟩
  have D_check_schedule : DefAt K mg "check_schedule" s_check_schedule := ⟨_, _, fun_mk (st := s_check_schedule) l_check_schedule c_check_schedule k_check_schedule, PySem.W.mg_of X G a_check_schedule⟩
  have D_law_draw : DefAt K mg "_law_draw" s_law_draw := ⟨_, _, fun_mk (st := s_law_draw) l_law_draw c_law_draw k_law_draw, PySem.W.mg_of X G a_law_draw⟩
  have D_law_links : DefAt K mg "_law_links" s_law_links := ⟨_, _, fun_mk (st := s_law_links) l_law_links c_law_links k_law_links, PySem.W.mg_of X G a_law_links⟩
  have D_law_right : DefAt K mg "_law_right" s_law_right := ⟨_, _, fun_mk (st := s_law_right) l_law_right c_law_right k_law_right, PySem.W.mg_of X G a_law_right⟩
  have D_law : DefAt K mg "law" s_law := ⟨_, _, fun_mk (st := s_law) l_law c_law k_law, PySem.W.mg_of X G a_law⟩
  have T : Bt mg := bt_of X G z1 z2 z3 z4 z5 z6 z7 z8 z9 z10 z11 z12 z13 z14 z15 z16 z17
  obtain ⟨Z, hZe⟩ : ∃ Z : List (Addr × Str), Z = [(P_helpers, (("helpers" : Str) ++ ".<locals>.") ++ "<lambda>")] := ⟨_, rfl⟩
  have one : ∀ p ∈ [(cc_helpers, P_helpers)], p = (cc_helpers, P_helpers) := fun p hp => List.mem_singleton.mp hp
  refine ⟨PySem.W.fnOf "law" "law" (defArgs s_law) (defBody s_law) (defScope s_law) .none kV_law dc_law pm_law an_law cd_law ct_law, [(cc_helpers, P_helpers)], spLawT Z K, fun p hp => by rw [one p hp]; exact e_helpers, fun p hp => by rw [one p hp]; exact n_helpers, fun p hp => by rw [one p hp]; exact PySem.W.codeHd_of_K X h_helpers, fun s u => .of_eq rfl,
    fun H a ns hl _ hH hs => ⟨a, ns, rfl, hs, by omega, fun p hp => by rw [hZe] at hp; rw [List.mem_singleton.mp hp]; exact LamX.TabS.nil (hH (cc_helpers, P_helpers) (List.mem_singleton_self _)), fun _ => rfl⟩, fun base _ _ TBs => ?_⟩
  have TB : LamX.TabB base mg cc_helpers P_helpers := TBs (cc_helpers, P_helpers) (List.mem_singleton_self _)
  have hZ : (P_helpers, (("helpers" : Str) ++ ".<locals>.") ++ "<lambda>") ∈ Z := by rw [hZe]; exact List.mem_singleton_self _
  have hZu : ∀ p ∈ Z, p.1 = P_helpers → p.2 = (("helpers" : Str) ++ ".<locals>.") ++ "<lambda>" := fun p hp _ => by rw [hZe] at hp; rw [List.mem_singleton.mp hp]
  have ci := c_isint (P := l.prog) (w := w) (base := base) T D_is_int
  have clk := c_islink (Z := Z) T ci D_is_link
  have x1 := x_of_NoNetwork (P := l.prog) (w := w) (base := base) ce E_NoNetwork
  have cN := c_net T N g_MAX_STATIONS ci clk x1 g_Network mk kc M_Network_init
  have cl := c_netlen (P := l.prog) (w := w) (base := base) T N M_Network_len
  have x2 := x_of_NoStation (P := l.prog) (w := w) (base := base) ce E_NoStation
  have x3 := x_of_NoState (P := l.prog) (w := w) (base := base) ce E_NoState
  have cst : CalM l.prog w K mg base (L2.CX l.prog w) 3 C "check_station" (spStation Z C C_NoStation) := M_Network_check_station.cal N.cl (fun _ _ _ _ _ _ us hl => match us, hl with | [_, _], _ => rfl) fun f fd F => ok_station T N ci x2 F
  have cnb : CalM l.prog w K mg base (L2.CX l.prog w) 4 C "neighbours" (spNeigh Z C C_NoStation) := M_Network_neighbours.cal N.cl (fun _ _ _ _ _ _ us hl => match us, hl with | [_, _], _ => rfl) fun f fd F => ok_neigh T N cst F
  have ccs : Cal l.prog w K mg base (L2.CX l.prog w) 5 "check_state" (spState Z C C_NoState) := D_check_state.cal (ps := ["network", "state"]) (fun _ _ _ _ _ _ us hl => match us, hl with | [_, _], _ => rfl) fun f fd F => ok_state T N ci cl cnb x3 F
  have cof : Cal l.prog w K mg base CX0 3 "all_off" (spOff Z C) := D_all_off.cal (ps := ["network"]) (fun _ _ _ _ _ _ us hl => match us, hl with | [_], _ => rfl) fun f fd F => ok_off T cl F
  have cnx : Cal l.prog w K mg base (L2.CX l.prog w) 6 "next_channel" (spNext Z C C_NoState C_NoStation) := D_next_channel.cal (ps := ["network", "state", "station"]) (fun _ _ _ _ _ _ us hl => match us, hl with | [_, _, _], _ => rfl) fun f fd F => ok_next T ccs cnb F
  have csw : Cal l.prog w K mg base (L2.CX l.prog w) 7 "switched" (spSwitched Z C C_NoState C_NoStation) := D_switched.cal (ps := ["network", "state", "station"]) (fun _ _ _ _ _ _ us hl => match us, hl with | [_, _, _], _ => rfl) fun f fd F => ok_switched T cnx F
  have x4 := x_of_NoSteps (P := l.prog) (w := w) (base := base) ce E_NoSteps
  have cpl : Cal l.prog w K mg base (L2.CX l.prog w) 8 "played" (spPlayed Z C C_NoState C_NoSteps) := D_played.cal (ps := ["network", "state", "steps"]) (fun _ _ _ _ _ _ us hl => match us, hl with | [_, _, _], _ => rfl) fun f fd F => ok_played T ci cl ccs csw x4 F
  have cch := c_chain_of (P := l.prog) (w := w) (base := base) (Z := Z) T D_chain
  have cgr : Cal l.prog w K mg base CX0 3 "greatest_channels" (spGreat Z C) := D_greatest_channels.cal (fun _ _ _ _ _ _ us hl => match us, hl with | [_], _ => rfl) fun f fd F => ok_great T N cch cl F
  have che : Cal l.prog w K mg base (L2.CX l.prog w) 4 "helpers" (spHelp Z C C_NoStation) := D_helpers.cal (fun _ _ _ _ _ _ us hl => match us, hl with | [_, _], _ => rfl) fun f fd F => ok_helpers T N cst cgr TB hZ hZu F
  have cd := c_draw (P := l.prog) (w := w) (base := base) D_law_draw
  have cli : Cal l.prog w K mg base CX0 2 "_law_links" (spLinks Z) := D_law_links.cal (ps := ["_law_well", "_law_many", "_law_extra"]) (fun _ _ _ _ _ _ us hl => match us, hl with | [_, _, _], _ => rfl) fun f fd F => ok_links T cd F
  have x5 := x_of_NoChannel (P := l.prog) (w := w) (base := base) ce E_NoChannel
  have x6 := x_of_NoSchedule (P := l.prog) (w := w) (base := base) ce E_NoSchedule
  have x7 := x_of_HasRing (P := l.prog) (w := w) (base := base) ce E_HasRing
  have cfo : Cal l.prog w K mg base CX0 3 "is_forest" (spForest Z C) := D_is_forest.cal (ps := ["network"]) (fun _ _ _ _ _ _ us hl => match us, hl with | [_], _ => rfl) fun f fd F => ok_forest T N cl F
  have crg : Cal l.prog w K mg base CX0 5 "ring_of" (spRing Z C) := D_ring_of.cal (ps := ["network"]) (fun _ _ _ _ _ _ us hl => match us, hl with | [_], _ => rfl) fun f fd F => ok_ring T N cl cfo cnb F
  have ccf : Cal l.prog w K mg base (L2.CX l.prog w) 6 "check_forest" (spChkF Z C C_HasRing) := D_check_forest.cal (ps := ["network"]) (fun _ _ _ _ _ _ us hl => match us, hl with | [_], _ => rfl) fun f fd F => ok_chkF T crg x7 F
  have cse := c_set_of (P := l.prog) (w := w) (base := base) (Z := Z) T D_setting
  have csd : Cal l.prog w K mg base (L2.CX l.prog w) 18 "schedule" (spSched Z C) := D_schedule.cal (ps := ["network", "station", "channel"]) (fun _ _ _ _ _ _ us hl => match us, hl with | [_, _, _], _ => rfl) fun f fd F => ok_schedule T ci cl cst ccf cgr che cse x5 F
  have cks : Cal l.prog w K mg base (L2.CX l.prog w) 8 "check_schedule" (spChkS Z C C_NoStation C_NoChannel C_NoSchedule) := D_check_schedule.cal (ps := ["network", "station", "channel", "steps"]) (fun _ _ _ _ _ _ us hl => match us, hl with | [_, _, _, _], _ => rfl) fun f fd F => ok_chkS T ci cl cst cof csw x5 x6 F
  have x8 := x_of_NoBound (P := l.prog) (w := w) (base := base) ce E_NoBound
  have ceq : CalE l.prog w K mg base 3 C (spEqN Z K C) := by
    obtain ⟨f, fd, F, h1, h2⟩ := M_Network_eq.ex
    exact ⟨⟨f, fd, ["self", "other"], ok_eqN T N IC g_Network cl F, F.binds (fun _ _ _ _ _ _ us hl => match us, hl with | [_, _], _ => rfl), h1, h2⟩, neC, soC, nfC⟩
  have wN : CalCW l.prog w K mg base (L2.CX l.prog w) 4 "Network" C ["links", "stations"] (spNetInit Z K C C_NoNetwork) := M_Network_init.clsW (ps := ["self", "stations", "links"]) g_Network mk kc (fun _ _ _ _ _ _ _ ws hl => match ws, hl with | [_, _], _ => rfl) fun f fd F => ok_net_init T N g_MAX_STATIONS ci clk x1 F
  have wnb : CalMW l.prog w K mg base (L2.CX l.prog w) 4 C "neighbours" ["station"] (spNeigh Z C C_NoStation) := M_Network_neighbours.calW (ps := ["self", "station"]) N.cl (fun _ _ _ _ _ _ _ ws hl => match ws, hl with | [_], _ => rfl) fun f fd F => ok_neigh T N cst F
  have wrg : CalW l.prog w K mg base CX0 5 "ring_of" ["network"] (spRing Z C) := D_ring_of.calW (ps := ["network"]) (fun _ _ _ _ _ _ ws hl => match ws, hl with | [_], _ => rfl) fun f fd F => ok_ring T N cl cfo cnb F
  have wcf : CalW l.prog w K mg base (L2.CX l.prog w) 6 "check_forest" ["network"] (spChkF Z C C_HasRing) := D_check_forest.calW (ps := ["network"]) (fun _ _ _ _ _ _ ws hl => match ws, hl with | [_], _ => rfl) fun f fd F => ok_chkF T crg x7 F
  have wof : CalW l.prog w K mg base CX0 3 "all_off" ["network"] (spOff Z C) := D_all_off.calW (ps := ["network"]) (fun _ _ _ _ _ _ ws hl => match ws, hl with | [_], _ => rfl) fun f fd F => ok_off T cl F
  have wpl : CalW l.prog w K mg base (L2.CX l.prog w) 8 "played" ["steps", "state", "network"] (spPlayed Z C C_NoState C_NoSteps) := D_played.calW (ps := ["network", "state", "steps"]) (fun _ _ _ _ _ _ ws hl => match ws, hl with | [_, _, _], _ => rfl) fun f fd F => ok_played T ci cl ccs csw x4 F
  have wcs : CalW l.prog w K mg base (L2.CX l.prog w) 5 "check_state" ["state", "network"] (spState Z C C_NoState) := D_check_state.calW (ps := ["network", "state"]) (fun _ _ _ _ _ _ ws hl => match ws, hl with | [_, _], _ => rfl) fun f fd F => ok_state T N ci cl cnb x3 F
  have wnx : CalW l.prog w K mg base (L2.CX l.prog w) 6 "next_channel" ["station", "state", "network"] (spNext Z C C_NoState C_NoStation) := D_next_channel.calW (ps := ["network", "state", "station"]) (fun _ _ _ _ _ _ ws hl => match ws, hl with | [_, _, _], _ => rfl) fun f fd F => ok_next T ccs cnb F
  have wsw : CalW l.prog w K mg base (L2.CX l.prog w) 7 "switched" ["station", "state", "network"] (spSwitched Z C C_NoState C_NoStation) := D_switched.calW (ps := ["network", "state", "station"]) (fun _ _ _ _ _ _ ws hl => match ws, hl with | [_, _, _], _ => rfl) fun f fd F => ok_switched T cnx F
  have wgr : CalW l.prog w K mg base CX0 3 "greatest_channels" ["network"] (spGreat Z C) := D_greatest_channels.calW (ps := ["network"]) (fun _ _ _ _ _ _ ws hl => match ws, hl with | [_], _ => rfl) fun f fd F => ok_great T N cch cl F
  have wcb : CalW l.prog w K mg base (L2.CX l.prog w) 3 "check_bound" ["table", "network"] (spBound Z C C_NoBound) := D_check_bound.calW (ps := ["network", "table"]) (fun _ _ _ _ _ _ ws hl => match ws, hl with | [_, _], _ => rfl) fun f fd F => ok_bound T N ci cch cl x8 F
  have whe : CalW l.prog w K mg base (L2.CX l.prog w) 4 "helpers" ["station", "network"] (spHelp Z C C_NoStation) := D_helpers.calW (ps := ["network", "station"]) (fun _ _ _ _ _ _ ws hl => match ws, hl with | [_, _], _ => rfl) fun f fd F => ok_helpers T N cst cgr TB hZ hZu F
  have wsd : CalW l.prog w K mg base (L2.CX l.prog w) 18 "schedule" ["channel", "station", "network"] (spSched Z C) := D_schedule.calW (ps := ["network", "station", "channel"]) (fun _ _ _ _ _ _ ws hl => match ws, hl with | [_, _, _], _ => rfl) fun f fd F => ok_schedule T ci cl cst ccf cgr che cse x5 F
  have wks : CalW l.prog w K mg base (L2.CX l.prog w) 8 "check_schedule" ["steps", "channel", "station", "network"] (spChkS Z C C_NoStation C_NoChannel C_NoSchedule) := D_check_schedule.calW (ps := ["network", "station", "channel", "steps"]) (fun _ _ _ _ _ _ ws hl => match ws, hl with | [_, _, _, _], _ => rfl) fun f fd F => ok_chkS T ci cl cst cof csw x5 x6 F
  have cri : CalG l.prog w K mg base CX0 20 "_law_right" (spWell0T Z) := D_law_right.calG (ps := ["_law_well"]) (fun _ _ _ _ _ _ us hl => match us, hl with | [_], _ => rfl) fun f fd F => well_outG (ok_right T cd cli cN wN ceq cnb wnb wrg wcf wof cof wpl cpl wcs wnx cnx wsw csw wgr cgr wcb whe che wsd csd wks F) spWellT_of
  exact ok_law T cri (fun_mk (st := s_law) l_law c_law k_law)
end NC
open PySem PySem.W PyProof.Rows
set_option maxRecDepth 100000 in
set_option maxHeartbeats 0 in
theorem PySem.Challenge.cw_nextchannel_k18_networks_by_names_holds : PySem.Challenge.rw_nextchannel_k18_networks_by_names.Holds := by
  w_on; o_law; k_head; (case hw => w_witness2)
  k_fill
  refine NC.walk_ofG (l := PySem.Challenge.rw_nextchannel_k18_networks_by_names) (n := 63) (k := 21) (x := "_law_script") (CX := fun _ => L2.CX0) rfl (by decide) rfl ⟨rfl, by decide, by decide⟩ (fun w h Y => PySem.W.km_in_of Y) ?F (fun _ _ _ _ _ z => z)
  case F =>
    intro w mg fa h Y KX G hmg
    refine' NC.all_mk KX G hmg ?a_B ?gaB ?rdB ?vIB ?a_C ?pg ?hd ?po ?sa ?mk ?kc ?nK ?nN ?b_Network_init ?i_Network_init ?l_Network_init ?c_Network_init ?k_Network_init ?b_Network_len ?i_Network_len ?l_Network_len ?c_Network_len ?k_Network_len ?b_Network_eq ?i_Network_eq ?l_Network_eq ?c_Network_eq ?k_Network_eq ?b_Network_neighbours ?i_Network_neighbours ?l_Network_neighbours ?c_Network_neighbours ?k_Network_neighbours ?b_Network_check_station ?i_Network_check_station ?l_Network_check_station ?c_Network_check_station ?k_Network_check_station ?haC ?hnG ?htG ?hmC ?ttC ?neC ?soC ?nfC ?a_NoNetwork ?x_NoNetwork ?r_NoNetwork ?s_a_NoNetwork ?e_NoNetwork ?t_NoNetwork ?kc_NoNetwork ?nf_NoNetwork ?b_NoNetwork_init ?ti_NoNetwork_init ?l_NoNetwork_init ?c_NoNetwork_init ?k_NoNetwork_init ?a_NoStation ?x_NoStation ?r_NoStation ?s_a_NoStation ?e_NoStation ?t_NoStation ?kc_NoStation ?nf_NoStation ?b_NoStation_init ?ti_NoStation_init ?l_NoStation_init ?c_NoStation_init ?k_NoStation_init ?a_NoState ?x_NoState ?r_NoState ?s_a_NoState ?e_NoState ?t_NoState ?kc_NoState ?nf_NoState ?b_NoState_init ?ti_NoState_init ?l_NoState_init ?c_NoState_init ?k_NoState_init ?a_NoSteps ?x_NoSteps ?r_NoSteps ?s_a_NoSteps ?e_NoSteps ?t_NoSteps ?kc_NoSteps ?nf_NoSteps ?b_NoSteps_init ?ti_NoSteps_init ?l_NoSteps_init ?c_NoSteps_init ?k_NoSteps_init ?a_NoBound ?x_NoBound ?r_NoBound ?s_a_NoBound ?e_NoBound ?t_NoBound ?kc_NoBound ?nf_NoBound ?b_NoBound_init ?ti_NoBound_init ?l_NoBound_init ?c_NoBound_init ?k_NoBound_init ?a_NoChannel ?x_NoChannel ?r_NoChannel ?s_a_NoChannel ?e_NoChannel ?t_NoChannel ?kc_NoChannel ?nf_NoChannel ?b_NoChannel_init ?ti_NoChannel_init ?l_NoChannel_init ?c_NoChannel_init ?k_NoChannel_init ?a_HasRing ?x_HasRing ?r_HasRing ?s_a_HasRing ?e_HasRing ?t_HasRing ?kc_HasRing ?nf_HasRing ?b_HasRing_init ?ti_HasRing_init ?l_HasRing_init ?c_HasRing_init ?k_HasRing_init ?a_NoSchedule ?x_NoSchedule ?r_NoSchedule ?s_a_NoSchedule ?e_NoSchedule ?t_NoSchedule ?kc_NoSchedule ?nf_NoSchedule ?b_NoSchedule_init ?ti_NoSchedule_init ?l_NoSchedule_init ?c_NoSchedule_init ?k_NoSchedule_init ?a_MAX_STATIONS ?a_is_int ?l_is_int ?c_is_int ?k_is_int ?a_is_link ?l_is_link ?c_is_link ?k_is_link ?a_is_forest ?l_is_forest ?c_is_forest ?k_is_forest ?a_ring_of ?l_ring_of ?c_ring_of ?k_ring_of ?a_check_forest ?l_check_forest ?c_check_forest ?k_check_forest ?a_check_state ?l_check_state ?c_check_state ?k_check_state ?a_all_off ?l_all_off ?c_all_off ?k_all_off ?a_next_channel ?l_next_channel ?c_next_channel ?k_next_channel ?a_switched ?l_switched ?c_switched ?k_switched ?a_played ?l_played ?c_played ?k_played ?a_chain ?l_chain ?c_chain ?k_chain ?a_greatest_channels ?l_greatest_channels ?c_greatest_channels ?k_greatest_channels ?a_check_bound ?l_check_bound ?c_check_bound ?k_check_bound ?a_helpers ?l_helpers ?c_helpers ?k_helpers ?t_helpers ?h_helpers ?n_helpers ?e_helpers ?a_setting ?l_setting ?c_setting ?k_setting ?a_schedule ?l_schedule ?c_schedule ?k_schedule ?a_check_schedule ?l_check_schedule ?c_check_schedule ?k_check_schedule ?a_law_draw ?l_law_draw ?c_law_draw ?k_law_draw ?a_law_links ?l_law_links ?c_law_links ?k_law_links ?a_law_right ?l_law_right ?c_law_right ?k_law_right ?a_law ?l_law ?c_law ?k_law ?z1 ?z2 ?z3 ?z4 ?z5 ?z6 ?z7 ?z8 ?z9 ?z10 ?z11 ?z12 ?z13 ?z14 ?z15 ?z16 ?z17
    (case a_B => first | k_is | rfl | decide +kernel)
    (case gaB => first | k_is | rfl | decide +kernel)
    (case rdB => first | k_is | rfl | decide +kernel)
    (case vIB => first | k_is | rfl | decide +kernel)
    (case a_C => first | k_is | rfl | decide +kernel)
    (case pg => first | k_is | rfl | decide +kernel)
    (case hd => first | k_is | rfl | decide +kernel)
    (case po => first | k_is | rfl | decide +kernel)
    (case sa => first | k_is | rfl | decide +kernel)
    (case mk => first | k_is | rfl | decide +kernel)
    (case kc => first | k_is | rfl | decide +kernel)
    (case nK => first | k_is | rfl | decide +kernel)
    (case nN => first | k_is | rfl | decide +kernel)
    (case b_Network_init => first | k_is | rfl | decide +kernel)
    (case i_Network_init => first | k_is | rfl | decide +kernel)
    (case l_Network_init => first | k_is | rfl | decide +kernel)
    (case c_Network_init => first | k_is | rfl | decide +kernel)
    (case k_Network_init => first | k_is | rfl | decide +kernel)
    (case b_Network_len => first | k_is | rfl | decide +kernel)
    (case i_Network_len => first | k_is | rfl | decide +kernel)
    (case l_Network_len => first | k_is | rfl | decide +kernel)
    (case c_Network_len => first | k_is | rfl | decide +kernel)
    (case k_Network_len => first | k_is | rfl | decide +kernel)
    (case b_Network_eq => first | k_is | rfl | decide +kernel)
    (case i_Network_eq => first | k_is | rfl | decide +kernel)
    (case l_Network_eq => first | k_is | rfl | decide +kernel)
    (case c_Network_eq => first | k_is | rfl | decide +kernel)
    (case k_Network_eq => first | k_is | rfl | decide +kernel)
    (case b_Network_neighbours => first | k_is | rfl | decide +kernel)
    (case i_Network_neighbours => first | k_is | rfl | decide +kernel)
    (case l_Network_neighbours => first | k_is | rfl | decide +kernel)
    (case c_Network_neighbours => first | k_is | rfl | decide +kernel)
    (case k_Network_neighbours => first | k_is | rfl | decide +kernel)
    (case b_Network_check_station => first | k_is | rfl | decide +kernel)
    (case i_Network_check_station => first | k_is | rfl | decide +kernel)
    (case l_Network_check_station => first | k_is | rfl | decide +kernel)
    (case c_Network_check_station => first | k_is | rfl | decide +kernel)
    (case k_Network_check_station => first | k_is | rfl | decide +kernel)
    (case haC => first | k_is | rfl | decide +kernel)
    (case hnG => first | k_is | rfl | decide +kernel)
    (case htG => first | k_is | rfl | decide +kernel)
    (case hmC => first | k_is | rfl | decide +kernel)
    (case ttC => first | k_is | rfl | decide +kernel)
    (case neC => first | k_is | rfl | decide +kernel)
    (case soC => first | k_is | rfl | decide +kernel)
    (case nfC => first | k_is | rfl | decide +kernel)
    (case a_NoNetwork => first | k_is | rfl | decide +kernel)
    (case x_NoNetwork => first | k_is | rfl | decide +kernel)
    (case r_NoNetwork => first | k_is | rfl | decide +kernel)
    (case s_a_NoNetwork => first | k_is | rfl | decide +kernel)
    (case e_NoNetwork => first | k_is | rfl | decide +kernel)
    (case t_NoNetwork => first | k_is | rfl | decide +kernel)
    (case kc_NoNetwork => first | k_is | rfl | decide +kernel)
    (case nf_NoNetwork => first | k_is | rfl | decide +kernel)
    (case b_NoNetwork_init => first | k_is | rfl | decide +kernel)
    (case ti_NoNetwork_init => first | k_is | rfl | decide +kernel)
    (case l_NoNetwork_init => first | k_is | rfl | decide +kernel)
    (case c_NoNetwork_init => first | k_is | rfl | decide +kernel)
    (case k_NoNetwork_init => first | k_is | rfl | decide +kernel)
    (case a_NoStation => first | k_is | rfl | decide +kernel)
    (case x_NoStation => first | k_is | rfl | decide +kernel)
    (case r_NoStation => first | k_is | rfl | decide +kernel)
    (case s_a_NoStation => first | k_is | rfl | decide +kernel)
    (case e_NoStation => first | k_is | rfl | decide +kernel)
    (case t_NoStation => first | k_is | rfl | decide +kernel)
    (case kc_NoStation => first | k_is | rfl | decide +kernel)
    (case nf_NoStation => first | k_is | rfl | decide +kernel)
    (case b_NoStation_init => first | k_is | rfl | decide +kernel)
    (case ti_NoStation_init => first | k_is | rfl | decide +kernel)
    (case l_NoStation_init => first | k_is | rfl | decide +kernel)
    (case c_NoStation_init => first | k_is | rfl | decide +kernel)
    (case k_NoStation_init => first | k_is | rfl | decide +kernel)
    (case a_NoState => first | k_is | rfl | decide +kernel)
    (case x_NoState => first | k_is | rfl | decide +kernel)
    (case r_NoState => first | k_is | rfl | decide +kernel)
    (case s_a_NoState => first | k_is | rfl | decide +kernel)
    (case e_NoState => first | k_is | rfl | decide +kernel)
    (case t_NoState => first | k_is | rfl | decide +kernel)
    (case kc_NoState => first | k_is | rfl | decide +kernel)
    (case nf_NoState => first | k_is | rfl | decide +kernel)
    (case b_NoState_init => first | k_is | rfl | decide +kernel)
    (case ti_NoState_init => first | k_is | rfl | decide +kernel)
    (case l_NoState_init => first | k_is | rfl | decide +kernel)
    (case c_NoState_init => first | k_is | rfl | decide +kernel)
    (case k_NoState_init => first | k_is | rfl | decide +kernel)
    (case a_NoSteps => first | k_is | rfl | decide +kernel)
    (case x_NoSteps => first | k_is | rfl | decide +kernel)
    (case r_NoSteps => first | k_is | rfl | decide +kernel)
    (case s_a_NoSteps => first | k_is | rfl | decide +kernel)
    (case e_NoSteps => first | k_is | rfl | decide +kernel)
    (case t_NoSteps => first | k_is | rfl | decide +kernel)
    (case kc_NoSteps => first | k_is | rfl | decide +kernel)
    (case nf_NoSteps => first | k_is | rfl | decide +kernel)
    (case b_NoSteps_init => first | k_is | rfl | decide +kernel)
    (case ti_NoSteps_init => first | k_is | rfl | decide +kernel)
    (case l_NoSteps_init => first | k_is | rfl | decide +kernel)
    (case c_NoSteps_init => first | k_is | rfl | decide +kernel)
    (case k_NoSteps_init => first | k_is | rfl | decide +kernel)
    (case a_NoBound => first | k_is | rfl | decide +kernel)
    (case x_NoBound => first | k_is | rfl | decide +kernel)
    (case r_NoBound => first | k_is | rfl | decide +kernel)
    (case s_a_NoBound => first | k_is | rfl | decide +kernel)
    (case e_NoBound => first | k_is | rfl | decide +kernel)
    (case t_NoBound => first | k_is | rfl | decide +kernel)
    (case kc_NoBound => first | k_is | rfl | decide +kernel)
    (case nf_NoBound => first | k_is | rfl | decide +kernel)
    (case b_NoBound_init => first | k_is | rfl | decide +kernel)
    (case ti_NoBound_init => first | k_is | rfl | decide +kernel)
    (case l_NoBound_init => first | k_is | rfl | decide +kernel)
    (case c_NoBound_init => first | k_is | rfl | decide +kernel)
    (case k_NoBound_init => first | k_is | rfl | decide +kernel)
    (case a_NoChannel => first | k_is | rfl | decide +kernel)
    (case x_NoChannel => first | k_is | rfl | decide +kernel)
    (case r_NoChannel => first | k_is | rfl | decide +kernel)
    (case s_a_NoChannel => first | k_is | rfl | decide +kernel)
    (case e_NoChannel => first | k_is | rfl | decide +kernel)
    (case t_NoChannel => first | k_is | rfl | decide +kernel)
    (case kc_NoChannel => first | k_is | rfl | decide +kernel)
    (case nf_NoChannel => first | k_is | rfl | decide +kernel)
    (case b_NoChannel_init => first | k_is | rfl | decide +kernel)
    (case ti_NoChannel_init => first | k_is | rfl | decide +kernel)
    (case l_NoChannel_init => first | k_is | rfl | decide +kernel)
    (case c_NoChannel_init => first | k_is | rfl | decide +kernel)
    (case k_NoChannel_init => first | k_is | rfl | decide +kernel)
    (case a_HasRing => first | k_is | rfl | decide +kernel)
    (case x_HasRing => first | k_is | rfl | decide +kernel)
    (case r_HasRing => first | k_is | rfl | decide +kernel)
    (case s_a_HasRing => first | k_is | rfl | decide +kernel)
    (case e_HasRing => first | k_is | rfl | decide +kernel)
    (case t_HasRing => first | k_is | rfl | decide +kernel)
    (case kc_HasRing => first | k_is | rfl | decide +kernel)
    (case nf_HasRing => first | k_is | rfl | decide +kernel)
    (case b_HasRing_init => first | k_is | rfl | decide +kernel)
    (case ti_HasRing_init => first | k_is | rfl | decide +kernel)
    (case l_HasRing_init => first | k_is | rfl | decide +kernel)
    (case c_HasRing_init => first | k_is | rfl | decide +kernel)
    (case k_HasRing_init => first | k_is | rfl | decide +kernel)
    (case a_NoSchedule => first | k_is | rfl | decide +kernel)
    (case x_NoSchedule => first | k_is | rfl | decide +kernel)
    (case r_NoSchedule => first | k_is | rfl | decide +kernel)
    (case s_a_NoSchedule => first | k_is | rfl | decide +kernel)
    (case e_NoSchedule => first | k_is | rfl | decide +kernel)
    (case t_NoSchedule => first | k_is | rfl | decide +kernel)
    (case kc_NoSchedule => first | k_is | rfl | decide +kernel)
    (case nf_NoSchedule => first | k_is | rfl | decide +kernel)
    (case b_NoSchedule_init => first | k_is | rfl | decide +kernel)
    (case ti_NoSchedule_init => first | k_is | rfl | decide +kernel)
    (case l_NoSchedule_init => first | k_is | rfl | decide +kernel)
    (case c_NoSchedule_init => first | k_is | rfl | decide +kernel)
    (case k_NoSchedule_init => first | k_is | rfl | decide +kernel)
    (case a_MAX_STATIONS => first | k_is | rfl | decide +kernel)
    (case a_is_int => first | k_is | rfl | decide +kernel)
    (case l_is_int => first | k_is | rfl | decide +kernel)
    (case c_is_int => first | k_is | rfl | decide +kernel)
    (case k_is_int => first | k_is | rfl | decide +kernel)
    (case a_is_link => first | k_is | rfl | decide +kernel)
    (case l_is_link => first | k_is | rfl | decide +kernel)
    (case c_is_link => first | k_is | rfl | decide +kernel)
    (case k_is_link => first | k_is | rfl | decide +kernel)
    (case a_is_forest => first | k_is | rfl | decide +kernel)
    (case l_is_forest => first | k_is | rfl | decide +kernel)
    (case c_is_forest => first | k_is | rfl | decide +kernel)
    (case k_is_forest => first | k_is | rfl | decide +kernel)
    (case a_ring_of => first | k_is | rfl | decide +kernel)
    (case l_ring_of => first | k_is | rfl | decide +kernel)
    (case c_ring_of => first | k_is | rfl | decide +kernel)
    (case k_ring_of => first | k_is | rfl | decide +kernel)
    (case a_check_forest => first | k_is | rfl | decide +kernel)
    (case l_check_forest => first | k_is | rfl | decide +kernel)
    (case c_check_forest => first | k_is | rfl | decide +kernel)
    (case k_check_forest => first | k_is | rfl | decide +kernel)
    (case a_check_state => first | k_is | rfl | decide +kernel)
    (case l_check_state => first | k_is | rfl | decide +kernel)
    (case c_check_state => first | k_is | rfl | decide +kernel)
    (case k_check_state => first | k_is | rfl | decide +kernel)
    (case a_all_off => first | k_is | rfl | decide +kernel)
    (case l_all_off => first | k_is | rfl | decide +kernel)
    (case c_all_off => first | k_is | rfl | decide +kernel)
    (case k_all_off => first | k_is | rfl | decide +kernel)
    (case a_next_channel => first | k_is | rfl | decide +kernel)
    (case l_next_channel => first | k_is | rfl | decide +kernel)
    (case c_next_channel => first | k_is | rfl | decide +kernel)
    (case k_next_channel => first | k_is | rfl | decide +kernel)
    (case a_switched => first | k_is | rfl | decide +kernel)
    (case l_switched => first | k_is | rfl | decide +kernel)
    (case c_switched => first | k_is | rfl | decide +kernel)
    (case k_switched => first | k_is | rfl | decide +kernel)
    (case a_played => first | k_is | rfl | decide +kernel)
    (case l_played => first | k_is | rfl | decide +kernel)
    (case c_played => first | k_is | rfl | decide +kernel)
    (case k_played => first | k_is | rfl | decide +kernel)
    (case a_chain => first | k_is | rfl | decide +kernel)
    (case l_chain => first | k_is | rfl | decide +kernel)
    (case c_chain => first | k_is | rfl | decide +kernel)
    (case k_chain => first | k_is | rfl | decide +kernel)
    (case a_greatest_channels => first | k_is | rfl | decide +kernel)
    (case l_greatest_channels => first | k_is | rfl | decide +kernel)
    (case c_greatest_channels => first | k_is | rfl | decide +kernel)
    (case k_greatest_channels => first | k_is | rfl | decide +kernel)
    (case a_check_bound => first | k_is | rfl | decide +kernel)
    (case l_check_bound => first | k_is | rfl | decide +kernel)
    (case c_check_bound => first | k_is | rfl | decide +kernel)
    (case k_check_bound => first | k_is | rfl | decide +kernel)
    (case a_helpers => first | k_is | rfl | decide +kernel)
    (case l_helpers => first | k_is | rfl | decide +kernel)
    (case c_helpers => first | k_is | rfl | decide +kernel)
    (case k_helpers => first | k_is | rfl | decide +kernel)
    (case t_helpers => first | k_is | rfl | decide +kernel)
    (case h_helpers => first | k_is | rfl | decide +kernel)
    (case n_helpers => first | k_is | rfl | decide +kernel)
    (case e_helpers => exact PySem.W.km_tabs_of Y _ (by first | k_mem | decide | simp))
    (case a_setting => first | k_is | rfl | decide +kernel)
    (case l_setting => first | k_is | rfl | decide +kernel)
    (case c_setting => first | k_is | rfl | decide +kernel)
    (case k_setting => first | k_is | rfl | decide +kernel)
    (case a_schedule => first | k_is | rfl | decide +kernel)
    (case l_schedule => first | k_is | rfl | decide +kernel)
    (case c_schedule => first | k_is | rfl | decide +kernel)
    (case k_schedule => first | k_is | rfl | decide +kernel)
    (case a_check_schedule => first | k_is | rfl | decide +kernel)
    (case l_check_schedule => first | k_is | rfl | decide +kernel)
    (case c_check_schedule => first | k_is | rfl | decide +kernel)
    (case k_check_schedule => first | k_is | rfl | decide +kernel)
    (case a_law_draw => first | k_is | rfl | decide +kernel)
    (case l_law_draw => first | k_is | rfl | decide +kernel)
    (case c_law_draw => first | k_is | rfl | decide +kernel)
    (case k_law_draw => first | k_is | rfl | decide +kernel)
    (case a_law_links => first | k_is | rfl | decide +kernel)
    (case l_law_links => first | k_is | rfl | decide +kernel)
    (case c_law_links => first | k_is | rfl | decide +kernel)
    (case k_law_links => first | k_is | rfl | decide +kernel)
    (case a_law_right => first | k_is | rfl | decide +kernel)
    (case l_law_right => first | k_is | rfl | decide +kernel)
    (case c_law_right => first | k_is | rfl | decide +kernel)
    (case k_law_right => first | k_is | rfl | decide +kernel)
    (case a_law => first | k_is | rfl | decide +kernel)
    (case l_law => first | k_is | rfl | decide +kernel)
    (case c_law => first | k_is | rfl | decide +kernel)
    (case k_law => first | k_is | rfl | decide +kernel)
    (case z1 => first | k_is | rfl | decide +kernel)
    (case z2 => first | k_is | rfl | decide +kernel)
    (case z3 => first | k_is | rfl | decide +kernel)
    (case z4 => first | k_is | rfl | decide +kernel)
    (case z5 => first | k_is | rfl | decide +kernel)
    (case z6 => first | k_is | rfl | decide +kernel)
    (case z7 => first | k_is | rfl | decide +kernel)
    (case z8 => first | k_is | rfl | decide +kernel)
    (case z9 => first | k_is | rfl | decide +kernel)
    (case z10 => first | k_is | rfl | decide +kernel)
    (case z11 => first | k_is | rfl | decide +kernel)
    (case z12 => first | k_is | rfl | decide +kernel)
    (case z13 => first | k_is | rfl | decide +kernel)
    (case z14 => first | k_is | rfl | decide +kernel)
    (case z15 => first | k_is | rfl | decide +kernel)
    (case z16 => first | k_is | rfl | decide +kernel)
    (case z17 => first | k_is | rfl | decide +kernel)
