import PyProof.Rows.All
import Wide.All
import OpenK.AllK
import Wide.FinOn
import HandS.ForMost
import HandS.WordsExc
import HandS.Wide
import HandS.Defaults
import HandS.SortInts
import HandS.IsInst
import HandS.EndBits
import PyProof.ReprRoads
import HandS.Conv
import HandS.Style
import HandS.NoneIn
import HandS.TupAny
import HandS.SetFor
import HandS.Text
import PyProof.Rows.ChunkEnd
import HandS.Zip
import HandS.Property
import HandS.DictComp
import HandS.More
import KE.GoesMore
import KE.KDictZip
import KE.KRevIter
import HandS.ListItems
import KE.GoesEnum
import PyProof.StrOps2
import HandS.Comp
import HandS.ExcInit
import HandS.ExcField
import HandS.ExcOwn
import HandS.Strs
import PyProof.SumWalkG
import PyProof.ListOps
import PyProof.WalkInts
import HandS.ExcValue
import PySem.Challenge.RW_leftreturn_k49_whole_live_shelves_and_sc
import HandS.Codes
import HandS.ClsMeth
import HandS.SlotsOwn
set_option Elab.async false
set_option linter.all false
set_option maxRecDepth 100000
set_option maxHeartbeats 4000000
namespace Lx
open PySem PySem.Spec PyProof.Rows L2

/-! ### a def's promise where no repr runs around it -/
structure FnG (P : Program) (w : World) (K : PySem.W.Frag) (mg : Str → Option Value) (base : Heap) (k : Nat) (f : Addr) (fd : FuncData) (ps : List Str) (sp : Sp) : Prop where
  ln : ∀ us H Q E, sp us H Q E → us.length = ps.length
  go : ∀ (A : Around) (fs : List Env) (s : Shared) (H : Hp) (ar : Args) (us : List Value) (vs : List V) (Q : VK) (E : XK), A.guards = some [] → Room k A → Env0 P w K mg base A fs s H →
    BindsTo s fd ar (ps.zip us) → Vals vs us → sp vs H Q E → codeAny (model P w) A (.call (.ref f) ar) (CR (L2.CX P w) fs P w H s Q E) s
section
variable {P : Program} {w : World} {K : PySem.W.Frag} {mg : Str → Option Value} {base : Heap}
theorem FnG.up {j k : Nat} {f : Addr} {fd : FuncData} {ps : List Str} {sp : Sp} (F : FnG P w K mg base j f fd ps sp) (h : j ≤ k) : FnG P w K mg base k f fd ps sp :=
  ⟨F.ln, fun A fs s H ar us vs Q E hg hr => F.go A fs s H ar us vs Q E hg (hr.mono h)⟩
theorem FnG.imp {k : Nat} {f : Addr} {fd : FuncData} {ps : List Str} {sp sp' : Sp} (F : FnG P w K mg base k f fd ps sp) (h : ∀ vs H Q E, sp' vs H Q E → sp vs H Q E) : FnG P w K mg base k f fd ps sp' :=
  ⟨fun vs H Q E z => F.ln vs H Q E (h _ _ _ _ z), fun A fs s H ar us vs Q E hg hr e b v z => F.go A fs s H ar us vs Q E hg hr e b v (h _ _ _ _ z)⟩
theorem FnG.of {k : Nat} {f : Addr} {fd : FuncData} {ps : List Str} {sp : Sp} (F : FnOk P w K mg base (L2.CX P w) k f fd ps sp) : FnG P w K mg base k f fd ps sp :=
  ⟨F.len, fun A fs s H ar us vs Q E _ hr => F.run A fs s H ar us vs Q E hr⟩

/-- the rule for a def: its body's term, read where no repr runs -/
theorem graw {x qual : Str} {st : Stmt} {f : Addr} {dV kV doc pm cdv ct oc : Value} {an od : Option Addr} {osl : Array (Option Value)} {N ps : List Str} {k : Nat} {sp : Sp}
    (lk : K.lookup f = some ⟨oc, od, .func (PySem.W.fnOf x qual (defArgs st) (defBody st) (defScope st) dV kV doc pm an cdv ct), osl⟩) (hcd : PySem.W.codeIn K cdv qual = true) (S : FnScope N ps (defScope st)) (ln : ∀ vs H Q E, sp vs H Q E → vs.length = ps.length)
    (hb : ∀ (A : Around) (fs : List Env) (s : Shared) (H : Hp) (vs : List V) (Q : VK) (E : XK), (A.deeper (envOfC qual (defScope st) s.heap.objs.size f cdv)).guards = some [] → Room k (A.deeper (envOfC qual (defScope st) s.heap.objs.size f cdv)) → sp vs H Q E →
      ∃ t, PSs (cxOf (L2.CX P w) P w K mg base N qual (defScope st) f cdv A fs s H E) (defBody st) t ∧ t { nx := fun _ H' => Q .non H', rt := Q } (start N vs) H) : FnG P w K mg base (k + 1) f (PySem.W.fnOf x qual (defArgs st) (defBody st) (defScope st) dV kV doc pm an cdv ct) ps sp := by
  refine ⟨ln, fun A fs s H ar us vs Q E hg hr e0 hbd rv hs => ?_⟩
  have hl := ln _ _ _ _ hs
  have inK : K.In s.heap := e0.mod.kin.keeps (fun b o z => (e0.bs b o z).1)
  have nl : s.heap.NoLimit := e0.mod.nolimit.keeps (fun b o z => (e0.bs b o z).1)
  have kinds : ∀ y ∈ ps.zip us, (defScope st).names.lookup y.1 = some .local ∨ ((defScope st).names.lookup y.1 = some .cell ∧ ((cellsFrom (s.heap.objs.size + 1) (defScope st).names []).lookup y.1).isSome = true) := by
    rintro ⟨n, v⟩ hy
    have hm := S.par n (List.of_mem_zip hy).1
    cases hm with
    | inl q => exact Or.inl q
    | inr q => exact Or.inr ⟨q, PySem.W.cellsFrom_some _ _ _ (Or.inl q)⟩
  apply codeAny_call_function hr.depth (inK _ _ lk) rfl S.co S.gen rfl (PySem.W.codeRec_of inK hcd)
  apply hbd
  apply wpAny_newFunctionEnv_cells S.kind kinds
  intro env he s1 x
  subst he
  refine ⟨nl.keeps x.toInCall.keep, codeAny_func ?_⟩
  obtain ⟨t, ht, hq⟩ := hb A fs s H vs Q E hg (hr.deeper _) hs
  have I := inv_start (CX := L2.CX P w) (P := P) (w := w) (K := K) (mg := mg) (base := base) (f := f) (cd := cdv) (qual := qual) (E := E) S hr.hd e0 hl rv x
  apply wpAny_mono (ht.run [] s1 (start N vs) H _ I hq)
  · intro fl s' z
    have done : ∀ {σ' : L2.St} {H' : Hp} {v : V} {u : Value}, Inv (cxOf (L2.CX P w) P w K mg base N qual (defScope st) f cdv A fs s H E) [] σ' H' s' → RelV v u → Q v H' → CE fs P w H s Q u s' := by
      intro σ' H' v u J r q
      exact ⟨v, H', J.os, J.bare, J.base, J.hok, r, q⟩
    cases fl with
    | next => exact let ⟨_, _, J, q⟩ := z; done (v := V.non) (u := Value.none) J rfl q
    | brk => exact let ⟨_, _, _, q⟩ := z; q.elim
    | cont => exact let ⟨_, _, _, q⟩ := z; q.elim
    | ret u => exact let ⟨_, _, _, J, r, q⟩ := z; done J r q
  · exact fun _ _ z => z
theorem gok {x qual : Str} {st : Stmt} {f : Addr} {fd : FuncData} {N ps : List Str} {k : Nat} {sp : Sp} (F : Fun K x qual st f fd) (S : FnScope N ps (defScope st)) (ln : ∀ vs H Q E, sp vs H Q E → vs.length = ps.length)
    (hb : ∀ (cdv : Value) (A : Around) (fs : List Env) (s : Shared) (H : Hp) (vs : List V) (Q : VK) (E : XK), (A.deeper (envOfC qual (defScope st) s.heap.objs.size f cdv)).guards = some [] → Room k (A.deeper (envOfC qual (defScope st) s.heap.objs.size f cdv)) → sp vs H Q E →
      ∃ t, PSs (cxOf (L2.CX P w) P w K mg base N qual (defScope st) f cdv A fs s H E) (defBody st) t ∧ t { nx := fun _ H' => Q .non H', rt := Q } (start N vs) H) : FnG P w K mg base (k + 1) f fd ps sp := by
  obtain ⟨oc, od, kV, doc, pm, an, cdv, ct, osl, rfl, lk, hcd⟩ := F.ex
  exact graw lk hcd S ln (hb cdv)
theorem gokD {x qual : Str} {st : Stmt} {f : Addr} {fd : FuncData} {N ps : List Str} {k : Nat} {sp : Sp} {dvs : List V} {kws : List (Str × V)} (F : FunD K x qual (defArgs st) (defBody st) (defScope st) dvs kws f fd) (S : FnScope N ps (defScope st)) (ln : ∀ vs H Q E, sp vs H Q E → vs.length = ps.length)
    (hb : ∀ (cdv : Value) (A : Around) (fs : List Env) (s : Shared) (H : Hp) (vs : List V) (Q : VK) (E : XK), (A.deeper (envOfC qual (defScope st) s.heap.objs.size f cdv)).guards = some [] → Room k (A.deeper (envOfC qual (defScope st) s.heap.objs.size f cdv)) → sp vs H Q E →
      ∃ t, PSs (cxOf (L2.CX P w) P w K mg base N qual (defScope st) f cdv A fs s H E) (defBody st) t ∧ t { nx := fun _ H' => Q .non H', rt := Q } (start N vs) H) : FnG P w K mg base (k + 1) f fd ps sp := by
  obtain ⟨oc, od, dV, kV, doc, pm, an, cdv, ct, osl, rfl, lk, hcd, _, _⟩ := F.ex
  exact graw lk hcd S ln (hb cdv)

/-- a def as callers see it: n values written, the defaults dvs fill up -/
structure Df (P : Program) (w : World) (K : PySem.W.Frag) (mg : Str → Option Value) (base : Heap) (k : Nat) (x : Str) (dvs : List V) (sp : Sp) : Prop where
  ex : ∃ (f : Addr) (fd : FuncData) (ps : List Str) (ds : List Value), FnG P w K mg base k f fd ps sp ∧ mg x = some (.ref f) ∧ PySem.W.keepIn K (.ref f) = true ∧ Binds K fd ps ds ∧ Vals dvs ds
theorem Df.up {j k : Nat} {x : Str} {dvs : List V} {sp : Sp} (D : Df P w K mg base j x dvs sp) (h : j ≤ k) : Df P w K mg base k x dvs sp :=
  let ⟨f, fd, ps, ds, F, r⟩ := D.ex; ⟨f, fd, ps, ds, F.up h, r⟩
theorem Df.imp {k : Nat} {x : Str} {dvs : List V} {sp sp' : Sp} (D : Df P w K mg base k x dvs sp) (h : ∀ vs H Q E, sp' vs H Q E → sp vs H Q E) : Df P w K mg base k x dvs sp' :=
  let ⟨f, fd, ps, ds, F, r⟩ := D.ex; ⟨f, fd, ps, ds, F.imp h, r⟩
end

/-! ### calls -/
section
variable {X : Cx} {k : Nat} {f C : Addr} {fd : FuncData} {ps : List Str} {sp : Sp} {dvs : List V} {ds : List Value} {E : XK} {x m : Str} {p pos apos : Pos} {e o : Expr} {es : List Expr} {ta : TE} {t : TA}
theorem grun {pins : List (Addr × Obj)} {σ : L2.St} {H : Hp} {s : Shared} {Q : VK} {us : List Value} {vs : List V} (F : FnG X.prog X.w X.K X.mg X.base k f fd ps sp) (hG : X.A.guards = some []) (hr : Room k X.A) (hb : Binds X.K fd ps ds) (hd : Vals dvs ds)
    (hx : Passes (L2.CX X.prog X.w) X E) (I : Inv X pins σ H s) (r : Vals vs us) (h : sp (vs ++ dvs) H Q E) : wpAny (model X.prog X.w) X.A (call (.ref f) us) (EP X pins σ Q) X.xe s := by
  have rv := r.append hd
  have z := F.go X.A X.stack s H ⟨us, []⟩ (us ++ ds) (vs ++ dvs) Q E hG hr I.env0 (hb s us I.kIn (rv.length.symm.trans (F.ln _ _ _ _ h))) rv h
  refine wpAny_call (codeAny_mono z ?_)
  intro r s' hq
  cases r with
  | error e => exact hx pins σ H s e s' I hq
  | ok fl => cases fl with
    | ret u => exact I.after hq
    | next => exact hq.elim
    | brk => exact hq.elim
    | cont => exact hq.elim
theorem gcall (F : FnG X.prog X.w X.K X.mg X.base k f fd ps sp) (hG : X.A.guards = some []) (hr : Room k X.A) (hg : Gl X x) (hm : X.mg x = some (.ref f)) (hk : PySem.W.keepIn X.K (.ref f) = true) (hb : Binds X.K fd ps ds) (hd : Vals dvs ds) (hx : Passes (L2.CX X.prog X.w) X E)
    (ha : PA X (e :: es) t) (hdb : (x == ("__debug__" : Str)) = false := by decide) (he : starEach (e :: es) X.env = (false, eval e X.env) :: starEach es X.env := by rfl) (hpl : (backTo pos (starEach es X.env)).any (·.1) = false := by rfl) :
    PE X (.Call (.Name x p) (e :: es) [] pos) (tCall sp dvs E t) := by
  constructor
  intro pins s σ H Q I h
  apply wpAny_Call_Name_kw
  refine ld_glob I hg hm ?_ hdb
  have z := ha.run pos pins s σ H _ I h
  exact PySem.W.callWith_K (h₀ := X.base) I.ok.mod.kin hk (thn z (fun us s1 y => let ⟨_, _, I1, r, q⟩ := y; ⟨I1.kIn, grun F hG hr hb hd hx I1 r q⟩)) he hpl
theorem gcall0 (F : FnG X.prog X.w X.K X.mg X.base k f fd ps sp) (hG : X.A.guards = some []) (hr : Room k X.A) (hg : Gl X x) (hm : X.mg x = some (.ref f)) (hk : PySem.W.keepIn X.K (.ref f) = true) (hb : Binds X.K fd ps ds) (hd : Vals dvs ds) (hx : Passes (L2.CX X.prog X.w) X E)
    (hdb : (x == ("__debug__" : Str)) = false := by decide) : PE X (.Call (.Name x p) [] [] pos) (tCall sp dvs E tNil) := by
  constructor
  intro pins s σ H Q I h
  apply wpAny_Call_Name_kw
  refine ld_glob I hg hm ?_ hdb
  exact PySem.W.callWith_K0 I.kIn hk (grun (us := []) F hG hr hb hd hx I .nil h)
/-- f(..), f a def of the text -/
theorem pe_df (D : Df X.prog X.w X.K X.mg X.base k x dvs sp) (hG : X.A.guards = some []) (hr : Room k X.A) (hx : Passes (L2.CX X.prog X.w) X E) (hg : Gl X x) (ha : PA X (e :: es) t)
    (hdb : (x == ("__debug__" : Str)) = false := by decide) (he : starEach (e :: es) X.env = (false, eval e X.env) :: starEach es X.env := by rfl) (hpl : (backTo pos (starEach es X.env)).any (·.1) = false := by rfl) :
    PE X (.Call (.Name x p) (e :: es) [] pos) (tCall sp dvs E t) :=
  let ⟨_, _, _, _, F, hm, hk, hb, hd⟩ := D.ex; gcall F hG hr hg hm hk hb hd hx ha hdb he hpl
theorem pe_df0 (D : Df X.prog X.w X.K X.mg X.base k x dvs sp) (hG : X.A.guards = some []) (hr : Room k X.A) (hx : Passes (L2.CX X.prog X.w) X E) (hg : Gl X x) (hdb : (x == ("__debug__" : Str)) = false := by decide) : PE X (.Call (.Name x p) [] [] pos) (tCall sp dvs E tNil) :=
  let ⟨_, _, _, _, F, hm, hk, hb, hd⟩ := D.ex; gcall0 F hG hr hg hm hk hb hd hx hdb
/-- a constant of the module -/
def Gc (mg : Str → Option Value) (x : Str) (v : V) : Prop := ∃ u, mg x = some u ∧ RelV v u
theorem pe_gc {v : V} (h : Gc X.mg x v) (hg : Gl X x) (hd : (x == ("__debug__" : Str)) = false := by decide) : PE X (.Name x pos) (tC v) :=
  ⟨fun pins s σ H Q I q => let ⟨_, hm, r⟩ := h; (pe_glob hg hm r hd).run pins s σ H Q I q⟩
end
end Lx

namespace Lx
open PySem PySem.Spec PyProof.Rows L2

/-- what the end wants of the heap told: at most the script -/
structure Told (K : PySem.W.Frag) (a : Addr) (H : Hp) : Prop where
  only : Only H
  one : ∀ b u, H b = some u → b = a ∧ K.lookup a = none
section
variable {P : Program} {w : World} {K : PySem.W.Frag} {mg mb : Str → Option Value} {k : Nat} {fa a : Addr} {fd : FuncData} {x : Str} {sp : Sp} {s : Shared} {vs : List Value} {ns : List Int}
theorem Told.low (T : Told K a H) {b : Addr} {o : Obj} (hb : s.heap.get? b = some o) (n : b ≠ a) : (hidT s.heap H).get? b = some o := by
  apply hidT_get hb
  cases q : H b with
  | none => rfl
  | some u => exact (n (T.one b u q).1).elim
theorem Told.lowK (T : Told K a H) (KX : K.In s.heap) : K.In (hidT s.heap H) := by
  intro b o e
  apply hidT_get (KX b o e)
  cases q : H b with
  | none => rfl
  | some u =>
    have z := T.one b u q
    rw [z.1, z.2] at e
    cases e
theorem Told.nsp (T : Told K a H) (hl : s.heap.get? a = some { cls := .type "list", data := .seq vs.toArray }) {b : Addr} {m : Str → Option Value} (h : s.heap.Ns b m) : (hidT s.heap H).Ns b m := by
  obtain ⟨o, es, ep, h1, h2, h3⟩ := h
  refine ⟨o, es, ep, T.low h1 ?_, h2, h3⟩
  rintro rfl
  rw [hl] at h1
  cases h1
  cases h2
theorem glaw1 {H : Hp} (T : Told K a H) (KX : K.In s.heap) (hm : s.heap.Ns mainGlobals mg) (hb : s.heap.Ns builtinsNs mb) (hbb : ∀ x : Str, x ≠ "__name__" → mb x = bootBuiltins x) (lim : s.heap.NoLimit) (hg : s.gens = #[])
    (hl : s.heap.get? a = some { cls := .type "list", data := .seq vs.toArray }) (hr : Room k callerA)
    (F : ∀ base : Heap, K.In base → base.Ns mainGlobals mg → FnG P w K mg base k fa fd [x] sp) (bind : ∀ (s : Shared) (u : Value), BindsTo s fd ⟨[u], []⟩ [(x, u)])
    (ok : HOk P w H s.heap) (hsp : sp [.ref a] H (fun v _ => v = .bl true) fun _ _ _ => False) :
    codeAny (model P w) callerA (.call (.ref fa) ⟨[.ref a], []⟩) (fun r s' => r = .ok (.ret (.bool true)) ∧ OldK s.heap s'.heap ∧ s'.os = s.os ∧ AllBare s'.gens) s := by
  have KB := T.lowK KX
  have md : Mod K mg (hidT s.heap H) := ⟨KB, T.nsp hl hm, ⟨mb, T.nsp hl hb, hbb⟩, by
    obtain ⟨m, h1, h2⟩ := lim
    exact ⟨m, T.nsp hl h1, h2⟩⟩
  have noFr : ∀ b ∈ frs ([] : List Env), H b = none := by
    intro b z
    cases z
  have e0 : Env0 P w K mg (hidT s.heap H) callerA [] s H := { frames := rfl, mod := md, bs := fun b o e => of_hidT e, bsz := Nat.le_of_eq (hidT_size _ _), funs := trivial, frf := noFr, hok := ok, bare := .of_eq hg }
  have run := (F _ KB md.glob).go callerA [] s H ⟨[.ref a], []⟩ [.ref a] [.ref a] (fun v _ => v = .bl true) (fun _ _ _ => False) rfl hr e0 (bind s (.ref a)) (.cons rfl .nil) hsp
  refine codeAny_mono run ?_
  intro r s' q
  match r, q with
  | .error e, q => exact (by obtain ⟨_, _, _, _, _, _, _, _, _, _, _, _, z⟩ := q; exact z.elim)
  | .ok .next, q => exact q.elim
  | .ok .brk, q => exact q.elim
  | .ok .cont, q => exact q.elim
  | .ok (.ret u), q =>
    obtain ⟨v, H', os, bare, un, ok', rv, e⟩ := q
    have e' : v = V.bl true := e
    subst e'
    have eu : u = Value.bool true := rv
    refine ⟨by rw [eu], OldK.of_keep ?_, os, bare⟩
    intro b o hb
    cases z : H b with
    | none => exact un.keep b o hb z (fun y => by cases y) (fun y => by cases y)
    | some u =>
      cases T.only b with
      | inl y => rw [z] at y; cases y
      | inr y =>
        obtain ⟨ob, xs, y⟩ := y
        have w1 := (ok b _ y).1
        have w2 := (ok' b _ (un.frzs b ob _ y)).1
        rw [hb] at w1
        rw [Option.some.inj w1]
        exact w2
theorem glaw (KX : K.In s.heap) (hm : s.heap.Ns mainGlobals mg) (hb : s.heap.Ns builtinsNs mb) (hbb : ∀ x : Str, x ≠ "__name__" → mb x = bootBuiltins x) (lim : s.heap.NoLimit) (hg : s.gens = #[])
    (hl : s.heap.get? a = some { cls := .type "list", data := .seq vs.toArray }) (hi : IntsAre vs ns) (hz : ns.length ≤ sizeLine) (hr : Room k callerA)
    (F : ∀ base : Heap, K.In base → base.Ns mainGlobals mg → FnG P w K mg base k fa fd [x] sp) (bind : ∀ (s : Shared) (u : Value), BindsTo s fd ⟨[u], []⟩ [(x, u)])
    (hsp : ∀ H : Hp, SqL K H a (ns.map V.int) → sp [.ref a] H (fun v _ => v = .bl true) fun _ _ _ => False) :
    codeAny (model P w) callerA (.call (.ref fa) ⟨[.ref a], []⟩) (fun r s' => r = .ok (.ret (.bool true)) ∧ OldK s.heap s'.heap ∧ s'.os = s.os ∧ AllBare s'.gens) s := by
  have rv := vals_ints hi
  have lv : vs.length = ns.length := hi.length
  by_cases hk : K.lookup a = none
  · have tell : ∀ b, (fun b => if b = a then some (HO.frz { cls := .type "list", data := .seq vs.toArray } (.lst (ns.map V.int))) else none : Hp) b = none ∨ b = a := by
      intro b
      by_cases e : b = a
      · exact .inr e
      · exact .inl (if_neg e)
    refine glaw1 (H := fun b => if b = a then some (.frz { cls := .type "list", data := .seq vs.toArray } (.lst (ns.map V.int))) else none) ⟨?_, ?_⟩ KX hm hb hbb lim hg hl hr F bind ?_ (hsp _ (.inl (.inr ⟨_, if_pos rfl⟩)))
    · intro b
      cases tell b with
      | inl e => exact .inl e
      | inr e => exact .inr ⟨_, _, if_pos e⟩
    · intro b u e
      cases tell b with
      | inl z => exact absurd (z.symm.trans e) (by simp)
      | inr z => exact ⟨z, hk⟩
    · intro b u e
      cases tell b with
      | inl z => exact absurd (z.symm.trans e) (by simp)
      | inr z =>
        subst z
        have eu := Option.some.inj ((if_pos rfl).symm.trans e)
        subst eu
        exact ⟨hl, (by rw [List.length_map]; exact hz), vs, 0, rv, hl⟩
  · obtain ⟨o, ho⟩ := Option.ne_none_iff_exists'.mp hk
    have e := KX a o ho
    rw [hl] at e
    have eo := Option.some.inj e
    subst eo
    have noH : ∀ (b : Addr) (u : HO), ((fun _ => none : Hp) b = some u) → False := by
      intro b u z
      cases z
    refine glaw1 (H := fun _ => none) ⟨fun b => .inl rfl, fun b u z => (noH b u z).elim⟩ KX hm hb hbb lim hg hl hr F bind (fun b u z => (noH b u z).elim) (hsp _ (.inr ?_))
    exact ⟨_, vs.toArray, _, ho, rfl, rfl, rfl, by rw [List.size_toArray, lv]; exact hz, by simpa using rv⟩
end
theorem gwalk {l : PySem.W.OpenLaw} {n k : Nat} {q : Program} {loose : List Str} {XP : (Str → Option Value) → Heap → Prop} {YP : World → Heap → Prop} {d : DefRec} {K : Params → PySem.W.Frag} {sp : World → Sp} {x : Str}
    (hn : l.most = some n) (hn2 : n ≤ sizeLine) (hdf : d.params.defaults = []) (hr : Room k callerA) (hY : ∀ (w : World) (h : Heap), YP w h → (K w.params).In h)
    (F : ∀ (w : World) (mg : Str → Option Value) (fa : Addr) (h : Heap), (K w.params).In h → h.Ns mainGlobals mg → mg d.name = some (.ref fa) →
      ∃ fd : FuncData, (∀ (s : Shared) (u : Value), BindsTo s fd ⟨[u], []⟩ [(x, u)]) ∧ ∀ base : Heap, (K w.params).In base → base.Ns mainGlobals mg → FnG l.prog w (K w.params) mg base k fa fd [x] (sp w))
    (hsp : ∀ (w : World) (H : Hp) (a : Addr) (ns : List Int), ns.length ≤ n → (∀ z ∈ ns, Builtin.Int.intBits z ≤ 1048576) → SqL (K w.params) H a (ns.map V.int) → sp w [.ref a] H (fun v _ => v = .bl true) fun _ _ _ => False) :
    PySem.W.WalkO q loose XP YP l.row.toRowW d [] (fun f vs => PySem.call f vs) := by
  apply Att.attach_callB hn hdf
  intro w s₀ s₁ mg mb fa o pm cd doc a vs ns G Y ho hd hcd hmg hobj hints hlen hbits hg
  obtain ⟨fd, b, hF⟩ := F w mg fa _ (hY w _ Y) G.T.g hmg
  exact glaw (hY w _ Y) G.T.g G.T.b G.T.builtins G.T.nolimit hg hobj hints (Nat.le_trans hlen hn2) hr hF b (fun H hS => hsp w H a ns hlen hbits hS)
end Lx

namespace Lx
open PySem PySem.Spec PyProof.Rows L2

/-! ### built-in names -/
theorem Blen : bootBuiltins "len" = some (.builtin "len") := by decide +kernel
theorem Bisinstance : bootBuiltins "isinstance" = some (.builtin "isinstance") := by decide +kernel
theorem Babs : bootBuiltins "abs" = some (.builtin "abs") := by decide +kernel
theorem Bmin : bootBuiltins "min" = some (.builtin "min") := by decide +kernel
theorem Bmax : bootBuiltins "max" = some (.builtin "max") := by decide +kernel
theorem Bsorted : bootBuiltins "sorted" = some (.builtin "sorted") := by decide +kernel
theorem Bsum : bootBuiltins "sum" = some (.builtin "sum") := by decide +kernel
theorem Ball : bootBuiltins "all" = some (.builtin "all") := by decide +kernel
theorem Bany : bootBuiltins "any" = some (.builtin "any") := by decide +kernel
theorem Brepr : bootBuiltins "repr" = some (.builtin "repr") := by decide +kernel
theorem Tint : bootBuiltins "int" = some (.type "int") := by decide +kernel
theorem Tbool : bootBuiltins "bool" = some (.type "bool") := by decide +kernel
theorem Tstr : bootBuiltins "str" = some (.type "str") := by decide +kernel
theorem Tlist : bootBuiltins "list" = some (.type "list") := by decide +kernel
theorem Ttuple : bootBuiltins "tuple" = some (.type "tuple") := by decide +kernel
theorem Tset : bootBuiltins "set" = some (.type "set") := by decide +kernel
theorem Tdict : bootBuiltins "dict" = some (.type "dict") := by decide +kernel
/-- the module gives none of these names a meaning of its own -/
structure Bn (mg : Str → Option Value) : Prop where
  len : mg "len" = none
  range : mg "range" = none
  isinstance : mg "isinstance" = none
  int : mg "int" = none
  bool : mg "bool" = none
  str : mg "str" = none
  list : mg "list" = none
  tuple : mg "tuple" = none
  set : mg "set" = none
  sorted : mg "sorted" = none
  min : mg "min" = none
  max : mg "max" = none
  sum : mg "sum" = none
  all : mg "all" = none
  any : mg "any" = none
  abs : mg "abs" = none
  repr : mg "repr" = none
  enumerate : mg "enumerate" = none
  zip : mg "zip" = none
  reversed : mg "reversed" = none
  dict : mg "dict" = none

/-! ### repr of data -/
def rRepr (K : PySem.W.Frag) : List V → Hp → VK → Prop := fun xs H Q => ∃ x d, xs = [x] ∧ Dp K H x d ∧ d.showable = true ∧ d.hasDict = false ∧ d.depth ≤ 32 ∧ d.shown.length ≤ sizeLine ∧ Q (.str d.shown) H
theorem call_reprD {X : Cx} (hG : X.A.guards = some []) (hu : X.A.units + 64 < cLine) : CallR X (.builtin "repr") (rRepr X.K) := by
  intro pins s σ H xs us Q I r h
  obtain ⟨x, d, rfl, hd, hs, hn, hp, hz, q⟩ := h
  cases r with
  | cons r rr =>
    cases rr
    rename_i u
    obtain ⟨as, rd⟩ := Dp.reads I d x u hd r
    cases hd with
    | non => cases r; exact P.repr_of_none ⟨.str _, H, I.tok _, ⟨_, rfl⟩, q⟩
    | bl b => cases r; exact P.repr_of_bool ⟨.str _, H, I.tok _, ⟨_, rfl⟩, q⟩
    | int i =>
      obtain ⟨t, rfl⟩ := r
      exact P.repr_of_int (of_decide_eq_true hs) ⟨.str _, H, I.tok _, ⟨_, rfl⟩, q⟩
    | str y =>
      obtain ⟨t, rfl⟩ := r
      exact P.repr_of_str ⟨.str _, H, I.tok _, ⟨_, rfl⟩, q⟩ hz
    | lst h1 h2 =>
      cases r
      exact repr_of_reads' rd hs (fun e => by rw [hn] at e; cases e) hG (by omega) (fun _ _ e => e) (fun h' v tk k => ⟨.str _, H, I.kept (t' := tk) k, ⟨_, rfl⟩, q⟩) hz
    | tup h1 h2 =>
      cases r
      exact repr_of_reads' rd hs (fun e => by rw [hn] at e; cases e) hG (by omega) (fun _ _ e => e) (fun h' v tk k => ⟨.str _, H, I.kept (t' := tk) k, ⟨_, rfl⟩, q⟩) hz
/-! ### how long a shown datum is -/
theorem textFrom_le (m : Nat) : ∀ (ts : List Str) (k : Nat) (acc : Str), (∀ t ∈ ts, t.length ≤ m) → (textFrom k acc ts).length ≤ acc.length + ts.length * (m + 2)
  | [], k, acc, _ => Nat.le_add_right _ _
  | t :: r, k, acc, h => by
    have ih := textFrom_le m r (k + 1) (acc ++ (if k > 0 then ", " else "" : String) ++ t) fun u hu => h u (List.mem_cons_of_mem _ hu)
    have ht := h t List.mem_cons_self
    have e : (acc ++ (if k > 0 then ", " else "" : String) ++ t).length ≤ acc.length + 2 + t.length := by
      rw [strLen_append, strLen_append]
      split <;> exact Nat.add_le_add_right (Nat.add_le_add_left (by decide) _) _
    rw [List.length_cons, Nat.succ_mul]
    show (textFrom (k + 1) _ r).length ≤ _
    omega
theorem shownAll_mem : ∀ {ds : List PyData} {t : Str}, t ∈ PyData.shownAll ds → ∃ d ∈ ds, t = d.shown
  | [], t, h => by cases h
  | d :: ds, t, h => by
    rcases List.mem_cons.mp (show t ∈ d.shown :: PyData.shownAll ds from h) with e | h
    · exact ⟨d, List.mem_cons_self, e⟩
    · obtain ⟨x, hx, e⟩ := shownAll_mem h
      exact ⟨x, List.mem_cons_of_mem _ hx, e⟩
theorem shownAll_len : ∀ ds : List PyData, (PyData.shownAll ds).length = ds.length
  | [] => rfl
  | _ :: ds => congrArg Nat.succ (shownAll_len ds)
theorem piled_le (m : Nat) : ∀ ts : List Str, (∀ t ∈ ts, t.length ≤ m) → piled ts ≤ ts.length * (m + 2)
  | [], _ => by rw [piled_nil]; exact Nat.zero_le _
  | t :: r, h => by
    have ih := piled_le m r fun u hu => h u (List.mem_cons_of_mem _ hu)
    have ht := h t List.mem_cons_self
    rw [piled_cons, List.length_cons, Nat.succ_mul]
    omega
theorem list_shown {ds : List PyData} {m : Nat} (h : ∀ d ∈ ds, d.shown.length ≤ m) : (PyData.list ds).shown.length ≤ ds.length * (m + 2) + 2 := by
  have z := textFrom_le m (PyData.shownAll ds) 0 "[" fun t ht => by
    obtain ⟨d, hd, e⟩ := shownAll_mem ht
    rw [e]
    exact h d hd
  rw [shownAll_len] at z
  show (textFrom 0 "[" (PyData.shownAll ds) ++ "]" : Str).length ≤ _
  rw [strLen_append]
  have e1 : (("[" : String) : Str).length = 1 := rfl
  have e2 : (("]" : String) : Str).length = 1 := rfl
  omega
theorem tuple_shown {ds : List PyData} {m : Nat} (h : ∀ d ∈ ds, d.shown.length ≤ m) : (PyData.tuple ds).shown.length ≤ ds.length * (m + 2) + 3 := by
  have hm : ∀ t ∈ PyData.shownAll ds, t.length ≤ m := fun t ht => by
    obtain ⟨d, hd, e⟩ := shownAll_mem ht
    rw [e]
    exact h d hd
  have z := piled_le m (PyData.shownAll ds) hm
  rw [shownAll_len] at z
  show (("(" : Str) ++ Str.join ", " (PyData.shownAll ds) ++ (if (PyData.shownAll ds).length == 1 then ",)" else ")" : String)).length ≤ _
  rw [strLen_append, strLen_append]
  have e1 : (("(" : String) : Str).length = 1 := rfl
  have e3 : (((if (PyData.shownAll ds).length == 1 then ",)" else ")" : String) : Str)).length ≤ 2 := by split <;> decide
  by_cases e : PyData.shownAll ds = []
  · rw [e] at e3 ⊢
    have e4 : (Str.join ", " ([] : List Str)).length = 0 := rfl
    rw [e4]
    omega
  · have j := join_length_add _ e
    omega
theorem int_shown {i : Int} {k : Nat} (hk : 0 < k) (h0 : 0 ≤ i) (h : i < 10 ^ k) : (PyData.int i).shown.length ≤ k := toString_length_le h0 hk h

/-! ### heaps -/
theorem _root_.L2.Same.get {H H' : Hp} {a : Addr} {o : HO} (s : Same H H') (h : H a = some o) : H' a = some o := s a o h
theorem same_new {H : Hp} {p : Addr} {o : HO} (n : H p = none) : Same H (upd H p o) := by
  intro b u e
  rw [upd_ne (ne_of_none e n)]
  exact e
theorem same_set {H H' : Hp} {p : Addr} {o : HO} (s : Same H H') (n : H p = none) : Same H (upd H' p o) := by
  intro b u e
  rw [upd_ne (ne_of_none e n)]
  exact s b u e
theorem ne_new {H : Hp} {a b : Addr} {o : HO} (n : H b = none) (h : H a = some o) : a ≠ b := ne_of_none h n
/-- all but what stands at r is as it was -/
def Kp (r : Addr) (H H' : Hp) : Prop := ∀ b o, b ≠ r → H b = some o → H' b = some o
theorem Kp.refl (r : Addr) (H : Hp) : Kp r H H := fun _ _ _ h => h
theorem Kp.of {r : Addr} {H H' : Hp} (s : Same H H') : Kp r H H' := fun b o _ h => s b o h
theorem Kp.trans {r : Addr} {H H1 H2 : Hp} (a : Kp r H H1) (b : Kp r H1 H2) : Kp r H H2 := fun c o n h => b c o n (a c o n h)
theorem Kp.set {r : Addr} {H : Hp} {o : HO} : Kp r H (upd H r o) := fun b u n e => by rw [upd_ne n]; exact e
theorem Kp.put {r p : Addr} {H H' : Hp} {o : HO} (k : Kp r H H') (n : H p = none) : Kp r H (upd H' p o) := fun b u m e => by
  rw [upd_ne (ne_of_none e n)]
  exact k b u m e
theorem Kp.free {r p : Addr} {H H' : Hp} (k : Kp r H H') (n : H' p = none) (m : p ≠ r) : H p = none := by
  cases q : H p with
  | none => rfl
  | some o => rw [k p o m q] at n; cases n
theorem Kp.get {r a : Addr} {H H' : Hp} {o : HO} (k : Kp r H H') (n : a ≠ r) (h : H a = some o) : H' a = some o := k a o n h
theorem lst_of {K : PySem.W.Frag} {H : Hp} {a : Addr} {xs : List V} (h : H a = some (.lst xs)) : SqL K H a xs := .inl (.inl h)
theorem tup_of {K : PySem.W.Frag} {H : Hp} {a : Addr} {xs : List V} (h : H a = some (.tup xs)) : SqT K H a xs := .inl (.inl h)
theorem Kp.seq {K : PySem.W.Frag} {r : Addr} {H H' : Hp} {a : Addr} {xs : List V} (k : Kp r H H') (n : a ≠ r) (h : SqL K H a xs) : SqL K H' a xs := by
  rcases h with (h | ⟨o, h⟩) | h
  · exact .inl (.inl (k _ _ n h))
  · exact .inl (.inr ⟨o, k _ _ n h⟩)
  · exact .inr h
theorem Kp.seqT {K : PySem.W.Frag} {r : Addr} {H H' : Hp} {a : Addr} {xs : List V} (k : Kp r H H') (n : a ≠ r) (h : SqT K H a xs) : SqT K H' a xs := by
  rcases h with (h | ⟨o, h⟩) | h
  · exact .inl (.inl (k _ _ n h))
  · exact .inl (.inr ⟨o, k _ _ n h⟩)
  · exact .inr h
theorem _root_.L2.Same.seqT {K : PySem.W.Frag} {H H' : Hp} {a : Addr} {xs : List V} (k : Same H H') (h : SqT K H a xs) : SqT K H' a xs := by
  rcases h with (h | ⟨o, h⟩) | h
  · exact .inl (.inl (k _ _ h))
  · exact .inl (.inr ⟨o, k _ _ h⟩)
  · exact .inr h

/-! ### the layer's rules whose readings have no name, named -/
def rIsN' : R2 := fun x y H Q => y = .non ∧ Q (.bl (decide (x = .non))) H
def rNotN' : R2 := fun x y H Q => y = .non ∧ Q (.bl (!decide (x = .non))) H
def rLen (K : PySem.W.Frag) : List V → Hp → VK → Prop := fun xs H Q => ∃ p ys, xs = [.ref p] ∧ (SqL K H p ys ∨ SqT K H p ys) ∧ Q (.int ys.length) H
def rLenS : List V → Hp → VK → Prop := fun xs H Q => ∃ z, xs = [.str z] ∧ z.length ≤ sizeLine ∧ Q (.int z.length) H
def rAbs : List V → Hp → VK → Prop := fun xs H Q => ∃ i, xs = [.int i] ∧ Q (.int (if i < 0 then -i else i)) H
def rMax2 : List V → Hp → VK → Prop := fun xs H Q => ∃ i j, xs = [.int i, .int j] ∧ Q (.int (if j > i then j else i)) H
def rMin2 : List V → Hp → VK → Prop := fun xs H Q => ∃ i j, xs = [.int i, .int j] ∧ Q (.int (if j < i then j else i)) H
def rInt1 : List V → Hp → VK → Prop := fun xs H Q => (∃ i, xs = [.int i] ∧ Q (.int i) H) ∨ ∃ k, xs = [.bl k] ∧ Q (.int (if k then 1 else 0)) H
def rStrI : List V → Hp → VK → Prop := fun xs H Q => ∃ i, xs = [.int i] ∧ i.natAbs.log2 < 1920 ∧ Q (.str (toString i)) H
def rListOf (K : PySem.W.Frag) : List V → Hp → VK → Prop := fun xs H Q => ∃ p ys, xs = [.ref p] ∧ (SqL K H p ys ∨ SqT K H p ys) ∧ ∀ l, H l = none → Q (.ref l) (upd H l (.lst ys))
def rTupleOf (K : PySem.W.Frag) : List V → Hp → VK → Prop := fun xs H Q => ∃ p ys, xs = [.ref p] ∧ ((SqL K H p ys ∧ ∀ l, H l = none → Q (.ref l) (upd H l (.tup ys))) ∨ (SqT K H p ys ∧ Q (.ref p) H))
section
variable {X : Cx}
theorem op_isN' : OpR X (compareOp .Is) rIsN' := op_isN
theorem op_notN' : OpR X (compareOp .IsNot) rNotN' := op_notN
theorem call_len' : CallR X (.builtin "len") (rLen X.K) := call_len_seq
theorem call_lenS' : CallR X (.builtin "len") rLenS := call_len_str
theorem call_abs' : CallR X (.builtin "abs") rAbs := call_abs
theorem call_max2' (hc : X.calm = true) : CallR X (.builtin "max") rMax2 := call_max2 hc
theorem call_min2' (hc : X.calm = true) : CallR X (.builtin "min") rMin2 := call_min2 hc
theorem call_int1' : CallR X (.type "int") rInt1 := call_int1
theorem call_str' : CallR X (.type "str") rStrI := call_str_int
theorem call_list' : CallR X (.type "list") (rListOf X.K) := call_list_of
theorem call_tuple' : CallR X (.type "tuple") (rTupleOf X.K) := call_tuple_of
end
/-! ### readings, one rule a word -/
section
variable {σ : L2.St} {H : Hp} {Q : VK} {D : Ends} {ta tb tc te : TE} {t u : TT} {ts tu : TS} {tA tB' : TA} {i j : Nat} {x y v : V} {R : L2.St → Hp → Prop} {B : Bool → Hp → Prop} {L : List V → Hp → Prop}
theorem r_seq (h : ts { D with nx := tu D } σ H) : tSeq ts tu D σ H := h
theorem r_next (h : D.nx σ H) : tNext D σ H := h
theorem r_nx {n b c : L2.St → Hp → Prop} {r : VK} (h : n σ H) : Ends.nx ⟨n, r, b, c⟩ σ H := h
theorem r_rt {n b c : L2.St → Hp → Prop} {r : VK} (h : r v H) : Ends.rt ⟨n, r, b, c⟩ v H := h
theorem r_bk {n b c : L2.St → Hp → Prop} {r : VK} (h : b σ H) : Ends.bk ⟨n, r, b, c⟩ σ H := h
theorem r_ct {n b c : L2.St → Hp → Prop} {r : VK} (h : c σ H) : Ends.ct ⟨n, r, b, c⟩ σ H := h
theorem r_brk (h : D.bk σ H) : tBreak D σ H := h
theorem r_cont (h : D.ct σ H) : tCont D σ H := h
theorem r_ret (h : te σ H D.rt) : tRet te D σ H := h
theorem r_retN (h : D.rt .non H) : tRetN D σ H := h
theorem r_drop (h : te σ H fun _ H1 => D.nx σ H1) : tDrop te D σ H := h
theorem r_if (h : t σ H fun b H1 => if b = true then ts D σ H1 else tu D σ H1) : tIfS t ts tu D σ H := h
theorem r_asg {g : TG} (h : te σ H fun x H1 => g x σ H1 D.nx) : tAsg te g D σ H := h
theorem r_par (h : tA σ H fun vs H1 => ∃ v w, vs = [v, w] ∧ D.nx ((σ.set i (some v)).set j (some w)) H1) : tPar i j tA D σ H := h
theorem r_par3 {l : Nat} (h : tA σ H fun vs H1 => ∃ u v w, vs = [u, v, w] ∧ D.nx (((σ.set i (some u)).set j (some v)).set l (some w)) H1) : tPar3 i j l tA D σ H := h
theorem r_two {P : V → V → Prop} (h : P x y) : ∃ v w, [x, y] = [v, w] ∧ P v w := ⟨x, y, rfl, h⟩
theorem r_three {z : V} {P : V → V → V → Prop} (h : P x y z) : ∃ u v w, [x, y, z] = [u, v, w] ∧ P u v w := ⟨x, y, z, rfl, h⟩
theorem r_name (h : R (σ.set i (some v)) H) : gName i v σ H R := h
theorem r_sub {ti to : TE} {s : TSet} (h : to σ H fun o H1 => ti σ H1 fun i H2 => s o i v H2 fun H3 => R σ H3) : gSub to ti s v σ H R := h
theorem r_setL {p : Addr} {xs : List V} {k : Int} {n : Nat} {R : Hp → Prop} (h : H p = some (.lst xs)) (e : ixN xs.length k = some n) (q : R (upd H p (.lst (xs.set n v)))) : rSetL (.ref p) (.int k) v H R := ⟨p, xs, k, n, rfl, rfl, h, e, q⟩
theorem r_gtup {K : PySem.W.Frag} {n : Nat} {g : TGs} {a : Addr} {xs : List V} (h : SqT K H a xs) (e : xs.length = n) (q : g xs σ H R) : gTup K n g (.ref a) σ H R := ⟨a, xs, rfl, h, e, q⟩
theorem r_gunl {K : PySem.W.Frag} {n : Nat} {g : TGs} {a : Addr} {xs : List V} (h : SqL K H a xs) (e : xs.length = n) (q : g xs σ H R) : gUnl K n g (.ref a) σ H R := ⟨a, xs, rfl, h, e, q⟩
theorem r_gcons {g : TG} {gs : TGs} {xs : List V} (h : g x σ H fun σ' H' => gs xs σ' H' R) : gCons g gs (x :: xs) σ H R := ⟨x, xs, rfl, h⟩
theorem r_gnil (h : R σ H) : gNil [] σ H R := ⟨rfl, h⟩
theorem r_var (h : σ[i]? = some (some v)) (q : Q v H) : tVar i σ H Q := ⟨v, h, q⟩
theorem r_c (q : Q v H) : tC v σ H Q := q
theorem r_op {r : R2} (h : ta σ H fun x H1 => tb σ H1 fun y H2 => r x y H2 Q) : tOp r ta tb σ H Q := h
theorem r_un {r : V → Hp → VK → Prop} (h : ta σ H fun x H1 => r x H1 Q) : tUn r ta σ H Q := h
theorem r_test (h : te σ H fun x H' => ∃ k, x = .bl k ∧ B k H') : tTest te σ H B := h
theorem r_B (h : te σ H fun x H' => ∃ k, x = .bl k ∧ B k H') : tB te σ H B := h
theorem r_bl {k : Bool} {P : Bool → Prop} (h : P k) : ∃ k', V.bl k = .bl k' ∧ P k' := ⟨k, rfl, h⟩
theorem r_and (h : t σ H fun c H1 => if c = true then u σ H1 B else B false H1) : tAnd t u σ H B := h
theorem r_or (h : t σ H fun c H1 => if c = true then B true H1 else u σ H1 B) : tOr t u σ H B := h
theorem r_not (h : t σ H fun c H1 => B (!c) H1) : tNot t σ H B := h
theorem r_andV (h : ta σ H fun x H1 => ∃ c, x = .bl c ∧ if c = true then tb σ H1 Q else Q (.bl false) H1) : tAndV ta tb σ H Q := h
theorem r_orV (h : ta σ H fun x H1 => ∃ c, x = .bl c ∧ if c = true then Q (.bl true) H1 else tb σ H1 Q) : tOrV ta tb σ H Q := h
theorem r_notV (h : ta σ H fun x H1 => ∃ c, x = .bl c ∧ Q (.bl (!c)) H1) : tNotV ta σ H Q := h
theorem r_ifE (h : t σ H fun c H1 => if c = true then ta σ H1 Q else tb σ H1 Q) : tIf t ta tb σ H Q := h
theorem r_chain {r r' : R2} (h : ta σ H fun x H1 => tb σ H1 fun y H2 => r x y H2 fun z H3 => ∃ k, z = .bl k ∧ (if k = true then tc σ H3 fun w' H4 => r' y w' H4 Q else Q (.bl false) H3)) : tChain r r' ta tb tc σ H Q := h
theorem r_nil (h : L [] H) : tNil σ H L := h
theorem r_cons (h : ta σ H fun x H1 => tA σ H1 fun xs H2 => L (x :: xs) H2) : tCons ta tA σ H L := h
theorem r_CB {r : List V → Hp → VK → Prop} (h : tA σ H fun vs H1 => r vs H1 Q) : tCB r tA σ H Q := h
theorem r_call {sp : Sp} {dvs : List V} {E : XK} (h : tA σ H fun vs H1 => sp (vs ++ dvs) H1 Q E) : tCall sp dvs E tA σ H Q := h
theorem r_tup (h : tA σ H fun xs H1 => xs.length ≤ sizeLine ∧ ∀ p, H1 p = none → Q (.ref p) (upd H1 p (.tup xs))) : tTup tA σ H Q := h
theorem r_lst (h : tA σ H fun xs H1 => xs.length ≤ sizeLine ∧ ∀ p, H1 p = none → Q (.ref p) (upd H1 p (.lst xs))) : tLst tA σ H Q := h
theorem r_new {n : Nat} {P : Prop} (hn : n ≤ 1000) (h : P) : n ≤ sizeLine ∧ P := ⟨Nat.le_trans hn (by decide), h⟩
theorem r_BM {K : PySem.W.Frag} {T : String} {r : V → List V → Hp → VK → Prop} (h : te σ H fun x H1 => tyV K T x H1 ∧ tA σ H1 fun xs H2 => r x xs H2 Q) : tBM K T r te tA σ H Q := h
theorem r_BM0 {K : PySem.W.Frag} {T : String} {r : V → List V → Hp → VK → Prop} (h : te σ H fun x H1 => tyV K T x H1 ∧ r x [] H1 Q) : tBM0 K T r te σ H Q := h
theorem r_ty {K : PySem.W.Frag} {p : Addr} {xs : List V} {P : Prop} (h : H p = some (.lst xs)) (q : P) : tyV K "list" (.ref p) H ∧ P := ⟨.inl ⟨rfl, xs, .inl (.inl h)⟩, q⟩
theorem r_tyS {K : PySem.W.Frag} {z : Str} {P : Prop} (q : P) : tyV K "str" (.str z) H ∧ P := ⟨rfl, q⟩
theorem r_I0 {g : Int → Int → V} {a b : Int} (q : Q (g a b) H) : rI0 g (.int a) (.int b) H Q := ⟨a, b, rfl, rfl, q⟩
theorem r_I {C : Int → Int → Prop} {g : Int → Int → V} {a b : Int} (c : C a b) (q : Q (g a b) H) : rI C g (.int a) (.int b) H Q := ⟨a, b, rfl, rfl, c, q⟩
theorem r_U {g : Int → V} {a : Int} (q : Q (g a) H) : rU g (.int a) H Q := ⟨a, rfl, q⟩
theorem r_eqI {a b : Int} (q : Q (.bl (decide (a = b))) H) : rEq (.int a) (.int b) H Q := by
  refine ⟨rfl, ?_⟩
  rw [show decide (V.int a = V.int b) = decide (a = b) by simp]
  exact q
theorem r_neI {a b : Int} (q : Q (.bl (!decide (a = b))) H) : rNe (.int a) (.int b) H Q := by
  refine ⟨rfl, ?_⟩
  rw [show decide (V.int a = V.int b) = decide (a = b) by simp]
  exact q
theorem r_eqS {a b : Str} (q : Q (.bl (decide (a = b))) H) : rEq (.str a) (.str b) H Q := by
  refine ⟨rfl, ?_⟩
  rw [show decide (V.str a = V.str b) = decide (a = b) by simp]
  exact q
theorem r_neS {a b : Str} (q : Q (.bl (!decide (a = b))) H) : rNe (.str a) (.str b) H Q := by
  refine ⟨rfl, ?_⟩
  rw [show decide (V.str a = V.str b) = decide (a = b) by simp]
  exact q
theorem r_eqB {a b : Bool} (q : Q (.bl (decide (a = b))) H) : rEq (.bl a) (.bl b) H Q := by
  refine ⟨rfl, ?_⟩
  rw [show decide (V.bl a = V.bl b) = decide (a = b) by simp]
  exact q
theorem r_neB {a b : Bool} (q : Q (.bl (!decide (a = b))) H) : rNe (.bl a) (.bl b) H Q := by
  refine ⟨rfl, ?_⟩
  rw [show decide (V.bl a = V.bl b) = decide (a = b) by simp]
  exact q
theorem r_ixL {K : PySem.W.Frag} {p : Addr} {xs : List V} {a : Int} (h : SqL K H p xs) (e : atI xs a = some v) (q : Q v H) : rIxL K (.ref p) (.int a) H Q := ⟨p, xs, a, v, rfl, rfl, h, e, q⟩
theorem r_ixT {K : PySem.W.Frag} {p : Addr} {xs : List V} {a : Int} (h : SqT K H p xs) (e : atI xs a = some v) (q : Q v H) : rIxT K (.ref p) (.int a) H Q := ⟨p, xs, a, v, rfl, rfl, h, e, q⟩
theorem r_app {p : Addr} {xs : List V} (h : H p = some (.lst xs)) (z : xs.length < sizeLine) (q : Q .non (upd H p (.lst (xs ++ [v])))) : rAppend (.ref p) [v] H Q := ⟨p, xs, v, rfl, rfl, h, z, q⟩
theorem r_sl {r : V → Option Int → Option Int → Hp → VK → Prop} {tl th : TO} (h : te σ H fun x H1 => tl σ H1 fun l H2 => th σ H2 fun u H3 => r x l u H3 Q) : tSl r te tl th σ H Q := h
theorem r_nop {O : Option Int → Hp → Prop} (h : O none H) : tNoPart σ H O := h
theorem r_part {O : Option Int → Hp → Prop} (h : te σ H fun x H1 => ∃ i, x = .int i ∧ O (some i) H1) : tPart te σ H O := h
theorem r_int {a : Int} {P : Int → Prop} (h : P a) : ∃ i, V.int a = .int i ∧ P i := ⟨a, rfl, h⟩
theorem r_slL {K : PySem.W.Frag} {p : Addr} {xs : List V} {lo hi : Option Int} (h : SqL K H p xs) (q : ∀ n, H n = none → Q (.ref n) (upd H n (.lst (cutV xs lo hi)))) : rSlL K (.ref p) lo hi H Q := ⟨p, xs, rfl, h, q⟩
theorem r_cat {a b : Addr} {xs zs : List V} (h : H a = some (.lst xs)) (h' : H b = some (.lst zs)) (z : xs.length + zs.length ≤ sizeLine) (q : ∀ p, H p = none → Q (.ref p) (upd H p (.lst (xs ++ zs)))) : rCat (.ref a) (.ref b) H Q := ⟨a, b, xs, zs, rfl, rfl, h, h', z, q⟩
theorem r_revL {K : PySem.W.Frag} (h : te σ H fun x H1 => ∃ a xs, x = .ref a ∧ SqL K H1 a xs ∧ ∀ p, H1 p = none → Q (.ref p) (upd H1 p (.lst xs.reverse))) : tRevL K te σ H Q := h
theorem r_lstRg {tr : L2.St → Hp → (Int → Int → Hp → Prop) → Prop} (h : tr σ H fun a b H1 => RgOk a b ∧ ∀ q, H1 q = none → Q (.ref q) (upd H1 q (.lst (rgV a b)))) : tLstRg tr σ H Q := h
theorem r_rg1 {P : Int → Int → Hp → Prop} (h : te σ H fun x H1 => ∃ n, x = .int n ∧ P 0 n H1) : tRg1 te σ H P := h
theorem r_aug {ti : TIp} (h : σ[i]? = some (some x)) (q : te σ H fun y H1 => ti x y H1 fun z H2 => D.nx (σ.set i (some z)) H2) : tAug i te ti D σ H := ⟨x, h, q⟩
theorem r_ip {f : Int → Int → Int} {a b : Int} (q : Q (.int (f a b)) H) : ipI f (.int a) (.int b) H Q := ⟨a, b, rfl, rfl, q⟩
theorem r_isN0 (q : Q (.bl true) H) : rIsN' .non .non H Q := ⟨rfl, q⟩
theorem r_isNi {a : Int} (q : Q (.bl false) H) : rIsN' (.int a) .non H Q := ⟨rfl, q⟩
theorem r_isNr {a : Addr} (q : Q (.bl false) H) : rIsN' (.ref a) .non H Q := ⟨rfl, q⟩
theorem r_isNb {a : Bool} (q : Q (.bl false) H) : rIsN' (.bl a) .non H Q := ⟨rfl, q⟩
theorem r_isNs {a : Str} (q : Q (.bl false) H) : rIsN' (.str a) .non H Q := ⟨rfl, q⟩
theorem r_isN {a : V} (q : Q (.bl (decide (a = .non))) H) : rIsN' a .non H Q := ⟨rfl, q⟩
theorem r_notN0 (q : Q (.bl false) H) : rNotN' .non .non H Q := ⟨rfl, q⟩
theorem r_notNi {a : Int} (q : Q (.bl true) H) : rNotN' (.int a) .non H Q := ⟨rfl, q⟩
theorem r_notNr {a : Addr} (q : Q (.bl true) H) : rNotN' (.ref a) .non H Q := ⟨rfl, q⟩
theorem r_notN {a : V} (q : Q (.bl (!decide (a = .non))) H) : rNotN' a .non H Q := ⟨rfl, q⟩
theorem r_len {K : PySem.W.Frag} {p : Addr} {xs : List V} (h : SqL K H p xs ∨ SqT K H p xs) (q : Q (.int xs.length) H) : rLen K [.ref p] H Q := ⟨p, xs, rfl, h, q⟩
theorem r_lenS {z : Str} (h : z.length ≤ sizeLine) (q : Q (.int z.length) H) : rLenS [.str z] H Q := ⟨z, rfl, h, q⟩
theorem r_abs {a : Int} (q : Q (.int (if a < 0 then -a else a)) H) : rAbs [.int a] H Q := ⟨a, rfl, q⟩
theorem r_max2 {a b : Int} (q : Q (.int (if b > a then b else a)) H) : rMax2 [.int a, .int b] H Q := ⟨a, b, rfl, q⟩
theorem r_min2 {a b : Int} (q : Q (.int (if b < a then b else a)) H) : rMin2 [.int a, .int b] H Q := ⟨a, b, rfl, q⟩
theorem r_inti {a : Int} (q : Q (.int a) H) : rInt1 [.int a] H Q := .inl ⟨a, rfl, q⟩
theorem r_intb {b : Bool} (q : Q (.int (if b then 1 else 0)) H) : rInt1 [.bl b] H Q := .inr ⟨b, rfl, q⟩
theorem r_listOf {K : PySem.W.Frag} {p : Addr} {xs : List V} (h : SqL K H p xs ∨ SqT K H p xs) (q : ∀ l, H l = none → Q (.ref l) (upd H l (.lst xs))) : rListOf K [.ref p] H Q := ⟨p, xs, rfl, h, q⟩
theorem r_tupleL {K : PySem.W.Frag} {p : Addr} {xs : List V} (h : SqL K H p xs) (q : ∀ l, H l = none → Q (.ref l) (upd H l (.tup xs))) : rTupleOf K [.ref p] H Q := ⟨p, xs, rfl, .inl ⟨h, q⟩⟩
theorem r_tupleT {K : PySem.W.Frag} {p : Addr} {xs : List V} (h : SqT K H p xs) (q : Q (.ref p) H) : rTupleOf K [.ref p] H Q := ⟨p, xs, rfl, .inr ⟨h, q⟩⟩
/-- an if whose test is a decided proposition -/
theorem ifD {c A B : Prop} [Decidable c] (h1 : c → A) (h2 : ¬ c → B) : if decide c = true then A else B := by
  by_cases h : c
  · rw [decide_eq_true h]; exact iteT (h1 h)
  · rw [decide_eq_false h]; exact iteF (h2 h)
theorem ifN {c A B : Prop} [Decidable c] (h1 : ¬ c → A) (h2 : c → B) : if (!decide c) = true then A else B := by
  by_cases h : c
  · rw [decide_eq_true h]; exact iteF (h2 h)
  · rw [decide_eq_false h]; exact iteT (h1 h)
theorem ifB {b : Bool} {A B : Prop} (h1 : b = true → A) (h2 : b = false → B) : if b = true then A else B := by
  cases b with
  | true => exact iteT (h1 rfl)
  | false => exact iteF (h2 rfl)
theorem ifNB {b : Bool} {A B : Prop} (h1 : b = false → A) (h2 : b = true → B) : if (!b) = true then A else B := by
  cases b with
  | true => exact iteF (h2 rfl)
  | false => exact iteT (h1 rfl)
theorem ifDT {c A B : Prop} [Decidable c] (hc : c) (h : A) : if decide c = true then A else B := ifD (fun _ => h) fun n => (n hc).elim
theorem ifDF {c A B : Prop} [Decidable c] (hc : ¬ c) (h : B) : if decide c = true then A else B := ifD (fun n => (hc n).elim) fun _ => h
theorem ifNT {c A B : Prop} [Decidable c] (hc : ¬ c) (h : A) : if (!decide c) = true then A else B := ifN (fun _ => h) fun n => (hc n).elim
theorem ifNF {c A B : Prop} [Decidable c] (hc : c) (h : B) : if (!decide c) = true then A else B := ifN (fun n => (n hc).elim) fun _ => h
end
theorem sz {n : Nat} (h : n ≤ 100000) : n ≤ sizeLine := Nat.le_trans h (by decide)
theorem szl {n : Nat} (h : n ≤ 100000) : n < sizeLine := Nat.lt_of_le_of_lt h (by decide)
end Lx

namespace Lx
open PySem PySem.Spec PyProof.Rows L2
section
variable {prog : Program} {w : World} {A : Around} {E : Value → Shared → Prop} {s : Shared}
/-- the items of a tuple, gathered into a new list -/
theorem gather_tup {t : Addr} {o : Obj} {vs : List Value} {n : Nat} {Q : List Value → Shared → Prop} (ho : s.heap.get? t = some o) (hc : o.cls = .type "tuple") (hd : o.data = .seq vs.toArray n) (hz : vs.length ≤ sizeLine)
    (h : Q vs { s with heap := (s.heap.push (seqObj "list" #[] 0)).update s.heap.objs.size (Obj.mapSeq (· ++ vs.toArray)) }) : wpAny (model prog w) A (collect (.ref t)) Q E s := by
  have old : (s.heap.push (seqObj "list" #[] 0)).get? t = some o := Heap.get?_push_of_some _ ho
  have new : (s.heap.push (seqObj "list" #[] 0)).get? s.heap.objs.size = some (seqObj "list" #[] 0) := Heap.get?_push_size _ rfl
  have et : (Value.type "tuple" == Value.type "tuple") = true := by rfl
  unfold collect
  apply wpAny_bind
  apply wpAny_runValue
  apply codeAny_builtin entry_proto_collect'
  show wpAny _ _ (do again (.builtin "list.__iadd__" ⟨[← newList [], .ref t], []⟩)) _ _ s
  apply wpAny_bind
  refine wpAny_newList ?_
  refine wpAny_pure ⟨Code.quiet_builtin _ (by decide +kernel), codeAny_builtin entry_list_iadd' ?_⟩
  show wpAny _ _ (Builtin.List.listExtendWith (.ref s.heap.objs.size) (.ref t) (.ref s.heap.objs.size)) _ _ { s with heap := s.heap.push (seqObj "list" #[] 0) }
  unfold Builtin.List.listExtendWith
  refine wpAny_bind (wpAny_typeOf (T := "tuple") ⟨o, old, hc⟩ ?_)
  rw [if_pos (by rw [et]; simp)]
  apply wpAny_bind
  refine listItems_at old hd ?_
  apply wpAny_bind
  refine listItems_at (xs := #[]) (n := 0) new rfl ?_
  rw [if_neg (by simp)]
  apply wpAny_bind
  refine listUpdate_at (xs := #[]) (n := 0) new rfl ?_ (Nat.zero_le _) (by simp only [Array.size_append, List.size_toArray, List.length_nil]; show 0 + vs.length ≤ sizeLine + 1; omega)
  apply wpAny_pure
  show wpAny (model prog w) A (do
    let o' ← load s.heap.objs.size
    match o'.data with
    | .seq xs _ => pure xs.toList
    | _ => unsupported "internal:collect") Q E _
  refine wpAny_bind (wpAny_load (get?_update_seq new _) ?_)
  have e : ((#[] : Array Value) ++ vs.toArray).toList = vs := by simp
  show wpAny _ _ (pure ((#[] : Array Value) ++ vs.toArray).toList) Q E _
  rw [e]
  exact wpAny_pure h
/-- sorted of a tuple of ints -/
theorem sorted_tupI {t : Addr} {o : Obj} {vs : List Value} {ns : List Int} {n : Nat} {Q : Value → Shared → Prop} (ho : s.heap.get? t = some o) (hc : o.cls = .type "tuple") (hd : o.data = .seq vs.toArray n) (hz : vs.length ≤ sizeLine) (hi : IntsAre vs ns)
    (h : ∀ out : List Value, SrtO.Srtd SrtO.ltIv out → SrtO.Stb SrtO.ltIv out vs → Q (.ref (s.heap.objs.size + 1)) { s with heap := sortedAll s.heap vs out.toArray }) : wpAny (model prog w) A (call (.builtin "sorted") [.ref t]) Q E s := by
  have size1 : ((s.heap.push (seqObj "list" #[] 0)).update s.heap.objs.size (Obj.mapSeq (· ++ vs.toArray))).objs.size = s.heap.objs.size + 1 := by rw [Heap.size_update, size_push']
  have made : (((s.heap.push (seqObj "list" #[] 0)).update s.heap.objs.size (Obj.mapSeq (· ++ vs.toArray))).push (seqObj "list" vs.toArray 0)).get? (s.heap.objs.size + 1) = some (seqObj "list" vs.toArray 0) := by
    rw [← size1]
    exact Heap.get?_push_size _ rfl
  apply Calls.call_function_entry kind_sorted plain_sorted entry_sorted (args_sorted1 _)
  unfold Builtin.«sorted»
  refine wpAny_bind (m := checkCount "sorted" 1 1 _) (wpAny_pure ?_)
  apply wpAny_bind
  apply gather_tup ho hc hd hz
  apply wpAny_bind
  refine wpAny_newList ?_ hz
  show wpAny _ _ _ _ _ { s with heap := ((s.heap.push (seqObj "list" #[] 0)).update s.heap.objs.size (Obj.mapSeq (· ++ vs.toArray))).push (seqObj "list" vs.toArray 0) }
  rw [size1]
  apply wpAny_bind
  apply wpAny_holding
  refine wpAny_call_entry slot_list_sort ⟨_, made, rfl⟩ entry_list_sort (SrtO.list_sort_ord SrtO.swo_int made hz (fun h2 => SrtO.ints_sortable hi h2) ?_) (args_list_sort _)
  intro out h1 h2
  exact ⟨_, rfl, wpAny_pure ⟨_, rfl, h out h1 h2⟩⟩
end
/-- sorted(t), t a tuple of ints of any length -/
def rSortedU (K : PySem.W.Frag) : List V → Hp → VK → Prop := fun vs H Q => ∃ (a : Addr) (ns : List Int), vs = [V.ref a] ∧ SqT K H a (ns.map V.int) ∧ ∀ (ns' : List Int) (p : Addr), ns'.Perm ns → ns'.Pairwise (· ≤ ·) → H p = none → Q (.ref p) (upd H p (.lst (ns'.map V.int)))
theorem cr_sortedU {X : Cx} : CallR X (.builtin "sorted") (rSortedU X.K) := by
  intro pins s σ H vs us Q I r h
  obtain ⟨a, ns, rfl, hs, q⟩ := h
  obtain ⟨its, rv, ⟨o, ho, hc, n, hd⟩, hz⟩ := I.tuple hs
  have hi := rv.ints
  rw [Vals.ref1 r]
  refine sorted_tupI ho hc hd (by rw [← rv.length]; exact hz) hi ?_
  intro out h1 h2
  have k := SrtO.ints_out hi h1 h2
  obtain ⟨ep, he⟩ := sortedAll_at s.heap its out.toArray
  refine ⟨.ref _, upd H (s.heap.objs.size + 1) (.lst ((out.map SrtO.iv).map V.int)), ?_, rfl, q _ _ k.2.1 k.2.2 (I.hok.fresh (Nat.le_succ _))⟩
  refine I.laid (t' := s.toks) (fun _ _ => sortedAll_old) (Nat.le_succ _) ⟨?_, out, ep, vals_of_ints k.1, he⟩
  rw [List.length_map, k.2.1.length_eq]
  rw [List.length_map] at hz
  exact hz

/-! ### one of two -/
def iOr (w1 w2 : TI) : TI := fun σ H R => w1 σ H R ∨ w2 σ H R
theorem pi_or {X : Cx} {tg l : Expr} {w1 w2 : TI} (h1 : PI X tg l w1) (h2 : PI X tg l w2) : PI X tg l (iOr w1 w2) :=
  ⟨fun pins s σ H R I h => h.elim (h1.run pins s σ H R I) (h2.run pins s σ H R I)⟩
def cOr (r1 r2 : List V → Hp → VK → Prop) : List V → Hp → VK → Prop := fun xs H Q => r1 xs H Q ∨ r2 xs H Q
theorem call_or {X : Cx} {f : Value} {r1 r2 : List V → Hp → VK → Prop} (h1 : CallR X f r1) (h2 : CallR X f r2) : CallR X f (cOr r1 r2) :=
  fun pins s σ H vs us Q I r h => h.elim (h1 pins s σ H vs us Q I r) (h2 pins s σ H vs us Q I r)
def oOr (r1 r2 : R2) : R2 := fun x y H Q => r1 x y H Q ∨ r2 x y H Q
theorem op_or {X : Cx} {f : Value → Value → Sem Value} {r1 r2 : R2} (h1 : OpR X f r1) (h2 : OpR X f r2) : OpR X f (oOr r1 r2) :=
  fun pins s σ H x y v u Q I rx ry h => h.elim (h1 pins s σ H x y v u Q I rx ry) (h2 pins s σ H x y v u Q I rx ry)
theorem ix_or {X : Cx} {r1 r2 : R2} (h1 : IxR X r1) (h2 : IxR X r2) : IxR X (oOr r1 r2) := IxR.or h1 h2
end Lx

namespace Lx
open PySem PySem.Spec PyProof.Rows L2
/-- a list or a tuple that stands at a -/
def Sq (H : Hp) (a : Addr) (xs : List V) : Prop := H a = some (.lst xs) ∨ H a = some (.tup xs)
theorem _root_.L2.Same.sq {H H' : Hp} {a : Addr} {xs : List V} (s : Same H H') (h : Sq H a xs) : Sq H' a xs := h.elim (fun h => .inl (s _ _ h)) fun h => .inr (s _ _ h)
theorem Kp.sq {r : Addr} {H H' : Hp} {a : Addr} {xs : List V} (k : Kp r H H') (n : a ≠ r) (h : Sq H a xs) : Sq H' a xs := h.elim (fun h => .inl (k _ _ n h)) fun h => .inr (k _ _ n h)
theorem Sq.or {K : PySem.W.Frag} {H : Hp} {a : Addr} {xs : List V} (h : Sq H a xs) : SqL K H a xs ∨ SqT K H a xs := h.elim (fun h => .inl (lst_of h)) fun h => .inr (tup_of h)
/-! ### data of ints -/
def dI (ns : List Int) : List PyData := ns.map PyData.int
def vI (ns : List Int) : List V := ns.map V.int
theorem vI_len (ns : List Int) : (vI ns).length = ns.length := List.length_map ..
theorem dpAll_ints {K : PySem.W.Frag} {H : Hp} : ∀ ns : List Int, DpAll K H (vI ns) (dI ns)
  | [] => .nil
  | n :: ns => .cons (.int n) (dpAll_ints ns)
theorem dp_listI {K : PySem.W.Frag} {H : Hp} {a : Addr} {ns : List Int} (h : SqL K H a (vI ns)) : Dp K H (.ref a) (.list (dI ns)) := .lst h (dpAll_ints ns)
theorem dp_tupI {K : PySem.W.Frag} {H : Hp} {a : Addr} {ns : List Int} (h : SqT K H a (vI ns)) : Dp K H (.ref a) (.tuple (dI ns)) := .tup h (dpAll_ints ns)
theorem eqv_int (a b : Int) : PyData.eqv (.int a) (.int b) = decide (a = b) := by
  unfold PyData.eqv
  by_cases h : a = b
  · subst h; simp
  · simp [h]
theorem eqvAll_ints : ∀ xs ys : List Int, PyData.eqvAll (dI xs) (dI ys) = decide (xs = ys)
  | [], [] => by simp [dI, PyData.eqvAll]
  | [], _ :: _ => by simp [dI, PyData.eqvAll]
  | _ :: _, [] => by simp [dI, PyData.eqvAll]
  | x :: xs, y :: ys => by
    have ih := eqvAll_ints xs ys
    show (PyData.eqv (.int x) (.int y) && PyData.eqvAll (dI xs) (dI ys)) = _
    rw [ih, eqv_int]
    by_cases h : x = y <;> by_cases h2 : xs = ys <;> simp [h, h2]
theorem eqv_listI (xs ys : List Int) : PyData.eqv (.list (dI xs)) (.list (dI ys)) = decide (xs = ys) := by
  unfold PyData.eqv
  exact eqvAll_ints xs ys
theorem depthAll_ints : ∀ ns : List Int, PyData.depthAll (dI ns) = 0
  | [] => rfl
  | n :: ns => by show max 0 (PyData.depthAll (dI ns)) = 0; rw [depthAll_ints ns]; rfl
theorem canLay_ints : ∀ ns : List Int, PyData.canLayAll0 (dI ns) = true
  | [] => rfl
  | n :: ns => by
    have ih := canLay_ints ns
    simp only [dI, List.map_cons, PyData.canLayAll0, PyData.canLay0, Bool.true_and] at ih ⊢
    exact ih
theorem shaped_listI (ns : List Int) : SeqAt.shaped (.list (dI ns)) = true := by
  unfold SeqAt.shaped
  have h1 : PyData.canLay0 (.list (dI ns)) = true := by unfold PyData.canLay0; exact canLay_ints ns
  have h2 : PyData.depth (.list (dI ns)) ≤ 64 := by show PyData.depthAll (dI ns) + 1 ≤ 64; rw [depthAll_ints]; decide
  rw [h1, decide_eq_true h2]
  rfl
theorem dI_mem {ns : List Int} {d : PyData} (h : d ∈ dI ns) : ∃ n ∈ ns, d = .int n := by
  obtain ⟨n, hn, e⟩ := List.mem_map.mp h
  exact ⟨n, hn, e.symm⟩
theorem showableAll_of {ds : List PyData} (h : ∀ d ∈ ds, d.showable = true) : PyData.showableAll ds = true := by
  induction ds with
  | nil => rfl
  | cons d ds ih =>
    show (d.showable && PyData.showableAll ds) = true
    rw [h d List.mem_cons_self, ih fun x hx => h x (List.mem_cons_of_mem _ hx)]
    rfl
theorem hasDictAll_of {ds : List PyData} (h : ∀ d ∈ ds, d.hasDict = false) : PyData.hasDictAll ds = false := by
  induction ds with
  | nil => rfl
  | cons d ds ih =>
    show (d.hasDict || PyData.hasDictAll ds) = false
    rw [h d List.mem_cons_self, ih fun x hx => h x (List.mem_cons_of_mem _ hx)]
    rfl
theorem depthAll_le {ds : List PyData} {m : Nat} (h : ∀ d ∈ ds, d.depth ≤ m) : PyData.depthAll ds ≤ m := by
  induction ds with
  | nil => exact Nat.zero_le _
  | cons d ds ih =>
    show max d.depth (PyData.depthAll ds) ≤ m
    exact Nat.max_le.mpr ⟨h d List.mem_cons_self, ih fun x hx => h x (List.mem_cons_of_mem _ hx)⟩
/-- what repr asks of a datum: to show it takes at most m signs, depth at most k -/
structure Shows (d : PyData) (k m : Nat) : Prop where
  s : d.showable = true
  n : d.hasDict = false
  k : d.depth ≤ k
  z : d.shown.length ≤ m
theorem shows_int {i : Int} {k : Nat} (hk : 0 < k) (hk2 : k ≤ 250) (h0 : 0 ≤ i) (h : i < 10 ^ k) : Shows (.int i) 0 k := by
  refine ⟨?_, rfl, Nat.le_refl _, int_shown hk h0 h⟩
  show decide (i.natAbs.log2 < 1920) = true
  have h1 : i.natAbs < 10 ^ k := by
    have e : ((i.natAbs : Nat) : Int) < ((10 ^ k : Nat) : Int) := by
      rw [Int.natAbs_of_nonneg h0, Int.natCast_pow]
      exact h
    exact Int.ofNat_lt.mp e
  have h2 : (10 : Nat) ^ k ≤ 10 ^ 250 := Nat.pow_le_pow_right (by decide) hk2
  have h3 : i.natAbs < 2 ^ 1920 := Nat.lt_of_lt_of_le (Nat.lt_of_lt_of_le h1 h2) (by decide)
  exact decide_eq_true (PySem.Flt.log2_lt_of (by decide) h3)
theorem shows_none : Shows .none 0 4 := ⟨rfl, rfl, Nat.le_refl _, by decide⟩
theorem shows_list {ds : List PyData} {k m n : Nat} (h : ∀ d ∈ ds, Shows d k m) (hl : ds.length ≤ n) : Shows (.list ds) (k + 1) (n * (m + 2) + 2) := by
  refine ⟨showableAll_of fun d hd => (h d hd).s, hasDictAll_of fun d hd => (h d hd).n, Nat.succ_le_succ (depthAll_le fun d hd => (h d hd).k), ?_⟩
  exact Nat.le_trans (list_shown fun d hd => (h d hd).z) (Nat.add_le_add_right (Nat.mul_le_mul_right _ hl) _)
theorem shows_tup {ds : List PyData} {k m n : Nat} (h : ∀ d ∈ ds, Shows d k m) (hl : ds.length ≤ n) : Shows (.tuple ds) (k + 1) (n * (m + 2) + 3) := by
  refine ⟨showableAll_of fun d hd => (h d hd).s, hasDictAll_of fun d hd => (h d hd).n, Nat.succ_le_succ (depthAll_le fun d hd => (h d hd).k), ?_⟩
  exact Nat.le_trans (tuple_shown fun d hd => (h d hd).z) (Nat.add_le_add_right (Nat.mul_le_mul_right _ hl) _)
theorem r_repr {K : PySem.W.Frag} {H : Hp} {Q : VK} {x : V} {d : PyData} {k m : Nat} (h : Dp K H x d) (s : Shows d k m) (hk : k ≤ 32) (hm : m ≤ 1000000) (q : Q (.str d.shown) H) : rRepr K [x] H Q :=
  ⟨x, d, rfl, h, s.s, s.n, Nat.le_trans s.k hk, Nat.le_trans s.z (Nat.le_trans hm (by decide)), q⟩
theorem r_sortSq {K : PySem.W.Frag} {H : Hp} {Q : VK} {a : Addr} {ns : List Int} (h : Sq H a (vI ns)) (q : ∀ (ns' : List Int) (p : Addr), ns'.Perm ns → ns'.Pairwise (· ≤ ·) → H p = none → Q (.ref p) (upd H p (.lst (vI ns')))) :
    cOr (rSortedI K) (rSortedU K) [.ref a] H Q := h.elim (fun h => .inl ⟨a, ns, rfl, lst_of h, q⟩) fun h => .inr ⟨a, ns, rfl, tup_of h, q⟩
theorem r_neLI {K : PySem.W.Frag} {H : Hp} {Q : VK} {a b : Addr} {xs ys : List Int} (h : SqL K H a (vI xs)) (h' : SqL K H b (vI ys)) (q : Q (.bl (!decide (xs = ys))) H) : rNeD K (.ref a) (.ref b) H Q := by
  refine ⟨_, _, dp_listI h, dp_listI h', shaped_listI xs, shaped_listI ys, ?_⟩
  rw [eqv_listI]
  exact q
theorem r_eqLI {K : PySem.W.Frag} {H : Hp} {Q : VK} {a b : Addr} {xs ys : List Int} (h : SqL K H a (vI xs)) (h' : SqL K H b (vI ys)) (q : Q (.bl (decide (xs = ys))) H) : rEqD K (.ref a) (.ref b) H Q := by
  refine ⟨_, _, dp_listI h, dp_listI h', shaped_listI xs, shaped_listI ys, ?_⟩
  rw [eqv_listI]
  exact q
theorem r_rep {H : Hp} {Q : VK} {l : Addr} {xs : List V} {n : Nat} (h : H l = some (.lst xs)) (h1 : xs.length * n ≤ 100000) (h2 : n ≤ 100000) (q : ∀ p, H p = none → Q (.ref p) (upd H p (.lst (List.replicate n xs).flatten))) : rRep (.ref l) (.int ((n : Nat) : Int)) H Q := by
  refine ⟨l, _, xs, rfl, rfl, h, by omega, by omega, ?_, ?_⟩
  · rw [Int.toNat_natCast]; exact sz h1
  · rw [Int.toNat_natCast]; exact q
/-! ### in a list of ints -/
theorem inV_ints (p : Int) (ns : List Int) : inV (.int p) (vI ns) = decide (p ∈ ns) := by
  unfold inV vI
  rw [List.any_map]
  induction ns with
  | nil => simp
  | cons n ns ih =>
    rw [List.any_cons, ih]
    have e : ((fun y => eqV y (V.int p)) ∘ V.int) n = decide (n = p) := by
      show eqV (.int n) (.int p) = _
      by_cases h : n = p <;> simp [eqV, h]
    rw [e]
    by_cases h : n = p
    · subst h; simp
    · have h' : ¬ p = n := fun z => h z.symm
      simp [h, h']
theorem flat_ints (ns : List Int) : (vI ns).all flatV = true := by
  unfold vI
  rw [List.all_map]
  exact List.all_eq_true.mpr fun x _ => rfl
theorem ixN_ok {n : Nat} {i : Int} (h0 : 0 ≤ i) (h1 : i < n) : ixN n i = some i.toNat := by
  unfold ixN
  rw [if_pos h0, if_pos h1]
theorem atI_ok {α : Type} {xs : List α} {i : Int} {v : α} (h0 : 0 ≤ i) (h : xs[i.toNat]? = some v) : atI xs i = some v := by
  have e : i = ((i.toNat : Nat) : Int) := (Int.toNat_of_nonneg h0).symm
  rw [e]
  exact atI_nat h
theorem vI_at {ns : List Int} {j : Nat} (h : j < ns.length) : (vI ns)[j]? = some (.int ns[j]) := by
  unfold vI
  rw [List.getElem?_map, List.getElem?_eq_getElem h]
  rfl
theorem atI_ints {ns : List Int} {i : Int} (h0 : 0 ≤ i) (h1 : i < ns.length) : atI (vI ns) i = some (.int (ns.getD i.toNat 0)) := by
  have hj : i.toNat < ns.length := by omega
  refine atI_ok h0 ?_
  rw [vI_at hj, List.getD_eq_getElem?_getD, List.getElem?_eq_getElem hj]
  rfl
end Lx

namespace Lx
open PySem PySem.Spec PyProof.Rows L2
/-! ### isinstance -/
section
variable {K : PySem.W.Frag} {H : Hp} {Q : VK} {a tp : Addr} {xs : List V} {i : Int} {z : Str} {b : Bool}
theorem isi_of {x : V} {t T : String} {b : Bool} (ty : TyX K H x (.type t)) (e : kitB t T = some b) (q : Q (.bl b) H) : rIsi K [x, .ty T] H Q := ⟨x, .ty T, .type t, .type T, b, rfl, .ty T, ty, kit_ty e, q⟩
theorem k_ii : kitB "int" "int" = some true := by decide +kernel
theorem k_ib : kitB "int" "bool" = some false := by decide +kernel
theorem k_is : kitB "int" "str" = some false := by decide +kernel
theorem k_il : kitB "int" "list" = some false := by decide +kernel
theorem k_it : kitB "int" "tuple" = some false := by decide +kernel
theorem k_bi : kitB "bool" "int" = some true := by decide +kernel
theorem k_bb : kitB "bool" "bool" = some true := by decide +kernel
theorem k_bs : kitB "bool" "str" = some false := by decide +kernel
theorem k_bl : kitB "bool" "list" = some false := by decide +kernel
theorem k_bt : kitB "bool" "tuple" = some false := by decide +kernel
theorem k_si : kitB "str" "int" = some false := by decide +kernel
theorem k_sb : kitB "str" "bool" = some false := by decide +kernel
theorem k_ss : kitB "str" "str" = some true := by decide +kernel
theorem k_sl : kitB "str" "list" = some false := by decide +kernel
theorem k_st : kitB "str" "tuple" = some false := by decide +kernel
theorem k_ni : kitB "NoneType" "int" = some false := by decide +kernel
theorem k_nb : kitB "NoneType" "bool" = some false := by decide +kernel
theorem k_ns : kitB "NoneType" "str" = some false := by decide +kernel
theorem k_nl : kitB "NoneType" "list" = some false := by decide +kernel
theorem k_nt : kitB "NoneType" "tuple" = some false := by decide +kernel
theorem k_li : kitB "list" "int" = some false := by decide +kernel
theorem k_lb : kitB "list" "bool" = some false := by decide +kernel
theorem k_ls : kitB "list" "str" = some false := by decide +kernel
theorem k_ll : kitB "list" "list" = some true := by decide +kernel
theorem k_lt : kitB "list" "tuple" = some false := by decide +kernel
theorem k_ti : kitB "tuple" "int" = some false := by decide +kernel
theorem k_tb : kitB "tuple" "bool" = some false := by decide +kernel
theorem k_ts : kitB "tuple" "str" = some false := by decide +kernel
theorem k_tl : kitB "tuple" "list" = some false := by decide +kernel
theorem k_tt : kitB "tuple" "tuple" = some true := by decide +kernel
theorem ty_int : TyX K H (.int i) (.type "int") := .base (.int i)
theorem ty_bl : TyX K H (.bl b) (.type "bool") := .base (.bl b)
theorem ty_str : TyX K H (.str z) (.type "str") := .base (.str z)
theorem ty_non : TyX K H .non (.type "NoneType") := .base .non
theorem ty_lst (h : H a = some (.lst xs)) : TyX K H (.ref a) (.type "list") := .base (.lst h)
theorem ty_tup (h : H a = some (.tup xs)) : TyX K H (.ref a) (.type "tuple") := .base (.tup h)
/-- isinstance(x, (list, tuple)), the pair just laid -/
theorem isiLT {x : V} {t : String} {b1 b2 : Bool} (hT : H tp = some (.tup [.ty "list", .ty "tuple"])) (ty : TyX K H x (.type t)) (e1 : kitB t "list" = some b1) (e2 : kitB t "tuple" = some b2) (q : Q (.bl (b1 || b2)) H) : rIsiT K [x, .ref tp] H Q := by
  refine ⟨x, tp, _, .type t, [.type "list", .type "tuple"], b1 || b2, rfl, hT, .cons (.ty _) (.cons (.ty _) .nil), ty, kitAny_cons (kit_ty e1) (fun h1 => ?_) (fun h1 => by rw [h1]; rfl), q⟩
  refine kitAny_cons (kit_ty e2) (fun h2 => ?_) (fun h2 => by rw [h1, h2]; rfl)
  rw [h1, h2]
  exact kitAny_nil
theorem isiLT_l {x : V} {t : String} (hT : H tp = some (.tup [.ty "list", .ty "tuple"])) (ty : TyX K H x (.type t)) (e1 : kitB t "list" = some true) (e2 : kitB t "tuple" = some false) (q : Q (.bl true) H) : rIsiT K [x, .ref tp] H Q := isiLT hT ty e1 e2 q
theorem isiLT_t {x : V} {t : String} (hT : H tp = some (.tup [.ty "list", .ty "tuple"])) (ty : TyX K H x (.type t)) (e1 : kitB t "list" = some false) (e2 : kitB t "tuple" = some true) (q : Q (.bl true) H) : rIsiT K [x, .ref tp] H Q := isiLT hT ty e1 e2 q
theorem isiLT_o {x : V} {t : String} (hT : H tp = some (.tup [.ty "list", .ty "tuple"])) (ty : TyX K H x (.type t)) (e1 : kitB t "list" = some false) (e2 : kitB t "tuple" = some false) (q : Q (.bl false) H) : rIsiT K [x, .ref tp] H Q := isiLT hT ty e1 e2 q
end
theorem ifnT {A B : Prop} (h : B) : if (!true) = true then A else B := iteF h
theorem ifnF {A B : Prop} (h : A) : if (!false) = true then A else B := iteT h
end Lx

namespace Lx
open PySem PySem.Spec PyProof.Rows L2
/-- what an iterator gives: n turns while OK holds; item says what a turn yields -/
structure Src (J : It) (n : Nat) (OK : Hp → Prop) (item : Nat → V → Hp → Hp → Prop) : Prop where
  go : ∀ i H, OK H → i < n → J.go i H
  stop : ∀ H, OK H → J.stop n H
  yld : ∀ i H v H', OK H → i < n → J.yld i H v H' → item i v H H'
section
variable {K : PySem.W.Frag} {a b : Addr} {xs ys : List V}
theorem src_list : Src (Itl K a) xs.length (fun H => SqL K H a xs) (fun i v H H' => H' = H ∧ xs[i]? = some v) where
  go := fun i H h hi => ⟨xs, xs[i], h, by simp [hi]⟩
  stop := fun H h => ⟨xs, h, Nat.le_refl _⟩
  yld := fun i H v H' h _ y => ⟨y.1, y.2 xs h⟩
theorem src_tup : Src (Itt K a) xs.length (fun H => SqT K H a xs) (fun i v H H' => H' = H ∧ xs[i]? = some v) where
  go := fun i H h hi => ⟨xs, xs[i], h, by simp [hi]⟩
  stop := fun H h => ⟨xs, h, Nat.le_refl _⟩
  yld := fun i H v H' h _ y => ⟨y.1, y.2 xs h⟩
theorem src_range {lo : Int} {n : Nat} : Src (Itr lo n) n (fun _ => True) (fun i v H H' => H' = H ∧ v = .int (lo + i)) where
  go := fun i H _ hi => hi
  stop := fun H _ => Nat.le_refl n
  yld := fun i H v H' _ _ y => y
theorem src_step {lo c : Int} {n : Nat} : Src (Itc lo c n) n (fun _ => True) (fun i v H H' => H' = H ∧ v = .int (lo + (i : Nat) * c)) where
  go := fun i H _ hi => hi
  stop := fun H _ => Nat.le_refl n
  yld := fun i H v H' _ _ y => y
theorem src_enum : Src (Ite K a) xs.length (fun H => SqL K H a xs) (fun i v H H' => ∃ T x, v = .ref T ∧ H T = none ∧ H' = upd H T (.tup [.int (i : Nat), x]) ∧ xs[i]? = some x) where
  go := fun i H h hi => ⟨xs, xs[i], h, by simp [hi]⟩
  stop := fun H h => ⟨xs, h, Nat.le_refl _⟩
  yld := fun i H v H' h _ y => by
    obtain ⟨T, x, e, n, u, f⟩ := y
    exact ⟨T, x, e, n, u, f xs h⟩
theorem src_zip (hl : xs.length = ys.length) : Src (Itz K a b) xs.length (fun H => SqL K H a xs ∧ SqL K H b ys) (fun i v H H' => ∃ T x y, v = .ref T ∧ H T = none ∧ H' = upd H T (.tup [x, y]) ∧ xs[i]? = some x ∧ ys[i]? = some y) where
  go := fun i H h hi => ⟨xs, ys, xs[i], ys[i]'(by omega), h.1, h.2, by simp [hi], List.getElem?_eq_getElem (by omega)⟩
  stop := fun H h => ⟨xs, ys, h.1, h.2, .inl (Nat.le_refl _)⟩
  yld := fun i H v H' h _ y => by
    obtain ⟨T, x, z, e, n, u, f, g⟩ := y
    exact ⟨T, x, z, e, n, u, f xs h.1, g ys h.2⟩
theorem src_rev : Src (Itv K a xs.length) xs.length (fun H => SqL K H a xs) (fun i v H H' => H' = H ∧ xs[xs.length - 1 - i]? = some v) where
  go := fun i H h hi => ⟨hi, xs, xs[xs.length - 1 - i]'(by omega), h, List.getElem?_eq_getElem (by omega)⟩
  stop := fun H h => Nat.le_refl xs.length
  yld := fun i H v H' h _ y => ⟨y.1, y.2 xs h⟩
theorem src_str {x : Str} : Src (Its x) x.cps.size (fun _ => True) (fun i v H H' => H' = H ∧ ∃ c, x.cps[i]? = some c ∧ v = .str ⟨#[c]⟩) where
  go := fun i H _ hi => hi
  stop := fun H _ => Nat.le_refl x.cps.size
  yld := fun i H v H' _ _ y => y
end
section
variable {J : It} {n : Nat} {OK : Hp → Prop} {item : Nat → V → Hp → Hp → Prop} {g : TG} {tb : TS} {D : Ends} {σ : L2.St} {H : Hp}
/-- for, by a word over the turn, the slots, the heap -/
theorem for_src (S : Src J n OK item) (Pv : Nat → L2.St → Hp → Prop) (ok : ∀ i σ H, Pv i σ H → OK H) (h0 : Pv 0 σ H)
    (hs : ∀ i v σ H H', i < n → Pv i σ H → item i v H H' → g v σ H' fun σ2 H2 => tb { D with nx := Pv (i + 1), ct := Pv (i + 1), bk := D.nx } σ2 H2) (hd : ∀ σ H, Pv n σ H → D.nx σ H) :
    ∃ W : Nat → Nat → L2.St → Hp → Prop, (∃ m, W 0 m σ H) ∧ ∀ i m σ H, W i m σ H →
      (J.stop i H ∧ D.nx σ H) ∨ (J.go i H ∧ ∃ N : L2.St → Hp → Prop, (∀ σ' H', N σ' H' → ∃ m', m' < m ∧ W (i + 1) m' σ' H') ∧ ∀ x H', J.yld i H x H' → g x σ H' fun σ2 H2 => tb { D with nx := N, ct := N, bk := D.nx } σ2 H2) := by
  refine ⟨fun i m σ H => i + m = n ∧ Pv i σ H, ⟨n, Nat.zero_add n, h0⟩, ?_⟩
  rintro i m σ H ⟨e, p⟩
  have o := ok i σ H p
  by_cases hi : i < n
  · refine .inr ⟨S.go i H o hi, Pv (i + 1), ?_, ?_⟩
    · intro σ' H' p'
      exact ⟨m - 1, by omega, by omega, p'⟩
    · intro x H' y
      exact hs i x σ H H' hi p (S.yld i H x H' o hi y)
  · have ei : i = n := by omega
    subst ei
    exact .inl ⟨S.stop H o, hd σ H p⟩
variable {tt : TT} {te : TE} {vs : List Nat} {H1 : Hp} {Dl : Addr} {Qd : Hp → Prop}
/-- a comprehension, by a word over the turn and the heap -/
theorem lc_src (S : Src J n OK item) (Pv : Nat → Hp → Prop) (ok : ∀ i H, Pv i H → OK H) (h0 : Pv 0 (upd H1 Dl (.lst [])))
    (hs : ∀ i v H H', i < n → Pv i H → item i v H H' → g v (wipe σ vs) H' fun σ2 H2 => wipe σ2 vs = wipe σ vs ∧ tt σ2 H2 fun b H3 =>
      if b = true then te σ2 H3 fun y H4 => ∃ acc, H4 Dl = some (.lst acc) ∧ acc.length < sizeLine ∧ Pv (i + 1) (upd H4 Dl (.lst (acc ++ [y]))) else Pv (i + 1) H3) (hd : ∀ H, Pv n H → Qd H) :
    ∃ W : Nat → Nat → Hp → Prop, (∃ m, W 0 m (upd H1 Dl (.lst []))) ∧ ∀ i m H, W i m H →
      (J.stop i H ∧ Qd H) ∨ (J.go i H ∧ ∃ Nx : Hp → Prop, (∀ H', Nx H' → ∃ m', m' < m ∧ W (i + 1) m' H') ∧ ∀ x H', J.yld i H x H' → g x (wipe σ vs) H' fun σ2 H2 => wipe σ2 vs = wipe σ vs ∧ tt σ2 H2 fun b H3 =>
        if b = true then te σ2 H3 fun y H4 => ∃ acc, H4 Dl = some (.lst acc) ∧ acc.length < sizeLine ∧ Nx (upd H4 Dl (.lst (acc ++ [y]))) else Nx H3) := by
  refine ⟨fun i m H => i + m = n ∧ Pv i H, ⟨n, Nat.zero_add n, h0⟩, ?_⟩
  rintro i m H ⟨e, p⟩
  have o := ok i H p
  by_cases hi : i < n
  · refine .inr ⟨S.go i H o hi, Pv (i + 1), ?_, ?_⟩
    · intro H' p'
      exact ⟨m - 1, by omega, by omega, p'⟩
    · intro x H' y
      exact hs i x H H' hi p (S.yld i H x H' o hi y)
  · have ei : i = n := by omega
    subst ei
    exact .inl ⟨S.stop H o, hd H p⟩
/-- what the turns give: those of f, each v -/
def giv (n : Nat) (f : Nat → Bool) (v : Nat → V) : List V := ((List.range n).filter f).map v
theorem giv_yes {n : Nat} {f : Nat → Bool} {v : Nat → V} (h : f n = true) : giv (n + 1) f v = giv n f v ++ [v n] := by
  unfold giv
  rw [List.range_succ, List.filter_append, List.map_append]
  simp [h]
theorem giv_no {n : Nat} {f : Nat → Bool} {v : Nat → V} (h : f n = false) : giv (n + 1) f v = giv n f v := by
  unfold giv
  rw [List.range_succ, List.filter_append, List.map_append]
  simp [h]
theorem giv_len (n : Nat) (f : Nat → Bool) (v : Nat → V) : (giv n f v).length ≤ n := by
  unfold giv
  rw [List.length_map]
  exact Nat.le_trans (List.length_filter_le f (List.range n)) (by simp)
theorem giv_all (n : Nat) (v : Nat → V) : giv n (fun _ => true) v = (List.range n).map v := by
  unfold giv
  rw [List.filter_eq_self.mpr fun _ _ => rfl]
theorem giv_const (n : Nat) (x : V) : giv n (fun _ => true) (fun _ => x) = List.replicate n x := by
  rw [giv_all, List.map_const', List.length_range]
/-- a comprehension whose turns leave what stood as it was -/
theorem lc_pure (S : Src J n OK item) (p : Nat → Bool) (v : Nat → V) (hn : n ≤ 100000) (hok : ∀ H', Same H1 H' → OK H')
    (hs : ∀ i x H' H'' (Yes : V → Hp → Prop) (No : Hp → Prop), i < n → Same H1 H' → item i x H' H'' → (p i = true → ∀ H4, Same H' H4 → Yes (v i) H4) → (p i = false → ∀ H3, Same H' H3 → No H3) →
      g x (wipe σ vs) H'' fun σ2 H2 => wipe σ2 vs = wipe σ vs ∧ tt σ2 H2 fun b H3 => if b = true then te σ2 H3 Yes else No H3)
    (hD : H1 Dl = none) (q : ∀ H', Same H1 H' → H' Dl = some (.lst (giv n p v)) → Qd H') :
    ∃ W : Nat → Nat → Hp → Prop, (∃ m, W 0 m (upd H1 Dl (.lst []))) ∧ ∀ i m H, W i m H →
      (J.stop i H ∧ Qd H) ∨ (J.go i H ∧ ∃ Nx : Hp → Prop, (∀ H', Nx H' → ∃ m', m' < m ∧ W (i + 1) m' H') ∧ ∀ x H', J.yld i H x H' → g x (wipe σ vs) H' fun σ2 H2 => wipe σ2 vs = wipe σ vs ∧ tt σ2 H2 fun b H3 =>
        if b = true then te σ2 H3 fun y H4 => ∃ acc, H4 Dl = some (.lst acc) ∧ acc.length < sizeLine ∧ Nx (upd H4 Dl (.lst (acc ++ [y]))) else Nx H3) := by
  refine lc_src S (fun i H' => Same H1 H' ∧ H' Dl = some (.lst (giv i p v))) (fun i H' h => hok H' h.1) ⟨same_new hD, upd_same⟩ ?_ (fun H' h => q H' h.1 h.2)
  rintro i x H' H'' hi ⟨s, hl⟩ hit
  refine hs i x H' H'' _ _ hi s hit ?_ ?_
  · intro hp H4 s4
    refine ⟨giv i p v, s4 _ _ hl, ?_, same_set (s.trans s4) hD, ?_⟩
    · exact Nat.lt_of_le_of_lt (Nat.le_trans (giv_len i p v) (Nat.le_of_lt (Nat.lt_of_lt_of_le hi hn))) (by decide)
    · rw [giv_yes hp]; exact upd_same
  · intro hp H3 s3
    refine ⟨s.trans s3, ?_⟩
    rw [giv_no hp]
    exact s3 _ _ hl
end
/-! ### the shapes of loops' readings -/
section
variable {σ : L2.St} {H : Hp} {D : Ends} {K : PySem.W.Frag} {R : It → Hp → Prop} {tl : TE} {ta : TA}
theorem r_for {wi : TI} {g : TG} {tb : TS} (h : wi σ H fun J H1 => ∃ W : Nat → Nat → L2.St → Hp → Prop, (∃ m, W 0 m σ H1) ∧ ∀ i m σ H, W i m σ H →
  (J.stop i H ∧ D.nx σ H) ∨ (J.go i H ∧ ∃ N : L2.St → Hp → Prop, (∀ σ' H', N σ' H' → ∃ m', m' < m ∧ W (i + 1) m' σ' H') ∧ ∀ x H', J.yld i H x H' → g x σ H' fun σ2 H2 => tb { D with nx := N, ct := N, bk := D.nx } σ2 H2)) : tFor wi g tb D σ H := h
theorem r_lc {wi : TI} {g : TG} {tt : TT} {te : TE} {vs : List Nat} {Q : VK} (h : wi σ H fun J H1 => ∀ D, H1 D = none → ∃ W : Nat → Nat → Hp → Prop, (∃ m, W 0 m (upd H1 D (.lst []))) ∧ ∀ i m H, W i m H →
  (J.stop i H ∧ Q (.ref D) H) ∨ (J.go i H ∧ ∃ Nx : Hp → Prop, (∀ H', Nx H' → ∃ m', m' < m ∧ W (i + 1) m' H') ∧ ∀ x H', J.yld i H x H' → g x (wipe σ vs) H' fun σ2 H2 => wipe σ2 vs = wipe σ vs ∧ tt σ2 H2 fun b H3 =>
    if b = true then te σ2 H3 fun y H4 => ∃ acc, H4 D = some (.lst acc) ∧ acc.length < sizeLine ∧ Nx (upd H4 D (.lst (acc ++ [y]))) else Nx H3)) : tLc wi g tt te vs σ H Q := h
theorem r_yes {B : Bool → Hp → Prop} (h : B true H) : tYes σ H B := h
theorem r_iList (h : tl σ H fun x H1 => ∃ a, x = .ref a ∧ (∃ xs, SqL K H1 a xs) ∧ R (Itl K a) H1) : iList K tl σ H R := h
theorem r_iTup (h : tl σ H fun x H1 => ∃ a, x = .ref a ∧ (∃ xs, SqT K H1 a xs) ∧ R (Itt K a) H1) : iTup K tl σ H R := h
theorem r_iRng1 (h : ta σ H fun vs H1 => ∃ j : Int, vs = [.int j] ∧ -(2 ^ 62) ≤ j ∧ j < 2 ^ 62 ∧ R (Itr 0 j.toNat) H1) : iRng1 ta σ H R := h
theorem r_iRng2 (h : ta σ H fun vs H1 => ∃ i j : Int, vs = [.int i, .int j] ∧ (-(2 ^ 62) ≤ i ∧ i < 2 ^ 62 ∧ -(2 ^ 62) ≤ j ∧ j < 2 ^ 62) ∧ R (Itr i (j - i).toNat) H1) : iRng2 ta σ H R := h
theorem r_iRng3 (h : ta σ H fun vs H1 => ∃ (i j c : Int) (n : Nat), vs = [.int i, .int j, .int c] ∧ RgC i j c n ∧ R (Itc i c n) H1) : iRng3 ta σ H R := h
theorem r_iEnum (h : ta σ H fun vs H1 => ∃ a xs, vs = [.ref a] ∧ SqL K H1 a xs ∧ R (Ite K a) H1) : iEnum K ta σ H R := h
theorem r_iZip (h : ta σ H fun vs H1 => ∃ a b xs ys, vs = [.ref a, .ref b] ∧ SqL K H1 a xs ∧ SqL K H1 b ys ∧ R (Itz K a b) H1) : iZip K ta σ H R := h
theorem r_iStr (h : tl σ H fun v H1 => ∃ x, v = .str x ∧ R (Its x) H1) : iStr tl σ H R := h
theorem i_list {a : Addr} {xs : List V} {P : It → Prop} (h : SqL K H a xs) (q : P (Itl K a)) : ∃ a', V.ref a = .ref a' ∧ (∃ xs, SqL K H a' xs) ∧ P (Itl K a') := ⟨a, rfl, ⟨xs, h⟩, q⟩
theorem i_tup {a : Addr} {xs : List V} {P : It → Prop} (h : SqT K H a xs) (q : P (Itt K a)) : ∃ a', V.ref a = .ref a' ∧ (∃ xs, SqT K H a' xs) ∧ P (Itt K a') := ⟨a, rfl, ⟨xs, h⟩, q⟩
theorem i_rng1 {j : Int} {P : It → Prop} (h0 : -(2 ^ 62) ≤ j) (h1 : j < 2 ^ 62) (q : P (Itr 0 j.toNat)) : ∃ j' : Int, [V.int j] = [.int j'] ∧ -(2 ^ 62) ≤ j' ∧ j' < 2 ^ 62 ∧ P (Itr 0 j'.toNat) := ⟨j, rfl, h0, h1, q⟩
theorem r_wN {tb : TS} {I : Nat → L2.St → Hp → Prop} {m : Nat} (h : tb { D with nx := fun σ' H' => ∃ m', m' < m ∧ I m' σ' H', ct := fun σ' H' => ∃ m', m' < m ∧ I m' σ' H', bk := D.nx } σ H) :
    ∃ N : L2.St → Hp → Prop, (∀ σ' H', N σ' H' → ∃ m', m' < m ∧ I m' σ' H') ∧ tb { D with nx := N, ct := N, bk := D.nx } σ H := ⟨_, fun _ _ h => h, h⟩
end
end Lx

/-! the layer's rules with the written part named (within a comprehension's block a reading must not hang on the block) -/
namespace Lx
open PySem PySem.Spec PyProof.Rows L2
section
variable (K : PySem.W.Frag) {X : Cx}
theorem k_len (h : X.K = K := by rfl) : CallR X (.builtin "len") (rLen K) := h ▸ call_len'
theorem k_list (h : X.K = K := by rfl) : CallR X (.type "list") (rListOf K) := h ▸ call_list'
theorem k_tuple (h : X.K = K := by rfl) : CallR X (.type "tuple") (rTupleOf K) := h ▸ call_tuple'
theorem k_isi (h : X.K = K := by rfl) : CallR X (.builtin "isinstance") (rIsi K) := h ▸ call_isi
theorem k_isiT (h : X.K = K := by rfl) : CallR X (.builtin "isinstance") (rIsiT K) := h ▸ call_isiT
theorem k_all (h : X.K = K := by rfl) (hc : X.calm = true := by rfl) : CallR X (.builtin "all") (rAll K) := h ▸ cr_all hc
theorem k_any (h : X.K = K := by rfl) (hc : X.calm = true := by rfl) : CallR X (.builtin "any") (rAny K) := h ▸ cr_any hc
theorem k_sum (h : X.K = K := by rfl) (hc : X.calm = true := by rfl) : CallR X (.builtin "sum") (rSum K) := h ▸ cr_sum hc
theorem k_min (h : X.K = K := by rfl) (hc : X.calm = true := by rfl) : CallR X (.builtin "min") (rMin K) := h ▸ cr_min hc
theorem k_max (h : X.K = K := by rfl) (hc : X.calm = true := by rfl) : CallR X (.builtin "max") (rMax K) := h ▸ cr_max hc
theorem k_sorted (h : X.K = K := by rfl) : CallR X (.builtin "sorted") (rSortedI K) := h ▸ cr_sortedI
theorem k_sortedU (h : X.K = K := by rfl) : CallR X (.builtin "sorted") (rSortedU K) := h ▸ cr_sortedU
theorem k_repr (hG : X.A.guards = some []) (hu : X.A.units + 64 < cLine) (h : X.K = K := by rfl) : CallR X (.builtin "repr") (rRepr K) := h ▸ call_reprD hG hu
theorem k_ixL (h : X.K = K := by rfl) : IxR X (rIxL K) := h ▸ ix_list
theorem k_ixT (h : X.K = K := by rfl) : IxR X (rIxT K) := h ▸ ix_tup
theorem k_slL (h : X.K = K := by rfl) : SlR X (rSlL K) := h ▸ sl_list
theorem k_slT (h : X.K = K := by rfl) : SlR X (rSlA K) := h ▸ sl_tupA
theorem k_in (h : X.K = K := by rfl) : OpR X (compareOp .In) (rIn K false) := h ▸ op_in_seq
theorem k_notIn (h : X.K = K := by rfl) : OpR X (compareOp .NotIn) (rIn K true) := h ▸ op_notIn_seq
theorem k_eqD (hu : X.A.units + 64 < cLine) (h : X.K = K := by rfl) : OpR X (compareOp .Eq) (rEqD K) := h ▸ op_eqD hu
theorem k_neD (hu : X.A.units + 64 < cLine) (h : X.K = K := by rfl) : OpR X (compareOp .NotEq) (rNeD K) := h ▸ op_neD hu
theorem k_catT (h : X.K = K := by rfl) : OpR X (binaryOp .Add) (rCatT K) := h ▸ op_catT
theorem k_piL {tg l : Expr} {tl : TE} (hl : PE X l tl) (h : X.K = K := by rfl) : PI X tg l (iList K tl) := h ▸ pi_list hl
theorem k_piT {tg l : Expr} {tl : TE} (hl : PE X l tl) (h : X.K = K := by rfl) : PI X tg l (iTup K tl) := h ▸ pi_tup hl
theorem k_enum {e : Expr} {ta : TA} {p pos tpos : Pos} {elts : List Expr} {kk : Nat} (hg : Gl X "enumerate") (hm : X.mg "enumerate" = none) (ha : PA X [e] ta) (hs : starEach [e] X.env = [(false, eval e X.env)] := by rfl) (h : X.K = K := by rfl) :
    PI X (.Tuple elts kk tpos) (.Call (.Name "enumerate" p) [e] [] pos) (iEnum K ta) := h ▸ pi_enum hg hm ha hs
theorem k_zip {e e2 : Expr} {ta : TA} {p pos tpos : Pos} {elts : List Expr} {kk : Nat} (hg : Gl X "zip") (hm : X.mg "zip" = none) (ha : PA X [e, e2] ta)
    (hs : starEach [e, e2] X.env = (false, eval e X.env) :: starEach [e2] X.env := by rfl) (hpl : (backTo pos (starEach [e2] X.env)).any (·.1) = false := by rfl) (h : X.K = K := by rfl) :
    PI X (.Tuple elts kk tpos) (.Call (.Name "zip" p) [e, e2] [] pos) (iZip K ta) := h ▸ pi_zip hg hm ha hs hpl
theorem k_gtup {es : List Expr} {k : Nat} {t : TGs} {n : Nat} {pos : Pos} (hc : X.calm = true) (ht : PGs X es t) (hn : (assignEach es X.env).length = n := by rfl) (hst : (assignEach es X.env).findIdx? (·.1) = none := by rfl) (h : X.K = K := by rfl) :
    PG X (.Tuple es k pos) (gTup K n t) := h ▸ pg_tup hc ht hn hst
theorem k_gunl {es : List Expr} {k : Nat} {t : TGs} {n : Nat} {pos : Pos} (hc : X.calm = true) (ht : PGs X es t) (hn : (assignEach es X.env).length = n := by rfl) (hst : (assignEach es X.env).findIdx? (·.1) = none := by rfl) (h : X.K = K := by rfl) :
    PG X (.Tuple es k pos) (gUnl K n t) := h ▸ pg_unl hc ht hn hst
theorem k_rev {e : Expr} {te : TE} {k : Nat} {p1 p2 p3 pos : Pos} (he : PE X e te) (h : X.K = K := by rfl) : PE X (.Subscript e (.Slice none none (some (.UnaryOp .USub (.Constant (.int 1) k p1) p2)) p3) pos) (tRevL K te) := h ▸ pe_revL he
theorem k_fld {e : Expr} {ta : TE} {f : Str} {pos : Pos} (he : PE X e ta) (hb : attributeBase e f X.env (eval e X.env) = eval e X.env := by rfl) (h : X.K = K := by rfl) : PE X (.Attribute e f pos) (tFld K ta f) := h ▸ pe_fld he hb
theorem k_bm {T : String} {name : Str} {id : String} {r : V → List V → Hp → VK → Prop} {o e : Expr} {es : List Expr} {to : TE} {t : TA} {apos cpos : Pos} (pa : PlainAttrs T) (slot : Slot T name id) (hty : typeOf (.builtin id) = pure (.type "method_descriptor")) (hm : MtR X id r) (ho : PE X o to) (ha : PA X (e :: es) t)
    (p : PE X (.Call (.Attribute o name apos) (e :: es) [] cpos) (tBM X.K T r to t)) (h : X.K = K := by rfl) : PE X (.Call (.Attribute o name apos) (e :: es) [] cpos) (tBM K T r to t) := h ▸ p
theorem k_bmP {T : String} {r : V → List V → Hp → VK → Prop} {o : Expr} {to : TE} {t : TA} (p : PE X o (tBM X.K T r to t)) (h : X.K = K := by rfl) : PE X o (tBM K T r to t) := h ▸ p
theorem k_bm0P {T : String} {r : V → List V → Hp → VK → Prop} {o : Expr} {to : TE} (p : PE X o (tBM0 X.K T r to)) (h : X.K = K := by rfl) : PE X o (tBM0 K T r to) := h ▸ p
end
end Lx

namespace Lx
open PySem PySem.Spec PyProof.Rows L2
/-! ### data that stand told, each of their lists and tuples where G holds -/
mutual
inductive Tr (G : Addr → Prop) (H : Hp) : V → PyData → Prop
  | non : Tr G H .non .none
  | bl (b : Bool) : Tr G H (.bl b) (.bool b)
  | int (i : Int) : Tr G H (.int i) (.int i)
  | str (x : Str) : Tr G H (.str x) (.str x)
  | lst {a : Addr} {xs : List V} {ds : List PyData} : H a = some (.lst xs) → G a → xs.length ≤ 100000 → TrAll G H xs ds → Tr G H (.ref a) (.list ds)
  | tup {a : Addr} {xs : List V} {ds : List PyData} : H a = some (.tup xs) → G a → xs.length ≤ 100000 → TrAll G H xs ds → Tr G H (.ref a) (.tuple ds)
inductive TrAll (G : Addr → Prop) (H : Hp) : List V → List PyData → Prop
  | nil : TrAll G H [] []
  | cons {v : V} {vs : List V} {d : PyData} {ds : List PyData} : Tr G H v d → TrAll G H vs ds → TrAll G H (v :: vs) (d :: ds)
end
section
variable {K : PySem.W.Frag} {G G' : Addr → Prop} {H H' : Hp}
mutual
theorem Tr.dp : ∀ {v : V} {d : PyData}, Tr G H v d → Dp K H v d
  | _, _, .non => .non
  | _, _, .bl b => .bl b
  | _, _, .int i => .int i
  | _, _, .str x => .str x
  | _, _, .lst h _ _ t => .lst (lst_of h) t.dp
  | _, _, .tup h _ _ t => .tup (tup_of h) t.dp
theorem TrAll.dp : ∀ {v : List V} {d : List PyData}, TrAll G H v d → DpAll K H v d
  | _, _, .nil => .nil
  | _, _, .cons h t => .cons h.dp t.dp
end
mutual
theorem Tr.move (m : ∀ a o, G a → H a = some o → H' a = some o ∧ G' a) : ∀ {v : V} {d : PyData}, Tr G H v d → Tr G' H' v d
  | _, _, .non => .non
  | _, _, .bl b => .bl b
  | _, _, .int i => .int i
  | _, _, .str x => .str x
  | _, _, .lst h g l t => .lst (m _ _ g h).1 (m _ _ g h).2 l (t.move m)
  | _, _, .tup h g l t => .tup (m _ _ g h).1 (m _ _ g h).2 l (t.move m)
theorem TrAll.move (m : ∀ a o, G a → H a = some o → H' a = some o ∧ G' a) : ∀ {v : List V} {d : List PyData}, TrAll G H v d → TrAll G' H' v d
  | _, _, .nil => .nil
  | _, _, .cons h t => .cons (h.move m) (t.move m)
end
theorem Tr.same {v : V} {d : PyData} (h : Tr G H v d) (s : Same H H') : Tr G H' v d := h.move fun a o g e => ⟨s _ _ e, g⟩
theorem Tr.any {v : V} {d : PyData} (h : Tr G H v d) : Tr (fun _ => True) H v d := h.move fun a o g e => ⟨e, trivial⟩
theorem TrAll.same {v : List V} {d : List PyData} (h : TrAll G H v d) (s : Same H H') : TrAll G H' v d := h.move fun a o g e => ⟨s _ _ e, g⟩
theorem TrAll.len : ∀ {v : List V} {d : List PyData}, TrAll G H v d → v.length = d.length
  | _, _, .nil => rfl
  | _, _, .cons _ t => congrArg Nat.succ t.len
theorem TrAll.at : ∀ {vs : List V} {ds : List PyData}, TrAll G H vs ds → ∀ {i : Nat} {v : V}, vs[i]? = some v → ∃ d, ds[i]? = some d ∧ Tr G H v d
  | _, _, .nil, i, v, e => by simp at e
  | _, _, .cons h t, 0, v, e => by
    rw [List.getElem?_cons_zero] at e
    cases e
    exact ⟨_, rfl, h⟩
  | _, _, .cons h t, i + 1, v, e => by
    rw [List.getElem?_cons_succ] at e
    obtain ⟨d, e', z⟩ := t.at e
    exact ⟨d, by rw [List.getElem?_cons_succ]; exact e', z⟩
theorem TrAll.of : ∀ {vs : List V} {ds : List PyData}, vs.length = ds.length → (∀ (i : Nat) (v : V) (d : PyData), vs[i]? = some v → ds[i]? = some d → Tr G H v d) → TrAll G H vs ds
  | [], [], _, _ => .nil
  | v :: vs, d :: ds, e, h => .cons (h 0 v d rfl rfl) (TrAll.of (Nat.succ.inj e) fun i v d a b => h (i + 1) v d a b)
  | [], _ :: _, e, _ => by cases e
  | _ :: _, [], e, _ => by cases e
theorem TrAll.ints (ns : List Int) : TrAll G H (vI ns) (dI ns) := by
  induction ns with
  | nil => exact .nil
  | cons n ns ih => exact .cons (.int n) ih
end
theorem depth_mem {ds : List PyData} {d : PyData} (h : d ∈ ds) : d.depth ≤ PyData.depthAll ds := by
  induction ds with
  | nil => cases h
  | cons e ds ih =>
    show d.depth ≤ max e.depth (PyData.depthAll ds)
    rcases List.mem_cons.mp h with rfl | h
    · exact Nat.le_max_left _ _
    · exact Nat.le_trans (ih h) (Nat.le_max_right _ _)
/-! ### slices -/
theorem cut_lo {xs : List V} {k : Nat} : cutV xs (some ((k : Nat) : Int)) none = xs.drop k := by
  unfold cutV
  rw [HT.sIx_nat, HT.sIx_none]
  by_cases h : k ≤ xs.length
  · rw [Nat.min_eq_left h]
    exact List.take_of_length_le (by rw [List.length_drop]; exact Nat.le_refl _)
  · rw [Nat.min_eq_right (by omega), Nat.sub_self, List.take_zero, List.drop_eq_nil_of_le (by omega)]
theorem cut_hi {xs : List V} {k : Nat} : cutV xs none (some ((k : Nat) : Int)) = xs.take k := by
  unfold cutV
  rw [HT.sIx_nat, HT.sIx_none, List.drop_zero, Nat.sub_zero]
  by_cases h : k ≤ xs.length
  · rw [Nat.min_eq_left h]
  · rw [Nat.min_eq_right (by omega), List.take_length, List.take_of_length_le (by omega)]
theorem vI_drop (ns : List Int) (k : Nat) : (vI ns).drop k = vI (ns.drop k) := List.map_drop.symm
theorem vI_take (ns : List Int) (k : Nat) : (vI ns).take k = vI (ns.take k) := List.map_take.symm
theorem vI_app (a b : List Int) : vI a ++ vI b = vI (a ++ b) := List.map_append.symm
theorem vI_rev (a : List Int) : (vI a).reverse = vI a.reverse := List.map_reverse.symm
theorem vI_set (a : List Int) (n : Nat) (x : Int) : (vI a).set n (.int x) = vI (a.set n x) := List.map_set.symm
/-- a list of values that is a rearranged list of ints -/
theorem perm_vI {xs : List V} {ns : List Int} (h : xs.Perm (vI ns)) : ∃ ms : List Int, xs = vI ms ∧ ms.Perm ns := by
  have un : ∀ zs : List V, (∀ z ∈ zs, ∃ n : Int, z = .int n) → vI (zs.map fun z => match z with | .int n => n | _ => 0) = zs := by
    intro zs
    induction zs with
    | nil => intro _; rfl
    | cons z zs ih =>
      intro hz
      obtain ⟨n, rfl⟩ := hz z List.mem_cons_self
      have e := ih fun y hy => hz y (List.mem_cons_of_mem _ hy)
      show V.int n :: vI (zs.map _) = _
      rw [e]
  refine ⟨xs.map fun z => match z with | .int n => n | _ => 0, (un xs fun z hz => ?_).symm, ?_⟩
  · obtain ⟨n, _, e⟩ := List.mem_map.mp (h.mem_iff.mp hz)
    exact ⟨n, e.symm⟩
  · have p := h.map fun z : V => match z with | .int n => n | _ => 0
    have e : (vI ns).map (fun z : V => match z with | .int n => n | _ => 0) = ns := by
      unfold vI
      rw [List.map_map]
      exact List.map_id ns
    rw [e] at p
    exact p
theorem seq_ix {i : Int} {n : Nat} (h0 : 0 ≤ i) (h1 : i < n) : seqIndex? i n = some i.toNat := (ixN_seq (ixN_ok h0 h1)).1
theorem rgc_pos {j c : Int} (h0 : 0 ≤ j) (h1 : j < 2 ^ 40) (c0 : 1 ≤ c) (c1 : c < 1000000) : RgC 0 j c ((j + c - 1) / c).toNat := by
  have e := rangeSize_pos (len := j) (c := c) c0 h0
  have g0 : 0 ≤ (j + c - 1) / c := Int.ediv_nonneg (by omega) (by omega)
  have g2 : (j + c - 1) / c * c ≤ j + c - 1 := Int.ediv_mul_le _ (by omega)
  have g1 : (j + c - 1) / c ≤ j + c - 1 := by
    refine Int.le_trans ?_ g2
    have := Int.mul_le_mul_of_nonneg_left c0 g0
    rw [Int.mul_one] at this
    exact this
  refine ⟨by omega, by omega, ?_, by rw [e, Int.toNat_of_nonneg g0]⟩
  unfold Builtin.Range.small
  rw [e]
  simp only [Builtin.Range.rangeFitsLong, Bool.and_eq_true, Bool.or_eq_true, decide_eq_true_eq, beq_iff_eq, show c > 0 by omega, if_true]
  refine ⟨⟨⟨⟨by decide, by omega, by omega⟩, by omega, by omega⟩, by omega, by omega⟩, .inr ⟨by omega, by omega⟩⟩
/-! ### where ways join -/
section
variable {ts tu : TS} {R bk ct : L2.St → Hp → Prop} {rt : VK} {σ : L2.St} {H : Hp} {D : Ends}
theorem ifJ {c : Prop} [Decidable c] (J : L2.St → Hp → Prop) (h1 : ∀ R' : L2.St → Hp → Prop, (∀ σ H, J σ H → R' σ H) → c → ts ⟨R', rt, bk, ct⟩ σ H) (h2 : ∀ R' : L2.St → Hp → Prop, (∀ σ H, J σ H → R' σ H) → ¬ c → tu ⟨R', rt, bk, ct⟩ σ H) (hR : ∀ σ H, J σ H → R σ H) :
    if decide c = true then ts ⟨R, rt, bk, ct⟩ σ H else tu ⟨R, rt, bk, ct⟩ σ H := ifD (h1 R hR) (h2 R hR)
theorem seqJ (J : L2.St → Hp → Prop) (h1 : ∀ R' : L2.St → Hp → Prop, (∀ σ H, J σ H → R' σ H) → ts ⟨R', D.rt, D.bk, D.ct⟩ σ H) (hR : ∀ σ H, J σ H → tu D σ H) : tSeq ts tu D σ H := h1 _ hR
end
theorem r_ixLT {K : PySem.W.Frag} {H : Hp} {Q : VK} {v : V} {p : Addr} {xs : List V} {a : Int} (h : Sq H p xs) (e : atI xs a = some v) (q : Q v H) : oOr (rIxL K) (rIxT K) (.ref p) (.int a) H Q :=
  h.elim (fun h => .inl (r_ixL (lst_of h) e q)) fun h => .inr (r_ixT (tup_of h) e q)
/-! ### the same data, its lists and tuples dressed anew -/
mutual
inductive Drs : PyData → PyData → Prop
  | non : Drs .none .none
  | bl (b : Bool) : Drs (.bool b) (.bool b)
  | int (i : Int) : Drs (.int i) (.int i)
  | str (x : Str) : Drs (.str x) (.str x)
  | ll {ds es : List PyData} : DrsAll ds es → Drs (.list ds) (.list es)
  | lt {ds es : List PyData} : DrsAll ds es → Drs (.list ds) (.tuple es)
  | tl {ds es : List PyData} : DrsAll ds es → Drs (.tuple ds) (.list es)
  | tt {ds es : List PyData} : DrsAll ds es → Drs (.tuple ds) (.tuple es)
inductive DrsAll : List PyData → List PyData → Prop
  | nil : DrsAll [] []
  | cons {d e : PyData} {ds es : List PyData} : Drs d e → DrsAll ds es → DrsAll (d :: ds) (e :: es)
end
theorem DrsAll.snoc : ∀ {ds es : List PyData} {d e : PyData}, DrsAll ds es → Drs d e → DrsAll (ds ++ [d]) (es ++ [e])
  | _, _, _, _, .nil, h => .cons h .nil
  | _, _, _, _, .cons g t, h => .cons g (t.snoc h)
theorem DrsAll.len : ∀ {ds es : List PyData}, DrsAll ds es → ds.length = es.length
  | _, _, .nil => rfl
  | _, _, .cons _ t => congrArg Nat.succ t.len
theorem DrsAll.ints : ∀ {ns : List Int} {es : List PyData}, DrsAll (dI ns) es → es = dI ns
  | [], _, .nil => rfl
  | n :: ns, _, .cons h t => by
    cases h
    rw [t.ints]
    rfl
theorem Drs.ints {ns : List Int} {e : PyData} (h : Drs (.list (dI ns)) e) : e = .list (dI ns) ∨ e = .tuple (dI ns) := by
  cases h with
  | ll h => exact .inl (by rw [h.ints])
  | lt h => exact .inr (by rw [h.ints])
theorem TrAll.snoc {G : Addr → Prop} {H : Hp} : ∀ {vs : List V} {ds : List PyData} {v : V} {d : PyData}, TrAll G H vs ds → Tr G H v d → TrAll G H (vs ++ [v]) (ds ++ [d])
  | _, _, _, _, .nil, h => .cons h .nil
  | _, _, _, _, .cons g t, h => .cons g (t.snoc h)
theorem TrAll.val {G : Addr → Prop} {H : Hp} : ∀ {vs : List V} {ns : List Int}, TrAll G H vs (dI ns) → vs = vI ns
  | _, [], .nil => rfl
  | _, n :: ns, .cons h t => by
    cases h
    rw [t.val]
    rfl
theorem Tr.sq {G : Addr → Prop} {H : Hp} {v : V} {ns : List Int} {e : PyData} (h : Tr G H v e) (he : e = .list (dI ns) ∨ e = .tuple (dI ns)) : ∃ a, v = .ref a ∧ G a ∧ Sq H a (vI ns) := by
  rcases he with rfl | rfl
  · cases h with
    | lst h g _ t => rw [t.val] at h; exact ⟨_, rfl, g, .inl h⟩
  · cases h with
    | tup h g _ t => rw [t.val] at h; exact ⟨_, rfl, g, .inr h⟩
/-! ### texts -/
def rAddS : R2 := fun x y H Q => ∃ i j, x = .str i ∧ y = .str j ∧ i.length + j.length ≤ sizeLine ∧ Q (.str (i ++ j)) H
theorem op_addS {X : Cx} : OpR X (binaryOp .Add) rAddS := op_add_str
theorem r_addS {H : Hp} {Q : VK} {a b : Str} (h : a.length + b.length ≤ sizeLine) (q : Q (.str (a ++ b)) H) : rAddS (.str a) (.str b) H Q := ⟨a, b, rfl, rfl, h, q⟩
def rCountS : V → List V → Hp → VK → Prop := fun x xs H Q => ∃ a b, x = .str a ∧ xs = [.str b] ∧ Q (.int (Txt.count a b)) H
theorem mt_countS {X : Cx} : MtR X "str.count" rCountS := mt_count
theorem r_countS {H : Hp} {Q : VK} {a b : Str} (q : Q (.int (Txt.count a b)) H) : rCountS (.str a) [.str b] H Q := ⟨a, b, rfl, rfl, q⟩
theorem r_sortI {K : PySem.W.Frag} {H : Hp} {Q : VK} {a : Addr} {ns : List Int} (h : SqL K H a (vI ns)) (q : ∀ (ns' : List Int) (p : Addr), ns'.Perm ns → ns'.Pairwise (· ≤ ·) → H p = none → Q (.ref p) (upd H p (.lst (vI ns')))) : rSortedI K [.ref a] H Q := ⟨a, ns, rfl, h, q⟩
theorem r_popAt {H : Hp} {Q : VK} {l : Addr} {xs : List V} {i : Int} {y : V} (h : H l = some (.lst xs)) (i0 : 0 ≤ i) (i1 : i < xs.length) (hz : xs.length ≤ 100000) (hy : xs[i.toNat]? = some y) (q : Q y (upd H l (.lst (xs.eraseIdx i.toNat)))) : rPopAt (.ref l) [.int i] H Q :=
  ⟨l, xs, i, i.toNat, y, rfl, rfl, h, by omega, by omega, seq_ix i0 i1, hy, q⟩
theorem r_rev {H : Hp} {Q : VK} {l : Addr} {xs : List V} (h : H l = some (.lst xs)) (q : Q .non (upd H l (.lst xs.reverse))) : rReverse (.ref l) [] H Q := ⟨l, xs, rfl, rfl, h, q⟩
theorem r_in {K : PySem.W.Frag} {H : Hp} {Q : VK} {p : Addr} {x : V} {xs : List V} (h : SqL K H p xs ∨ SqT K H p xs) (f : flatV x = true) (g : xs.all flatV = true) (q : Q (.bl (inV x xs)) H) : rIn K false x (.ref p) H Q := ⟨p, xs, rfl, h, f, g, q⟩
theorem r_notIn {K : PySem.W.Frag} {H : Hp} {Q : VK} {p : Addr} {x : V} {xs : List V} (h : SqL K H p xs ∨ SqT K H p xs) (f : flatV x = true) (g : xs.all flatV = true) (q : Q (.bl (!inV x xs)) H) : rIn K true x (.ref p) H Q := ⟨p, xs, rfl, h, f, g, q⟩
/-! ### the least of ints -/
def minI : List Int → Int
  | [] => 0
  | a :: r => if r = [] then a else if a ≤ minI r then a else minI r
theorem minI_mem : ∀ {ns : List Int}, ns ≠ [] → minI ns ∈ ns
  | [], h => absurd rfl h
  | a :: r, _ => by
    unfold minI
    split
    · exact List.mem_cons_self
    · rename_i hr
      split
      · exact List.mem_cons_self
      · exact List.mem_cons_of_mem _ (minI_mem hr)
theorem minI_le : ∀ {ns : List Int} {y : Int}, y ∈ ns → minI ns ≤ y
  | a :: r, y, h => by
    unfold minI
    split
    · rename_i hr
      subst hr
      rw [List.mem_singleton] at h
      omega
    · rename_i hr
      rcases List.mem_cons.mp h with e | h
      · split <;> omega
      · have ih := minI_le h
        split <;> omega
theorem minI_eq {ns : List Int} {m : Int} (h : m ∈ ns) (l : ∀ y ∈ ns, m ≤ y) : m = minI ns := by
  have h1 := minI_le h
  have h2 := l _ (minI_mem fun e => by rw [e] at h; cases h)
  omega
theorem minI_perm {a b : List Int} (h : a.Perm b) : minI a = minI b := by
  by_cases e : a = []
  · rw [e] at h ⊢
    rw [h.symm.eq_nil]
  · exact minI_eq (h.mem_iff.mp (minI_mem e)) fun y hy => minI_le (h.mem_iff.mpr hy)
theorem r_min {K : PySem.W.Frag} {H : Hp} {Q : VK} {a : Addr} {ns : List Int} (h : SqL K H a (vI ns)) (hn : 0 < ns.length) (q : Q (.int (minI ns)) H) : rMin K [.ref a] H Q :=
  ⟨a, ns, rfl, h, hn, fun m hm hl => by rw [minI_eq hm hl]; exact q⟩
theorem erase_at : ∀ {ns : List Int} {k : Int}, k ∈ ns → ∃ j : Nat, ns[j]? = some k ∧ (∀ m : Nat, m < j → ns[m]? ≠ some k) ∧ ns.eraseIdx j = ns.erase k
  | a :: r, k, h => by
    by_cases e : a = k
    · subst e
      exact ⟨0, rfl, fun m hm => absurd hm (Nat.not_lt_zero _), by rw [List.erase_cons_head]; rfl⟩
    · have hr : k ∈ r := (List.mem_cons.mp h).resolve_left fun z => e z.symm
      obtain ⟨j, h1, h2, h3⟩ := erase_at hr
      refine ⟨j + 1, h1, fun m hm => ?_, ?_⟩
      · cases m with
        | zero => intro z; exact e (Option.some.inj z)
        | succ m => exact h2 m (by omega)
      · rw [List.erase_cons_tail (by simpa using e), List.eraseIdx_cons_succ, h3]
theorem r_remove {H : Hp} {Q : VK} {l : Addr} {ns : List Int} {k : Int} (h : H l = some (.lst (vI ns))) (hk : k ∈ ns) (q : Q .non (upd H l (.lst (vI (ns.erase k))))) : rRemI (.ref l) [.int k] H Q := by
  obtain ⟨j, h1, h2, h3⟩ := erase_at hk
  refine ⟨l, ns, k, j, rfl, rfl, h, h1, h2, ?_⟩
  rw [h3]
  exact q
end Lx

namespace Lx
open PySem PySem.Spec PyProof.Rows L2
/-! ### len(set(xs)) of a list or a tuple of ints, each once -/
theorem nodup_same_len : ∀ {a b : List Int}, a.Nodup → b.Nodup → (∀ x, x ∈ a ↔ x ∈ b) → a.length = b.length
  | [], [], _, _, _ => rfl
  | [], y :: b, _, _, h => absurd ((h y).mpr List.mem_cons_self) (by simp)
  | x :: a, b, ha, hb, h => by
    have hx : x ∈ b := (h x).mp List.mem_cons_self
    rw [List.nodup_cons] at ha
    have ih := nodup_same_len ha.2 (hb.erase x) fun y => by
      rw [hb.mem_erase_iff]
      constructor
      · intro hy
        exact ⟨fun e => ha.1 (e ▸ hy), (h y).mp (List.mem_cons_of_mem _ hy)⟩
      · rintro ⟨hne, hy⟩
        rcases List.mem_cons.mp ((h y).mpr hy) with e | hy
        · exact absurd e hne
        · exact hy
    rw [List.length_erase_of_mem hx] at ih
    have : 0 < b.length := List.length_pos_of_mem hx
    rw [List.length_cons]
    omega
def tLenSet (K : PySem.W.Frag) (ta : TE) : TE := fun σ H Q => ta σ H fun x H1 => ∃ (l : Addr) (ns : List Int), x = .ref l ∧ (SqL K H1 l (vI ns) ∨ SqT K H1 l (vI ns)) ∧ ns.Nodup ∧ ns.length ≤ 4000 ∧ Q (.int (ns.length : Nat)) H1
theorem pe_lenSet (K : PySem.W.Frag) {X : Cx} {a : Expr} {ta : TE} {p p2 q pos : Pos} (hg : Gl X "len") (hm : X.mg "len" = none) (hg2 : Gl X "set") (hm2 : X.mg "set" = none) (ha : PE X a ta) (hc : X.calm = true := by rfl) (hK : X.K = K := by rfl)
    (na : starEach [a] X.env = (false, eval a X.env) :: starEach [] X.env := by rfl) : PE X (.Call (.Name "len" p) [.Call (.Name "set" p2) [a] [] q] [] pos) (tLenSet K ta) := by
  subst hK
  refine ⟨fun pins s σ H Q I h => ?_⟩
  refine Call_ (ld_blt I hg hm boot_len ?_)
  refine PyProof.Rows.callWith_builtin1 (PyProof.Rows.args_cons ?_ rfl) rfl rfl
  refine Call_ (ld_blt I hg2 hm2 boot_set ?_)
  refine PyProof.Rows.callWith_type1 (PyProof.Rows.args_cons (thn (ha.run pins s σ H _ I h) fun v s1 ⟨x, H1, I1, r1, q1⟩ => PyProof.Rows.args_nil ?_) na) na rfl
  obtain ⟨l, ns, rfl, hq, hnd, hl, q1⟩ := q1
  cases r1
  rcases hq with hq | hq
  · obtain ⟨its, r, pl, hz⟩ := I1.list hq
    have hlen : its.toArray.size = ns.length := by rw [List.size_toArray, ← r.length, vI_len]
    refine call_set_list (I1.ok.hd hc) pl.isList (by simpa using RZ.intsAre_vals r) (by rw [hlen]; unfold scanBound; omega) fun h' tk hS hk => ?_
    refine PyProof.Rows.args_nil ?_
    rw [hlen, RZ.firstMet_nodup hnd ns.length (Nat.le_refl _), List.take_length] at hS
    obtain ⟨o, es, ep, t, ho, hex, hd, _, _, _, hf, hn⟩ := hS
    have I2 : Inv X pins σ H1 { s1 with heap := h', toks := tk } := I1.kept fun b o e => hk b o (Heap.lt_size e) e
    exact call_len_set ho hex hd hf (by rw [hn] <;> omega) ⟨.int ns.length, H1, I2.tok _, ⟨_, by rw [hn]⟩, q1⟩
  · obtain ⟨its, r, pl, hz⟩ := I1.tuple hq
    refine call_set_tupI ns (I1.ok.hd hc) pl (by simpa using RZ.intsAre_vals r) (by unfold scanBound; omega) fun h' tk c hS _ hk => ?_
    refine PyProof.Rows.args_nil ?_
    obtain ⟨o, es, ep, t, ho, hex, hd, _, hnd2, hmem, _, hf, hn, _⟩ := hS
    have hn2 : es.size = ns.length := by
      have z := nodup_same_len hnd hnd2 fun x => by rw [← hmem x]; simp
      rw [z, List.length_map, Array.length_toList]
    have I2 : Inv X pins σ H1 { s1 with heap := h', toks := tk } := I1.kept fun b o e => hk b o e
    exact call_len_set ho hex hd hf (by rw [hn2] <;> omega) ⟨.int ns.length, H1, I2.tok _, ⟨_, by rw [hn2]⟩, q1⟩
theorem r_lenSet {K : PySem.W.Frag} {σ : L2.St} {H : Hp} {Q : VK} {ta : TE} (h : ta σ H fun x H1 => ∃ (l : Addr) (ns : List Int), x = .ref l ∧ (SqL K H1 l (vI ns) ∨ SqT K H1 l (vI ns)) ∧ ns.Nodup ∧ ns.length ≤ 4000 ∧ Q (.int (ns.length : Nat)) H1) : tLenSet K ta σ H Q := h
end Lx

namespace Lx
open PySem PySem.Spec PyProof.Rows L2
/-! ### methods, makings, properties where no repr runs around -/
/-- a method as callers see it -/
structure Mt (P : Program) (w : World) (K : PySem.W.Frag) (mg : Str → Option Value) (base : Heap) (k : Nat) (C : Addr) (m : Str) (dvs : List V) (sp : Sp) : Prop where
  ex : ∃ (f : Addr) (fd : FuncData) (ps : List Str) (ds : List Value), FnG P w K mg base k f fd ps sp ∧ Cls K C ∧ Meth K C m f ∧ Binds K fd ps ds ∧ Vals dvs ds
/-- a class as its makers see it -/
structure Cn (P : Program) (w : World) (K : PySem.W.Frag) (mg : Str → Option Value) (base : Heap) (k : Nat) (x : Str) (C : Addr) (dvs : List V) (sp : Sp) : Prop where
  ex : ∃ (f : Addr) (fd : FuncData) (ps : List Str) (ds : List Value), FnG P w K mg base k f fd ps sp ∧ mg x = some (.ref C) ∧ Mk K C f ∧ Binds K fd ps ds ∧ Vals dvs ds
/-- a property as its readers see it -/
structure Pr (P : Program) (w : World) (K : PySem.W.Frag) (mg : Str → Option Value) (base : Heap) (k : Nat) (C : Addr) (m : Str) (sp : Sp) : Prop where
  ex : ∃ (p g : Addr) (fd : FuncData) (ps : List Str), FnG P w K mg base k g fd ps sp ∧ Cls K C ∧ PropOf K C m p g ∧ Binds K fd ps []
section
variable {X : Cx} {k : Nat} {f C : Addr} {fd : FuncData} {ps : List Str} {sp : Sp} {dvs : List V} {ds : List Value} {E : XK} {x m : Str} {p pos apos : Pos} {e o : Expr} {es : List Expr} {ta : TE} {t : TA}
theorem pe_mt {pl : Sem Bool} (M : Mt X.prog X.w X.K X.mg X.base k C m dvs sp) (hG : X.A.guards = some []) (hr : Room k X.A) (hx : Passes (L2.CX X.prog X.w) X E) (he : PE X o ta) (ha : PA X (e :: es) t)
    (hst : starEach (e :: es) X.env = (false, eval e X.env) :: starEach es X.env := by rfl) (hpl : (backTo pos (starEach es X.env)).any (·.1) = false := by rfl)
    (ht : eval (.Call (.Attribute o m apos) (e :: es) [] pos) X.env = (do
      let ov ← eval o X.env
      standAt apos.atName
      let (f, first) ← holding [ov] (getMethod ov m pl)
      callWith pos f first (backTo pos (starEach (e :: es) X.env)) (backToKw pos (keywordEach [] X.env))) := by rfl) :
    PE X (.Call (.Attribute o m apos) (e :: es) [] pos) (tMeth C m sp dvs E ta t) := by
  obtain ⟨f, fd, ps, ds, F, c, hm, hb, hd⟩ := M.ex
  refine ⟨fun pins s σ H Q I h => ?_⟩
  refine PySem.W.methodCall_KW (pl := pl) (thn (he.run pins s σ H _ I h) fun u s1 ⟨x, H1, I1, rx, a, dx, fs, ex, ea, l, q⟩ => ?_) ht
  subst ex
  obtain rfl : u = Value.ref a := rx
  refine getmeth_ok I1 ea c hm l ?_
  refine PySem.W.callWith_K (first := [.ref a]) (h₀ := X.base) I.ok.mod.kin hm.kp (thn (ha.run pos pins s1 σ H1 _ I1 q) fun us s2 ⟨vs, H2, I2, r, q2⟩ => ⟨I2.kIn, ?_⟩) hst hpl
  exact grun (us := .ref a :: us) (vs := .ref a :: vs) F hG hr hb hd hx I2 (.cons rfl r) q2
theorem pe_mt0 {pl : Sem Bool} (M : Mt X.prog X.w X.K X.mg X.base k C m dvs sp) (hG : X.A.guards = some []) (hr : Room k X.A) (hx : Passes (L2.CX X.prog X.w) X E) (he : PE X o ta)
    (ht : eval (.Call (.Attribute o m apos) [] [] pos) X.env = (do
      let ov ← eval o X.env
      standAt apos.atName
      let (f, first) ← holding [ov] (getMethod ov m pl)
      callWith pos f first (backTo pos (starEach [] X.env)) (backToKw pos (keywordEach [] X.env))) := by rfl) :
    PE X (.Call (.Attribute o m apos) [] [] pos) (tMeth C m sp dvs E ta tNil) := by
  obtain ⟨f, fd, ps, ds, F, c, hm, hb, hd⟩ := M.ex
  refine ⟨fun pins s σ H Q I h => ?_⟩
  refine PySem.W.methodCall_KW (pl := pl) (thn (he.run pins s σ H _ I h) fun u s1 ⟨x, H1, I1, rx, a, dx, fs, ex, ea, l, q⟩ => ?_) ht
  subst ex
  obtain rfl : u = Value.ref a := rx
  refine getmeth_ok I1 ea c hm l ?_
  exact PySem.W.callWith_K0 (first := [.ref a]) I1.kIn hm.kp (grun (us := [.ref a]) (vs := [.ref a]) F hG hr hb hd hx I1 (.cons rfl .nil) q)
theorem gmakes {pins : List (Addr × Obj)} {σ : L2.St} {H : Hp} {s : Shared} {Q : VK} {us : List Value} {vs : List V} (M : Mk X.K C f) (F : FnG X.prog X.w X.K X.mg X.base k f fd ps sp) (hG : X.A.guards = some []) (hr : Room (k + 1) X.A) (hb : Binds X.K fd ps ds) (hd : Vals dvs ds)
    (hx : Passes (L2.CX X.prog X.w) X E) (I : Inv X pins σ H s) (r : Vals vs us)
    (h : ∀ x dx, H x = none → H dx = none → dx ≠ x → sp (.ref x :: (vs ++ dvs)) (upd (upd H dx (.own x)) x (.ins C dx [])) (fun v H2 => v = .non ∧ Q (.ref x) H2) E) :
    wpAny (model X.prog X.w) X.A (call (.ref C) us) (EP X pins σ Q) X.xe s := by
  have hq := h (s.heap.objs.size + 1) s.heap.objs.size (I.hok.fresh (Nat.le_succ _)) (I.hok.fresh (Nat.le_refl _)) (Nat.ne_of_lt (Nat.lt_succ_self _))
  have I2 := Inv.made (C := C) I
  have r2 : Vals (V.ref (s.heap.objs.size + 1) :: (vs ++ dvs)) (Value.ref (s.heap.objs.size + 1) :: (us ++ ds)) := .cons rfl (r.append hd)
  have hl : (Value.ref (s.heap.objs.size + 1) :: us ++ ds).length = ps.length := r2.length.symm.trans (F.ln _ _ _ _ hq)
  refine wpAny_call (make_map (f := f) I.kIn M.makes M.init (beq_iff_eq.mp M.fn) (codeAny_mono (F.go _ X.stack _ _ ⟨Value.ref (s.heap.objs.size + 1) :: us, []⟩ (Value.ref (s.heap.objs.size + 1) :: (us ++ ds)) _ _ E hG (hr.make C us [])
    (I2.env0.make C us []) (hb _ (Value.ref (s.heap.objs.size + 1) :: us) I2.kIn hl) r2 hq) fun r s' hq' => ?_))
  cases r with
  | error e => exact hx pins σ _ _ e s' I2 hq'
  | ok fl => cases fl with
    | ret u =>
      obtain ⟨v, H', I3, rv, ev, q3⟩ := I2.after hq'
      subst ev
      exact ⟨rv, ⟨V.ref (s.heap.objs.size + 1), H', I3, rfl, q3⟩⟩
    | next => exact hq'.elim
    | brk => exact hq'.elim
    | cont => exact hq'.elim
theorem pe_cn (D : Cn X.prog X.w X.K X.mg X.base k x C dvs sp) (hG : X.A.guards = some []) (hr : Room (k + 1) X.A) (hx : Passes (L2.CX X.prog X.w) X E) (hg : Gl X x) (ha : PA X (e :: es) t)
    (hdb : (x == ("__debug__" : Str)) = false := by decide) (he : starEach (e :: es) X.env = (false, eval e X.env) :: starEach es X.env := by rfl) (hpl : (backTo pos (starEach es X.env)).any (·.1) = false := by rfl) :
    PE X (.Call (.Name x p) (e :: es) [] pos) (tMake C sp dvs E t) := by
  obtain ⟨f, fd, ps, ds, F, hm, M, hb, hd⟩ := D.ex
  refine ⟨fun pins s σ H Q I h => ?_⟩
  refine wpAny_Call_Name_kw (ld_glob I hg hm ?_ hdb)
  refine PySem.W.callWith_K (h₀ := X.base) I.ok.mod.kin M.kp (thn (ha.run pos pins s σ H _ I h) fun us s1 ⟨vs, H1, I1, r, q⟩ => ⟨I1.kIn, ?_⟩) he hpl
  exact gmakes M F hG hr hb hd hx I1 r q
theorem pe_pr (M : Pr X.prog X.w X.K X.mg X.base k C m sp) (hG : X.A.guards = some []) (hr : Room (k + 1) X.A) (hx : Passes (L2.CX X.prog X.w) X.nox E) (he : PE X e ta)
    (hab : attributeBase e m X.env (eval e X.env) = eval e X.env := by rfl) : PE X (.Attribute e m pos) (tProp C sp [] E ta) := by
  obtain ⟨pa, g, fd, ps, F, c, hp, hb⟩ := M.ex
  refine ⟨fun pins s σ H Q I h => ?_⟩
  refine attr_of hab (thn (he.run pins s σ H _ I h) fun u s1 ⟨x, H1, I1, rx, a, dx, fs, ex, ea, q⟩ => ?_)
  subst ex
  obtain rfl : u = Value.ref a := rx
  obtain ⟨mA, O, _, _, _, _⟩ := ins_get I1.hok ea
  obtain ⟨od, J, _⟩ := O.look
  obtain ⟨rest, hrec⟩ := hp.rec_
  have I2 := I1.tok (s1.toks + 1)
  have hl : ([Value.ref a] ++ []).length = ps.length := (F.ln _ _ _ _ q)
  have hc : (PySem.W.clsIn X.K C).isSome = true := by
    obtain ⟨cd, hc, _⟩ := PySem.W.any_some c.hd
    rw [hc]
    rfl
  refine PySem.W.get_bind I1.kIn J (PySem.W.plainGet_of (c.get m)).1 (PySem.W.findObj_data hc hp.at_ hp.get hp.tak) (PySem.W.plainGet_of (c.get m)).2 (wpAny_call (PySem.W.prop_get (s := { s1 with toks := s1.toks + 1 }) I1.kIn hrec ?_))
  refine codeAny_mono (F.go X.A.in1 X.stack { s1 with toks := s1.toks + 1 } H1 ⟨[.ref a], []⟩ [.ref a] [.ref a] Q E hG hr.in1 I2.env0.in1 (hb _ [.ref a] I2.kIn hl) (.cons rfl .nil) q) fun r s' hq => ?_
  cases r with
  | error er => exact False.elim (hx pins σ H1 { s1 with toks := s1.toks + 1 } er s' (I2.wish _) hq)
  | ok fl => cases fl with
    | ret u =>
      obtain ⟨v, H', I3, rv, q3⟩ := I2.after hq
      show wpAny _ _ (handedOut u) _ _ _
      rw [PySem.W.handedOut_of (handed_of rv)]
      exact wpAny_pure ⟨v, H', I3, rv, q3⟩
    | next => exact hq.elim
    | brk => exact hq.elim
    | cont => exact hq.elim
end
/-- len of an object whose class has its own __len__ -/
structure Ln (P : Program) (w : World) (K : PySem.W.Frag) (mg : Str → Option Value) (base : Heap) (k : Nat) (C : Addr) (sp : Sp) : Prop where
  ex : ∃ (f : Addr) (fd : FuncData) (ps : List Str), FnG P w K mg base k f fd ps sp ∧ PySem.W.findIn K (.ref C) "__len__" = some (some (.ref f)) ∧ PySem.W.isFn K (.ref f) = true ∧ Binds K fd ps []
def rLenOwn (C : Addr) (sp : Sp) (E : XK) : List V → Hp → VK → Prop := fun xs H Q => ∃ a dx fs, xs = [V.ref a] ∧ H a = some (.ins C dx fs) ∧ sp [.ref a] H (fun z H' => ∃ n : Nat, z = .int (n : Int) ∧ n < 2 ^ 62 ∧ Q (.int (n : Int)) H') E
theorem call_lenOwn {X : Cx} {k : Nat} {C : Addr} {sp : Sp} {E : XK} (L : Ln X.prog X.w X.K X.mg X.base k C sp) (hG : X.A.guards = some []) (hr : Room (k + 1) X.A) (hx : Passes (L2.CX X.prog X.w) X E) : CallR X (.builtin "len") (rLenOwn C sp E) := by
  obtain ⟨f, fd, ps, F, hs, hf, hb⟩ := L.ex
  intro pins s σ H xs us Q I r h
  obtain ⟨a, dx, fs, rfl, ea, q⟩ := h
  obtain ⟨u, rfl, ru⟩ := r.one
  cases (show u = Value.ref a from ru)
  obtain ⟨mA, O, _, _, _, _⟩ := ins_get I.hok ea
  obtain ⟨od, J, _⟩ := O.look
  obtain ⟨m, hF⟩ := I.fr
  have hl : ([Value.ref a] ++ []).length = ps.length := (F.ln _ _ _ _ q)
  refine PySem.W.len_K hF I.ok.mod.kin J hs hf (wpAny_call (codeAny_mono (F.go X.A.in1 X.stack s H ⟨[.ref a], []⟩ [.ref a] [.ref a] _ E hG hr.in1 I.env0.in1 (hb _ [.ref a] I.kIn hl) (.cons rfl .nil) q) fun r s' hq => ?_))
  cases r with
  | error er => exact hx pins σ H s er s' I hq
  | ok fl => cases fl with
    | ret u =>
      obtain ⟨v, H', I3, rv, n, rfl, hn, q3⟩ := I.after hq
      obtain ⟨t, rfl⟩ := (show ∃ t, u = Value.int (n : Int) t from rv)
      exact ⟨⟨Int.natCast_nonneg _, by omega⟩, ⟨.int (n : Int), H', I3.tok _, ⟨_, rfl⟩, q3⟩⟩
    | next => exact hq.elim
    | brk => exact hq.elim
    | cont => exact hq.elim
/-! ### readings -/
section
variable {K : PySem.W.Frag} {σ : L2.St} {H : Hp} {Q : VK} {D : Ends} {te ta tv : TE} {tA : TA} {C a dx : Addr} {fs : List (Str × V)} {m f : Str} {v y : V} {sp : Sp} {dvs : List V} {E : XK}
theorem r_fld (h : te σ H fun x H1 => ∃ a C dx fs v, x = .ref a ∧ H1 a = some (.ins C dx fs) ∧ Cls K C ∧ NoAttr K C f ∧ fs.lookup f = some v ∧ Q v H1) : tFld K te f σ H Q := h
theorem r_fldAt {R : V → Prop} (h : H a = some (.ins C dx fs)) (c : Cls K C) (n : NoAttr K C f) (l : fs.lookup f = some v) (q : R v) : ∃ a' C dx fs v, V.ref a = .ref a' ∧ H a' = some (.ins C dx fs) ∧ Cls K C ∧ NoAttr K C f ∧ fs.lookup f = some v ∧ R v := ⟨a, C, dx, fs, v, rfl, h, c, n, l, q⟩
theorem r_sfld (h : tv σ H fun y H1 => te σ H1 fun x H2 => ∃ a C dx fs, x = .ref a ∧ H2 a = some (.ins C dx fs) ∧ Cls K C ∧ NoAttr K C f ∧ fs.length < 1000 ∧ D.nx σ (upd H2 a (.ins C dx (putF f y fs)))) : sFld K te tv f D σ H := h
theorem r_sfldAt {R : Addr → Addr → Addr → List (Str × V) → Prop} (h : H a = some (.ins C dx fs)) (c : Cls K C) (n : NoAttr K C f) (l : fs.length < 1000) (q : R a C dx fs) : ∃ a' C dx fs, V.ref a = .ref a' ∧ H a' = some (.ins C dx fs) ∧ Cls K C ∧ NoAttr K C f ∧ fs.length < 1000 ∧ R a' C dx fs := ⟨a, C, dx, fs, rfl, h, c, n, l, q⟩
theorem r_meth (h : te σ H fun x H1 => ∃ a dx fs, x = .ref a ∧ H1 a = some (.ins C dx fs) ∧ fs.lookup m = none ∧ tA σ H1 fun vs H2 => sp (x :: (vs ++ dvs)) H2 Q E) : tMeth C m sp dvs E te tA σ H Q := h
theorem r_methAt {R : Prop} (h : H a = some (.ins C dx fs)) (l : fs.lookup m = none) (q : R) : ∃ a' dx fs, V.ref a = .ref a' ∧ H a' = some (.ins C dx fs) ∧ fs.lookup m = none ∧ R := ⟨a, dx, fs, rfl, h, l, q⟩
theorem r_make (h : tA σ H fun vs H1 => ∀ x dx, H1 x = none → H1 dx = none → dx ≠ x → sp (.ref x :: (vs ++ dvs)) (upd (upd H1 dx (.own x)) x (.ins C dx [])) (fun v H2 => v = .non ∧ Q (.ref x) H2) E) : tMake C sp dvs E tA σ H Q := h
theorem r_prop (h : te σ H fun x H1 => ∃ a dx fs, x = .ref a ∧ H1 a = some (.ins C dx fs) ∧ sp (.ref a :: dvs) H1 Q E) : tProp C sp dvs E te σ H Q := h
end
/-! ### all kept but what stands at some places -/
def KpL (L : List Addr) (H H' : Hp) : Prop := ∀ b o, b ∉ L → H b = some o → H' b = some o
theorem KpL.refl (L : List Addr) (H : Hp) : KpL L H H := fun _ _ _ h => h
theorem KpL.of {L : List Addr} {H H' : Hp} (s : Same H H') : KpL L H H' := fun b o _ h => s b o h
theorem KpL.same {H H' : Hp} (k : KpL [] H H') : Same H H' := fun b o h => k b o (by simp) h
theorem KpL.trans {L : List Addr} {H H1 H2 : Hp} (a : KpL L H H1) (b : KpL L H1 H2) : KpL L H H2 := fun c o n h => b c o n (a c o n h)
theorem KpL.more {L L' : List Addr} {H H' : Hp} (a : KpL L H H') (s : ∀ x ∈ L, x ∈ L') : KpL L' H H' := fun c o n h => a c o (fun z => n (s _ z)) h
theorem KpL.set {L : List Addr} {p : Addr} {H H' : Hp} {o : HO} (k : KpL L H H') (hp : p ∈ L) : KpL L H (upd H' p o) := fun b u n e => by
  rw [upd_ne (fun z : b = p => n (by rw [z]; exact hp))]
  exact k b u n e
theorem KpL.put {L : List Addr} {p : Addr} {H H' : Hp} {o : HO} (k : KpL L H H') (n : H' p = none) : KpL L H (upd H' p o) := fun b u m e => by
  have := k b u m e
  rw [upd_ne (ne_of_none this n)]
  exact this
theorem KpL.free {L : List Addr} {p : Addr} {H H' : Hp} (k : KpL L H H') (n : H' p = none) (m : p ∉ L) : H p = none := by
  cases q : H p with
  | none => rfl
  | some o =>
    have := k p o m q
    rw [n] at this
    cases this
theorem KpL.kp {r : Addr} {H H' : Hp} (k : KpL [r] H H') : Kp r H H' := fun b o n h => k b o (by simpa using n) h
theorem Kp.kpl {r : Addr} {L : List Addr} {H H' : Hp} (k : Kp r H H') (h : r ∈ L) : KpL L H H' := fun b o n e => k b o (fun z : b = r => n (by rw [z]; exact h)) e
theorem KpL.drop {p : Addr} {L : List Addr} {H H' : Hp} (k : KpL (p :: L) H H') (h : H p = none) : KpL L H H' := fun b o n e => k b o (fun z => by
  rcases List.mem_cons.mp z with z | z
  · rw [z, h] at e; cases e
  · exact n z) e
/-! ### two and three fields -/
theorem lk2_1 {a b : Str} {x y : V} : ([(a, x), (b, y)] : List (Str × V)).lookup a = some x := by simp [List.lookup]
theorem lk2_2 {a b : Str} {x y : V} (h : ¬ b = a) : ([(a, x), (b, y)] : List (Str × V)).lookup b = some y := by
  have : (b == a) = false := by simpa using h
  simp [List.lookup, this]
theorem lk2_0 {a b m : Str} {x y : V} (h1 : ¬ m = a) (h2 : ¬ m = b) : ([(a, x), (b, y)] : List (Str × V)).lookup m = none := by
  have e1 : (m == a) = false := by simpa using h1
  have e2 : (m == b) = false := by simpa using h2
  simp [List.lookup, e1, e2]
theorem lk3_1 {a b c : Str} {x y z : V} : ([(a, x), (b, y), (c, z)] : List (Str × V)).lookup a = some x := by simp [List.lookup]
theorem lk3_2 {a b c : Str} {x y z : V} (h : ¬ b = a) : ([(a, x), (b, y), (c, z)] : List (Str × V)).lookup b = some y := by
  have : (b == a) = false := by simpa using h
  simp [List.lookup, this]
theorem lk3_3 {a b c : Str} {x y z : V} (h : ¬ c = a) (h2 : ¬ c = b) : ([(a, x), (b, y), (c, z)] : List (Str × V)).lookup c = some z := by
  have e1 : (c == a) = false := by simpa using h
  have e2 : (c == b) = false := by simpa using h2
  simp [List.lookup, e1, e2]
theorem lk3_0 {a b c m : Str} {x y z : V} (h1 : ¬ m = a) (h2 : ¬ m = b) (h3 : ¬ m = c) : ([(a, x), (b, y), (c, z)] : List (Str × V)).lookup m = none := by
  have e1 : (m == a) = false := by simpa using h1
  have e2 : (m == b) = false := by simpa using h2
  have e3 : (m == c) = false := by simpa using h3
  simp [List.lookup, e1, e2, e3]
theorem put1 {a : Str} {x : V} : putF a x [] = [(a, x)] := rfl
theorem put2 {a b : Str} {x y : V} (h : ¬ a = b) : putF b y [(a, x)] = [(a, x), (b, y)] := by
  show (if a = b then [(a, y)] else (a, x) :: putF b y []) = _
  rw [if_neg h]
  rfl
theorem put3 {a b c : Str} {x y z : V} (h : ¬ a = c) (h2 : ¬ b = c) : putF c z [(a, x), (b, y)] = [(a, x), (b, y), (c, z)] := by
  show (if a = c then [(a, z), (b, y)] else (a, x) :: putF c z [(b, y)]) = _
  rw [if_neg h, put2 h2]
theorem k_index (K : PySem.W.Frag) {X : Cx} (h : X.K = K := by rfl) : MtR X "list.index" (rIndex K) := h ▸ mt_index
theorem r_index {K : PySem.W.Frag} {H : Hp} {Q : VK} {a : Addr} {ys : List V} {y z : V} {j : Nat} (h : SqL K H a ys) (f : flatV y = true) (g : ys.all flatV = true) (e : ys[j]? = some z) (e2 : eqV z y = true) (no : ∀ (m : Nat) (z' : V), m < j → ys[m]? = some z' → eqV z' y = false) (q : Q (.int (j : Nat)) H) : rIndex K (.ref a) [y] H Q :=
  ⟨a, ys, y, j, z, rfl, rfl, h, f, g, e, e2, no, q⟩
theorem put2_1 {a b : Str} {x y z : V} : putF a y [(a, x), (b, z)] = [(a, y), (b, z)] := by
  show (if a = a then _ else _) = _
  rw [if_pos rfl]
theorem put2_2 {a b : Str} {x y z : V} (h : ¬ a = b) : putF b y [(a, x), (b, z)] = [(a, x), (b, y)] := by
  show (if a = b then _ else (a, x) :: (if b = b then _ else _)) = _
  rw [if_neg h, if_pos rfl]
theorem put3_3 {a b c : Str} {x y z u : V} (h : ¬ a = c) (h2 : ¬ b = c) : putF c u [(a, x), (b, y), (c, z)] = [(a, x), (b, y), (c, u)] := by
  show (if a = c then _ else (a, x) :: (if b = c then _ else (b, y) :: (if c = c then _ else _))) = _
  rw [if_neg h, if_neg h2, if_pos rfl]
def rInsertV : V → List V → Hp → VK → Prop := fun x vs H Q => ∃ (l : Addr) (xs : List V) (i : Int) (y : V), x = .ref l ∧ vs = [.int i, y] ∧ H l = some (.lst xs) ∧ xs.length < sizeLine ∧ 0 ≤ i ∧ i < 2 ^ 63 ∧ Q .non (upd H l (.lst (xs.take i.toNat ++ [y] ++ xs.drop i.toNat)))
theorem mt_insertV {X : Cx} : MtR X "list.insert" rInsertV := mt_insert
theorem r_insert {H : Hp} {Q : VK} {l : Addr} {xs : List V} {i : Nat} {y : V} (h : H l = some (.lst xs)) (z : xs.length ≤ 100000) (iz : i ≤ 100000) (q : Q .non (upd H l (.lst (xs.take i ++ [y] ++ xs.drop i)))) : rInsertV (.ref l) [.int ((i : Nat) : Int), y] H Q :=
  ⟨l, xs, _, y, rfl, rfl, h, szl z, by omega, by omega, by rw [Int.toNat_natCast]; exact q⟩
theorem r_pop {H : Hp} {Q : VK} {l : Addr} {xs : List V} {y : V} (h : H l = some (.lst (xs ++ [y]))) (q : Q y (upd H l (.lst xs))) : rPop (.ref l) [] H Q := by
  refine ⟨l, xs ++ [y], y, rfl, rfl, h, ?_, ?_⟩
  · rw [List.length_append, List.length_singleton, Nat.add_sub_cancel, List.getElem?_append_right (Nat.le_refl _), Nat.sub_self]; rfl
  · rw [List.dropLast_concat]; exact q
end Lx

namespace Lz
open PySem PySem.Spec PyProof.Rows PySem.Calls
theorem gne {a lo b : Nat} (h : a < lo) (h2 : lo ≤ b) : b ≠ a := by omega
/-! ### the iterator of reversed(list), drawn by zip -/
section
variable {prog : Program} {w : World} {A : Around} {E : Value → Shared → Prop} {s : Shared}
theorem nextOf_rev_item {it l : Addr} {i : Nat} {items : Array Value} {x : Value} {Q : Value → Shared → Prop} (hit : s.heap.IsRevIter it l (i : Int)) (hl : s.heap.IsList l items) (hx : items[i]? = some x)
    (hQ : ∀ h', h'.IsRevIter it l ((i : Int) - 1) → Heap.SameBut it s.heap h' → Q x { s with heap := h' }) : wpAny (model prog w) A (Builtin.SmallTypes.nextOf (.ref it)) Q E s := by
  obtain ⟨o, ho, hc, hd⟩ := id hit
  obtain ⟨ol, hol, _, nl, hdl⟩ := hl
  unfold Builtin.SmallTypes.nextOf
  refine wpAny_bind (wpAny_callSpecial?_slot (name := Str.ofString "__next__") hit.typeIs F.slot_lri_next
    (wpAny_call_entry F.slot_lri_next hit.typeIs F.entry_lri_next ?_ (F.args_lri_next_1 _)))
  unfold Builtin.«list_reverseiterator.__next__»
  refine wpAny_bind (wpAny_of_eq (a := (Value.ref it, [])) rfl ?_)
  try dsimp only
  refine wpAny_bind (wpAny_field ho hd (x := rawInt (i : Int)) rfl ?_)
  show wpAny _ _ (if (i : Int) < 0 then _ else _) _ _ s
  rw [if_neg (by omega)]
  show wpAny _ _ (field (.ref it) 0 >>= _) _ _ s
  refine wpAny_bind (wpAny_field ho hd (x := .ref l) rfl ?_)
  show wpAny _ _ (seqItems? (.ref l) >>= _) _ _ s
  refine wpAny_bind (wpAny_seqItems hol hdl ?_)
  simp only [Int.toNat_natCast, hx]
  refine wpAny_bind (wpAny_setField ho hd (by simp) ?_)
  first
  | refine wpAny_pure ⟨x, rfl, wpAny_pure (hQ _ ?_ (Heap.SameBut.update ..))⟩
  | refine wpAny_bind (wpAny_pure (wpAny_pure ⟨x, rfl, wpAny_pure (hQ _ ?_ (Heap.SameBut.update ..))⟩))
  exact ⟨_, Heap.get?_update_self _ ho (Obj.isFreed_of_fields (Obj.data_mapFields hd _)), (Obj.cls_mapFields ..).trans hc, by
    rw [Obj.data_mapFields hd]; simp⟩
theorem nextOf_rev_end {it l : Addr} {Q : Value → Shared → Prop} (hh : A.handled = none) (hit : s.heap.IsRevIter it l (-1))
    (hE : ∀ h' e, Heap.ExtBut it s.heap h' → (∃ o, h'.get? e = some o ∧ o.cls = .type "StopIteration") → E (.ref e) { s with heap := h' }) : wpAny (model prog w) A (Builtin.SmallTypes.nextOf (.ref it)) Q E s := by
  obtain ⟨o, ho, hc, hd⟩ := id hit
  unfold Builtin.SmallTypes.nextOf
  refine wpAny_bind (wpAny_callSpecial?_slot (name := Str.ofString "__next__") hit.typeIs F.slot_lri_next
    (wpAny_call_entry F.slot_lri_next hit.typeIs F.entry_lri_next ?_ (F.args_lri_next_1 _)))
  unfold Builtin.«list_reverseiterator.__next__»
  refine wpAny_bind (wpAny_of_eq (a := (Value.ref it, [])) rfl ?_)
  try dsimp only
  refine wpAny_bind (wpAny_field ho hd (x := rawInt (-1)) rfl ?_)
  show wpAny _ _ (if (-1 : Int) < 0 then _ else _) _ _ s
  rw [if_pos (by decide)]
  refine wpAny_bind (wpAny_rule ?_)
  first
  | show wpAny _ _ (newExc (.type "StopIteration") [] >>= _) _ _ _
  | (refine wpAny_bind ?_; show wpAny _ _ (newExc (.type "StopIteration") [] >>= _) _ _ _)
  refine wpAny_bind ?_
  simp only [newExc, newTuple]
  refine wpAny_bind (wpAny_newObj_type ?_ (by size_fits))
  refine wpAny_bind (m := firstArgMember _ _) (wpAny_of_eq (a := Value.none) (by first | rfl | (simp only [firstArgMember]; rfl)) ?_)
  refine wpAny_newObj_type ?_ (by size_fits)
  simp only [raiseNew]
  refine wpAny_bind (wpAny_handled ?_)
  first | rw [show A.in1.handled = none from hh] | rw [hh]
  refine wpAny_bind (wpAny_pure (wpAny_throw ?_))
  exact hE _ _ (((Heap.ExtBut.refl _ _).push _).push _) ⟨_, Heap.get?_push_size _ rfl, rfl⟩
end
theorem drawsRev {prog : Program} {w : World} {A : Around} (hh : A.handled = none) (it l : Addr) (hne : l ≠ it) (items : Array Value) :
    Draws prog w A it [it, l] items.size (fun i v => items[items.size - 1 - i]? = some v) (fun i h => i ≤ items.size ∧ h.IsRevIter it l ((items.size : Int) - 1 - (i : Int)) ∧ h.IsList l items) where
  live := fun _ _ st => let ⟨o, ho, _⟩ := st.2.1; ⟨o, ho⟩
  frame := fun _ _ _ st hk => ⟨st.1, st.2.1.at fun o e => hk it (by simp) o e, st.2.2.at fun o e => hk l (by simp) o e⟩
  item := fun i s Q E hi x hQ => by
    have e : (items.size : Int) - 1 - (i : Int) = ((items.size - 1 - i : Nat) : Int) := by omega
    have hit := x.2.1
    rw [e] at hit
    have hx : items[items.size - 1 - i]? = some (items[items.size - 1 - i]'(by omega)) := Array.getElem?_eq_getElem (by omega)
    refine nextOf_rev_item hit x.2.2 hx fun h' hit' hs' => ?_
    have e2 : ((items.size - 1 - i : Nat) : Int) - 1 = (items.size : Int) - 1 - ((i + 1 : Nat) : Int) := by omega
    rw [e2] at hit'
    exact hQ _ h' s.toks hx ⟨hi, hit', x.2.2.at fun o eo => (hs'.2 l hne).trans eo⟩ hs'
  done := fun s Q E x hE => by
    have e : (items.size : Int) - 1 - (items.size : Int) = -1 := by omega
    have hit := x.2.1
    rw [e] at hit
    exact nextOf_rev_end hh hit hE
/-! ### zip's next while its last tuple is held -/
section
variable {prog : Program} {w : World} {A : Around} {E : Value → Shared → Prop} {s : Shared} {z TI TO T i1 i2 : Addr} {fp1 fp2 : List Addr} {n1 n2 i : Nat} {P1 P2 : Nat → Value → Prop} {St1 St2 : Nat → Heap → Prop} {f : Bool} {oT : Obj}
theorem heldD_item {Q : Value → Shared → Prop} (S : ZipSep2 z TI TO i1 i2 fp1 fp2) (D1 : Draws prog w A i1 fp1 n1 P1 St1) (D2 : Draws prog w A i2 fp2 n2 P2 St2)
    (hz : IsZipHeld s.heap z TI TO T f) (hT : s.heap.get? T = some oT) (hTI : IsTupOf2 s.heap TI (.ref i1) (.ref i2)) (st1 : St1 i s.heap) (st2 : St2 i s.heap) (hlt1 : i < n1) (hlt2 : i < n2)
    (hQ : ∀ x1 x2 h' tk, P1 i x1 → P2 i x2 → IsZipHeld h' z TI TO T true → St1 (i + 1) h' → St2 (i + 1) h' → IsTupOf2 h' s.heap.objs.size x1 x2 → h'.objs.size = s.heap.objs.size + 1 →
      (∀ c o, c ≠ z → c ≠ i1 → c ≠ i2 → s.heap.get? c = some o → h'.get? c = some o) → Q (.ref s.heap.objs.size) { s with heap := h', toks := tk }) :
    wpAny (model prog w) A (Builtin.«zip.__next__» ⟨[.ref z], []⟩) (fun fin s' => ∃ v, fin = .done (.ret v) ∧ Q v s') E s := by
  obtain ⟨hp, g, d, tk0, os⟩ := s
  show wpAny _ _ (field (.ref z) 2 >>= _) _ _ _
  refine wpAny_bind (wpAny_field hz rfl (x := .bool false) rfl ?_)
  show wpAny _ _ (field (.ref z) 3 >>= _) _ _ _
  refine wpAny_bind (wpAny_field hz rfl (x := .ref TI) rfl ?_)
  refine wpAny_bind (wpAny_seqItems hTI rfl ?_)
  show wpAny _ _ (Builtin.SmallTypes.ownedTupleIsFree (.ref z) >>= _) _ _ _
  refine wpAny_bind (wpAny_tupleHeld_zip hz hT fun g0 hz0 hs0 => ?_)
  replace hs0 : Heap.SameBut z hp g0 := hs0
  simp only [Bool.false_eq_true, if_false]
  refine wpAny_bind ?_
  rw [← Array.forIn_toList]
  simp only [List.forIn_cons, List.forIn_nil]
  refine wpAny_bind (wpAny_bind (wpAny_holding ?_))
  show wpAny _ _ (Builtin.SmallTypes.nextOf (.ref i1) >>= _) _ _ ⟨g0, g, d, tk0, os⟩
  refine wpAny_bind (D1.item i _ _ _ hlt1 (D1.over st1 hs0 S.zf1) fun x1 p1 tk1 hx1 sn1 hp1 => wpAny_pure ?_)
  replace hp1 : Heap.SameBut i1 g0 p1 := hp1
  refine wpAny_pure ?_
  refine wpAny_bind (wpAny_bind (wpAny_holding ?_))
  show wpAny _ _ (Builtin.SmallTypes.nextOf (.ref i2) >>= _) _ _ ⟨p1, g, d, tk1, os⟩
  refine wpAny_bind (D2.item i _ _ _ hlt2 (D2.over (D2.over st2 hs0 S.zf2) hp1 S.sep1_2) fun x2 p2 tk2 hx2 sn2 hp2 => wpAny_pure ?_)
  replace hp2 : Heap.SameBut i2 p1 p2 := hp2
  refine wpAny_pure (wpAny_pure ?_)
  show wpAny _ _ (newTuple [x1, x2] >>= _) _ _ _
  refine wpAny_bind (wpAny_newTuple ?_)
  have hsz : p2.objs.size = hp.objs.size := by rw [hp2.1, hp1.1, hs0.1]
  have hz3 : IsZipHeld p2 z TI TO T true := hp2.extBut _ _ S.zi2 (hp1.extBut _ _ S.zi1 hz0)
  have hk : ∀ c o, c ≠ z → c ≠ i1 → c ≠ i2 → hp.get? c = some o → p2.get? c = some o := fun c o c1 c2 c3 e => hp2.extBut _ _ c3 (hp1.extBut _ _ c2 (hs0.extBut _ _ c1 e))
  have j1 : St1 (i + 1) p2 := D1.over sn1 hp2 S.sep2_1
  have up : ∀ c o, p2.get? c = some o → (p2.push { cls := .type "tuple", data := .seq #[x1, x2] }).get? c = some o := fun c o e => Heap.get?_push_of_some _ e
  refine wpAny_pure ⟨_, rfl, ?_⟩
  show Q (.ref p2.objs.size) _
  have hp4 : IsTupOf2 (p2.push { cls := .type "tuple", data := .seq #[x1, x2] }) p2.objs.size x1 x2 := Heap.get?_push_size _ rfl
  have hz4 : (p2.push { cls := .type "tuple", data := .seq #[x1, x2] }).objs.size = p2.objs.size + 1 := Heap.size_push ..
  rw [hsz] at hp4 hz4 ⊢
  exact hQ x1 x2 _ tk2 hx1 hx2 (up _ _ hz3) (D1.frame _ _ _ j1 fun b _ o e => up b o e) (D2.frame _ _ _ sn2 fun b _ o e => up b o e) hp4 hz4 fun c o c1 c2 c3 e => up c o (hk c o c1 c2 c3 e)
theorem heldD_end {Q : Fin → Shared → Prop} (S : ZipSep2 z TI TO i1 i2 fp1 fp2) (D1 : Draws prog w A i1 fp1 n1 P1 St1)
    (hz : IsZipHeld s.heap z TI TO T f) (hT : s.heap.get? T = some oT) (hTI : IsTupOf2 s.heap TI (.ref i1) (.ref i2)) (st1 : St1 n1 s.heap)
    (hE : ∀ h' e, (∀ c o, c ≠ z → c ≠ i1 → s.heap.get? c = some o → h'.get? c = some o) → (∃ o, h'.get? e = some o ∧ o.cls = .type "StopIteration") → E (.ref e) { s with heap := h' }) :
    wpAny (model prog w) A (Builtin.«zip.__next__» ⟨[.ref z], []⟩) Q E s := by
  obtain ⟨hp, g, d, tk0, os⟩ := s
  show wpAny _ _ (field (.ref z) 2 >>= _) _ _ _
  refine wpAny_bind (wpAny_field hz rfl (x := .bool false) rfl ?_)
  show wpAny _ _ (field (.ref z) 3 >>= _) _ _ _
  refine wpAny_bind (wpAny_field hz rfl (x := .ref TI) rfl ?_)
  refine wpAny_bind (wpAny_seqItems hTI rfl ?_)
  show wpAny _ _ (Builtin.SmallTypes.ownedTupleIsFree (.ref z) >>= _) _ _ _
  refine wpAny_bind (wpAny_tupleHeld_zip hz hT fun g0 hz0 hs0 => ?_)
  replace hs0 : Heap.SameBut z hp g0 := hs0
  simp only [Bool.false_eq_true, if_false]
  refine wpAny_bind ?_
  rw [← Array.forIn_toList]
  simp only [List.forIn_cons, List.forIn_nil]
  refine wpAny_bind (wpAny_bind (wpAny_holding ?_))
  show wpAny _ _ (Builtin.SmallTypes.nextOf (.ref i1) >>= _) _ _ ⟨g0, g, d, tk0, os⟩
  refine wpAny_bind (D1.done _ _ _ (D1.over st1 hs0 S.zf1) fun h' e he hx => ?_)
  exact hE h' e (fun c o c1 c2 x => he c o c2 (hs0.extBut _ _ c1 x)) hx
end
/-! ### the walk of list(zip(..)) -/
/-- zip's state at turn i: free at first, later holding its last tuple; S lies apart -/
def ZSt (z TI TO i1 i2 S : Addr) (St1 St2 : Nat → Heap → Prop) (i : Nat) (h : Heap) : Prop :=
  IsTupOf2 h TI (.ref i1) (.ref i2) ∧ St1 i h ∧ St2 i h ∧ ((IsZip h z TI TO .none ∧ ∃ a b, IsTupOf2 h TO a b) ∨ ∃ T f oT, IsZipHeld h z TI TO T f ∧ h.get? T = some oT ∧ T ≠ z ∧ T ≠ i1 ∧ T ≠ i2 ∧ T ≠ S)
section
variable {prog : Program} {w : World} {A : Around} {E : Value → Shared → Prop} {s : Shared} {z TI TO i1 i2 S : Addr} {fp1 fp2 : List Addr} {n i : Nat} {P1 P2 : Nat → Value → Prop} {St1 St2 : Nat → Heap → Prop}
theorem ZSt.keep {h h' : Heap} (x : ZSt z TI TO i1 i2 S St1 St2 i h) (D1 : Draws prog w A i1 fp1 n P1 St1) (D2 : Draws prog w A i2 fp2 n P2 St2) (k : ∀ b o, b ≠ S → h.get? b = some o → h'.get? b = some o)
    (a0 : S ≠ z) (a1 : S ≠ TI) (a2 : S ≠ TO) (a3 : S ∉ fp1) (a4 : S ∉ fp2) : ZSt z TI TO i1 i2 S St1 St2 i h' := by
  obtain ⟨h1, h2, h3, h4⟩ := x
  refine ⟨k _ _ a1.symm h1, D1.frame _ _ _ h2 fun b hb o e => k b o (fun q => a3 (q ▸ hb)) e, D2.frame _ _ _ h3 fun b hb o e => k b o (fun q => a4 (q ▸ hb)) e, ?_⟩
  rcases h4 with ⟨hz, a, b, hTO⟩ | ⟨T, f, oT, hz, hT, r1, r2, r3, r4⟩
  · exact .inl ⟨k _ _ a0.symm hz, a, b, k _ _ a2.symm hTO⟩
  · exact .inr ⟨T, f, oT, k _ _ a0.symm hz, k _ _ r4 hT, r1, r2, r3, r4⟩
theorem zst_item {Q : Option Value → Shared → Prop} (Z : ZipSep2 z TI TO i1 i2 fp1 fp2) (D1 : Draws prog w A.in1 i1 fp1 n P1 St1) (D2 : Draws prog w A.in1 i2 fp2 n P2 St2) (hst : ZSt z TI TO i1 i2 S St1 St2 i s.heap) (hS : S < s.heap.objs.size) (hi : i < n)
    (lt1 : i1 < s.heap.objs.size) (lt2 : i2 < s.heap.objs.size)
    (hQ : ∀ x1 x2 h' tk, P1 i x1 → P2 i x2 → ZSt z TI TO i1 i2 S St1 St2 (i + 1) h' → IsTupOf2 h' s.heap.objs.size x1 x2 → h'.objs.size = s.heap.objs.size + 1 →
      (∀ c o, c ≠ z → c ≠ TO → c ≠ i1 → c ≠ i2 → s.heap.get? c = some o → h'.get? c = some o) → Q (some (.ref s.heap.objs.size)) { s with heap := h', toks := tk }) :
    wpAny (model prog w) A (pyNext (.ref z)) Q E s := by
  obtain ⟨hTI, h1, h2, hz⟩ := hst
  rcases hz with ⟨hz, a, b, hTO⟩ | ⟨T, f, oT, hz, hT, r1, r2, r3, r4⟩
  · have hTy : s.TypeIs (.ref z) "zip" := ⟨_, hz, rfl⟩
    have hzl : z < s.heap.objs.size := Heap.lt_size hz
    unfold pyNext
    refine wpAny_bind (wpAny_attempt (wpAny_callSpecial?_slot (name := Str.ofString "__next__") hTy F.slot_zip_next
      (wpAny_call_entry F.slot_zip_next hTy F.entry_zip_next (wpAny_mono (zipD2_next_item (Q := fun v s' => wpAny (model prog w) A (pure (some v)) Q E s') Z D1 D2 hz hTI hTO h1 h2 hi hi fun x1 x2 h' tk a1 a2 a3 a4 a5 a6 a7 a8 a9 => ?_) (fun fin s' h => h) fun e s' h => h) (F.args_zip_next_1 _))))
    refine wpAny_pure (hQ x1 x2 h' tk a1 a2 ⟨a9 _ _ Z.TIz Z.TITO Z.TIi1 Z.TIi2 hTI, a5, a6, .inr ⟨s.heap.objs.size, false, _, a3, a7, Nat.ne_of_gt hzl, Nat.ne_of_gt lt1, Nat.ne_of_gt lt2, Nat.ne_of_gt hS⟩⟩ a7 a8 a9)
  · have hTy : s.TypeIs (.ref z) "zip" := ⟨_, hz, rfl⟩
    unfold pyNext
    refine wpAny_bind (wpAny_attempt (wpAny_callSpecial?_slot (name := Str.ofString "__next__") hTy F.slot_zip_next
      (wpAny_call_entry F.slot_zip_next hTy F.entry_zip_next (wpAny_mono (heldD_item (Q := fun v s' => wpAny (model prog w) A (pure (some v)) Q E s') Z D1 D2 hz hT hTI h1 h2 hi hi fun x1 x2 h' tk a1 a2 a3 a5 a6 a7 a8 a9 => ?_) (fun fin s' h => h) fun e s' h => h) (F.args_zip_next_1 _))))
    refine wpAny_pure (hQ x1 x2 h' tk a1 a2 ⟨a9 _ _ Z.TIz Z.TIi1 Z.TIi2 hTI, a5, a6, .inr ⟨T, true, oT, a3, a9 _ _ r1 r2 r3 hT, r1, r2, r3, r4⟩⟩ a7 a8 fun c o c1 _ c2 c3 e => a9 c o c1 c2 c3 e)
theorem zst_done {Q : Option Value → Shared → Prop} (Z : ZipSep2 z TI TO i1 i2 fp1 fp2) (D1 : Draws prog w A.in1 i1 fp1 n P1 St1) (D2 : Draws prog w A.in1 i2 fp2 n P2 St2) (hst : ZSt z TI TO i1 i2 S St1 St2 n s.heap)
    (hQ : ∀ h' tk, (∀ c o, c ≠ z → c ≠ TO → c ≠ i1 → c ≠ i2 → s.heap.get? c = some o → h'.get? c = some o) → Q none { s with heap := h', toks := tk }) :
    wpAny (model prog w) A (pyNext (.ref z)) Q E s := by
  obtain ⟨hTI, h1, h2, hz⟩ := hst
  rcases hz with ⟨hz, a, b, hTO⟩ | ⟨T, f, oT, hz, hT, r1, r2, r3, r4⟩
  · have hTy : s.TypeIs (.ref z) "zip" := ⟨_, hz, rfl⟩
    unfold pyNext
    refine wpAny_bind (wpAny_attempt (wpAny_callSpecial?_slot (name := Str.ofString "__next__") hTy F.slot_zip_next
      (wpAny_call_entry F.slot_zip_next hTy F.entry_zip_next (zipD2_next_end Z D1 D2 hz hTI hTO h1 h2 (Nat.le_refl _) (Nat.le_refl _) (.inl rfl) fun h' tk e hk he => ?_) (F.args_zip_next_1 _))))
    obtain ⟨o, ho, hc⟩ := he
    refine wpAny_bind (wpAny_isInstance (T := "StopIteration") (b := true) ⟨o, ho, hc⟩ isSubtype_stop ?_)
    exact wpAny_pure (hQ _ _ hk)
  · have hTy : s.TypeIs (.ref z) "zip" := ⟨_, hz, rfl⟩
    unfold pyNext
    refine wpAny_bind (wpAny_attempt (wpAny_callSpecial?_slot (name := Str.ofString "__next__") hTy F.slot_zip_next
      (wpAny_call_entry F.slot_zip_next hTy F.entry_zip_next (heldD_end Z D1 hz hT hTI h1 fun h' e hk he => ?_) (F.args_zip_next_1 _))))
    obtain ⟨o, ho, hc⟩ := he
    refine wpAny_bind (wpAny_isInstance (T := "StopIteration") (b := true) ⟨o, ho, hc⟩ isSubtype_stop ?_)
    exact wpAny_pure (hQ _ _ fun c o c1 _ c2 _ e => hk c o c1 c2 e)
end
/-- the tuples made so far -/
structure ZG (P1 P2 : Nat → Value → Prop) (lo : Addr) (h : Heap) (as : List Addr) : Prop where
  rise : as.Pairwise (· < ·)
  above : ∀ a ∈ as, lo ≤ a
  pairs : ∀ (j : Nat) (a : Addr), as[j]? = some a → ∃ x y, P1 j x ∧ P2 j y ∧ IsTupOf2 h a x y
theorem ZG.there {P1 P2 : Nat → Value → Prop} {lo : Addr} {h : Heap} {as : List Addr} (g : ZG P1 P2 lo h as) {a : Addr} (ha : a ∈ as) : a < h.objs.size := by
  obtain ⟨j, hj⟩ := List.mem_iff_getElem?.mp ha
  obtain ⟨_, _, _, _, e⟩ := g.pairs j a hj
  exact Heap.lt_size e
section
variable {prog : Program} {w : World} {A : Around} {s : Shared} {R : Result → Shared → Prop} {z TI TO i1 i2 S lo : Addr} {fp1 fp2 : List Addr} {n : Nat} {P1 P2 : Nat → Value → Prop} {St1 St2 : Nat → Heap → Prop}
theorem zloop (Z : ZipSep2 z TI TO i1 i2 fp1 fp2) (D1 : Draws prog w A.in1.in1 i1 fp1 n P1 St1) (D2 : Draws prog w A.in1.in1 i2 fp2 n P2 St2) (hlo : z < lo ∧ TO < lo ∧ i1 < lo ∧ i2 < lo ∧ S < lo)
    (a0 : S ≠ z) (a1 : S ≠ TI) (a2 : S ≠ TO) (a3 : S ∉ fp1) (a4 : S ∉ fp2) (hn : n ≤ sizeLine) (res : Value) {h₁ : Heap}
    (hR : ∀ h' tk acc c as, (∀ b o, b ≠ S → b ≠ z → b ≠ TO → b ≠ i1 → b ≠ i2 → h₁.get? b = some o → h'.get? b = some o) → h'.get? S = some { cls := .type "list", dict := none, data := .seq acc c, slots := #[] } → as.length = n → ZG P1 P2 lo h' as →
      acc.toList = as.map Value.ref → R (.ok (.ret res)) { s with heap := h', toks := tk }) :
    ∀ (k i : Nat) (h : Heap) (tk c : Nat) (acc : Array Value) (as : List Addr), n - i = k → i ≤ n → ZSt z TI TO i1 i2 S St1 St2 i h → (∀ b o, b ≠ S → b ≠ z → b ≠ TO → b ≠ i1 → b ≠ i2 → h₁.get? b = some o → h.get? b = some o) →
      h.get? S = some { cls := .type "list", dict := none, data := .seq acc c, slots := #[] } → acc.toList = as.map Value.ref → as.length = i → ZG P1 P2 lo h as → lo ≤ h.objs.size →
      codeAny (model prog w) A (.builtin "list.extend.loop" ⟨[.ref S, .ref z, res], []⟩) R { s with heap := h, toks := tk } := by
  obtain ⟨l0, l1, l2, l3, l4⟩ := hlo
  have Si1 : S ≠ i1 := fun e => a3 (e ▸ Z.mem1)
  have Si2 : S ≠ i2 := fun e => a4 (e ▸ Z.mem2)
  intro k
  induction k with
  | zero =>
    intro i h tk c acc as hk hi hst hkeep hS hacc hal hG hIs
    have hin : i = n := by omega
    subst hin
    refine codeAny_builtin PySem.F.entry_extend_loop ?_
    rw [Around.under_plainId PySem.F.plain_extend_loop _]
    show wpAny _ A.in1 (pyNext (.ref z) >>= _) _ _ _
    refine wpAny_bind (zst_done (s := { s with heap := h, toks := tk }) (A := A.in1) Z D1 D2 hst fun h' tk' he => ?_)
    refine wpAny_pure (hR h' tk' acc c as (fun b o h0 h1 h2 h3 h4 e => he b o h1 h2 h3 h4 (hkeep b o h0 h1 h2 h3 h4 e)) (he S _ a0 a2 Si1 Si2 hS) (by omega) ⟨hG.rise, hG.above, fun j a hj => ?_⟩ hacc)
    obtain ⟨x, y, e1, e2, e3⟩ := hG.pairs j a hj
    have la := hG.above a (List.mem_of_getElem? hj)
    exact ⟨x, y, e1, e2, he a _ (gne l0 la) (gne l1 la) (gne l2 la) (gne l3 la) e3⟩
  | succ k ih =>
    intro i h tk c acc as hk hi hst hkeep hS hacc hal hG hIs
    have hlt : i < n := by omega
    have hsz : acc.size = i := by rw [← Array.length_toList, hacc, List.length_map, hal]
    refine codeAny_builtin PySem.F.entry_extend_loop ?_
    rw [Around.under_plainId PySem.F.plain_extend_loop _]
    show wpAny _ A.in1 (pyNext (.ref z) >>= _) _ _ _
    have hSl : S < h.objs.size := Heap.lt_size hS
    refine wpAny_bind (zst_item (s := { s with heap := h, toks := tk }) (S := S) (A := A.in1) Z D1 D2 hst hSl hlt (Nat.lt_of_lt_of_le l2 hIs) (Nat.lt_of_lt_of_le l3 hIs) fun x1 x2 h' tk' p1 p2 hst' ht hz hkp => ?_)
    dsimp only at ht hz hkp ⊢
    have hS' := hkp S _ a0 a2 Si1 Si2 hS
    have up : ∀ b o, b ≠ S → h'.get? b = some o → (h'.update S (Obj.mapSeq (·.push (Value.ref h.objs.size)))).get? b = some o := fun b o hb e => (Heap.get?_update_other _ _ (Ne.symm hb)).trans e
    show wpAny _ A.in1 (updateSeq S (·.push (Value.ref h.objs.size)) >>= _) _ _ _
    refine wpAny_bind ?_
    refine wpAny_updateSeq hS' rfl (wpAny_pure ⟨plainId_quiet PySem.F.plain_extend_loop _, ih (i + 1) _ tk' _ (acc.push (Value.ref h.objs.size)) (as ++ [h.objs.size]) (by omega) hlt (hst'.keep D1 D2 up a0 a1 a2 a3 a4)
      (fun b o h0 h1 h2 h3 h4 e => up b o h0 (hkp b o h1 h2 h3 h4 (hkeep b o h0 h1 h2 h3 h4 e))) (Heap.get?_update_self _ hS' rfl) (by rw [Array.toList_push, hacc, List.map_append]; rfl) (by rw [List.length_append, hal]; rfl) ⟨?_, ?_, ?_⟩ ?_⟩) (by rw [hsz]; omega) (by show (acc.push (Value.ref h.objs.size)).size ≤ sizeLine + 1; rw [Array.size_push, hsz]; omega)
    · refine List.pairwise_append.mpr ⟨hG.rise, List.pairwise_singleton _ _, fun a ha b hb => ?_⟩
      rw [List.mem_singleton.mp hb]
      exact hG.there ha
    · intro a ha
      rcases List.mem_append.mp ha with ha | ha
      · exact hG.above a ha
      · rw [List.mem_singleton.mp ha]; exact hIs
    · intro j b hj
      rcases Nat.lt_trichotomy j as.length with h1 | h1 | h1
      · rw [List.getElem?_append_left h1] at hj
        obtain ⟨x, y, e1, e2, e3⟩ := hG.pairs j b hj
        have hb := hG.above b (List.mem_of_getElem? hj)
        exact ⟨x, y, e1, e2, up b _ (gne l4 hb) (hkp b _ (gne l0 hb) (gne l1 hb) (gne l2 hb) (gne l3 hb) e3)⟩
      · subst h1
        have hb : h.objs.size = b := by simpa using hj
        subst hb
        exact ⟨x1, x2, by rw [hal]; exact p1, by rw [hal]; exact p2, up _ _ (Nat.ne_of_gt hSl) ht⟩
      · have hnone : (as ++ [h.objs.size])[j]? = none := List.getElem?_eq_none (by rw [List.length_append, List.length_singleton]; omega)
        rw [hnone] at hj; cases hj
    · have e : (h'.update S (Obj.mapSeq (·.push (Value.ref h.objs.size)))).get? h.objs.size = _ := up _ _ (Nat.ne_of_gt hSl) ht
      exact Nat.le_trans hIs (Nat.le_of_lt (Heap.lt_size e))
theorem zip_no_len : typeLookup (.type "zip") "__len__" = pure none := am_miss_of_fast (by decide +kernel)
theorem zip_no_hint : typeLookup (.type "zip") "__length_hint__" = pure none := am_miss_of_fast (by decide +kernel)
theorem zextend (Z : ZipSep2 z TI TO i1 i2 fp1 fp2) (D1 : Draws prog w A.in1.in1 i1 fp1 n P1 St1) (D2 : Draws prog w A.in1.in1 i2 fp2 n P2 St2) (hlo : z < lo ∧ TO < lo ∧ i1 < lo ∧ i2 < lo ∧ S < lo)
    (a0 : S ≠ z) (a1 : S ≠ TI) (a2 : S ≠ TO) (a3 : S ∉ fp1) (a4 : S ∉ fp2) (hn : n ≤ sizeLine) (res : Value) (hst : ZSt z TI TO i1 i2 S St1 St2 0 s.heap) (hz : IsZip s.heap z TI TO .none) (c₀ : Nat) (hS : s.heap.get? S = some { cls := .type "list", data := .seq #[] c₀ }) (hlo2 : lo ≤ s.heap.objs.size)
    (hR : ∀ h' tk acc c as, (∀ b o, b ≠ S → b ≠ z → b ≠ TO → b ≠ i1 → b ≠ i2 → s.heap.get? b = some o → h'.get? b = some o) → h'.get? S = some { cls := .type "list", dict := none, data := .seq acc c, slots := #[] } → as.length = n → ZG P1 P2 lo h' as →
      acc.toList = as.map Value.ref → R (.ok (.ret res)) { s with heap := h', toks := tk }) :
    wpAny (model prog w) A.in1 (Builtin.List.listExtendWith (.ref S) (.ref z) res)
      (fun fin s' => match fin with | .done f => R (.ok f) s' | .again c' => c'.quiet = true ∧ codeAny (model prog w) A c' R s') (fun e s' => R (.error e) s') s := by
  have hT : s.TypeIs (.ref z) "zip" := ⟨_, hz, rfl⟩
  unfold Builtin.List.listExtendWith
  refine wpAny_bind (wpAny_typeOf (T := "zip") hT ?_)
  have h1 : Builtin.List.listSameRef (.ref S) (.ref z) = false := by simp [Builtin.List.listSameRef, a0]
  have h2 : (Value.type "zip" == Value.type "list") = false := by decide
  have h3 : (Value.type "zip" == Value.type "tuple") = false := by decide
  simp only [h1, h2, h3, Bool.or_false, Bool.false_eq_true, if_false]
  refine wpAny_bind (wpAny_pyIter_zip hz ?_)
  refine wpAny_bind (wpAny_holding ?_)
  unfold Builtin.List.listLengthHint
  refine wpAny_bind (wpAny_specialOf hT zip_no_len ?_)
  show wpAny _ A.in1 (specialOf (Value.ref z) (Str.ofString "__length_hint__") >>= _) _ _ _
  refine wpAny_bind (wpAny_specialOf hT zip_no_hint ?_)
  refine wpAny_pure ?_
  show wpAny _ A.in1 (rule "list.extend.makes-room" >>= fun _ => Builtin.List.listTouch (.ref S) >>= fun _ =>
    again (.builtin "list.extend.loop" ⟨[.ref S, .ref z, res], []⟩)) _ _ _
  refine wpAny_bind (wpAny_rule ?_)
  refine wpAny_bind ?_
  show wpAny _ _ (updateSeq S (·.push .none) >>= fun _ => updateSeq S (·.pop)) _ _ _
  refine wpAny_bind (wpAny_updateSeq hS rfl ?_)
  have hS₂ := Heap.get?_update_self (Obj.mapSeq (·.push Value.none)) hS rfl
  refine wpAny_updateSeq (hz := by seq_fits) hS₂ rfl ?_
  have hS₃ := Heap.get?_update_self (Obj.mapSeq (·.pop)) hS₂ rfl
  have oth : ∀ b o, b ≠ S → s.heap.get? b = some o → ((s.heap.update S (Obj.mapSeq (·.push Value.none))).update S (Obj.mapSeq (·.pop))).get? b = some o := fun b o hb e => (Heap.get?_update_other _ _ (Ne.symm hb)).trans ((Heap.get?_update_other _ _ (Ne.symm hb)).trans e)
  refine wpAny_pure ⟨plainId_quiet PySem.F.plain_extend_loop _, ?_⟩
  refine zloop (s := s) (h₁ := s.heap) Z D1 D2 hlo a0 a1 a2 a3 a4 hn res hR n 0 _ s.toks _ #[] [] rfl (Nat.zero_le _) (hst.keep D1 D2 oth a0 a1 a2 a3 a4) (fun b o hb _ _ _ _ e => oth b o hb e) hS₃ rfl rfl ⟨List.Pairwise.nil, (fun _ ha => nomatch ha), (fun j a hj => by simp at hj)⟩ ?_
  rw [Heap.size_update, Heap.size_update]
  exact hlo2
theorem zinit (Z : ZipSep2 z TI TO i1 i2 fp1 fp2) (D1 : Draws prog w A.in1.in1 i1 fp1 n P1 St1) (D2 : Draws prog w A.in1.in1 i2 fp2 n P2 St2) (hlo : z < lo ∧ TO < lo ∧ i1 < lo ∧ i2 < lo ∧ S < lo)
    (a0 : S ≠ z) (a1 : S ≠ TI) (a2 : S ≠ TO) (a3 : S ∉ fp1) (a4 : S ∉ fp2) (hn : n ≤ sizeLine) (hst : ZSt z TI TO i1 i2 S St1 St2 0 s.heap) (hz : IsZip s.heap z TI TO .none) (hS : s.heap.get? S = some { cls := .type "list", data := .seq #[] }) (hlo2 : lo ≤ s.heap.objs.size)
    (hR : ∀ h' tk acc c as, (∀ b o, b ≠ S → b ≠ z → b ≠ TO → b ≠ i1 → b ≠ i2 → s.heap.get? b = some o → h'.get? b = some o) → h'.get? S = some { cls := .type "list", dict := none, data := .seq acc c, slots := #[] } → as.length = n → ZG P1 P2 lo h' as →
      acc.toList = as.map Value.ref → R (.ok (.ret .none)) { s with heap := h', toks := tk }) :
    wpAny (model prog w) A.in1 (Builtin.«list.__init__» ⟨[.ref S, .ref z], []⟩)
      (fun fin s' => match fin with | .done f => R (.ok f) s' | .again c' => c'.quiet = true ∧ codeAny (model prog w) A c' R s') (fun e s' => R (.error e) s') s := by
  show wpAny _ _ (do let old ← Builtin.List.listItems (.ref S); Builtin.List.listUpdate (.ref S) (fun _ => #[]); letGo old.toList.reverse; Builtin.List.listExtendWith (.ref S) (.ref z) .none) _ _ s
  refine wpAny_bind ?_
  unfold Builtin.List.listItems
  refine wpAny_bind (wpAny_seqItems hS rfl (wpAny_pure ?_))
  show wpAny _ _ (updateSeq S (fun _ => #[]) >>= fun _ => letGo (#[] : Array Value).toList.reverse >>= fun _ => Builtin.List.listExtendWith (.ref S) (.ref z) .none) _ _ s
  refine wpAny_bind (wpAny_updateSeq hS rfl ?_)
  have hS₂ := Heap.get?_update_self (Obj.mapSeq (fun _ => (#[] : Array Value))) hS rfl
  have oth : ∀ b o, b ≠ S → s.heap.get? b = some o → (s.heap.update S (Obj.mapSeq (fun _ => (#[] : Array Value)))).get? b = some o :=
    fun b o hb e => (Heap.get?_update_other _ _ (Ne.symm hb)).trans e
  refine wpAny_bind (wpAny_letGo ?_)
  refine zextend (s := { s with heap := s.heap.update S (Obj.mapSeq (fun _ => (#[] : Array Value))) }) Z D1 D2 hlo a0 a1 a2 a3 a4 hn .none (hst.keep D1 D2 oth a0 a1 a2 a3 a4) (oth _ _ a0.symm hz) _ hS₂ (by show lo ≤ (s.heap.update S _).objs.size; rw [Heap.size_update]; exact hlo2) fun h' tk acc c as hk hS' hl hG hacc => ?_
  exact hR h' tk acc c as (fun b o h0 h1 h2 h3 h4 e => hk b o h0 h1 h2 h3 h4 (oth b o h0 e)) hS' hl hG hacc
end
section
variable {prog : Program} {w : World} {A : Around} {E : Value → Shared → Prop} {s : Shared} {z TI TO i1 i2 : Addr} {fp1 fp2 : List Addr} {n : Nat} {P1 P2 : Nat → Value → Prop} {St1 St2 : Nat → Heap → Prop}
/-- list(z), z a new zip object over two iterators with n items each -/
theorem zcall {Q : Value → Shared → Prop} (Z : ZipSep2 z TI TO i1 i2 fp1 fp2) (D1 : Draws prog w A.in1.in1.in1 i1 fp1 n P1 St1) (D2 : Draws prog w A.in1.in1.in1 i2 fp2 n P2 St2) (lt : z < s.heap.objs.size ∧ TO < s.heap.objs.size ∧ i1 < s.heap.objs.size ∧ i2 < s.heap.objs.size ∧ TI < s.heap.objs.size)
    (hf1 : ∀ b ∈ fp1, b < s.heap.objs.size) (hf2 : ∀ b ∈ fp2, b < s.heap.objs.size) (hn : n ≤ sizeLine) (hTI : IsTupOf2 s.heap TI (.ref i1) (.ref i2)) (st1 : St1 0 s.heap) (st2 : St2 0 s.heap) (hz : IsZip s.heap z TI TO .none) (hTO : ∃ a b, IsTupOf2 s.heap TO a b)
    (hQ : ∀ h' tk acc c as, (∀ b o, b ≠ z → b ≠ TO → b ≠ i1 → b ≠ i2 → s.heap.get? b = some o → h'.get? b = some o) → h'.get? s.heap.objs.size = some { cls := .type "list", dict := none, data := .seq acc c, slots := #[] } → as.length = n → ZG P1 P2 (s.heap.objs.size + 1) h' as →
      acc.toList = as.map Value.ref → Q (.ref s.heap.objs.size) { s with heap := h', toks := tk }) :
    wpAny (model prog w) A (call (.type "list") [.ref z]) Q E s := by
  obtain ⟨l0, l1, l2, l3, l4⟩ := lt
  refine callType_codes (Q₁ := fun obj s₁ => obj = .ref s.heap.objs.size ∧ s₁ = { s with heap := s.heap.push { cls := .type "list", data := .seq #[] } }) PySem.F.called_list (PySem.F.typeCall_list_1 _) PySem.F.entry_list_init
    (code_list_new _ ⟨rfl, rfl⟩) fun obj s₁ h₁ => ?_
  obtain ⟨rfl, rfl⟩ := h₁
  have hS : (s.heap.push { cls := .type "list", data := .seq #[] }).get? s.heap.objs.size = some { cls := .type "list", data := .seq #[] } := Heap.get?_push_size _ rfl
  have up : ∀ b o, s.heap.get? b = some o → (s.heap.push { cls := .type "list", data := .seq #[] }).get? b = some o := fun b o e => Heap.get?_push_of_some _ e
  obtain ⟨a, b, hTO⟩ := hTO
  refine ⟨⟨_, hS, rfl⟩, PySem.F.args_list_init_2 _ _, zinit (A := A.in1) (lo := s.heap.objs.size + 1) Z D1 D2 ⟨Nat.lt_succ_of_lt l0, Nat.lt_succ_of_lt l1, Nat.lt_succ_of_lt l2, Nat.lt_succ_of_lt l3, Nat.lt_succ_self _⟩ (Nat.ne_of_gt l0) (Nat.ne_of_gt l4) (Nat.ne_of_gt l1) (fun h => Nat.lt_irrefl _ (hf1 _ h)) (fun h => Nat.lt_irrefl _ (hf2 _ h)) hn
    ⟨up _ _ hTI, D1.frame _ _ _ st1 fun b _ o e => up b o e, D2.frame _ _ _ st2 fun b _ o e => up b o e, .inl ⟨up _ _ hz, a, b, up _ _ hTO⟩⟩ (up _ _ hz) hS (by show s.heap.objs.size + 1 ≤ (s.heap.push _).objs.size; rw [Heap.size_push]; exact Nat.le_refl _) fun h' tk acc c as hk hS' hl hG hacc => ?_⟩
  exact ⟨rfl, hQ h' tk acc c as (fun b o h1 h2 h3 h4 e => hk b o (Nat.ne_of_lt (Heap.lt_size e)) h1 h2 h3 h4 (up b o e)) hS' hl hG hacc⟩
end
end Lz

namespace PySem
open PySem.Spec PyProof.Rows PySem.Calls
abbrev rzT (h : Heap) (o1 : Obj) (r : Addr) : Heap := (h.push o1).push { cls := .type "tuple", data := .seq #[.ref h.objs.size, .ref r] }
abbrev rzO (h : Heap) (o1 : Obj) (r : Addr) : Heap := (rzT h o1 r).push { cls := .type "tuple", data := .seq #[.none, .none] }
abbrev rzZ (h : Heap) (o1 : Obj) (r : Addr) : Heap := (rzO h o1 r).push { cls := .type "zip", data := .fields #[.none, .bool false, .bool false, .ref (h.push o1).objs.size, .ref (rzT h o1 r).objs.size] }
theorem meets_zip_newR {v1 : Value} {r l2 : Addr} {k : Int} {o1 : Obj} {H1 : Heap → Prop} (B1 : Begins v1 o1 H1) :
    Meets (Builtin.«zip.__new__» ⟨[.type "zip", v1, .ref r], []⟩) (fun _ R s => (H1 s.heap ∧ s.heap.IsRevIter r l2 k) ∧
      R (.ok (.ret (.ref (rzO s.heap o1 r).objs.size))) { s with heap := rzZ s.heap o1 r }) :=
  .of_wp fun prog w A R s h => by
    obtain ⟨hp, g, d, tk, os⟩ := s; obtain ⟨⟨h1, h2⟩, h⟩ := h
    have hsub := sub_zip
    have q1 : ∀ {A' : Around} {E : Value → Shared → Prop} {Q : Value → Shared → Prop}, Q (.ref hp.objs.size) ⟨(hp.push o1), g, d, tk, os⟩ → wpAny (model prog w) A' (pyIter v1) Q E ⟨hp, g, d, tk, os⟩ :=
      fun q => B1.iter prog w _ _ ⟨hp, g, d, tk, os⟩ _ (B1.keeps _ _ h1 fun b o' e => e) q
    have q2 : ∀ {A' : Around} {E : Value → Shared → Prop} {Q : Value → Shared → Prop}, Q (.ref r) ⟨(hp.push o1), g, d, tk, os⟩ → wpAny (model prog w) A' (pyIter (.ref r)) Q E ⟨(hp.push o1), g, d, tk, os⟩ :=
      fun q => wpAny_pyIter_revIter (s := ⟨(hp.push o1), g, d, tk, os⟩) (l := l2) (i := k) (h2.at fun o e => Heap.get?_push_of_some _ e) q
    wp_walk using q1, q2
    exact ⟨_, rfl, h⟩
section
variable {prog : Program} {w : World} {A : Around} {E : Value → Shared → Prop} {s : Shared}
theorem zip_beginsR {v1 : Value} {r l2 : Addr} {k : Int} {o1 : Obj} {H1 : Heap → Prop} {Q : Value → Shared → Prop} (B1 : Begins v1 o1 H1) (h1 : H1 s.heap) (h2 : s.heap.IsRevIter r l2 k)
    (h : ∀ h', IsZip h' (s.heap.objs.size + 3) (s.heap.objs.size + 1) (s.heap.objs.size + 2) .none → IsTupOf2 h' (s.heap.objs.size + 1) (.ref s.heap.objs.size) (.ref r) →
      IsTupOf2 h' (s.heap.objs.size + 2) .none .none → h'.get? s.heap.objs.size = some o1 → h'.objs.size = s.heap.objs.size + 4 →
      (∀ c o, s.heap.get? c = some o → h'.get? c = some o) → Q (.ref (s.heap.objs.size + 3)) { s with heap := h' }) :
    wpAny (model prog w) A (call (.type "zip") [v1, .ref r]) Q E s := by
  refine callType_new F.called_zip (by decide) (F.typeCall_zip_2 _ _) (F.newCall_zip_2 _ _) (fun obj => F.args_object_init_3 obj _ _) F.entry_zip_new
    (meets_zip_newR (k := k) B1) ⟨⟨h1, h2⟩, ?_⟩
  have z1 : (s.heap.push o1).objs.size = s.heap.objs.size + 1 := by rw [Heap.size_push]
  have zT : (rzT s.heap o1 r).objs.size = s.heap.objs.size + 2 := by rw [Heap.size_push, z1]
  have zO : (rzO s.heap o1 r).objs.size = s.heap.objs.size + 3 := by rw [Heap.size_push, zT]
  have zZ : (rzZ s.heap o1 r).objs.size = s.heap.objs.size + 4 := by rw [Heap.size_push, zO]
  have gZ : (rzZ s.heap o1 r).get? (rzO s.heap o1 r).objs.size = some { cls := .type "zip", data := .fields #[.none, .bool false, .bool false, .ref (s.heap.push o1).objs.size, .ref (rzT s.heap o1 r).objs.size] } := Heap.get?_push_size _ rfl
  have gO : (rzZ s.heap o1 r).get? (rzT s.heap o1 r).objs.size = some { cls := .type "tuple", data := .seq #[.none, .none] } := Heap.get?_push_of_some _ (Heap.get?_push_size _ rfl)
  have gT : (rzZ s.heap o1 r).get? (s.heap.push o1).objs.size = some { cls := .type "tuple", data := .seq #[.ref s.heap.objs.size, .ref r] } := Heap.get?_push_of_some _ (Heap.get?_push_of_some _ (Heap.get?_push_size _ rfl))
  have g1 : (rzZ s.heap o1 r).get? s.heap.objs.size = some o1 := Heap.get?_push_of_some _ (Heap.get?_push_of_some _ (Heap.get?_push_of_some _ (Heap.get?_push_size _ B1.free)))
  rw [zO, zT, z1] at gZ
  rw [zT] at gO
  rw [z1] at gT
  show _ ∧ _
  rw [zO]
  exact ⟨⟨_, gZ, rfl⟩, h _ gZ gT gO g1 zZ fun c o e => Heap.get?_push_of_some _ (Heap.get?_push_of_some _ (Heap.get?_push_of_some _ (Heap.get?_push_of_some _ e)))⟩
end
end PySem
namespace Lx
open PySem PySem.Spec PyProof.Rows L2
/-- the tuples tracked at their addresses -/
def putP : Hp → List Addr → List (V × V) → Hp
  | H, a :: as, p :: ps => putP (upd H a (.tup [p.1, p.2])) as ps
  | H, _, _ => H
theorem putP_off {b : Addr} : ∀ (as : List Addr) (ps : List (V × V)) (H : Hp), b ∉ as → putP H as ps b = H b
  | [], _, _, _ => rfl
  | _ :: _, [], _, _ => rfl
  | a :: as, p :: ps, H, h => by
    show putP (upd H a (.tup [p.1, p.2])) as ps b = H b
    rw [putP_off as ps _ (fun z => h (List.mem_cons_of_mem _ z)), upd_ne (fun z => h (by rw [z]; exact List.mem_cons_self))]
theorem putP_at : ∀ (as : List Addr) (ps : List (V × V)) (H : Hp), as.length = ps.length → as.Nodup → ∀ (i : Nat) (t : Addr) (p : V × V), as[i]? = some t → ps[i]? = some p → putP H as ps t = some (.tup [p.1, p.2])
  | [], _, _, _, _, i, t, p, h, _ => by simp at h
  | _ :: _, [], _, h, _, _, _, _, _, _ => by cases h
  | a :: as, q :: ps, H, h, hn, i, t, p, h1, h2 => by
    have hn' := List.nodup_cons.mp hn
    cases i with
    | zero =>
      cases h1; cases h2
      show putP (upd H a (.tup [q.1, q.2])) as ps a = _
      rw [putP_off as ps _ hn'.1, upd_same]
    | succ i => exact putP_at as ps (upd H a (.tup [q.1, q.2])) (Nat.succ.inj h) hn'.2 i t p h1 h2
def tListZip (K : PySem.W.Frag) (rv : Bool) (ta : TA) : TE := fun σ H Q => ta σ H fun vs H1 => ∃ (a b : Addr) (xs ys : List V), vs = [.ref a, .ref b] ∧ SqL K H1 a xs ∧ SqL K H1 b ys ∧ xs.length = ys.length ∧
  ∀ (H' : Hp) (p : Addr) (ts : List Addr), Same H1 H' → H1 p = none → (∀ t ∈ ts, H1 t = none) → p ∉ ts → ts.Nodup → H' p = some (.lst (ts.map V.ref)) → ts.length = xs.length →
    (∀ (i : Nat) (t : Addr) (x y : V), ts[i]? = some t → xs[i]? = some x → (if rv then ys.reverse else ys)[i]? = some y → H' t = some (.tup [x, y])) → Q (.ref p) H'
section
variable {X : Cx}
theorem zip_laid {pins : List (Addr × Obj)} {σ : L2.St} {H : Hp} {s : Shared} {h' : Heap} {tk : Nat} {xs ys : List V} {us ws : List Value} {acc : Array Value} {c : Nat} {as : List Addr} {N : Addr} (I : Inv X pins σ H s) (hz : xs.length ≤ sizeLine) (r1 : Vals xs us) (r2 : Vals ys ws) (hxy : xs.length = ys.length)
    (hk : ∀ b o, s.heap.get? b = some o → h'.get? b = some o) (hN : s.heap.objs.size ≤ N) (hS : h'.get? N = some { cls := .type "list", dict := none, data := .seq acc c, slots := #[] }) (hG : Lz.ZG (fun i v => us[i]? = some v) (fun i v => ws[i]? = some v) (N + 1) h' as) (hl : as.length = xs.length) (hacc : acc.toList = as.map Value.ref) :
    ∃ H' : Hp, Same H H' ∧ H N = none ∧ (∀ t ∈ as, H t = none) ∧ N ∉ as ∧ as.Nodup ∧ H' N = some (.lst (as.map V.ref)) ∧ (∀ (i : Nat) (t : Addr) (x y : V), as[i]? = some t → xs[i]? = some x → ys[i]? = some y → H' t = some (.tup [x, y])) ∧ Inv X pins σ H' { s with heap := h', toks := tk } := by
  have hSn : N ∉ as := fun z => Nat.lt_irrefl _ (hG.above _ z)
  have nd : as.Nodup := List.Pairwise.imp (fun {a b} (h : a < b) => Nat.ne_of_lt h) hG.rise
  have new : ∀ t ∈ as, H t = none := fun t ht => I.hok.fresh (Nat.le_trans hN (Nat.le_of_lt (hG.above t ht)))
  have newS : H N = none := I.hok.fresh hN
  have lz : (xs.zip ys).length = xs.length := by rw [List.length_zip, ← hxy, Nat.min_self]
  have atP := putP_at as (xs.zip ys) (upd H N (.lst (as.map V.ref))) (by rw [lz]; exact hl) nd
  have off : ∀ b, b ∉ as → b ≠ N → putP (upd H N (.lst (as.map V.ref))) as (xs.zip ys) b = H b := fun b h1 h2 => by rw [putP_off as _ _ h1, upd_ne h2]
  have low : ∀ b o, s.heap.get? b = some o → b ∉ as ∧ b ≠ N := fun b o e => ⟨fun z => absurd (Heap.lt_size e) (Nat.not_lt.mpr (Nat.le_trans hN (Nat.le_of_lt (hG.above b z)))), Nat.ne_of_lt (Nat.lt_of_lt_of_le (Heap.lt_size e) hN)⟩
  have kp : ∀ b u, H b = some u → (putP (upd H N (.lst (as.map V.ref))) as (xs.zip ys)) b = some u := fun b u e => by
    rw [off b (fun z => by rw [new b z] at e; cases e) (fun z => by rw [z, newS] at e; cases e)]
    exact e
  have eS : putP (upd H N (.lst (as.map V.ref))) as (xs.zip ys) N = some (.lst (as.map V.ref)) := by rw [putP_off as _ _ hSn, upd_same]
  have zget : ∀ (i : Nat) (x y : V), xs[i]? = some x → ys[i]? = some y → (xs.zip ys)[i]? = some (x, y) := fun i x y e1 e2 => by
    rw [List.getElem?_zip_eq_some]
    exact ⟨e1, e2⟩
  refine ⟨putP (upd H N (.lst (as.map V.ref))) as (xs.zip ys), kp, newS, new, hSn, nd, eS, fun i t x y e1 e2 e3 => atP i t (x, y) e1 (zget i x y e2 e3), ?_⟩
  refine I.call' (ch := []) rfl ⟨fun b o q _ _ _ => hk b o q, fun b o q _ _ _ => ⟨o.slots, hk b o q⟩, fun b o q n _ => ?_, fun b o q _ => ⟨o, hk b o q⟩, fun b xs q => kp b _ q, fun b o u q => kp b _ q, fun b ps q => ⟨#[], by rw [kp b _ q]; simp⟩⟩ (fun b u q => ?_) I.bare fun b z => by simp at z
  · obtain ⟨z1, z2⟩ := low b o q
    rw [off b z1 z2]
    exact n
  · by_cases hb : b ∈ as
    · obtain ⟨j, e1⟩ := List.mem_iff_getElem?.mp hb
      have hj : j < xs.length := by rw [← hl]; exact (List.getElem?_eq_some_iff.mp e1).1
      have ex := List.getElem?_eq_getElem hj
      have ey := List.getElem?_eq_getElem (show j < ys.length by omega)
      have e3 := atP j b _ e1 (zget j _ _ ex ey)
      rw [e3] at q
      cases q
      obtain ⟨u1, u2, f1, f2, f3⟩ := hG.pairs j b e1
      obtain ⟨v1, g1, rv1⟩ := r1.get ex
      obtain ⟨v2, g2, rv2⟩ := r2.get ey
      rw [f1] at g1; cases g1
      rw [f2] at g2; cases g2
      exact ⟨by show 2 ≤ sizeLine; decide, [u1, u2], .cons rv1 (.cons rv2 .nil), ⟨_, f3, rfl, _, rfl⟩⟩
    · by_cases hb2 : b = N
      · rw [hb2] at q ⊢
        rw [eS] at q
        cases q
        refine ⟨by rw [List.length_map]; omega, acc.toList, c, by rw [hacc]; exact LiI.vals_refs as, ?_⟩
        rw [Array.toArray_toList]
        exact hS
      · rw [off b hb hb2] at q
        exact (I.hok b u q).stay (fun d v _ y => hk d v y) (fun d y => kp d _ y) fun d xs y => kp d _ y
/-- list(zip(e, e2)) of two lists of one length -/
theorem pe_listZip (K : PySem.W.Frag) {e e2 : Expr} {ta : TA} {p p2 q pos : Pos} (hc : X.calm = true) (hg : Gl X "list") (hm : X.mg "list" = none) (hg2 : Gl X "zip") (hm2 : X.mg "zip" = none) (ha : PA X [e, e2] ta) (hK : X.K = K := by rfl)
    (hs : starEach [e, e2] X.env = (false, eval e X.env) :: starEach [e2] X.env := by rfl) (hpl : (backTo q (starEach [e2] X.env)).any (·.1) = false := by rfl)
    (na : starEach [.Call (.Name "zip" p2) [e, e2] [] q] X.env = (false, eval (.Call (.Name "zip" p2) [e, e2] [] q) X.env) :: starEach [] X.env := by rfl) : PE X (.Call (.Name "list" p) [.Call (.Name "zip" p2) [e, e2] [] q] [] pos) (tListZip K false ta) := by
  subst hK
  refine ⟨fun pins s σ H Q I h => ?_⟩
  refine Call_ (ld_blt I hg hm boot_list (PyProof.Rows.callWith_type1 (PyProof.Rows.args_cons (Call_ (ld_blt I hg2 hm2 PyProof.Rows.boot_zip (PyProof.Rows.callWith_type1 (thn (ha.run q pins s σ H _ I h) fun us s1 ⟨vs, H1, I1, r1, q1⟩ => ?_) hs hpl))) na) na rfl))
  obtain ⟨a, b, xs, ys, ex, hqx, hqy, hxy, q1⟩ := q1
  subst ex
  cases r1 with
  | cons r rr =>
    cases rr with
    | cons r' rr =>
      cases rr
      cases r
      cases r'
      obtain ⟨its, rv, p1, hz1⟩ := I1.list hqx
      obtain ⟨its2, rv2, p3, hz2⟩ := I1.list hqy
      refine call_zip_2 p1.isList p3.isList fun h' hz hTI hTO h1 h2 hsz hk => PyProof.Rows.args_nil ?_
      have la := p1.lt
      have lb := p3.lt
      have hn := rv.length
      have hn2 := rv2.length
      have hh := I1.ok.hd hc
      have e1 : its.toArray.size = xs.length := by rw [List.size_toArray]; exact hn.symm
      have e2 : its2.toArray.size = xs.length := by rw [List.size_toArray]; omega
      have D1 := Draws.list (prog := X.prog) (w := X.w) (A := X.A.in1.in1.in1) hh s1.heap.objs.size a (Nat.ne_of_lt la) its.toArray
      have D2 := Draws.list (prog := X.prog) (w := X.w) (A := X.A.in1.in1.in1) hh (s1.heap.objs.size + 1) b (Nat.ne_of_lt (Nat.lt_succ_of_lt lb)) its2.toArray
      rw [e1] at D1
      rw [e2] at D2
      have S := zip_sep2 (N := s1.heap.objs.size) (fp1 := [a]) (fp2 := [b]) (fun c hc => by rw [List.mem_singleton.mp hc]; exact la) (fun c hc => by rw [List.mem_singleton.mp hc]; exact lb)
      have up : ∀ m, m < 5 → s1.heap.objs.size + m < h'.objs.size := fun m hm => by rw [hsz]; exact Nat.add_lt_add_left hm _
      refine Lz.zcall (s := { s1 with heap := h' }) S D1 D2 ⟨up 4 (by decide), up 3 (by decide), up 0 (by decide), up 1 (by decide), up 2 (by decide)⟩ (fun c hc => ?_) (fun c hc => ?_) (by omega) hTI ⟨h1, p1.isList.at fun o e => hk _ o e⟩ ⟨h2, p3.isList.at fun o e => hk _ o e⟩ hz ⟨_, _, hTO⟩ fun h2' tk acc c as hk2 hS hl hG hacc => ?_
      · rcases List.mem_cons.mp hc with z | z
        · rw [z]; exact up 0 (by decide)
        · rw [List.mem_singleton.mp z]; exact Nat.lt_trans la (up 0 (by decide))
      · rcases List.mem_cons.mp hc with z | z
        · rw [z]; exact up 1 (by decide)
        · rw [List.mem_singleton.mp z]; exact Nat.lt_trans lb (up 0 (by decide))
      · have keep : ∀ b o, s1.heap.get? b = some o → h2'.get? b = some o := fun b o e => by
          have l := Heap.lt_size e
          exact hk2 b o (Nat.ne_of_lt (Nat.lt_add_right 4 l)) (Nat.ne_of_lt (Nat.lt_add_right 3 l)) (Nat.ne_of_lt l) (Nat.ne_of_lt (Nat.lt_add_right 1 l)) (hk b o e)
        have hG2 : Lz.ZG (fun i v => its[i]? = some v) (fun i v => its2[i]? = some v) (h'.objs.size + 1) h2' as := ⟨hG.rise, hG.above, fun j a hj => by
          obtain ⟨x, y, z1, z2, z3⟩ := hG.pairs j a hj
          exact ⟨x, y, by simpa using z1, by simpa using z2, z3⟩⟩
        obtain ⟨H', z1, z2, z3, z4, z5, z6, z7, J⟩ := zip_laid (tk := tk) I1 hz1 rv rv2 hxy keep (show s1.heap.objs.size ≤ h'.objs.size by rw [hsz]; exact Nat.le_add_right _ _) hS hG2 hl hacc
        exact ⟨.ref _, H', J, rfl, q1 H' _ as z1 z2 z3 z4 z5 z6 hl z7⟩
theorem apart {N a b : Nat} (h : a ≠ b) : N + a ≠ N + b := by omega
def tListZipR (K : PySem.W.Frag) (te tb : TE) : TE := fun σ H Q => te σ H fun x H1 => tb σ H1 fun y H2 => ∃ (a b : Addr) (xs ys : List V), x = .ref a ∧ y = .ref b ∧ SqL K H2 a xs ∧ SqL K H2 b ys ∧ xs.length = ys.length ∧
  ∀ (H' : Hp) (p : Addr) (ts : List Addr), Same H2 H' → H2 p = none → (∀ t ∈ ts, H2 t = none) → p ∉ ts → ts.Nodup → H' p = some (.lst (ts.map V.ref)) → ts.length = xs.length →
    (∀ (i : Nat) (t : Addr) (x y : V), ts[i]? = some t → xs[i]? = some x → ys.reverse[i]? = some y → H' t = some (.tup [x, y])) → Q (.ref p) H'
/-- list(zip(e, reversed(e2))) of two lists of one length -/
theorem pe_listZipR (K : PySem.W.Frag) {e e2 : Expr} {te tb : TE} {p p2 p3 q q2 pos : Pos} (hc : X.calm = true) (hg : Gl X "list") (hm : X.mg "list" = none) (hg2 : Gl X "zip") (hm2 : X.mg "zip" = none) (hg3 : Gl X "reversed") (hm3 : X.mg "reversed" = none) (he : PE X e te) (hb : PE X e2 tb) (hK : X.K = K := by rfl)
    (hs3 : starEach [e2] X.env = (false, eval e2 X.env) :: starEach [] X.env := by rfl)
    (hs2 : starEach [.Call (.Name "reversed" p3) [e2] [] q2] X.env = (false, eval (.Call (.Name "reversed" p3) [e2] [] q2) X.env) :: starEach [] X.env := by rfl)
    (hs : starEach [e, .Call (.Name "reversed" p3) [e2] [] q2] X.env = (false, eval e X.env) :: starEach [.Call (.Name "reversed" p3) [e2] [] q2] X.env := by rfl) (hpl : (backTo q (starEach [.Call (.Name "reversed" p3) [e2] [] q2] X.env)).any (·.1) = false := by rfl)
    (na : starEach [.Call (.Name "zip" p2) [e, .Call (.Name "reversed" p3) [e2] [] q2] [] q] X.env = (false, eval (.Call (.Name "zip" p2) [e, .Call (.Name "reversed" p3) [e2] [] q2] [] q) X.env) :: starEach [] X.env := by rfl) :
    PE X (.Call (.Name "list" p) [.Call (.Name "zip" p2) [e, .Call (.Name "reversed" p3) [e2] [] q2] [] q] [] pos) (tListZipR K te tb) := by
  subst hK
  refine ⟨fun pins s σ H Q I h => ?_⟩
  refine Call_ (ld_blt I hg hm boot_list (PyProof.Rows.callWith_type1 (PyProof.Rows.args_cons (Call_ (ld_blt I hg2 hm2 PyProof.Rows.boot_zip (PyProof.Rows.callWith_type1 (PyProof.Rows.args_cons (thn (he.run pins s σ H _ I h) fun u s0 ⟨x, H0, I0, r0, q0⟩ => ?_) hs) hs hpl))) na) na rfl))
  refine PyProof.Rows.args_cons (Call_ (ld_blt I0 hg3 hm3 PyProof.Rows.boot_reversed (PyProof.Rows.callWith_type1 (PyProof.Rows.args_cons (thn (hb.run pins s0 σ H0 _ I0 q0) fun u2 s1 ⟨y, H1, I1, r1, q1⟩ => PyProof.Rows.args_nil ?_) hs3) hs3 rfl))) hs2
  obtain ⟨a, b, xs, ys, ex, ey, hqx, hqy, hxy, q1⟩ := q1
  subst ex; subst ey
  obtain rfl : u = Value.ref a := r0
  obtain rfl : u2 = Value.ref b := r1
  obtain ⟨its, rv, p1, hz1⟩ := I1.list hqx
  obtain ⟨its2, rv2, p3, hz2⟩ := I1.list hqy
  refine call_reversed_list p3.isList (PyProof.Rows.args_nil ?_)
  have k0 : ∀ b' o, s1.heap.get? b' = some o → (s1.heap.push (revObj b ((its2.toArray.size : Int) - 1))).get? b' = some o := fun b' o e => Heap.get?_push_of_some _ e
  have la := p1.lt
  have lb := p3.lt
  have hrev : (s1.heap.push (revObj b ((its2.toArray.size : Int) - 1))).IsRevIter s1.heap.objs.size b ((its2.toArray.size : Int) - 1) := ⟨_, Heap.get?_push_size _ rfl, rfl, rfl⟩
  refine zip_beginsR (s := { s1 with heap := s1.heap.push (revObj b ((its2.toArray.size : Int) - 1)) }) (begins_list a its.toArray) (p1.isList.at fun o e => k0 _ o e) hrev fun h' hz hTI hTO h1 hsz hk => PyProof.Rows.args_nil ?_
  have zs : (s1.heap.push (revObj b ((its2.toArray.size : Int) - 1))).objs.size = s1.heap.objs.size + 1 := by rw [Heap.size_push]
  dsimp only at hz hTI hTO h1 hsz hk ⊢
  rw [zs] at hz hTI hTO h1 hsz ⊢
  have hn := rv.length
  have hn2 := rv2.length
  have hh := I1.ok.hd hc
  have e1 : its.toArray.size = xs.length := by rw [List.size_toArray]; exact hn.symm
  have e2 : its2.toArray.size = xs.length := by rw [List.size_toArray]; omega
  have hk0 : ∀ c o, s1.heap.get? c = some o → h'.get? c = some o := fun c o e => hk c o (k0 c o e)
  have D1 := Draws.list (prog := X.prog) (w := X.w) (A := X.A.in1.in1.in1) hh (s1.heap.objs.size + 1) a (Nat.ne_of_lt (Nat.lt_succ_of_lt la)) its.toArray
  have D2 := Lz.drawsRev (prog := X.prog) (w := X.w) (A := X.A.in1.in1.in1) hh s1.heap.objs.size b (Nat.ne_of_lt lb) its2.toArray
  have st2 : (0 : Nat) ≤ its2.toArray.size ∧ h'.IsRevIter s1.heap.objs.size b ((its2.toArray.size : Int) - 1 - ((0 : Nat) : Int)) ∧ h'.IsList b its2.toArray := ⟨Nat.zero_le _, by rw [show (its2.toArray.size : Int) - 1 - ((0 : Nat) : Int) = (its2.toArray.size : Int) - 1 by omega]; exact hrev.at fun o e => hk _ o e, p3.isList.at fun o e => hk0 _ o e⟩
  rw [e1] at D1
  rw [e2] at D2 st2
  have ltN : ∀ {c m : Nat}, c < s1.heap.objs.size → c ≠ s1.heap.objs.size + m := fun h => Nat.ne_of_lt (Nat.lt_add_right _ h)
  have S : ZipSep2 (s1.heap.objs.size + 1 + 3) (s1.heap.objs.size + 1 + 1) (s1.heap.objs.size + 1 + 2) (s1.heap.objs.size + 1) s1.heap.objs.size [s1.heap.objs.size + 1, a] [s1.heap.objs.size, b] := by
    have ka : ∀ m : Nat, s1.heap.objs.size + m ≠ a := fun m => Nat.ne_of_gt (Nat.lt_add_right m la)
    have kb : ∀ m : Nat, s1.heap.objs.size + m ≠ b := fun m => Nat.ne_of_gt (Nat.lt_add_right m lb)
    refine ⟨?_, ?_, ?_, ?_, by simp, ?_, ?_, ?_, by simp, ?_, ?_, ?_, ?_⟩
    · exact (apart (N := s1.heap.objs.size) (a := 2) (b := 4) (by decide))
    · exact (apart (N := s1.heap.objs.size) (a := 3) (b := 4) (by decide))
    · exact (apart (N := s1.heap.objs.size) (a := 2) (b := 3) (by decide))
    · exact (apart (N := s1.heap.objs.size) (a := 2) (b := 1) (by decide))
    · simp only [List.mem_cons, List.not_mem_nil, or_false, not_or]; exact ⟨(apart (N := s1.heap.objs.size) (a := 4) (b := 1) (by decide)), ka 4⟩
    · simp only [List.mem_cons, List.not_mem_nil, or_false, not_or]; exact ⟨(apart (N := s1.heap.objs.size) (a := 3) (b := 1) (by decide)), ka 3⟩
    · exact (apart (N := s1.heap.objs.size) (a := 2) (b := 0) (by decide))
    · simp only [List.mem_cons, List.not_mem_nil, or_false, not_or]; exact ⟨(apart (N := s1.heap.objs.size) (a := 4) (b := 0) (by decide)), kb 4⟩
    · simp only [List.mem_cons, List.not_mem_nil, or_false, not_or]; exact ⟨(apart (N := s1.heap.objs.size) (a := 3) (b := 0) (by decide)), kb 3⟩
    · simp only [List.mem_cons, List.not_mem_nil, or_false, not_or]; exact ⟨(apart (N := s1.heap.objs.size) (a := 1) (b := 0) (by decide)), kb 1⟩
    · simp only [List.mem_cons, List.not_mem_nil, or_false, not_or]; exact ⟨(apart (N := s1.heap.objs.size) (a := 0) (b := 1) (by decide)), ka 0⟩
  have up : ∀ m, m < 5 → s1.heap.objs.size + m < h'.objs.size := fun m hm => by rw [hsz]; show s1.heap.objs.size + m < s1.heap.objs.size + 1 + 4; omega
  refine Lz.zcall (s := { s1 with heap := h' }) S D1 D2 ⟨up 4 (by decide), up 3 (by decide), up 1 (by decide), up 0 (by decide), up 2 (by decide)⟩ (fun c hc => ?_) (fun c hc => ?_) (by omega) hTI ⟨⟨_, h1, rfl, rfl⟩, p1.isList.at fun o e => hk0 _ o e⟩ st2 hz ⟨_, _, hTO⟩ fun h2' tk acc c as hk2 hS hl hG hacc => ?_
  · rcases List.mem_cons.mp hc with z | z
    · rw [z]; exact up 1 (by decide)
    · rw [List.mem_singleton.mp z]; exact Nat.lt_trans la (up 0 (by decide))
  · rcases List.mem_cons.mp hc with z | z
    · rw [z]; exact up 0 (by decide)
    · rw [List.mem_singleton.mp z]; exact Nat.lt_trans lb (up 0 (by decide))
  · have keep : ∀ b o, s1.heap.get? b = some o → h2'.get? b = some o := fun b o e => by
      have l := Heap.lt_size e
      exact hk2 b o (ltN (m := 4) l) (ltN (m := 3) l) (ltN (m := 1) l) (Nat.ne_of_lt l) (hk0 b o e)
    have hG2 : Lz.ZG (fun i v => its[i]? = some v) (fun i v => its2.reverse[i]? = some v) (h'.objs.size + 1) h2' as := ⟨hG.rise, hG.above, fun j a hj => by
      obtain ⟨x, y, z1, z2, z3⟩ := hG.pairs j a hj
      have jl : j < its2.length := by
        have : j < as.length := (List.getElem?_eq_some_iff.mp hj).1
        omega
      refine ⟨x, y, by simpa using z1, ?_, z3⟩
      rw [List.getElem?_reverse jl]
      have z2' : its2.toArray[xs.length - 1 - j]? = some y := z2
      rw [show its2.length = xs.length by omega]
      simpa using z2'⟩
    obtain ⟨H', z1, z2, z3, z4, z5, z6, z7, J⟩ := zip_laid (tk := tk) I1 hz1 rv rv2.reverse (by rw [List.length_reverse]; exact hxy) keep (show s1.heap.objs.size ≤ h'.objs.size by rw [hsz]; omega) hS hG2 hl hacc
    exact ⟨.ref _, H', J, rfl, q1 H' _ as z1 z2 z3 z4 z5 z6 hl z7⟩
end
end Lx

namespace Lx
open PySem PySem.Spec PyProof.Rows L2
/-! ### dicts with ints for keys -/
theorem hu1 {n : Nat} (h : n + 64 < cLine) : n + 1 < cLine := by omega
section
variable {σ : L2.St} {H : Hp} {Q : VK} {td ty tk tv : TE} {a : Addr} {kvs : List (Key × V)} {i : Int} {v : V}
theorem r_dget (h : td σ H fun x H1 => ty σ H1 fun y H2 => ∃ a v, x = .ref a ∧ DGet H2 a y (some v) ∧ Q v H2) : tDGet td ty σ H Q := h
theorem r_dgetI {R : V → Prop} (h : H a = some (.dK kvs)) (e : valV kvs (.inl i) = some v) (q : R v) : ∃ a' v, V.ref a = .ref a' ∧ DGet H a' (.int i) (some v) ∧ R v := ⟨a, v, rfl, e ▸ DGet.k (k := .inl i) h, q⟩
theorem r_din {ta : TE} {Q : VK} (h : ty σ H fun y H1 => td σ H1 fun x H2 => ∃ a o, x = .ref a ∧ DGet H2 a y o ∧ Q (.bl o.isSome) H2) : tDIn ty td σ H Q := h
theorem r_dinI {R : Bool → Prop} (h : H a = some (.dK kvs)) (q : R (valV kvs (.inl i)).isSome) : ∃ a' o, V.ref a = .ref a' ∧ DGet H a' (.int i) o ∧ R o.isSome := ⟨a, _, rfl, DGet.k (k := .inl i) h, q⟩
theorem r_dc {wi : TI} {g : TG} {tt : TT} {vs : List Nat} (h : wi σ H fun J H1 => ∀ D, H1 D = none → ∃ W : Nat → Nat → Hp → Prop, (∃ m, W 0 m (upd H1 D (.dK []))) ∧ ∀ i m H, W i m H →
  (J.stop i H ∧ Q (.ref D) H) ∨ (J.go i H ∧ ∃ Nx : Hp → Prop, (∀ H', Nx H' → ∃ m', m' < m ∧ W (i + 1) m' H') ∧ ∀ x H', J.yld i H x H' → g x (wipe σ vs) H' fun σ2 H2 => wipe σ2 vs = wipe σ vs ∧ tt σ2 H2 fun b H3 =>
    if b = true then tk σ2 H3 fun y H4 => tv σ2 H4 fun z H5 => ∃ kvs k, y = kV k ∧ H5 D = some (.dK kvs) ∧ kvs.length < sizeLine ∧ Nx (upd H5 D (.dK (putK kvs k z))) else Nx H3)) : tDc wi g tt tk tv vs σ H Q := h
end
/-- a dict from places to ints -/
def IsD (H : Hp) (a : Addr) (f : Int → Option Int) : Prop := ∃ kvs, H a = some (.dK kvs) ∧ kvs.length ≤ 100000 ∧ ∀ i, valV kvs (.inl i) = (f i).map V.int
theorem IsD.same {H H' : Hp} {a : Addr} {f : Int → Option Int} (h : IsD H a f) (s : Same H H') : IsD H' a f := by
  obtain ⟨kvs, h1, h2⟩ := h
  exact ⟨kvs, s _ _ h1, h2⟩
theorem IsD.kp {r : Addr} {H H' : Hp} {a : Addr} {f : Int → Option Int} (h : IsD H a f) (s : Kp r H H') (n : a ≠ r) : IsD H' a f := by
  obtain ⟨kvs, h1, h2⟩ := h
  exact ⟨kvs, s _ _ n h1, h2⟩
theorem IsD.get {H : Hp} {a : Addr} {f : Int → Option Int} {i j : Int} (h : IsD H a f) (e : f i = some j) {R : V → Prop} (q : R (.int j)) : ∃ a' v, V.ref a = .ref a' ∧ DGet H a' (.int i) (some v) ∧ R v := by
  obtain ⟨kvs, h1, _, h2⟩ := h
  exact r_dgetI h1 (by rw [h2, e]; rfl) q
theorem IsD.has {H : Hp} {a : Addr} {f : Int → Option Int} {i : Int} (h : IsD H a f) {R : Bool → Prop} (q : R (f i).isSome) : ∃ a' o, V.ref a = .ref a' ∧ DGet H a' (.int i) o ∧ R o.isSome := by
  obtain ⟨kvs, h1, _, h2⟩ := h
  refine r_dinI h1 ?_
  rw [h2, Option.isSome_map]
  exact q
/-- the first n of them, and what they hold -/
def numTo (ns : List Int) (m : Nat) : List (Key × V) := (List.range m).map fun j => (.inl (ns.getD j 0), .int (j : Nat))
theorem valV_num (ns : List Int) (m : Nat) (x : Int) : valV (numTo ns m) (.inl x) = ((List.range m).find? fun j => decide (ns.getD j 0 = x)).map fun j => V.int (j : Nat) := by
  unfold valV numTo
  rw [List.find?_map, Option.map_map]
  have e : ((fun kv : Key × V => decide (kv.1 = .inl x)) ∘ fun j : Nat => ((.inl (ns.getD j 0) : Key), V.int (j : Nat))) = fun j => decide (ns.getD j 0 = x) := by
    funext j
    show decide ((Sum.inl (ns.getD j 0) : Key) = .inl x) = _
    by_cases h : ns.getD j 0 = x
    · rw [decide_eq_true h, h]; exact decide_eq_true rfl
    · rw [decide_eq_false h]; exact decide_eq_false fun z => h (Sum.inl.inj z)
  rw [e]
  rfl
theorem getD_inj {ns : List Int} (hn : ns.Nodup) {i j : Nat} (hi : i < ns.length) (hj : j < ns.length) (h : ns.getD i 0 = ns.getD j 0) : i = j := by
  rw [List.getD_eq_getElem?_getD, List.getD_eq_getElem?_getD, List.getElem?_eq_getElem hi, List.getElem?_eq_getElem hj] at h
  exact (List.getElem_inj hn).mp h
theorem valV_numNone {ns : List Int} (hn : ns.Nodup) {m : Nat} (hm : m < ns.length) : valV (numTo ns m) (.inl (ns.getD m 0)) = none := by
  rw [valV_num]
  have : ((List.range m).find? fun j => decide (ns.getD j 0 = ns.getD m 0)) = none := by
    rw [List.find?_eq_none]
    intro j hj hd
    have hj' := List.mem_range.mp hj
    have := getD_inj hn (by omega) hm (of_decide_eq_true hd)
    omega
  rw [this]
  rfl
theorem numTo_succ {ns : List Int} (hn : ns.Nodup) {m : Nat} (hm : m < ns.length) : putK (numTo ns m) (.inl (ns.getD m 0)) (.int (m : Nat)) = numTo ns (m + 1) := by
  rw [putK_new _ (valV_numNone hn hm)]
  unfold numTo
  rw [List.range_succ, List.map_append]
  rfl
theorem numTo_len (ns : List Int) (m : Nat) : (numTo ns m).length = m := by unfold numTo; rw [List.length_map, List.length_range]
/-- where a place stands in a list -/
def ixO (ns : List Int) (x : Int) : Option Int := if x ∈ ns then some ((ns.idxOf x : Nat) : Int) else none
theorem valV_all {ns : List Int} (hn : ns.Nodup) (x : Int) : valV (numTo ns ns.length) (.inl x) = (ixO ns x).map V.int := by
  rw [valV_num]
  unfold ixO
  by_cases h : x ∈ ns
  · rw [if_pos h]
    have hl := List.idxOf_lt_length_of_mem h
    have hg : ns.getD (ns.idxOf x) 0 = x := by
      rw [List.getD_eq_getElem?_getD, List.getElem?_eq_getElem hl]
      exact List.getElem_idxOf _
    cases e : (List.range ns.length).find? fun j => decide (ns.getD j 0 = x) with
    | none => exact absurd (decide_eq_true hg) (List.find?_eq_none.mp e _ (List.mem_range.mpr hl))
    | some j =>
      have h1 : ns.getD j 0 = x := by have z := List.find?_some e; simpa using z
      have h2 := List.mem_range.mp (List.mem_of_find?_eq_some e)
      rw [getD_inj hn h2 hl (h1.trans hg.symm)]
      rfl
  · rw [if_neg h]
    cases e : (List.range ns.length).find? fun j => decide (ns.getD j 0 = x) with
    | none => rfl
    | some j =>
      have h1 : ns.getD j 0 = x := by have z := List.find?_some e; simpa using z
      have h2 := List.mem_range.mp (List.mem_of_find?_eq_some e)
      rw [List.getD_eq_getElem?_getD, List.getElem?_eq_getElem h2] at h1
      exact absurd (h1 ▸ List.getElem_mem h2) h
/-! ### reversed lists walked; lists of pairs -/
theorem r_iRev {σ : L2.St} {H : Hp} {X : Cx} {ta : TA} {R : It → Hp → Prop} (h : ta σ H fun vs H1 => ∃ (a : Addr) (xs : List V), vs = [.ref a] ∧ SqL X.K H1 a xs ∧ R (Itv X.K a xs.length) H1) : iRev X.K ta σ H R := h
theorem r_listZipR {σ : L2.St} {H : Hp} {K : PySem.W.Frag} {te tb : TE} {Q : VK} (h : te σ H fun x H1 => tb σ H1 fun y H2 => ∃ (a b : Addr) (xs ys : List V), x = .ref a ∧ y = .ref b ∧ SqL K H2 a xs ∧ SqL K H2 b ys ∧ xs.length = ys.length ∧
  ∀ (H' : Hp) (p : Addr) (ts : List Addr), Same H2 H' → H2 p = none → (∀ t ∈ ts, H2 t = none) → p ∉ ts → ts.Nodup → H' p = some (.lst (ts.map V.ref)) → ts.length = xs.length →
    (∀ (i : Nat) (t : Addr) (x y : V), ts[i]? = some t → xs[i]? = some x → ys.reverse[i]? = some y → H' t = some (.tup [x, y])) → Q (.ref p) H') : tListZipR K te tb σ H Q := h
theorem r_listZip {σ : L2.St} {H : Hp} {K : PySem.W.Frag} {ta : TA} {Q : VK} (h : ta σ H fun vs H1 => ∃ (a b : Addr) (xs ys : List V), vs = [.ref a, .ref b] ∧ SqL K H1 a xs ∧ SqL K H1 b ys ∧ xs.length = ys.length ∧
  ∀ (H' : Hp) (p : Addr) (ts : List Addr), Same H1 H' → H1 p = none → (∀ t ∈ ts, H1 t = none) → p ∉ ts → ts.Nodup → H' p = some (.lst (ts.map V.ref)) → ts.length = xs.length →
    (∀ (i : Nat) (t : Addr) (x y : V), ts[i]? = some t → xs[i]? = some x → ys[i]? = some y → H' t = some (.tup [x, y])) → Q (.ref p) H') : tListZip K false ta σ H Q := h
def dP (q : Int × Int) : PyData := .tuple [.int q.1, .int q.2]
/-- a list of pairs of ints, the pairs where G holds -/
structure PairsAt (G : Addr → Prop) (H : Hp) (p : Addr) (as : List Addr) (qs : List (Int × Int)) : Prop where
  hp : H p = some (.lst (as.map V.ref))
  len : as.length = qs.length
  it : ∀ (i : Nat) (a : Addr) (q : Int × Int), as[i]? = some a → qs[i]? = some q → H a = some (.tup [.int q.1, .int q.2]) ∧ G a
theorem PairsAt.same {G : Addr → Prop} {H H' : Hp} {p : Addr} {as : List Addr} {qs : List (Int × Int)} (h : PairsAt G H p as qs) (s : Same H H') : PairsAt G H' p as qs :=
  ⟨s _ _ h.hp, h.len, fun i a q e1 e2 => ⟨s _ _ (h.it i a q e1 e2).1, (h.it i a q e1 e2).2⟩⟩
theorem PairsAt.weak {G G' : Addr → Prop} {H : Hp} {p : Addr} {as : List Addr} {qs : List (Int × Int)} (h : PairsAt G H p as qs) (g : ∀ a, G a → G' a) : PairsAt G' H p as qs :=
  ⟨h.hp, h.len, fun i a q e1 e2 => ⟨(h.it i a q e1 e2).1, g _ (h.it i a q e1 e2).2⟩⟩
theorem PairsAt.kpl {L : List Addr} {G : Addr → Prop} {H H' : Hp} {p : Addr} {as : List Addr} {qs : List (Int × Int)} (h : PairsAt G H p as qs) (k : KpL L H H') (np : p ∉ L) (hG : ∀ a, G a → a ∉ L) : PairsAt G H' p as qs :=
  ⟨k _ _ np h.hp, h.len, fun i a q e1 e2 => ⟨k _ _ (hG _ (h.it i a q e1 e2).2) (h.it i a q e1 e2).1, (h.it i a q e1 e2).2⟩⟩
theorem PairsAt.at {G : Addr → Prop} {H : Hp} {p : Addr} {as : List Addr} {qs : List (Int × Int)} (h : PairsAt G H p as qs) {i : Nat} (hi : i < qs.length) : ∃ t, (as.map V.ref)[i]? = some (.ref t) ∧ H t = some (.tup [.int (qs[i]).1, .int (qs[i]).2]) ∧ G t := by
  have hi' : i < as.length := by rw [h.len]; exact hi
  have e := List.getElem?_eq_getElem hi'
  have e2 := List.getElem?_eq_getElem hi
  refine ⟨as[i], by rw [List.getElem?_map, e]; rfl, (h.it i _ _ e e2).1, (h.it i _ _ e e2).2⟩
theorem PairsAt.tr {G : Addr → Prop} {H : Hp} {p : Addr} {as : List Addr} {qs : List (Int × Int)} (h : PairsAt G H p as qs) (gp : G p) (hl : qs.length ≤ 100000) : Tr G H (.ref p) (.list (qs.map dP)) := by
  refine .lst h.hp gp (by rw [List.length_map, h.len]; exact hl) (TrAll.of (by rw [List.length_map, List.length_map, h.len]) fun i v d e1 e2 => ?_)
  rw [List.getElem?_map] at e1 e2
  cases ea : as[i]? with
  | none => rw [ea] at e1; cases e1
  | some a =>
    cases eq : qs[i]? with
    | none => rw [eq] at e2; cases e2
    | some q =>
      rw [ea] at e1
      rw [eq] at e2
      cases e1; cases e2
      have z := h.it i a q ea eq
      exact .tup z.1 z.2 (by show 2 ≤ 100000; decide) (.cons (.int _) (.cons (.int _) .nil))
theorem shows_dP {q : Int × Int} {k : Nat} (hk : 0 < k) (hk2 : k ≤ 250) (h0 : 0 ≤ q.1) (h1 : q.1 < 10 ^ k) (h2 : 0 ≤ q.2) (h3 : q.2 < 10 ^ k) : Shows (dP q) 1 (2 * (k + 2) + 3) :=
  shows_tup (n := 2) (fun d hd => by
    simp only [List.mem_cons, List.not_mem_nil, or_false] at hd
    rcases hd with rfl | rfl
    · exact shows_int hk hk2 h0 h1
    · exact shows_int hk hk2 h2 h3) (Nat.le_refl _)
end Lx

namespace Lx
open PySem PySem.Spec PyProof.Rows L2
/-! ### a text repeated -/
def strRep (z : Str) (n : Nat) : Str := ⟨(List.replicate n z.cps.toList).flatten.toArray⟩
theorem foldl_reps (a : Array Nat) : ∀ (n : Nat) (acc : Array Nat), (List.replicate n a).foldl (· ++ ·) acc = acc ++ (List.replicate n a.toList).flatten.toArray
  | 0, acc => by simp
  | n + 1, acc => by
    rw [List.replicate_succ, List.foldl_cons, foldl_reps a n (acc ++ a), List.replicate_succ, List.flatten_cons]
    rw [Array.append_assoc]
    congr 1
    apply Array.ext'
    simp
def rMulS : R2 := fun x y H Q => ∃ z k, x = .str z ∧ y = .int k ∧ -100000 ≤ k ∧ k ≤ 100000 ∧ z.length * k.toNat ≤ 100000 ∧ Q (.str (strRep z k.toNat)) H
theorem op_mulS {X : Cx} : OpR X (binaryOp .Mult) rMulS := by
  intro pins s σ H x y v u Q I rx ry h
  obtain ⟨z, k, rfl, rfl, h1, h2, h3, q⟩ := h
  obtain ⟨t, rfl⟩ := rx
  obtain ⟨t', rfl⟩ := ry
  refine P.mul_str ?_ ?_ ?_ ?_
  · rw [decide_eq_false (by omega), decide_eq_false (by omega)]; rfl
  · intro k1 k2
    have hp : (0 : Int) < k := by omega
    have : (100000 : Int) ≤ (2 ^ 63 - 1) / k := by
      rw [Int.le_ediv_iff_mul_le hp]
      have : 100000 * k ≤ 100000 * 100000 := by omega
      exact Int.le_trans this (by decide)
    have hz : (z.length : Int) ≤ 100000 := by
      have e : 1 ≤ k.toNat := by omega
      have := Nat.mul_le_mul_left z.length e
      omega
    omega
  · intro k1 k2
    show Builtin.Str.tooLong _ = false
    unfold Builtin.Str.tooLong
    refine decide_eq_false ?_
    have : (100000 : Nat) ≤ sizeLine := by decide
    omega
  · by_cases k1 : k < 1
    · rw [if_pos k1]
      have e : k.toNat = 0 := by omega
      rw [e] at q
      exact ⟨by decide, ⟨.str Str.empty, H, I.tok _, ⟨_, rfl⟩, q⟩⟩
    · rw [if_neg k1]
      by_cases k2 : (k == 1 || z.length == 0) = true
      · rw [if_pos k2]
        have e : strRep z k.toNat = z := by
          rcases Bool.or_eq_true _ _ ▸ k2 with k3 | k3
          · have : k = 1 := by simpa using k3
            subst this
            unfold strRep
            cases z
            simp
          · have hz : z.cps.size = 0 := by
              have : z.length = 0 := by simpa using k3
              exact this
            have hz2 : z.cps = #[] := Array.size_eq_zero_iff.mp hz
            unfold strRep
            cases z
            simp at hz2
            subst hz2
            simp
        rw [e] at q
        exact ⟨.str z, H, I, ⟨_, rfl⟩, q⟩
      · rw [if_neg k2]
        have e : (⟨(List.replicate k.toNat z.cps).foldl (· ++ ·) #[]⟩ : Str) = strRep z k.toNat := by
          unfold strRep
          rw [foldl_reps]
          simp
        rw [e]
        refine ⟨?_, ⟨.str (strRep z k.toNat), H, I.tok _, ⟨_, rfl⟩, q⟩⟩
        have : (strRep z k.toNat).length = z.length * k.toNat := by
          unfold strRep
          show ((List.replicate k.toNat z.cps.toList).flatten.toArray).size = z.cps.size * k.toNat
          simp [Nat.mul_comm]
        rw [this]
        exact sz h3
theorem r_mulS {H : Hp} {Q : VK} {z : Str} {k : Int} (h1 : -100000 ≤ k) (h2 : k ≤ 100000) (h3 : z.length * k.toNat ≤ 100000) (q : Q (.str (strRep z k.toNat)) H) : rMulS (.str z) (.int k) H Q := ⟨z, k, rfl, rfl, h1, h2, h3, q⟩
end Lx

namespace Lx
open PySem PySem.Spec PyProof.Rows L2
/-! ### comprehensions over lists of ints, of pairs -/
theorem range_getD {α : Type} (xs : List α) (d : α) : (List.range xs.length).map (fun i => xs.getD i d) = xs := by
  apply List.ext_getElem?
  intro i
  rw [List.getElem?_map]
  by_cases h : i < xs.length
  · rw [List.getElem?_range h, List.getElem?_eq_getElem h]
    show some (xs.getD i d) = some xs[i]
    rw [List.getD_eq_getElem?_getD, List.getElem?_eq_getElem h]
    rfl
  · rw [List.getElem?_eq_none (by rw [List.length_range]; omega), List.getElem?_eq_none (by omega)]
    rfl
theorem giv_of {α : Type} (xs : List α) (d : α) (P : α → Bool) (F : α → V) : giv xs.length (fun i => P (xs.getD i d)) (fun i => F (xs.getD i d)) = (xs.filter P).map F := by
  unfold giv
  conv => rhs; rw [← range_getD xs d]
  rw [List.filter_map, List.map_map]
  rfl
theorem getD_el {α : Type} {xs : List α} {d : α} {i : Nat} (h : i < xs.length) : xs.getD i d = xs[i] := by
  rw [List.getD_eq_getElem?_getD, List.getElem?_eq_getElem h]; rfl
section
variable {K : PySem.W.Frag} {a : Addr} {g : TG} {tt : TT} {te : TE} {vs : List Nat} {σ : L2.St} {H1 : Hp} {Dl : Addr} {Qd : Hp → Prop}
/-- over a list of ints -/
theorem lc_ints {ns : List Int} (h : SqL K H1 a (vI ns)) (hl : ns.length ≤ 100000) (P : Int → Bool) (F : Int → V)
    (hs : ∀ (x : Int) (H' : Hp) (Yes : V → Hp → Prop) (No : Hp → Prop), Same H1 H' → x ∈ ns → (P x = true → ∀ H4, Same H' H4 → Yes (F x) H4) → (P x = false → ∀ H3, Same H' H3 → No H3) →
      g (.int x) (wipe σ vs) H' fun σ2 H2 => wipe σ2 vs = wipe σ vs ∧ tt σ2 H2 fun b H3 => if b = true then te σ2 H3 Yes else No H3)
    (hD : H1 Dl = none) (q : ∀ H', Same H1 H' → H' Dl = some (.lst ((ns.filter P).map F)) → Qd H') :
    ∃ W : Nat → Nat → Hp → Prop, (∃ m, W 0 m (upd H1 Dl (.lst []))) ∧ ∀ i m H, W i m H →
      ((Itl K a).stop i H ∧ Qd H) ∨ ((Itl K a).go i H ∧ ∃ Nx : Hp → Prop, (∀ H', Nx H' → ∃ m', m' < m ∧ W (i + 1) m' H') ∧ ∀ x H', (Itl K a).yld i H x H' → g x (wipe σ vs) H' fun σ2 H2 => wipe σ2 vs = wipe σ vs ∧ tt σ2 H2 fun b H3 =>
        if b = true then te σ2 H3 fun y H4 => ∃ acc, H4 Dl = some (.lst acc) ∧ acc.length < sizeLine ∧ Nx (upd H4 Dl (.lst (acc ++ [y]))) else Nx H3) := by
  refine lc_pure (src_list (xs := vI ns)) (fun i => P (ns.getD i 0)) (fun i => F (ns.getD i 0)) (by rw [vI_len]; exact hl) (fun H' s' => s'.seq h) ?_ hD fun H' s' hd => q H' s' ?_
  · rintro i x H' H'' Yes No hi s' ⟨rfl, hx⟩ hY hN
    rw [vI_len] at hi
    rw [vI_at hi] at hx
    cases hx
    rw [getD_el hi] at hY hN
    exact hs _ _ Yes No s' (List.getElem_mem hi) hY hN
  · rw [hd, vI_len, giv_of]
/-- over a tuple of ints -/
theorem lc_intsT {ns : List Int} (h : SqT K H1 a (vI ns)) (hl : ns.length ≤ 100000) (P : Int → Bool) (F : Int → V)
    (hs : ∀ (x : Int) (H' : Hp) (Yes : V → Hp → Prop) (No : Hp → Prop), Same H1 H' → x ∈ ns → (P x = true → ∀ H4, Same H' H4 → Yes (F x) H4) → (P x = false → ∀ H3, Same H' H3 → No H3) →
      g (.int x) (wipe σ vs) H' fun σ2 H2 => wipe σ2 vs = wipe σ vs ∧ tt σ2 H2 fun b H3 => if b = true then te σ2 H3 Yes else No H3)
    (hD : H1 Dl = none) (q : ∀ H', Same H1 H' → H' Dl = some (.lst ((ns.filter P).map F)) → Qd H') :
    ∃ W : Nat → Nat → Hp → Prop, (∃ m, W 0 m (upd H1 Dl (.lst []))) ∧ ∀ i m H, W i m H →
      ((Itt K a).stop i H ∧ Qd H) ∨ ((Itt K a).go i H ∧ ∃ Nx : Hp → Prop, (∀ H', Nx H' → ∃ m', m' < m ∧ W (i + 1) m' H') ∧ ∀ x H', (Itt K a).yld i H x H' → g x (wipe σ vs) H' fun σ2 H2 => wipe σ2 vs = wipe σ vs ∧ tt σ2 H2 fun b H3 =>
        if b = true then te σ2 H3 fun y H4 => ∃ acc, H4 Dl = some (.lst acc) ∧ acc.length < sizeLine ∧ Nx (upd H4 Dl (.lst (acc ++ [y]))) else Nx H3) := by
  refine lc_pure (src_tup (xs := vI ns)) (fun i => P (ns.getD i 0)) (fun i => F (ns.getD i 0)) (by rw [vI_len]; exact hl) (fun H' s' => s'.seqT h) ?_ hD fun H' s' hd => q H' s' ?_
  · rintro i x H' H'' Yes No hi s' ⟨rfl, hx⟩ hY hN
    rw [vI_len] at hi
    rw [vI_at hi] at hx
    cases hx
    rw [getD_el hi] at hY hN
    exact hs _ _ Yes No s' (List.getElem_mem hi) hY hN
  · rw [hd, vI_len, giv_of]
/-- over a list of pairs -/
theorem lc_pairs {G : Addr → Prop} {as : List Addr} {qs : List (Int × Int)} (h : PairsAt G H1 a as qs) (hl : qs.length ≤ 100000) (P : Int × Int → Bool) (F : Int × Int → V)
    (hs : ∀ (t : Addr) (x y : Int) (H' : Hp) (Yes : V → Hp → Prop) (No : Hp → Prop), Same H1 H' → (x, y) ∈ qs → H' t = some (.tup [.int x, .int y]) → (P (x, y) = true → ∀ H4, Same H' H4 → Yes (F (x, y)) H4) → (P (x, y) = false → ∀ H3, Same H' H3 → No H3) →
      g (.ref t) (wipe σ vs) H' fun σ2 H2 => wipe σ2 vs = wipe σ vs ∧ tt σ2 H2 fun b H3 => if b = true then te σ2 H3 Yes else No H3)
    (hD : H1 Dl = none) (q : ∀ H', Same H1 H' → H' Dl = some (.lst ((qs.filter P).map F)) → Qd H') :
    ∃ W : Nat → Nat → Hp → Prop, (∃ m, W 0 m (upd H1 Dl (.lst []))) ∧ ∀ i m H, W i m H →
      ((Itl K a).stop i H ∧ Qd H) ∨ ((Itl K a).go i H ∧ ∃ Nx : Hp → Prop, (∀ H', Nx H' → ∃ m', m' < m ∧ W (i + 1) m' H') ∧ ∀ x H', (Itl K a).yld i H x H' → g x (wipe σ vs) H' fun σ2 H2 => wipe σ2 vs = wipe σ vs ∧ tt σ2 H2 fun b H3 =>
        if b = true then te σ2 H3 fun y H4 => ∃ acc, H4 Dl = some (.lst acc) ∧ acc.length < sizeLine ∧ Nx (upd H4 Dl (.lst (acc ++ [y]))) else Nx H3) := by
  refine lc_pure (src_list (xs := as.map V.ref)) (fun i => P (qs.getD i (0, 0))) (fun i => F (qs.getD i (0, 0))) (by rw [List.length_map, h.len]; exact hl) (fun H' s' => lst_of (s' _ _ h.hp)) ?_ hD fun H' s' hd => q H' s' ?_
  · rintro i x H' H'' Yes No hi s' ⟨rfl, hx⟩ hY hN
    rw [List.length_map, h.len] at hi
    obtain ⟨t, e1, e2, _⟩ := h.at hi
    rw [e1] at hx
    cases hx
    rw [getD_el hi] at hY hN
    exact hs t _ _ _ Yes No s' (List.getElem_mem hi) (s' _ _ e2) hY hN
  · rw [hd, List.length_map, h.len, giv_of]
end
theorem PairsAt.app {G : Addr → Prop} {H : Hp} {p t : Addr} {as : List Addr} {qs : List (Int × Int)} {x y : Int} (h : PairsAt G H p as qs) (ht : H t = some (.tup [.int x, .int y])) (g : G t) : PairsAt G (upd H p (.lst (as.map V.ref ++ [.ref t]))) p (as ++ [t]) (qs ++ [(x, y)]) := by
  refine ⟨by rw [upd_same, List.map_append]; rfl, by rw [List.length_append, List.length_append, h.len]; rfl, fun i a q e1 e2 => ?_⟩
  have key : ∀ (b : Addr) (z : Int × Int), H b = some (.tup [.int z.1, .int z.2]) → upd H p (.lst (as.map V.ref ++ [.ref t])) b = some (.tup [.int z.1, .int z.2]) := by
    intro b z e
    have ne : b ≠ p := fun w => by rw [w, h.hp] at e; cases e
    exact (upd_ne ne).trans e
  by_cases hi : i < as.length
  · rw [List.getElem?_append_left hi] at e1
    rw [List.getElem?_append_left (by rw [← h.len]; exact hi)] at e2
    exact ⟨key a q (h.it i a q e1 e2).1, (h.it i a q e1 e2).2⟩
  · have hi' : i = as.length := by
      have := (List.getElem?_eq_some_iff.mp e1).1
      rw [List.length_append, List.length_singleton] at this
      omega
    subst hi'
    rw [List.getElem?_append_right (Nat.le_refl _), Nat.sub_self] at e1
    rw [List.getElem?_append_right (by rw [h.len]; exact Nat.le_refl _), h.len, Nat.sub_self] at e2
    cases e1; cases e2
    exact ⟨key t _ ht, g⟩
theorem PairsAt.upd {G : Addr → Prop} {H : Hp} {p x : Addr} {o : HO} {as : List Addr} {qs : List (Int × Int)} {ys : List V} (h : PairsAt G H p as qs) (n : p ≠ x) (hx : H x = some (.lst ys)) : PairsAt G (L2.upd H x o) p as qs :=
  ⟨(upd_ne n).trans h.hp, h.len, fun i a q e1 e2 => by
    obtain ⟨z, g⟩ := h.it i a q e1 e2
    have ne : a ≠ x := fun w => by rw [w, hx] at z; cases z
    exact ⟨(upd_ne ne).trans z, g⟩⟩
theorem PairsAt.take {G : Addr → Prop} {H H' : Hp} {p p' : Addr} {as : List Addr} {qs : List (Int × Int)} (h : PairsAt G H p as qs) (k : Nat) (s : Same H H') (hp' : H' p' = some (.lst ((as.map V.ref).take k))) : PairsAt G H' p' (as.take k) (qs.take k) :=
  ⟨by rw [hp', List.map_take], by rw [List.length_take, List.length_take, h.len], fun i a q e1 e2 => by
    rw [List.getElem?_take] at e1 e2
    split at e1
    · rename_i hk
      rw [if_pos hk] at e2
      exact ⟨s _ _ (h.it i a q e1 e2).1, (h.it i a q e1 e2).2⟩
    · cases e1⟩
theorem PairsAt.drop {G : Addr → Prop} {H H' : Hp} {p p' : Addr} {as : List Addr} {qs : List (Int × Int)} (h : PairsAt G H p as qs) (k : Nat) (s : Same H H') (hp' : H' p' = some (.lst ((as.map V.ref).drop k))) : PairsAt G H' p' (as.drop k) (qs.drop k) :=
  ⟨by rw [hp', List.map_drop], by rw [List.length_drop, List.length_drop, h.len], fun i a q e1 e2 => by
    rw [List.getElem?_drop] at e1 e2
    exact ⟨s _ _ (h.it (k + i) a q e1 e2).1, (h.it (k + i) a q e1 e2).2⟩⟩
theorem PairsAt.nil {G : Addr → Prop} {H : Hp} {p : Addr} (h : H p = some (.lst [])) : PairsAt G H p [] [] := ⟨h, rfl, fun i a q e _ => by simp at e⟩
/-! ### the greatest of ints -/
def maxI : List Int → Int
  | [] => 0
  | a :: r => if r = [] then a else if maxI r ≤ a then a else maxI r
theorem maxI_mem : ∀ {ns : List Int}, ns ≠ [] → maxI ns ∈ ns
  | [], h => absurd rfl h
  | a :: r, _ => by
    unfold maxI
    split
    · exact List.mem_cons_self
    · rename_i hr
      split
      · exact List.mem_cons_self
      · exact List.mem_cons_of_mem _ (maxI_mem hr)
theorem le_maxI : ∀ {ns : List Int} {y : Int}, y ∈ ns → y ≤ maxI ns
  | a :: r, y, h => by
    unfold maxI
    split
    · rename_i hr
      subst hr
      rw [List.mem_singleton] at h
      omega
    · rename_i hr
      rcases List.mem_cons.mp h with e | h
      · split <;> omega
      · have ih := le_maxI h
        split <;> omega
theorem maxI_eq {ns : List Int} {m : Int} (h : m ∈ ns) (l : ∀ y ∈ ns, y ≤ m) : m = maxI ns := by
  have h1 := le_maxI h
  have h2 := l _ (maxI_mem fun e => by rw [e] at h; cases h)
  omega
theorem r_max {K : PySem.W.Frag} {H : Hp} {Q : VK} {a : Addr} {ns : List Int} (h : SqL K H a (vI ns)) (hn : 0 < ns.length) (q : Q (.int (maxI ns)) H) : rMax K [.ref a] H Q :=
  ⟨a, ns, rfl, h, hn, fun m hm hl => by rw [maxI_eq hm hl]; exact q⟩
theorem src_zipM {K : PySem.W.Frag} {a b : Addr} {xs ys : List V} : Src (Itz K a b) (min xs.length ys.length) (fun H => SqL K H a xs ∧ SqL K H b ys) (fun i v H H' => ∃ T x y, v = .ref T ∧ H T = none ∧ H' = upd H T (.tup [x, y]) ∧ xs[i]? = some x ∧ ys[i]? = some y) where
  go := fun i H h hi => ⟨xs, ys, xs[i]'(by omega), ys[i]'(by omega), h.1, h.2, List.getElem?_eq_getElem (by omega), List.getElem?_eq_getElem (by omega)⟩
  stop := fun H h => ⟨xs, ys, h.1, h.2, by omega⟩
  yld := fun i H v H' h _ y => by
    obtain ⟨T, x, z, e, n, u, f, g⟩ := y
    exact ⟨T, x, z, e, n, u, f xs h.1, g ys h.2⟩
theorem cut_neg1 (xs : List V) : cutV xs (some (-1)) none = xs.drop (xs.length - 1) := by
  unfold cutV
  rw [HT.sIx_none]
  have e : HT.sIx xs.length 0 (some (-1)) = xs.length - 1 := by
    show (if (-1 : Int) < 0 then ((-1 : Int) + (xs.length : Int)).toNat else min (-1 : Int).toNat xs.length) = _
    rw [if_pos (by decide)]
    omega
  rw [e]
  exact List.take_of_length_le (by rw [List.length_drop]; exact Nat.le_refl _)
/-! ### dict(pairs) -/
def rDictP (K : PySem.W.Frag) : List V → Hp → VK → Prop := fun xs H Q => ∃ (a : Addr) (ps : List Addr) (kvs : List (Key × V)), xs = [.ref a] ∧ SqL K H a (ps.map V.ref) ∧ Paired (fun p kv => SqT K H p [kV kv.1, kv.2]) ps kvs ∧
    ∀ p, H p = none → Q (.ref p) (upd H p (.dK (mergeK [] kvs)))
theorem k_dictP (K : PySem.W.Frag) {X : Cx} (h : X.K = K := by rfl) (hc : X.calm = true := by rfl) : CallR X (.type "dict") (rDictP K) := h ▸ call_dictP hc
theorem merge_num {ns : List Int} (hn : ns.Nodup) : ∀ m, m ≤ ns.length → mergeK [] (numTo ns m) = numTo ns m
  | 0, _ => rfl
  | m + 1, h => by
    have e : numTo ns (m + 1) = numTo ns m ++ [(.inl (ns.getD m 0), .int (m : Nat))] := by unfold numTo; rw [List.range_succ, List.map_append]; rfl
    have ih := merge_num hn m (by omega)
    conv => lhs; rw [e]
    unfold mergeK at ih ⊢
    rw [List.foldl_append, ih]
    exact numTo_succ hn (by omega)
theorem paired_of {α β : Type} {F : α → β → Prop} : ∀ {xs : List α} {ys : List β}, xs.length = ys.length → (∀ (i : Nat) (x : α) (y : β), xs[i]? = some x → ys[i]? = some y → F x y) → Paired F xs ys
  | [], [], _, _ => .nil
  | x :: xs, y :: ys, e, h => .cons (h 0 x y rfl rfl) (paired_of (Nat.succ.inj e) fun i x y a b => h (i + 1) x y (by simpa using a) (by simpa using b))
  | [], _ :: _, e, _ => by cases e
  | _ :: _, [], e, _ => by cases e
/-- dict of pairs (place, number) -/
theorem r_dictN {K : PySem.W.Frag} {G : Addr → Prop} {H : Hp} {Q : VK} {a : Addr} {as : List Addr} {ns : List Int} (hn : ns.Nodup) (hl : ns.length ≤ 100000) (h : PairsAt G H a as ((List.range ns.length).map fun j => (ns.getD j 0, ((j : Nat) : Int)))) (q : ∀ p, H p = none → ∀ H', H' = upd H p (.dK (numTo ns ns.length)) → IsD H' p (ixO ns) → Q (.ref p) H') : rDictP K [.ref a] H Q := by
  refine ⟨a, as, numTo ns ns.length, rfl, lst_of h.hp, paired_of (by rw [h.len, numTo_len, List.length_map, List.length_range]) fun i x y e1 e2 => ?_, fun p np => ?_⟩
  · have hi := (List.getElem?_eq_some_iff.mp e1).1
    rw [h.len, List.length_map, List.length_range] at hi
    unfold numTo at e2
    rw [List.getElem?_map, List.getElem?_range hi] at e2
    cases e2
    have := (h.it i x (ns.getD i 0, ((i : Nat) : Int)) e1 (by rw [List.getElem?_map, List.getElem?_range hi]; rfl)).1
    exact tup_of this
  · rw [merge_num hn _ (Nat.le_refl _)]
    exact q p np _ rfl ⟨_, upd_same, by rw [numTo_len]; exact hl, valV_all hn⟩
end Lx

namespace Lx
open PySem PySem.Spec PyProof.Rows L2
/-! ### one of two targets -/
def gOr (g1 g2 : TG) : TG := fun v σ H Q => g1 v σ H Q ∨ g2 v σ H Q
theorem pg_or {X : Cx} {t : Expr} {g1 g2 : TG} (h1 : PG X t g1) (h2 : PG X t g2) : PG X t (gOr g1 g2) :=
  ⟨fun pins s σ H v u Q I r h => h.elim (h1.run pins s σ H v u Q I r) (h2.run pins s σ H v u Q I r)⟩
theorem r_gOr {K : PySem.W.Frag} {σ : L2.St} {H : Hp} {R : L2.St → Hp → Prop} {n : Nat} {g1 g2 : TGs} {a : Addr} {xs : List V} (h : Sq H a xs) (e : xs.length = n) (q1 : g1 xs σ H R) (q2 : g2 xs σ H R) : gOr (gTup K n g1) (gUnl K n g2) (.ref a) σ H R :=
  h.elim (fun h => .inr ⟨a, xs, rfl, lst_of h, e, q2⟩) fun h => .inl ⟨a, xs, rfl, tup_of h, e, q1⟩
theorem r_gOr1 {K : PySem.W.Frag} {σ : L2.St} {H : Hp} {R : L2.St → Hp → Prop} {n : Nat} {g : TGs} {a : Addr} {xs : List V} (h : Sq H a xs) (e : xs.length = n) (q : g xs σ H R) : gOr (gTup K n g) (gUnl K n g) (.ref a) σ H R := r_gOr h e q q
theorem r_iOr {wi1 wi2 : TI} {σ : L2.St} {H : Hp} {R : It → Hp → Prop} (h : wi1 σ H R ∨ wi2 σ H R) : iOr wi1 wi2 σ H R := h
/-- a walk over a list or a tuple -/
theorem r_iSqV {K : PySem.W.Frag} {σ : L2.St} {H : Hp} {R : It → Hp → Prop} {i : Nat} {a : Addr} {xs : List V} (e : σ[i]? = some (some (.ref a))) (h : Sq H a xs)
    (q : ∀ (J : It) (OK : Hp → Prop), (∀ H', Same H H' → OK H') → Src J xs.length OK (fun i v H H' => H' = H ∧ xs[i]? = some v) → R J H) : iOr (iList K (tVar i)) (iTup K (tVar i)) σ H R :=
  h.elim (fun h => .inl ⟨.ref a, e, a, rfl, ⟨xs, lst_of h⟩, q _ (fun H' => SqL K H' a xs) (fun H' s => lst_of (s _ _ h)) src_list⟩) fun h => .inr ⟨.ref a, e, a, rfl, ⟨xs, tup_of h⟩, q _ (fun H' => SqT K H' a xs) (fun H' s => tup_of (s _ _ h)) src_tup⟩
/-! ### a list of tuples -/
structure TupsAt {α : Type} (f : α → List V) (G : Addr → Prop) (H : Hp) (p : Addr) (as : List Addr) (qs : List α) : Prop where
  hp : H p = some (.lst (as.map V.ref))
  len : as.length = qs.length
  it : ∀ (i : Nat) (a : Addr) (q : α), as[i]? = some a → qs[i]? = some q → H a = some (.tup (f q)) ∧ G a
section
variable {α : Type} {f : α → List V} {G G' : Addr → Prop} {H H' : Hp} {p : Addr} {as : List Addr} {qs : List α}
theorem TupsAt.same (h : TupsAt f G H p as qs) (s : Same H H') : TupsAt f G H' p as qs :=
  ⟨s _ _ h.hp, h.len, fun i a q e1 e2 => ⟨s _ _ (h.it i a q e1 e2).1, (h.it i a q e1 e2).2⟩⟩
theorem TupsAt.weak (h : TupsAt f G H p as qs) (g : ∀ a, G a → G' a) : TupsAt f G' H p as qs :=
  ⟨h.hp, h.len, fun i a q e1 e2 => ⟨(h.it i a q e1 e2).1, g _ (h.it i a q e1 e2).2⟩⟩
theorem TupsAt.kpl {L : List Addr} (h : TupsAt f G H p as qs) (k : KpL L H H') (np : p ∉ L) (hG : ∀ a, G a → a ∉ L) : TupsAt f G H' p as qs :=
  ⟨k _ _ np h.hp, h.len, fun i a q e1 e2 => ⟨k _ _ (hG _ (h.it i a q e1 e2).2) (h.it i a q e1 e2).1, (h.it i a q e1 e2).2⟩⟩
theorem TupsAt.kp {r : Addr} {ys : List V} (h : TupsAt f G H p as qs) (k : Kp r H H') (hr : H r = some (.lst ys)) (np : p ≠ r) : TupsAt f G H' p as qs :=
  ⟨k _ _ np h.hp, h.len, fun i a q e1 e2 => by
    obtain ⟨z, g⟩ := h.it i a q e1 e2
    exact ⟨k _ _ (fun w => by rw [w, hr] at z; cases z) z, g⟩⟩
theorem TupsAt.any (h : TupsAt f G H p as qs) : TupsAt f (fun _ => True) H p as qs := h.weak fun _ _ => trivial
theorem TupsAt.at (h : TupsAt f G H p as qs) {i : Nat} (hi : i < qs.length) : ∃ t, (as.map V.ref)[i]? = some (.ref t) ∧ H t = some (.tup (f qs[i])) ∧ G t := by
  have hi' : i < as.length := by rw [h.len]; exact hi
  have e := List.getElem?_eq_getElem hi'
  have e2 := List.getElem?_eq_getElem hi
  exact ⟨as[i], by rw [List.getElem?_map, e]; rfl, (h.it i _ _ e e2).1, (h.it i _ _ e e2).2⟩
theorem TupsAt.nil (h : H p = some (.lst [])) : TupsAt f G H p [] ([] : List α) := ⟨h, rfl, fun i a q e _ => by simp at e⟩
theorem TupsAt.app {t : Addr} {q : α} (h : TupsAt f G H p as qs) (ht : H t = some (.tup (f q))) (g : G t) : TupsAt f G (upd H p (.lst (as.map V.ref ++ [.ref t]))) p (as ++ [t]) (qs ++ [q]) := by
  refine ⟨by rw [upd_same, List.map_append]; rfl, by rw [List.length_append, List.length_append, h.len]; rfl, fun i a r e1 e2 => ?_⟩
  have key : ∀ (b : Addr) (z : α), H b = some (.tup (f z)) → upd H p (.lst (as.map V.ref ++ [.ref t])) b = some (.tup (f z)) := by
    intro b z e
    have ne : b ≠ p := fun w => by rw [w, h.hp] at e; cases e
    exact (upd_ne ne).trans e
  by_cases hi : i < as.length
  · rw [List.getElem?_append_left hi] at e1
    rw [List.getElem?_append_left (by rw [← h.len]; exact hi)] at e2
    exact ⟨key a r (h.it i a r e1 e2).1, (h.it i a r e1 e2).2⟩
  · have hi' : i = as.length := by
      have := (List.getElem?_eq_some_iff.mp e1).1
      rw [List.length_append, List.length_singleton] at this
      omega
    subst hi'
    rw [List.getElem?_append_right (Nat.le_refl _), Nat.sub_self] at e1
    rw [List.getElem?_append_right (by rw [h.len]; exact Nat.le_refl _), h.len, Nat.sub_self] at e2
    cases e1; cases e2
    exact ⟨key t _ ht, g⟩
theorem TupsAt.upd {x : Addr} {o : HO} {ys : List V} (h : TupsAt f G H p as qs) (n : p ≠ x) (hx : H x = some (.lst ys)) : TupsAt f G (L2.upd H x o) p as qs :=
  ⟨(upd_ne n).trans h.hp, h.len, fun i a q e1 e2 => by
    obtain ⟨z, g⟩ := h.it i a q e1 e2
    have ne : a ≠ x := fun w => by rw [w, hx] at z; cases z
    exact ⟨(upd_ne ne).trans z, g⟩⟩
theorem TupsAt.single {t : Addr} {q : α} (hp : H p = some (.lst [.ref t])) (ht : H t = some (.tup (f q))) (g : G t) : TupsAt f G H p [t] [q] := by
  refine ⟨hp, rfl, fun i a r e1 e2 => ?_⟩
  match i, e1, e2 with
  | 0, e1, e2 => cases e1; cases e2; exact ⟨ht, g⟩
  | i + 1, e1, e2 => simp at e1
theorem TupsAt.cat {p2 : Addr} {as2 : List Addr} {qs2 : List α} {u : Addr} (h : TupsAt f G H p as qs) (h2 : TupsAt f G H p2 as2 qs2) (s : Same H H') (hu : H' u = some (.lst (as.map V.ref ++ as2.map V.ref))) : TupsAt f G H' u (as ++ as2) (qs ++ qs2) := by
  refine ⟨by rw [hu, List.map_append], by rw [List.length_append, List.length_append, h.len, h2.len], fun i a q e1 e2 => ?_⟩
  by_cases hi : i < as.length
  · rw [List.getElem?_append_left hi] at e1
    rw [List.getElem?_append_left (by rw [← h.len]; exact hi)] at e2
    exact ⟨s _ _ (h.it i a q e1 e2).1, (h.it i a q e1 e2).2⟩
  · rw [List.getElem?_append_right (by omega)] at e1
    rw [List.getElem?_append_right (by rw [← h.len]; omega), ← h.len] at e2
    exact ⟨s _ _ (h2.it _ a q e1 e2).1, (h2.it _ a q e1 e2).2⟩
end
section
variable {α : Type} {K : PySem.W.Frag} {a : Addr} {g : TG} {tt : TT} {te : TE} {vs : List Nat} {σ : L2.St} {H1 : Hp} {Dl : Addr} {Qd : Hp → Prop}
/-- a comprehension over a list of tuples -/
theorem lc_tups {f : α → List V} {G : Addr → Prop} {as : List Addr} {qs : List α} (h : TupsAt f G H1 a as qs) (hl : qs.length ≤ 100000) (P : α → Bool) (F : α → V)
    (hs : ∀ (t : Addr) (q : α) (H' : Hp) (Yes : V → Hp → Prop) (No : Hp → Prop), Same H1 H' → q ∈ qs → H' t = some (.tup (f q)) → (P q = true → ∀ H4, Same H' H4 → Yes (F q) H4) → (P q = false → ∀ H3, Same H' H3 → No H3) →
      g (.ref t) (wipe σ vs) H' fun σ2 H2 => wipe σ2 vs = wipe σ vs ∧ tt σ2 H2 fun b H3 => if b = true then te σ2 H3 Yes else No H3)
    (hD : H1 Dl = none) (q : ∀ H', Same H1 H' → H' Dl = some (.lst ((qs.filter P).map F)) → Qd H') :
    ∃ W : Nat → Nat → Hp → Prop, (∃ m, W 0 m (upd H1 Dl (.lst []))) ∧ ∀ i m H, W i m H →
      ((Itl K a).stop i H ∧ Qd H) ∨ ((Itl K a).go i H ∧ ∃ Nx : Hp → Prop, (∀ H', Nx H' → ∃ m', m' < m ∧ W (i + 1) m' H') ∧ ∀ x H', (Itl K a).yld i H x H' → g x (wipe σ vs) H' fun σ2 H2 => wipe σ2 vs = wipe σ vs ∧ tt σ2 H2 fun b H3 =>
        if b = true then te σ2 H3 fun y H4 => ∃ acc, H4 Dl = some (.lst acc) ∧ acc.length < sizeLine ∧ Nx (upd H4 Dl (.lst (acc ++ [y]))) else Nx H3) := by
  by_cases he : qs = []
  · subst he
    have ea : as = [] := List.length_eq_zero_iff.mp h.len
    subst ea
    refine lc_src (src_list (xs := ([] : List V))) (fun i H' => Same H1 H' ∧ H' Dl = some (.lst [])) (fun i H' h' => lst_of (h'.1 _ _ h.hp)) ⟨same_new hD, upd_same⟩ (fun i v H H' hi => absurd hi (Nat.not_lt_zero _)) (fun H' h' => q H' h'.1 h'.2)
  · have d : α := qs.head he
    refine lc_pure (src_list (xs := as.map V.ref)) (fun i => P (qs.getD i d)) (fun i => F (qs.getD i d)) (by rw [List.length_map, h.len]; exact hl) (fun H' s' => lst_of (s' _ _ h.hp)) ?_ hD fun H' s' hd => q H' s' ?_
    · rintro i x H' H'' Yes No hi s' ⟨rfl, hx⟩ hY hN
      rw [List.length_map, h.len] at hi
      obtain ⟨t, e1, e2, _⟩ := h.at hi
      rw [e1] at hx
      cases hx
      rw [getD_el hi] at hY hN
      exact hs t _ _ Yes No s' (List.getElem_mem hi) (s' _ _ e2) hY hN
    · rw [hd, List.length_map, h.len, giv_of]
end
/-! ### two clauses -/
section
variable {J : It} {n : Nat} {OK : Hp → Prop} {item : Nat → V → Hp → Hp → Prop} {g g1 : TG} {tt tt1 : TT} {wi1 : TI} {te : TE} {vs vs1 : List Nat} {σ : L2.St} {H1 : Hp} {Dl : Addr} {Qd : Hp → Prop}
theorem r_lc2 {wi : TI} {Q : VK} {H : Hp} (h : wi σ H fun J H1 => ∀ D, H1 D = none → ∃ W : Nat → Nat → Hp → Prop, (∃ m, W 0 m (upd H1 D (.lst []))) ∧ ∀ i m H, W i m H →
  (J.stop i H ∧ Q (.ref D) H) ∨ (J.go i H ∧ ∃ Nx : Hp → Prop, (∀ H', Nx H' → ∃ m', m' < m ∧ W (i + 1) m' H') ∧ ∀ x H', J.yld i H x H' → g x (wipe σ vs) H' fun σ2 H2 => wipe σ2 vs = wipe σ vs ∧ tt σ2 H2 fun b H3 =>
    if b = true then wi1 σ2 H3 fun J1 H4 => ∃ W1 : Nat → Nat → Hp → Prop, (∃ m, W1 0 m H4) ∧ ∀ j k H, W1 j k H →
      (J1.stop j H ∧ Nx H) ∨ (J1.go j H ∧ ∃ Nx1 : Hp → Prop, (∀ H', Nx1 H' → ∃ k', k' < k ∧ W1 (j + 1) k' H') ∧ ∀ x H', J1.yld j H x H' → g1 x (wipe σ2 vs1) H' fun σ3 H5 => wipe σ3 vs1 = wipe σ2 vs1 ∧ tt1 σ3 H5 fun b H6 =>
        if b = true then te σ3 H6 fun y H7 => ∃ acc, H7 D = some (.lst acc) ∧ acc.length < sizeLine ∧ Nx1 (upd H7 D (.lst (acc ++ [y]))) else Nx1 H6)
    else Nx H3)) : tLc2 wi g tt wi1 g1 tt1 te vs vs1 σ H Q := h
/-- the outer clause, by a word over the turn and the heap -/
theorem lc2_out (S : Src J n OK item) (Pv : Nat → Hp → Prop) (ok : ∀ i H, Pv i H → OK H) (h0 : Pv 0 (upd H1 Dl (.lst [])))
    (hs : ∀ i v H H', i < n → Pv i H → item i v H H' → g v (wipe σ vs) H' fun σ2 H2 => wipe σ2 vs = wipe σ vs ∧ tt σ2 H2 fun b H3 =>
      if b = true then wi1 σ2 H3 fun J1 H4 => ∃ W1 : Nat → Nat → Hp → Prop, (∃ m, W1 0 m H4) ∧ ∀ j k H, W1 j k H →
        (J1.stop j H ∧ Pv (i + 1) H) ∨ (J1.go j H ∧ ∃ Nx1 : Hp → Prop, (∀ H', Nx1 H' → ∃ k', k' < k ∧ W1 (j + 1) k' H') ∧ ∀ x H', J1.yld j H x H' → g1 x (wipe σ2 vs1) H' fun σ3 H5 => wipe σ3 vs1 = wipe σ2 vs1 ∧ tt1 σ3 H5 fun b H6 =>
          if b = true then te σ3 H6 fun y H7 => ∃ acc, H7 Dl = some (.lst acc) ∧ acc.length < sizeLine ∧ Nx1 (upd H7 Dl (.lst (acc ++ [y]))) else Nx1 H6)
      else Pv (i + 1) H3) (hd : ∀ H, Pv n H → Qd H) :
    ∃ W : Nat → Nat → Hp → Prop, (∃ m, W 0 m (upd H1 Dl (.lst []))) ∧ ∀ i m H, W i m H →
      (J.stop i H ∧ Qd H) ∨ (J.go i H ∧ ∃ Nx : Hp → Prop, (∀ H', Nx H' → ∃ m', m' < m ∧ W (i + 1) m' H') ∧ ∀ x H', J.yld i H x H' → g x (wipe σ vs) H' fun σ2 H2 => wipe σ2 vs = wipe σ vs ∧ tt σ2 H2 fun b H3 =>
        if b = true then wi1 σ2 H3 fun J1 H4 => ∃ W1 : Nat → Nat → Hp → Prop, (∃ m, W1 0 m H4) ∧ ∀ j k H, W1 j k H →
          (J1.stop j H ∧ Nx H) ∨ (J1.go j H ∧ ∃ Nx1 : Hp → Prop, (∀ H', Nx1 H' → ∃ k', k' < k ∧ W1 (j + 1) k' H') ∧ ∀ x H', J1.yld j H x H' → g1 x (wipe σ2 vs1) H' fun σ3 H5 => wipe σ3 vs1 = wipe σ2 vs1 ∧ tt1 σ3 H5 fun b H6 =>
            if b = true then te σ3 H6 fun y H7 => ∃ acc, H7 Dl = some (.lst acc) ∧ acc.length < sizeLine ∧ Nx1 (upd H7 Dl (.lst (acc ++ [y]))) else Nx1 H6)
        else Nx H3) := by
  refine ⟨fun i m H => i + m = n ∧ Pv i H, ⟨n, Nat.zero_add n, h0⟩, ?_⟩
  rintro i m H ⟨e, p⟩
  have o := ok i H p
  by_cases hi : i < n
  · refine .inr ⟨S.go i H o hi, Pv (i + 1), ?_, ?_⟩
    · intro H' p'
      exact ⟨m - 1, by omega, by omega, p'⟩
    · intro x H' y
      exact hs i x H H' hi p (S.yld i H x H' o hi y)
  · have ei : i = n := by omega
    subst ei
    exact .inl ⟨S.stop H o, hd H p⟩
/-- the inner clause -/
theorem lc2_in {Q1 : Hp → Prop} {σ2 : L2.St} {H4 : Hp} (S : Src J n OK item) (Pv : Nat → Hp → Prop) (ok : ∀ i H, Pv i H → OK H) (h0 : Pv 0 H4)
    (hs : ∀ i v H H', i < n → Pv i H → item i v H H' → g1 v (wipe σ2 vs1) H' fun σ3 H5 => wipe σ3 vs1 = wipe σ2 vs1 ∧ tt1 σ3 H5 fun b H6 =>
      if b = true then te σ3 H6 fun y H7 => ∃ acc, H7 Dl = some (.lst acc) ∧ acc.length < sizeLine ∧ Pv (i + 1) (upd H7 Dl (.lst (acc ++ [y]))) else Pv (i + 1) H6) (hd : ∀ H, Pv n H → Q1 H) :
    ∃ W1 : Nat → Nat → Hp → Prop, (∃ m, W1 0 m H4) ∧ ∀ j k H, W1 j k H →
      (J.stop j H ∧ Q1 H) ∨ (J.go j H ∧ ∃ Nx1 : Hp → Prop, (∀ H', Nx1 H' → ∃ k', k' < k ∧ W1 (j + 1) k' H') ∧ ∀ x H', J.yld j H x H' → g1 x (wipe σ2 vs1) H' fun σ3 H5 => wipe σ3 vs1 = wipe σ2 vs1 ∧ tt1 σ3 H5 fun b H6 =>
        if b = true then te σ3 H6 fun y H7 => ∃ acc, H7 Dl = some (.lst acc) ∧ acc.length < sizeLine ∧ Nx1 (upd H7 Dl (.lst (acc ++ [y]))) else Nx1 H6) := by
  refine ⟨fun i m H => i + m = n ∧ Pv i H, ⟨n, Nat.zero_add n, h0⟩, ?_⟩
  rintro i m H ⟨e, p⟩
  have o := ok i H p
  by_cases hi : i < n
  · refine .inr ⟨S.go i H o hi, Pv (i + 1), ?_, ?_⟩
    · intro H' p'
      exact ⟨m - 1, by omega, by omega, p'⟩
    · intro x H' y
      exact hs i x H H' hi p (S.yld i H x H' o hi y)
  · have ei : i = n := by omega
    subst ei
    exact .inl ⟨S.stop H o, hd H p⟩
end
end Lx

namespace Lx
open PySem PySem.Spec PyProof.Rows PySem.Calls L2
/-! ### enumerate(text) -/
def Ites (x : Str) : It :=
  ⟨fun i _ => i < x.cps.size, fun i H v H' => ∃ T c, v = .ref T ∧ H T = none ∧ H' = upd H T (.tup [.int (i : Nat), .str ⟨#[c]⟩]) ∧ x.cps[i]? = some c, fun i _ => i = x.cps.size⟩
theorem turn_enumS {P : Program} {w : World} {K : PySem.W.Frag} {elts : List Expr} {kk : Nat} {tpos : Pos} (x : Str) (t : Tok) (e it : Addr) :
    Turn P w K (.Tuple elts kk tpos) (Ites x) [e, it] e (fun i h => (∃ old, IsEnum h e it ((i : Nat) : Int) old) ∧ h.IsStrIter it (strIterType x) x t i ∧ e ≠ it) where
  mem := by simp
  obj := fun i h st b hb => by
    obtain ⟨⟨old, he⟩, ⟨o, ho, hc, hd⟩, _⟩ := st
    have e' : b = e ∨ b = it := by simpa using hb
    rcases e' with z | z
    · rw [z]; exact ⟨_, he, fun v q => nomatch q⟩
    · rw [z]; exact ⟨o, ho, fun v q => by rw [hd] at q; cases q⟩
  keep := fun i h h' st k => let ⟨⟨old, he⟩, ⟨o, ho, r⟩, hne⟩ := st; ⟨⟨old, k e (by simp) _ he⟩, ⟨o, k it (by simp) o ho, r⟩, hne⟩
  item := by
    intro X hP hw hK hc i pins s σ H E I hf st hg
    subst hP hw hK
    obtain ⟨⟨old, he⟩, hit, hne⟩ := st
    have hel : e < s.heap.objs.size := Heap.lt_size he
    have hil : it < s.heap.objs.size := by obtain ⟨_, q, _⟩ := hit; exact Heap.lt_size q
    have D := Draws.text (prog := X.prog) (w := X.w) (A := X.A.in1) (show X.A.in1.handled = none from I.ok.hd hc) it x t
    refine wpAny_pyNext_enum_itemD D he hit hg hne (fun z => hne (by simpa using z)) fun u h' tk hu ho hit' hT hsz hk => ?_
    obtain ⟨c, tt, hcx, rfl⟩ := hu
    refine ⟨_, rfl, wpAny_letOwnedTupleGo_enum (s := { s with heap := h', toks := tk + 1 }) ho fun h'' he' sb => ?_⟩
    have hT2 : h''.get? s.heap.objs.size = some { cls := .type "tuple", data := .seq #[.int i tk, .str ⟨#[c]⟩ tt] } := (sb.2 _ (Nat.ne_of_gt hel)).trans hT
    have new : ObjOk X.prog X.w (upd H s.heap.objs.size (.tup [.int (i : Nat), .str ⟨#[c]⟩])) h'' s.heap.objs.size (.tup [.int (i : Nat), .str ⟨#[c]⟩]) :=
      ⟨by show 2 ≤ sizeLine; decide, [.int i tk, .str ⟨#[c]⟩ tt], .cons ⟨_, rfl⟩ (.cons ⟨_, rfl⟩ .nil), ⟨_, hT2, rfl, _, rfl⟩⟩
    have I1 : Inv X pins σ (upd H s.heap.objs.size (.tup [.int (i : Nat), .str ⟨#[c]⟩])) { s with heap := h'', toks := tk + 1 } :=
      I.turnedNew (ch := [e, it]) (fun b ob hb q => (sb.2 b (fun z => hb (by simp [z]))).trans (hk b ob (fun z => hb (by simp [z])) (fun z => hb (by simp [z])) q)) hf (Nat.le_refl _) new
    refine ⟨.ref s.heap.objs.size, _, I1, rfl, ⟨_, c, rfl, I.hok.fresh (Nat.le_refl _), rfl, hcx⟩, ⟨⟨.str ⟨#[c]⟩ tt, ?_⟩, ?_, hne⟩, fun b hb => ?_⟩
    · have e1 : ((i + 1 : Nat) : Int) = (i : Int) + 1 := by omega
      rw [e1]; exact he'
    · obtain ⟨o, ho2, r⟩ := hit'
      exact ⟨o, (sb.2 it (Ne.symm hne)).trans ho2, r⟩
    · have hb' : b < s.heap.objs.size := by
        have e' : b = e ∨ b = it := by simpa using hb
        rcases e' with z | z
        · rw [z]; exact hel
        · rw [z]; exact hil
      rw [upd_ne (Nat.ne_of_lt hb')]
      exact (hf b hb).1
  done := by
    intro X hP hw hK hc i pins s σ H E I hf st hg
    subst hP hw hK
    obtain ⟨⟨old, he⟩, hit, hne⟩ := st
    obtain ⟨f0, f1, f2, f3, f4, f5⟩ := hf it (by simp)
    have hg : i = x.cps.size := hg
    subst hg
    have D := Draws.text (prog := X.prog) (w := X.w) (A := X.A.in1) (show X.A.in1.handled = none from I.ok.hd hc) it x t
    exact wpAny_pyNext_enum_endD D he hit fun h' eb => ⟨rfl, I.turned (t' := s.toks) (fun b o hb q => eb b o hb q) f0 f1 f3 f4 f5⟩
  self := fun A i s Q E st h => let ⟨⟨_, he⟩, _⟩ := st; wpAny_pyIter_enum he h
def iEnumS (ta : TA) : TI := fun σ H R => ta σ H fun vs H1 => ∃ x, vs = [.str x] ∧ R (Ites x) H1
theorem pi_enumS {X : Cx} {e : Expr} {ta : TA} {p pos tpos : Pos} {elts : List Expr} {kk : Nat} (hg : Gl X "enumerate") (hm : X.mg "enumerate" = none) (ha : PA X [e] ta) (hs : starEach [e] X.env = [(false, eval e X.env)] := by rfl) :
    PI X (.Tuple elts kk tpos) (.Call (.Name "enumerate" p) [e] [] pos) (iEnumS ta) := by
  refine ⟨fun pins s σ H R I h => ?_⟩
  refine Call_ (ld_blt I hg hm boot_enumerate (PyProof.Rows.callWith_type1 (thn (ha.run pos pins s σ H _ I h) fun us s1 ⟨vs, H1, I1, r1, q1⟩ => ?_) hs rfl))
  obtain ⟨x, ex, q⟩ := q1
  subst ex
  cases r1 with
  | cons r rr =>
    cases rr
    obtain ⟨t, rfl⟩ := r
    refine call_enumerate_str fun h' he hit hsz hk => wpAny_pyIter_enum he ?_
    have I2 : Inv X pins σ H1 { s1 with heap := h' } := I1.kept (t' := s1.toks) hk
    refine ⟨s1.heap.objs.size + 1, [s1.heap.objs.size + 1, s1.heap.objs.size], _, _, H1, rfl, I2, turn_enumS x t (s1.heap.objs.size + 1) s1.heap.objs.size, ⟨⟨.none, he⟩, hit, Nat.succ_ne_self _⟩, fun b hb => ?_, q⟩
    have e' : b = s1.heap.objs.size + 1 ∨ b = s1.heap.objs.size := by simpa using hb
    have hle : s1.heap.objs.size ≤ b := by
      rcases e' with z | z
      · rw [z]; exact Nat.le_add_right _ _
      · rw [z]; exact Nat.le_refl _
    exact I1.fpOk hle (I1.hok.fresh hle)
theorem r_iEnumS {ta : TA} {σ : L2.St} {H : Hp} {R : It → Hp → Prop} (h : ta σ H fun vs H1 => ∃ x, vs = [.str x] ∧ R (Ites x) H1) : iEnumS ta σ H R := h
theorem src_enumS {x : Str} : Src (Ites x) x.cps.size (fun _ => True) (fun i v H H' => ∃ T c, v = .ref T ∧ H T = none ∧ H' = upd H T (.tup [.int (i : Nat), .str ⟨#[c]⟩]) ∧ x.cps[i]? = some c) where
  go := fun i H h hi => hi
  stop := fun H h => rfl
  yld := fun i H v H' h _ y => y
/-! ### is True, is False -/
def rIsB : R2 := fun x y H Q => ∃ a b, x = .bl a ∧ y = .bl b ∧ Q (.bl (decide (a = b))) H
def rNotB : R2 := fun x y H Q => ∃ a b, x = .bl a ∧ y = .bl b ∧ Q (.bl (!decide (a = b))) H
theorem op_isB {X : Cx} : OpR X (compareOp .Is) rIsB := by
  intro pins s σ H x y v u Q I rx ry h
  obtain ⟨a, b, rfl, rfl, q⟩ := h
  cases rx
  cases ry
  refine wpAny_is_plain rfl (fin_bl I q ?_)
  cases a <;> cases b <;> rfl
theorem op_notB {X : Cx} : OpR X (compareOp .IsNot) rNotB := by
  intro pins s σ H x y v u Q I rx ry h
  obtain ⟨a, b, rfl, rfl, q⟩ := h
  cases rx
  cases ry
  refine wpAny_isNot_plain rfl (fin_bl I q ?_)
  cases a <;> cases b <;> rfl
theorem r_isB {H : Hp} {Q : VK} {a b : Bool} (q : Q (.bl (decide (a = b))) H) : rIsB (.bl a) (.bl b) H Q := ⟨a, b, rfl, rfl, q⟩
theorem r_notB {H : Hp} {Q : VK} {a b : Bool} (q : Q (.bl (!decide (a = b))) H) : rNotB (.bl a) (.bl b) H Q := ⟨a, b, rfl, rfl, q⟩
end Lx

namespace Lx
open PySem PySem.Spec PyProof.Rows L2
/-! ### equality of data without bools -/
mutual
def plainD : PyData → Bool
  | .none => true
  | .bool _ => false
  | .int _ => true
  | .str _ => true
  | .list xs => plainAll xs
  | .tuple xs => plainAll xs
  | .dict _ => false
def plainAll : List PyData → Bool
  | [] => true
  | x :: xs => plainD x && plainAll xs
end
mutual
theorem eqv_iff : ∀ {d e : PyData}, plainD d = true → plainD e = true → (PyData.eqv d e = true ↔ d = e)
  | .none, e, _, he => by cases e <;> simp [PyData.eqv] <;> simp [plainD] at he
  | .bool b, _, h, _ => by simp [plainD] at h
  | .dict b, _, h, _ => by simp [plainD] at h
  | .int i, e, _, he => by cases e <;> simp [PyData.eqv] <;> simp [plainD] at he
  | .str i, e, _, he => by cases e <;> simp [PyData.eqv] <;> simp [plainD] at he
  | .list xs, e, h, he => by
    cases e with
    | list ys =>
      have := eqvAll_iff (xs := xs) (ys := ys) (by simpa [plainD] using h) (by simpa [plainD] using he)
      simp only [PyData.eqv, PyData.list.injEq]
      exact this
    | _ => simp [PyData.eqv]
  | .tuple xs, e, h, he => by
    cases e with
    | tuple ys =>
      have := eqvAll_iff (xs := xs) (ys := ys) (by simpa [plainD] using h) (by simpa [plainD] using he)
      simp only [PyData.eqv, PyData.tuple.injEq]
      exact this
    | _ => simp [PyData.eqv]
theorem eqvAll_iff : ∀ {xs ys : List PyData}, plainAll xs = true → plainAll ys = true → (PyData.eqvAll xs ys = true ↔ xs = ys)
  | [], [], _, _ => by simp [PyData.eqvAll]
  | [], _ :: _, _, _ => by simp [PyData.eqvAll]
  | _ :: _, [], _, _ => by simp [PyData.eqvAll]
  | x :: xs, y :: ys, h, h' => by
    simp only [plainAll, Bool.and_eq_true] at h h'
    have h1 := eqv_iff (d := x) (e := y) h.1 h'.1
    have h2 := eqvAll_iff (xs := xs) (ys := ys) h.2 h'.2
    simp only [PyData.eqvAll, Bool.and_eq_true, List.cons.injEq]
    rw [h1, h2]
end
theorem plainAll_of {ds : List PyData} (h : ∀ d ∈ ds, plainD d = true) : plainAll ds = true := by
  induction ds with
  | nil => rfl
  | cons d ds ih =>
    show (plainD d && plainAll ds) = true
    rw [h d List.mem_cons_self, ih fun x hx => h x (List.mem_cons_of_mem _ hx)]
    rfl
theorem canLayAll_of {ds : List PyData} (h : ∀ d ∈ ds, d.canLay0 = true) : PyData.canLayAll0 ds = true := by
  induction ds with
  | nil => rfl
  | cons d ds ih =>
    show (d.canLay0 && PyData.canLayAll0 ds) = true
    rw [h d List.mem_cons_self, ih fun x hx => h x (List.mem_cons_of_mem _ hx)]
    rfl
/-- data that == may look at, without bools, of depth at most k -/
structure Eqs (d : PyData) (k : Nat) : Prop where
  p : plainD d = true
  c : d.canLay0 = true
  k : d.depth ≤ k
theorem Eqs.int (i : Int) : Eqs (.int i) 0 := ⟨rfl, rfl, Nat.le_refl _⟩
theorem Eqs.none : Eqs .none 0 := ⟨rfl, rfl, Nat.le_refl _⟩
theorem Eqs.list {ds : List PyData} {k : Nat} (h : ∀ d ∈ ds, Eqs d k) : Eqs (.list ds) (k + 1) :=
  ⟨by show plainAll ds = true; exact plainAll_of fun d hd => (h d hd).p, by unfold PyData.canLay0; exact canLayAll_of fun d hd => (h d hd).c, Nat.succ_le_succ (depthAll_le fun d hd => (h d hd).k)⟩
theorem Eqs.tup {ds : List PyData} {k : Nat} (h : ∀ d ∈ ds, Eqs d k) : Eqs (.tuple ds) (k + 1) :=
  ⟨by show plainAll ds = true; exact plainAll_of fun d hd => (h d hd).p, by unfold PyData.canLay0; exact canLayAll_of fun d hd => (h d hd).c, Nat.succ_le_succ (depthAll_le fun d hd => (h d hd).k)⟩
theorem Eqs.mono {d : PyData} {k m : Nat} (h : Eqs d k) (l : k ≤ m) : Eqs d m := ⟨h.p, h.c, Nat.le_trans h.k l⟩
theorem Eqs.shaped {d : PyData} {k : Nat} (h : Eqs d k) (l : k ≤ 64) : SeqAt.shaped d = true := by
  unfold SeqAt.shaped
  rw [h.c, decide_eq_true (Nat.le_trans h.k l)]
  rfl
theorem r_eqDD {K : PySem.W.Frag} {H : Hp} {Q : VK} {x y : V} {d e : PyData} {k m : Nat} (hx : Dp K H x d) (hy : Dp K H y e) (hd : Eqs d k) (he : Eqs e m) (lk : k ≤ 64) (lm : m ≤ 64) (q : ∀ b : Bool, (b = true ↔ d = e) → Q (.bl b) H) : rEqD K x y H Q :=
  ⟨d, e, hx, hy, hd.shaped lk, he.shaped lm, q _ (eqv_iff hd.p he.p)⟩
theorem r_neDD {K : PySem.W.Frag} {H : Hp} {Q : VK} {x y : V} {d e : PyData} {k m : Nat} (hx : Dp K H x d) (hy : Dp K H y e) (hd : Eqs d k) (he : Eqs e m) (lk : k ≤ 64) (lm : m ≤ 64) (q : ∀ b : Bool, (b = true ↔ d ≠ e) → Q (.bl b) H) : rNeD K x y H Q := by
  refine ⟨d, e, hx, hy, hd.shaped lk, he.shaped lm, q _ ?_⟩
  have := eqv_iff hd.p he.p
  cases h : PyData.eqv d e with
  | true => rw [h] at this; exact ⟨fun z => (by cases z), fun z => absurd (this.mp rfl) z⟩
  | false => rw [h] at this; exact ⟨fun _ z => (by cases this.mpr z), fun _ => rfl⟩
/-- a comprehension over a list of tuples that keeps the tuples -/
theorem lc_tupsR {K : PySem.W.Frag} {a : Addr} {g : TG} {tt : TT} {te : TE} {vs : List Nat} {σ : L2.St} {H1 : Hp} {Dl : Addr} {Qd : Hp → Prop} {α : Type} {f : α → List V} {G : Addr → Prop} {as : List Addr} {qs : List α} (h : TupsAt f G H1 a as qs) (hl : qs.length ≤ 100000) (P : α → Bool)
    (hs : ∀ (t : Addr) (q : α) (H' : Hp) (Yes : V → Hp → Prop) (No : Hp → Prop), Same H1 H' → q ∈ qs → H' t = some (.tup (f q)) → (P q = true → ∀ H4, Same H' H4 → Yes (.ref t) H4) → (P q = false → ∀ H3, Same H' H3 → No H3) →
      g (.ref t) (wipe σ vs) H' fun σ2 H2 => wipe σ2 vs = wipe σ vs ∧ tt σ2 H2 fun b H3 => if b = true then te σ2 H3 Yes else No H3)
    (hD : H1 Dl = none) (q : ∀ H' rs, Same H1 H' → TupsAt f (fun _ => True) H' Dl rs (qs.filter P) → Qd H') :
    ∃ W : Nat → Nat → Hp → Prop, (∃ m, W 0 m (upd H1 Dl (.lst []))) ∧ ∀ i m H, W i m H →
      ((Itl K a).stop i H ∧ Qd H) ∨ ((Itl K a).go i H ∧ ∃ Nx : Hp → Prop, (∀ H', Nx H' → ∃ m', m' < m ∧ W (i + 1) m' H') ∧ ∀ x H', (Itl K a).yld i H x H' → g x (wipe σ vs) H' fun σ2 H2 => wipe σ2 vs = wipe σ vs ∧ tt σ2 H2 fun b H3 =>
        if b = true then te σ2 H3 fun y H4 => ∃ acc, H4 Dl = some (.lst acc) ∧ acc.length < sizeLine ∧ Nx (upd H4 Dl (.lst (acc ++ [y]))) else Nx H3) := by
  refine lc_src (src_list (xs := as.map V.ref)) (fun i H' => Same H1 H' ∧ ∃ rs, TupsAt f (fun _ => True) H' Dl rs ((qs.take i).filter P)) (fun i H' h' => lst_of (h'.1 _ _ h.hp)) ⟨same_new hD, [], .nil upd_same⟩ ?_ ?_
  · rintro i v H2 H3 hi ⟨s2, rs, hr⟩ ⟨rfl, hx⟩
    rw [List.length_map, h.len] at hi
    obtain ⟨t, e1, e2, _⟩ := h.at hi
    rw [e1] at hx
    cases hx
    have e2' := s2 _ _ e2
    have et : qs.take (i + 1) = qs.take i ++ [qs[i]] := by rw [List.take_add_one, List.getElem?_eq_getElem hi]; rfl
    have fl := List.length_filter_le P (qs.take i)
    have tl : (qs.take i).length ≤ i := by rw [List.length_take]; omega
    refine hs t qs[i] _ _ _ s2 (List.getElem_mem hi) e2' (fun hP H4 s4 => ?_) (fun hP H4 s4 => ?_)
    · have hr4 := hr.same s4
      refine ⟨_, hr4.hp, szl (by rw [List.length_map, hr4.len]; omega), same_set (s2.trans s4) hD, rs ++ [t], ?_⟩
      rw [et, List.filter_append, List.filter_cons_of_pos hP, List.filter_nil]
      exact hr4.app (s4 _ _ e2') trivial
    · refine ⟨s2.trans s4, rs, ?_⟩
      rw [et, List.filter_append, List.filter_cons_of_neg (by rw [hP]; exact Bool.false_ne_true), List.filter_nil, List.append_nil]
      exact hr.same s4
  · rintro H2 ⟨s2, rs, hr⟩
    rw [List.length_map, h.len, List.take_length] at hr
    exact q H2 rs s2 hr
end Lx

namespace PySem
open Sem (wp)
open AutoSeq1 (wpAny_loadPart')
theorem meets_enumerate_newT (l : Addr) (items : Array Value) (n : Nat) (o : Obj) (hto : o.cls = .type "tuple") (hd : o.data = .seq items n) :
    Meets (Builtin.«enumerate.__new__» ⟨[.type "enumerate", .ref l], []⟩) (fun _ R s => s.heap.get? l = some o ∧ s.heap.IsTuple l items ∧
      R (.ok (.ret (.ref (s.heap.push { cls := .type "tuple_iterator", data := .fields #[.ref l, .int 0 0] }).objs.size)))
        { s with heap := (s.heap.push { cls := .type "tuple_iterator", data := .fields #[.ref l, .int 0 0] }).push { cls := .type "enumerate", data := .fields #[.none, .bool false, .ref s.heap.objs.size, rawInt 0, .none, .none] } }) :=
  .of_wp fun prog w A R s h => by
    obtain ⟨hp, g, d, tk, os⟩ := s; obtain ⟨hl, hL, h⟩ := h
    obtain ⟨oc, od, odt, osl⟩ := o
    replace hto : oc = .type "tuple" := hto
    subst hto
    have hsub := sub_enumerate
    wp_walk using wpAny_loadPart' hl
    refine wpAny_stack_any fun st => wpAny_pure ?_
    split
    · rename_i c _ _ _ _ _
      cases (c == Value.type "enumerate")
      · wp_walk using wpAny_loadPart' hl, wpAny_pyIter_tuple hL
        exact ⟨_, rfl, h⟩
      · wp_walk using wpAny_loadPart' hl, wpAny_pyIter_tuple hL
        exact ⟨_, rfl, h⟩
    · wp_walk using wpAny_loadPart' hl, wpAny_pyIter_tuple hL
      exact ⟨_, rfl, h⟩
end PySem
namespace PySem
section
variable {prog : Program} {w : World} {A : Around} {E : Value → Shared → Prop} {s : Shared}
theorem call_enumerate_tuple {l : Addr} {items : Array Value} {Q : Value → Shared → Prop} (hL : s.heap.IsTuple l items)
    (h : ∀ h', IsEnum h' (s.heap.objs.size + 1) s.heap.objs.size 0 .none → h'.IsTupleIter s.heap.objs.size l 0 → h'.objs.size = s.heap.objs.size + 2 →
      (∀ b o, s.heap.get? b = some o → h'.get? b = some o) → Q (.ref (s.heap.objs.size + 1)) { s with heap := h' }) :
    wpAny (model prog w) A (call (.type "enumerate") [.ref l]) Q E s := by
  have hL' := hL
  obtain ⟨o, hl, hc, n, hd⟩ := hL
  refine callType_new F.called_enumerate (by decide) (F.typeCall_enumerate_1 _) (F.newCall_enumerate_1 _) (fun obj => F.args_object_init_2 obj _) F.entry_enumerate_new
    (meets_enumerate_newT l items n o hc hd) ⟨hl, hL', ?_⟩
  have hz : (s.heap.push { cls := .type "tuple_iterator", data := .fields #[.ref l, .int 0 0] }).objs.size = s.heap.objs.size + 1 := Heap.size_push ..
  show _ ∧ _
  rw [hz]
  have he : IsEnum ((s.heap.push { cls := .type "tuple_iterator", data := .fields #[.ref l, .int 0 0] }).push
      { cls := .type "enumerate", data := .fields #[.none, .bool false, .ref s.heap.objs.size, rawInt 0, .none, .none] }) (s.heap.objs.size + 1) s.heap.objs.size 0 .none := by
    have := Heap.get?_push_size (s.heap.push { cls := .type "tuple_iterator", data := .fields #[.ref l, .int 0 0] })
      (o := { cls := .type "enumerate", data := .fields #[.none, .bool false, .ref s.heap.objs.size, rawInt 0, .none, .none] }) rfl
    rw [hz] at this; exact this
  refine ⟨⟨_, he, rfl⟩, h _ he ⟨_, Heap.get?_push_of_some _ (Heap.get?_push_size _ rfl), rfl, rfl⟩ (by rw [Heap.size_push, hz]) fun b o x => Heap.get?_push_of_some _ (Heap.get?_push_of_some _ x)⟩
end
end PySem
namespace Lx
open PySem PySem.Spec PyProof.Rows PySem.Calls L2
/-! ### enumerate(tuple) -/
def Itet (K : PySem.W.Frag) (a : Addr) : It :=
  ⟨fun i H => ∃ (xs : List V) (x : V), SqT K H a xs ∧ xs[i]? = some x, fun i H v H' => ∃ T x, v = .ref T ∧ H T = none ∧ H' = upd H T (.tup [.int (i : Nat), x]) ∧ ∀ xs, SqT K H a xs → xs[i]? = some x, fun i H => ∃ xs : List V, SqT K H a xs ∧ xs.length ≤ i⟩
theorem turn_enumT {P : Program} {w : World} {K : PySem.W.Frag} {elts : List Expr} {kk : Nat} {tpos : Pos} (a e it : Addr) :
    Turn P w K (.Tuple elts kk tpos) (Itet K a) [e, it] e (fun i h => (∃ old, IsEnum h e it ((i : Nat) : Int) old) ∧ h.IsTupleIter it a i ∧ e ≠ it) where
  mem := by simp
  obj := fun i h st b hb => by
    obtain ⟨⟨old, he⟩, ⟨o, ho, hc, hd⟩, _⟩ := st
    have e' : b = e ∨ b = it := by simpa using hb
    rcases e' with z | z
    · rw [z]; exact ⟨_, he, fun v q => nomatch q⟩
    · rw [z]; exact ⟨o, ho, fun v q => by rw [hd] at q; cases q⟩
  keep := fun i h h' st k => let ⟨⟨old, he⟩, hi, hne⟩ := st; ⟨⟨old, k e (by simp) _ he⟩, hi.at fun o q => k it (by simp) o q, hne⟩
  item := by
    intro X hP hw hK hc i pins s σ H E I hf st hg
    subst hP hw hK
    obtain ⟨⟨old, he⟩, hit, hne⟩ := st
    obtain ⟨xs, x, hq, hx⟩ := hg
    obtain ⟨its, rv, p, hz⟩ := I.tuple hq
    obtain ⟨u, hu, ru⟩ := rv.get hx
    have hel : e < s.heap.objs.size := Heap.lt_size he
    have hil : it < s.heap.objs.size := by obtain ⟨_, q, _⟩ := hit; exact Heap.lt_size q
    have pt : s.heap.IsTuple a its.toArray := p
    have nai : a ≠ it := fun z => by
      obtain ⟨o1, h1, c1, _⟩ := pt
      obtain ⟨o2, h2, c2, _⟩ := hit
      rw [z, h2] at h1
      cases h1
      rw [c2] at c1
      exact absurd c1 (by decide)
    have nae : e ≠ a := fun z => by
      obtain ⟨o1, h1, c1, _⟩ := pt
      have h2 := he
      unfold IsEnum at h2
      rw [z, h1] at h2
      cases h2
      have c2 : (Value.type "enumerate") = Value.type "tuple" := c1
      exact absurd c2 (by decide)
    have D := Draws.tuple (prog := X.prog) (w := X.w) (A := X.A.in1) (show X.A.in1.handled = none from I.ok.hd hc) it a nai its.toArray
    have hlt : i < its.toArray.size := by
      have := (List.getElem?_eq_some_iff.mp hu).1
      simpa using this
    refine wpAny_pyNext_enum_itemD D he ⟨hit, pt⟩ hlt hne (fun z => by
      rcases List.mem_cons.mp z with z | z
      · exact hne z
      · exact nae (List.mem_singleton.mp z)) fun u' h' tk hu' ho hit' hT hsz hk => ?_
    obtain rfl : u = u' := by
      have e1 : its.toArray[i]? = some u' := hu'
      rw [List.getElem?_toArray, hu] at e1
      exact Option.some.inj e1
    refine ⟨_, rfl, wpAny_letOwnedTupleGo_enum (s := { s with heap := h', toks := tk + 1 }) ho fun h'' he' sb => ?_⟩
    have hT2 : h''.get? s.heap.objs.size = some { cls := .type "tuple", data := .seq #[.int i tk, u] } := (sb.2 _ (Nat.ne_of_gt hel)).trans hT
    have new : ObjOk X.prog X.w (upd H s.heap.objs.size (.tup [.int (i : Nat), x])) h'' s.heap.objs.size (.tup [.int (i : Nat), x]) :=
      ⟨by show 2 ≤ sizeLine; decide, [.int i tk, u], .cons ⟨_, rfl⟩ (.cons ru .nil), ⟨_, hT2, rfl, _, rfl⟩⟩
    have I1 : Inv X pins σ (upd H s.heap.objs.size (.tup [.int (i : Nat), x])) { s with heap := h'', toks := tk + 1 } :=
      I.turnedNew (ch := [e, it]) (fun b ob hb q => (sb.2 b (fun z => hb (by simp [z]))).trans (hk b ob (fun z => hb (by simp [z])) (fun z => hb (by simp [z])) q)) hf (Nat.le_refl _) new
    refine ⟨.ref s.heap.objs.size, _, I1, rfl, ⟨_, x, rfl, I.hok.fresh (Nat.le_refl _), rfl, fun ys hy => by rw [I.tuple_inj hy hq]; exact hx⟩, ⟨⟨u, ?_⟩, hit'.1.at fun o q => (sb.2 it (Ne.symm hne)).trans q, hne⟩, fun b hb => ?_⟩
    · have e1 : ((i + 1 : Nat) : Int) = (i : Int) + 1 := by omega
      rw [e1]; exact he'
    · have hb' : b < s.heap.objs.size := by
        have e' : b = e ∨ b = it := by simpa using hb
        rcases e' with z | z
        · rw [z]; exact hel
        · rw [z]; exact hil
      rw [upd_ne (Nat.ne_of_lt hb')]
      exact (hf b hb).1
  done := by
    intro X hP hw hK hc i pins s σ H E I hf st hg
    subst hP hw hK
    obtain ⟨⟨old, he⟩, hit, hne⟩ := st
    obtain ⟨xs, hq, hx⟩ := hg
    obtain ⟨its, rv, p, hz⟩ := I.tuple hq
    obtain ⟨f0, f1, f2, f3, f4, f5⟩ := hf it (by simp)
    have hl := rv.length
    have pt : s.heap.IsTuple a its.toArray := p
    have nai : a ≠ it := fun z => by
      obtain ⟨o1, h1, c1, _⟩ := pt
      obtain ⟨o2, h2, c2, _⟩ := hit
      rw [z, h2] at h1
      cases h1
      rw [c2] at c1
      exact absurd c1 (by decide)
    have D : Draws X.prog X.w X.A.in1 it [it, a] 0 (fun i v => its.toArray[i]? = some v) (fun _ h => h.IsTupleIter it a i ∧ h.IsTuple a its.toArray) := {
      live := fun _ _ st => let ⟨o, ho, _⟩ := st.1; ⟨o, ho⟩
      frame := fun _ _ _ st hk => ⟨st.1.at fun o e => hk it (by simp) o e, st.2.at fun o e => hk a (by simp) o e⟩
      item := fun j s Q E hi st hQ => absurd hi (Nat.not_lt_zero _)
      done := fun s Q E st hE => wpAny_nextOf_tuple_end (show X.A.in1.handled = none from I.ok.hd hc) st.1 st.2 (by simp; omega) hE }
    exact wpAny_pyNext_enum_endD D he ⟨hit, pt⟩ fun h' eb => ⟨rfl, I.turned (t' := s.toks) (fun b o hb q => eb b o hb q) f0 f1 f3 f4 f5⟩
  self := fun A i s Q E st h => let ⟨⟨_, he⟩, _⟩ := st; wpAny_pyIter_enum he h
def iEnumT (K : PySem.W.Frag) (ta : TA) : TI := fun σ H R => ta σ H fun vs H1 => ∃ a xs, vs = [.ref a] ∧ SqT K H1 a xs ∧ R (Itet K a) H1
theorem pi_enumT {X : Cx} {e : Expr} {ta : TA} {p pos tpos : Pos} {elts : List Expr} {kk : Nat} (hg : Gl X "enumerate") (hm : X.mg "enumerate" = none) (ha : PA X [e] ta) (hs : starEach [e] X.env = [(false, eval e X.env)] := by rfl) :
    PI X (.Tuple elts kk tpos) (.Call (.Name "enumerate" p) [e] [] pos) (iEnumT X.K ta) := by
  refine ⟨fun pins s σ H R I h => ?_⟩
  refine Call_ (ld_blt I hg hm boot_enumerate (PyProof.Rows.callWith_type1 (thn (ha.run pos pins s σ H _ I h) fun us s1 ⟨vs, H1, I1, r1, q1⟩ => ?_) hs rfl))
  obtain ⟨a, xs, ex, hq, q⟩ := q1
  subst ex
  cases r1 with
  | cons r rr =>
    cases rr
    cases r
    obtain ⟨its, rv, p', hz⟩ := I1.tuple hq
    refine call_enumerate_tuple (show s1.heap.IsTuple a its.toArray from p') fun h' he hit hsz hk => wpAny_pyIter_enum he ?_
    have I2 : Inv X pins σ H1 { s1 with heap := h' } := I1.kept (t' := s1.toks) hk
    refine ⟨s1.heap.objs.size + 1, [s1.heap.objs.size + 1, s1.heap.objs.size], _, _, H1, rfl, I2, turn_enumT a (s1.heap.objs.size + 1) s1.heap.objs.size, ⟨⟨.none, he⟩, hit, Nat.succ_ne_self _⟩, fun b hb => ?_, q⟩
    have e' : b = s1.heap.objs.size + 1 ∨ b = s1.heap.objs.size := by simpa using hb
    have hle : s1.heap.objs.size ≤ b := by
      rcases e' with z | z
      · rw [z]; exact Nat.le_add_right _ _
      · rw [z]; exact Nat.le_refl _
    exact I1.fpOk hle (I1.hok.fresh hle)
theorem k_enumT (K : PySem.W.Frag) {X : Cx} {e : Expr} {ta : TA} {p pos tpos : Pos} {elts : List Expr} {kk : Nat} (hg : Gl X "enumerate") (hm : X.mg "enumerate" = none) (ha : PA X [e] ta) (hs : starEach [e] X.env = [(false, eval e X.env)] := by rfl) (h : X.K = K := by rfl) :
    PI X (.Tuple elts kk tpos) (.Call (.Name "enumerate" p) [e] [] pos) (iEnumT K ta) := h ▸ pi_enumT hg hm ha hs
theorem src_enumT {K : PySem.W.Frag} {a : Addr} {xs : List V} : Src (Itet K a) xs.length (fun H => SqT K H a xs) (fun i v H H' => ∃ T x, v = .ref T ∧ H T = none ∧ H' = upd H T (.tup [.int (i : Nat), x]) ∧ xs[i]? = some x) where
  go := fun i H h hi => ⟨xs, xs[i], h, by simp [hi]⟩
  stop := fun H h => ⟨xs, h, Nat.le_refl _⟩
  yld := fun i H v H' h _ y => by
    obtain ⟨T, x, e, n, u, f⟩ := y
    exact ⟨T, x, e, n, u, f xs h⟩
/-- a walk over the numbered items of a list or a tuple -/
theorem r_enumSq {K : PySem.W.Frag} {σ : L2.St} {H : Hp} {R : It → Hp → Prop} {i : Nat} {a : Addr} {xs : List V} (e : σ[i]? = some (some (.ref a))) (h : Sq H a xs)
    (q : ∀ (J : It) (OK : Hp → Prop), (∀ H', H' a = H a → OK H') → Src J xs.length OK (fun i v H H' => ∃ T x, v = .ref T ∧ H T = none ∧ H' = upd H T (.tup [.int (i : Nat), x]) ∧ xs[i]? = some x) → R J H) : iOr (iEnum K (tCons (tVar i) tNil)) (iEnumT K (tCons (tVar i) tNil)) σ H R :=
  h.elim (fun h => .inl ⟨.ref a, e, a, xs, rfl, lst_of h, q _ (fun H' => SqL K H' a xs) (fun H' s => lst_of (s.trans h)) src_enum⟩) fun h => .inr ⟨.ref a, e, a, xs, rfl, tup_of h, q _ (fun H' => SqT K H' a xs) (fun H' s => tup_of (s.trans h)) src_enumT⟩
theorem Sq.there {H : Hp} {a : Addr} {xs : List V} (h : Sq H a xs) : ∃ o, H a = some o := h.elim (fun h => ⟨_, h⟩) fun h => ⟨_, h⟩
end Lx

namespace Lx
open PySem PySem.Spec PyProof.Rows L2
/-! ### exceptions where no repr runs around -/
/-- what a callee lets out leaves the def as well -/
theorem passE {X : Cx} {E : XK} (tk : Takes X (fun cls d _ H => E cls d H)) : Passes (L2.CX X.prog X.w) X E := passes_call tk fun _ _ _ _ h => h
def orSp (a b : Sp) : Sp := fun vs H Q E => a vs H Q E ∨ b vs H Q E
section
variable {P : Program} {w : World} {K : PySem.W.Frag} {mg : Str → Option Value} {base : Heap} {k : Nat} {f : Addr} {fd : FuncData} {ps : List Str} {sp sp' : Sp}
theorem FnG.or (F : FnG P w K mg base k f fd ps sp) (F' : FnG P w K mg base k f fd ps sp') : FnG P w K mg base k f fd ps (orSp sp sp') :=
  ⟨fun us H Q E h => h.elim (F.ln us H Q E) (F'.ln us H Q E), fun A fs s H ar us vs Q E hg hr e b v h => h.elim (F.go A fs s H ar us vs Q E hg hr e b v) (F'.go A fs s H ar us vs Q E hg hr e b v)⟩
end
/-- a base class without an own __init__ -/
structure BaseI (K : PySem.W.Frag) (C0 : Addr) : Prop where
  ga : PySem.W.specialIn K (.ref C0) "__getattribute__" = some (some (.builtin "type.__getattribute__"))
  rd : PySem.W.readsIn K C0 (.type "type") = true
  fi : PySem.W.findCls K (.ref C0) (.type "type") "__init__" = some (.val (.builtin "ValueError.__init__"))
/-- an error class with its own __init__, as its makers see it -/
structure Xn (P : Program) (w : World) (K : PySem.W.Frag) (mg : Str → Option Value) (base : Heap) (k : Nat) (x : Str) (C : Addr) (dvs : List V) (sp : Sp) : Prop where
  ex : ∃ (f : Addr) (fd : FuncData) (ps : List Str) (ds : List Value), FnG P w K mg base k f fd ps sp ∧ mg x = some (.ref C) ∧ OexC K C ∧ PySem.W.findIn K (.ref C) "__init__" = some (some (.ref f)) ∧ PySem.W.typeIn K (.ref f) = some (.type "function") ∧ Binds K fd ps ds ∧ Vals dvs ds
section
variable {X : Cx} {k : Nat} {C0 C : Addr} {sp : Sp} {dvs : List V} {E : L2.St → XK} {x : Str} {p p1 p2 pos : Pos} {e : Expr} {es : List Expr} {ta : TA} {t : TA}
/-- C0.__init__(self, ..), C0 an own class over ValueError -/
theorem pe_oinit {pl : Sem Bool} (T0 : BaseI X.K C0) (hg : Gl X x) (hm : X.mg x = some (.ref C0)) (ha : PA X (e :: es) ta) (hdb : (x == ("__debug__" : Str)) = false := by decide)
    (hc : eval (.Call (.Attribute (.Name x p1) "__init__" p2) (e :: es) [] pos) X.env = (do
      let ov ← eval (.Name x p1) X.env
      standAt p2.atName
      let (f, first) ← holding [ov] (getMethod ov "__init__" pl)
      callWith pos f first (backTo pos (starEach (e :: es) X.env)) (backToKw pos (keywordEach [] X.env))) := by rfl)
    (he : starEach (e :: es) X.env = (false, eval e X.env) :: starEach es X.env := by rfl) (hpl : (backTo pos (starEach es X.env)).any (·.1) = false := by rfl) :
    PE X (.Call (.Attribute (.Name x p1) "__init__" p2) (e :: es) [] pos) (tVeI X.K ta) := by
  refine ⟨fun pins s σ H Q I h => ?_⟩
  refine PySem.W.methodCall_KW (ld_glob I hg hm ?_ hdb) hc
  refine PySem.W.method_cls I.kIn T0.ga (PySem.W.cls_value I.kIn T0.rd T0.fi (by decide +kernel) ?_)
  show wpAny _ _ (callWith pos (Value.builtin "ValueError.__init__") [] (backTo pos (starEach (e :: es) X.env)) []) _ _ _
  refine PyProof.Rows.callWith_method1 (thn (ha.run pos pins _ σ H _ (I.tok _) h) fun us s1 ⟨vs, H1, I1, r1, a, C, ws, ev, hl, T, ea, q⟩ => ?_) he hpl
  subst ev
  cases r1 with
  | @cons _ u0 _ ur ra rw' =>
    obtain rfl : u0 = Value.ref a := ra
    have hlen : ur.length ≤ sizeLine := by
      rw [← Paired.length rw', sizeLine_eq]
      omega
    exact oinit_ok T I1 ea hlen fun s' J => ⟨.non, H1, J, rfl, q⟩
/-- C(..), C an error class whose __init__ keeps sp -/
theorem pmk_x (D : Xn X.prog X.w X.K X.mg X.base k x C dvs sp) (hG : X.A.guards = some []) (hr : Room (k + 1) X.A) (hx : Passes (L2.CX X.prog X.w) X (fun _ _ _ => False)) (hg : Gl X x) (ha : PA X (e :: es) ta)
    (hdb : (x == ("__debug__" : Str)) = false := by decide) (he : starEach (e :: es) X.env = (false, eval e X.env) :: starEach es X.env := by rfl) (hpl : (backTo pos (starEach es X.env)).any (·.1) = false := by rfl) :
    PMk X (.Call (.Name x p) (e :: es) [] pos) (tMkO C sp dvs ta) := by
  obtain ⟨fI, fd, ps, ds, F1, hm, T, iC, tI, hb, hd⟩ := D.ex
  intro pins s σ H Q I h
  obtain ⟨nm, q, N, bs, bm, sn, sub, ab, col, dd, k0, k1, k2, k3, k5, hC, hbm⟩ := T.cls
  refine wpAny_Call_Name_kw (ld_glob I hg hm ?_ hdb)
  refine PySem.W.callWith_K (h₀ := X.base) I.ok.mod.kin T.kC (thn (ha.run pos pins s σ H _ I h) fun us s1 ⟨vs, H1, I1, r1, hz, q1⟩ => ⟨I1.kIn, ?_⟩) he hpl
  show wpAny _ _ (call (.ref C) us) _ _ _
  obtain ⟨hp, g, dr, tk, os⟩ := s1
  have hsz : hp.objs.size ≤ hp.objs.size + 1 := Nat.le_succ _
  have hn : H1 (hp.objs.size + 1) = none := I1.hok.fresh hsz
  have hq := q1 (hp.objs.size + 1) hn
  have kk : ∀ b o, hp.get? b = some o → ((hp.push (PySem.W.kdv_tup us)).push (PySem.HandSPX.excO C hp.objs.size)).get? b = some o := fun b o e => Heap.get?_push_of_some _ (Heap.get?_push_of_some _ e)
  have hget : ((hp.push (PySem.W.kdv_tup us)).push (PySem.HandSPX.excO C hp.objs.size)).get? (hp.objs.size + 1) = some (PySem.HandSPX.excO C hp.objs.size) := by heap_get
  have I2 : Inv X pins σ (upd H1 (hp.objs.size + 1) (exo (hp.objs.size + 1) C none)) ⟨(hp.push (PySem.W.kdv_tup us)).push (PySem.HandSPX.excO C hp.objs.size), g, dr, tk, os⟩ :=
    I1.laid (t' := tk) (a := hp.objs.size + 1) (o := exo (hp.objs.size + 1) C none) (h' := (hp.push (PySem.W.kdv_tup us)).push (PySem.HandSPX.excO C hp.objs.size)) kk hsz (exo_ok hget)
  have r2 : Vals (V.ref (hp.objs.size + 1) :: (vs ++ dvs)) (Value.ref (hp.objs.size + 1) :: (us ++ ds)) := .cons rfl (r1.append hd)
  have hl : (Value.ref (hp.objs.size + 1) :: us ++ ds).length = ps.length := by
    have e := r2.length
    rw [F1.ln _ _ _ _ hq] at e
    exact e.symm
  have hus : us.length ≤ sizeLine := by
    rw [← Paired.length r1, sizeLine_eq]
    omega
  refine wpAny_call (PySem.HandSPX.call_own F.excBase_ValueError (fun Y => PySem.HandSPX.refsVE_contains Y bm hbm) (I1.kIn _ _ hC) (PySem.W.looks_findIn I1.kIn iC) (fun self => PySem.W.bind_fn I1.kIn self tI) hus
    (codeAny_mono (F1.go _ X.stack _ _ ⟨Value.ref (hp.objs.size + 1) :: us, []⟩ (Value.ref (hp.objs.size + 1) :: (us ++ ds)) _ _ (fun _ _ _ => False) hG (hr.make C us []) (I2.env0.make C us []) (hb _ (Value.ref (hp.objs.size + 1) :: us) I2.kIn hl) r2 hq) fun r s' hq' => ?_))
  cases r with
  | error er => exact hx pins σ _ _ er s' I2 hq'
  | ok fl =>
    cases fl with
    | ret u =>
      obtain ⟨v, H2, os2, bare2, un2, hok2, rv, ev, d, fs, ea, ed, hd1, q2⟩ := hq'
      subst ev
      obtain ⟨h2, g2, d2, t2, os'⟩ := s'
      exact ⟨rv, mk_end (raises_own T.exC T.tyC) I1 hsz kk un2 hok2 os2 bare2 ea ed hd1 q2⟩
    | next => exact False.elim hq'
    | brk => exact False.elim hq'
    | cont => exact False.elim hq'
/-- f(..) in a try's body -/
def tCallG (sp : Sp) (dvs : List V) (E : L2.St → XK) (t : TA) : TE := fun σ H Q => t σ H fun vs H1 => sp (vs ++ dvs) H1 Q (E σ)
theorem pe_dfS (D : Df X.prog X.w X.K X.mg X.base k x dvs sp) (hG : X.A.guards = some []) (hr : Room k X.A) (hx : ∀ σ, PassesAt (L2.CX X.prog X.w) X σ (E σ)) (hg : Gl X x) (ha : PA X (e :: es) t)
    (hdb : (x == ("__debug__" : Str)) = false := by decide) (he : starEach (e :: es) X.env = (false, eval e X.env) :: starEach es X.env := by rfl) (hpl : (backTo pos (starEach es X.env)).any (·.1) = false := by rfl) :
    PE X (.Call (.Name x p) (e :: es) [] pos) (tCallG sp dvs E t) := by
  obtain ⟨f, fd, ps, ds, F, hm, hk, hb, hd⟩ := D.ex
  refine ⟨fun pins s σ H Q I h => ?_⟩
  refine wpAny_Call_Name_kw (ld_glob I hg hm ?_ hdb)
  refine PySem.W.callWith_K (h₀ := X.base) I.ok.mod.kin hk (thn (ha.run pos pins s σ H _ I h) fun us s1 ⟨vs, H1, I1, r, q⟩ => ⟨I1.kIn, ?_⟩) he hpl
  have rv := r.append hd
  have z := F.go X.A X.stack s1 H1 ⟨us, []⟩ (us ++ ds) (vs ++ dvs) Q (E σ) hG hr I1.env0 (hb s1 us I1.kIn (rv.length.symm.trans (F.ln _ _ _ _ q))) rv q
  refine wpAny_call (codeAny_mono z ?_)
  intro r s' hq
  cases r with
  | error e => exact hx σ pins H1 s1 e s' I1 hq
  | ok fl => cases fl with
    | ret u => exact I1.after hq
    | next => exact hq.elim
    | brk => exact hq.elim
    | cont => exact hq.elim
end
/-! ### readings -/
section
variable {K : PySem.W.Frag} {σ : L2.St} {H : Hp} {Q : VK} {QX : XK} {D : Ends} {ta : TA} {to te : TE} {C a : Addr} {fld : Str} {v : V} {sp : Sp} {dvs : List V} {E : L2.St → XK}
theorem r_callG (h : ta σ H fun vs H1 => sp (vs ++ dvs) H1 Q (E σ)) : tCallG sp dvs E ta σ H Q := h
theorem r_vei (h : ta σ H fun vs H1 => ∃ (a C : Addr) (ws : List V), vs = .ref a :: ws ∧ ws.length ≤ 1000 ∧ OexC K C ∧ H1 a = some (exo a C none) ∧ Q .non H1) : tVeI K ta σ H Q := h
theorem r_ost (h : te σ H fun y H1 => to σ H1 fun x H2 => ∃ a C : Addr, x = .ref a ∧ OexC K C ∧ PySem.W.findIn K (.ref C) fld = some none ∧
  ((H2 a = some (exo a C none) ∧ ∀ dx, H2 dx = none → dx ≠ a → D.nx σ (upd (upd H2 dx (exd dx [(fld, y)])) a (exo a C (some dx)))) ∨
    ∃ (dx : Addr) (fs : List (Str × V)), H2 a = some (exo a C (some dx)) ∧ H2 dx = some (exd dx fs) ∧ fs.length ≤ 900 ∧ D.nx σ (upd H2 dx (exd dx ((fld, y) :: fs))))) : tOst K fld to te D σ H := h
/-- an own __init__ that keeps one value in the field fld -/
def spXInit (C : Addr) (fld : Str) : Sp := fun vs H Q _ => ∃ (a : Addr) (v : V), vs = [.ref a, v] ∧ H a = some (exo a C none) ∧ ∀ dx, H dx = none → dx ≠ a → Q .non (upd (upd H dx (exd dx [(fld, v)])) a (exo a C (some dx)))
theorem r_mkO (h : ta σ H fun vs H1 => vs.length ≤ 1000 ∧ ∀ a, H1 a = none → sp (.ref a :: (vs ++ dvs)) (upd H1 a (exo a C none))
  (fun v H2 => v = .non ∧ ∃ (d : Addr) (fs : List (Str × V)), H2 a = some (exo a C (some d)) ∧ H2 d = some (exd d fs) ∧ H1 d = none ∧ QX (.ref C) (some d) (upd (del H2 a) d (.xd fs))) (fun _ _ _ => False)) : tMkO C sp dvs ta σ H QX := h
theorem r_mkx (h : ∀ d H2, Same H H2 → H d = none → H2 d = some (.xd [(fld, v)]) → QX (.ref C) (some d) H2) : [v].length ≤ 1000 ∧ ∀ a, H a = none → spXInit C fld (.ref a :: ([v] ++ [])) (upd H a (exo a C none))
  (fun v H2 => v = .non ∧ ∃ (d : Addr) (fs : List (Str × V)), H2 a = some (exo a C (some d)) ∧ H2 d = some (exd d fs) ∧ H d = none ∧ QX (.ref C) (some d) (upd (del H2 a) d (.xd fs))) (fun _ _ _ => False) := by
  refine ⟨by show 1 ≤ 1000; decide, fun a na => ⟨a, v, rfl, upd_same, fun dx nd ne => ⟨rfl, dx, [(fld, v)], upd_same, ?_, ?_, ?_⟩⟩⟩
  · rw [upd_ne ne]; exact upd_same
  · rw [upd_ne ne] at nd; exact nd
  · have nd' : H dx = none := by rw [upd_ne ne] at nd; exact nd
    refine h dx _ (fun x o hx => ?_) nd' upd_same
    have e1 : x ≠ a := fun z => by rw [z, na] at hx; cases hx
    have e2 : x ≠ dx := fun z => by rw [z, nd'] at hx; cases hx
    rw [upd_ne e2, del_ne e1, upd_ne e1, upd_ne e2, upd_ne e1]
    exact hx
theorem r_caught {c cls : Value} {i : Nat} {ts : Addr → Value → Option Addr → TS} {Wout : WX} {d : Option Addr} (e : PySem.W.exmOne K cls c = some true)
    (h : ∀ a, H a = none → ts a cls d { nx := fun σ' H' => D.nx (σ'.set i none) H', rt := D.rt, bk := fun σ' H' => D.bk (σ'.set i none) H', ct := fun σ' H' => D.ct (σ'.set i none) H' } (σ.set i (some (.ref a))) H) : wAs K c i ts Wout D cls d σ H :=
  ⟨true, e, fun _ => h, fun z => Bool.noConfusion z⟩
theorem r_xf {cls : Value} {d : Option Addr} (h : te σ H fun x H1 => x = .ref a ∧ cls = .ref C ∧ ∃ (dd : Addr) (fs : List (Str × V)) (v : V), d = some dd ∧ H1 dd = some (.xd fs) ∧ fs.lookup fld = some v ∧ Q v H1) : tXf a cls d C fld te σ H Q := h
end
end Lx
namespace Lx
open PySem PySem.Spec PyProof.Rows L2
/-- an error class with one field, as its catchers see it -/
structure ErrK (K : PySem.W.Frag) (mg : Str → Option Value) (x : Str) (C : Addr) (fld : Str) : Prop where
  g : mg x = some (.ref C)
  xf : XfC K C
  nf : PySem.W.findIn K (.ref C) fld = some none
  te : PySem.W.exmOne K (.ref C) (.ref C) = some true
/-- .. and as its own __init__ sees it -/
structure OwnX (K : PySem.W.Frag) (mg : Str → Option Value) (x0 : Str) (C0 C : Addr) (fld : Str) : Prop where
  g0 : mg x0 = some (.ref C0)
  b0 : BaseI K C0
  ox : OexC K C
  nf : PySem.W.findIn K (.ref C) fld = some none
end Lx

namespace L2
open PySem PySem.Spec PyProof.Rows PySem.Calls
/-! ### set(a list of ints): the members go in one by one -/
section
variable {P : Program} {w : World} {A : Around} {E : Value → Shared → Prop} {s : Shared}
abbrev setNew (w : World) : Obj := { cls := .type "set", dict := none, data := .set #[] 0 (.fresh 0 0 (!w.params.followText "set-order")) }
theorem call_set_lstI {l : Addr} {xs : Array Value} (ns : List Int) {Q : Value → Shared → Prop} (hh : A.handled = none) (hl : s.heap.IsList l xs) (hi : IntsAre xs.toList ns) (hb : ns.length + 1 < scanBound)
    (h : ∀ (h' : Heap) (tk c : Nat), SetR w h' s.heap.objs.size (fun j => decide (j ∈ ns)) c → c ≤ ns.length → (∀ b o, s.heap.get? b = some o → h'.get? b = some o) → Q (.ref s.heap.objs.size) { s with heap := h', toks := tk }) :
    wpAny (model P w) A (call (.type "set") [.ref l]) Q E s := by
  have size_eq : xs.size = ns.length := (Array.length_toList (xs := xs)).symm.trans (IntsAre.length hi)
  obtain ⟨c, tl, hmro⟩ := F.called_set.mro
  have hmade := F.called_set.made
  have hsub := F.called_set.sub
  have h1 := F.called_set.notType
  have h2 := F.called_set.canCreate
  have hct := F.typeCall_set_1 (.ref l)
  refine wpAny_call (codeAny_of_tree ?_)
  show wpAny _ _ (callAny (.type "set") _) _ _ _
  refine wpAny_pure ⟨Code.quiet_builtin _ (by decide +kernel), codeAny_builtin F.entry_type_call ?_⟩
  rw [Around.under_plain (weight_type_call_type "set" [.ref l] []) rfl]
  repeat (any_goals (first | assumption | wp_step))
  refine codeAny_mono (code_set_led1 (.ref l) (E := E) (Q₁ := fun v t => v = .ref s.heap.objs.size ∧ t = { s with heap := s.heap.push (setNew w) }) ⟨rfl, rfl⟩) fun r s1 z => ?_
  cases r with
  | error e => exact z
  | ok fl =>
    cases fl with
    | ret v =>
      obtain ⟨rfl, rfl⟩ := z
      have at0 : (s.heap.push (setNew w)).get? s.heap.objs.size = some (setNew w) := Heap.get?_push_size _ rfl
      have hT : Shared.TypeIs { s with heap := s.heap.push (setNew w) } (.ref s.heap.objs.size) "set" := ⟨_, at0, rfl⟩
      have hli := F.called_set.init.lookup
      have hbi := F.called_set.init.bind (.ref s.heap.objs.size)
      repeat (any_goals (first | assumption | wp_step))
      refine codeAny_mono (codeAny_call_builtin (R := wants (fun v t => v = .none ∧ ∃ h' tk c, t = { s with heap := h', toks := tk } ∧ SetR w h' s.heap.objs.size (fun j => decide (j ∈ ns)) c ∧ c ≤ ns.length ∧ (∀ b o, s.heap.get? b = some o → h'.get? b = some o)) E)
        F.called_set.init.plain F.entry_set_init (check_set_init_1 hT ?_)) fun r2 s2 z2 => ?_
      · obtain ⟨⟨oc, od, odt, osl⟩, hol, hcl, nl, hdl⟩ := hl
        simp only at hcl hdl
        subst hcl; subst hdl
        have hol' : (s.heap.push (setNew w)).get? l = some { cls := .type "list", dict := od, data := .seq xs nl, slots := osl } := Heap.get?_push_of_some _ hol
        have hsls := F.sub_list_set
        have hslf := F.sub_list_frozenset
        have hne : (Value.type "list" == Value.type "dict") = false := by decide
        have hl1 : (s.heap.push (setNew w)).IsList l xs := ⟨_, hol', rfl, nl, rfl⟩
        unfold Builtin.«set.__init__» noKeywords Builtin.Frozenset.updateFrom
        generalize hPI : pyIter = PI
        wp_walk
        subst hPI
        refine wpAny_pyIter_list hl1 (wpAny_bind (wpAny_runValue ?_))
        have lS : l < s.heap.objs.size := Heap.lt_size hol
        have sz1 : (s.heap.push (setNew w)).objs.size = s.heap.objs.size + 1 := Heap.size_push ..
        have hneI : l ≠ (s.heap.push (setNew w)).objs.size := by rw [sz1]; exact Nat.ne_of_lt (Nat.lt_succ_of_lt lS)
        have hSf : s.heap.objs.size ∉ [(s.heap.push (setNew w)).objs.size, l] := by
          rw [sz1]
          intro z
          rcases List.mem_cons.mp z with z | z
          · exact Nat.ne_of_lt (Nat.lt_succ_self _) z
          · exact Nat.ne_of_gt lS (List.mem_singleton.mp z)
        refine set_update_ints ((Walks.list (show A.in1.in1.in1.handled = none by simp [hh]) _ l hneI xs).toS) s.heap.objs.size hSf ns size_eq hb (fun i v hv => ?_) (xs.size - 0) 0 _ (by omega) (Nat.zero_le _)
          ⟨⟨_, Heap.get?_push_size _ rfl, rfl, rfl⟩, (hl1.push _)⟩ ⟨0, Nat.le_refl 0, setR_new_at (Heap.get?_push_of_some _ at0)⟩ (fun s' c' hm hc' hS' => ?_)
        · have hin : i < ns.length := by rw [← size_eq]; exact (Array.getElem?_eq_some_iff.mp hv).1
          obtain ⟨t, e⟩ := IntsAre.int_at hi i v (by rw [Array.getElem?_toList]; exact hv)
          exact ⟨ns[i], t, List.getElem?_eq_getElem hin, by rw [e, List.getD_eq_getElem?_getD, List.getElem?_eq_getElem hin] <;> rfl⟩
        · obtain ⟨h', g2, d', tk', os'⟩ := s'
          obtain rfl : g2 = s.gens := hm.gens
          obtain rfl : d' = s.drawn := hm.drawn
          obtain rfl : os' = s.os := hm.os
          show wpAny _ _ _ _ _ _
          refine wpAny_pure ?_
          show wpAny _ _ (ret Value.none) _ _ _
          refine wpAny_pure ⟨rfl, h', tk', c', rfl, hS', by rw [← size_eq]; exact hc', fun b o e => hm.heap b o ?_ (Heap.get?_push_of_some _ (Heap.get?_push_of_some _ e))⟩
          have b0 : b < s.heap.objs.size := Heap.lt_size e
          intro z
          rcases List.mem_cons.mp z with z | z
          · exact Nat.ne_of_lt b0 z
          · have e2 := List.mem_singleton.mp z
            rw [sz1] at e2
            exact Nat.ne_of_lt (Nat.lt_succ_of_lt b0) e2
      · cases r2 with
        | error e => exact z2
        | ok fl2 =>
          cases fl2 with
          | ret v2 =>
            obtain ⟨rfl, h', tk, c', rfl, hS', hc', hk'⟩ := z2
            repeat (any_goals (first | assumption | wp_step))
            exact h _ _ _ hS' hc' hk'
          | _ => exact z2.elim
    | _ => exact z.elim
end
end L2
namespace Lx
open PySem PySem.Spec PyProof.Rows L2
/-- set(xs), xs a list of ints -/
def rSetOfL (K : PySem.W.Frag) (w : World) : List V → Hp → VK → Prop := fun vs H Q => ∃ (l : Addr) (ns : List Int), vs = [.ref l] ∧ SqL K H l (vI ns) ∧ ns.length ≤ 4000 ∧ ∀ a c (ks : List Int), H a = none → ks.Nodup → (∀ k, k ∈ ks ↔ k ∈ ns) → ks.length = c → Q (.ref a) (upd H a (SetO w a (fun j => decide (j ∈ ns)) c))
theorem cr_setL {X : Cx} (hc : X.calm = true) : CallR X (.type "set") (rSetOfL X.K X.w) := by
  intro pins s σ H vs us Q I r h
  obtain ⟨l, ns, rfl, hq, hl, q⟩ := h
  obtain ⟨u, rfl, ru⟩ := r.one
  cases (show u = Value.ref l from ru)
  obtain ⟨its, rv, pl, hz⟩ := I.list hq
  refine call_set_lstI ns (I.ok.hd hc) pl.isList (by simpa using ints_of_vals rv) (by unfold scanBound; omega) fun h' tk c R hcn k => ?_
  have hp : s.heap.objs.size ≤ s.heap.objs.size := Nat.le_refl _
  have hn : H s.heap.objs.size = none := I.hok.fresh hp
  have J : Inv X pins σ (upd H s.heap.objs.size (SetO X.w s.heap.objs.size (fun j => decide (j ∈ ns)) c)) { s with heap := h', toks := tk } :=
    I.laid (t' := tk) (a := s.heap.objs.size) (o := SetO X.w s.heap.objs.size (fun j => decide (j ∈ ns)) c) (h' := h') k hp ⟨R, (let ⟨o, _, _, _, ho, _⟩ := R; ⟨o, ho⟩), fun h1 h2 z kk => z.at fun o q => kk _ q⟩
  obtain ⟨o, es, ep, t, ho, hex, hd, g, nd, hm, hb2, hf, hsz, hrs, hld⟩ := R
  exact ⟨.ref s.heap.objs.size, _, J, rfl, q _ c (es.toList.map keyOf) hn nd (fun k => by rw [← hm k]; exact decide_eq_true_iff) (by rw [List.length_map, Array.length_toList]; exact hsz)⟩
theorem r_setOfL {K : PySem.W.Frag} {w : World} {H : Hp} {Q : VK} {l : Addr} {ns : List Int} (h : SqL K H l (vI ns)) (hl : ns.length ≤ 4000) (q : ∀ a c (ks : List Int), H a = none → ks.Nodup → (∀ k, k ∈ ks ↔ k ∈ ns) → ks.length = c → Q (.ref a) (upd H a (SetO w a (fun j => decide (j ∈ ns)) c))) : rSetOfL K w [.ref l] H Q := ⟨l, ns, rfl, h, hl, q⟩
theorem k_setL (K : PySem.W.Frag) (w : World) {X : Cx} (hc : X.calm = true := by rfl) (h : X.K = K := by rfl) (h2 : X.w = w := by rfl) : CallR X (.type "set") (rSetOfL K w) := h ▸ h2 ▸ cr_setL hc
theorem k_sortSet (w : World) {X : Cx} (hc : X.calm = true := by rfl) (h2 : X.w = w := by rfl) : CallR X (.builtin "sorted") (rSortedSet w) := h2 ▸ cr_sortedSet hc
end Lx

namespace Lx
open PySem PySem.Spec PyProof.Rows L2
/-! ### x *= e and x //= e -/
def CM (i j : Int) : Prop := CMul i j ∨ CMulW i j
theorem CM.ok {i j : Int} (h : CM i j) : IntMulOk i j := h.elim CMul.ok CMulW.ok
def ipC (c : Int → Int → Prop) (f : Int → Int → Int) : TIp := fun x y H Q => ∃ i j, x = .int i ∧ y = .int j ∧ c i j ∧ Q (.int (f i j)) H
theorem ip_mult {X : Cx} : PIp X .Mult (ipC CM fun i j => i * j) := by
  intro pins s σ H x y v u Q I r1 r2 h
  obtain ⟨i, j, e1, e2, hc, q⟩ := h
  subst e1; subst e2
  obtain ⟨t, rfl⟩ := r1
  obtain ⟨t', rfl⟩ := r2
  exact imul_int ⟨.int _, H, I.tok _, ⟨_, rfl⟩, q⟩ hc.ok
theorem ip_floordiv {X : Cx} : PIp X .FloorDiv (ipC CDivW fun i j => i / j) := by
  intro pins s σ H x y v u Q I r1 r2 h
  obtain ⟨i, j, e1, e2, hc, q⟩ := h
  subst e1; subst e2
  obtain ⟨t, rfl⟩ := r1
  obtain ⟨t', rfl⟩ := r2
  have h1 : (0 : Int) < j := hc.1
  exact ifloordiv_int (by omega) (by rw [Int.fdiv_eq_ediv_of_nonneg i (by omega)]; exact ⟨.int _, H, I.tok _, ⟨_, rfl⟩, q⟩) (.inl (PyProof.noPylong_of_log2 hc.2))
theorem r_ipC {H : Hp} {Q : VK} {c : Int → Int → Prop} {f : Int → Int → Int} {a b : Int} (h : c a b) (q : Q (.int (f a b)) H) : ipC c f (.int a) (.int b) H Q := ⟨a, b, rfl, rfl, h, q⟩
theorem cm_small {a b : Int} (h0 : 0 ≤ b) (h : b < 1000000000) : CM a b := .inl (.inr ⟨by omega, by omega⟩)
/-! ### where ways join -/
section
variable {ts tu : TS} {R bk ct : L2.St → Hp → Prop} {rt : VK} {σ : L2.St} {H : Hp}
theorem ifnJ {c : Prop} [Decidable c] (J : L2.St → Hp → Prop) (h1 : ∀ R' : L2.St → Hp → Prop, (∀ σ H, J σ H → R' σ H) → ¬ c → ts ⟨R', rt, bk, ct⟩ σ H) (h2 : ∀ R' : L2.St → Hp → Prop, (∀ σ H, J σ H → R' σ H) → c → tu ⟨R', rt, bk, ct⟩ σ H) (hR : ∀ σ H, J σ H → R σ H) :
    if (!decide c) = true then ts ⟨R, rt, bk, ct⟩ σ H else tu ⟨R, rt, bk, ct⟩ σ H := ifN (h1 R hR) (h2 R hR)
theorem ifbJ {b : Bool} (J : L2.St → Hp → Prop) (h1 : ∀ R' : L2.St → Hp → Prop, (∀ σ H, J σ H → R' σ H) → b = true → ts ⟨R', rt, bk, ct⟩ σ H) (h2 : ∀ R' : L2.St → Hp → Prop, (∀ σ H, J σ H → R' σ H) → b = false → tu ⟨R', rt, bk, ct⟩ σ H) (hR : ∀ σ H, J σ H → R σ H) :
    if b = true then ts ⟨R, rt, bk, ct⟩ σ H else tu ⟨R, rt, bk, ct⟩ σ H := by
  cases b with
  | true => exact h1 R hR rfl
  | false => exact h2 R hR rfl
end
theorem PairsAt.kpr {G : Addr → Prop} {H H' : Hp} {p r : Addr} {as : List Addr} {qs : List (Int × Int)} {ys : List V} (h : PairsAt G H p as qs) (k : Kp r H H') (hr : H r = some (.lst ys)) (np : p ≠ r) : PairsAt G H' p as qs :=
  ⟨k _ _ np h.hp, h.len, fun i a q e1 e2 => by
    obtain ⟨z, g⟩ := h.it i a q e1 e2
    exact ⟨k _ _ (fun w => by rw [w, hr] at z; cases z) z, g⟩⟩
/-- a list's index of an int -/
theorem r_indexN {K : PySem.W.Frag} {H : Hp} {Q : VK} {a : Addr} {ns : List Int} {x : Int} (h : SqL K H a (vI ns)) (hn : ns.Nodup) (hx : x ∈ ns) (q : Q (.int ((ns.idxOf x : Nat) : Int)) H) : rIndex K (.ref a) [.int x] H Q := by
  have hl := List.idxOf_lt_length_of_mem hx
  refine r_index (j := ns.idxOf x) (z := .int x) h rfl (flat_ints ns) ?_ (by show (x == x) = true; simp) (fun m z' hm hz => ?_) q
  · rw [vI_at hl, List.getElem_idxOf]
  · have hm' : m < ns.length := by omega
    rw [vI_at hm'] at hz
    cases hz
    show (ns[m] == x) = false
    rw [beq_eq_false_iff_ne]
    intro e
    have e2 : ns[m] = ns[ns.idxOf x] := by rw [List.getElem_idxOf]; exact e
    have := (List.getElem_inj hn).mp e2
    omega
/-- numbers of any size that repr shows -/
theorem shows_nat {i : Int} (h0 : 0 ≤ i) (h : i < 10 ^ 500) : Shows (.int i) 0 500 := by
  refine ⟨?_, rfl, Nat.le_refl _, int_shown (by decide) h0 h⟩
  show decide (i.natAbs.log2 < 1920) = true
  have h1 : i.natAbs < 10 ^ 500 := by
    have e : ((i.natAbs : Nat) : Int) < ((10 ^ 500 : Nat) : Int) := by
      rw [Int.natAbs_of_nonneg h0, Int.natCast_pow]
      exact h
    exact Int.ofNat_lt.mp e
  have h3 : i.natAbs < 2 ^ 1920 := Nat.lt_of_lt_of_le h1 (by set_option exponentiation.threshold 3000 in decide +kernel)
  exact decide_eq_true (PySem.Flt.log2_lt_of (by decide) h3)
end Lx

namespace Lx
open PySem PySem.Spec PyProof.Rows L2
/-! ### xs[::e], e one of 1 and -1 -/
theorem bounds_1 (n : Nat) : sliceBounds none none (some 1) n = (0, (n : Int), 1) := by
  first
  | rfl
  | simp [sliceBounds]
theorem range_1 (n : Nat) : sliceRange 0 (n : Int) 1 = List.range n := by
  unfold sliceRange
  by_cases h : (0 : Int) < (n : Int)
  · have e : ((n : Int) - 0 + 1 - 1) / 1 = (n : Int) := by rw [Int.ediv_one]; omega
    have h1 : (1 : Int) > 0 := by decide
    simp only [h1, if_true, h, e, Int.toNat_natCast]
    conv => rhs; rw [← List.map_id (List.range n)]
    apply List.map_congr_left
    intro k _
    show (0 + 1 * (k : Int)).toNat = k
    omega
  · have e : n = 0 := by omega
    subst e
    simp
theorem pick_1 (items : Array Value) : slicePick items none none (some 1) = items.toList.toArray := by
  unfold slicePick
  rw [bounds_1]
  show ((sliceRange 0 (items.size : Int) 1).filterMap (items[·]?)).toArray = _
  rw [range_1, PySem.W.krv_all]
def tStepL (K : PySem.W.Frag) (te ts : TE) : TE := fun σ H Q => te σ H fun x H1 => ∃ a, x = .ref a ∧ tPart ts σ H1 fun o H2 => ∃ xs i, o = some i ∧ (i = 1 ∨ i = -1) ∧ SqL K H2 a xs ∧ ∀ p, H2 p = none → Q (.ref p) (upd H2 p (.lst (if i = 1 then xs else xs.reverse)))
theorem pe_stepL (K : PySem.W.Frag) {X : Cx} {e es : Expr} {te ts : TE} {p3 pos : Pos} (he : PE X e te) (hs : PE X es ts) (hK : X.K = K := by rfl) : PE X (.Subscript e (.Slice none none (some es) p3) pos) (tStepL K te ts) := by
  subst hK
  refine ⟨fun pins s σ H Q I h => ?_⟩
  refine Subscript_ (thn (he.run pins s σ H _ I h) fun v s1 ⟨x, H1, I1, r1, q1⟩ => ?_)
  obtain ⟨a, ex, q1⟩ := q1
  subst ex
  cases r1
  refine wpAny_Slice (thn (po_none.run pins s1 σ H1 (fun o H2 => o = none ∧ H2 = H1) I1 ⟨rfl, rfl⟩) fun vl s2 ⟨l, H2, I2, pl, el, e2⟩ => ?_)
  subst el e2
  refine thn (po_none.run pins s2 σ H2 (fun o H3 => o = none ∧ H3 = H2) I2 ⟨rfl, rfl⟩) fun vu s3 ⟨u, H3, I3, pu, eu, e3⟩ => ?_
  subst eu e3
  refine thn ((po_some hs).run pins s3 σ H3 _ I3 q1) fun vs s4 ⟨o, H4, I4, ps, xs, i, eo, hi, hx, q⟩ => ?_
  subst eo
  have I5 : Inv X pins σ H4 { s4 with heap := s4.heap.push { cls := .type "slice", data := .fields #[vl, vu, vs] } } := I4.kept (t' := s4.toks) fun b ob q => Heap.get?_push_of_some _ q
  obtain ⟨its, r, ht, hz⟩ := I5.list hx
  have hlen := r.length
  show wpAny (model X.prog X.w) X.A (subscriptTail e (.Slice none none (some es) p3) (.ref a) (.ref s4.heap.objs.size)) (EP X pins σ Q) X.xe { s4 with heap := s4.heap.push { cls := .type "slice", data := .fields #[vl, vu, vs] } }
  refine tail_any (ops := [.ref a, .ref s4.heap.objs.size]) ht.isList.typeIs (PySem.slot_list_getitem.lookup) ?_ (by with_unfolding_all rfl)
  have h0 : some i ≠ some 0 := fun z => by cases z; rcases hi with h | h <;> cases h
  refine wpAny_getItem_list_slice ht.isList (Heap.IsSliceOf.new _ vl vu vs) pl pu ps h0 ?_ (by rw [List.size_toArray]; omega)
  rcases hi with rfl | rfl
  · rw [pick_1]
    have q' := q _ (I5.hok.fresh (Nat.le_refl _))
    rw [if_pos rfl] at q'
    refine ⟨.ref _, _, I5.laid (t' := s4.toks) (o := .lst xs) (fun b ob q => Heap.get?_push_of_some _ q) (Nat.le_refl _) ?_, rfl, q'⟩
    exact ⟨hz, _, 0, r, Heap.get?_push_size _ rfl⟩
  · rw [PySem.W.krv_pick]
    have q' := q _ (I5.hok.fresh (Nat.le_refl _))
    rw [if_neg (by decide)] at q'
    refine ⟨.ref _, _, I5.laid (t' := s4.toks) (o := .lst xs.reverse) (fun b ob q => Heap.get?_push_of_some _ q) (Nat.le_refl _) ?_, rfl, q'⟩
    exact ⟨by rw [List.length_reverse]; exact hz, _, 0, r.reverse, Heap.get?_push_size _ rfl⟩
theorem r_stepL {K : PySem.W.Frag} {σ : L2.St} {H : Hp} {Q : VK} {te ts : TE} (h : te σ H fun x H1 => ∃ a, x = .ref a ∧ ts σ H1 fun y H2 => ∃ j, y = .int j ∧ ∃ xs i, some j = some i ∧ (i = 1 ∨ i = -1) ∧ SqL K H2 a xs ∧ ∀ p, H2 p = none → Q (.ref p) (upd H2 p (.lst (if i = 1 then xs else xs.reverse)))) : tStepL K te ts σ H Q := h
end Lx

namespace Lx
open PySem PySem.Spec PyProof.Rows L2
/-! ### sum(lists, []) -/
theorem subLB : isSubtype (.type "list") (.type "bytes") = pure false := by rw [isSubtype_type]; kernel_rfl
theorem subLBA : isSubtype (.type "list") (.type "bytearray") = pure false := by rw [isSubtype_type]; kernel_rfl
theorem subLS : isSubtype (.type "list") (.type "str") = pure false := by rw [isSubtype_type]; kernel_rfl
theorem argsSum2 (a b : Value) : argsOk "sum" ⟨[a, b], []⟩ := by unfold argsOk; kernel_rfl
def flatN (its : Nat → List Value) : Nat → Nat → List Value
  | _, 0 => []
  | i, k + 1 => its i ++ flatN its (i + 1) k
section
variable {prog : Program} {w : World} {A : Around} {R : Result → Shared → Prop}
theorem sumL_loop (hh : A.in1.handled = none) (I ax : Addr) (hne : ax ≠ I) (items : Array Value) (lst : Nat → Addr) (its : Nat → List Value) (hval : ∀ (i : Nat) (v : Value), items[i]? = some v → v = .ref (lst i)) (S : Addr) (hSI : S ≠ I) (hSa : S ≠ ax) :
    ∀ (k i : Nat) (s : Shared) (L : Addr) (acc : List Value) (cL c : Nat), items.size - i = k → i ≤ items.size → (s.heap.IsListIter I ax i ∧ s.heap.IsList ax items) → PySem.IsL s.heap S #[.ref L] c → PySem.IsL s.heap L acc.toArray cL → L ≠ I → L ≠ S →
      (∀ j, i ≤ j → j < items.size → lst j ≠ I ∧ lst j ≠ S ∧ ∃ m, PySem.IsL s.heap (lst j) (its j).toArray m) → acc.length + (flatN its i k).length ≤ sizeLine →
    (∀ h' tk L' c', (∀ b o, b ≠ I → b ≠ S → s.heap.get? b = some o → h'.get? b = some o) → ((k = 0 ∧ L' = L) ∨ s.heap.get? L' = none) → PySem.IsL h' L' (acc ++ flatN its i k).toArray c' → R (.ok (.ret (.ref L'))) { s with heap := h', toks := tk }) →
    codeAny (model prog w) A (.builtin "sum.loop" ⟨[.ref I, .ref S, rawInt 2, rawInt 0], []⟩) R s := by
  have W := Walks.list (prog := prog) (w := w) (A := A.in1) hh I ax hne items
  intro k
  induction k with
  | zero =>
    intro i s L acc cL c hk hi hst hS hL hLI hLS hl hz hR
    have hin : i = items.size := by omega
    subst hin
    refine codeAny_builtin F.entry_sum_loop ?_
    rw [Around.under_plainId F.plain_sum_loop _]
    show wpAny _ A.in1 (seqItems? (.ref S) >>= _) _ _ s
    refine wpAny_bind (wpAny_seqItems hS rfl ?_)
    show wpAny _ A.in1 (tryCatch (pyNext (.ref I)) _ >>= _) _ _ s
    refine wpAny_bind (wpAny_tryCatch (W.done s _ _ hst fun h' tk hk' => ?_))
    refine wpAny_pure (hR h' tk L cL (fun b o hb _ e => hk' b o (by simpa using hb) e) (.inl ⟨rfl, rfl⟩) ?_)
    have := hk' L _ (by simpa using hLI) hL
    simpa [flatN] using this
  | succ k ih =>
    intro i s L acc cL c hk hi hst hS hL hLI hLS hl hz hR
    have hlt : i < items.size := by omega
    refine codeAny_builtin F.entry_sum_loop ?_
    rw [Around.under_plainId F.plain_sum_loop _]
    show wpAny _ A.in1 (seqItems? (.ref S) >>= _) _ _ s
    refine wpAny_bind (wpAny_seqItems hS rfl ?_)
    show wpAny _ A.in1 (tryCatch (pyNext (.ref I)) _ >>= _) _ _ s
    refine wpAny_bind (wpAny_tryCatch (W.item i s _ _ hlt hst fun v h' tk hP hst' hk' => ?_))
    have hv := hval i v hP
    subst hv
    obtain ⟨n1, n2, m, hm⟩ := hl i (Nat.le_refl _) hlt
    have hk1 : ∀ b o, b ≠ I → s.heap.get? b = some o → h'.get? b = some o := fun b o hb e => hk' b o (by simpa using hb) e
    have hS' := hk1 S _ hSI hS
    have hL' := hk1 L _ hLI hL
    have hm' := hk1 _ _ n1 hm
    have e1 : acc.toArray ++ (its i).toArray = (acc ++ its i).toArray := by simp
    have hz' : acc.length + ((its i).length + (flatN its (i + 1) k).length) ≤ sizeLine := by
      have : (flatN its i (k + 1)).length = (its i).length + (flatN its (i + 1) k).length := by show (its i ++ _).length = _; rw [List.length_append]
      omega
    show wpAny _ A.in1 ((holding [Value.ref (lst i)] (binaryOp .Add (.ref L) (.ref (lst i)))).attempt >>= _) _ _ _
    refine wpAny_bind (wpAny_attempt (wpAny_holding (PySem.P.add_list hL' hm' ?_ (by rw [List.size_toArray, List.size_toArray]; omega))))
    rw [e1]
    obtain ⟨N, hN⟩ : ∃ N, N = h'.objs.size := ⟨_, rfl⟩
    have fresh : ∀ b o, h'.get? b = some o → b ≠ h'.objs.size := fun b o e z => by have := Heap.lt_size e; rw [z] at this; exact Nat.lt_irrefl _ this
    have hS2 : PySem.IsL (h'.push { cls := .type "list", data := .seq (acc ++ its i).toArray }) S #[.ref L] c := Heap.get?_push_of_some _ hS'
    have hN2 : PySem.IsL (h'.push { cls := .type "list", data := .seq (acc ++ its i).toArray }) h'.objs.size (acc ++ its i).toArray 0 := Heap.get?_push_size _ rfl
    have hI2 : (h'.push { cls := .type "list", data := .seq (acc ++ its i).toArray }).IsListIter I ax (i + 1) := hst'.1.at fun o e => Heap.get?_push_of_some _ e
    have ha2 : (h'.push { cls := .type "list", data := .seq (acc ++ its i).toArray }).IsList ax items := hst'.2.at fun o e => Heap.get?_push_of_some _ e
    have hk2 : ∀ b o, b ≠ I → s.heap.get? b = some o → (h'.push { cls := .type "list", data := .seq (acc ++ its i).toArray }).get? b = some o := fun b o hb e => Heap.get?_push_of_some _ (hk1 b o hb e)
    have nSN : S ≠ h'.objs.size := fresh _ _ hS'
    have nIN : I ≠ h'.objs.size := by
      obtain ⟨o, e, _⟩ := hst'.1
      exact fresh _ _ e
    have hsize : s.heap.get? h'.objs.size = none := by
      cases e : s.heap.get? h'.objs.size with
      | none => rfl
      | some o => exact absurd rfl (fresh _ _ (hk1 _ o (fun z => nIN z.symm) e))
    have nsi : ∀ b, s.heap.get? b ≠ none → b ≠ h'.objs.size := fun b hb z => hb (z ▸ hsize)
    generalize hG : h'.push { cls := .type "list", data := .seq (acc ++ its i).toArray } = G at *
    generalize h'.objs.size = NN at *
    show wpAny _ A.in1 (updateSeq S (fun _ => #[.ref NN]) >>= _) _ _ _
    refine wpAny_bind ?_
    refine wpAny_updateSeq hS2 rfl ?_
    have hS3 := Heap.get?_update_self (Obj.mapSeq fun _ => #[Value.ref NN]) hS2 rfl
    have up1 : ∀ b o, b ≠ S → G.get? b = some o → (G.update S (Obj.mapSeq fun _ => #[Value.ref NN])).get? b = some o := fun b o hb e => (Heap.get?_update_other _ _ (Ne.symm hb)).trans e
    refine wpAny_bind (wpAny_letGo ?_)
    refine wpAny_bind ?_
    refine wpAny_updateSeq hS3 rfl (wpAny_pure ⟨plainId_quiet F.plain_sum_loop _, ?_⟩)
    have hS4 := Heap.get?_update_self (Obj.mapSeq fun _ => #[Value.ref NN]) hS3 rfl
    have up2 : ∀ b o, b ≠ S → G.get? b = some o → ((G.update S (Obj.mapSeq fun _ => #[Value.ref NN])).update S (Obj.mapSeq fun _ => #[Value.ref NN])).get? b = some o := fun b o hb e => (Heap.get?_update_other _ _ (Ne.symm hb)).trans (up1 b o hb e)
    refine ih (i + 1) _ NN (acc ++ its i) 0 _ (by omega) hlt ⟨hI2.at fun o e => up2 I o (Ne.symm hSI) e, ha2.at fun o e => up2 ax o (Ne.symm hSa) e⟩ hS4 (up2 _ _ (Ne.symm nSN) hN2) (Ne.symm nIN) (Ne.symm nSN) (fun j hj1 hj2 => ?_) (by rw [List.length_append]; omega) fun h'' tk'' L' c' k1 k2 k3 => ?_
    · obtain ⟨a1, a2, a3, a4⟩ := hl j (by omega) hj2
      exact ⟨a1, a2, a3, up2 _ _ a2 (hk2 _ _ a1 a4)⟩
    · refine hR h'' tk'' L' c' (fun b o hb1 hb2 e => k1 b o hb1 hb2 (up2 b o hb2 (hk2 b o hb1 e))) (.inr ?_) (by
        have : acc ++ flatN its i (k + 1) = acc ++ its i ++ flatN its (i + 1) k := by show acc ++ (its i ++ _) = _; rw [List.append_assoc]
        rw [this]; exact k3)
      rcases k2 with ⟨_, e⟩ | e
      · rw [e]; exact hsize
      · cases z : s.heap.get? L' with
        | none => rfl
        | some o =>
          by_cases hL'S : L' = S
          · have e' : ((G.update S (Obj.mapSeq fun _ => #[Value.ref NN])).update S (Obj.mapSeq fun _ => #[Value.ref NN])).get? L' = none := e
            rw [hL'S, hS4] at e'
            cases e'
          · by_cases hL'I : L' = I
            · obtain ⟨oi, ei, _⟩ := hI2
              have e' : ((G.update S (Obj.mapSeq fun _ => #[Value.ref NN])).update S (Obj.mapSeq fun _ => #[Value.ref NN])).get? L' = none := e
              rw [hL'I, up2 I _ (Ne.symm hSI) ei] at e'
              cases e'
            · have e' : ((G.update S (Obj.mapSeq fun _ => #[Value.ref NN])).update S (Obj.mapSeq fun _ => #[Value.ref NN])).get? L' = none := e
              rw [up2 L' o hL'S (hk2 L' o hL'I z)] at e'
              cases e'
end
section
variable {prog : Program} {w : World} {A : Around} {E : Value → Shared → Prop} {s : Shared}
theorem call_sumL {a e : Addr} {its0 : List Value} {ce : Nat} {lst : Nat → Addr} {its : Nat → List Value} {Q : Value → Shared → Prop} (hh : A.in1.handled = none) (ha : s.heap.IsList a its0.toArray) (he : PySem.IsL s.heap e #[] ce)
    (hval : ∀ (i : Nat) (v : Value), its0[i]? = some v → v = .ref (lst i)) (hl : ∀ j, j < its0.length → ∃ m, PySem.IsL s.heap (lst j) (its j).toArray m) (hz : (flatN its 0 its0.length).length ≤ sizeLine)
    (h : ∀ h' tk L' c', (∀ b o, s.heap.get? b = some o → h'.get? b = some o) → (L' = e ∨ s.heap.get? L' = none) → PySem.IsL h' L' (flatN its 0 its0.length).toArray c' → Q (.ref L') { s with heap := h', toks := tk }) :
    wpAny (model prog w) A (call (.builtin "sum") [.ref a, .ref e]) Q E s := by
  refine call_function_tree F.kind_sum F.plain_sum F.entry_sum (argsSum2 _ _) ?_
  unfold Builtin.«sum»
  simp only [List.length_cons, List.length_nil]
  rw [if_neg (by decide)]
  refine wpAny_bind (wpAny_of_eq (show Builtin.Builtins.bindParams "sum" ["start"] 0 ⟨[.ref e], []⟩ = pure [some (.ref e)] from rfl) ?_)
  have hae : a ≠ s.heap.objs.size := by obtain ⟨_, z, _⟩ := ha; exact Nat.ne_of_lt (Heap.lt_size z)
  refine wpAny_bind (wpAny_pyIter_list ha ?_)
  have kp1 : ∀ b o, s.heap.get? b = some o → (s.heap.push { cls := .type "list_iterator", data := .fields #[.ref a, .int 0 0] }).get? b = some o := fun b o z => Heap.get?_push_of_some _ z
  have hI1 : (s.heap.push { cls := .type "list_iterator", data := .fields #[.ref a, .int 0 0] }).IsListIter s.heap.objs.size a 0 := ⟨_, Heap.get?_push_size _ rfl, rfl, rfl⟩
  have hsz1 : (s.heap.push { cls := .type "list_iterator", data := .fields #[.ref a, .int 0 0] }).objs.size = s.heap.objs.size + 1 := Heap.size_push _ _
  generalize s.heap.push { cls := .type "list_iterator", data := .fields #[.ref a, .int 0 0] } = G1 at *
  refine wpAny_bind (wpAny_pure ?_)
  have hT : ({ s with heap := G1 } : Shared).TypeIs (.ref e) "list" := ⟨_, kp1 _ _ he, rfl⟩
  simp only [List.forIn_cons, List.forIn_nil]
  refine wpAny_bind (wpAny_bind (wpAny_bind (wpAny_isInstance (T := "list") (b := false) hT subLS ?_)))
  simp only [Bool.false_eq_true, if_false]
  refine wpAny_pure (wpAny_bind (wpAny_bind (wpAny_isInstance (T := "list") (b := false) hT subLB ?_)))
  simp only [Bool.false_eq_true, if_false]
  refine wpAny_pure (wpAny_bind (wpAny_bind (wpAny_isInstance (T := "list") (b := false) hT subLBA ?_)))
  simp only [Bool.false_eq_true, if_false]
  refine wpAny_pure (wpAny_pure ?_)
  refine wpAny_bind (wpAny_newObj_type ?_)
  have kp2 : ∀ b o, G1.get? b = some o → (G1.push { cls := .type "list", data := .seq #[.ref e] }).get? b = some o := fun b o z => Heap.get?_push_of_some _ z
  have hS : PySem.IsL (G1.push { cls := .type "list", data := .seq #[.ref e] }) G1.objs.size #[.ref e] 0 := Heap.get?_push_size _ rfl
  have lt0 : ∀ b o, s.heap.get? b = some o → b ≠ s.heap.objs.size ∧ b ≠ G1.objs.size := fun b o z => by
    have := Heap.lt_size z
    rw [hsz1]
    exact ⟨Nat.ne_of_lt this, Nat.ne_of_lt (Nat.lt_succ_of_lt this)⟩
  obtain ⟨oa, hoa, hca⟩ := ha
  have na := lt0 _ _ hoa
  have nee := lt0 _ _ he
  refine wpAny_pure ⟨plainId_quiet F.plain_sum_loop _, sumL_loop hh s.heap.objs.size a na.1 its0.toArray lst its (fun i v z => hval i v (by simpa using z)) G1.objs.size (by rw [hsz1]; exact Nat.succ_ne_self _) (Ne.symm na.2) its0.length 0 _ e [] ce 0 (by simp) (Nat.zero_le _)
    ⟨hI1.at fun o z => kp2 _ _ z, ⟨oa, kp2 _ _ (kp1 _ _ hoa), hca⟩⟩ hS (kp2 _ _ (kp1 _ _ he)) nee.1 nee.2 (fun j _ hj => ?_) (by simpa using hz) fun h' tk L' c' k1 k2 k3 => ?_⟩
  · obtain ⟨m, hm⟩ := hl j (by simpa using hj)
    have := lt0 _ _ hm
    exact ⟨this.1, this.2, m, kp2 _ _ (kp1 _ _ hm)⟩
  · refine h h' tk L' c' (fun b o z => k1 b o (lt0 _ _ z).1 (lt0 _ _ z).2 (kp2 _ _ (kp1 _ _ z))) ?_ (by simpa using k3)
    rcases k2 with ⟨_, z⟩ | z
    · exact .inl z
    · refine .inr ?_
      cases q : s.heap.get? L' with
      | none => rfl
      | some o => have z' : (G1.push { cls := .type "list", data := .seq #[.ref e] }).get? L' = none := z; rw [kp2 _ _ (kp1 _ _ q)] at z'; cases z'
end
theorem objOk_got {P : Program} {w : World} {H : Hp} {h : Heap} {a : Addr} {o : HO} (x : ObjOk P w H h a o) : ∃ u, h.get? a = some u := by
  induction o with
  | lst xs => obtain ⟨z, its, n, r, e⟩ := x; exact ⟨_, e⟩
  | tup xs => obtain ⟨z, its, r, ob, e, c⟩ := x; exact ⟨_, e⟩
  | dK kvs => obtain ⟨z, y, vs, r, ob, es, ep, e, c⟩ := x; exact ⟨_, e⟩
  | dT kvs => obtain ⟨z, y, xs, r, ob, es, ep, e, c⟩ := x; exact ⟨_, e⟩
  | set S n => obtain ⟨ob, es, ep, t, e, c⟩ := x; exact ⟨_, e⟩
  | ins C dx fs => obtain ⟨d, z, ne, e, _⟩ := x; exact ⟨_, e⟩
  | own y => obtain ⟨ob, e⟩ := x; exact ⟨_, e⟩
  | xd fs => obtain ⟨mA, ⟨od, es, ep, e, c⟩, r⟩ := x; exact ⟨_, e⟩
  | rng lo hi => obtain ⟨t, u, v, e⟩ := x; exact ⟨_, e⟩
  | frz ob u ih => obtain ⟨e, q⟩ := x; exact ⟨_, e⟩
  | tbl ps => exact ⟨_, x⟩
  | met f y => exact ⟨_, x⟩
  | ext φ => obtain ⟨p, ⟨o, e⟩, st⟩ := x; exact ⟨_, e⟩
/-- sum(lists, []) -/
def rSumL (K : PySem.W.Frag) : List V → Hp → VK → Prop := fun vs H Q => ∃ (a e : Addr) (as : List Addr) (rs : List (List V)), vs = [.ref a, .ref e] ∧ SqL K H a (as.map V.ref) ∧ as.length = rs.length ∧ (∀ (i : Nat) (b : Addr) (r : List V), as[i]? = some b → rs[i]? = some r → H b = some (.lst r)) ∧
  H e = some (.lst []) ∧ rs.flatten.length ≤ sizeLine ∧ ∀ H' p, Same H H' → (H p = none ∨ p = e) → H' p = some (.lst rs.flatten) → Q (.ref p) H'
theorem flatN_vals {its : Nat → List Value} : ∀ {rs : List (List V)} {i : Nat}, (∀ (j : Nat) (r : List V), rs[j]? = some r → Vals r (its (i + j))) → Vals rs.flatten (flatN its i rs.length)
  | [], i, _ => .nil
  | r :: rs, i, h => by
    have h0 := h 0 r rfl
    rw [Nat.add_zero] at h0
    show Vals (r ++ rs.flatten) (its i ++ flatN its (i + 1) rs.length)
    exact h0.append (flatN_vals fun j q e => by
      have := h (j + 1) q (by simpa using e)
      rw [show i + 1 + j = i + (j + 1) by omega]
      exact this)
theorem cr_sumL {X : Cx} (hc : X.calm = true) : CallR X (.builtin "sum") (rSumL X.K) := by
  intro pins s σ H vs us Q I r h
  obtain ⟨a, e, as, rs, rfl, hs, hlen, hit, he, hz, q⟩ := h
  obtain ⟨its0, rv, hl, _⟩ := I.list hs
  have eu : us = [.ref a, .ref e] := by
    cases r with
    | cons r1 r =>
      cases r with
      | cons r2 r => cases r with | nil => cases r1; cases r2; rfl
  subst eu
  obtain ⟨_, ie, ce, re, _, hce⟩ := I.lstM he
  have ie0 : ie = [] := by cases re; rfl
  subst ie0
  have hx : ∀ j : Nat, ∃ l : List Value, j < rs.length → (∃ m, PySem.IsL s.heap (as.getD j 0) l.toArray m) ∧ Vals (rs.getD j []) l := fun j => by
    by_cases hj : j < rs.length
    · have e1 : as[j]? = some (as.getD j 0) := by rw [List.getD_eq_getElem?_getD, List.getElem?_eq_getElem (by omega)]; rfl
      have e2 : rs[j]? = some (rs.getD j []) := by rw [List.getD_eq_getElem?_getD, List.getElem?_eq_getElem hj]; rfl
      obtain ⟨_, l, m, hv, _, hm⟩ := I.lstM (hit j _ _ e1 e2)
      exact ⟨l, fun _ => ⟨⟨m, hm⟩, hv⟩⟩
    · exact ⟨[], fun z => absurd z hj⟩
  have l0 : its0.length = rs.length := by rw [← rv.length, List.length_map, hlen]
  have hvals : Vals rs.flatten (flatN (fun j => (hx j).choose) 0 rs.length) := flatN_vals fun j r e => by
    have hj := (List.getElem?_eq_some_iff.mp e).1
    have := ((hx j).choose_spec hj).2
    rw [Nat.zero_add]
    have e2 : rs.getD j [] = r := by rw [List.getD_eq_getElem?_getD, e]; rfl
    exact e2 ▸ this
  refine call_sumL (its := fun j => (hx j).choose) (lst := fun j => as.getD j 0) (I.ok.hd hc) hl.isList hce (fun i v e1 => ?_) (fun j hj => ((hx j).choose_spec (by omega)).1) (by rw [l0, ← hvals.length]; exact hz) fun h' tk L' c' k1 k2 k3 => ?_
  · have hi := (List.getElem?_eq_some_iff.mp e1).1
    have e2 : (as.map V.ref)[i]? = some (.ref (as.getD i 0)) := by rw [List.getElem?_map, List.getD_eq_getElem?_getD, List.getElem?_eq_getElem (by omega)]; rfl
    obtain ⟨u, e3, ru⟩ := rv.get e2
    rw [e1] at e3
    cases e3
    cases ru
    rfl
  · rw [l0] at k3
    rcases k2 with z | z
    · subst z
      have hf : rs.flatten = [] := by
        have e1 := k1 _ _ hce
        rw [k3] at e1
        have e2 : (flatN (fun j => (hx j).choose) 0 rs.length) = [] := by
          have := Option.some.inj e1
          injection this with _ _ e4 _
          injection e4 with e5 _
          simpa using e5
        rw [e2] at hvals
        cases hvals' : rs.flatten with
        | nil => rfl
        | cons x y => rw [hvals'] at hvals; cases hvals
      exact ⟨.ref L', H, I.kept k1, rfl, q H L' (Same.refl _) (.inr rfl) (by rw [hf]; exact he)⟩
    · have hn : H L' = none := by
        cases e1 : H L' with
        | none => rfl
        | some o => obtain ⟨u, hu⟩ := objOk_got (I.hok _ _ e1); rw [hu] at z; cases z
      exact ⟨.ref L', upd H L' (.lst rs.flatten), I.laidN k1 z hn ⟨hz, _, c', hvals, k3⟩, rfl, q _ L' (same_new hn) (.inl hn) upd_same⟩
theorem k_sumL (K : PySem.W.Frag) {X : Cx} (h : X.K = K := by rfl) (hc : X.calm = true := by rfl) : CallR X (.builtin "sum") (rSumL K) := h ▸ cr_sumL hc
end Lx

namespace Lx
open PySem PySem.Spec PyProof.Rows L2
/-! ### zip of a tuple and a list -/
def ItzM (K : PySem.W.Frag) (a b : Addr) : It :=
  ⟨fun i H => ∃ (xs ys : List V) (x y : V), SqT K H a xs ∧ SqL K H b ys ∧ xs[i]? = some x ∧ ys[i]? = some y,
    fun i H v H' => ∃ T x y, v = .ref T ∧ H T = none ∧ H' = upd H T (.tup [x, y]) ∧ (∀ xs, SqT K H a xs → xs[i]? = some x) ∧ ∀ ys, SqL K H b ys → ys[i]? = some y,
    fun i H => ∃ xs ys : List V, SqT K H a xs ∧ SqL K H b ys ∧ (xs.length = i ∨ ys.length = i) ∧ i ≤ xs.length ∧ i ≤ ys.length⟩
theorem turn_zipM {P : Program} {w : World} {K : PySem.W.Frag} {elts : List Expr} {kk : Nat} {tpos : Pos} {N a b : Addr} (la : a < N) (lb : b < N) :
    Turn P w K (.Tuple elts kk tpos) (ItzM K a b) [N + 4, N + 2, N + 3, N, N + 1] (N + 4) (fun i h => IsZip h (N + 4) (N + 2) (N + 3) .none ∧ IsTupOf2 h (N + 2) (.ref N) (.ref (N + 1)) ∧ (∃ x y, IsTupOf2 h (N + 3) x y) ∧ h.IsTupleIter N a i ∧ h.IsListIter (N + 1) b i) where
  mem := by simp
  obj := fun i h st c hc => by
    obtain ⟨hz, hTI, ⟨x, y, hTO⟩, ⟨o1, e1, _, d1⟩, ⟨o2, e2, _, d2⟩⟩ := st
    have e' : c = N + 4 ∨ c = N + 2 ∨ c = N + 3 ∨ c = N ∨ c = N + 1 := by simpa using hc
    rcases e' with q | q | q | q | q
    · rw [q]; exact ⟨_, hz, fun v q => nomatch q⟩
    · rw [q]; exact ⟨_, hTI, fun v q => nomatch q⟩
    · rw [q]; exact ⟨_, hTO, fun v q => nomatch q⟩
    · rw [q]; exact ⟨o1, e1, fun v q => by rw [d1] at q; cases q⟩
    · rw [q]; exact ⟨o2, e2, fun v q => by rw [d2] at q; cases q⟩
  keep := fun i h h' st k => by
    obtain ⟨hz, hTI, ⟨x, y, hTO⟩, h1, h2⟩ := st
    exact ⟨k _ (by simp) _ hz, k _ (by simp) _ hTI, ⟨x, y, k _ (by simp) _ hTO⟩, h1.at fun o q => k _ (by simp) o q, h2.at fun o q => k _ (by simp) o q⟩
  item := by
    intro X hP hw hK hc i pins s σ H E I hf st hg
    subst hP hw hK
    obtain ⟨hz, hTI, ⟨x0, y0, hTO⟩, h1, h2⟩ := st
    obtain ⟨xs, ys, x, y, hqx, hqy, hx, hy⟩ := hg
    obtain ⟨its, rv, p, _⟩ := I.tuple hqx
    obtain ⟨its2, rv2, p2, _⟩ := I.list hqy
    obtain ⟨u, hu, ru⟩ := rv.get hx
    obtain ⟨u2, hu2, ru2⟩ := rv2.get hy
    have hh := I.ok.hd hc
    have D1 := Draws.tuple (prog := X.prog) (w := X.w) (A := X.A.in1) hh N a (Nat.ne_of_lt la) its.toArray
    have D2 := Draws.list (prog := X.prog) (w := X.w) (A := X.A.in1) hh (N + 1) b (Nat.ne_of_lt (Nat.lt_succ_of_lt lb)) its2.toArray
    have S := zip_sep2 (N := N) (fp1 := [a]) (fp2 := [b]) (fun c hc => by rw [List.mem_singleton.mp hc]; exact la) (fun c hc => by rw [List.mem_singleton.mp hc]; exact lb)
    have n1 : i < its.toArray.size := by rw [List.size_toArray]; exact (List.getElem?_eq_some_iff.mp hu).1
    have n2 : i < its2.toArray.size := by rw [List.size_toArray]; exact (List.getElem?_eq_some_iff.mp hu2).1
    refine wpAny_pyNext_zipD2_item S D1 D2 hz hTI hTO ⟨h1, p⟩ ⟨h2, p2.isList⟩ n1 n2 fun v1 v2 h' tk pv1 pv2 z' TO' st1 st2 hT hsz hk => ?_
    have e1 : v1 = u := by
      have z : its[i]? = some v1 := by simpa using pv1
      rw [hu] at z; exact (Option.some.inj z).symm
    have e2 : v2 = u2 := by
      have z : its2[i]? = some v2 := by simpa using pv2
      rw [hu2] at z; exact (Option.some.inj z).symm
    subst e1 e2
    have hzl : N + 4 < s.heap.objs.size := Heap.lt_size hz
    refine ⟨_, rfl, wpAny_letOwnedTupleGo_zip (s := { s with heap := h', toks := tk }) z' fun h'' z'' sb => ?_⟩
    have hT2 : h''.get? s.heap.objs.size = some { cls := .type "tuple", data := .seq #[v1, v2] } := (sb.2 _ (Nat.ne_of_gt hzl)).trans hT
    have new : ObjOk X.prog X.w (upd H s.heap.objs.size (.tup [x, y])) h'' s.heap.objs.size (.tup [x, y]) :=
      ⟨by show 2 ≤ sizeLine; decide, [v1, v2], .cons ru (.cons ru2 .nil), ⟨_, hT2, rfl, _, rfl⟩⟩
    have I1 : Inv X pins σ (upd H s.heap.objs.size (.tup [x, y])) { s with heap := h'', toks := tk } :=
      I.turnedNew (t' := tk) (ch := [N + 4, N + 2, N + 3, N, N + 1]) (fun c o hb q => (sb.2 c (fun q' => hb (by simp [q']))).trans (hk c o (fun q' => hb (by simp [q'])) (fun q' => hb (by simp [q'])) (fun q' => hb (by simp [q'])) (fun q' => hb (by simp [q'])) q)) hf (Nat.le_refl _) new
    refine ⟨.ref s.heap.objs.size, _, I1, rfl, ⟨_, x, y, rfl, I.hok.fresh (Nat.le_refl _), rfl, fun l hl => by rw [I.tuple_inj hl hqx]; exact hx, fun l hl => by rw [I.list_inj hl hqy]; exact hy⟩, ⟨z'', ?_, ⟨v1, v2, ?_⟩, ?_, ?_⟩, fun c hcm => ?_⟩
    · exact (sb.2 _ S.TIz).trans (hk _ _ S.TIz S.TITO S.TIi1 S.TIi2 hTI)
    · exact (sb.2 _ S.TOz).trans TO'
    · exact st1.1.at fun o q => (sb.2 _ (Ne.symm S.zi1)).trans q
    · exact st2.1.at fun o q => (sb.2 _ (Ne.symm S.zi2)).trans q
    · have hlt : c < s.heap.objs.size := by
        have e' : c = N + 4 ∨ c = N + 2 ∨ c = N + 3 ∨ c = N ∨ c = N + 1 := by simpa using hcm
        have key : ∀ {m k : Nat}, m < k → c ≤ m → c < k := fun h1 h2 => Nat.lt_of_le_of_lt h2 h1
        refine key hzl ?_
        rcases e' with q | q | q | q | q
        · rw [q]; exact Nat.le_refl _
        · rw [q]; exact Nat.add_le_add_left (by decide) N
        · rw [q]; exact Nat.add_le_add_left (by decide) N
        · rw [q]; exact Nat.le_add_right N 4
        · rw [q]; exact Nat.add_le_add_left (by decide) N
      rw [upd_ne (Nat.ne_of_lt hlt)]
      exact (hf c hcm).1
  done := by
    intro X hP hw hK hc i pins s σ H E I hf st hg
    subst hP hw hK
    obtain ⟨hz, hTI, ⟨x0, y0, hTO⟩, h1, h2⟩ := st
    obtain ⟨xs, ys, hqx, hqy, hend, le1, le2⟩ := hg
    obtain ⟨its, rv, p, _⟩ := I.tuple hqx
    obtain ⟨its2, rv2, p2, _⟩ := I.list hqy
    have l1 := rv.length
    have l2 := rv2.length
    have hh := I.ok.hd hc
    have D1 := Draws.tuple (prog := X.prog) (w := X.w) (A := X.A.in1) hh N a (Nat.ne_of_lt la) its.toArray
    have D2 := Draws.list (prog := X.prog) (w := X.w) (A := X.A.in1) hh (N + 1) b (Nat.ne_of_lt (Nat.lt_succ_of_lt lb)) its2.toArray
    have S := zip_sep2 (N := N) (fp1 := [a]) (fp2 := [b]) (fun c hc => by rw [List.mem_singleton.mp hc]; exact la) (fun c hc => by rw [List.mem_singleton.mp hc]; exact lb)
    have z1 : its.toArray.size = xs.length := by rw [List.size_toArray]; exact l1.symm
    have z2 : its2.toArray.size = ys.length := by rw [List.size_toArray]; exact l2.symm
    refine wpAny_pyNext_zipD2_end S D1 D2 hz hTI hTO ⟨h1, p⟩ ⟨h2, p2.isList⟩ (by rw [z1]; exact le1) (by rw [z2]; exact le2) (by rw [z1, z2]; exact hend.imp Eq.symm Eq.symm) fun h' tk hk => ⟨rfl, I.turnedL (t' := tk) (ch := [N + 4, N + 2, N + 3, N, N + 1]) (fun c o hb q =>
      hk c o (fun q' => hb (by simp [q'])) (fun q' => hb (by simp [q'])) (fun q' => hb (by simp [q'])) (fun q' => hb (by simp [q'])) q) hf⟩
  self := fun A i s Q E st h => wpAny_pyIter_zip st.1 h
def iZipM (K : PySem.W.Frag) (ta : TA) : TI := fun σ H R => ta σ H fun vs H1 => ∃ a b xs ys, vs = [.ref a, .ref b] ∧ SqT K H1 a xs ∧ SqL K H1 b ys ∧ R (ItzM K a b) H1
theorem pi_zipM (K : PySem.W.Frag) {X : Cx} {e e2 : Expr} {ta : TA} {p pos tpos : Pos} {elts : List Expr} {kk : Nat} (hg : Gl X "zip") (hm : X.mg "zip" = none) (ha : PA X [e, e2] ta)
    (hs : starEach [e, e2] X.env = (false, eval e X.env) :: starEach [e2] X.env := by rfl) (hpl : (backTo pos (starEach [e2] X.env)).any (·.1) = false := by rfl) (hK : X.K = K := by rfl) :
    PI X (.Tuple elts kk tpos) (.Call (.Name "zip" p) [e, e2] [] pos) (iZipM K ta) := by
  subst hK
  refine ⟨fun pins s σ H R I h => ?_⟩
  refine Call_ (ld_blt I hg hm PyProof.Rows.boot_zip (PyProof.Rows.callWith_type1 (thn (ha.run pos pins s σ H _ I h) fun us s1 ⟨vs, H1, I1, r1, q1⟩ => ?_) hs hpl))
  obtain ⟨a, b, xs, ys, ex, hqx, hqy, q⟩ := q1
  subst ex
  cases r1 with
  | cons r rr =>
    cases rr with
    | cons r' rr =>
      cases rr
      cases r
      cases r'
      obtain ⟨its, rv, p1, _⟩ := I1.tuple hqx
      obtain ⟨its2, rv2, p2, _⟩ := I1.list hqy
      obtain ⟨o1, ho1, _⟩ := id p1
      have la : a < s1.heap.objs.size := Heap.lt_size ho1
      have lb := p2.lt
      refine PySem.zip_begins2 (begins_tuple a its.toArray) (begins_list b its2.toArray) p1 p2.isList fun h' hz hTI hTO h1 h2 hsz hk => wpAny_pyIter_zip hz ?_
      have I2 : Inv X pins σ H1 { s1 with heap := h' } := I1.kept (t' := s1.toks) hk
      have fresh5 : ∀ c, c ∈ [s1.heap.objs.size + 4, s1.heap.objs.size + 2, s1.heap.objs.size + 3, s1.heap.objs.size, s1.heap.objs.size + 1] → FpOk X pins H1 c := fun c hcm => by
        have e' : c = s1.heap.objs.size + 4 ∨ c = s1.heap.objs.size + 2 ∨ c = s1.heap.objs.size + 3 ∨ c = s1.heap.objs.size ∨ c = s1.heap.objs.size + 1 := by simpa using hcm
        have hle : s1.heap.objs.size ≤ c := by
          rcases e' with z | z | z | z | z
          · rw [z]; exact Nat.le_add_right _ _
          · rw [z]; exact Nat.le_add_right _ _
          · rw [z]; exact Nat.le_add_right _ _
          · rw [z]; exact Nat.le_refl _
          · rw [z]; exact Nat.le_add_right _ _
        exact I1.fpOk hle (I1.hok.fresh hle)
      exact ⟨s1.heap.objs.size + 4, _, _, _, H1, rfl, I2, turn_zipM la lb, ⟨hz, hTI, ⟨_, _, hTO⟩, ⟨_, h1, rfl, rfl⟩, ⟨_, h2, rfl, rfl⟩⟩, fresh5, q⟩
theorem src_zipTL {K : PySem.W.Frag} {a b : Addr} {xs ys : List V} (hl : xs.length = ys.length) : Src (ItzM K a b) xs.length (fun H => SqT K H a xs ∧ SqL K H b ys) (fun i v H H' => ∃ T x y, v = .ref T ∧ H T = none ∧ H' = upd H T (.tup [x, y]) ∧ xs[i]? = some x ∧ ys[i]? = some y) where
  go := fun i H h hi => ⟨xs, ys, _, _, h.1, h.2, List.getElem?_eq_getElem hi, List.getElem?_eq_getElem (by omega)⟩
  stop := fun H h => ⟨xs, ys, h.1, h.2, .inl rfl, Nat.le_refl _, by omega⟩
  yld := fun i H v H' h hi y => by
    obtain ⟨T, x, y, rfl, nT, rfl, f1, f2⟩ := y
    exact ⟨T, x, y, rfl, nT, rfl, f1 xs h.1, f2 ys h.2⟩
end Lx

namespace My
open PySem PySem.Spec PyProof.Rows L2 Lx
local macro_rules | `(tactic| walk_at "hp") => `(tactic| first
  | assumption
  | exact upd_same
  | (refine Eq.trans (upd_ne ?_) ?_; (focus (walk_at "ne")); walk_at "hp")
  | (refine Same.get (by assumption) ?_; walk_at "hp"))
local macro_rules | `(tactic| walk_at "ne") => `(tactic| first
  | assumption
  | exact Ne.symm (by assumption)
  | exact ne_new (by assumption) (by walk_at "hp")
  | exact (ne_new (by assumption) (by walk_at "hp")).symm)
local macro_rules | `(tactic| walk_at "sq") => `(tactic| first
  | assumption
  | exact lst_of (by walk_at "hp")
  | exact tup_of (by walk_at "hp")
  | (refine Same.seq (by assumption) ?_; walk_at "sq")
  | (refine Same.seqT (by assumption) ?_; walk_at "sq"))
local macro_rules | `(tactic| walk_at "lt") => `(tactic| first
  | assumption
  | exact Or.inl (by walk_at "sq")
  | exact Or.inr (by walk_at "sq")
  | exact Sq.or (by walk_at "q"))
local macro_rules | `(tactic| walk_at "q") => `(tactic| first
  | assumption
  | (refine Same.sq (by assumption) ?_; walk_at "q")
  | exact Or.inl (by walk_at "hp")
  | exact Or.inr (by walk_at "hp"))
local macro_rules | `(tactic| walk_at "s1") => `(tactic| with_reducible (first
  | refine r_seq ?_ | refine r_asg ?_ | refine r_name ?_ | refine r_c ?_ | refine r_op ?_ | refine r_if ?_ | refine r_test ?_ | refine r_bl ?_
  | refine r_I0 ?_ | refine r_eqI ?_ | refine r_neI ?_ | refine r_eqS ?_ | refine r_neS ?_ | refine r_eqB ?_ | refine r_neB ?_ | refine r_U ?_
  | refine r_cons ?_ | refine r_nil ?_ | refine r_CB ?_ | refine r_call ?_ | refine r_ret ?_ | refine r_nx ?_ | refine r_rt ?_ | refine r_next ?_ | refine r_retN ?_ | refine r_drop ?_
  | refine r_brk ?_ | refine r_cont ?_ | refine r_bk ?_ | refine r_ct ?_
  | refine r_lst ?_ | refine r_tup ?_ | refine r_new (Nat.le_of_ble_eq_true rfl) ?_ | refine r_sub ?_ | refine r_gcons ?_ | refine r_gnil ?_
  | refine r_B ?_ | refine r_and ?_ | refine r_or ?_ | refine r_not ?_ | refine r_andV ?_ | refine r_orV ?_ | refine r_notV ?_ | refine r_ifE ?_ | refine r_chain ?_
  | refine r_par ?_ | refine r_par3 ?_ | refine r_two ?_ | refine r_three ?_ | refine r_un ?_
  | refine r_BM ?_ | refine r_BM0 ?_ | refine r_tyS ?_ | refine r_sl ?_ | refine r_nop ?_ | refine r_part ?_ | refine r_int ?_ | refine r_revL ?_ | refine r_lstRg ?_ | refine r_rg1 ?_ | refine r_ip ?_ | refine r_isN0 ?_ | refine r_isNi ?_ | refine r_isNr ?_ | refine r_isNb ?_ | refine r_isNs ?_ | refine r_notN0 ?_ | refine r_notNi ?_ | refine r_notNr ?_ | refine r_abs ?_ | refine r_max2 ?_ | refine r_min2 ?_ | refine r_inti ?_ | refine r_intb ?_ | refine r_yes ?_ | refine r_for ?_ | refine r_lc ?_ | refine r_iList ?_ | refine r_iTup ?_ | refine r_iRng1 ?_ | refine r_iRng2 ?_ | refine r_iRng3 ?_ | refine r_iEnum ?_ | refine r_iZip ?_ | refine r_iStr ?_ | refine r_lenSet ?_ | refine r_fld ?_ | refine r_sfld ?_ | refine r_meth ?_ | refine r_make ?_ | refine r_prop ?_ | refine iteT ?_ | refine iteF ?_ | refine ifnT ?_ | refine ifnF ?_))
local macro_rules | `(tactic| walk_at "len") => `(tactic| first
  | assumption
  | exact szl (by (try simp only [vI_len, List.length_append, List.length_cons, List.length_nil, List.length_map, List.length_set, List.length_reverse]); omega)
  | exact sz (by (try simp only [vI_len, List.length_append, List.length_cons, List.length_nil, List.length_map, List.length_set, List.length_reverse]); omega))
local macro_rules | `(tactic| walk_at "side") => `(tactic| first
  | assumption
  | exact Or.inr ⟨by omega, by omega⟩
  | exact Or.inl ⟨by omega, by omega⟩
  | exact Or.inr ⟨by decide, by decide⟩
  | ((show (0 : Int) < _); first | assumption | decide | omega)
  | exact ⟨by decide, by decide⟩
  | exact ⟨by decide, by decide, by decide⟩
  | exact wide_div (b := 200) (by omega) (by omega) (by decide) (by decide)
  | exact wide_div (b := 200) (by decide) (by decide) (by decide) (by decide))
local macro_rules | `(tactic| walk_at "ty") => `(tactic| first
  | exact ty_int | exact ty_bl | exact ty_str | exact ty_non | exact ty_lst (by walk_at "hp") | exact ty_tup (by walk_at "hp"))
local macro_rules | `(tactic| walk_at "kit") => `(tactic| first
  | exact k_ii | exact k_ib | exact k_is | exact k_il | exact k_it | exact k_bi | exact k_bb | exact k_bs | exact k_bl | exact k_bt | exact k_si | exact k_sb | exact k_ss | exact k_sl | exact k_st
  | exact k_ni | exact k_nb | exact k_ns | exact k_nl | exact k_nt | exact k_li | exact k_lb | exact k_ls | exact k_ll | exact k_lt | exact k_ti | exact k_tb | exact k_ts | exact k_tl | exact k_tt)
local macro_rules | `(tactic| walk_at "lk") => `(tactic| first
  | assumption
  | exact lk2_1 | exact lk2_2 (by decide +kernel) | exact lk2_0 (by decide +kernel) (by decide +kernel)
  | exact lk3_1 | exact lk3_2 (by decide +kernel) | exact lk3_3 (by decide +kernel) (by decide +kernel) | exact lk3_0 (by decide +kernel) (by decide +kernel) (by decide +kernel))
local macro_rules | `(tactic| walk_at "fld") => `(tactic| first
  | refine r_fldAt (by walk_at "hp") (by assumption) (by assumption) (by walk_at "lk") ?_
  | refine r_sfldAt (by walk_at "hp") (by assumption) (by assumption) (Nat.le_of_ble_eq_true rfl) ?_
  | refine r_methAt (by walk_at "hp") (by walk_at "lk") ?_)
local macro_rules | `(tactic| walk_at "s2") => `(tactic| first
  | (with_reducible (first | refine ifNF rfl ?_ | refine ifDT rfl ?_))
  | refine ifDF (by decide) ?_
  | refine ifNT (by decide) ?_
  | ((with_reducible show tVar _ _ _ _); refine r_var rfl ?_)
  | ((with_reducible show tAug _ _ _ _ _ _); refine r_aug rfl ?_)
  | ((with_reducible show rI _ _ _ _ _ _); refine r_I (by walk_at "side") ?_)
  | ((with_reducible show rIxL _ _ _ _ _); refine r_ixL (by walk_at "sq") (by first | assumption | rfl) ?_)
  | ((with_reducible show rIxT _ _ _ _ _); refine r_ixT (by walk_at "sq") (by first | assumption | rfl) ?_)
  | ((with_reducible show rSetL _ _ _ _ _); refine r_setL (by walk_at "hp") (by first | assumption | rfl) ?_)
  | ((with_reducible show rSlL _ _ _ _ _ _); refine r_slL (by walk_at "sq") ?_)
  | ((with_reducible show rIsi _ _ _ _); refine isi_of (by walk_at "ty") (by walk_at "kit") ?_)
  | ((with_reducible show rIsiT _ _ _ _); first | refine isiLT_l (by walk_at "hp") (by walk_at "ty") (by walk_at "kit") (by walk_at "kit") ?_ | refine isiLT_t (by walk_at "hp") (by walk_at "ty") (by walk_at "kit") (by walk_at "kit") ?_ | refine isiLT_o (by walk_at "hp") (by walk_at "ty") (by walk_at "kit") (by walk_at "kit") ?_)
  | ((with_reducible show gTup _ _ _ _ _ _ _); refine r_gtup (by walk_at "sq") (by rfl) ?_)
  | ((with_reducible show gUnl _ _ _ _ _ _ _); refine r_gunl (by walk_at "sq") (by rfl) ?_)
  | ((with_reducible show tyV _ _ _ _ ∧ _); refine r_ty (by walk_at "hp") ?_)
  | ((with_reducible show rAppend _ _ _ _); refine r_app (by walk_at "hp") (by walk_at "len") ?_)
  | ((with_reducible show rAddS _ _ _ _); refine r_addS (by first | assumption | exact sz (by omega)) ?_)
  | ((with_reducible show rCountS _ _ _ _); refine r_countS ?_)
  | ((with_reducible show rReverse _ _ _ _); refine r_rev (by walk_at "hp") ?_)
  | ((with_reducible show Lx.rLen _ _ _ _); refine r_len (by walk_at "lt") ?_)
  | ((with_reducible show Lx.rLenS _ _ _); refine r_lenS (by first | assumption | exact sz (by omega)) ?_)
  | ((with_reducible show Lx.rListOf _ _ _ _); refine r_listOf (by walk_at "lt") ?_))
local macro_rules | `(tactic| walk_at "s") => `(tactic| repeat (first | walk_at "s1" | walk_at "s2"))

def topS (i : Nat) : Stmt := PySem.Challenge.pw_leftreturn_k49_whole_live_shelves_and_sc.main.body.getD i (.Pass ⟨0, 0, 0, 0⟩)
abbrev Sis_integer : Stmt := topS 14
abbrev Nis_integer : List Str := ["value", "low", "high"]
theorem scis_integer : FnScope Nis_integer ["value", "low", "high"] (defScope Sis_integer) := ⟨rfl, rfl, rfl, by decide +kernel, rfl, by decide +kernel, by decide +kernel⟩

section
variable {P : Program} {w : World} {K : PySem.W.Frag} {mg : Str → Option Value} {base : Heap}
def spIsInteger : Sp := fun vs H Q _ => ∃ (v l : Int) (h : V), vs = [.int v, .int l, h] ∧ ((∃ u : Int, h = .int u ∧ Q (.bl (decide (l ≤ v) && decide (v ≤ u))) H) ∨ (h = .non ∧ Q (.bl (decide (l ≤ v))) H))
theorem ok_is_integer {f : Addr} {fd : FuncData} {k : Nat} (B : Bn mg) (F : FunD K "is_integer" "is_integer" (defArgs Sis_integer) (defBody Sis_integer) (defScope Sis_integer) [.non] [] f fd) : FnG P w K mg base (k + 1) f fd ["value", "low", "high"] spIsInteger := by
  refine gokD F scis_integer (fun vs H Q E h => ?_) (fun cdv A fs s H vs Q E hG hr h => ?_)
  · obtain ⟨_, _, _, rfl, _⟩ := h; rfl
  · obtain ⟨v, l, h, rfl, h⟩ := h
    have hu := hr.units
    refine ⟨_, (pss_cons (ps_if (pw_or (pt_not (pt_val (pe_callB (k_isi K) (by rfl) B.isinstance Bisinstance (pa_cons (pv 0) (pa_cons (pe_bltn (v := .ty "int") (by rfl) B.int Tint rfl) pa_nil))))) (pw_or1 (pt_val (pe_callB (k_isi K) (by rfl) B.isinstance Bisinstance (pa_cons (pv 0) (pa_cons (pe_bltn (v := .ty "bool") (by rfl) B.bool Tbool rfl) pa_nil)))))).pt (pss_one (ps_ret pe_bl)) pss_nil) (pss_one (ps_ret (pe_and (pe_cmpR op_le (pv 1) (pv 0) (nomark _)) (pe_one (pe_or (pe_cmpR op_isN' (pv 2) pe_non (nomark _)) (pe_one (pe_cmpR op_le (pv 0) (pv 2) (nomark _))))))))), ?_⟩
    walk_at "s"
    refine ifD (fun h1 => ?_) (fun h1 => ?_)
    · walk_at "s"
      rcases h with ⟨u, rfl, q⟩ | ⟨rfl, q⟩
      · walk_at "s"
        rw [decide_eq_true h1] at q
        exact q
      · walk_at "s"
        rw [decide_eq_true h1] at q
        exact q
    · walk_at "s"
      rcases h with ⟨u, rfl, q⟩ | ⟨rfl, q⟩
      · rw [decide_eq_false h1] at q
        exact q
      · rw [decide_eq_false h1] at q
        exact q
end

abbrev Sis_listed : Stmt := topS 15
abbrev Nis_listed : List Str := ["value"]
theorem scis_listed : FnScope Nis_listed ["value"] (defScope Sis_listed) := ⟨rfl, rfl, rfl, by decide +kernel, rfl, by decide +kernel, by decide +kernel⟩

section
variable {P : Program} {w : World} {K : PySem.W.Frag} {mg : Str → Option Value} {base : Heap}
def spIsListed : Sp := fun vs H Q _ => ∃ (a : Addr) (xs : List V), vs = [.ref a] ∧ Sq H a xs ∧ ∀ H', Same H H' → Q (.bl true) H'
theorem ok_is_listed {f : Addr} {fd : FuncData} {k : Nat} (B : Bn mg) (F : Fun K "is_listed" "is_listed" Sis_listed f fd) : FnG P w K mg base (k + 1) f fd ["value"] spIsListed := by
  refine gok F scis_listed (fun vs H Q E h => ?_) (fun cdv A fs s H vs Q E hG hr h => ?_)
  · obtain ⟨_, _, rfl, _⟩ := h; rfl
  · obtain ⟨a, xs, rfl, h, q⟩ := h
    have hu := hr.units
    refine ⟨_, (pss_one (ps_ret (pe_callB (k_isiT K) (by rfl) B.isinstance Bisinstance (pa_cons (pv 0) (pa_cons (pe_tup (pa_cons (pe_bltn (v := .ty "list") (by rfl) B.list Tlist rfl) (pa_cons (pe_bltn (v := .ty "tuple") (by rfl) B.tuple Ttuple rfl) pa_nil))) pa_nil))))), ?_⟩
    walk_at "s"
    intro p np
    have s1 := same_new (o := .tup [.ty "list", .ty "tuple"]) np
    rcases h with h | h
    · have h' := s1 _ _ h
      walk_at "s"
      exact q _ s1
    · have h' := s1 _ _ h
      walk_at "s"
      exact q _ s1
end

section
local macro_rules | `(tactic| walk_at "s") => `(tactic| repeat (first | walk_at "s1" | walk_at "s2" | walk_at "fld"))
abbrev Scheck_size : Stmt := topS 16
abbrev Ncheck_size : List Str := ["size"]
theorem sccheck_size : FnScope Ncheck_size ["size"] (defScope Scheck_size) := ⟨rfl, rfl, rfl, by decide +kernel, rfl, by decide +kernel, by decide +kernel⟩
abbrev SShelf_d__init_d_ : Stmt := inClass (topS 17) 0
abbrev NShelf_d__init_d_ : List Str := ["self", "size"]
theorem scShelf_d__init_d_ : FnScope NShelf_d__init_d_ ["self", "size"] (defScope SShelf_d__init_d_) := ⟨rfl, rfl, rfl, by decide +kernel, rfl, by decide +kernel, by decide +kernel⟩
abbrev SShelf_can_take : Stmt := inClass (topS 17) 1
abbrev NShelf_can_take : List Str := ["self", "place"]
theorem scShelf_can_take : FnScope NShelf_can_take ["self", "place"] (defScope SShelf_can_take) := ⟨rfl, rfl, rfl, by decide +kernel, rfl, by decide +kernel, by decide +kernel⟩
abbrev SShelf_can_return : Stmt := inClass (topS 17) 2
abbrev NShelf_can_return : List Str := ["self", "book"]
theorem scShelf_can_return : FnScope NShelf_can_return ["self", "book"] (defScope SShelf_can_return) := ⟨rfl, rfl, rfl, by decide +kernel, rfl, by decide +kernel, by decide +kernel⟩
abbrev SShelf_take : Stmt := inClass (topS 17) 3
abbrev NShelf_take : List Str := ["self", "place", "book"]
theorem scShelf_take : FnScope NShelf_take ["self", "place"] (defScope SShelf_take) := ⟨rfl, rfl, rfl, by decide +kernel, rfl, by decide +kernel, by decide +kernel⟩
abbrev SShelf_put_back : Stmt := inClass (topS 17) 4
abbrev NShelf_put_back : List Str := ["self", "book", "place"]
theorem scShelf_put_back : FnScope NShelf_put_back ["self", "book"] (defScope SShelf_put_back) := ⟨rfl, rfl, rfl, by decide +kernel, rfl, by decide +kernel, by decide +kernel⟩

/-! a shelf -/
def bV : Option Int → V
  | some i => .int i
  | none => .non
def vB (bs : List (Option Int)) : List V := bs.map bV
theorem vB_len (bs : List (Option Int)) : (vB bs).length = bs.length := List.length_map ..
theorem vB_at {bs : List (Option Int)} {i : Nat} {x : Option Int} (h : bs[i]? = some x) : (vB bs)[i]? = some (bV x) := by
  unfold vB; rw [List.getElem?_map, h]; rfl
theorem vB_set (bs : List (Option Int)) (n : Nat) (x : Option Int) : (vB bs).set n (bV x) = vB (bs.set n x) := List.map_set.symm
theorem vB_flat (bs : List (Option Int)) : (vB bs).all flatV = true := by
  unfold vB
  rw [List.all_map]
  exact List.all_eq_true.mpr fun x _ => by cases x <;> rfl
abbrev shF (b t : Addr) : List (Str × V) := [("books", V.ref b), ("taken", V.ref t)]
/-- a shelf at s: its books at b, the books out at t -/
structure ShelfAt (C : Addr) (H : Hp) (s b t : Addr) (bs : List (Option Int)) (tk : List Int) : Prop where
  ob : ∃ dx, H s = some (.ins C dx (shF b t))
  hb : H b = some (.lst (vB bs))
  ht : H t = some (.lst (vI tk))
  ne : b ≠ t
structure ShK (K : PySem.W.Frag) (C : Addr) : Prop where
  cl : Cls K C
  nb : NoAttr K C "books"
  nt : NoAttr K C "taken"
theorem ShelfAt.same {C : Addr} {H H' : Hp} {s b t : Addr} {bs : List (Option Int)} {tk : List Int} (h : ShelfAt C H s b t bs tk) (k : Same H H') : ShelfAt C H' s b t bs tk := by
  obtain ⟨⟨dx, h1⟩, h2, h3, h4⟩ := h
  exact ⟨⟨dx, k _ _ h1⟩, k _ _ h2, k _ _ h3, h4⟩
section
variable {P : Program} {w : World} {K : PySem.W.Frag} {mg : Str → Option Value} {base : Heap}
def spCheckSize : Sp := fun vs H Q _ => ∃ n : Int, vs = [.int n] ∧ 1 ≤ n ∧ n ≤ 200 ∧ Q .non H
theorem ok_check_size {f : Addr} {fd : FuncData} (c_MAX_SIZE : Gc mg "MAX_SIZE" (.int 200)) (D_is_integer : Df P w K mg base 1 "is_integer" [] spIsInteger) (F : Fun K "check_size" "check_size" Scheck_size f fd) : FnG P w K mg base 2 f fd ["size"] spCheckSize := by
  refine gok F sccheck_size (fun vs H Q E h => ?_) (fun cdv A fs s H vs Q E hG hr h => ?_)
  · obtain ⟨_, rfl, _⟩ := h; rfl
  · obtain ⟨n, rfl, h1, h2, q⟩ := h
    have hu := hr.units
    refine ⟨_, (pss_one (ps_if (pt_not (pt_val (pe_df D_is_integer hG (hr.mono (by first | decide | omega)) passL (by rfl) (pa_cons (pv 0) (pa_cons pe_int (pa_cons (pe_gc c_MAX_SIZE (by rfl)) pa_nil)))))) (pss_one ps_never) pss_nil)), ?_⟩
    walk_at "s"
    refine ⟨_, _, _, rfl, .inl ⟨_, rfl, ?_⟩⟩
    rw [decide_eq_true h1, decide_eq_true h2]
    walk_at "s"
    exact q
def spShInit (C : Addr) : Sp := fun vs H Q _ => ∃ (s dx : Addr) (n : Nat), vs = [.ref s, .int n] ∧ H s = some (.ins C dx []) ∧ n ≤ 200 ∧ ∀ H' b t, KpL [s] H H' → H b = none → H t = none → ShelfAt C H' s b t ((List.range n).map fun i => some ((i : Nat) : Int)) [] → Q .non H'
theorem iota_vB (n : Nat) : rgV 0 (n : Int) = vB ((List.range n).map fun i => some ((i : Nat) : Int)) := by
  unfold rgV vB
  rw [List.map_map, show ((n : Int) - 0).toNat = n by omega]
  exact List.map_congr_left fun i _ => by show V.int (0 + (i : Int)) = V.int ((i : Nat) : Int); rw [Int.zero_add]
theorem ok_Shelf_init {C f : Addr} {fd : FuncData} {k : Nat} (B : Bn mg) (S : ShK K C) (F : Fun K "__init__" "Shelf.__init__" SShelf_d__init_d_ f fd) : FnG P w K mg base (k + 1) f fd ["self", "size"] (spShInit C) := by
  refine gok F scShelf_d__init_d_ (fun vs H Q E h => ?_) (fun cdv A fs s H vs Q E hG hr h => ?_)
  · obtain ⟨_, _, _, rfl, _⟩ := h; rfl
  · obtain ⟨s, dx, n, rfl, hs, hn, q⟩ := h
    have hu := hr.units
    obtain ⟨cl, nb, nt⟩ := S
    refine ⟨_, (pss_cons (ps_fld (pv 0) (pe_listRg rfl (by rfl) B.list (prg_1 (by rfl) B.range (pv 1))) rfl) (pss_one (ps_fld (pv 0) (pe_lst pa_nil) rfl))), ?_⟩
    walk_at "s"
    refine ⟨.of_le (by omega) (by omega) (by omega) (by omega), fun b nb => ?_⟩
    rw [iota_vB]
    have nsb : s ≠ b := ne_new nb hs
    have hs1 := (same_new (o := .lst (vB ((List.range n).map fun i => some ((i : Nat) : Int)))) nb) _ _ hs
    walk_at "s"
    rw [put1]
    intro t nt
    have nst : s ≠ t := ne_new nt upd_same
    have nbt : b ≠ t := ne_new nt ((upd_ne nsb.symm).trans upd_same)
    have nt0 : H t = none := by
      rw [upd_ne nst.symm, upd_ne nbt.symm] at nt
      exact nt
    walk_at "s"
    rw [put2 (by decide +kernel)]
    refine q _ b t ?_ nb nt0 ⟨⟨dx, upd_same⟩, (upd_ne nsb.symm).trans ((upd_ne nbt).trans ((upd_ne nsb.symm).trans upd_same)), (upd_ne nst.symm).trans upd_same, nbt⟩
    exact (((KpL.of (same_new nb)).set (List.mem_singleton.mpr rfl)).put nt).set (List.mem_singleton.mpr rfl)
def spCanTake (C : Addr) : Sp := fun vs H Q _ => ∃ (s b t : Addr) (bs : List (Option Int)) (tk : List Int) (p : Nat) (i : Int), vs = [.ref s, .int p] ∧ ShelfAt C H s b t bs tk ∧ bs[p]? = some (some i) ∧ Q (.bl true) H
theorem ok_Shelf_can_take {C f : Addr} {fd : FuncData} (B : Bn mg) (S : ShK K C) (D_is_integer : Df P w K mg base 1 "is_integer" [] spIsInteger) (F : Fun K "can_take" "Shelf.can_take" SShelf_can_take f fd) : FnG P w K mg base 2 f fd ["self", "place"] (spCanTake C) := by
  refine gok F scShelf_can_take (fun vs H Q E h => ?_) (fun cdv A fs s H vs Q E hG hr h => ?_)
  · obtain ⟨_, _, _, _, _, _, _, rfl, _⟩ := h; rfl
  · obtain ⟨s, b, t, bs, tk, p, i, rfl, ⟨⟨dx, hs⟩, hb, ht, nbt⟩, hp, q⟩ := h
    have hu := hr.units
    obtain ⟨cl, nb, nt⟩ := S
    refine ⟨_, (pss_one (ps_ret (pe_and (pe_df D_is_integer hG (hr.mono (by first | decide | omega)) passL (by rfl) (pa_cons (pv 1) (pa_cons pe_int (pa_cons (pe_op op_sub (pe_callB (k_len K) (by rfl) B.len Blen (pa_cons (k_fld K (pv 0)) pa_nil)) pe_int) pa_nil)))) (pe_one (pe_cmpR op_notN' (pe_ix (k_ixL K) (k_fld K (pv 0)) (pv 1) (fun _ _ => rfl)) pe_non (nomark _)))))), ?_⟩
    walk_at "s"
    have pl : p < bs.length := (List.getElem?_eq_some_iff.mp hp).1
    refine ⟨_, _, _, rfl, .inl ⟨_, rfl, ?_⟩⟩
    rw [vB_len, decide_eq_true (show (0 : Int) ≤ (p : Int) by omega), decide_eq_true (show (p : Int) ≤ (bs.length : Int) - 1 by omega), Bool.and_self]
    have e : atI (vB bs) (p : Int) = some (.int i) := atI_nat (vB_at hp)
    walk_at "s"
    exact q
def spCanReturn (C : Addr) : Sp := fun vs H Q _ => ∃ (s b t : Addr) (bs : List (Option Int)) (tk : List Int) (i : Int), vs = [.ref s, .int i] ∧ ShelfAt C H s b t bs tk ∧ 0 ≤ i ∧ i ∈ tk ∧ Q (.bl true) H
theorem ok_Shelf_can_return {C f : Addr} {fd : FuncData} (S : ShK K C) (D_is_integer_2 : Df P w K mg base 1 "is_integer" [.non] spIsInteger) (F : Fun K "can_return" "Shelf.can_return" SShelf_can_return f fd) : FnG P w K mg base 2 f fd ["self", "book"] (spCanReturn C) := by
  refine gok F scShelf_can_return (fun vs H Q E h => ?_) (fun cdv A fs s H vs Q E hG hr h => ?_)
  · obtain ⟨_, _, _, _, _, _, rfl, _⟩ := h; rfl
  · obtain ⟨s, b, t, bs, tk, i, rfl, ⟨⟨dx, hs⟩, hb, ht, nbt⟩, h0, hi, q⟩ := h
    have hu := hr.units
    obtain ⟨cl, nb, nt⟩ := S
    refine ⟨_, (pss_one (ps_ret (pe_and (pe_df D_is_integer_2 hG (hr.mono (by first | decide | omega)) passL (by rfl) (pa_cons (pv 1) (pa_cons pe_int pa_nil))) (pe_one (pe_cmpR (k_in K) (pv 1) (k_fld K (pv 0)) rfl))))), ?_⟩
    walk_at "s"
    refine ⟨_, _, _, rfl, .inr ⟨rfl, ?_⟩⟩
    rw [decide_eq_true h0]
    walk_at "s"
    refine r_in (.inl (lst_of ht)) rfl (flat_ints tk) ?_
    rw [inV_ints, decide_eq_true hi]
    exact q
def spTake (C : Addr) : Sp := fun vs H Q _ => ∃ (s b t : Addr) (bs : List (Option Int)) (tk : List Int) (p : Nat) (i : Int), vs = [.ref s, .int p] ∧ ShelfAt C H s b t bs tk ∧ bs[p]? = some (some i) ∧ tk.length ≤ 1000 ∧ ∀ H', KpL [b, t] H H' → ShelfAt C H' s b t (bs.set p none) (tk ++ [i]) → Q (.int i) H'
theorem ok_Shelf_take {C f : Addr} {fd : FuncData} {k : Nat} (B : Bn mg) (S : ShK K C) (F : Fun K "take" "Shelf.take" SShelf_take f fd) : FnG P w K mg base (k + 1) f fd ["self", "place"] (spTake C) := by
  refine gok F scShelf_take (fun vs H Q E h => ?_) (fun cdv A fs s H vs Q E hG hr h => ?_)
  · obtain ⟨_, _, _, _, _, _, _, rfl, _⟩ := h; rfl
  · obtain ⟨s, b, t, bs, tk, p, i, rfl, ⟨⟨dx, hs⟩, hb, ht, nbt⟩, hp, hl, q⟩ := h
    have hu := hr.units
    obtain ⟨cl, nb, nt⟩ := S
    refine ⟨_, (pss_cons (ps_set (i := 2) scShelf_take.nd rfl (Or.inl rfl) (pe_ix (k_ixL K) (k_fld K (pv 0)) (pv 1) (fun _ _ => rfl))) (pss_cons (ps_asg pe_non (pg_sub (k_fld K (pv 0)) (pv 1) set_list)) (pss_cons (ps_expr (k_bmP K (pe_bm PySem.F.plainAttrs_list PySem.F.slot_list_append PySem.F.type_list_append mt_append (k_fld K (pv 0)) (pa_cons (pv 2) pa_nil)))) (pss_one (ps_ret (pv 2)))))), ?_⟩
    have pl : p < bs.length := (List.getElem?_eq_some_iff.mp hp).1
    have e : atI (vB bs) (p : Int) = some (.int i) := atI_nat (vB_at hp)
    have e1 : ixN (vB bs).length (p : Int) = some p := by rw [vB_len, ixN_ok (by omega) (by omega), Int.toNat_natCast]
    have nsb : s ≠ b := fun z => by rw [z, hb] at hs; cases hs
    have nst : s ≠ t := fun z => by rw [z, ht] at hs; cases hs
    have tl : (vI tk).length ≤ 1000 := by rw [vI_len]; exact hl
    walk_at "s"
    refine q _ ((KpL.refl _ _).set (by simp) |>.set (by simp)) ⟨⟨dx, (upd_ne nst).trans ((upd_ne nsb).trans hs)⟩, ?_, ?_, nbt⟩
    · rw [upd_ne nbt, upd_same]
      exact congrArg (fun l => some (HO.lst l)) (vB_set bs p none)
    · rw [upd_same]
      exact congrArg (fun l => some (HO.lst l)) (vI_app tk [i])
def spPutBack (C : Addr) : Sp := fun vs H Q _ => ∃ (s b t : Addr) (bs : List (Option Int)) (tk : List Int) (p : Nat) (i : Int), vs = [.ref s, .int i] ∧ ShelfAt C H s b t bs tk ∧ bs[p]? = some none ∧ (∀ m : Nat, m < p → bs[m]? ≠ some none) ∧ i ∈ tk ∧ ∀ H', KpL [b, t] H H' → ShelfAt C H' s b t (bs.set p (some i)) (tk.erase i) → Q (.int p) H'
theorem ok_Shelf_put_back {C f : Addr} {fd : FuncData} {k : Nat} (B : Bn mg) (S : ShK K C) (F : Fun K "put_back" "Shelf.put_back" SShelf_put_back f fd) : FnG P w K mg base (k + 1) f fd ["self", "book"] (spPutBack C) := by
  refine gok F scShelf_put_back (fun vs H Q E h => ?_) (fun cdv A fs s H vs Q E hG hr h => ?_)
  · obtain ⟨_, _, _, _, _, _, _, rfl, _⟩ := h; rfl
  · obtain ⟨s, b, t, bs, tk, p, i, rfl, ⟨⟨dx, hs⟩, hb, ht, nbt⟩, hp, hm, hi, q⟩ := h
    have hu := hr.units
    obtain ⟨cl, nb, nt⟩ := S
    refine ⟨_, (pss_cons (ps_set (i := 2) scShelf_put_back.nd rfl (Or.inl rfl) (k_bmP K (pe_bm PySem.F.plainAttrs_list PySem.F.slot_list_index PySem.F.type_list_index (k_index K) (k_fld K (pv 0)) (pa_cons pe_non pa_nil)))) (pss_cons (ps_asg (pv 1) (pg_sub (k_fld K (pv 0)) (pv 2) set_list)) (pss_cons (ps_expr (k_bmP K (pe_bm PySem.F.plainAttrs_list PySem.F.slot_list_remove PySem.F.type_list_remove mt_remove (k_fld K (pv 0)) (pa_cons (pv 1) pa_nil)))) (pss_one (ps_ret (pv 2)))))), ?_⟩
    have pl : p < bs.length := (List.getElem?_eq_some_iff.mp hp).1
    have e1 : ixN (vB bs).length (p : Int) = some p := by rw [vB_len, ixN_ok (by omega) (by omega), Int.toNat_natCast]
    have nsb : s ≠ b := fun z => by rw [z, hb] at hs; cases hs
    have nst : s ≠ t := fun z => by rw [z, ht] at hs; cases hs
    walk_at "s"
    refine r_index (lst_of hb) rfl (vB_flat bs) (vB_at hp) rfl (fun m z' hm' hz => ?_) ?_
    · unfold vB at hz
      rw [List.getElem?_map] at hz
      cases hx : bs[m]? with
      | none => rw [hx] at hz; cases hz
      | some x =>
        rw [hx] at hz
        cases hz
        cases x with
        | none => exact absurd hx (hm m hm')
        | some j => rfl
    · have ht1 : upd H b (.lst ((vB bs).set p (.int i))) t = some (.lst (vI tk)) := (upd_ne nbt.symm).trans ht
      walk_at "s"
      refine r_remove ht1 hi ?_
      walk_at "s"
      refine q _ ((KpL.refl _ _).set (by simp) |>.set (by simp)) ⟨⟨dx, (upd_ne nst).trans ((upd_ne nsb).trans hs)⟩, ?_, upd_same, nbt⟩
      rw [upd_ne nbt, upd_same]
      exact congrArg (fun l => some (HO.lst l)) (vB_set bs p (some i))
end

end

section
local macro_rules | `(tactic| walk_at "s") => `(tactic| repeat (first | walk_at "s1" | walk_at "s2" | walk_at "fld"))
abbrev SShelf_can_perform : Stmt := inClass (topS 17) 5
abbrev NShelf_can_perform : List Str := ["self", "operation", "name", "number"]
theorem scShelf_can_perform : FnScope NShelf_can_perform ["self", "operation"] (defScope SShelf_can_perform) := ⟨rfl, rfl, rfl, by decide +kernel, rfl, by decide +kernel, by decide +kernel⟩
abbrev SShelf_perform : Stmt := inClass (topS 17) 6
abbrev NShelf_perform : List Str := ["self", "operation", "name", "number"]
theorem scShelf_perform : FnScope NShelf_perform ["self", "operation"] (defScope SShelf_perform) := ⟨rfl, rfl, rfl, by decide +kernel, rfl, by decide +kernel, by decide +kernel⟩
abbrev Sperformed : Stmt := topS 18
abbrev Nperformed : List Str := ["size", "schedule", "shelf", "filled", "most", "index", "operation", "place"]
theorem scperformed : FnScope Nperformed ["size", "schedule"] (defScope Sperformed) := ⟨rfl, rfl, rfl, by decide +kernel, rfl, by decide +kernel, by decide +kernel⟩

/-- an operation: take from a place, or return a book -/
structure Op where
  k : Bool
  x : Int
def opN : Bool → Str
  | true => "take"
  | false => "return"
def opV (o : Op) : List V := [.str (opN o.k), .int o.x]
def RowsIn (H : Hp) (p : Addr) (as : List Addr) (qs : List Op) : Prop := Sq H p (as.map V.ref) ∧ as.length = qs.length ∧ ∀ (i : Nat) (a : Addr) (q : Op), as[i]? = some a → qs[i]? = some q → Sq H a (opV q)
theorem RowsIn.same {H H' : Hp} {p : Addr} {as : List Addr} {qs : List Op} (h : RowsIn H p as qs) (s : Same H H') : RowsIn H' p as qs := ⟨s.sq h.1, h.2.1, fun i a q e1 e2 => s.sq (h.2.2 i a q e1 e2)⟩
/-- books at places and books out -/
abbrev Sh := List (Option Int) × List Int
def fg (bs : List (Option Int)) : Nat := bs.idxOf none
def OpOk (s : Sh) (o : Op) : Prop := if o.k = true then ∃ (p : Nat) (i : Int), o.x = p ∧ s.1[p]? = some (some i) else 0 ≤ o.x ∧ o.x ∈ s.2 ∧ none ∈ s.1
def stepO (s : Sh) (o : Op) : Sh := if o.k = true then (s.1.set o.x.toNat none, s.2 ++ [(s.1.getD o.x.toNat none).getD 0]) else (s.1.set (fg s.1) (some o.x), s.2.erase o.x)
theorem fg_at {bs : List (Option Int)} (h : none ∈ bs) : bs[fg bs]? = some none ∧ ∀ m : Nat, m < fg bs → bs[m]? ≠ some none := by
  unfold fg
  have hl := List.idxOf_lt_length_of_mem h
  refine ⟨by rw [List.getElem?_eq_getElem hl, List.getElem_idxOf], fun m hm z => ?_⟩
  have hm' : m < bs.length := Nat.lt_trans hm hl
  rw [List.getElem?_eq_getElem hm'] at z
  have := List.not_of_lt_findIdx (show m < bs.findIdx (· == none) from hm)
  rw [Option.some.inj z] at this
  simp at this
def allO (n : Nat) : List (Option Int) := (List.range n).map fun i => some ((i : Nat) : Int)
def stepP (s : Sh × List Int × Int) (o : Op) : Sh × List Int × Int :=
  (stepO s.1 o, (if o.k = true then s.2.1 else s.2.1 ++ [((fg s.1.1 : Nat) : Int)]), if (((stepO s.1 o).2.length : Nat) : Int) > s.2.2 then (((stepO s.1 o).2.length : Nat) : Int) else s.2.2)
def runP (n : Nat) (ops : List Op) : Sh × List Int × Int := ops.foldl stepP ((allO n, []), [], 0)
def VldO (n : Nat) (ops : List Op) : Prop := ∀ (i : Nat) (hi : i < ops.length), OpOk (runP n (ops.take i)).1 ops[i]
theorem runP_succ {n : Nat} {ops : List Op} {i : Nat} (hi : i < ops.length) : runP n (ops.take (i + 1)) = stepP (runP n (ops.take i)) ops[i] := by
  have e : ops.take (i + 1) = ops.take i ++ [ops[i]] := by rw [List.take_add_one, List.getElem?_eq_getElem hi]; rfl
  unfold runP
  rw [e, List.foldl_append]
  rfl
section
variable {P : Program} {w : World} {K : PySem.W.Frag} {mg : Str → Option Value} {base : Heap}
def spCanPerform (C : Addr) : Sp := fun vs H Q _ => ∃ (s b t a : Addr) (bs : List (Option Int)) (tk : List Int) (o : Op), vs = [.ref s, .ref a] ∧ ShelfAt C H s b t bs tk ∧ Sq H a (opV o) ∧ OpOk (bs, tk) o ∧ ∀ H', Same H H' → Q (.bl true) H'
theorem ok_Shelf_can_perform {C f : Addr} {fd : FuncData} (B : Bn mg) (c_TAKE : Gc mg "TAKE" (.str "take")) (c_RETURN : Gc mg "RETURN" (.str "return")) (S : ShK K C) (D_is_listed : Df P w K mg base 1 "is_listed" [] spIsListed) (M_Shelf_can_take : Mt P w K mg base 2 C "can_take" [] (spCanTake C)) (M_Shelf_can_return : Mt P w K mg base 2 C "can_return" [] (spCanReturn C)) (F : Fun K "can_perform" "Shelf.can_perform" SShelf_can_perform f fd) : FnG P w K mg base 3 f fd ["self", "operation"] (spCanPerform C) := by
  refine gok F scShelf_can_perform (fun vs H Q E h => ?_) (fun cdv A fs s H vs Q E hG hr h => ?_)
  · obtain ⟨_, _, _, _, _, _, _, rfl, _⟩ := h; rfl
  · obtain ⟨s, b, t, a, bs, tk, ⟨k, x⟩, rfl, hS, hA, ho, q⟩ := h
    have hu := hr.units
    obtain ⟨cl, nb, nt⟩ := S
    refine ⟨_, (pss_cons (ps_if (pw_or (pt_not (pt_val (pe_df D_is_listed hG (hr.mono (by first | decide | omega)) passL (by rfl) (pa_cons (pv 1) pa_nil)))) (pw_or1 (pt_cmpR op_ne (pe_callB (k_len K) (by rfl) B.len Blen (pa_cons (pv 1) pa_nil)) pe_int (nomark _)))).pt (pss_one (ps_ret pe_bl)) pss_nil) (pss_cons (ps_asg (pv 1) (pg_or (k_gtup (n := 2) K rfl (pgs_cons (pg_name (i := 2) scShelf_can_perform.nd rfl (Or.inl rfl)) (pgs_cons (pg_name (i := 3) scShelf_can_perform.nd rfl (Or.inl rfl)) pgs_nil))) (k_gunl (n := 2) K rfl (pgs_cons (pg_name (i := 2) scShelf_can_perform.nd rfl (Or.inl rfl)) (pgs_cons (pg_name (i := 3) scShelf_can_perform.nd rfl (Or.inl rfl)) pgs_nil))))) (pss_cons (ps_if (pt_not (pt_val (pe_callB (k_isi K) (by rfl) B.isinstance Bisinstance (pa_cons (pv 2) (pa_cons (pe_bltn (v := .ty "str") (by rfl) B.str Tstr rfl) pa_nil))))) (pss_one (ps_ret pe_bl)) pss_nil) (pss_one (ps_ret (pe_or (pe_and (pe_cmpR op_eq (pv 2) (pe_gc c_TAKE (by rfl)) (nomark _)) (pe_one (pe_mt M_Shelf_can_take hG (hr.mono (by first | decide | omega)) passL (pv 0) (pa_cons (pv 3) pa_nil)))) (pe_one (pe_and (pe_cmpR op_eq (pv 2) (pe_gc c_RETURN (by rfl)) (nomark _)) (pe_one (pe_mt M_Shelf_can_return hG (hr.mono (by first | decide | omega)) passL (pv 0) (pa_cons (pv 3) pa_nil))))))))))), ?_⟩
    walk_at "s"
    refine ⟨a, _, rfl, hA, fun H1 s1 => ?_⟩
    have hA1 := s1.sq hA
    have hS1 := hS.same s1
    have hsh := hS1
    obtain ⟨⟨dx, hs⟩, hb, ht, nbt⟩ := hsh
    walk_at "s"
    refine r_gOr1 hA1 rfl ?_
    rw [show opV ⟨k, x⟩ = [.str (opN k), .int x] from rfl]
    walk_at "s"
    cases k with
    | true =>
      obtain ⟨p, i, e, hp⟩ : ∃ (p : Nat) (i : Int), x = p ∧ bs[p]? = some (some i) := ho
      subst e
      refine ifDT rfl ?_
      walk_at "s"
      refine ⟨s, b, t, bs, tk, p, i, rfl, hS1, hp, ?_⟩
      walk_at "s"
      exact q _ s1
    | false =>
      obtain ⟨h0, hm, hn⟩ : 0 ≤ x ∧ x ∈ tk ∧ none ∈ bs := ho
      refine ifDF (by decide +kernel) ?_
      walk_at "s"
      refine ⟨s, b, t, bs, tk, x, rfl, hS1, h0, hm, ?_⟩
      exact q _ s1
def spPerform (C : Addr) : Sp := fun vs H Q _ => ∃ (s b t a : Addr) (bs : List (Option Int)) (tk : List Int) (o : Op), vs = [.ref s, .ref a] ∧ ShelfAt C H s b t bs tk ∧ Sq H a (opV o) ∧ OpOk (bs, tk) o ∧ tk.length ≤ 1000 ∧
  ∀ H' v, KpL [b, t] H H' → ShelfAt C H' s b t (stepO (bs, tk) o).1 (stepO (bs, tk) o).2 → (v = if o.k = true then .non else .int (fg bs : Nat)) → Q v H'
theorem ok_Shelf_perform {C f : Addr} {fd : FuncData} (B : Bn mg) (c_TAKE : Gc mg "TAKE" (.str "take")) (S : ShK K C) (M_Shelf_take : Mt P w K mg base 1 C "take" [] (spTake C)) (M_Shelf_put_back : Mt P w K mg base 1 C "put_back" [] (spPutBack C)) (F : Fun K "perform" "Shelf.perform" SShelf_perform f fd) : FnG P w K mg base 2 f fd ["self", "operation"] (spPerform C) := by
  refine gok F scShelf_perform (fun vs H Q E h => ?_) (fun cdv A fs s H vs Q E hG hr h => ?_)
  · obtain ⟨_, _, _, _, _, _, _, rfl, _⟩ := h; rfl
  · obtain ⟨s, b, t, a, bs, tk, ⟨k, x⟩, rfl, hS, hA, ho, hl, q⟩ := h
    have hu := hr.units
    obtain ⟨cl, nb, nt⟩ := S
    have hsh := hS
    obtain ⟨⟨dx, hs⟩, hb, ht, nbt⟩ := hsh
    refine ⟨_, (pss_cons (ps_asg (pv 1) (pg_or (k_gtup (n := 2) K rfl (pgs_cons (pg_name (i := 2) scShelf_perform.nd rfl (Or.inl rfl)) (pgs_cons (pg_name (i := 3) scShelf_perform.nd rfl (Or.inl rfl)) pgs_nil))) (k_gunl (n := 2) K rfl (pgs_cons (pg_name (i := 2) scShelf_perform.nd rfl (Or.inl rfl)) (pgs_cons (pg_name (i := 3) scShelf_perform.nd rfl (Or.inl rfl)) pgs_nil))))) (pss_cons (ps_if (pt_cmpR op_eq (pv 2) (pe_gc c_TAKE (by rfl)) (nomark _)) (pss_cons (ps_expr (pe_mt M_Shelf_take hG (hr.mono (by first | decide | omega)) passL (pv 0) (pa_cons (pv 3) pa_nil))) (pss_one (ps_ret pe_non))) pss_nil) (pss_one (ps_ret (pe_mt M_Shelf_put_back hG (hr.mono (by first | decide | omega)) passL (pv 0) (pa_cons (pv 3) pa_nil)))))), ?_⟩
    walk_at "s"
    refine r_gOr1 hA rfl ?_
    rw [show opV ⟨k, x⟩ = [.str (opN k), .int x] from rfl]
    walk_at "s"
    cases k with
    | true =>
      obtain ⟨p, i, e, hp⟩ : ∃ (p : Nat) (i : Int), x = p ∧ bs[p]? = some (some i) := ho
      subst e
      refine ifDT rfl ?_
      walk_at "s"
      refine ⟨s, b, t, bs, tk, p, i, rfl, hS, hp, hl, fun H1 hK1 hS1 => ?_⟩
      walk_at "s"
      refine q _ _ hK1 ?_ rfl
      have e1 : stepO (bs, tk) ⟨true, (p : Nat)⟩ = (bs.set p none, tk ++ [i]) := by
        show (bs.set p none, tk ++ [(bs.getD p none).getD 0]) = _
        rw [List.getD_eq_getElem?_getD, hp]
        rfl
      rw [e1]
      exact hS1
    | false =>
      obtain ⟨h0, hm, hn⟩ : 0 ≤ x ∧ x ∈ tk ∧ none ∈ bs := ho
      refine ifDF (by decide +kernel) ?_
      walk_at "s"
      obtain ⟨g1, g2⟩ := fg_at hn
      refine ⟨s, b, t, bs, tk, fg bs, x, rfl, hS, g1, g2, hm, fun H1 hK1 hS1 => ?_⟩
      exact q _ _ hK1 hS1 rfl
def spPerformed (C : Addr) : Sp := fun vs H Q _ => ∃ (n : Nat) (a : Addr) (as : List Addr) (ops : List Op), vs = [.int (n : Nat), .ref a] ∧ 1 ≤ n ∧ n ≤ 200 ∧ RowsIn H a as ops ∧ ops.length ≤ 400 ∧ VldO n ops ∧
  ∀ H' u s b t f, Same H H' → H u = none → H s = none → H b = none → H t = none → H f = none → H' u = some (.tup [.ref s, .ref f, .int (runP n ops).2.2]) → ShelfAt C H' s b t (runP n ops).1.1 (runP n ops).1.2 → H' f = some (.lst (vI (runP n ops).2.1)) → Q (.ref u) H'
theorem ok_performed {CS f : Addr} {fd : FuncData} (B : Bn mg) (c_MAX_OPERATIONS_schedules : Gc mg "MAX_OPERATIONS_schedules" (.int 400)) (S : ShK K CS) (D_check_size : Df P w K mg base 2 "check_size" [] spCheckSize) (D_is_listed : Df P w K mg base 1 "is_listed" [] spIsListed) (N_Shelf : Cn P w K mg base 1 "Shelf" CS [] (spShInit CS)) (M_Shelf_can_perform : Mt P w K mg base 3 CS "can_perform" [] (spCanPerform CS)) (M_Shelf_perform : Mt P w K mg base 2 CS "perform" [] (spPerform CS)) (F : Fun K "performed" "performed" Sperformed f fd) : FnG P w K mg base 4 f fd ["size", "schedule"] (spPerformed CS) := by
  refine gok F scperformed (fun vs H Q E h => ?_) (fun cdv A fs s H vs Q E hG hr h => ?_)
  · obtain ⟨_, _, _, _, rfl, _⟩ := h; rfl
  · obtain ⟨n, a, as, ops, rfl, n1, n2, hA, ol, hv, q⟩ := h
    have hu := hr.units
    obtain ⟨cl, nb, nt⟩ := S
    refine ⟨_, (pss_cons (ps_expr (pe_df D_check_size hG (hr.mono (by first | decide | omega)) passL (by rfl) (pa_cons (pv 0) pa_nil))) (pss_cons (ps_if (pw_or (pt_not (pt_val (pe_df D_is_listed hG (hr.mono (by first | decide | omega)) passL (by rfl) (pa_cons (pv 1) pa_nil)))) (pw_or1 (pt_cmpR op_gt (pe_callB (k_len K) (by rfl) B.len Blen (pa_cons (pv 1) pa_nil)) (pe_gc c_MAX_OPERATIONS_schedules (by rfl)) (nomark _)))).pt (pss_one ps_never) pss_nil) (pss_cons (ps_set (i := 2) scperformed.nd rfl (Or.inl rfl) (pe_cn N_Shelf hG (hr.mono (by first | decide | omega)) passL (by rfl) (pa_cons (pv 0) pa_nil))) (pss_cons (ps_par (i := 3) (j := 4) rfl scperformed.nd rfl rfl (by decide) rfl rfl (pa_cons (pe_lst pa_nil) (pa_cons pe_int pa_nil)) (by with_unfolding_all rfl)) (pss_cons (ps_for (passes_of rfl) rfl (pi_or (k_enum K (by rfl) B.enumerate (pa_cons (pv 1) pa_nil)) (k_enumT K (by rfl) B.enumerate (pa_cons (pv 1) pa_nil))) (k_gtup (n := 2) K rfl (pgs_cons (pg_name (i := 5) scperformed.nd rfl (Or.inl rfl)) (pgs_cons (pg_name (i := 6) scperformed.nd rfl (Or.inl rfl)) pgs_nil))) (pss_cons (ps_if (pt_not (pt_val (pe_mt M_Shelf_can_perform hG (hr.mono (by first | decide | omega)) passL (pv 2) (pa_cons (pv 6) pa_nil)))) (pss_one ps_never) pss_nil) (pss_cons (ps_set (i := 7) scperformed.nd rfl (Or.inl rfl) (pe_mt M_Shelf_perform hG (hr.mono (by first | decide | omega)) passL (pv 2) (pa_cons (pv 6) pa_nil))) (pss_cons (ps_if (pt_cmpR op_notN' (pv 7) pe_non (nomark _)) (pss_one (ps_expr (k_bmP K (pe_bm PySem.F.plainAttrs_list PySem.F.slot_list_append PySem.F.type_list_append mt_append (pv 3) (pa_cons (pv 7) pa_nil))))) pss_nil) (pss_one (ps_set (i := 4) scperformed.nd rfl (Or.inl rfl) (pe_callB (call_max2' rfl) (by rfl) B.max Bmax (pa_cons (pv 4) (pa_cons (pe_callB (k_len K) (by rfl) B.len Blen (pa_cons (k_fld K (pv 2)) pa_nil)) pa_nil))))))))) (pss_one (ps_ret (pe_tup (pa_cons (pv 2) (pa_cons (pv 3) (pa_cons (pv 4) pa_nil))))))))))), ?_⟩
    walk_at "s"
    refine ⟨n, rfl, by omega, by omega, ?_⟩
    walk_at "s"
    refine ⟨a, _, rfl, hA.1, fun H1 s1 => ?_⟩
    have hA1 := s1.sq hA.1
    walk_at "s"
    rw [List.length_map, hA.2.1]
    refine ifDF (by omega) ?_
    walk_at "s"
    intro s dx m1 m2 ndx
    refine ⟨s, dx, n, rfl, upd_same, n2, fun H2 b t hK nb' nt' hS => ⟨rfl, ?_⟩⟩
    have hs0 : H1 s = none := m1
    have hd0 : H1 dx = none := m2
    have k12 : Same H1 H2 := fun x o hx => by
      have e1 : x ≠ s := fun z => by rw [z, hs0] at hx; cases hx
      have e2 : x ≠ dx := fun z => by rw [z, hd0] at hx; cases hx
      exact hK _ _ (by simpa using e1) ((upd_ne e1).trans ((upd_ne e2).trans hx))
    have off : ∀ x, upd (upd H1 dx (.own s)) s (.ins CS dx []) x = none → H1 x = none := fun x hx => by
      have e1 : x ≠ s := fun z => by rw [z, upd_same] at hx; cases hx
      rw [upd_ne e1] at hx
      have e2 : x ≠ dx := fun z => by rw [z, upd_same] at hx; cases hx
      rw [upd_ne e2] at hx
      exact hx
    have hb0 := off b nb'
    have ht0 := off t nt'
    walk_at "s"
    intro f nf
    have sf := same_new (o := .lst []) nf
    have sHf := (s1.trans k12).trans sf
    have hf0 : H f = none := (s1.trans k12).free nf
    have hbf : b ≠ f := fun z => by have := hS.hb; rw [z, nf] at this; cases this
    have htf : t ≠ f := fun z => by have := hS.ht; rw [z, nf] at this; cases this
    have hb0 : H b = none := s1.free hb0
    have ht0 : H t = none := s1.free ht0
    have hs00 : H s = none := s1.free hs0
    have hSf := hS.same sf
    have hff : upd H2 f (.lst []) f = some (.lst (vI [])) := upd_same
    generalize upd H2 f (.lst []) = H3 at *
    have hA3 := sHf.sq hA.1
    walk_at "s"
    obtain ⟨oA, hAo⟩ := hA.1.there
    refine r_enumSq rfl hA3 fun J OK ok S => ?_
    refine for_src S (fun i σ H' => ∃ v5 v6 v7, σ = [some (.int (n : Nat)), some (.ref a), some (.ref s), some (.ref f), some (.int (runP n (ops.take i)).2.2), v5, v6, v7] ∧ Same H H' ∧ ShelfAt CS H' s b t (runP n (ops.take i)).1.1 (runP n (ops.take i)).1.2 ∧ H' f = some (.lst (vI (runP n (ops.take i)).2.1)) ∧ (runP n (ops.take i)).1.2.length ≤ i ∧ (runP n (ops.take i)).2.1.length ≤ i) (fun i σ H' h => by
      obtain ⟨_, _, _, _, k, _⟩ := h
      exact ok _ ((k _ _ hAo).trans (sHf _ _ hAo).symm)) ⟨none, none, none, rfl, sHf, hSf, hff, Nat.zero_le _, Nat.zero_le _⟩ ?_ ?_
    · rintro i v σ H4 H5 hi ⟨v5, v6, v7, rfl, s4, hS4, hf4, l1, l2⟩ ⟨T, x, rfl, nT, rfl, hx⟩
      rw [List.length_map, hA.2.1] at hi
      have hia : i < as.length := by rw [hA.2.1]; exact hi
      rw [List.getElem?_map, List.getElem?_eq_getElem hia] at hx
      cases hx
      have hrow := hA.2.2 i _ _ (List.getElem?_eq_getElem hia) (List.getElem?_eq_getElem hi)
      have hok := hv i hi
      have sT := same_new (o := .tup [.int (i : Nat), .ref as[i]]) nT
      have hT : upd H4 T (.tup [.int (i : Nat), .ref as[i]]) T = some (.tup [.int (i : Nat), .ref as[i]]) := upd_same
      have s5 := s4.trans sT
      have hS5 := hS4.same sT
      have hf5 := sT _ _ hf4
      have hrow5 := s5.sq hrow
      rw [runP_succ hi]
      generalize runP n (ops.take i) = R at *
      obtain ⟨⟨bs, tk⟩, fl, mo⟩ := R
      generalize ops[i] = o at *
      generalize as[i] = y at *
      generalize upd H4 T (.tup [.int (i : Nat), .ref y]) = H5 at *
      have l1 : tk.length ≤ i := l1
      have l2 : fl.length ≤ i := l2
      obtain ⟨ds5, hs5⟩ := hS5.ob
      walk_at "s"
      refine ⟨s, b, t, y, bs, tk, o, rfl, hS5, hrow5, hok, fun H6 s6 => ?_⟩
      have s46 := s5.trans s6
      have hS6 := hS5.same s6
      have hf6 := s6 _ _ hf5
      obtain ⟨ds6, hs6⟩ := hS6.ob
      walk_at "s"
      refine ⟨s, b, t, y, bs, tk, o, rfl, hS6, s46.sq hrow, hok, by omega, fun H7 v7' hK7 hS7 ev => ?_⟩
      have s7 : Same H H7 := fun x o hx => hK7 _ _ (by simp; exact ⟨fun z => (by rw [z, hb0] at hx; cases hx), fun z => (by rw [z, ht0] at hx; cases hx)⟩) (s46 _ _ hx)
      have hf7 := hK7 _ _ (by simp; exact ⟨hbf.symm, htf.symm⟩) hf6
      obtain ⟨ds7, hs7⟩ := hS7.ob
      have ht7 := hS7.ht
      have lt : (stepO (bs, tk) o).2.length ≤ i + 1 := by
        unfold stepO
        split
        · show (tk ++ [_]).length ≤ i + 1
          rw [List.length_append]; simp; omega
        · show (tk.erase _).length ≤ i + 1
          have := List.length_erase_le (a := o.x) (l := tk)
          omega
      have nsf : s ≠ f := fun z => by rw [z, hf7] at hs7; cases hs7
      have e2 : stepP ((bs, tk), fl, mo) o = (stepO (bs, tk) o, (if o.k = true then fl else fl ++ [((fg bs : Nat) : Int)]), if (((stepO (bs, tk) o).2.length : Nat) : Int) > mo then (((stepO (bs, tk) o).2.length : Nat) : Int) else mo) := rfl
      rw [e2]
      generalize stepO (bs, tk) o = R2 at *
      obtain ⟨bs2, tk2⟩ := R2
      cases hk : o.k with
      | true =>
        rw [hk, if_pos rfl] at ev
        subst ev
        rw [if_pos rfl]
        walk_at "s"
        rw [vI_len]
        exact ⟨_, _, _, rfl, s7, hS7, hf7, lt, Nat.le_succ_of_le l2⟩
      | false =>
        rw [hk, if_neg Bool.false_ne_true] at ev
        subst ev
        rw [if_neg Bool.false_ne_true]
        have hf8 : (vI fl).length ≤ 1000 := by rw [vI_len]; omega
        walk_at "s"
        rw [vI_len]
        obtain ⟨⟨dx7, g1⟩, g2, g3, g4⟩ := hS7
        refine ⟨_, _, _, rfl, same_set s7 hf0, ⟨⟨dx7, (upd_ne nsf).trans g1⟩, (upd_ne hbf).trans g2, (upd_ne htf).trans g3, g4⟩, ?_, lt, ?_⟩
        · rw [upd_same]
          exact congrArg (fun l => some (HO.lst l)) (vI_app fl [_])
        · rw [List.length_append, List.length_singleton]; omega
    · rintro σ H4 ⟨v5, v6, v7, rfl, s4, hS4, hf4, l1, l2⟩
      rw [List.length_map, hA.2.1, List.take_length] at hS4 hf4
      rw [List.length_map, hA.2.1, List.take_length]
      walk_at "s"
      intro u nu
      have su := same_new (o := .tup [.ref s, .ref f, .int (runP n ops).2.2]) nu
      exact q _ u s b t f (s4.trans su) (s4.free nu) hs00 hb0 ht0 hf0 upd_same (hS4.same su) (su _ _ hf4)
end

end

/-! ### numbers as words (no program here) -/
def wS (x : Int) : Str := Str.ofString (toString x)
theorem tl_wS {x : Int} (h : 0 ≤ x) : TL.tl (wS x) = TL.numL x.toNat := by
  obtain ⟨n, rfl⟩ := Int.eq_ofNat_of_zero_le h
  rw [Int.toNat_natCast]
  exact TL.tl_num n
theorem wS_len {x : Int} (h : 0 ≤ x) (h2 : x ≤ 1000000000000000000000000000000) : (wS x).length ≤ 31 := by
  rw [TL.len_tl, tl_wS h]
  refine TL.numL_len (by decide) ?_
  have : (10 : Nat) ^ 31 = 10000000000000000000000000000000 := by decide
  omega
theorem wS_digits {x : Int} (h : 0 ≤ x) : ∀ c ∈ TL.tl (wS x), 48 ≤ c ∧ c ≤ 57 := by
  rw [tl_wS h]
  exact fun c hc => TL.numL_digits _ c hc
theorem wS_tl_ne {x : Int} (h : 0 ≤ x) : TL.tl (wS x) ≠ [] := by
  rw [tl_wS h]
  exact TL.numL_ne _
theorem wS_ne {x : Int} (h : 0 ≤ x) : wS x ≠ "" := fun e => wS_tl_ne h (by rw [e]; rfl)
theorem wS_int {x : Int} (h : 0 ≤ x) (h2 : x ≤ 1000000000000000000000000000000) : PySem.intText? (wS x) = some x := by
  have l := wS_len h h2
  obtain ⟨n, rfl⟩ := Int.eq_ofNat_of_zero_le h
  exact TL.int_num (by have e := TL.len_tl (wS (n : Int)); rw [tl_wS h, Int.toNat_natCast] at e; omega)
theorem numL_hd (n : Nat) : 0 < n → (TL.numL n).head? ≠ some 48 := by
  induction n using Nat.strongRecOn with
  | _ n ih =>
    intro hn
    by_cases h : n < 10
    · rw [TL.numL_lt h]
      intro e
      injection e with e
      omega
    · rw [TL.numL_step (by omega)]
      have := ih (n / 10) (by omega) (by omega)
      cases e : TL.numL (n / 10) with
      | nil => exact absurd e (TL.numL_ne _)
      | cons c r => rw [e] at this; exact this
theorem wS_zero : wS 0 = "0" := by decide
/-- a number's first sign is 0 for the number 0 alone -/
theorem wS_hd {x : Int} (h : 0 ≤ x) {c : Nat} (hc : (TL.tl (wS x)).head? = some c) (e : c = 48) : x = 0 := by
  rw [tl_wS h] at hc
  by_cases hx : x = 0
  · exact hx
  · exact absurd (by rw [hc, e]) (numL_hd x.toNat (by omega))
theorem wS_inj {x y : Int} (hx : 0 ≤ x) (hy : 0 ≤ y) (e : wS x = wS y) : x = y := by
  have := congrArg TL.tl e
  rw [tl_wS hx, tl_wS hy] at this
  have := TL.numL_inj this
  omega
/-- a word: some signs, no blank among them -/
structure Wd (p : Str) : Prop where
  ne : TL.tl p ≠ []
  len : p.length ≤ 32
  ch : ∀ c ∈ TL.tl p, 33 ≤ c ∧ c < 0x110000
theorem wd_wS {x : Int} (h : 0 ≤ x) (h2 : x ≤ 1000000000000000000000000000000) : Wd (wS x) :=
  ⟨wS_tl_ne h, Nat.le_succ_of_le (wS_len h h2), fun c hc => by have := wS_digits h c hc; omega⟩
theorem wds_wS {ns : List Int} (h : ∀ x ∈ ns, 0 ≤ x ∧ x ≤ 1000000000000000000000000000000) : ∀ p ∈ ns.map wS, Wd p := fun p hp => by
  obtain ⟨x, hx, rfl⟩ := List.mem_map.mp hp
  exact wd_wS (h x hx).1 (h x hx).2
def jnW (ws : List Str) : Str := Txt.join " " ws
abbrev jnS (ns : List Int) : Str := jnW (ns.map wS)
theorem split_jn {ws : List Str} (hne : ws ≠ []) (h : ∀ p ∈ ws, Wd p) : Txt.split (jnW ws) " " = ws :=
  TL.split_join (s := 32) (S := []) rfl (by decide +kernel) hne fun p hp m => by have := (h p hp).ch _ m; omega
theorem tl_jn (ws : List Str) : TL.tl (jnW ws) = TL.joinL [32] (ws.map TL.tl) := by
  unfold jnW
  rw [TL.join_eq, TL.tl_join]
  rfl
theorem jn_nil : jnW [] = "" := TL.ext_tl (by rw [tl_jn]; rfl)
theorem jn_ne {ws : List Str} (hne : ws ≠ []) (h : ∀ p ∈ ws, Wd p) : jnW ws ≠ "" := fun e => by
  have e2 := tl_jn ws
  rw [e] at e2
  match ws, hne with
  | [x], _ => exact (h x (by simp)).ne e2.symm
  | x :: y :: r, _ =>
    have e3 : ([] : List Nat) = TL.tl x ++ ([32] ++ TL.joinL [32] ((y :: r).map TL.tl)) := e2
    have := congrArg List.length e3
    simp at this
theorem joinL_len : ∀ ls : List (List Nat), (∀ p ∈ ls, p.length ≤ 32) → (TL.joinL [32] ls).length ≤ 33 * ls.length
  | [], _ => Nat.le_refl _
  | [p], h => by
    have := h p (by simp)
    show p.length ≤ 33
    omega
  | p :: q :: r, h => by
    have h1 := h p (by simp)
    have ih := joinL_len (q :: r) fun z hz => h z (List.mem_cons_of_mem _ hz)
    show (p ++ ([32] ++ TL.joinL [32] (q :: r))).length ≤ _
    rw [List.length_append, List.length_append, List.length_cons, List.length_nil, List.length_cons]
    omega
theorem jn_len {ws : List Str} (h : ∀ p ∈ ws, Wd p) : (jnW ws).length ≤ 33 * ws.length := by
  rw [TL.len_tl, tl_jn]
  have := joinL_len (ws.map TL.tl) fun p hp => by
    obtain ⟨z, hz, rfl⟩ := List.mem_map.mp hp
    rw [← TL.len_tl]
    exact (h z hz).len
  rwa [List.length_map] at this
theorem joinL_mem : ∀ (ls : List (List Nat)) (c : Nat), c ∈ TL.joinL [32] ls → c = 32 ∨ ∃ p ∈ ls, c ∈ p
  | [], c, h => by cases h
  | [p], c, h => .inr ⟨p, by simp, h⟩
  | p :: q :: r, c, h => by
    have h' : c ∈ p ++ ([32] ++ TL.joinL [32] (q :: r)) := h
    rcases List.mem_append.mp h' with h1 | h1
    · exact .inr ⟨p, by simp, h1⟩
    · rcases List.mem_append.mp h1 with h2 | h2
      · exact .inl (List.mem_singleton.mp h2)
      · rcases joinL_mem (q :: r) c h2 with e | ⟨z, hz, hc⟩
        · exact .inl e
        · exact .inr ⟨z, List.mem_cons_of_mem _ hz, hc⟩
theorem jn_ok {ws : List Str} (h : ∀ p ∈ ws, Wd p) : PyData.canLay0 (.str (jnW ws)) = true := by
  show (jnW ws).cps.all (· < 0x110000) = true
  rw [← Array.all_toList]
  refine List.all_eq_true.mpr fun c hc => ?_
  have hc' : c ∈ TL.tl (jnW ws) := hc
  rw [tl_jn] at hc'
  refine decide_eq_true ?_
  rcases joinL_mem _ c hc' with e | ⟨p, hp, hcp⟩
  · omega
  · obtain ⟨z, hz, rfl⟩ := List.mem_map.mp hp
    exact ((h z hz).ch c hcp).2
theorem blank_len : (" " : Str).length = 1 := by decide +kernel
theorem wd_sum {ws : List Str} (h : ∀ p ∈ ws, Wd p) : (ws.map (·.length)).sum ≤ 32 * ws.length := by
  induction ws with
  | nil => exact Nat.le_refl _
  | cons x r ih =>
    have := ih fun y hy => h y (List.mem_cons_of_mem _ hy)
    have := (h x (by simp)).len
    rw [List.map_cons, List.sum_cons, List.length_cons]
    omega
theorem join_fits {ws : List Str} (h : ∀ p ∈ ws, Wd p) (hl : ws.length ≤ 1000) : (ws.map (·.length)).sum + ws.length * (" " : Str).length ≤ 16777216 := by
  have := wd_sum h
  rw [blank_len]
  omega

/-! ### operations as words (no program here) -/
def ltr (k : Bool) : Nat := if k then 116 else 114
def oW (k : Bool) (x : Int) : Str := (⟨#[ltr k]⟩ : Str) ++ wS x
theorem tl_oW (k : Bool) (x : Int) : TL.tl (oW k x) = ltr k :: TL.tl (wS x) := by
  unfold oW
  rw [TL.tl_append]
  rfl
theorem oW_S (k : Bool) (x : Int) : oW k x = SX.S (ltr k :: TL.tl (wS x)) := TL.ext_tl (by rw [tl_oW])
theorem wS_S (x : Int) : wS x = SX.S (TL.tl (wS x)) := TL.ext_tl rfl
theorem ltr_rg (k : Bool) : ltr k = 116 ∨ ltr k = 114 := by cases k <;> simp [ltr]
theorem oW_len {x : Int} (k : Bool) (h : 0 ≤ x) (h2 : x ≤ 1000000000000000000000000000000) : (oW k x).length ≤ 32 := by
  have := wS_len h h2
  rw [TL.len_tl] at this ⊢
  rw [tl_oW, List.length_cons]
  omega
theorem wd_oW {x : Int} (k : Bool) (h : 0 ≤ x) (h2 : x ≤ 1000000000000000000000000000000) : Wd (oW k x) :=
  ⟨by rw [tl_oW]; simp, oW_len k h h2, fun c hc => by
    rw [tl_oW] at hc
    rcases List.mem_cons.mp hc with e | hc
    · have := ltr_rg k
      omega
    · have := wS_digits h c hc
      omega⟩
theorem oW_from (k : Bool) (x : Int) : cutS (oW k x) (some 1) none = wS x := by
  rw [C8.cutS_slice, oW_S]
  refine (SX.from_app [ltr k] (TL.tl (wS x)) (i := 1) rfl).trans ?_
  exact (wS_S x).symm
theorem oW_to (k : Bool) (x : Int) : cutS (oW k x) none (some 1) = ⟨#[ltr k]⟩ := by
  rw [C8.cutS_slice, oW_S]
  exact SX.to_app [ltr k] (TL.tl (wS x)) (i := 1) rfl
theorem oW_at (k : Bool) (x : Int) : atI (oW k x).cps.toList 0 = some (ltr k) := by
  have : (oW k x).cps.toList = ltr k :: TL.tl (wS x) := tl_oW k x
  rw [this]
  exact atI_ok (Int.le_refl 0) rfl
theorem one_t : (⟨#[116]⟩ : Str) = "t" := by decide +kernel
theorem one_r : (⟨#[114]⟩ : Str) = "r" := by decide +kernel
theorem take_0 : atI ("take" : Str).cps.toList 0 = some 116 := by
  have : ("take" : Str).cps.toList = [116, 97, 107, 101] := by decide +kernel
  rw [this]
  exact atI_ok (Int.le_refl 0) rfl
theorem ret_0 : atI ("return" : Str).cps.toList 0 = some 114 := by
  have : ("return" : Str).cps.toList = [114, 101, 116, 117, 114, 110] := by decide +kernel
  rw [this]
  exact atI_ok (Int.le_refl 0) rfl

abbrev Snumber_in : Stmt := topS 30
abbrev Nnumber_in : List Str := ["word", "sign"]
theorem scnumber_in : FnScope Nnumber_in ["word"] (defScope Snumber_in) := ⟨rfl, rfl, rfl, by decide +kernel, rfl, by decide +kernel, by decide +kernel⟩

theorem r_m1 {σ : L2.St} {H : Hp} {Q : VK} {r : V → List V → Hp → VK → Prop} {to te : TE} (h : to σ H fun x H1 => (∃ a, x = .str a) ∧ te σ H1 fun y H2 => r x [y] H2 Q) : tM1 r to te σ H Q := h
section
variable {P : Program} {w : World} {K : PySem.W.Frag} {mg : Str → Option Value} {base : Heap}
def spNumIn : Sp := fun vs H Q _ => ∃ x : Int, vs = [.str (wS x)] ∧ 0 ≤ x ∧ x ≤ 1000000000000000000000000000000 ∧ ∀ H', Same H H' → Q (.int x) H'
theorem ok_number_in {f : Addr} {fd : FuncData} {k : Nat} (B : Bn mg) (c_DIGITS : Gc mg "DIGITS" (.str "0123456789")) (F : Fun K "number_in" "number_in" Snumber_in f fd) : FnG P w K mg base (k + 1) f fd ["word"] spNumIn := by
  refine gok F scnumber_in (fun vs H Q E h => ?_) (fun cdv A fs s H vs Q E hG hr h => ?_)
  · obtain ⟨_, rfl, _⟩ := h; rfl
  · obtain ⟨x, rfl, h0, h1, q⟩ := h
    have hu := hr.units
    have hl := wS_len h0 h1
    have hsz : (wS x).cps.size = (wS x).length := rfl
    have hdd : ∀ i c, (wS x).cps[i]? = some c → 48 ≤ c ∧ c ≤ 57 := fun i c hc => by
      refine wS_digits h0 c ?_
      show c ∈ (wS x).cps.toList
      exact Array.mem_toList_iff.mpr (Array.mem_of_getElem? hc)
    refine ⟨_, (pss_cons (ps_if (pw_or (pt_cmpR op_eq (pv 0) pe_str (nomark _)) (pw_or (pt_val (pe_callB (k_any K) (by rfl) B.any Bany (pa_cons (pe_lc (own := [("sign", 1)]) rfl scnumber_in.nd (pi_str (pv 0)) (blkOk_by (own := [("sign", 1)]) (N := Nnumber_in) (sc := defScope Snumber_in) (by decide +kernel)) (fun _ _ _ _ _ => (pg_name (i := 1) scnumber_in.nd rfl (Or.inl rfl))) (fun _ _ _ _ _ => pts_nil) (fun _ _ _ _ _ => (pe_cmpR op_notIn_sign (pv 1) (pe_gc c_DIGITS (by rfl)) rfl))) pa_nil))) (pw_or1 (pw_and (pt_cmpR op_eq (pe_ix ix_str (pv 0) pe_int (fun _ _ => rfl)) pe_str (nomark _)) (pw_and1 (pt_cmpR op_ne (pv 0) pe_str (nomark _)))).pt))).pt (pss_one (ps_ret pe_non)) pss_nil) (pss_one (ps_ret (pe_callTy call_int_str (by rfl) B.int Tint (pa_cons (pv 0) pa_nil))))), ?_⟩
    walk_at "s"
    refine ifDF (wS_ne h0) ?_
    walk_at "s"
    refine ⟨_, rfl, fun Dl nD => ?_⟩
    refine lc_pure (src_str (x := wS x)) (fun _ => true) (fun _ => .bl false) (by rw [hsz]; omega) (fun _ _ => trivial) ?_ nD fun H1 s1 hD => ?_
    · rintro i y H' H'' Yes No hi s ⟨rfl, c, hc, rfl⟩ hY hN
      walk_at "s"
      refine ⟨rfl, ?_⟩
      walk_at "s"
      have hin : (!decide (c ∈ ("0123456789" : Str).cps.toList)) = false := by
        have := hdd i c hc
        have e : ("0123456789" : Str).cps.toList = [48, 49, 50, 51, 52, 53, 54, 55, 56, 57] := by decide +kernel
        rw [e, decide_eq_true]
        · rfl
        · simp only [List.mem_cons, List.not_mem_nil, or_false]
          omega
      refine ⟨c, _, rfl, rfl, ?_⟩
      rw [hin]
      exact hY rfl _ (Same.refl _)
    · walk_at "s"
      refine ⟨Dl, List.replicate (wS x).cps.size false, rfl, lst_of (hD.trans ?_), ?_⟩
      · rw [giv_const, List.map_replicate]
      rw [show (List.replicate (wS x).cps.size false).any id = false by simp]
      walk_at "s"
      obtain ⟨c, r, hcr⟩ : ∃ c r, TL.tl (wS x) = c :: r := by
        cases e : TL.tl (wS x) with
        | nil => exact absurd e (wS_tl_ne h0)
        | cons c r => exact ⟨c, r, rfl⟩
      have e0 : atI (wS x).cps.toList 0 = some c := by
        have : (wS x).cps.toList = c :: r := hcr
        rw [this]
        exact atI_ok (Int.le_refl 0) rfl
      refine ⟨_, _, _, rfl, rfl, sz (by omega), e0, ?_⟩
      walk_at "s"
      have fin : ∀ {H2 : Hp}, Same H H2 → ∃ a n, [V.str (wS x)] = [V.str a] ∧ PySem.intText? a = some n ∧ a.length ≤ 640 ∧ Q (.int n) H2 := fun s2 => ⟨_, x, rfl, wS_int h0 h1, by omega, q _ s2⟩
      refine ifD (fun hc => ?_) (fun hc => ?_)
      · have hc48 : c = 48 := by
          have e := congrArg (fun z : Str => z.cps.toList) hc
          have e2 : ("0" : Str).cps.toList = [48] := by decide +kernel
          rw [e2] at e
          have e3 : [c] = [48] := e
          injection e3
        have hx := wS_hd h0 (by rw [hcr]; rfl) hc48
        have hw : wS x = "0" := by rw [hx]; exact wS_zero
        walk_at "s"
        refine ifNF hw ?_
        walk_at "s"
        exact fin s1
      · walk_at "s"
        exact fin s1
end

theorem log_pl {x : Int} (h0 : 0 ≤ x) (h1 : x ≤ 1000000000000000000000000000000) : x.natAbs.log2 < 1920 := by
  have h3 : x.natAbs < 2 ^ 100 := by
    have : (2 : Nat) ^ 100 = 1267650600228229401496703205376 := by decide
    omega
  exact Nat.lt_trans (PySem.Flt.log2_lt_of (by decide) h3) (by decide)
section
variable {P : Program} {w : World} {K : PySem.W.Frag} {mg : Str → Option Value} {base : Heap}
/-- the words of the numbers of a list, in a comprehension -/
theorem lc_words {a : Addr} {g : TG} {tt : TT} {te : TE} {vs : List Nat} {σ : L2.St} {H1 : Hp} {Dl : Addr} {Qd : Hp → Prop} {ns : List Int} (h : SqL K H1 a (vI ns)) (hl : ns.length ≤ 100000) 
    (hs : ∀ (x : Int) (H' : Hp) (Yes : V → Hp → Prop) (No : Hp → Prop), Same H1 H' → x ∈ ns → (∀ H4, Same H' H4 → Yes (.str (wS x)) H4) →
      g (.int x) (wipe σ vs) H' fun σ2 H2 => wipe σ2 vs = wipe σ vs ∧ tt σ2 H2 fun b H3 => if b = true then te σ2 H3 Yes else No H3)
    (hD : H1 Dl = none) (q : ∀ H', Same H1 H' → H' Dl = some (.lst ((ns.map wS).map V.str)) → Qd H') :
    ∃ W : Nat → Nat → Hp → Prop, (∃ m, W 0 m (upd H1 Dl (.lst []))) ∧ ∀ i m H, W i m H →
      ((Itl K a).stop i H ∧ Qd H) ∨ ((Itl K a).go i H ∧ ∃ Nx : Hp → Prop, (∀ H', Nx H' → ∃ m', m' < m ∧ W (i + 1) m' H') ∧ ∀ x H', (Itl K a).yld i H x H' → g x (wipe σ vs) H' fun σ2 H2 => wipe σ2 vs = wipe σ vs ∧ tt σ2 H2 fun b H3 =>
        if b = true then te σ2 H3 fun y H4 => ∃ acc, H4 Dl = some (.lst acc) ∧ acc.length < sizeLine ∧ Nx (upd H4 Dl (.lst (acc ++ [y]))) else Nx H3) := by
  refine lc_ints h hl (fun _ => true) (fun x => .str (wS x)) (fun x H' Yes No s hx hY hN => hs x H' Yes No s hx (hY rfl)) hD fun H' s hd => q H' s ?_
  rw [hd, List.filter_eq_self.mpr fun _ _ => rfl, List.map_map]
  rfl
end

abbrev Sformat_schedule : Stmt := topS 31
abbrev Nformat_schedule : List Str := ["size", "schedule", "kind", "value"]
theorem scformat_schedule : FnScope Nformat_schedule ["size", "schedule"] (defScope Sformat_schedule) := ⟨rfl, rfl, rfl, by decide +kernel, rfl, by decide +kernel, by decide +kernel⟩

def oWs (ops : List Op) : List Str := ops.map fun o => oW o.k o.x
theorem opN_0 (k : Bool) : atI (opN k).cps.toList 0 = some (ltr k) := by
  cases k with
  | true => exact take_0
  | false => exact ret_0
theorem opN_len (k : Bool) : (opN k).length ≤ 10 := by cases k <;> decide +kernel
theorem wds_oW {ops : List Op} (h : ∀ o ∈ ops, 0 ≤ o.x ∧ o.x ≤ 1000000000000000000000000000000) : ∀ p ∈ oWs ops, Wd p := fun p hp => by
  obtain ⟨o, ho, rfl⟩ := List.mem_map.mp hp
  exact wd_oW o.k (h o ho).1 (h o ho).2
/-- the operations are numbers of books and places -/
def OpsR (ops : List Op) : Prop := ∀ o ∈ ops, 0 ≤ o.x ∧ o.x ≤ 1000000000000000000000000000000
section
variable {P : Program} {w : World} {K : PySem.W.Frag} {mg : Str → Option Value} {base : Heap}
def spFormatSc : Sp := fun vs H Q _ => ∃ (n : Nat) (a : Addr) (as : List Addr) (ops : List Op), vs = [.int (n : Nat), .ref a] ∧ 1 ≤ n ∧ n ≤ 200 ∧ RowsIn H a as ops ∧ ops.length ≤ 400 ∧ VldO n ops ∧ OpsR ops ∧ ∀ H', Same H H' → Q (.str (jnW (oWs ops))) H'
theorem ok_format_schedule {CS f : Addr} {fd : FuncData} (B : Bn mg) (D_performed : Df P w K mg base 4 "performed" [] (spPerformed CS)) (F : Fun K "format_schedule" "format_schedule" Sformat_schedule f fd) : FnG P w K mg base 5 f fd ["size", "schedule"] spFormatSc := by
  refine gok F scformat_schedule (fun vs H Q E h => ?_) (fun cdv A fs s H vs Q E hG hr h => ?_)
  · obtain ⟨_, _, _, _, rfl, _⟩ := h; rfl
  · obtain ⟨n, a, as, ops, rfl, n1, n2, hA, ol, hv, hR, q⟩ := h
    have hu := hr.units
    refine ⟨_, (pss_cons (ps_expr (pe_df D_performed hG (hr.mono (by first | decide | omega)) passL (by rfl) (pa_cons (pv 0) (pa_cons (pv 1) pa_nil)))) (pss_one (ps_ret (pe_join pe_str (pe_lc (own := [("kind", 2), ("value", 3)]) rfl scformat_schedule.nd (pi_or (k_piL K (pv 1)) (k_piT K (pv 1))) (blkOk_by (own := [("kind", 2), ("value", 3)]) (N := Nformat_schedule) (sc := defScope Sformat_schedule) (by decide +kernel)) (fun _ _ _ _ _ => (pg_or (k_gtup (n := 2) K rfl (pgs_cons (pg_name (i := 2) scformat_schedule.nd rfl (Or.inl rfl)) (pgs_cons (pg_name (i := 3) scformat_schedule.nd rfl (Or.inl rfl)) pgs_nil))) (k_gunl (n := 2) K rfl (pgs_cons (pg_name (i := 2) scformat_schedule.nd rfl (Or.inl rfl)) (pgs_cons (pg_name (i := 3) scformat_schedule.nd rfl (Or.inl rfl)) pgs_nil))))) (fun _ _ _ _ _ => pts_nil) (fun _ _ _ _ _ => (pe_op op_addS (pe_ix ix_str (pv 2) pe_int (fun _ _ => rfl)) (pe_callTy call_str' (by rfl) B.str Tstr (pa_cons (pv 3) pa_nil))))))))), ?_⟩
    walk_at "s"
    refine ⟨n, a, as, ops, rfl, n1, n2, hA, ol, hv, fun H1 u s' b t f s1 _ _ _ _ _ _ _ _ => ?_⟩
    have hA1 := hA.same s1
    walk_at "s"
    refine r_m1 ?_
    walk_at "s"
    refine ⟨⟨_, rfl⟩, ?_⟩
    walk_at "s"
    have fin : ∀ (Dl : Addr) (H' : Hp), H1 Dl = none → Same H1 H' → H' Dl = some (.lst (giv (as.map V.ref).length (fun _ => true) fun i => .str ((oWs ops).getD i ""))) → ∃ a p, ∃ ys : List Str, V.str " " = .str a ∧ [V.ref Dl] = [.ref p] ∧ (SqL K H' p (ys.map V.str) ∨ SqT K H' p (ys.map V.str)) ∧ (ys.map (·.length)).sum + ys.length * a.length ≤ 16777216 ∧ Q (.str (Txt.join a ys)) H' := fun Dl H' nD s hD => by
      have e : giv (as.map V.ref).length (fun _ => true) (fun i => V.str ((oWs ops).getD i "")) = (oWs ops).map V.str := by
        have := giv_of (oWs ops) "" (fun _ => true) V.str
        rw [List.filter_eq_self.mpr fun _ _ => rfl] at this
        rw [← this, List.length_map, hA1.2.1]
        unfold oWs
        rw [List.length_map]
      rw [e] at hD
      exact ⟨_, Dl, oWs ops, rfl, rfl, .inl (lst_of hD), join_fits (wds_oW hR) (by unfold oWs; rw [List.length_map]; omega), q _ (s1.trans s)⟩
    rcases hA1.1 with hL | hL
    · refine .inl ?_
      walk_at "s"
      refine ⟨a, rfl, ⟨_, lst_of hL⟩, fun Dl nD => lc_pure (src_list (xs := as.map V.ref)) (fun _ => true) (fun i => .str ((oWs ops).getD i "")) (by rw [List.length_map, hA1.2.1]; omega) (fun H' s => lst_of (s _ _ hL)) ?_ nD fun H' s hD => ?_⟩
      · rintro i x H' H'' Yes No hi s ⟨rfl, hx⟩ hY hN
        rw [List.length_map, hA1.2.1] at hi
        have ea := List.getElem?_eq_getElem (show i < as.length by rw [hA1.2.1]; exact hi)
        rw [List.getElem?_map, ea] at hx
        cases hx
        have eo := List.getElem?_eq_getElem hi
        have ho : Sq H'' (as[i]'(by rw [hA1.2.1]; exact hi)) [.str (opN ops[i].k), .int ops[i].x] := s.sq (hA1.2.2 i _ _ ea eo)
        have hr' := hR _ (List.getElem_mem hi)
        have ew : (oWs ops).getD i "" = oW ops[i].k ops[i].x := by
          unfold oWs
          rw [List.getD_eq_getElem?_getD, List.getElem?_map, eo]
          rfl
        rw [ew] at hY
        have ol1 := opN_len ops[i].k
        have wl := wS_len hr'.1 hr'.2
        refine r_gOr1 ho rfl ?_
        walk_at "s"
        refine ⟨rfl, ?_⟩
        walk_at "s"
        refine ⟨_, _, _, rfl, rfl, sz (by omega), opN_0 ops[i].k, ?_⟩
        walk_at "s"
        refine ⟨_, rfl, log_pl hr'.1 hr'.2, ?_⟩
        refine r_addS ?_ ?_
        · show 1 + (wS ops[i].x).length ≤ sizeLine
          exact sz (by omega)
        · exact hY rfl _ (Same.refl _)
      · exact fin Dl H' nD s hD
    · refine .inr ?_
      walk_at "s"
      refine ⟨a, rfl, ⟨_, tup_of hL⟩, fun Dl nD => lc_pure (src_tup (xs := as.map V.ref)) (fun _ => true) (fun i => .str ((oWs ops).getD i "")) (by rw [List.length_map, hA1.2.1]; omega) (fun H' s => tup_of (s _ _ hL)) ?_ nD fun H' s hD => ?_⟩
      · rintro i x H' H'' Yes No hi s ⟨rfl, hx⟩ hY hN
        rw [List.length_map, hA1.2.1] at hi
        have ea := List.getElem?_eq_getElem (show i < as.length by rw [hA1.2.1]; exact hi)
        rw [List.getElem?_map, ea] at hx
        cases hx
        have eo := List.getElem?_eq_getElem hi
        have ho : Sq H'' (as[i]'(by rw [hA1.2.1]; exact hi)) [.str (opN ops[i].k), .int ops[i].x] := s.sq (hA1.2.2 i _ _ ea eo)
        have hr' := hR _ (List.getElem_mem hi)
        have ew : (oWs ops).getD i "" = oW ops[i].k ops[i].x := by
          unfold oWs
          rw [List.getD_eq_getElem?_getD, List.getElem?_map, eo]
          rfl
        rw [ew] at hY
        have ol1 := opN_len ops[i].k
        have wl := wS_len hr'.1 hr'.2
        refine r_gOr1 ho rfl ?_
        walk_at "s"
        refine ⟨rfl, ?_⟩
        walk_at "s"
        refine ⟨_, _, _, rfl, rfl, sz (by omega), opN_0 ops[i].k, ?_⟩
        walk_at "s"
        refine ⟨_, rfl, log_pl hr'.1 hr'.2, ?_⟩
        refine r_addS ?_ ?_
        · show 1 + (wS ops[i].x).length ≤ sizeLine
          exact sz (by omega)
        · exact hY rfl _ (Same.refl _)
      · exact fin Dl H' nD s hD
end

/-! ### a shelf while operations are done (no program here) -/
def inb (bs : List (Option Int)) : List Int := bs.filterMap id
def itg (n : Nat) : List Int := (List.range n).map fun i => ((i : Nat) : Int)
structure Iv (n : Nat) (s : Sh) : Prop where
  len : s.1.length = n
  all : (inb s.1 ++ s.2).Perm (itg n)
theorem itg_len (n : Nat) : (itg n).length = n := by unfold itg; rw [List.length_map, List.length_range]
theorem itg_nd (n : Nat) : (itg n).Nodup := by
  unfold itg
  refine List.Pairwise.map _ (fun a b (h : a ≠ b) (z : ((a : Nat) : Int) = ((b : Nat) : Int)) => h (by omega)) ?_
  exact List.nodup_range
theorem mem_itg {n : Nat} {x : Int} : x ∈ itg n ↔ 0 ≤ x ∧ x < n := by
  unfold itg
  constructor
  · intro h
    obtain ⟨i, hi, rfl⟩ := List.mem_map.mp h
    have := List.mem_range.mp hi
    omega
  · rintro ⟨a, b⟩
    exact List.mem_map.mpr ⟨x.toNat, List.mem_range.mpr (by omega), by omega⟩
theorem inb_cnt : ∀ bs : List (Option Int), (inb bs).length + bs.count none = bs.length
  | [] => rfl
  | none :: bs => by
    have := inb_cnt bs
    show (inb bs).length + (none :: bs).count none = bs.length + 1
    rw [List.count_cons_self]; omega
  | some x :: bs => by
    have := inb_cnt bs
    show (inb bs).length + 1 + (some x :: bs).count none = bs.length + 1
    rw [List.count_cons_of_ne (by simp)]; omega
theorem Iv.nd {n : Nat} {s : Sh} (h : Iv n s) : s.2.Nodup := ((h.all.nodup_iff.mpr (itg_nd n)).sublist (List.sublist_append_right _ _))
theorem Iv.cnt {n : Nat} {s : Sh} (h : Iv n s) : s.1.count none = s.2.length := by
  have a := inb_cnt s.1
  have b := h.all.length_eq
  rw [List.length_append, itg_len] at b
  have := h.len
  omega
theorem Iv.gap {n : Nat} {s : Sh} (h : Iv n s) (ne : s.2 ≠ []) : none ∈ s.1 := by
  refine List.count_pos_iff.mp ?_
  rw [h.cnt]
  exact List.length_pos_iff.mpr ne
theorem inb_all : ∀ (n : Nat), inb (allO n) = itg n := by
  intro n
  unfold inb allO itg
  rw [List.filterMap_map]
  induction (List.range n) with
  | nil => rfl
  | cons a l ih => rw [List.filterMap_cons]; simp only [Function.comp, id]; rw [ih]; rfl
theorem Iv.start (n : Nat) : Iv n (allO n, []) := ⟨by unfold allO; rw [List.length_map, List.length_range], by rw [inb_all, List.append_nil]⟩
theorem inb_set_none : ∀ {bs : List (Option Int)} {p : Nat} {i : Int}, bs[p]? = some (some i) → (i :: inb (bs.set p none)).Perm (inb bs)
  | none :: bs, 0, i, h => by cases h
  | some x :: bs, 0, i, h => by cases h; exact .refl _
  | none :: bs, p + 1, i, h => inb_set_none (bs := bs) (by simpa using h)
  | some x :: bs, p + 1, i, h => by
    have := inb_set_none (bs := bs) (p := p) (i := i) (by simpa using h)
    exact (List.Perm.swap x i _).trans (this.cons x)
theorem inb_set_some : ∀ {bs : List (Option Int)} {p : Nat} {i : Int}, bs[p]? = some none → (inb (bs.set p (some i))).Perm (i :: inb bs)
  | none :: bs, 0, i, h => .refl _
  | some x :: bs, 0, i, h => by cases h
  | none :: bs, p + 1, i, h => inb_set_some (bs := bs) (by simpa using h)
  | some x :: bs, p + 1, i, h => by
    have := inb_set_some (bs := bs) (p := p) (i := i) (by simpa using h)
    exact (this.cons x).trans (List.Perm.swap i x _)
theorem Iv.step {n : Nat} {s : Sh} {o : Op} (h : Iv n s) (ok : OpOk s o) : Iv n (stepO s o) := by
  obtain ⟨bs, tk⟩ := s
  obtain ⟨k, x⟩ := o
  have h1 : bs.length = n := h.len
  have h2 : (inb bs ++ tk).Perm (itg n) := h.all
  cases k with
  | true =>
    obtain ⟨p, i, e, hp⟩ : ∃ (p : Nat) (i : Int), x = p ∧ bs[p]? = some (some i) := ok
    subst e
    refine ⟨by show (bs.set _ none).length = n; rw [List.length_set]; exact h1, ?_⟩
    show (inb (bs.set p none) ++ (tk ++ [(bs.getD p none).getD 0])).Perm (itg n)
    rw [List.getD_eq_getElem?_getD, hp]
    show (inb (bs.set p none) ++ (tk ++ [i])).Perm (itg n)
    have := inb_set_none hp
    refine List.Perm.trans ?_ h2
    rw [← List.append_assoc]
    refine (List.perm_append_singleton i _).trans ?_
    exact this.append_right tk
  | false =>
    obtain ⟨h0, hm, hn⟩ : 0 ≤ x ∧ x ∈ tk ∧ none ∈ bs := ok
    refine ⟨by show (bs.set _ (some x)).length = n; rw [List.length_set]; exact h1, ?_⟩
    show (inb (bs.set (fg bs) (some x)) ++ tk.erase x).Perm (itg n)
    have := inb_set_some (i := x) (fg_at hn).1
    refine List.Perm.trans ?_ h2
    refine (this.append_right _).trans ?_
    refine List.perm_middle.symm.trans ?_
    exact (List.perm_cons_erase hm).symm.append_left _
theorem runP_iv {n : Nat} {ops : List Op} (h : VldO n ops) : ∀ i, i ≤ ops.length → Iv n (runP n (ops.take i)).1
  | 0, _ => by rw [List.take_zero]; exact Iv.start n
  | i + 1, hi => by
    rw [runP_succ (by omega)]
    exact (runP_iv h i (by omega)).step (h i (by omega))
theorem erase_at {tk : List Int} (h : tk.Nodup) {d : Nat} (hd : d < tk.length) : tk.erase tk[d] = tk.eraseIdx d := by
  rw [List.erase_eq_eraseIdx_of_idxOf (i := d) (by rw [h.idxOf_getElem])]
theorem VldO.snoc {n : Nat} {ops : List Op} {o : Op} (h : VldO n ops) (ok : OpOk (runP n ops).1 o) : VldO n (ops ++ [o]) := by
  intro i hi
  by_cases hl : i < ops.length
  · rw [List.take_append_of_le_length (by omega), List.getElem_append_left hl]
    exact h i hl
  · have e : i = ops.length := by rw [List.length_append, List.length_singleton] at hi; omega
    subst e
    rw [List.take_append_of_le_length (Nat.le_refl _), List.take_length, List.getElem_append_right (Nat.le_refl _)]
    simp only [Nat.sub_self, List.getElem_cons_zero]
    exact ok
theorem runP_snoc (n : Nat) (ops : List Op) (o : Op) : runP n (ops ++ [o]) = stepP (runP n ops) o := by
  unfold runP
  rw [List.foldl_append]
  rfl

/-! ### whole schedules (no program here) -/
theorem perm_le_eq : ∀ {xs ys : List Int}, xs.Perm ys → xs.Pairwise (· ≤ ·) → ys.Pairwise (· ≤ ·) → xs = ys
  | [], ys, h, _, _ => (List.Perm.nil_eq h)
  | x :: xs, [], h, _, _ => absurd h.length_eq (by simp)
  | x :: xs, y :: ys, h, hx, hy => by
    obtain ⟨x1, x2⟩ := List.pairwise_cons.mp hx
    obtain ⟨y1, y2⟩ := List.pairwise_cons.mp hy
    have a : x ≤ y := by
      rcases List.mem_cons.mp (h.mem_iff.mpr (List.mem_cons_self ..)) with e | e
      · exact Int.le_of_eq e.symm
      · exact x1 _ e
    have b : y ≤ x := by
      rcases List.mem_cons.mp (h.mem_iff.mp (List.mem_cons_self ..)) with e | e
      · exact Int.le_of_eq e.symm
      · exact y1 _ e
    obtain rfl := Int.le_antisymm a b
    exact congrArg (x :: ·) (perm_le_eq ((List.perm_cons x).mp h) x2 y2)
theorem itg_le (n : Nat) : (itg n).Pairwise (· ≤ ·) := by
  unfold itg
  refine List.Pairwise.map _ (fun a b (h : a ≤ b) => Int.ofNat_le.mpr h) ?_
  exact List.pairwise_le_range
theorem rgV_itg (n : Nat) : rgV 0 (n : Int) = vI (itg n) := by
  unfold rgV vI itg
  rw [List.map_map, show ((n : Int) - 0).toNat = n by omega]
  exact List.map_congr_left fun i _ => by show V.int (0 + (i : Int)) = V.int ((i : Nat) : Int); rw [Int.zero_add]
theorem fold_fil : ∀ (ops : List Op) (s : Sh × List Int × Int), ∃ t, (ops.foldl stepP s).2.1 = s.2.1 ++ t ∧ t.length = (ops.filter fun o => !o.k).length
  | [], s => ⟨[], by simp⟩
  | o :: ops, s => by
    obtain ⟨t, h1, h2⟩ := fold_fil ops (stepP s o)
    rw [List.foldl_cons, h1]
    obtain ⟨k, x⟩ := o
    cases k with
    | true => exact ⟨t, rfl, h2⟩
    | false => exact ⟨((fg s.1.1 : Nat) : Int) :: t, by show (s.2.1 ++ [_]) ++ t = _; rw [List.append_assoc]; rfl, by show _ = (_ :: _).length; rw [List.length_cons, List.length_cons, h2]⟩
theorem fil_pre (n : Nat) (ops : List Op) (c : Nat) : (runP n ops).2.1.take (runP n (ops.take c)).2.1.length = (runP n (ops.take c)).2.1 := by
  obtain ⟨t, h, _⟩ := fold_fil (ops.drop c) (runP n (ops.take c))
  have e : runP n ops = (ops.drop c).foldl stepP (runP n (ops.take c)) := by
    unfold runP
    rw [← List.foldl_append, List.take_append_drop]
  rw [e, h, List.take_left']
  rfl
theorem fil_len (n : Nat) (ops : List Op) : (runP n ops).2.1.length = (ops.filter fun o => !o.k).length := by
  obtain ⟨t, h1, h2⟩ := fold_fil ops ((allO n, []), [], 0)
  unfold runP
  rw [h1, List.nil_append, h2]
theorem fold_most : ∀ (ops : List Op) (s : Sh × List Int × Int), s.2.2 ≤ (ops.foldl stepP s).2.2 ∧ ((s.1.2.length : Int) ≤ s.2.2 → ((ops.foldl stepP s).1.2.length : Int) ≤ (ops.foldl stepP s).2.2)
  | [], s => ⟨Int.le_refl _, id⟩
  | o :: ops, s => by
    obtain ⟨h1, h2⟩ := fold_most ops (stepP s o)
    rw [List.foldl_cons]
    have a : s.2.2 ≤ (stepP s o).2.2 ∧ ((stepP s o).1.2.length : Int) ≤ (stepP s o).2.2 := by
      show s.2.2 ≤ (if _ then _ else _) ∧ (((stepO s.1 o).2.length : Nat) : Int) ≤ (if _ then _ else _)
      split <;> omega
    exact ⟨Int.le_trans a.1 h1, fun _ => h2 a.2⟩
theorem most_pre (n : Nat) (ops : List Op) (c : Nat) : (runP n (ops.take c)).2.2 ≤ (runP n ops).2.2 ∧ ((runP n (ops.take c)).1.2.length : Int) ≤ (runP n ops).2.2 := by
  have e : runP n ops = (ops.drop c).foldl stepP (runP n (ops.take c)) := by
    unfold runP
    rw [← List.foldl_append, List.take_append_drop]
  have h := (fold_most (ops.drop c) (runP n (ops.take c))).1
  have h2 := (fold_most (ops.take c) ((allO n, []), [], 0)).2 (Int.le_refl _)
  rw [← e] at h
  exact ⟨h, Int.le_trans h2 h⟩
theorem fg_app {bs : List (Option Int)} {x : Option Int} (h : none ∈ bs) : fg (bs ++ [x]) = fg bs := by
  unfold fg
  rw [List.idxOf_append, if_pos h]
theorem OpOk.app {bs : List (Option Int)} {tk : List Int} {o : Op} (h : OpOk (bs, tk) o) (y : Int) : OpOk (bs ++ [some y], tk) o := by
  obtain ⟨k, x⟩ := o
  cases k with
  | true =>
    obtain ⟨p, i, e, hp⟩ : ∃ (p : Nat) (i : Int), x = p ∧ bs[p]? = some (some i) := h
    exact ⟨p, i, e, by show (bs ++ [some y])[p]? = _; rw [List.getElem?_append_left (List.getElem?_eq_some_iff.mp hp).1]; exact hp⟩
  | false =>
    obtain ⟨h0, hm, hn⟩ : 0 ≤ x ∧ x ∈ tk ∧ none ∈ bs := h
    exact ⟨h0, hm, List.mem_append_left _ hn⟩
theorem stepP_app {bs : List (Option Int)} {tk : List Int} {r : List Int × Int} {o : Op} (h : OpOk (bs, tk) o) (y : Int) :
    stepP ((bs ++ [some y], tk), r) o = (((stepP ((bs, tk), r) o).1.1 ++ [some y], (stepP ((bs, tk), r) o).1.2), (stepP ((bs, tk), r) o).2) := by
  obtain ⟨k, x⟩ := o
  cases k with
  | true =>
    obtain ⟨p, i, e, hp⟩ : ∃ (p : Nat) (i : Int), x = p ∧ bs[p]? = some (some i) := h
    subst e
    have hl : p < bs.length := (List.getElem?_eq_some_iff.mp hp).1
    have e1 : stepO (bs ++ [some y], tk) ⟨true, ((p : Nat) : Int)⟩ = (bs.set p none ++ [some y], tk ++ [i]) := by
      show ((bs ++ [some y]).set p none, tk ++ [((bs ++ [some y]).getD p none).getD 0]) = _
      rw [List.getD_eq_getElem?_getD, List.getElem?_append_left hl, hp, List.set_append_left _ _ hl]
      rfl
    have e2 : stepO (bs, tk) ⟨true, ((p : Nat) : Int)⟩ = (bs.set p none, tk ++ [i]) := by
      show (bs.set p none, tk ++ [(bs.getD p none).getD 0]) = _
      rw [List.getD_eq_getElem?_getD, hp]
      rfl
    unfold stepP
    rw [e1, e2]
    rfl
  | false =>
    obtain ⟨h0, hm, hn⟩ : 0 ≤ x ∧ x ∈ tk ∧ none ∈ bs := h
    have hf := fg_app (x := some y) hn
    have hl : fg bs < bs.length := (List.getElem?_eq_some_iff.mp (fg_at hn).1).1
    have e1 : stepO (bs ++ [some y], tk) ⟨false, x⟩ = (bs.set (fg bs) (some x) ++ [some y], tk.erase x) := by
      show ((bs ++ [some y]).set (fg (bs ++ [some y])) (some x), tk.erase x) = _
      rw [hf, List.set_append_left _ _ hl]
    have e2 : stepO (bs, tk) ⟨false, x⟩ = (bs.set (fg bs) (some x), tk.erase x) := rfl
    unfold stepP
    rw [e1, e2]
    show (_, (r.1 ++ [((fg (bs ++ [some y]) : Nat) : Int)], _)) = _
    rw [hf]
    rfl
theorem allO_succ (n : Nat) : allO (n + 1) = allO n ++ [some ((n : Nat) : Int)] := by
  unfold allO
  rw [List.range_succ, List.map_append]
  rfl
/-- a longer shelf has the same run, and its last book -/
theorem longer {n : Nat} {ops : List Op} (h : VldO n ops) : ∀ i, i ≤ ops.length → runP (n + 1) (ops.take i) = (((runP n (ops.take i)).1.1 ++ [some ((n : Nat) : Int)], (runP n (ops.take i)).1.2), (runP n (ops.take i)).2)
  | 0, _ => by
    rw [List.take_zero]
    show ((allO (n + 1), []), [], 0) = _
    rw [allO_succ]
    rfl
  | i + 1, hi => by
    rw [runP_succ (by omega), runP_succ (by omega), longer h i (by omega)]
    exact stepP_app (h i (by omega)) _
theorem VldO.longer {n : Nat} {ops : List Op} (h : VldO n ops) : VldO (n + 1) ops := by
  intro i hi
  rw [My.longer h i (by omega)]
  exact OpOk.app (h i hi) _
theorem last_two {n : Nat} {ops : List Op} (h : VldO n ops) {p : Nat} {i : Int} (hp : (runP n ops).1.1[p]? = some (some i)) :
    VldO n (ops ++ [⟨true, ((p : Nat) : Int)⟩] ++ [⟨false, i⟩]) ∧ (runP n (ops ++ [⟨true, ((p : Nat) : Int)⟩] ++ [⟨false, i⟩])).2.1 = (runP n ops).2.1 ++ [((fg ((runP n ops).1.1.set p none) : Nat) : Int)] := by
  have iv : Iv n (runP n ops).1 := by have := runP_iv h ops.length (Nat.le_refl _); rwa [List.take_length] at this
  have v1 : VldO n (ops ++ [⟨true, ((p : Nat) : Int)⟩]) := h.snoc ⟨p, i, rfl, hp⟩
  have e1 : runP n (ops ++ [⟨true, ((p : Nat) : Int)⟩]) = stepP (runP n ops) ⟨true, ((p : Nat) : Int)⟩ := runP_snoc ..
  have e2 : stepO (runP n ops).1 ⟨true, ((p : Nat) : Int)⟩ = ((runP n ops).1.1.set p none, (runP n ops).1.2 ++ [i]) := by
    show ((runP n ops).1.1.set p none, (runP n ops).1.2 ++ [((runP n ops).1.1.getD p none).getD 0]) = _
    rw [List.getD_eq_getElem?_getD, hp]
    rfl
  have hl : p < (runP n ops).1.1.length := (List.getElem?_eq_some_iff.mp hp).1
  have i0 : 0 ≤ i := (mem_itg.mp (iv.all.mem_iff.mp (List.mem_append_left _ (List.mem_filterMap.mpr ⟨some i, List.mem_of_getElem? hp, rfl⟩)))).1
  have e3 : (runP n (ops ++ [⟨true, ((p : Nat) : Int)⟩])).1 = ((runP n ops).1.1.set p none, (runP n ops).1.2 ++ [i]) := by
    rw [e1]; exact e2
  refine ⟨v1.snoc ?_, ?_⟩
  · rw [e3]
    exact ⟨i0, List.mem_append_right _ (List.mem_singleton.mpr rfl), List.mem_of_getElem? (List.getElem?_set_self hl)⟩
  · rw [runP_snoc]
    show (runP n (ops ++ [⟨true, ((p : Nat) : Int)⟩])).2.1 ++ [((fg (runP n (ops ++ [⟨true, ((p : Nat) : Int)⟩])).1.1 : Nat) : Int)] = _
    rw [e3, e1]
    rfl
/-- places without a book -/
def gapsF (bs : List (Option Int)) (n : Nat) : List Int := ((List.range n).filter fun j => decide (bs[j]? = some none)).map fun j => ((j : Nat) : Int)
theorem least_gap {bs : List (Option Int)} {n p : Nat} (hl : bs.length = n) (hp : p < n) : minI (((p : Nat) : Int) :: gapsF bs n) = ((fg (bs.set p none) : Nat) : Int) := by
  have hn : none ∈ bs.set p none := List.mem_of_getElem? (List.getElem?_set_self (by omega))
  obtain ⟨g1, g2⟩ := fg_at hn
  have gl := (List.getElem?_eq_some_iff.mp g1).1
  rw [List.length_set] at gl
  generalize fg (bs.set p none) = g at *
  have m1 := minI_mem (ns := ((p : Nat) : Int) :: gapsF bs n) (by simp)
  have m2 : ∀ y ∈ ((p : Nat) : Int) :: gapsF bs n, minI (((p : Nat) : Int) :: gapsF bs n) ≤ y := fun y hy => minI_le hy
  generalize minI (((p : Nat) : Int) :: gapsF bs n) = m at *
  have a : m ≤ ((g : Nat) : Int) := by
    refine m2 _ ?_
    by_cases e : g = p
    · rw [e]; exact List.mem_cons_self ..
    · refine List.mem_cons_of_mem _ (List.mem_map.mpr ⟨g, List.mem_filter.mpr ⟨List.mem_range.mpr (by omega), ?_⟩, rfl⟩)
      rw [List.getElem?_set_ne (fun z => e z.symm)] at g1
      simp [g1]
  have b : ∃ j : Nat, m = ((j : Nat) : Int) ∧ (bs.set p none)[j]? = some none := by
    rcases List.mem_cons.mp m1 with e | e
    · exact ⟨p, e, List.getElem?_set_self (by omega)⟩
    · obtain ⟨j, hj, rfl⟩ := List.mem_map.mp e
      obtain ⟨j1, j2⟩ := List.mem_filter.mp hj
      refine ⟨j, rfl, ?_⟩
      by_cases z : j = p
      · rw [z]; exact List.getElem?_set_self (by omega)
      · rw [List.getElem?_set_ne (fun w => z w.symm)]
        exact of_decide_eq_true j2
  obtain ⟨j, rfl, hj⟩ := b
  have : ¬ j < g := fun z => g2 j z hj
  omega

/-! ### operations as data -/
theorem fg_lt {bs : List (Option Int)} (h : none ∈ bs) : fg bs < bs.length := (List.getElem?_eq_some_iff.mp (fg_at h).1).1
/-- all numbers of a valid schedule are below its size -/
theorem opx_lt {n : Nat} {ops : List Op} (h : VldO n ops) {i : Nat} (hi : i < ops.length) : 0 ≤ ops[i].x ∧ ops[i].x < n := by
  have iv := runP_iv h i (by omega)
  have ok := h i hi
  generalize ops[i] = o at *
  obtain ⟨k, x⟩ := o
  generalize (runP n (ops.take i)).1 = R at *
  obtain ⟨bs, tk⟩ := R
  cases k with
  | true =>
    obtain ⟨p, j, e, hp⟩ : ∃ (p : Nat) (i : Int), x = p ∧ bs[p]? = some (some i) := ok
    have := (List.getElem?_eq_some_iff.mp hp).1
    have := iv.len
    show 0 ≤ x ∧ x < n
    have e2 : bs.length = n := iv.len
    omega
  | false =>
    obtain ⟨h0, hm, hn⟩ : 0 ≤ x ∧ x ∈ tk ∧ none ∈ bs := ok
    exact mem_itg.mp (iv.all.mem_iff.mp (List.mem_append_right _ hm))
theorem ops_lt {n : Nat} {ops : List Op} (h : VldO n ops) : ∀ o ∈ ops, 0 ≤ o.x ∧ o.x < n := fun o ho => by
  obtain ⟨i, hi, rfl⟩ := List.getElem_of_mem ho
  exact opx_lt h hi
theorem shows_ltn {x : Int} {n : Nat} (h : 0 ≤ x ∧ x ≤ n) (hn : n ≤ 200) : Shows (.int x) 0 6 := shows_int (by decide) (by decide) h.1 (Int.lt_of_le_of_lt (show x ≤ 200 by omega) (by decide))
theorem _root_.Lx.Shows.le {d : PyData} {k m k' m' : Nat} (h : Shows d k m) (a : k ≤ k') (b : m ≤ m') : Shows d k' m' := ⟨h.s, h.n, Nat.le_trans h.k a, Nat.le_trans h.z b⟩
theorem shows_opN (k : Bool) : Shows (.str (opN k)) 0 10 := by
  cases k
  · exact ⟨by decide +kernel, by decide +kernel, by decide +kernel, by decide +kernel⟩
  · exact ⟨by decide +kernel, by decide +kernel, by decide +kernel, by decide +kernel⟩
/-- rows, dressed in any way, as data -/
theorem rows_data {H : Hp} {p : Addr} {as : List Addr} {ops : List Op} {n : Nat} (h : RowsIn H p as ops) (hx : ∀ o ∈ ops, 0 ≤ o.x ∧ o.x < n) (hn : n ≤ 200) (ol : ops.length ≤ 400) (K : PySem.W.Frag) : ∃ d, Shows d 2 20000 ∧ ∀ H', Same H H' → Dp K H' (.ref p) d := by
  have key : ∀ (i : Nat) (a : Addr), as[i]? = some a → ∃ d, Shows d 1 30 ∧ ∀ H', Same H H' → Dp K H' (.ref a) d := fun i a e => by
    have hi : i < ops.length := by rw [← h.2.1]; exact (List.getElem?_eq_some_iff.mp e).1
    have hb := hx _ (List.getElem_mem hi)
    have sds : ∀ d ∈ [PyData.str (opN ops[i].k), .int ops[i].x], Shows d 0 10 := fun d hd => by
      rcases List.mem_cons.mp hd with rfl | hd
      · exact shows_opN _
      · rw [List.mem_singleton] at hd
        subst hd
        exact (shows_ltn (n := n) (by omega) hn).le (Nat.le_refl _) (by decide)
    have hv := h.2.2 i a _ e (List.getElem?_eq_getElem hi)
    rcases hv with hv | hv
    · exact ⟨.list [.str (opN ops[i].k), .int ops[i].x], (shows_list (n := 2) sds (Nat.le_refl _)).le (Nat.le_refl _) (by decide), fun H' s => .lst (lst_of (s _ _ hv)) (.cons (.str _) (.cons (.int _) .nil))⟩
    · exact ⟨.tuple [.str (opN ops[i].k), .int ops[i].x], (shows_tup (n := 2) sds (Nat.le_refl _)).le (Nat.le_refl _) (by decide), fun H' s => .tup (tup_of (s _ _ hv)) (.cons (.str _) (.cons (.int _) .nil))⟩
  have all : ∀ (bs : List Addr), (∀ b ∈ bs, ∃ d, Shows d 1 30 ∧ ∀ H', Same H H' → Dp K H' (.ref b) d) → ∃ ds : List PyData, ds.length = bs.length ∧ (∀ d ∈ ds, Shows d 1 30) ∧ ∀ H', Same H H' → DpAll K H' (bs.map V.ref) ds := fun bs => by
    induction bs with
    | nil => exact fun _ => ⟨[], rfl, (fun d hd => by cases hd), fun H' s => DpAll.nil⟩
    | cons b bs ih =>
      intro hb
      obtain ⟨d, d1, d2⟩ := hb b (List.mem_cons_self ..)
      obtain ⟨ds, e1, e2, e3⟩ := ih fun x hx => hb x (List.mem_cons_of_mem _ hx)
      refine ⟨d :: ds, congrArg (· + 1) e1, fun x hx => ?_, fun H' s => .cons (d2 H' s) (e3 H' s)⟩
      rcases List.mem_cons.mp hx with rfl | hx
      · exact d1
      · exact e2 x hx
  obtain ⟨ds, e1, e2, e3⟩ := all as fun b hb => by
    obtain ⟨i, hi, rfl⟩ := List.getElem_of_mem hb
    exact key i _ (List.getElem?_eq_getElem hi)
  have dl : ds.length ≤ 400 := by rw [e1, h.2.1]; exact ol
  rcases h.1 with hp | hp
  · exact ⟨.list ds, (shows_list e2 dl).le (Nat.le_refl _) (by decide), fun H' s => .lst (lst_of (s _ _ hp)) (e3 H' s)⟩
  · exact ⟨.tuple ds, (shows_tup e2 dl).le (Nat.le_refl _) (by decide), fun H' s => .tup (tup_of (s _ _ hp)) (e3 H' s)⟩
def opD (o : Op) : PyData := .tuple [.str (opN o.k), .int o.x]
theorem tr_op {G : Addr → Prop} {H : Hp} {v : V} {o : Op} (h : Tr G H v (opD o)) : ∃ a, v = .ref a ∧ G a ∧ H a = some (.tup (opV o)) := by
  unfold opD at h
  cases h with
  | tup h g _ t =>
    cases t with
    | cons t1 t =>
      cases t with
      | cons t2 t =>
        cases t
        cases t1
        cases t2
        exact ⟨_, rfl, g, h⟩
theorem trs_ops {G : Addr → Prop} {H : Hp} : ∀ {vs : List V} {ops : List Op}, TrAll G H vs (ops.map opD) → ∃ as : List Addr, vs = as.map V.ref ∧ as.length = ops.length ∧ ∀ (i : Nat) (a : Addr) (o : Op), as[i]? = some a → ops[i]? = some o → G a ∧ H a = some (.tup (opV o))
  | [], [], _ => ⟨[], rfl, rfl, fun i a o e _ => by simp at e⟩
  | v :: vs, o :: ops, .cons t ts => by
    obtain ⟨a, rfl, g, ha⟩ := tr_op t
    obtain ⟨as, rfl, l, hi⟩ := trs_ops ts
    refine ⟨a :: as, rfl, congrArg (· + 1) l, fun i b q e1 e2 => ?_⟩
    cases i with
    | zero => cases e1; cases e2; exact ⟨g, ha⟩
    | succ i => exact hi i b q (by simpa using e1) (by simpa using e2)
/-- a list of tuples of operations -/
theorem tr_ops {G : Addr → Prop} {H : Hp} {p : Addr} {ops : List Op} (h : Tr G H (.ref p) (.list (ops.map opD))) : ∃ as : List Addr, H p = some (.lst (as.map V.ref)) ∧ G p ∧ as.length = ops.length ∧ ∀ (i : Nat) (a : Addr) (o : Op), as[i]? = some a → ops[i]? = some o → G a ∧ H a = some (.tup (opV o)) := by
  cases h with
  | lst h g _ t =>
    obtain ⟨as, rfl, l, hi⟩ := trs_ops t
    exact ⟨as, h, g, l, hi⟩
theorem ops_tr {G : Addr → Prop} {H : Hp} {p : Addr} {as : List Addr} {ops : List Op} (hp : H p = some (.lst (as.map V.ref))) (g : G p) (l : as.length = ops.length) (ol : ops.length ≤ 1000) (hi : ∀ (i : Nat) (a : Addr) (o : Op), as[i]? = some a → ops[i]? = some o → G a ∧ H a = some (.tup (opV o))) : Tr G H (.ref p) (.list (ops.map opD)) := by
  refine .lst hp g (by rw [List.length_map]; omega) (TrAll.of (by rw [List.length_map, List.length_map]; exact l) fun i v d e1 e2 => ?_)
  rw [List.getElem?_map] at e1 e2
  cases ea : as[i]? with
  | none => rw [ea] at e1; cases e1
  | some a =>
    cases eo : ops[i]? with
    | none => rw [eo] at e2; cases e2
    | some o =>
      rw [ea] at e1
      rw [eo] at e2
      cases e1; cases e2
      obtain ⟨z1, z2⟩ := hi i a o ea eo
      exact .tup z2 z1 (by show 2 ≤ 100000; decide) (.cons (.str _) (.cons (.int _) .nil))
theorem tr_rows {G : Addr → Prop} {H : Hp} {p : Addr} {ops : List Op} (h : Tr G H (.ref p) (.list (ops.map opD))) : ∃ as, RowsIn H p as ops := by
  obtain ⟨as, h1, _, l, hi⟩ := tr_ops h
  exact ⟨as, .inl h1, l, fun i a o e1 e2 => .inr (hi i a o e1 e2).2⟩
theorem dr_op {G : Addr → Prop} {H : Hp} {v : V} {o : Op} {e : PyData} (d : Drs (opD o) e) (h : Tr G H v e) : ∃ a, v = .ref a ∧ G a ∧ Sq H a (opV o) := by
  have two : ∀ {es : List PyData} {xs : List V}, DrsAll [.str (opN o.k), .int o.x] es → TrAll G H xs es → xs = opV o := fun {es} {xs} hd ht => by
    cases hd with
    | cons d1 hd =>
      cases hd with
      | cons d2 hd =>
        cases hd
        cases d1
        cases d2
        cases ht with
        | cons t1 ht =>
          cases ht with
          | cons t2 ht =>
            cases ht
            cases t1
            cases t2
            rfl
  unfold opD at d
  cases d with
  | tl d =>
    cases h with
    | lst h g _ t => exact ⟨_, rfl, g, .inl (two d t ▸ h)⟩
  | tt d =>
    cases h with
    | tup h g _ t => exact ⟨_, rfl, g, .inr (two d t ▸ h)⟩
theorem drs_ops {G : Addr → Prop} {H : Hp} : ∀ {vs : List V} {ops : List Op} {es : List PyData}, DrsAll (ops.map opD) es → TrAll G H vs es → ∃ as : List Addr, vs = as.map V.ref ∧ as.length = ops.length ∧ ∀ (i : Nat) (a : Addr) (o : Op), as[i]? = some a → ops[i]? = some o → G a ∧ Sq H a (opV o)
  | [], [], _, _, _ => ⟨[], rfl, rfl, fun i a o e _ => by simp at e⟩
  | _ :: _, [], _, .nil, h => by cases h
  | [], _ :: _, _, .cons _ _, h => by cases h
  | v :: vs, o :: ops, _, .cons d ds, .cons t ts => by
    obtain ⟨a, rfl, g, ha⟩ := dr_op d t
    obtain ⟨as, rfl, l, hi⟩ := drs_ops ds ts
    refine ⟨a :: as, rfl, congrArg (· + 1) l, fun i b q e1 e2 => ?_⟩
    cases i with
    | zero => cases e1; cases e2; exact ⟨g, ha⟩
    | succ i => exact hi i b q (by simpa using e1) (by simpa using e2)
/-- .. dressed in any way -/
theorem dr_rows {G : Addr → Prop} {H : Hp} {v : V} {ops : List Op} {e : PyData} (d : Drs (.list (ops.map opD)) e) (h : Tr G H v e) : ∃ p as, v = .ref p ∧ G p ∧ RowsIn H p as ops ∧ ∀ a ∈ as, G a := by
  have fin : ∀ {xs : List V} {es : List PyData}, DrsAll (ops.map opD) es → TrAll G H xs es → ∃ as : List Addr, xs = as.map V.ref ∧ as.length = ops.length ∧ (∀ (i : Nat) (a : Addr) (o : Op), as[i]? = some a → ops[i]? = some o → Sq H a (opV o)) ∧ ∀ a ∈ as, G a := fun {xs} {es} hd ht => by
    obtain ⟨as, e, l, hi⟩ := drs_ops hd ht
    refine ⟨as, e, l, fun i a o e1 e2 => (hi i a o e1 e2).2, fun a ha => ?_⟩
    obtain ⟨i, hi', rfl⟩ := List.getElem_of_mem ha
    exact (hi i _ _ (List.getElem?_eq_getElem hi') (List.getElem?_eq_getElem (by omega))).1
  cases d with
  | ll d =>
    cases h with
    | lst h g _ t =>
      obtain ⟨as, rfl, l, hi, hg⟩ := fin d t
      exact ⟨_, as, rfl, g, ⟨.inl h, l, hi⟩, hg⟩
  | lt d =>
    cases h with
    | tup h g _ t =>
      obtain ⟨as, rfl, l, hi, hg⟩ := fin d t
      exact ⟨_, as, rfl, g, ⟨.inr h, l, hi⟩, hg⟩
theorem shows_ops {n : Nat} {ops : List Op} (h : ∀ o ∈ ops, 0 ≤ o.x ∧ o.x < n) (hn : n ≤ 200) (ol : ops.length ≤ 400) : Shows (.list (ops.map opD)) 2 20000 := by
  have one : ∀ d ∈ ops.map opD, Shows d 1 30 := fun d hd => by
    obtain ⟨o, ho, rfl⟩ := List.mem_map.mp hd
    have hb := h o ho
    exact (shows_tup (n := 2) (ds := [PyData.str (opN o.k), .int o.x]) (fun d hd => by
      rcases List.mem_cons.mp hd with rfl | hd
      · exact shows_opN _
      · rw [List.mem_singleton] at hd
        subst hd
        exact (shows_ltn (n := n) (by omega) hn).le (Nat.le_refl _) (by decide)) (Nat.le_refl _)).le (Nat.le_refl _) (by decide)
  exact (shows_list one (n := 400) (by rw [List.length_map]; exact ol)).le (Nat.le_refl _) (by decide)
theorem depth_ops (ops : List Op) : (PyData.list (ops.map opD)).depth < 3 := by
  show PyData.depthAll _ + 1 < 3
  have := depthAll_le (ds := ops.map opD) (m := 1) fun d hd => by
    obtain ⟨o, _, rfl⟩ := List.mem_map.mp hd
    exact Nat.le_refl _
  omega

/-! steps of a shelf (no program here) -/
structure Stp where
  k : Bool
  x : Int
  p : Int
  b : Int
  o : Int
def kd (k : Bool) : Str := if k then "take" else "return"
def stV (s : Stp) : List V := [.str (kd s.k), .int s.x, .int s.p, .int s.b, .int s.o]
def curD (s : Stp) : PyData := .tuple [.str (kd s.k), .int s.x]
/-- the places that are empty -/
def gaps (bs : List (Option Int)) : List Int := ((List.range bs.length).filter fun i => decide (bs[i]? = some none)).map fun i => ((i : Nat) : Int)
/-- where a book stands -/
def pof (bs : List (Option Int)) (i : Int) : V := match bs.findIdx? (fun x => decide (x = some i)) with
  | some j => .int ((j : Nat) : Int)
  | none => .non
theorem take_succ' {α : Type} {p : List α} {i : Nat} {b : α} (h : p[i]? = some b) : p.take (i + 1) = p.take i ++ [b] := by rw [List.take_add_one, h]; rfl

/-- a shelf's state as play makes it -/
structure St (n : Nat) (bs : List (Option Int)) (tk : List Int) : Prop where
  len : bs.length = n
  cnt : bs.count none = tk.length
  nd : tk.Nodup
  rt : ∀ i ∈ tk, 0 ≤ i ∧ i < n
  rb : ∀ i, some i ∈ bs → 0 ≤ i ∧ i < n
  off : ∀ i, some i ∈ bs → i ∉ tk
  inj : ∀ (p q : Nat) (i : Int), bs[p]? = some (some i) → bs[q]? = some (some i) → p = q
def allB (n : Nat) : List (Option Int) := (List.range n).map fun i => some ((i : Nat) : Int)
theorem allB_at {n i : Nat} (h : i < n) : (allB n)[i]? = some (some ((i : Nat) : Int)) := by
  unfold allB
  rw [List.getElem?_map, List.getElem?_range h]
  rfl
theorem St.init (n : Nat) : St n (allB n) [] := by
  have e : (allB n).length = n := by unfold allB; rw [List.length_map, List.length_range]
  refine ⟨e, ?_, .nil, fun i h => absurd h (by simp), fun i h => ?_, fun i _ h => absurd h (by simp), fun p q i hp hq => ?_⟩
  · rw [List.count_eq_zero.mpr]
    · rfl
    · intro h
      obtain ⟨j, _, e⟩ := List.mem_map.mp h
      cases e
  · obtain ⟨j, hj, e⟩ := List.mem_map.mp h
    cases e
    have := List.mem_range.mp hj
    constructor <;> omega
  · have lp := (List.getElem?_eq_some_iff.mp hp).1
    have lq := (List.getElem?_eq_some_iff.mp hq).1
    rw [allB_at (by omega)] at hp hq
    have h1 := Option.some.inj (Option.some.inj hp)
    have h2 := Option.some.inj (Option.some.inj hq)
    omega
theorem set_mem {bs : List (Option Int)} {p : Nat} {x y : Option Int} (h : y ∈ bs.set p x) : y = x ∨ y ∈ bs := by
  rcases List.mem_or_eq_of_mem_set h with h | h
  · exact .inr h
  · exact .inl h
theorem cnt_set : ∀ (bs : List (Option Int)) (p : Nat) (x y : Option Int), bs[p]? = some y → (bs.set p x).count none + (if y = none then 1 else 0) = bs.count none + (if x = none then 1 else 0)
  | [], p, x, y, h => by simp at h
  | z :: bs, 0, x, y, h => by
    have : z = y := Option.some.inj h
    subst this
    show (x :: bs).count none + _ = (z :: bs).count none + _
    rw [List.count_cons, List.count_cons]
    cases z <;> cases x <;> simp
  | z :: bs, p + 1, x, y, h => by
    have ih := cnt_set bs p x y h
    show (z :: bs.set p x).count none + _ = (z :: bs).count none + _
    rw [List.count_cons, List.count_cons]
    omega
theorem St.take {n : Nat} {bs : List (Option Int)} {tk : List Int} {p : Nat} {i : Int} (h : St n bs tk) (hp : bs[p]? = some (some i)) : St n (bs.set p none) (tk ++ [i]) := by
  have him : some i ∈ bs := List.mem_of_getElem? hp
  have hni := h.off i him
  have pl := (List.getElem?_eq_some_iff.mp hp).1
  have c := cnt_set bs p none (some i) hp
  have hcnt := h.cnt
  have at' : ∀ (q : Nat) (j : Int), (bs.set p none)[q]? = some (some j) → q ≠ p ∧ bs[q]? = some (some j) := by
    intro q j hq
    by_cases e : p = q
    · subst e
      rw [List.getElem?_set_self pl] at hq
      cases hq
    · rw [List.getElem?_set_ne e] at hq
      exact ⟨fun z => e z.symm, hq⟩
  refine ⟨by rw [List.length_set]; exact h.len, ?_, ?_, ?_, ?_, ?_, ?_⟩
  · rw [List.length_append, List.length_singleton]
    simp at c
    omega
  · rw [List.nodup_append]
    refine ⟨h.nd, by simp, fun a ha b hb e => ?_⟩
    rw [List.mem_singleton] at hb
    subst hb; subst e
    exact hni ha
  · intro j hj
    rcases List.mem_append.mp hj with hj | hj
    · exact h.rt j hj
    · rw [List.mem_singleton] at hj; subst hj; exact h.rb _ him
  · intro j hj
    rcases set_mem hj with e | hj
    · cases e
    · exact h.rb j hj
  · intro j hj hm
    obtain ⟨q, hq⟩ := List.mem_iff_getElem?.mp hj
    obtain ⟨hqp, hq⟩ := at' q j hq
    rcases List.mem_append.mp hm with hm | hm
    · exact h.off j (List.mem_of_getElem? hq) hm
    · rw [List.mem_singleton] at hm
      subst hm
      exact hqp (h.inj q p _ hq hp)
  · intro q q' j hq hq'
    exact h.inj q q' j (at' q j hq).2 (at' q' j hq').2
theorem St.gap {n : Nat} {bs : List (Option Int)} {tk : List Int} (h : St n bs tk) (ht : tk ≠ []) : none ∈ bs := by
  have := h.cnt
  have := List.length_pos_iff.mpr ht
  exact List.count_pos_iff.mp (by omega)
theorem St.full {n : Nat} {bs : List (Option Int)} {tk : List Int} (h : St n bs tk) (ht : tk = []) : none ∉ bs := by
  have := h.cnt
  rw [ht] at this
  exact List.count_eq_zero.mp this
theorem St.back {n : Nat} {bs : List (Option Int)} {tk : List Int} {p : Nat} {i : Int} (h : St n bs tk) (hp : bs[p]? = some none) (hi : i ∈ tk) : St n (bs.set p (some i)) (tk.erase i) := by
  have pl := (List.getElem?_eq_some_iff.mp hp).1
  have c := cnt_set bs p (some i) none hp
  have hcnt := h.cnt
  have tl := List.length_pos_of_mem hi
  have at' : ∀ (q : Nat) (j : Int), (bs.set p (some i))[q]? = some (some j) → (q = p ∧ j = i) ∨ (q ≠ p ∧ bs[q]? = some (some j)) := by
    intro q j hq
    by_cases e : p = q
    · subst e
      rw [List.getElem?_set_self pl] at hq
      cases hq
      exact .inl ⟨rfl, rfl⟩
    · rw [List.getElem?_set_ne e] at hq
      exact .inr ⟨fun z => e z.symm, hq⟩
  have no : ∀ q : Nat, bs[q]? ≠ some (some i) := fun q hq => h.off i (List.mem_of_getElem? hq) hi
  refine ⟨by rw [List.length_set]; exact h.len, ?_, h.nd.erase _, fun j hj => h.rt j (List.mem_of_mem_erase hj), ?_, ?_, ?_⟩
  · rw [List.length_erase_of_mem hi]
    simp at c
    omega
  · intro j hj
    rcases set_mem hj with e | hj
    · cases e; exact h.rt i hi
    · exact h.rb j hj
  · intro j hj hm
    obtain ⟨q, hq⟩ := List.mem_iff_getElem?.mp hj
    have hm2 := (h.nd.mem_erase_iff).mp hm
    rcases at' q j hq with ⟨_, e⟩ | ⟨_, hq⟩
    · exact hm2.1 e
    · exact h.off j (List.mem_of_getElem? hq) hm2.2
  · intro q q' j hq hq'
    rcases at' q j hq with ⟨e1, e2⟩ | ⟨e1, hq⟩
    · rcases at' q' j hq' with ⟨f1, f2⟩ | ⟨f1, hq'⟩
      · rw [e1, f1]
      · rw [e2] at hq'
        exact absurd hq' (no q')
    · rcases at' q' j hq' with ⟨f1, f2⟩ | ⟨f1, hq'⟩
      · rw [f2] at hq
        exact absurd hq (no q)
      · exact h.inj q q' j hq hq'

theorem kd_opN (k : Bool) : kd k = opN k := by cases k <;> rfl
def opsOf (dn : List Stp) : List Op := dn.map fun s => ⟨s.k, s.x⟩
theorem cur_ops (dn : List Stp) : dn.map curD = (opsOf dn).map opD := by
  unfold opsOf
  rw [List.map_map]
  exact List.map_congr_left fun s _ => by show PyData.tuple [.str (kd s.k), .int s.x] = .tuple [.str (opN s.k), .int s.x]; rw [kd_opN]
theorem iv_run {n : Nat} {ops : List Op} (h : VldO n ops) : Iv n (runP n ops).1 := by have := runP_iv h ops.length (Nat.le_refl _); rwa [List.take_length] at this
theorem step_take {n : Nat} {ops : List Op} {x i : Int} (h0 : 0 ≤ x) (hb : (runP n ops).1.1[x.toNat]? = some (some i)) :
    (runP n (ops ++ [⟨true, x⟩])).1 = ((runP n ops).1.1.set x.toNat none, (runP n ops).1.2 ++ [i]) ∧ OpOk (runP n ops).1 ⟨true, x⟩ := by
  rw [runP_snoc]
  refine ⟨?_, x.toNat, i, by show x = _; omega, hb⟩
  show ((runP n ops).1.1.set x.toNat none, (runP n ops).1.2 ++ [((runP n ops).1.1.getD x.toNat none).getD 0]) = _
  rw [List.getD_eq_getElem?_getD, hb]
  rfl
theorem step_back {n : Nat} {ops : List Op} {x : Int} (hv : VldO n ops) (hx : x ∈ (runP n ops).1.2) :
    (runP n (ops ++ [⟨false, x⟩])).1 = ((runP n ops).1.1.set (fg (runP n ops).1.1) (some x), (runP n ops).1.2.erase x) ∧ OpOk (runP n ops).1 ⟨false, x⟩ ∧ none ∈ (runP n ops).1.1 := by
  have iv := iv_run hv
  have hg := iv.gap (fun e => by rw [e] at hx; cases hx)
  have hm := mem_itg.mp (iv.all.mem_iff.mp (List.mem_append_right _ hx))
  rw [runP_snoc]
  exact ⟨rfl, ⟨hm.1, hx, hg⟩, hg⟩

/-! what was done tells the state -/
def step1 (s : List (Option Int) × List Int) (st : Stp) : List (Option Int) × List Int :=
  if st.k then (s.1.set st.p.toNat none, s.2 ++ [st.b]) else (s.1.set st.p.toNat (some st.b), s.2.erase st.b)
def runS (n : Nat) (dn : List Stp) : List (Option Int) × List Int := dn.foldl step1 (allB n, [])
theorem runS_app (n : Nat) (dn : List Stp) (st : Stp) : runS n (dn ++ [st]) = step1 (runS n dn) st := by
  unfold runS
  rw [List.foldl_append]
  rfl
/-- a step that may be done -/
def StepOk (s : List (Option Int) × List Int) (st : Stp) : Prop :=
  (∃ (p : Nat) (i : Int), st = ⟨true, p, p, i, ((s.2.length : Nat) : Int)⟩ ∧ s.1[p]? = some (some i)) ∨
  (∃ (p o : Nat) (i : Int), st = ⟨false, i, p, i, o⟩ ∧ s.1[p]? = some none ∧ s.2[o]? = some i ∧ ∀ m : Nat, m < o → s.2[m]? ≠ some i)
inductive Vld (n : Nat) : List Stp → Prop
  | nil : Vld n []
  | snoc {dn : List Stp} {st : Stp} : Vld n dn → StepOk (runS n dn) st → Vld n (dn ++ [st])
theorem Vld.pop {n : Nat} {dn : List Stp} {st : Stp} (h : Vld n (dn ++ [st])) : Vld n dn ∧ StepOk (runS n dn) st := by
  generalize e : dn ++ [st] = l at h
  cases h with
  | nil => exact absurd e (by simp)
  | snoc a b =>
    have e1 := List.append_inj_left' e rfl
    have e2 := List.append_inj_right' e rfl
    cases e1; cases e2
    exact ⟨a, b⟩
theorem StepOk.st {n : Nat} {s : List (Option Int) × List Int} {st : Stp} (h : St n s.1 s.2) (o : StepOk s st) : St n (step1 s st).1 (step1 s st).2 := by
  rcases o with ⟨p, i, rfl, hp⟩ | ⟨p, o, i, rfl, hp, ho, _⟩
  · show St n (s.1.set ((p : Nat) : Int).toNat none) (s.2 ++ [i])
    rw [Int.toNat_natCast]
    exact h.take hp
  · show St n (s.1.set ((p : Nat) : Int).toNat (some i)) (s.2.erase i)
    rw [Int.toNat_natCast]
    exact h.back hp (List.mem_of_getElem? ho)
theorem Vld.st {n : Nat} {dn : List Stp} (h : Vld n dn) : St n (runS n dn).1 (runS n dn).2 := by
  induction h with
  | nil => exact St.init n
  | snoc a b ih =>
    rw [runS_app]
    exact b.st ih
theorem Vld.take {n : Nat} {dn : List Stp} (h : Vld n dn) : ∀ i, Vld n (dn.take i) := by
  induction h with
  | nil => intro i; rw [List.take_nil]; exact .nil
  | snoc a b ih =>
    rename_i dn st
    intro i
    by_cases hi : i ≤ dn.length
    · rw [List.take_append_of_le_length hi]
      exact ih i
    · rw [List.take_of_length_le (by rw [List.length_append]; show dn.length + 1 ≤ i; omega)]
      exact .snoc a b

/-! ### steps as play makes them: each return to the least gap -/
inductive VlG (n : Nat) : List Stp → Prop
  | nil : VlG n []
  | snoc {dn : List Stp} {st : Stp} : VlG n dn → StepOk (runS n dn) st → (st.k = false → ∀ m : Nat, m < st.p.toNat → (runS n dn).1[m]? ≠ some none) → VlG n (dn ++ [st])
theorem VlG.vld {n : Nat} {dn : List Stp} (h : VlG n dn) : Vld n dn := by
  induction h with
  | nil => exact .nil
  | snoc _ b _ ih => exact .snoc ih b
theorem VlG.pop {n : Nat} {dn : List Stp} {st : Stp} (h : VlG n (dn ++ [st])) : VlG n dn ∧ StepOk (runS n dn) st := by
  generalize e : dn ++ [st] = l at h
  cases h with
  | nil => exact absurd e (by simp)
  | snoc a b c =>
    have e1 := List.append_inj_left' e rfl
    have e2 := List.append_inj_right' e rfl
    cases e1; cases e2
    exact ⟨a, b⟩
theorem opsOf_app (dn : List Stp) (st : Stp) : opsOf (dn ++ [st]) = opsOf dn ++ [⟨st.k, st.x⟩] := List.map_append
theorem opsOf_len (dn : List Stp) : (opsOf dn).length = dn.length := List.length_map ..
theorem fg_eq {bs : List (Option Int)} {p : Nat} (h : bs[p]? = some none) (no : ∀ m : Nat, m < p → bs[m]? ≠ some none) : fg bs = p := by
  obtain ⟨g1, g2⟩ := fg_at (List.mem_of_getElem? h)
  rcases Nat.lt_trichotomy (fg bs) p with z | z | z
  · exact absurd g1 (no _ z)
  · exact z
  · exact absurd h (g2 _ z)
theorem VlG.run {n : Nat} {dn : List Stp} (h : VlG n dn) : VldO n (opsOf dn) ∧ (runP n (opsOf dn)).1 = runS n dn := by
  induction h with
  | nil => exact ⟨fun i h => (by cases h), rfl⟩
  | snoc a b c ih =>
    rename_i dn st
    obtain ⟨hv, er⟩ := ih
    rw [opsOf_app, runS_app]
    rcases b with ⟨p, i, rfl, hp⟩ | ⟨p, o, i, rfl, hp, ho, _⟩
    · obtain ⟨e1, ok⟩ := step_take (n := n) (ops := opsOf dn) (x := ((p : Nat) : Int)) (i := i) (by omega) (by rw [er, Int.toNat_natCast]; exact hp)
      refine ⟨hv.snoc ok, e1.trans ?_⟩
      rw [er]
      rfl
    · obtain ⟨e1, ok, hg⟩ := step_back (n := n) (ops := opsOf dn) (x := i) hv (by rw [er]; exact List.mem_of_getElem? ho)
      refine ⟨hv.snoc ok, e1.trans ?_⟩
      have ef : fg (runS n dn).1 = p := fg_eq hp fun m hm => c rfl m (by show m < ((p : Nat) : Int).toNat; rwa [Int.toNat_natCast])
      rw [er, ef]
      rfl
theorem VlG.st {n : Nat} {dn : List Stp} (h : VlG n dn) : St n (runS n dn).1 (runS n dn).2 := h.vld.st
theorem VlG.take {n : Nat} {dn : List Stp} (h : VlG n dn) : ∀ i, VlG n (dn.take i) := by
  induction h with
  | nil => intro i; rw [List.take_nil]; exact .nil
  | snoc a b c ih =>
    rename_i dn st
    intro i
    by_cases hi : i ≤ dn.length
    · rw [List.take_append_of_le_length hi]
      exact ih i
    · rw [List.take_of_length_le (by rw [List.length_append]; show dn.length + 1 ≤ i; omega)]
      exact .snoc a b c

section
local macro_rules | `(tactic| walk_at "s") => `(tactic| repeat (first | walk_at "s1" | walk_at "s2" | walk_at "fld"))
abbrev SLiveShelf_d__init_d_ : Stmt := inClass (topS 25) 1
abbrev NLiveShelf_d__init_d_ : List Str := ["self", "size"]
theorem scLiveShelf_d__init_d_ : FnScope NLiveShelf_d__init_d_ ["self", "size"] (defScope SLiveShelf_d__init_d_) := ⟨rfl, rfl, rfl, by decide +kernel, rfl, by decide +kernel, by decide +kernel⟩
abbrev SLiveShelf_d__len_d_ : Stmt := inClass (topS 25) 4
abbrev NLiveShelf_d__len_d_ : List Str := ["self"]
theorem scLiveShelf_d__len_d_ : FnScope NLiveShelf_d__len_d_ ["self"] (defScope SLiveShelf_d__len_d_) := ⟨rfl, rfl, rfl, by decide +kernel, rfl, by decide +kernel, by decide +kernel⟩
abbrev SLiveShelf_take_book : Stmt := inClass (topS 25) 6
abbrev NLiveShelf_take_book : List Str := ["self", "place", "book"]
theorem scLiveShelf_take_book : FnScope NLiveShelf_take_book ["self", "place"] (defScope SLiveShelf_take_book) := ⟨rfl, rfl, rfl, by decide +kernel, rfl, by decide +kernel, by decide +kernel⟩
abbrev SLiveShelf_return_book : Stmt := inClass (topS 25) 7
abbrev NLiveShelf_return_book : List Str := ["self", "book", "order", "place"]
theorem scLiveShelf_return_book : FnScope NLiveShelf_return_book ["self", "book"] (defScope SLiveShelf_return_book) := ⟨rfl, rfl, rfl, by decide +kernel, rfl, by decide +kernel, by decide +kernel⟩
abbrev SLiveShelf_current_books : Stmt := inClass (topS 25) 9
abbrev NLiveShelf_current_books : List Str := ["self"]
theorem scLiveShelf_current_books : FnScope NLiveShelf_current_books ["self"] (defScope SLiveShelf_current_books) := ⟨rfl, rfl, rfl, by decide +kernel, rfl, by decide +kernel, by decide +kernel⟩
abbrev SLiveShelf_current_gaps : Stmt := inClass (topS 25) 10
abbrev NLiveShelf_current_gaps : List Str := ["self"]
theorem scLiveShelf_current_gaps : FnScope NLiveShelf_current_gaps ["self"] (defScope SLiveShelf_current_gaps) := ⟨rfl, rfl, rfl, by decide +kernel, rfl, by decide +kernel, by decide +kernel⟩
abbrev SLiveShelf_current_out : Stmt := inClass (topS 25) 11
abbrev NLiveShelf_current_out : List Str := ["self"]
theorem scLiveShelf_current_out : FnScope NLiveShelf_current_out ["self"] (defScope SLiveShelf_current_out) := ⟨rfl, rfl, rfl, by decide +kernel, rfl, by decide +kernel, by decide +kernel⟩
abbrev SLiveShelf_current_schedule : Stmt := inClass (topS 25) 13
abbrev NLiveShelf_current_schedule : List Str := ["self", "step"]
theorem scLiveShelf_current_schedule : FnScope NLiveShelf_current_schedule ["self"] (defScope SLiveShelf_current_schedule) := ⟨rfl, rfl, rfl, by decide +kernel, rfl, by decide +kernel, by decide +kernel⟩

/-! a live shelf -/
/-- a list at d of steps -/
def SL (H : Hp) (d : Addr) (dn : List Stp) : Prop := ∃ as : List Addr, H d = some (.lst (as.map V.ref)) ∧ as.length = dn.length ∧ ∀ (i : Nat) (a : Addr) (s : Stp), as[i]? = some a → dn[i]? = some s → H a = some (.tup (stV s))
theorem SL.same {H H' : Hp} {d : Addr} {dn : List Stp} (h : SL H d dn) (s : Same H H') : SL H' d dn := by
  obtain ⟨as, h1, h2, h3⟩ := h
  exact ⟨as, s _ _ h1, h2, fun i a p e1 e2 => s _ _ (h3 i a p e1 e2)⟩
theorem SL.set {H : Hp} {d x : Addr} {o : HO} {dn : List Stp} {ys : List V} (h : SL H d dn) (n : d ≠ x) (hx : H x = some (.lst ys)) : SL (L2.upd H x o) d dn := by
  obtain ⟨as, h1, h2, h3⟩ := h
  refine ⟨as, (upd_ne n).trans h1, h2, fun i a p e1 e2 => ?_⟩
  have z := h3 i a p e1 e2
  have ne : a ≠ x := fun e => by rw [e, hx] at z; cases z
  exact (upd_ne ne).trans z
theorem SL.kpl {H H' : Hp} {d : Addr} {L : List Addr} {dn : List Stp} (h : SL H d dn) (k : KpL L H H') (n : d ∉ L) (hL : ∀ x ∈ L, ∃ ys, H x = some (.lst ys)) : SL H' d dn := by
  obtain ⟨as, h1, h2, h3⟩ := h
  refine ⟨as, k _ _ n h1, h2, fun i a p e1 e2 => ?_⟩
  have z := h3 i a p e1 e2
  exact k _ _ (fun m => by obtain ⟨ys, hy⟩ := hL a m; rw [hy] at z; cases z) z
theorem SL.app {H : Hp} {d t : Addr} {dn : List Stp} {s : Stp} (h : SL H d dn) (ht : H t = some (.tup (stV s))) :
    ∃ xs, H d = some (.lst xs) ∧ xs.length = dn.length ∧ SL (L2.upd H d (.lst (xs ++ [.ref t]))) d (dn ++ [s]) := by
  obtain ⟨as, h1, h2, h3⟩ := h
  refine ⟨as.map V.ref, h1, by rw [List.length_map, h2], as ++ [t], ?_, by simp [h2], fun i a q e1 e2 => ?_⟩
  · rw [upd_same, List.map_append]; rfl
  · have key : ∀ b q, H b = some (.tup (stV q)) → L2.upd H d (.lst (as.map V.ref ++ [.ref t])) b = some (.tup (stV q)) := by
      intro b q z
      have ne : b ≠ d := fun e => by rw [e, h1] at z; cases z
      exact (upd_ne ne).trans z
    by_cases hi : i < as.length
    · rw [List.getElem?_append_left hi] at e1
      rw [List.getElem?_append_left (by omega)] at e2
      exact key a q (h3 i a q e1 e2)
    · have hi' : i = as.length := by
        have := (List.getElem?_eq_some_iff.mp e1).1
        rw [List.length_append, List.length_singleton] at this
        omega
      subst hi'
      rw [List.getElem?_append_right (Nat.le_refl _), Nat.sub_self] at e1
      rw [List.getElem?_append_right (by omega), h2, Nat.sub_self] at e2
      cases e1; cases e2
      exact key t s ht
abbrev lvF (n : Int) (s d : Addr) : List (Str × V) := [("size", V.int n), ("shelf", V.ref s), ("done", V.ref d)]
structure LiveAt (CL CS : Addr) (H : Hp) (v s b t d : Addr) (n : Nat) (bs : List (Option Int)) (tk : List Int) (dn : List Stp) : Prop where
  ob : ∃ dx, H v = some (.ins CL dx (lvF n s d))
  sh : ShelfAt CS H s b t bs tk
  dn : SL H d dn
  nb : b ≠ d
  nt : t ≠ d
theorem LiveAt.same {CL CS : Addr} {H H' : Hp} {v s b t d : Addr} {n : Nat} {bs : List (Option Int)} {tk : List Int} {dn : List Stp} (h : LiveAt CL CS H v s b t d n bs tk dn) (k : Same H H') : LiveAt CL CS H' v s b t d n bs tk dn := by
  obtain ⟨⟨dx, h1⟩, h2, h3, h4, h5⟩ := h
  exact ⟨⟨dx, k _ _ h1⟩, h2.same k, h3.same k, h4, h5⟩
structure LvK (K : PySem.W.Frag) (C : Addr) : Prop where
  cl : Cls K C
  nz : NoAttr K C "size"
  ns : NoAttr K C "shelf"
  nd : NoAttr K C "done"
section
variable {P : Program} {w : World} {K : PySem.W.Frag} {mg : Str → Option Value} {base : Heap}
def spLvInit (CL CS : Addr) : Sp := fun vs H Q _ => ∃ (v dx : Addr) (n : Nat), vs = [.ref v, .int n] ∧ H v = some (.ins CL dx []) ∧ 1 ≤ n ∧ n ≤ 200 ∧ ∀ H' s b t d, KpL [v] H H' → H s = none → H b = none → H t = none → H d = none → LiveAt CL CS H' v s b t d n ((List.range n).map fun i => some ((i : Nat) : Int)) [] [] → Q .non H'
theorem ok_Live_init {CL CS f : Addr} {fd : FuncData} (B : Bn mg) (S : LvK K CL) (D_check_size : Df P w K mg base 2 "check_size" [] spCheckSize) (N_Shelf : Cn P w K mg base 1 "Shelf" CS [] (spShInit CS)) (F : Fun K "__init__" "LiveShelf.__init__" SLiveShelf_d__init_d_ f fd) : FnG P w K mg base 3 f fd ["self", "size"] (spLvInit CL CS) := by
  refine gok F scLiveShelf_d__init_d_ (fun vs H Q E h => ?_) (fun cdv A fs s H vs Q E hG hr h => ?_)
  · obtain ⟨_, _, _, rfl, _⟩ := h; rfl
  · obtain ⟨v, dv, n, rfl, hv, hn, hn2, q⟩ := h
    have hu := hr.units
    obtain ⟨cl, nz, ns, nd⟩ := S
    refine ⟨_, (pss_cons (ps_expr (pe_df D_check_size hG (hr.mono (by first | decide | omega)) passL (by rfl) (pa_cons (pv 1) pa_nil))) (pss_cons (ps_fld (pv 0) (pv 1) rfl) (pss_cons (ps_fld (pv 0) (pe_cn N_Shelf hG (hr.mono (by first | decide | omega)) passL (by rfl) (pa_cons (pv 1) pa_nil)) rfl) (pss_one (ps_fld (pv 0) (pe_lst pa_nil) rfl))))), ?_⟩
    walk_at "s"
    refine ⟨n, rfl, by omega, by omega, ?_⟩
    walk_at "s"
    rw [put1]
    intro s dx n1 n2 ndx
    have nvs : v ≠ s := fun z => by rw [z, upd_same] at n1; cases n1
    have nvd : v ≠ dx := fun z => by rw [z, upd_same] at n2; cases n2
    have ns0 : H s = none := by rw [upd_ne nvs.symm] at n1; exact n1
    have nd0 : H dx = none := by rw [upd_ne nvd.symm] at n2; exact n2
    refine ⟨s, dx, n, rfl, upd_same, hn2, fun H' b t hK nb nt hS => ⟨rfl, ?_⟩⟩
    have nvb : v ≠ b := fun z => by rw [← z, upd_ne nvs, upd_ne nvd, upd_same] at nb; cases nb
    have nvt : v ≠ t := fun z => by rw [← z, upd_ne nvs, upd_ne nvd, upd_same] at nt; cases nt
    have hv' : H' v = some (.ins CL dv [(("size" : Str), V.int (n : Int))]) := hK _ _ (by simpa using nvs) ((upd_ne nvs).trans ((upd_ne nvd).trans upd_same))
    have kv : KpL [v] H H' := by
      have k1 : KpL [v, s] H (upd (upd (upd H v (.ins CL dv [(("size" : Str), V.int (n : Int))])) dx (.own s)) s (.ins CS dx [])) :=
        (((KpL.refl _ _).set (by simp)).put (by exact n2)).set (by simp)
      have k2 : KpL [s, v] H H' := (k1.trans (hK.more (by simp))).more (by simp)
      exact k2.drop ns0
    obtain ⟨⟨ds, hs⟩, hb, ht, nbt⟩ := hS
    have off : ∀ x, upd (upd (upd H v (.ins CL dv [(("size" : Str), V.int (n : Int))])) dx (.own s)) s (.ins CS dx []) x = none → H x = none := fun x hx => by
      have a1 : x ≠ s := fun z => by rw [z, upd_same] at hx; cases hx
      have a2 : x ≠ dx := fun z => by rw [z, upd_ne ndx, upd_same] at hx; cases hx
      have a3 : x ≠ v := fun z => by rw [z, upd_ne nvs, upd_ne nvd, upd_same] at hx; cases hx
      rw [upd_ne a1, upd_ne a2, upd_ne a3] at hx
      exact hx
    walk_at "s"
    rw [put2 (by decide +kernel)]
    intro d nd3
    have nvd3 : v ≠ d := fun z => by rw [← z, upd_same] at nd3; cases nd3
    have nd4 : H' d = none := by rw [upd_ne nvd3.symm] at nd3; exact nd3
    have nds : d ≠ s := fun z => by rw [z, hs] at nd4; cases nd4
    have ndb : d ≠ b := fun z => by rw [z, hb] at nd4; cases nd4
    have ndt : d ≠ t := fun z => by rw [z, ht] at nd4; cases nd4
    walk_at "s"
    rw [put3 (by decide +kernel) (by decide +kernel)]
    refine q _ s b t d ?_ ns0 (off b nb) (off t nt) (kv.free nd4 (by simpa using nvd3.symm)) ⟨⟨dv, upd_same⟩, ⟨⟨ds, ?_⟩, ?_, ?_, nbt⟩, ⟨[], ?_, rfl, fun i a s e1 _ => by simp at e1⟩, ndb.symm, ndt.symm⟩
    · exact ((kv.set (by simp)).put nd3).set (by simp)
    · rw [upd_ne nvs.symm, upd_ne nds.symm, upd_ne nvs.symm]; exact hs
    · rw [upd_ne nvb.symm, upd_ne ndb.symm, upd_ne nvb.symm]; exact hb
    · rw [upd_ne nvt.symm, upd_ne ndt.symm, upd_ne nvt.symm]; exact ht
    · rw [upd_ne nvd3.symm, upd_same]; rfl
def spLvBooks (CL CS : Addr) : Sp := fun vs H Q _ => ∃ (v s b t d : Addr) (n : Nat) (bs : List (Option Int)) (tk : List Int) (dn : List Stp), vs = [.ref v] ∧ LiveAt CL CS H v s b t d n bs tk dn ∧ ∀ H' p, Same H H' → H p = none → H' p = some (.lst (vB bs)) → Q (.ref p) H'
theorem ok_Live_current_books {CL CS f : Addr} {fd : FuncData} {k : Nat} (B : Bn mg) (S : LvK K CL) (SS : ShK K CS) (F : Fun K "current_books" "LiveShelf.current_books" SLiveShelf_current_books f fd) : FnG P w K mg base (k + 1) f fd ["self"] (spLvBooks CL CS) := by
  refine gok F scLiveShelf_current_books (fun vs H Q E h => ?_) (fun cdv A fs s H vs Q E hG hr h => ?_)
  · obtain ⟨_, _, _, _, _, _, _, _, _, rfl, _⟩ := h; rfl
  · obtain ⟨v, s, b, t, d, n, bs, tk, dn, rfl, ⟨⟨dx, hv⟩, ⟨⟨ds, hs⟩, hb, ht, nbt⟩, hdn, n1, n2⟩, q⟩ := h
    have hu := hr.units
    obtain ⟨cl, nz, ns, nd⟩ := S
    obtain ⟨cs, sb, st⟩ := SS
    refine ⟨_, (pss_one (ps_ret (pe_callTy (k_list K) (by rfl) B.list Tlist (pa_cons (k_fld K (k_fld K (pv 0))) pa_nil)))), ?_⟩
    walk_at "s"
    intro p np
    exact q _ p (same_new np) np upd_same
def spLvOut (CL CS : Addr) : Sp := fun vs H Q _ => ∃ (v s b t d : Addr) (n : Nat) (bs : List (Option Int)) (tk : List Int) (dn : List Stp), vs = [.ref v] ∧ LiveAt CL CS H v s b t d n bs tk dn ∧ ∀ H' p, Same H H' → H p = none → H' p = some (.lst (vI tk)) → Q (.ref p) H'
theorem ok_Live_current_out {CL CS f : Addr} {fd : FuncData} {k : Nat} (B : Bn mg) (S : LvK K CL) (SS : ShK K CS) (F : Fun K "current_out" "LiveShelf.current_out" SLiveShelf_current_out f fd) : FnG P w K mg base (k + 1) f fd ["self"] (spLvOut CL CS) := by
  refine gok F scLiveShelf_current_out (fun vs H Q E h => ?_) (fun cdv A fs s H vs Q E hG hr h => ?_)
  · obtain ⟨_, _, _, _, _, _, _, _, _, rfl, _⟩ := h; rfl
  · obtain ⟨v, s, b, t, d, n, bs, tk, dn, rfl, ⟨⟨dx, hv⟩, ⟨⟨ds, hs⟩, hb, ht, nbt⟩, hdn, n1, n2⟩, q⟩ := h
    have hu := hr.units
    obtain ⟨cl, nz, ns, nd⟩ := S
    obtain ⟨cs, sb, st⟩ := SS
    refine ⟨_, (pss_one (ps_ret (pe_callTy (k_list K) (by rfl) B.list Tlist (pa_cons (k_fld K (k_fld K (pv 0))) pa_nil)))), ?_⟩
    walk_at "s"
    intro p np
    exact q _ p (same_new np) np upd_same
def spLvGaps (CL CS : Addr) : Sp := fun vs H Q _ => ∃ (v s b t d : Addr) (n : Nat) (bs : List (Option Int)) (tk : List Int) (dn : List Stp), vs = [.ref v] ∧ LiveAt CL CS H v s b t d n bs tk dn ∧ bs.length ≤ 1000 ∧ ∀ H' p, Same H H' → H p = none → H' p = some (.lst (vI (gaps bs))) → Q (.ref p) H'
def spLvLen (CL CS : Addr) : Sp := fun vs H Q _ => ∃ (v s b t d : Addr) (n : Nat) (bs : List (Option Int)) (tk : List Int) (dn : List Stp), vs = [.ref v] ∧ LiveAt CL CS H v s b t d n bs tk dn ∧ Q (.int (dn.length : Nat)) H
theorem ok_Live_len {CL CS f : Addr} {fd : FuncData} {k : Nat} (B : Bn mg) (S : LvK K CL) (F : Fun K "__len__" "LiveShelf.__len__" SLiveShelf_d__len_d_ f fd) : FnG P w K mg base (k + 1) f fd ["self"] (spLvLen CL CS) := by
  refine gok F scLiveShelf_d__len_d_ (fun vs H Q E h => ?_) (fun cdv A fs s H vs Q E hG hr h => ?_)
  · obtain ⟨_, _, _, _, _, _, _, _, _, rfl, _⟩ := h; rfl
  · obtain ⟨v, s, b, t, d, n, bs, tk, dn, rfl, ⟨⟨dx, hv⟩, _, ⟨as, h1, h2, h3⟩, n1, n2⟩, q⟩ := h
    have hu := hr.units
    obtain ⟨cl, nz, ns, nd⟩ := S
    refine ⟨_, (pss_one (ps_ret (pe_callB (k_len K) (by rfl) B.len Blen (pa_cons (k_fld K (pv 0)) pa_nil)))), ?_⟩
    walk_at "s"
    rw [List.length_map, h2]
    exact q
def spLvSched (CL CS : Addr) : Sp := fun vs H Q _ => ∃ (v s b t d : Addr) (n : Nat) (bs : List (Option Int)) (tk : List Int) (dn : List Stp), vs = [.ref v] ∧ LiveAt CL CS H v s b t d n bs tk dn ∧ dn.length ≤ 1000 ∧ ∀ H' p, Same H H' → H p = none → Tr (fun a => H a = none) H' (.ref p) (.list (dn.map curD)) → Q (.ref p) H'
theorem ok_Live_current_schedule {CL CS f : Addr} {fd : FuncData} {k : Nat} (B : Bn mg) (S : LvK K CL) (F : Fun K "current_schedule" "LiveShelf.current_schedule" SLiveShelf_current_schedule f fd) : FnG P w K mg base (k + 1) f fd ["self"] (spLvSched CL CS) := by
  refine gok F scLiveShelf_current_schedule (fun vs H Q E h => ?_) (fun cdv A fs s H vs Q E hG hr h => ?_)
  · obtain ⟨_, _, _, _, _, _, _, _, _, rfl, _⟩ := h; rfl
  · obtain ⟨v, s, b, t, d, n, bs, tk, dn, rfl, ⟨⟨dx, hv⟩, _, ⟨as, h1, h2, h3⟩, n1, n2⟩, hl, q⟩ := h
    have hu := hr.units
    obtain ⟨cl, nz, ns, nd⟩ := S
    refine ⟨_, (pss_one (ps_ret (pe_lc (own := [("step", 1)]) rfl scLiveShelf_current_schedule.nd (k_piL K (k_fld K (pv 0))) (blkOk_by (own := [("step", 1)]) (N := NLiveShelf_current_schedule) (sc := defScope SLiveShelf_current_schedule) (by decide +kernel)) (fun _ _ _ _ _ => (pg_name (i := 1) scLiveShelf_current_schedule.nd rfl (Or.inl rfl))) (fun _ _ _ _ _ => pts_nil) (fun _ _ _ _ _ => (pe_slice (k_slT K) (pv 1) po_none (po_some pe_int)))))), ?_⟩
    walk_at "s"
    refine ⟨d, rfl, ⟨_, lst_of h1⟩, fun Dl nD => ?_⟩
    refine lc_src (src_list (xs := as.map V.ref)) (fun i H' => ∃ acc, Same H H' ∧ H' Dl = some (.lst acc) ∧ acc.length = i ∧ TrAll (fun a => H a = none ∧ a ≠ Dl) H' acc ((dn.take i).map curD)) (fun i H' h => by obtain ⟨_, s', _⟩ := h; exact lst_of (s' _ _ h1))
      ⟨[], same_new nD, upd_same, rfl, by rw [List.take_zero]; exact .nil⟩ ?_ ?_
    · rintro i v H3 H4 hi ⟨acc, sA, hD, la, hT⟩ ⟨rfl, hv⟩
      rw [List.length_map] at hi
      have e1 := List.getElem?_eq_getElem hi
      have e2 := List.getElem?_eq_getElem (show i < dn.length by omega)
      rw [List.getElem?_map, e1] at hv
      cases hv
      have hS := sA _ _ (h3 i _ _ e1 e2)
      walk_at "s"
      refine ⟨rfl, ?_⟩
      walk_at "s"
      refine ⟨_, _, rfl, tup_of hS, fun z => ?_, fun _ p np => ?_⟩
      · exact absurd z.2 (by show ¬ (min 2 5 = 5); decide)
      · have hp0 := sA.free np
        have npD : p ≠ Dl := fun z => by rw [z, hD] at np; cases np
        have sp := same_new (o := .tup (cutV (stV (dn[i]'(by omega))) none (some 2))) np
        refine ⟨acc, (upd_ne npD.symm).trans hD, szl (by omega), acc ++ [.ref p], ?_, upd_same, by rw [List.length_append, la]; rfl, ?_⟩
        · exact same_set (sA.trans sp) nD
        · rw [take_succ' e2, List.map_append]
          refine TrAll.snoc (hT.move fun a o g e => ⟨(upd_ne g.2).trans (sp _ _ e), g⟩) (.tup ((upd_ne npD).trans upd_same) ⟨hp0, npD⟩ (by show _ ≤ 100000; exact Nat.le_trans (cutV_length _ _ _) (by show 5 ≤ _; decide)) (.cons (.str _) (.cons (.int _) .nil)))
    · rintro H3 ⟨acc, sA, hD, la, hT⟩
      rw [List.length_map, h2, List.take_length] at hT
      rw [List.length_map, h2] at la
      walk_at "s"
      exact q _ Dl sA nD (.lst hD nD (by omega) (hT.move fun a o g e => ⟨e, g.1⟩))
theorem pof_in (bs : List (Option Int)) (i : Int) : inV (.int i) (vB bs) = decide (some i ∈ bs) := by
  unfold inV vB
  rw [List.any_map]
  induction bs with
  | nil => simp
  | cons x bs ih =>
    rw [List.any_cons, ih]
    have e : ((fun y => eqV y (V.int i)) ∘ bV) x = decide (x = some i) := by
      cases x with
      | none => rfl
      | some j =>
        show eqV (.int j) (.int i) = _
        by_cases h : j = i <;> simp [eqV, h]
    rw [e]
    by_cases h : x = some i
    · subst h; simp
    · have h' : ¬ some i = x := fun z => h z.symm
      simp [h, h']
theorem pof_at {bs : List (Option Int)} {i : Int} {j : Nat} (h : bs[j]? = some (some i)) (no : ∀ m : Nat, m < j → bs[m]? ≠ some (some i)) : pof bs i = .int ((j : Nat) : Int) := by
  unfold pof
  have e : bs.findIdx? (fun x => decide (x = some i)) = some j := by
    rw [List.findIdx?_eq_some_iff_getElem]
    have hj := (List.getElem?_eq_some_iff.mp h)
    have hj1 := hj.1
    refine ⟨hj.1, by rw [hj.2]; simp, fun m hm => ?_⟩
    have := no m hm
    rw [List.getElem?_eq_getElem (by omega)] at this
    simpa using this
  rw [e]
theorem pof_no {bs : List (Option Int)} {i : Int} (h : some i ∉ bs) : pof bs i = .non := by
  unfold pof
  have e : bs.findIdx? (fun x => decide (x = some i)) = none := by
    rw [List.findIdx?_eq_none_iff]
    intro x hx
    simp
    exact fun z => h (z ▸ hx)
  rw [e]
/-- the first place of a book that is there -/
theorem first_at {bs : List (Option Int)} {x : Option Int} (h : x ∈ bs) : ∃ j : Nat, bs[j]? = some x ∧ ∀ m : Nat, m < j → bs[m]? ≠ some x := by
  induction bs with
  | nil => cases h
  | cons y bs ih =>
    by_cases e : y = x
    · exact ⟨0, by rw [e]; rfl, fun m hm => absurd hm (Nat.not_lt_zero _)⟩
    · obtain ⟨j, h1, h2⟩ := ih ((List.mem_cons.mp h).resolve_left fun z => e z.symm)
      refine ⟨j + 1, h1, fun m hm => ?_⟩
      cases m with
      | zero => intro z; exact e (Option.some.inj z)
      | succ m => exact h2 m (by omega)
theorem r_indexB {K : PySem.W.Frag} {H : Hp} {Q : VK} {a : Addr} {bs : List (Option Int)} {i : Int} (h : SqL K H a (vB bs)) (hi : some i ∈ bs) (q : Q (pof bs i) H) : rIndex K (.ref a) [.int i] H Q := by
  obtain ⟨j, h1, h2⟩ := first_at hi
  rw [pof_at h1 h2] at q
  refine r_index h rfl (vB_flat bs) (vB_at h1) (by show (i == i) = true; simp) (fun m z' hm hz => ?_) q
  unfold vB at hz
  rw [List.getElem?_map] at hz
  cases hx : bs[m]? with
  | none => rw [hx] at hz; cases hz
  | some x =>
    rw [hx] at hz
    cases hz
    cases x with
    | none => rfl
    | some k =>
      show (k == i) = false
      have : k ≠ i := fun z => h2 m hm (by rw [hx, z])
      simpa using this
def spLvTake (CL CS : Addr) : Sp := fun vs H Q _ => ∃ (v s b t d : Addr) (n : Nat) (bs : List (Option Int)) (tk : List Int) (dn : List Stp) (p : Nat) (i : Int), vs = [.ref v, .int p] ∧ LiveAt CL CS H v s b t d n bs tk dn ∧ bs[p]? = some (some i) ∧ tk.length ≤ 900 ∧ dn.length ≤ 900 ∧
  ∀ H', KpL [b, t, d] H H' → LiveAt CL CS H' v s b t d n (bs.set p none) (tk ++ [i]) (dn ++ [⟨true, p, p, i, ((tk.length : Nat) : Int)⟩]) → Q (.int i) H'
theorem ok_Live_take_book {CL CS f : Addr} {fd : FuncData} (B : Bn mg) (c_TAKE : Gc mg "TAKE" (.str "take")) (S : LvK K CL) (SS : ShK K CS) (M_Shelf_can_take : Mt P w K mg base 2 CS "can_take" [] (spCanTake CS)) (M_Shelf_take : Mt P w K mg base 1 CS "take" [] (spTake CS)) (F : Fun K "take_book" "LiveShelf.take_book" SLiveShelf_take_book f fd) : FnG P w K mg base 3 f fd ["self", "place"] (spLvTake CL CS) := by
  refine gok F scLiveShelf_take_book (fun vs H Q E h => ?_) (fun cdv A fs s H vs Q E hG hr h => ?_)
  · obtain ⟨_, _, _, _, _, _, _, _, _, _, _, rfl, _⟩ := h; rfl
  · obtain ⟨v, s, b, t, d, n, bs, tk, dn, p, i, rfl, ⟨⟨dx, hv⟩, hS, hdn, n1, n2⟩, hp, hl, hl2, q⟩ := h
    have hu := hr.units
    obtain ⟨cl, nz, ns, nd⟩ := S
    obtain ⟨cs, sb, st⟩ := SS
    obtain ⟨⟨ds, hs⟩, hb, ht, nbt⟩ := id hS
    have nvb : v ≠ b := fun z => by rw [z, hb] at hv; cases hv
    have nvt : v ≠ t := fun z => by rw [z, ht] at hv; cases hv
    refine ⟨_, (pss_cons (ps_if (pt_not (pt_val (pe_mt M_Shelf_can_take hG (hr.mono (by first | decide | omega)) passL (k_fld K (pv 0)) (pa_cons (pv 1) pa_nil)))) (pss_one ps_never) pss_nil) (pss_cons (ps_set (i := 2) scLiveShelf_take_book.nd rfl (Or.inl rfl) (pe_mt M_Shelf_take hG (hr.mono (by first | decide | omega)) passL (k_fld K (pv 0)) (pa_cons (pv 1) pa_nil))) (pss_cons (ps_expr (k_bmP K (pe_bm PySem.F.plainAttrs_list PySem.F.slot_list_append PySem.F.type_list_append mt_append (k_fld K (pv 0)) (pa_cons (pe_tup (pa_cons (pe_gc c_TAKE (by rfl)) (pa_cons (pv 1) (pa_cons (pv 1) (pa_cons (pv 2) (pa_cons (pe_op op_sub (pe_callB (k_len K) (by rfl) B.len Blen (pa_cons (k_fld K (k_fld K (pv 0))) pa_nil)) pe_int) pa_nil)))))) pa_nil)))) (pss_one (ps_ret (pv 2)))))), ?_⟩
    walk_at "s"
    refine ⟨s, b, t, bs, tk, p, i, rfl, hS, hp, ?_⟩
    walk_at "s"
    refine ⟨s, b, t, bs, tk, p, i, rfl, hS, hp, by omega, fun H1 hK1 hS1 => ?_⟩
    have hv1 := hK1 _ _ (by simp; exact ⟨nvb, nvt⟩) hv
    have hdn1 := hdn.kpl hK1 (by simp; exact ⟨n1.symm, n2.symm⟩) (by simp; exact ⟨⟨_, hb⟩, ⟨_, ht⟩⟩)
    obtain ⟨⟨ds1, hs1⟩, hb1, ht1, _⟩ := id hS1
    obtain ⟨as, g1, g2, g3⟩ := id hdn1
    walk_at "s"
    rw [vI_len, List.length_append, List.length_singleton]
    intro u nu
    have su := same_new (o := .tup [.str "take", .int p, .int p, .int i, .int (((tk.length + 1 : Nat) : Int) - 1)]) nu
    have eu : (((tk.length + 1 : Nat) : Int) - 1) = ((tk.length : Nat) : Int) := by omega
    rw [eu] at su ⊢
    obtain ⟨xs, x1, x2, x3⟩ := (hdn1.same su).app (t := u) (s := ⟨true, p, p, i, ((tk.length : Nat) : Int)⟩) upd_same
    have ex : xs = as.map V.ref := HO.lst.inj (Option.some.inj (x1.symm.trans (su _ _ g1)))
    subst ex
    have al : (as.map V.ref).length ≤ 900 := by rw [List.length_map, g2]; exact hl2
    walk_at "s"
    have nvd : v ≠ d := fun z => by rw [z, g1] at hv1; cases hv1
    have nsd : s ≠ d := fun z => by rw [z, g1] at hs1; cases hs1
    refine q _ (((hK1.more (by simp)).put nu).set (by simp)) ⟨⟨dx, (upd_ne nvd).trans (su _ _ hv1)⟩, ⟨⟨ds1, (upd_ne nsd).trans (su _ _ hs1)⟩, (upd_ne n1).trans (su _ _ hb1), (upd_ne n2).trans (su _ _ ht1), nbt⟩, x3, n1, n2⟩
def spLvReturn (CL CS : Addr) : Sp := fun vs H Q _ => ∃ (v s b t d : Addr) (n : Nat) (bs : List (Option Int)) (tk : List Int) (dn : List Stp) (p o : Nat) (i : Int), vs = [.ref v, .int i] ∧ LiveAt CL CS H v s b t d n bs tk dn ∧ 0 ≤ i ∧ bs[p]? = some none ∧ (∀ m : Nat, m < p → bs[m]? ≠ some none) ∧ tk[o]? = some i ∧ (∀ m : Nat, m < o → tk[m]? ≠ some i) ∧ dn.length ≤ 900 ∧
  ∀ H', KpL [b, t, d] H H' → LiveAt CL CS H' v s b t d n (bs.set p (some i)) (tk.erase i) (dn ++ [⟨false, i, p, i, o⟩]) → Q (.int p) H'
theorem ok_Live_return_book {CL CS f : Addr} {fd : FuncData} (B : Bn mg) (c_RETURN : Gc mg "RETURN" (.str "return")) (S : LvK K CL) (SS : ShK K CS) (M_Shelf_can_return : Mt P w K mg base 2 CS "can_return" [] (spCanReturn CS)) (M_Shelf_put_back : Mt P w K mg base 1 CS "put_back" [] (spPutBack CS)) (F : Fun K "return_book" "LiveShelf.return_book" SLiveShelf_return_book f fd) : FnG P w K mg base 3 f fd ["self", "book"] (spLvReturn CL CS) := by
  refine gok F scLiveShelf_return_book (fun vs H Q E h => ?_) (fun cdv A fs s H vs Q E hG hr h => ?_)
  · obtain ⟨_, _, _, _, _, _, _, _, _, _, _, _, rfl, _⟩ := h; rfl
  · obtain ⟨v, s, b, t, d, n, bs, tk, dn, p, o, i, rfl, ⟨⟨dx, hv⟩, hS, hdn, n1, n2⟩, h0, hp, hp2, ho, ho2, hl2, q⟩ := h
    have hu := hr.units
    obtain ⟨cl, nz, ns, nd⟩ := S
    obtain ⟨cs, sb, st⟩ := SS
    obtain ⟨⟨ds, hs⟩, hb, ht, nbt⟩ := id hS
    have nvb : v ≠ b := fun z => by rw [z, hb] at hv; cases hv
    have nvt : v ≠ t := fun z => by rw [z, ht] at hv; cases hv
    have him : i ∈ tk := List.mem_of_getElem? ho
    refine ⟨_, (pss_cons (ps_if (pt_not (pt_val (pe_mt M_Shelf_can_return hG (hr.mono (by first | decide | omega)) passL (k_fld K (pv 0)) (pa_cons (pv 1) pa_nil)))) (pss_one ps_never) pss_nil) (pss_cons (ps_set (i := 2) scLiveShelf_return_book.nd rfl (Or.inl rfl) (k_bmP K (pe_bm PySem.F.plainAttrs_list PySem.F.slot_list_index PySem.F.type_list_index (k_index K) (k_fld K (k_fld K (pv 0))) (pa_cons (pv 1) pa_nil)))) (pss_cons (ps_set (i := 3) scLiveShelf_return_book.nd rfl (Or.inl rfl) (pe_mt M_Shelf_put_back hG (hr.mono (by first | decide | omega)) passL (k_fld K (pv 0)) (pa_cons (pv 1) pa_nil))) (pss_cons (ps_expr (k_bmP K (pe_bm PySem.F.plainAttrs_list PySem.F.slot_list_append PySem.F.type_list_append mt_append (k_fld K (pv 0)) (pa_cons (pe_tup (pa_cons (pe_gc c_RETURN (by rfl)) (pa_cons (pv 1) (pa_cons (pv 3) (pa_cons (pv 1) (pa_cons (pv 2) pa_nil)))))) pa_nil)))) (pss_one (ps_ret (pv 3))))))), ?_⟩
    walk_at "s"
    refine ⟨s, b, t, bs, tk, i, rfl, hS, h0, him, ?_⟩
    walk_at "s"
    refine r_index (j := o) (z := .int i) (lst_of ht) rfl (flat_ints tk) (by unfold vI; rw [List.getElem?_map, ho]; rfl) (by show (i == i) = true; simp) (fun m z' hm hz => ?_) ?_
    · unfold vI at hz
      rw [List.getElem?_map] at hz
      cases hx : tk[m]? with
      | none => rw [hx] at hz; cases hz
      | some x =>
        rw [hx] at hz
        cases hz
        show (x == i) = false
        have : x ≠ i := fun z => ho2 m hm (by rw [hx, z])
        simpa using this
    walk_at "s"
    refine ⟨s, b, t, bs, tk, p, i, rfl, hS, hp, hp2, him, fun H1 hK1 hS1 => ?_⟩
    have hv1 := hK1 _ _ (by simp; exact ⟨nvb, nvt⟩) hv
    have hdn1 := hdn.kpl hK1 (by simp; exact ⟨n1.symm, n2.symm⟩) (by simp; exact ⟨⟨_, hb⟩, ⟨_, ht⟩⟩)
    obtain ⟨⟨ds1, hs1⟩, hb1, ht1, _⟩ := id hS1
    obtain ⟨as, g1, g2, g3⟩ := id hdn1
    walk_at "s"
    intro u nu
    have su := same_new (o := .tup [.str "return", .int i, .int p, .int i, .int ((o : Nat) : Int)]) nu
    obtain ⟨xs, x1, x2, x3⟩ := (hdn1.same su).app (t := u) (s := ⟨false, i, p, i, o⟩) upd_same
    have ex : xs = as.map V.ref := HO.lst.inj (Option.some.inj (x1.symm.trans (su _ _ g1)))
    subst ex
    have al : (as.map V.ref).length ≤ 900 := by rw [List.length_map, g2]; exact hl2
    walk_at "s"
    have nvd : v ≠ d := fun z => by rw [z, g1] at hv1; cases hv1
    have nsd : s ≠ d := fun z => by rw [z, g1] at hs1; cases hs1
    refine q _ (((hK1.more (by simp)).put nu).set (by simp)) ⟨⟨dx, (upd_ne nvd).trans (su _ _ hv1)⟩, ⟨⟨ds1, (upd_ne nsd).trans (su _ _ hs1)⟩, (upd_ne n1).trans (su _ _ hb1), (upd_ne n2).trans (su _ _ ht1), nbt⟩, x3, n1, n2⟩
end

end

section
local macro_rules | `(tactic| walk_at "s") => `(tactic| repeat (first | walk_at "s1" | walk_at "s2" | walk_at "fld"))
abbrev SLiveShelf_is_complete : Stmt := inClass (topS 25) 3
abbrev NLiveShelf_is_complete : List Str := ["self"]
theorem scLiveShelf_is_complete : FnScope NLiveShelf_is_complete ["self"] (defScope SLiveShelf_is_complete) := ⟨rfl, rfl, rfl, by decide +kernel, rfl, by decide +kernel, by decide +kernel⟩

section
variable {P : Program} {w : World} {K : PySem.W.Frag} {mg : Str → Option Value} {base : Heap}
def spLvDone (CL CS : Addr) : Sp := fun vs H Q _ => ∃ (v s b t d : Addr) (n : Nat) (bs : List (Option Int)) (tk : List Int) (dn : List Stp), vs = [.ref v] ∧ LiveAt CL CS H v s b t d n bs tk dn ∧ ∀ H', Same H H' → Q (.bl (decide (tk = []))) H'
theorem ok_Live_is_complete {CL CS f : Addr} {fd : FuncData} {k : Nat} (B : Bn mg) (S : LvK K CL) (SS : ShK K CS) (F : Fun K "is_complete" "LiveShelf.is_complete" SLiveShelf_is_complete f fd) : FnG P w K mg base (k + 1) f fd ["self"] (spLvDone CL CS) := by
  refine gok F scLiveShelf_is_complete (fun vs H Q E h => ?_) (fun cdv A fs s H vs Q E hG hr h => ?_)
  · obtain ⟨_, _, _, _, _, _, _, _, _, rfl, _⟩ := h; rfl
  · obtain ⟨v, s, b, t, d, n, bs, tk, dn, rfl, ⟨⟨dx, hv⟩, ⟨⟨ds, hs⟩, hb, ht, nbt⟩, hdn, n1, n2⟩, q⟩ := h
    have hu := hr.units
    obtain ⟨cl, nz, ns, nd⟩ := S
    obtain ⟨cs, sb, st⟩ := SS
    refine ⟨_, (pss_one (ps_ret (pe_cmpR (k_eqD K hu) (k_fld K (k_fld K (pv 0))) (pe_lst pa_nil) (nomark _)))), ?_⟩
    walk_at "s"
    intro e ne
    refine r_eqLI (xs := tk) (ys := []) (lst_of ((same_new ne) _ _ ht)) (lst_of upd_same) ?_
    exact q _ (same_new ne)
end

end

section
local macro_rules | `(tactic| walk_at "s") => `(tactic| repeat (first | walk_at "s1" | walk_at "s2" | walk_at "fld"))
abbrev SLiveShelf_undo : Stmt := inClass (topS 25) 8
abbrev NLiveShelf_undo : List Str := ["self", "kind", "value", "place", "book", "order"]
theorem scLiveShelf_undo : FnScope NLiveShelf_undo ["self"] (defScope SLiveShelf_undo) := ⟨rfl, rfl, rfl, by decide +kernel, rfl, by decide +kernel, by decide +kernel⟩

section
variable {P : Program} {w : World} {K : PySem.W.Frag} {mg : Str → Option Value} {base : Heap}
def spLvUndo (CL CS : Addr) : Sp := fun vs H Q _ => ∃ (v s b t d : Addr) (n : Nat) (bs : List (Option Int)) (tk : List Int) (dn : List Stp) (st : Stp) (p : Nat), vs = [.ref v] ∧ LiveAt CL CS H v s b t d n bs tk (dn ++ [st]) ∧ st.p = p ∧ p < bs.length ∧ tk.length ≤ 900 ∧ dn.length ≤ 900 ∧
  (st.k = true → ∃ tk0 i, tk = tk0 ++ [i] ∧ ∀ H', KpL [b, t, d] H H' → LiveAt CL CS H' v s b t d n (bs.set p (some st.b)) tk0 dn → Q .non H') ∧
  (st.k = false → ∃ o : Nat, st.o = o ∧ o ≤ tk.length ∧ ∀ H', KpL [b, t, d] H H' → LiveAt CL CS H' v s b t d n (bs.set p none) (tk.take o ++ [st.b] ++ tk.drop o) dn → Q .non H')
theorem SL.pop {H : Hp} {d : Addr} {dn : List Stp} {st : Stp} (h : SL H d (dn ++ [st])) : ∃ (as : List Addr) (u : Addr), H d = some (.lst (as.map V.ref ++ [.ref u])) ∧ H u = some (.tup (stV st)) ∧ SL (L2.upd H d (.lst (as.map V.ref))) d dn := by
  obtain ⟨as, h1, h2, h3⟩ := h
  rw [List.length_append, List.length_singleton] at h2
  have ne : as ≠ [] := fun z => by rw [z] at h2; simp at h2
  have e : as = as.dropLast ++ [as.getLast ne] := (List.dropLast_concat_getLast ne).symm
  generalize as.dropLast = bs at e
  generalize as.getLast ne = u at e
  subst e
  have bl : bs.length = dn.length := by rw [List.length_append, List.length_singleton] at h2; omega
  have hu : H u = some (.tup (stV st)) := h3 bs.length u st (by rw [List.getElem?_append_right (Nat.le_refl _), Nat.sub_self]; rfl) (by rw [bl, List.getElem?_append_right (Nat.le_refl _), Nat.sub_self]; rfl)
  refine ⟨bs, u, by rw [h1, List.map_append]; rfl, hu, bs, upd_same, bl, fun i a s e1 e2 => ?_⟩
  have hi := (List.getElem?_eq_some_iff.mp e1).1
  have z := h3 i a s (by rw [List.getElem?_append_left hi]; exact e1) (by rw [List.getElem?_append_left (by omega)]; exact e2)
  have ne2 : a ≠ d := fun q => by rw [q, h1] at z; cases z
  exact (upd_ne ne2).trans z
def stD (s : Stp) : PyData := .tuple [.str (kd s.k), .int s.x, .int s.p, .int s.b, .int s.o]
theorem SL.tr {H : Hp} {d : Addr} {dn : List Stp} (h : SL H d dn) (hl : dn.length ≤ 100000) : Tr (fun _ => True) H (.ref d) (.list (dn.map stD)) := by
  obtain ⟨as, h1, h2, h3⟩ := h
  refine .lst h1 trivial (by rw [List.length_map]; omega) (TrAll.of (by rw [List.length_map, List.length_map]; exact h2) fun i v d e1 e2 => ?_)
  rw [List.getElem?_map] at e1 e2
  cases ha : as[i]? with
  | none => rw [ha] at e1; cases e1
  | some a =>
    cases hc : dn[i]? with
    | none => rw [hc] at e2; cases e2
    | some c =>
      rw [ha] at e1
      rw [hc] at e2
      cases e1; cases e2
      exact .tup (h3 i a c ha hc) trivial (by show 5 ≤ 100000; decide) (.cons (.str _) (.cons (.int _) (.cons (.int _) (.cons (.int _) (.cons (.int _) .nil)))))
theorem canLay_st : ∀ dn : List Stp, PyData.canLayAll0 (dn.map stD) = true
  | [] => rfl
  | s :: dn => by
    have ih := canLay_st dn
    simp only [List.map_cons, PyData.canLayAll0, Bool.and_eq_true]
    refine ⟨?_, ih⟩
    simp [stD, PyData.canLay0, PyData.canLayAll0]
    cases s.k <;> decide +kernel
theorem shaped_st (dn : List Stp) : SeqAt.shaped (.list (dn.map stD)) = true := by
  unfold SeqAt.shaped
  have h1 : PyData.canLay0 (.list (dn.map stD)) = true := by unfold PyData.canLay0; exact canLay_st dn
  have h2 : PyData.depth (.list (dn.map stD)) ≤ 64 := by
    show PyData.depthAll (dn.map stD) + 1 ≤ 64
    have := depthAll_le (ds := dn.map stD) (m := 1) fun d hd => by
      obtain ⟨s, _, rfl⟩ := List.mem_map.mp hd
      exact Nat.le_refl _
    omega
  rw [h1, decide_eq_true h2]
  rfl
theorem eqv_st {dn : List Stp} (h : dn ≠ []) : PyData.eqv (.list (dn.map stD)) (.list []) = false := by
  cases dn with
  | nil => exact absurd rfl h
  | cons s dn => unfold PyData.eqv; rfl
theorem ok_Live_undo {CL CS f : Addr} {fd : FuncData} {k : Nat} (B : Bn mg) (c_TAKE : Gc mg "TAKE" (.str "take")) (S : LvK K CL) (SS : ShK K CS) (F : Fun K "undo" "LiveShelf.undo" SLiveShelf_undo f fd) : FnG P w K mg base (k + 1) f fd ["self"] (spLvUndo CL CS) := by
  refine gok F scLiveShelf_undo (fun vs H Q E h => ?_) (fun cdv A fs s H vs Q E hG hr h => ?_)
  · obtain ⟨_, _, _, _, _, _, _, _, _, _, _, rfl, _⟩ := h; rfl
  · obtain ⟨v, s, b, t, d, n, bs, tk, dn, st, p, rfl, ⟨⟨dx, hv⟩, ⟨⟨ds, hs⟩, hb, ht, nbt⟩, hdn, n1, n2⟩, ep, pl, hl1, hl2, qT, qR⟩ := h
    have hu := hr.units
    obtain ⟨cl, nz, ns, nd⟩ := S
    obtain ⟨cs, sb, st'⟩ := SS
    obtain ⟨as, u, g1, g2, g3⟩ := SL.pop hdn
    refine ⟨_, (pss_cons (ps_if (pt_cmpR (k_eqD K hu) (k_fld K (pv 0)) (pe_lst pa_nil) (nomark _)) (pss_one ps_never) pss_nil) (pss_cons (ps_asg (k_bm0P K (pe_bm0 PySem.F.plainAttrs_list PySem.F.slot_list_pop PySem.F.type_list_pop mt_pop (k_fld K (pv 0)))) (k_gtup (n := 5) K rfl (pgs_cons (pg_name (i := 1) scLiveShelf_undo.nd rfl (Or.inl rfl)) (pgs_cons (pg_name (i := 2) scLiveShelf_undo.nd rfl (Or.inl rfl)) (pgs_cons (pg_name (i := 3) scLiveShelf_undo.nd rfl (Or.inl rfl)) (pgs_cons (pg_name (i := 4) scLiveShelf_undo.nd rfl (Or.inl rfl)) (pgs_cons (pg_name (i := 5) scLiveShelf_undo.nd rfl (Or.inl rfl)) pgs_nil))))))) (pss_one (ps_if (pt_cmpR op_eq (pv 1) (pe_gc c_TAKE (by rfl)) (nomark _)) (pss_cons (ps_asg (pv 4) (pg_sub (k_fld K (k_fld K (pv 0))) (pv 3) set_list)) (pss_one (ps_expr (k_bm0P K (pe_bm0 PySem.F.plainAttrs_list PySem.F.slot_list_pop PySem.F.type_list_pop mt_pop (k_fld K (k_fld K (pv 0)))))))) (pss_cons (ps_asg pe_non (pg_sub (k_fld K (k_fld K (pv 0))) (pv 3) set_list)) (pss_one (ps_expr (k_bmP K (pe_bm PySem.F.plainAttrs_list PySem.F.slot_list_insert PySem.F.type_list_insert mt_insertV (k_fld K (k_fld K (pv 0))) (pa_cons (pv 5) (pa_cons (pv 4) pa_nil))))))))))), ?_⟩
    walk_at "s"
    intro e ne
    have se := same_new (o := .lst []) ne
    refine ⟨_, _, (hdn.same se).tr (by rw [List.length_append, List.length_singleton]; omega) |>.dp, .lst (lst_of upd_same) .nil, shaped_st _, by decide, ?_⟩
    rw [eqv_st (by simp)]
    have g1e := se _ _ g1
    have g2e := se _ _ g2
    have hve := se _ _ hv
    walk_at "s"
    refine r_pop g1e ?_
    have nud : u ≠ d := fun z => by rw [z, g1] at g2; cases g2
    have g2d : upd (upd H e (.lst [])) d (.lst (as.map V.ref)) u = some (.tup (stV st)) := (upd_ne nud).trans g2e
    have hvd : v ≠ d := fun z => by rw [z, g1] at hv; cases hv
    have hsd : s ≠ d := fun z => by rw [z, g1] at hs; cases hs
    have nvb : v ≠ b := fun z => by rw [z, hb] at hv; cases hv
    have nvt : v ≠ t := fun z => by rw [z, ht] at hv; cases hv
    have nsb : s ≠ b := fun z => by rw [z, hb] at hs; cases hs
    have nst : s ≠ t := fun z => by rw [z, ht] at hs; cases hs
    have hv1 : upd (upd H e (.lst [])) d (.lst (as.map V.ref)) v = some (.ins CL dx (lvF n s d)) := (upd_ne hvd).trans hve
    have hs1 : upd (upd H e (.lst [])) d (.lst (as.map V.ref)) s = some (.ins CS ds (shF b t)) := (upd_ne hsd).trans (se _ _ hs)
    have hb1 : upd (upd H e (.lst [])) d (.lst (as.map V.ref)) b = some (.lst (vB bs)) := (upd_ne n1).trans (se _ _ hb)
    have ht1 : upd (upd H e (.lst [])) d (.lst (as.map V.ref)) t = some (.lst (vI tk)) := (upd_ne n2).trans (se _ _ ht)
    have k1 : KpL [b, t, d] H (upd (upd H e (.lst [])) d (.lst (as.map V.ref))) := (KpL.of se).set (by simp)
    have dn1 : SL (upd (upd H e (.lst [])) d (.lst (as.map V.ref))) d dn := by
      obtain ⟨as2, u2, q1, _, q3⟩ := SL.pop (hdn.same se)
      have e2 := HO.lst.inj (Option.some.inj (g1e.symm.trans q1))
      have e3 : as.map V.ref = as2.map V.ref := by
        have := congrArg List.dropLast e2
        rwa [List.dropLast_concat, List.dropLast_concat] at this
      rw [e3]
      exact q3
    generalize upd (upd H e (.lst [])) d (.lst (as.map V.ref)) = H1 at *
    obtain ⟨sk, sx, sp, sbk, so⟩ := st
    have ep' : sp = p := ep
    subst ep'
    have g2l : H1 u = some (.tup [V.str (kd sk), .int sx, .int (p : Int), .int sbk, .int so]) := g2d
    clear g2d
    have e1 : ixN (vB bs).length (p : Int) = some p := by rw [vB_len, ixN_ok (by omega) (by omega), Int.toNat_natCast]
    walk_at "s"
    cases sk with
    | true =>
      obtain ⟨tk0, i, rfl, q⟩ := qT rfl
      try refine ifDT (by decide) ?_
      walk_at "s"
      have ht2 : upd H1 b (.lst ((vB bs).set p (.int sbk))) t = some (.lst (vI tk0 ++ [.int i])) := (upd_ne nbt.symm).trans (ht1.trans (by rw [show vI (tk0 ++ [i]) = vI tk0 ++ [V.int i] from (vI_app tk0 [i]).symm]))
      refine r_pop ht2 ?_
      walk_at "s"
      refine q _ ((k1.set (by simp)).set (by simp)) ⟨⟨dx, (upd_ne nvt).trans ((upd_ne nvb).trans hv1)⟩, ⟨⟨ds, (upd_ne nst).trans ((upd_ne nsb).trans hs1)⟩, ?_, upd_same, nbt⟩, (dn1.set n1.symm hb1).set n2.symm ht2, n1, n2⟩
      rw [upd_ne nbt, upd_same]
      exact congrArg (fun l => some (HO.lst l)) (vB_set bs p (some sbk))
    | false =>
      obtain ⟨o, eo, ho, q⟩ := qR rfl
      have eo' : so = o := eo
      subst eo'
      try refine ifDF (by decide) ?_
      walk_at "s"
      have ht2 : upd H1 b (.lst ((vB bs).set p .non)) t = some (.lst (vI tk)) := (upd_ne nbt.symm).trans ht1
      refine r_insert (i := o) ht2 (by rw [vI_len]; omega) (by omega) ?_
      walk_at "s"
      refine q _ ((k1.set (by simp)).set (by simp)) ⟨⟨dx, (upd_ne nvt).trans ((upd_ne nvb).trans hv1)⟩, ⟨⟨ds, (upd_ne nst).trans ((upd_ne nsb).trans hs1)⟩, ?_, ?_, nbt⟩, (dn1.set n1.symm hb1).set n2.symm ht2, n1, n2⟩
      · rw [upd_ne nbt, upd_same]
        exact congrArg (fun l => some (HO.lst l)) (vB_set bs p none)
      · rw [upd_same, vI_take, vI_drop]
        exact congrArg (fun l => some (HO.lst l)) (by rw [show [V.int sbk] = vI [sbk] from rfl, vI_app, vI_app])
end

end

section
local macro_rules | `(tactic| walk_at "s") => `(tactic| repeat (first | walk_at "s1" | walk_at "s2" | walk_at "fld"))
abbrev Slaw_reel : Stmt := topS 36
abbrev Nlaw_reel : List Str := ["script", "stir", "cell", "great"]
theorem sclaw_reel : FnScope Nlaw_reel ["script"] (defScope Slaw_reel) := ⟨rfl, rfl, rfl, by decide +kernel, rfl, by decide +kernel, by decide +kernel⟩
abbrev Slaw_draw : Stmt := topS 37
abbrev Nlaw_draw : List Str := ["reel", "many", "rest", "extra", "stir"]
theorem sclaw_draw : FnScope Nlaw_draw ["reel", "many"] (defScope Slaw_draw) := ⟨rfl, rfl, rfl, by decide +kernel, rfl, by decide +kernel, by decide +kernel⟩

abbrev RM : Int := 170141183460469231731687303715884105727
/-- the reel at r; the places of B are none of its own -/
def RA (H : Hp) (r : Addr) (B : List Addr) : Prop := ∃ (g c : Addr) (gs cs : List Int) (k t : Int), H r = some (.lst [.ref g, .ref c, .int k, .int t]) ∧ H g = some (.lst (vI gs)) ∧ H c = some (.lst (vI cs)) ∧ g ≠ r ∧ c ≠ r ∧ gs.length ≤ 100000 ∧ 1 ≤ cs.length ∧ cs.length ≤ 100000 ∧ 0 ≤ t ∧ t < 2 ^ 140 ∧
  ∀ x ∈ B, x ≠ r ∧ x ≠ g ∧ x ≠ c ∧ H x ≠ none
theorem RA.same {H H' : Hp} {r : Addr} {B : List Addr} (h : RA H r B) (s : Same H H') : RA H' r B := by
  obtain ⟨g, c, gs, cs, k, t, h1, h2, h3, n1, n2, l1, l2, l3, t0, t1, hb⟩ := h
  refine ⟨g, c, gs, cs, k, t, s _ _ h1, s _ _ h2, s _ _ h3, n1, n2, l1, l2, l3, t0, t1, fun x hx => ?_⟩
  obtain ⟨a, b, d, e⟩ := hb x hx
  refine ⟨a, b, d, ?_⟩
  obtain ⟨o, ho⟩ := Option.ne_none_iff_exists'.mp e
  rw [s _ _ ho]; simp
theorem RA.got {H : Hp} {r : Addr} {B : List Addr} (h : RA H r B) : H r ≠ none := by
  obtain ⟨g, c, gs, cs, k, t, h1, _⟩ := h
  rw [h1]; simp
theorem RA.ne {H : Hp} {r p : Addr} {B : List Addr} (h : RA H r B) (e : H p = none) : r ≠ p := fun z => h.got (z ▸ e)
theorem RA.less {H : Hp} {r : Addr} {B B' : List Addr} (h : RA H r B) (s : ∀ x ∈ B', x ∈ B) : RA H r B' := by
  obtain ⟨g, c, gs, cs, k, t, h1, h2, h3, n1, n2, l1, l2, l3, t0, t1, hb⟩ := h
  exact ⟨g, c, gs, cs, k, t, h1, h2, h3, n1, n2, l1, l2, l3, t0, t1, fun x hx => hb x (s x hx)⟩
theorem RA.off {H : Hp} {r x : Addr} {B : List Addr} (h : RA H r B) (hx : x ∈ B) : x ≠ r := by
  obtain ⟨g, c, gs, cs, k, t, h1, h2, h3, n1, n2, l1, l2, l3, t0, t1, hb⟩ := h
  exact (hb x hx).1
/-- a new place -/
theorem RA.new {H : Hp} {r p : Addr} {o : HO} {B : List Addr} (h : RA H r B) (e : H p = none) : RA (L2.upd H p o) r (p :: B) := by
  obtain ⟨g, c, gs, cs, k, t, h1, h2, h3, n1, n2, l1, l2, l3, t0, t1, hb⟩ := h
  have d1 : p ≠ r := fun z => by rw [z, h1] at e; cases e
  have d2 : p ≠ g := fun z => by rw [z, h2] at e; cases e
  have d3 : p ≠ c := fun z => by rw [z, h3] at e; cases e
  refine ⟨g, c, gs, cs, k, t, (upd_ne d1.symm).trans h1, (upd_ne d2.symm).trans h2, (upd_ne d3.symm).trans h3, n1, n2, l1, l2, l3, t0, t1, fun x hx => ?_⟩
  rcases List.mem_cons.mp hx with rfl | hx
  · exact ⟨d1, d2, d3, by rw [upd_same]; simp⟩
  · obtain ⟨a, b, d, z⟩ := hb x hx
    exact ⟨a, b, d, by rw [upd_ne (fun q : x = p => z (by rw [q]; exact e))]; exact z⟩
/-- a change at one of B -/
theorem RA.set {H : Hp} {r p : Addr} {o : HO} {B : List Addr} (h : RA H r B) (hp : p ∈ B) : RA (L2.upd H p o) r B := by
  obtain ⟨g, c, gs, cs, k, t, h1, h2, h3, n1, n2, l1, l2, l3, t0, t1, hb⟩ := h
  obtain ⟨d1, d2, d3, _⟩ := hb p hp
  refine ⟨g, c, gs, cs, k, t, (upd_ne d1.symm).trans h1, (upd_ne d2.symm).trans h2, (upd_ne d3.symm).trans h3, n1, n2, l1, l2, l3, t0, t1, fun x hx => ?_⟩
  obtain ⟨a, b, d, z⟩ := hb x hx
  refine ⟨a, b, d, ?_⟩
  by_cases e : x = p
  · rw [e, upd_same]; simp
  · rw [upd_ne e]; exact z
theorem ra_off {H H4 : Hp} {r g c p : Addr} {B : List Addr} {o o' : HO} (hb : ∀ x ∈ B, x ≠ r ∧ x ≠ g ∧ x ≠ c ∧ H x ≠ none) (s : Same H H4) (n : H4 p = none) : ∀ x ∈ B, x ≠ r ∧ x ≠ p ∧ x ≠ c ∧ L2.upd (L2.upd H4 p o) r o' x ≠ none := by
  intro x hx
  obtain ⟨a, b, d, z⟩ := hb x hx
  obtain ⟨u, hu⟩ := Option.ne_none_iff_exists'.mp z
  have h4 := s _ _ hu
  have np : x ≠ p := fun q => by rw [q, n] at h4; cases h4
  exact ⟨a, np, d, by rw [upd_ne a, upd_ne np, h4]; simp⟩
theorem rep_flat (n : Nat) (x : Int) : (List.replicate n [V.int x]).flatten = vI (List.replicate n x) := by
  induction n with
  | zero => rfl
  | succ n ih => rw [List.replicate_succ, List.flatten_cons, ih, List.replicate_succ]; rfl
section
variable {P : Program} {w : World} {K : PySem.W.Frag} {mg : Str → Option Value} {base : Heap}
def spDraw : Sp := fun vs H Q _ => ∃ (r : Addr) (n : Int) (B : List Addr), vs = [.ref r, .int n] ∧ RA H r B ∧ 0 < n ∧ n < 2 ^ 200 ∧ ∀ d H', 0 ≤ d → d < n → RA H' r B → Kp r H H' → Q (.int d) H'
theorem rM : ∀ y : Int, 0 ≤ y % RM ∧ y % RM < RM := fun y => ⟨Int.emod_nonneg _ (by decide), Int.emod_lt_of_pos _ (by decide)⟩
theorem rMe : (2 : Int) ^ Int.toNat 64 * 2 ^ Int.toNat 63 - 1 = RM := by decide +kernel
theorem ok_law_draw {f : Addr} {fd : FuncData} {k : Nat} (B : Bn mg) (F : Fun K "_law_draw" "_law_draw" Slaw_draw f fd) : FnG P w K mg base (k + 1) f fd ["reel", "many"] spDraw := by
  refine gok F sclaw_draw (fun vs H Q E h => ?_) (fun cdv A fs s H vs Q E hG hr h => ?_)
  · obtain ⟨r, n, _, rfl, _⟩ := h; rfl
  · obtain ⟨r, n, Bx, rfl, ⟨g, c, gs, cs, k, t, hR, hg, hc, ngr, ncr, l1, l2, l3, t0, t1, hb⟩, hn, hn2, q⟩ := h
    have hu := hr.units
    have md : ∀ y : Int, 0 ≤ y % n ∧ y % n < n := fun y => ⟨Int.emod_nonneg _ (by omega), Int.emod_lt_of_pos _ hn⟩
    refine ⟨_, (pss_cons (ps_if (pt_cmpR (k_neD K hu) (pe_ix (k_ixL K) (pv 0) pe_int (fun _ _ => rfl)) (pe_lst pa_nil) (nomark _)) (pss_cons (ps_set (i := 2) sclaw_draw.nd rfl (Or.inl rfl) (pe_ix (k_ixL K) (pe_ix (k_ixL K) (pv 0) pe_int (fun _ _ => rfl)) pe_int (fun _ _ => rfl))) (pss_cons (ps_asg (pe_op op_cat (pe_op op_rep (pe_lst (pa_cons (pe_op op_fdivW (pv 2) (pv 1)) pa_nil)) (pe_callTy call_int1' (by rfl) B.int Tint (pa_cons (pe_cmpR op_ge (pv 2) (pv 1) (nomark _)) pa_nil))) (pe_slice (k_slL K) (pe_ix (k_ixL K) (pv 0) pe_int (fun _ _ => rfl)) (po_some pe_int) po_none)) (pg_sub (pv 0) pe_int set_list)) (pss_one (ps_ret (pe_op op_mod (pv 2) (pv 1)))))) pss_nil) (pss_cons (ps_asg (pe_op op_add (pe_ix (k_ixL K) (pv 0) pe_int (fun _ _ => rfl)) pe_int) (pg_sub (pv 0) pe_int set_list)) (pss_cons (ps_set (i := 3) sclaw_draw.nd rfl (Or.inl rfl) (pe_ix (k_ixL K) (pe_ix (k_ixL K) (pv 0) pe_int (fun _ _ => rfl)) (pe_op op_mod (pe_ix (k_ixL K) (pv 0) pe_int (fun _ _ => rfl)) (pe_callB (k_len K) (by rfl) B.len Blen (pa_cons (pe_ix (k_ixL K) (pv 0) pe_int (fun _ _ => rfl)) pa_nil))) (fun _ _ => rfl))) (pss_cons (ps_set (i := 4) sclaw_draw.nd rfl (Or.inl rfl) (pe_op op_add (pe_op op_add (pe_op op_mulW (pe_ix (k_ixL K) (pv 0) pe_int (fun _ _ => rfl)) (pe_ix (k_ixL K) (pv 0) pe_int (fun _ _ => rfl))) (pe_op op_mul (pe_op op_add (pv 3) pe_int) pe_int)) (pe_op op_mul (pe_ix (k_ixL K) (pv 0) pe_int (fun _ _ => rfl)) pe_int))) (pss_cons (ps_asg (pe_op op_mod (pv 4) (pe_op op_sub (pe_op op_mul (pe_op op_pow pe_int pe_int) (pe_op op_pow pe_int pe_int)) pe_int)) (pg_sub (pv 0) pe_int set_list)) (pss_one (ps_ret (pe_op op_mod (pe_op op_fdivW (pe_ix (k_ixL K) (pv 0) pe_int (fun _ _ => rfl)) (pe_op op_pow pe_int pe_int)) (pv 1))))))))), ?_⟩
    walk_at "s"
    intro e ne
    have s1 := same_new (o := .lst []) ne
    refine r_neLI (xs := gs) (ys := []) (lst_of (s1 _ _ hg)) (lst_of upd_same) ?_
    walk_at "s"
    refine ifN (fun h0 => ?_) (fun h0 => ?_)
    · obtain ⟨x, gt, rfl⟩ : ∃ x gt, gs = x :: gt := by
        cases gs with
        | nil => exact absurd rfl h0
        | cons x gt => exact ⟨x, gt, rfl⟩
      have hR1 := s1 _ _ hR
      have hg1 := s1 _ _ hg
      have e0 : atI (vI (x :: gt)) 0 = some (.int x) := atI_ok (by decide) rfl
      walk_at "s"
      intro p1 n1
      have s2 := s1.trans (same_new (o := .lst [.int (x / n)]) n1)
      walk_at "s"
      have em : (if decide (n ≤ x) = true then (1 : Int) else 0) = (((if n ≤ x then 1 else 0 : Nat)) : Int) := by
        by_cases h : n ≤ x
        · rw [decide_eq_true h, if_pos h]; rfl
        · rw [decide_eq_false h, if_neg h]; rfl
      rw [em]
      have lm : (if n ≤ x then 1 else 0 : Nat) ≤ 1 := by split <;> decide
      generalize (if n ≤ x then 1 else 0 : Nat) = m at lm
      refine r_rep upd_same (by show 1 * m ≤ 100000; omega) (by omega) fun p2 n2 => ?_
      rw [rep_flat]
      have s3 := s2.trans (same_new (o := .lst (vI (List.replicate m (x / n)))) n2)
      have hR3 := s3 _ _ hR
      have hg3 := s3 _ _ hg
      walk_at "s"
      intro p3 n3
      rw [show cutV (vI (x :: gt)) (some 1) none = vI gt from (cut_lo (k := 1)).trans rfl]
      have s4 := s3.trans (same_new (o := .lst (vI gt)) n3)
      refine r_cat (xs := vI (List.replicate m (x / n))) (zs := vI gt) (by walk_at "hp") upd_same (sz (by rw [vI_len, vI_len, List.length_replicate]; have : gt.length + 1 ≤ 100000 := l1; omega)) fun p4 n4 => ?_
      rw [vI_app]
      have s5 := s4.trans (same_new (o := .lst (vI (List.replicate m (x / n) ++ gt))) n4)
      have hR5 := s5 _ _ hR
      have hc5 := s5 _ _ hc
      have n4r : p4 ≠ r := (ne_new n4 (s4 _ _ hR)).symm
      walk_at "s"
      refine q _ _ (md _).1 (md _).2 ⟨p4, c, _, cs, k, t, upd_same, (upd_ne n4r).trans upd_same, (upd_ne ncr).trans hc5, n4r, ncr, ?_, l2, l3, t0, t1, ra_off hb s4 n4⟩ ((Kp.of s5).trans Kp.set)
      rw [List.length_append, List.length_replicate]
      have : gt.length + 1 ≤ 100000 := l1
      omega
    · subst h0
      have hR1 := s1 _ _ hR
      have hg1 := s1 _ _ hg
      have hc1 := s1 _ _ hc
      have ner : e ≠ r := fun z => by rw [z, hR] at ne; cases ne
      have cl : ((vI cs).length : Int) = (cs.length : Int) := by rw [vI_len]
      walk_at "s"
      rw [cl]
      have j0 : 0 ≤ (k + 1) % (cs.length : Int) := Int.emod_nonneg _ (by omega)
      have j1 : (k + 1) % (cs.length : Int) < (cs.length : Int) := Int.emod_lt_of_pos _ (by omega)
      have hc2 : upd (upd H e (.lst [])) r (.lst ([V.ref g, .ref c, .int k, .int t].set (Int.toNat 2) (.int (k + 1)))) c = some (.lst (vI cs)) := (upd_ne ncr).trans hc1
      refine r_ixL (lst_of hc2) (atI_ints j0 j1) ?_
      walk_at "s"
      have tb : t.natAbs < 2 ^ 140 := by omega
      refine r_I (wide_mul (a := 140) (b := 140) tb tb (by decide) (by decide) (by decide)) ?_
      walk_at "s"
      rw [rMe]
      exact q _ _ (md _).1 (md _).2 ⟨g, c, _, cs, _, _, upd_same, (upd_ne ngr).trans ((upd_ne ngr).trans hg1), (upd_ne ncr).trans ((upd_ne ncr).trans hc1), ngr, ncr, l1, l2, l3, (rM _).1, Int.lt_trans (rM _).2 (by decide), fun x hx => by
        obtain ⟨a, b, d, z⟩ := hb x hx
        obtain ⟨u, hu⟩ := Option.ne_none_iff_exists'.mp z
        refine ⟨a, b, d, ?_⟩
        rw [upd_ne a, upd_ne a, s1 _ _ hu]; simp⟩ ((Kp.of s1).trans (Kp.set.trans Kp.set))
def spReel (K : PySem.W.Frag) : Sp := fun vs H Q _ => ∃ (a : Addr) (ns : List Int), vs = [.ref a] ∧ SqL K H a (ns.map V.int) ∧ ns.length ≤ 63 ∧ ∀ H' r, Same H H' → H r = none → RA H' r [] → Q (.ref r) H'
theorem giv_ints (n : Nat) (p : Nat → Bool) (f : Nat → Int) : giv n p (fun i => .int (f i)) = vI (((List.range n).filter p).map f) := by
  unfold giv vI
  rw [List.map_map]
  rfl
theorem ok_law_reel {f : Addr} {fd : FuncData} {k : Nat} (B : Bn mg) (F : Fun K "_law_reel" "_law_reel" Slaw_reel f fd) : FnG P w K mg base (k + 1) f fd ["script"] (spReel K) := by
  refine gok F sclaw_reel (fun vs H Q E h => ?_) (fun cdv A fs s H vs Q E hG hr h => ?_)
  · obtain ⟨_, _, rfl, _⟩ := h; rfl
  · obtain ⟨a, ns, rfl, hA, hl, q⟩ := h
    have hu := hr.units
    refine ⟨_, (pss_cons (ps_set (i := 1) sclaw_reel.nd rfl (Or.inl rfl) (pe_op op_pow pe_int pe_int)) (pss_cons (ps_for (passes_of rfl) rfl (k_piL K (pe_slice (k_slL K) (pv 0) po_none (po_some pe_int))) (pg_name (i := 2) sclaw_reel.nd rfl (Or.inl rfl)) (pss_one (ps_set (i := 1) sclaw_reel.nd rfl (Or.inl rfl) (pe_op op_mod (pe_op op_add (pe_op op_add (pe_op op_mulW (pv 1) (pv 1)) (pe_op op_mod (pv 2) pe_int)) pe_int) (pe_op op_sub (pe_op op_mul (pe_op op_pow pe_int pe_int) (pe_op op_pow pe_int pe_int)) pe_int))))) (pss_cons (ps_setLc (i := 3) (own := [("cell", 2)]) rfl sclaw_reel.nd rfl rfl (sw_true rfl rfl rfl (by decide +kernel)) (k_piL K (pe_slice (k_slL K) (pv 0) po_none (po_some pe_int))) (blkOk_by (own := [("cell", 2)]) (N := Nlaw_reel) (sc := defScope Slaw_reel) (by decide +kernel)) (fun _ _ _ _ _ => (pg_name (i := 2) sclaw_reel.nd rfl (Or.inl rfl))) (fun _ _ _ _ _ => (pts_one (pt_cmpR op_ge (pv 2) (pe_op op_pow pe_int pe_int) (nomark _)))) (fun _ _ _ _ _ => (pe_op op_sub (pv 2) (pe_op op_pow pe_int pe_int)))) (pss_one (ps_ret (pe_lst (pa_cons (pv 3) (pa_cons (pe_op op_cat (pe_lc (own := [("cell", 2)]) rfl sclaw_reel.nd (k_piL K (pe_slice (k_slL K) (pv 0) po_none (po_some pe_int))) (blkOk_by (own := [("cell", 2)]) (N := Nlaw_reel) (sc := defScope Slaw_reel) (by decide +kernel)) (fun _ _ _ _ _ => (pg_name (i := 2) sclaw_reel.nd rfl (Or.inl rfl))) (fun _ _ _ _ _ => pts_nil) (fun _ _ _ _ _ => (pe_op op_mod (pv 2) pe_int))) (pe_lst (pa_cons pe_int pa_nil))) (pa_cons pe_int (pa_cons (pv 1) pa_nil)))))))))), ?_⟩
    walk_at "s"
    intro t0 n0
    have ec : cutV (ns.map V.int) none (some 63) = vI (ns.take 63) := (cut_hi (k := 63)).trans (vI_take ns 63)
    rw [ec]
    have lc : (ns.take 63).length ≤ 63 := by rw [List.length_take]; omega
    have s1 := same_new (o := .lst (vI (ns.take 63))) n0
    refine ⟨t0, rfl, ⟨_, lst_of upd_same⟩, ?_⟩
    have e19 : (19 : Int) ^ Int.toNat 31 = 4378865740046709085864680868712732574619 := by decide +kernel
    rw [e19]
    refine for_src (src_list (xs := vI (ns.take 63))) (fun i σ H' => ∃ t v2, σ = [some (.ref a), some (.int t), v2, none] ∧ H' = upd H t0 (.lst (vI (ns.take 63))) ∧ 0 ≤ t ∧ t < 2 ^ 140) (fun i σ H' h => by obtain ⟨_, _, _, h, _⟩ := h; rw [h]; exact lst_of upd_same)
      ⟨_, none, rfl, rfl, by decide, by decide⟩ ?_ ?_
    · rintro i v σ H1 H1' hi ⟨t, v2, rfl, rfl, h0, h1⟩ ⟨rfl, hv⟩
      rw [vI_len] at hi
      rw [vI_at hi] at hv
      cases hv
      walk_at "s"
      have tb : t.natAbs < 2 ^ 140 := by omega
      refine r_I (wide_mul (a := 140) (b := 140) tb tb (by decide) (by decide) (by decide)) ?_
      walk_at "s"
      rw [rMe]
      exact ⟨_, _, rfl, rfl, (rM _).1, Int.lt_trans (rM _).2 (by decide)⟩
    · rintro σ H1 ⟨t, v2, rfl, rfl, h0, h1⟩
      have hA1 := s1.seq hA
      walk_at "s"
      intro t1 n1
      rw [ec]
      have s2 := s1.trans (same_new (o := .lst (vI (ns.take 63))) n1)
      refine ⟨t1, rfl, ⟨_, lst_of upd_same⟩, fun D1 nD1 => ?_⟩
      refine lc_pure (src_list (xs := vI (ns.take 63))) (fun i => decide (10 ^ Int.toNat 18 ≤ (ns.take 63).getD i 0)) (fun i => .int ((ns.take 63).getD i 0 - 10 ^ Int.toNat 18)) (by rw [vI_len]; omega) (fun H' s' => lst_of (s' _ _ upd_same)) ?_ nD1 fun H2 sA hD1 => ?_
      · rintro i v H3 H4 Yes No hi s3 ⟨rfl, hv⟩ hY hN
        rw [vI_len] at hi
        rw [vI_at hi] at hv
        cases hv
        have eg : (ns.take 63).getD i 0 = (ns.take 63)[i] := by rw [List.getD_eq_getElem?_getD, List.getElem?_eq_getElem hi]; rfl
        rw [eg] at hY hN
        walk_at "s"
        refine ⟨rfl, ?_⟩
        walk_at "s"
        refine ifD (fun hc => ?_) (fun hc => ?_)
        · walk_at "s"
          exact hY (decide_eq_true hc) _ (Same.refl _)
        · exact hN (decide_eq_false hc) _ (Same.refl _)
      · rw [giv_ints, vI_len] at hD1
        have gl : ((List.range (ns.take 63).length).filter fun i => decide (10 ^ Int.toNat 18 ≤ (ns.take 63).getD i 0)).length ≤ 63 := Nat.le_trans (List.length_filter_le _ _) (by rw [List.length_range]; exact lc)
        generalize eG : ((List.range (ns.take 63).length).filter fun i => decide (10 ^ Int.toNat 18 ≤ (ns.take 63).getD i 0)).map (fun i => (ns.take 63).getD i 0 - 10 ^ Int.toNat 18) = great at hD1
        have gl2 : great.length ≤ 63 := by rw [← eG, List.length_map]; exact gl
        have s3 := s2.trans sA
        have hA3 := s3.seq hA
        walk_at "s"
        intro t2 n2
        rw [ec]
        have s4 := s3.trans (same_new (o := .lst (vI (ns.take 63))) n2)
        refine ⟨t2, rfl, ⟨_, lst_of upd_same⟩, fun D2 nD2 => ?_⟩
        refine lc_pure (src_list (xs := vI (ns.take 63))) (fun _ => true) (fun i => .int ((ns.take 63).getD i 0 % 1000003)) (by rw [vI_len]; omega) (fun H' s' => lst_of (s' _ _ upd_same)) ?_ nD2 fun H5 sB hD2 => ?_
        · rintro i v H6 H7 Yes No hi s3 ⟨rfl, hv⟩ hY hN
          rw [vI_len] at hi
          rw [vI_at hi] at hv
          cases hv
          have eg : (ns.take 63).getD i 0 = (ns.take 63)[i] := by rw [List.getD_eq_getElem?_getD, List.getElem?_eq_getElem hi]; rfl
          rw [eg] at hY
          walk_at "s"
          refine ⟨rfl, ?_⟩
          walk_at "s"
          exact hY rfl _ (Same.refl _)
        · rw [giv_ints, vI_len] at hD2
          have cl : (((List.range (ns.take 63).length).filter fun _ => true).map fun i => (ns.take 63).getD i 0 % 1000003).length ≤ 63 := by
            rw [List.length_map]
            exact Nat.le_trans (List.length_filter_le _ _) (by rw [List.length_range]; exact lc)
          generalize (((List.range (ns.take 63).length).filter fun _ => true).map fun i => (ns.take 63).getD i 0 % 1000003) = cells at hD2 cl
          have s5 := s4.trans sB
          have hg5 := sB _ _ ((same_new (o := .lst (vI (ns.take 63))) n2) _ _ hD1)
          walk_at "s"
          intro t3 n3
          refine r_cat (xs := vI cells) (zs := vI [57]) (by walk_at "hp") upd_same (sz (by rw [vI_len]; show cells.length + 1 ≤ _; omega)) fun p np => ?_
          rw [vI_app]
          walk_at "s"
          intro r nr
          have s6 := ((same_new (o := .lst [.int 57]) n3).trans (same_new (o := .lst (vI (cells ++ [57]))) np))
          have nD0 : H D1 = none := s2.free nD1
          have s7 := s6.trans (same_new (o := .lst [.ref D1, .ref p, .int 0, .int t]) nr)
          exact q _ r (s5.trans s7) (s5.free (s6.free nr)) ⟨D1, p, great, cells ++ [57], 0, t, upd_same, s7 _ _ hg5, (upd_ne (ne_new nr upd_same)).trans upd_same, ne_new nr (s6 _ _ hg5), ne_new nr upd_same, by omega, by rw [List.length_append]; show 1 ≤ _ + 1; omega, by rw [List.length_append]; show cells.length + 1 ≤ _; omega, h0, h1, fun x hx => by cases hx⟩
end

end

theorem LiveAt.kpr {CL CS : Addr} {H H' : Hp} {r v s b t d : Addr} {n : Nat} {bs : List (Option Int)} {tk : List Int} {dn : List Stp} {ys : List V} (h : LiveAt CL CS H v s b t d n bs tk dn) (k : Kp r H H') (hr : H r = some (.lst ys)) (hb : b ≠ r) (ht : t ≠ r) (hd : d ≠ r) : LiveAt CL CS H' v s b t d n bs tk dn := by
  obtain ⟨⟨dx, h1⟩, ⟨⟨ds, h2⟩, h3, h4, h5⟩, ⟨as, a1, a2, a3⟩, h7, h8⟩ := h
  have nv : v ≠ r := fun e => by rw [e, hr] at h1; cases h1
  have ns : s ≠ r := fun e => by rw [e, hr] at h2; cases h2
  refine ⟨⟨dx, k _ _ nv h1⟩, ⟨⟨ds, k _ _ ns h2⟩, k _ _ hb h3, k _ _ ht h4, h5⟩, ⟨as, k _ _ hd a1, a2, fun i a s e1 e2 => ?_⟩, h7, h8⟩
  have z := a3 i a s e1 e2
  exact k _ _ (fun e => by rw [e, hr] at z; cases z) z
theorem RA.val {H : Hp} {r : Addr} {B : List Addr} (h : RA H r B) : ∃ ys, H r = some (.lst ys) := by
  obtain ⟨g, c, gs, cs, k, t, h1, _⟩ := h
  exact ⟨_, h1⟩
theorem RA.kpl {H H' : Hp} {r : Addr} {B L : List Addr} (h : RA H r B) (k : KpL L H H') (hL : ∀ x ∈ L, x ∈ B) (hB : ∀ x ∈ B, H' x ≠ none) : RA H' r B := by
  obtain ⟨g, c, gs, cs, k', t, h1, h2, h3, n1, n2, l1, l2, l3, t0, t1, hb⟩ := h
  refine ⟨g, c, gs, cs, k', t, k _ _ (fun z => (hb _ (hL _ z)).1 rfl) h1, k _ _ (fun z => (hb _ (hL _ z)).2.1 rfl) h2, k _ _ (fun z => (hb _ (hL _ z)).2.2.1 rfl) h3, n1, n2, l1, l2, l3, t0, t1, fun x hx => ?_⟩
  obtain ⟨a, b, d, _⟩ := hb x hx
  exact ⟨a, b, d, hB x hx⟩
theorem RA.grow {H H' : Hp} {r : Addr} {B L : List Addr} (h : RA H r B) (s : Same H H') (hL : ∀ x ∈ L, H x = none ∧ H' x ≠ none) : RA H' r (L ++ B) := by
  have h' := h.same s
  obtain ⟨g, c, gs, cs, k, t, h1, h2, h3, _⟩ := h
  obtain ⟨g', c', gs', cs', k', t', h1', h2', h3', n1, n2, l1, l2, l3, t0, t1, hb⟩ := h'
  have e := (s _ _ h1).symm.trans h1'
  have e2 := HO.lst.inj (Option.some.inj e)
  injection e2 with ea eb
  injection eb with ec _
  cases ea; cases ec
  refine ⟨g, c, gs', cs', k', t', h1', h2', h3', n1, n2, l1, l2, l3, t0, t1, fun x hx => ?_⟩
  rcases List.mem_append.mp hx with hx | hx
  · obtain ⟨z, z'⟩ := hL x hx
    refine ⟨?_, ?_, ?_, z'⟩
    · intro q; rw [q, h1] at z; cases z
    · intro q; rw [q, h2] at z; cases z
    · intro q; rw [q, h3] at z; cases z
  · exact hb x hx

section
local macro_rules | `(tactic| walk_at "s") => `(tactic| repeat (first | walk_at "s1" | walk_at "s2" | walk_at "fld"))
abbrev Slaw_moved : Stmt := topS 38
abbrev Nlaw_moved : List Str := ["model", "kind", "number", "books", "out", "done", "found", "book"]
theorem sclaw_moved : FnScope Nlaw_moved ["model", "kind", "number"] (defScope Slaw_moved) := ⟨rfl, rfl, rfl, by decide +kernel, rfl, by decide +kernel, by decide +kernel⟩
abbrev Slaw_next : Stmt := topS 39
abbrev Nlaw_next : List Str := ["reel", "model", "books", "out", "there", "place", "book"]
theorem sclaw_next : FnScope Nlaw_next ["reel", "model"] (defScope Slaw_next) := ⟨rfl, rfl, rfl, by decide +kernel, rfl, by decide +kernel, by decide +kernel⟩

/-- the law's model of a shelf, at m: its books, the books out, what was done -/
def Mo (G : Addr → Prop) (H : Hp) (m : Addr) (bs : List (Option Int)) (tk : List Int) (dn : List Stp) : Prop := ∃ mb mo md : Addr, H m = some (.lst [.ref mb, .ref mo, .ref md]) ∧ G m ∧ H mb = some (.lst (vB bs)) ∧ G mb ∧ H mo = some (.lst (vI tk)) ∧ G mo ∧ Tr G H (.ref md) (.list (dn.map curD))
theorem Mo.move {G G' : Addr → Prop} {H H' : Hp} {m : Addr} {bs : List (Option Int)} {tk : List Int} {dn : List Stp} (h : Mo G H m bs tk dn) (k : ∀ a o, G a → H a = some o → H' a = some o ∧ G' a) : Mo G' H' m bs tk dn := by
  obtain ⟨mb, mo, md, h1, g1, h2, g2, h3, g3, h4⟩ := h
  exact ⟨mb, mo, md, (k _ _ g1 h1).1, (k _ _ g1 h1).2, (k _ _ g2 h2).1, (k _ _ g2 h2).2, (k _ _ g3 h3).1, (k _ _ g3 h3).2, h4.move k⟩
theorem Mo.same {G : Addr → Prop} {H H' : Hp} {m : Addr} {bs : List (Option Int)} {tk : List Int} {dn : List Stp} (h : Mo G H m bs tk dn) (k : Same H H') : Mo G H' m bs tk dn := h.move fun a o g e => ⟨k _ _ e, g⟩
/-- the places of a shelf that hold a book -/
def full (bs : List (Option Int)) : List Int := ((List.range bs.length).filter fun i => decide (bs[i]? ≠ some none)).map fun i => ((i : Nat) : Int)
theorem full_mem {bs : List (Option Int)} {x : Int} (h : x ∈ full bs) : 0 ≤ x ∧ ∃ i, bs[x.toNat]? = some (some i) := by
  obtain ⟨j, hj, rfl⟩ := List.mem_map.mp h
  rw [List.mem_filter] at hj
  have hl := List.mem_range.mp hj.1
  refine ⟨by omega, ?_⟩
  rw [Int.toNat_natCast]
  have hne := of_decide_eq_true hj.2
  rw [List.getElem?_eq_getElem hl] at hne ⊢
  cases e : bs[j] with
  | none => rw [e] at hne; exact absurd rfl hne
  | some i => exact ⟨i, rfl⟩
theorem full_nil {bs : List (Option Int)} (h : full bs = []) : ∀ x ∈ bs, x = none := by
  intro x hx
  obtain ⟨j, hj, rfl⟩ := List.getElem_of_mem hx
  have : (List.range bs.length).filter (fun i => decide (bs[i]? ≠ some none)) = [] := List.map_eq_nil_iff.mp h
  have := List.filter_eq_nil_iff.mp this j (List.mem_range.mpr hj)
  rw [List.getElem?_eq_getElem hj] at this
  cases e : bs[j] with
  | none => rfl
  | some i => rw [e] at this; simp at this
theorem vB_drop (bs : List (Option Int)) (k : Nat) : (vB bs).drop k = vB (bs.drop k) := List.map_drop.symm
theorem vB_take (bs : List (Option Int)) (k : Nat) : (vB bs).take k = vB (bs.take k) := List.map_take.symm
theorem vB_app (a b : List (Option Int)) : vB a ++ vB b = vB (a ++ b) := List.map_append.symm
theorem set_cut {α : Type} (l : List α) (p : Nat) (x : α) (h : p < l.length) : (l.take p ++ [x]) ++ l.drop (p + 1) = l.set p x := by
  rw [List.set_eq_take_append_cons_drop, if_pos h, List.append_assoc]
  rfl
/-- the others, in their order -/
theorem erase_cut {tk : List Int} (h : tk.Nodup) (x : Int) : ((List.range tk.length).filter fun i => decide (tk[i]? ≠ some x)).map (fun i => tk.getD i 0) = tk.erase x := by
  have e : (List.range tk.length).map (fun i => tk.getD i 0) = tk := by
    apply List.ext_getElem?
    intro j
    rw [List.getElem?_map]
    by_cases hj : j < tk.length
    · rw [List.getElem?_range hj, List.getElem?_eq_getElem hj]
      show some (tk.getD j 0) = _
      rw [List.getD_eq_getElem?_getD, List.getElem?_eq_getElem hj]
      rfl
    · rw [List.getElem?_eq_none_iff.mpr (show (List.range tk.length).length ≤ j by rw [List.length_range]; omega), List.getElem?_eq_none_iff.mpr (show tk.length ≤ j by omega)]
      rfl
  rw [h.erase_eq_filter]
  conv => rhs; rw [← e]
  rw [List.filter_map]
  refine congrArg (List.map _) (List.filter_congr fun i hi => ?_)
  have hl := List.mem_range.mp hi
  rw [List.getElem?_eq_getElem hl]
  show decide (some tk[i] ≠ some x) = (tk.getD i 0 != x)
  rw [List.getD_eq_getElem?_getD, List.getElem?_eq_getElem hl]
  show decide (some tk[i] ≠ some x) = (tk[i] != x)
  by_cases h : tk[i] = x <;> simp [h]
section
variable {P : Program} {w : World} {K : PySem.W.Frag} {mg : Str → Option Value} {base : Heap}
def spNext : Sp := fun vs H Q _ => ∃ (r m : Addr) (B : List Addr) (G : Addr → Prop) (bs : List (Option Int)) (tk : List Int) (dn : List Stp), vs = [.ref r, .ref m] ∧ RA H r B ∧ Mo G H m bs tk dn ∧ (∀ a, G a → a ≠ r) ∧ bs.length ≤ 1000 ∧ tk.length ≤ 1000 ∧ 1 ≤ bs.length ∧ (tk = [] → none ∉ bs) ∧
  ∀ H' p k x, H' p = some (.tup [.str (kd k), .int x]) → Kp r H H' → RA H' r B → (k = true → 0 ≤ x ∧ ∃ i, bs[x.toNat]? = some (some i)) → (k = false → x ∈ tk) → Q (.ref p) H'
theorem ok_law_next {f : Addr} {fd : FuncData} (B : Bn mg) (D_law_draw : Df P w K mg base 1 "_law_draw" [] spDraw) (F : Fun K "_law_next" "_law_next" Slaw_next f fd) : FnG P w K mg base 2 f fd ["reel", "model"] spNext := by
  refine gok F sclaw_next (fun vs H Q E h => ?_) (fun cdv A fs s H vs Q E hG hr h => ?_)
  · obtain ⟨_, _, _, _, _, _, _, rfl, _⟩ := h; rfl
  · obtain ⟨r, m, Bx, G, bs, tk, dn, rfl, hR, ⟨mb, mo, md, h1, g1, h2, g2, h3, g3, h4⟩, hGr, hbl, htl, hb1, hne, q⟩ := h
    have hu := hr.units
    have nmb := hGr _ g2
    have nmo := hGr _ g3
    have two : ∀ x : Int, x ≤ 100000 → x < 2 ^ 200 := fun x h => Int.lt_of_le_of_lt h (by decide)
    refine ⟨_, (pss_cons (ps_par (i := 2) (j := 3) rfl sclaw_next.nd rfl rfl (by decide) rfl rfl (pa_cons (pe_ix (k_ixL K) (pv 1) pe_int (fun _ _ => rfl)) (pa_cons (pe_ix (k_ixL K) (pv 1) pe_int (fun _ _ => rfl)) pa_nil)) (by with_unfolding_all rfl)) (pss_cons (ps_setLc (i := 4) (own := [("place", 5), ("book", 6)]) rfl sclaw_next.nd rfl rfl (sw_true rfl rfl rfl (by decide +kernel)) (k_enum K (by rfl) B.enumerate (pa_cons (pv 2) pa_nil)) (blkOk_by (own := [("place", 5), ("book", 6)]) (N := Nlaw_next) (sc := defScope Slaw_next) (by decide +kernel)) (fun _ _ _ _ _ => (k_gtup (n := 2) K rfl (pgs_cons (pg_name (i := 5) sclaw_next.nd rfl (Or.inl rfl)) (pgs_cons (pg_name (i := 6) sclaw_next.nd rfl (Or.inl rfl)) pgs_nil)))) (fun _ _ _ _ _ => (pts_one (pt_cmpR op_notN' (pv 6) pe_non (nomark _)))) (fun _ _ _ _ _ => (pv 5))) (pss_cons (ps_if (pw_and (pt_cmpR (k_neD K hu) (pv 4) (pe_lst pa_nil) (nomark _)) (pw_and1 (pw_or (pt_cmpR (k_eqD K hu) (pv 3) (pe_lst pa_nil) (nomark _)) (pw_or1 (pt_cmpR op_lt (pe_df D_law_draw hG (hr.mono (by first | decide | omega)) passL (by rfl) (pa_cons (pv 0) (pa_cons pe_int pa_nil))) pe_int (nomark _)))).pt)).pt (pss_one (ps_ret (pe_tup (pa_cons pe_str (pa_cons (pe_ix (k_ixL K) (pv 4) (pe_df D_law_draw hG (hr.mono (by first | decide | omega)) passL (by rfl) (pa_cons (pv 0) (pa_cons (pe_callB (k_len K) (by rfl) B.len Blen (pa_cons (pv 4) pa_nil)) pa_nil))) (fun _ _ => rfl)) pa_nil))))) pss_nil) (pss_one (ps_ret (pe_tup (pa_cons pe_str (pa_cons (pe_ix (k_ixL K) (pv 3) (pe_df D_law_draw hG (hr.mono (by first | decide | omega)) passL (by rfl) (pa_cons (pv 0) (pa_cons (pe_callB (k_len K) (by rfl) B.len Blen (pa_cons (pv 3) pa_nil)) pa_nil))) (fun _ _ => rfl)) pa_nil)))))))), ?_⟩
    walk_at "s"
    refine ⟨mb, vB bs, rfl, lst_of h2, fun Dl nD => ?_⟩
    refine lc_pure src_enum (fun i => decide (bs[i]? ≠ some none)) (fun i => .int (i : Nat)) (by rw [vB_len]; omega) (fun H' s' => lst_of (s' _ _ h2)) ?_ nD fun H3 s3 hD => ?_
    · rintro i v H4 H5 Yes No hi s3 ⟨T, x, rfl, nT, rfl, hx⟩ hY hN
      rw [vB_len] at hi
      have e := vB_at (List.getElem?_eq_getElem hi)
      rw [e] at hx
      cases hx
      rw [List.getElem?_eq_getElem hi] at hY hN
      have sT := same_new (o := .tup [.int (i : Nat), bV bs[i]]) nT
      walk_at "s"
      refine ⟨rfl, ?_⟩
      walk_at "s"
      generalize bs[i] = o at *
      cases o with
      | none =>
        refine r_notN0 ?_
        walk_at "s"
        exact hN (by simp) _ sT
      | some j =>
        refine r_notNi ?_
        walk_at "s"
        exact hY (by simp) _ sT
    · have eD : giv (vB bs).length (fun i => decide (bs[i]? ≠ some none)) (fun i => V.int ((i : Nat) : Int)) = vI (full bs) := by
        rw [vB_len]
        unfold giv full vI
        rw [List.map_map]
        rfl
      rw [eD] at hD
      have hR3 := hR.same s3
      have h3' := s3 _ _ h3
      have nDr : Dl ≠ r := (hR.ne nD).symm
      have fl : (full bs).length ≤ 1000 := by
        unfold full
        rw [List.length_map]
        exact Nat.le_trans (List.length_filter_le _ _) (by rw [List.length_range]; exact hbl)
      walk_at "s"
      intro e1 ne1
      have s4 := same_new (o := .lst []) ne1
      refine r_neLI (xs := full bs) (ys := []) (lst_of (s4 _ _ hD)) (lst_of upd_same) ?_
      walk_at "s"
      have hR4 := hR3.same s4
      have h34 := s4 _ _ h3'
      have hD4 := s4 _ _ hD
      have hK4 : Kp r H (upd H3 e1 (.lst [])) := Kp.of (s3.trans s4)
      refine ifN (fun hf => ?_) (fun hf => ?_)
      · walk_at "s"
        intro e2 ne2
        have s5 := same_new (o := .lst []) ne2
        refine r_eqLI (xs := tk) (ys := []) (lst_of (s5 _ _ h34)) (lst_of upd_same) ?_
        have hR5 := hR4.same s5
        have hK5 := hK4.trans (Kp.of s5)
        have hD5 := s5 _ _ hD4
        have h35 := s5 _ _ h34
        walk_at "s"
        refine ifD (fun ht => ?_) (fun ht => ?_)
        · walk_at "s"
          refine ⟨r, _, Bx, rfl, hR5, by rw [vI_len]; have := List.length_pos_iff.mpr hf; omega, two _ (by rw [vI_len]; omega), fun x H6 x0 x1 hR6 hK6 => ?_⟩
          rw [vI_len] at x1
          have h36 := hK6.get nDr hD5
          refine r_ixL (lst_of h36) (atI_ints x0 x1) ?_
          walk_at "s"
          intro p np
          refine q _ p true _ upd_same ((Kp.trans hK5 hK6).put ((Kp.trans hK5 hK6).free np (hR6.ne np).symm)) ((hR6.new np).less fun a h => List.mem_cons_of_mem _ h) (fun _ => full_mem ?_) fun z => by cases z
          rw [List.getD_eq_getElem?_getD, List.getElem?_eq_getElem (show x.toNat < (full bs).length by omega)]
          exact List.getElem_mem _
        · walk_at "s"
          refine ⟨r, 5, Bx, rfl, hR5, by decide, by decide, fun c H7 c0 c1 hR7 hK7 => ?_⟩
          have hK57 := hK5.trans hK7
          have hD7 := hK7.get nDr hD5
          have h37 := hK7.get nmo h35
          walk_at "s"
          refine ifD (fun _ => ?_) (fun _ => ?_)
          · walk_at "s"
            refine ⟨r, _, Bx, rfl, hR7, by rw [vI_len]; have := List.length_pos_iff.mpr hf; omega, two _ (by rw [vI_len]; omega), fun x H6 x0 x1 hR6 hK6 => ?_⟩
            rw [vI_len] at x1
            have h36 := hK6.get nDr hD7
            refine r_ixL (lst_of h36) (atI_ints x0 x1) ?_
            walk_at "s"
            intro p np
            refine q _ p true _ upd_same ((Kp.trans hK57 hK6).put ((Kp.trans hK57 hK6).free np (hR6.ne np).symm)) ((hR6.new np).less fun a h => List.mem_cons_of_mem _ h) (fun _ => full_mem ?_) fun z => by cases z
            rw [List.getD_eq_getElem?_getD, List.getElem?_eq_getElem (show x.toNat < (full bs).length by omega)]
            exact List.getElem_mem _
          · walk_at "s"
            refine ⟨r, _, Bx, rfl, hR7, by rw [vI_len]; have := List.length_pos_iff.mpr ht; omega, two _ (by rw [vI_len]; omega), fun x H6 x0 x1 hR6 hK6 => ?_⟩
            rw [vI_len] at x1
            have h36 := hK6.get nmo h37
            refine r_ixL (lst_of h36) (atI_ints x0 x1) ?_
            walk_at "s"
            intro p np
            refine q _ p false _ upd_same ((Kp.trans hK57 hK6).put ((Kp.trans hK57 hK6).free np (hR6.ne np).symm)) ((hR6.new np).less fun a h => List.mem_cons_of_mem _ h) (fun z => by cases z) fun _ => ?_
            rw [List.getD_eq_getElem?_getD, List.getElem?_eq_getElem (show x.toNat < tk.length by omega)]
            exact List.getElem_mem _
      · have ht : tk ≠ [] := fun z => by
          cases bs with
          | nil => simp at hb1
          | cons x bt =>
            have := full_nil hf x List.mem_cons_self
            rw [this] at hne
            exact hne z List.mem_cons_self
        walk_at "s"
        refine ⟨r, _, Bx, rfl, hR4, by rw [vI_len]; have := List.length_pos_iff.mpr ht; omega, two _ (by rw [vI_len]; omega), fun x H6 x0 x1 hR6 hK6 => ?_⟩
        rw [vI_len] at x1
        have h36 := hK6.get nmo h34
        refine r_ixL (lst_of h36) (atI_ints x0 x1) ?_
        walk_at "s"
        intro p np
        refine q _ p false _ upd_same ((Kp.trans hK4 hK6).put ((Kp.trans hK4 hK6).free np (hR6.ne np).symm)) ((hR6.new np).less fun a h => List.mem_cons_of_mem _ h) (fun z => by cases z) fun _ => ?_
        rw [List.getD_eq_getElem?_getD, List.getElem?_eq_getElem (show x.toNat < tk.length by omega)]
        exact List.getElem_mem _
def spMoved : Sp := fun vs H Q _ => ∃ (m : Addr) (G : Addr → Prop) (bs : List (Option Int)) (tk : List Int) (dn : List Stp) (s : Stp), vs = [.ref m, .str (kd s.k), .int s.x] ∧ Mo G H m bs tk dn ∧ bs.length ≤ 1000 ∧ tk.length ≤ 1000 ∧ dn.length ≤ 1000 ∧
  (s.k = true → ∃ (p : Nat) (i : Int), s.x = p ∧ bs[p]? = some (some i) ∧ ∀ H' m' t, Same H H' → H' t = some (.tup [.ref m', .int i]) → Mo (fun a => G a ∨ H a = none) H' m' (bs.set p none) (tk ++ [i]) (dn ++ [s]) → Q (.ref t) H') ∧
  (s.k = false → ∃ p : Nat, bs[p]? = some none ∧ (∀ m : Nat, m < p → bs[m]? ≠ some none) ∧ tk.Nodup ∧ ∀ H' m' t, Same H H' → H' t = some (.tup [.ref m', .int ((p : Nat) : Int)]) → Mo (fun a => G a ∨ H a = none) H' m' (bs.set p (some s.x)) (tk.erase s.x) (dn ++ [s]) → Q (.ref t) H')
theorem ok_law_moved {f : Addr} {fd : FuncData} {k : Nat} (B : Bn mg) (F : Fun K "_law_moved" "_law_moved" Slaw_moved f fd) : FnG P w K mg base (k + 1) f fd ["model", "kind", "number"] spMoved := by
  refine gok F sclaw_moved (fun vs H Q E h => ?_) (fun cdv A fs s H vs Q E hG hr h => ?_)
  · obtain ⟨_, _, _, _, _, _, rfl, _⟩ := h; rfl
  · obtain ⟨m, G, bs, tk, dn, s, rfl, ⟨mb, mo, md, h1, g1, h2, g2, h3, g3, h4⟩, hbl, htl, hdl, qT, qR⟩ := h
    have hu := hr.units
    refine ⟨_, (pss_cons (ps_asg (pv 0) (k_gunl (n := 3) K rfl (pgs_cons (pg_name (i := 3) sclaw_moved.nd rfl (Or.inl rfl)) (pgs_cons (pg_name (i := 4) sclaw_moved.nd rfl (Or.inl rfl)) (pgs_cons (pg_name (i := 5) sclaw_moved.nd rfl (Or.inl rfl)) pgs_nil))))) (pss_cons (ps_if (pt_cmpR op_eq (pv 1) pe_str (nomark _)) (pss_cons (ps_set (i := 6) sclaw_moved.nd rfl (Or.inl rfl) (pe_ix (k_ixL K) (pv 3) (pv 2) (fun _ _ => rfl))) (pss_cons (ps_set (i := 3) sclaw_moved.nd rfl (Or.inl rfl) (pe_op op_cat (pe_op op_cat (pe_slice (k_slL K) (pv 3) po_none (po_some (pv 2))) (pe_lst (pa_cons pe_non pa_nil))) (pe_slice (k_slL K) (pv 3) (po_some (pe_op op_add (pv 2) pe_int)) po_none))) (pss_one (ps_set (i := 4) sclaw_moved.nd rfl (Or.inl rfl) (pe_op op_cat (pv 4) (pe_lst (pa_cons (pv 6) pa_nil))))))) (pss_cons (ps_set (i := 6) sclaw_moved.nd rfl (Or.inl rfl) (k_bmP K (pe_bm PySem.F.plainAttrs_list PySem.F.slot_list_index PySem.F.type_list_index (k_index K) (pv 3) (pa_cons pe_non pa_nil)))) (pss_cons (ps_set (i := 3) sclaw_moved.nd rfl (Or.inl rfl) (pe_op op_cat (pe_op op_cat (pe_slice (k_slL K) (pv 3) po_none (po_some (pv 6))) (pe_lst (pa_cons (pv 2) pa_nil))) (pe_slice (k_slL K) (pv 3) (po_some (pe_op op_add (pv 6) pe_int)) po_none))) (pss_one (ps_setLc (i := 4) (own := [("book", 7)]) rfl sclaw_moved.nd rfl rfl (sw_true rfl rfl rfl (by decide +kernel)) (k_piL K (pv 4)) (blkOk_by (own := [("book", 7)]) (N := Nlaw_moved) (sc := defScope Slaw_moved) (by decide +kernel)) (fun _ _ _ _ _ => (pg_name (i := 7) sclaw_moved.nd rfl (Or.inl rfl))) (fun _ _ _ _ _ => (pts_one (pt_cmpR op_ne (pv 7) (pv 2) (nomark _)))) (fun _ _ _ _ _ => (pv 7))))))) (pss_one (ps_ret (pe_tup (pa_cons (pe_lst (pa_cons (pv 3) (pa_cons (pv 4) (pa_cons (pe_op op_cat (pv 5) (pe_lst (pa_cons (pe_tup (pa_cons (pv 1) (pa_cons (pv 2) pa_nil))) pa_nil))) pa_nil)))) (pa_cons (pv 6) pa_nil))))))), ?_⟩
    walk_at "s"
    rw [show decide (kd s.k = ("take" : Str)) = s.k by cases s.k <;> decide]
    have hk2 : ∀ k, s.k = k → s.k = true ∨ s.k = false := fun _ _ => by cases s.k <;> simp
    rcases hk2 _ rfl with hk | hk
    · obtain ⟨p, i, ex, hp, q⟩ := qT hk
      have pl : p < bs.length := (List.getElem?_eq_some_iff.mp hp).1
      have ea : atI (vB bs) s.x = some (.int i) := by rw [ex]; exact atI_nat (vB_at hp)
      refine ifB (fun _ => ?_) (fun z => by rw [hk] at z; cases z)
      walk_at "s"
      intro a1 n1
      rw [ex, show cutV (vB bs) none (some (p : Int)) = vB (bs.take p) from cut_hi.trans (vB_take bs p)]
      have s1 := same_new (o := .lst (vB (bs.take p))) n1
      walk_at "s"
      intro a2 n2
      have s2 := s1.trans (same_new (o := .lst [.non]) n2)
      refine r_cat (xs := vB (bs.take p)) (zs := vB [none]) (by walk_at "hp") upd_same (sz (by rw [vB_len, List.length_take]; show _ + 1 ≤ _; omega)) fun a3 n3 => ?_
      rw [vB_app]
      have s3 := s2.trans (same_new (o := .lst (vB (bs.take p ++ [none]))) n3)
      have h23 := s3 _ _ h2
      walk_at "s"
      intro a4 n4
      rw [show cutV (vB bs) (some ((p : Int) + 1)) none = vB (bs.drop (p + 1)) from (cut_lo (k := p + 1)).trans (vB_drop bs (p + 1))]
      have s4 := s3.trans (same_new (o := .lst (vB (bs.drop (p + 1)))) n4)
      refine r_cat (xs := vB (bs.take p ++ [none])) (zs := vB (bs.drop (p + 1))) (by walk_at "hp") upd_same (sz (by rw [vB_len, vB_len, List.length_append, List.length_take, List.length_drop]; show _ + 1 + _ ≤ _; omega)) fun nb nnb => ?_
      rw [vB_app, set_cut bs p none pl]
      have s5 := s4.trans (same_new (o := .lst (vB (bs.set p none))) nnb)
      have h35 := s5 _ _ h3
      walk_at "s"
      intro a6 n6
      have s6 := s5.trans (same_new (o := .lst [.int i]) n6)
      refine r_cat (xs := vI tk) (zs := vI [i]) (by walk_at "hp") upd_same (sz (by rw [vI_len]; show _ + 1 ≤ _; omega)) fun no nno => ?_
      rw [vI_app]
      have s7 := s6.trans (same_new (o := .lst (vI (tk ++ [i]))) nno)
      have hnb := ((same_new n6).trans (same_new (o := .lst (vI (tk ++ [i]))) nno)) _ _ (upd_same (H := upd (upd (upd (upd H a1 (.lst (vB (bs.take p)))) a2 (.lst [.non])) a3 (.lst (vB (bs.take p ++ [none])))) a4 (.lst (vB (bs.drop (p + 1))))) (a := nb) (o := .lst (vB (bs.set p none))))
      have h4c := h4.same s7
      cases h4c with
      | lst e1 gd hz hT =>
      rename_i xs
      have xl := hT.len
      rw [List.length_map] at xl
      walk_at "s"
      intro t0 nt0
      have s01 := same_new (o := .tup [.str (kd s.k), .int p]) nt0
      walk_at "s"
      intro l1 nl1
      have s02 := s01.trans (same_new (o := .lst [.ref t0]) nl1)
      refine r_cat (xs := xs) (zs := [.ref t0]) (by walk_at "hp") upd_same (sz (by show xs.length + 1 ≤ _; omega)) fun d2 nd2 => ?_
      have s03 := s02.trans (same_new (o := .lst (xs ++ [.ref t0])) nd2)
      walk_at "s"
      intro m' nm
      have s04 := s03.trans (same_new (o := .lst [.ref nb, .ref no, .ref d2]) nm)
      walk_at "s"
      intro t nt
      have s05 := s04.trans (same_new (o := .tup [.ref m', .int i]) nt)
      have sA := s7
      refine q _ m' t (sA.trans s05) upd_same ⟨nb, no, d2, (same_new nt) _ _ upd_same, .inr ((sA.trans s03).free nm), s05 _ _ hnb, .inr (s4.free nnb), s05 _ _ upd_same, .inr (s6.free nno), ?_⟩
      rw [List.map_append]
      refine .lst (((same_new nm).trans (same_new nt)) _ _ upd_same) (.inr ((sA.trans s02).free nd2)) (by rw [List.length_append]; show xs.length + 1 ≤ _; omega) (TrAll.snoc (hT.move fun a o g e => ⟨s05 _ _ e, .inl g⟩) (by rw [show curD s = PyData.tuple [.str (kd s.k), .int p] by unfold curD; first | rfl | rw [ex]]; exact .tup (((same_new nl1).trans ((same_new nd2).trans ((same_new nm).trans (same_new nt)))) _ _ upd_same) (.inr (sA.free nt0)) (Nat.le_of_ble_eq_true rfl) (.cons (.str _) (.cons (.int _) .nil))))
    · obtain ⟨p, hp, hp2, hnd, q⟩ := qR hk
      have pl : p < bs.length := (List.getElem?_eq_some_iff.mp hp).1
      refine ifB (fun z => by rw [hk] at z; cases z) (fun _ => ?_)
      walk_at "s"
      refine r_index (lst_of h2) rfl (vB_flat bs) (vB_at hp) rfl (fun m z' hm' hz => ?_) ?_
      · unfold vB at hz
        rw [List.getElem?_map] at hz
        cases hx : bs[m]? with
        | none => rw [hx] at hz; cases hz
        | some x =>
          rw [hx] at hz
          cases hz
          cases x with
          | none => exact absurd hx (hp2 m hm')
          | some j => rfl
      walk_at "s"
      intro a1 n1
      rw [show cutV (vB bs) none (some (p : Int)) = vB (bs.take p) from cut_hi.trans (vB_take bs p)]
      have s1 := same_new (o := .lst (vB (bs.take p))) n1
      walk_at "s"
      intro a2 n2
      have s2 := s1.trans (same_new (o := .lst [.int s.x]) n2)
      refine r_cat (xs := vB (bs.take p)) (zs := vB [some s.x]) (by walk_at "hp") upd_same (sz (by rw [vB_len, List.length_take]; show _ + 1 ≤ _; omega)) fun a3 n3 => ?_
      rw [vB_app]
      have s3 := s2.trans (same_new (o := .lst (vB (bs.take p ++ [some s.x]))) n3)
      have h23 := s3 _ _ h2
      walk_at "s"
      intro a4 n4
      rw [show cutV (vB bs) (some ((p : Int) + 1)) none = vB (bs.drop (p + 1)) from (cut_lo (k := p + 1)).trans (vB_drop bs (p + 1))]
      have s4 := s3.trans (same_new (o := .lst (vB (bs.drop (p + 1)))) n4)
      refine r_cat (xs := vB (bs.take p ++ [some s.x])) (zs := vB (bs.drop (p + 1))) (by walk_at "hp") upd_same (sz (by rw [vB_len, vB_len, List.length_append, List.length_take, List.length_drop]; show _ + 1 + _ ≤ _; omega)) fun nb nnb => ?_
      rw [vB_app, set_cut bs p (some s.x) pl]
      have s5 := s4.trans (same_new (o := .lst (vB (bs.set p (some s.x)))) nnb)
      have h35 := s5 _ _ h3
      walk_at "s"
      refine ⟨mo, rfl, ⟨_, lst_of h35⟩, fun no nno => ?_⟩
      refine lc_pure (src_list (xs := vI tk)) (fun i => decide (tk[i]? ≠ some s.x)) (fun i => .int (tk.getD i 0)) (by rw [vI_len]; omega) (fun H' s' => lst_of (s' _ _ h35)) ?_ nno fun H6 s6' hno => ?_
      · rintro i v H7 H8 Yes No hi s7 ⟨rfl, hv⟩ hY hN
        rw [vI_len] at hi
        rw [vI_at hi] at hv
        cases hv
        have eg : tk.getD i 0 = tk[i] := by rw [List.getD_eq_getElem?_getD, List.getElem?_eq_getElem hi]; rfl
        rw [eg, List.getElem?_eq_getElem hi] at hY
        rw [List.getElem?_eq_getElem hi] at hN
        walk_at "s"
        refine ⟨rfl, ?_⟩
        walk_at "s"
        refine ifN (fun hc => ?_) (fun hc => ?_)
        · walk_at "s"
          exact hY (by simpa using hc) _ (Same.refl _)
        · exact hN (by simp [hc]) _ (Same.refl _)
      have eo : giv (vI tk).length (fun i => decide (tk[i]? ≠ some s.x)) (fun i => V.int (tk.getD i 0)) = vI (tk.erase s.x) := by
        rw [giv_ints, vI_len]
        exact congrArg vI (erase_cut hnd s.x)
      rw [eo] at hno
      have s7 := s5.trans s6'
      have hnb := s6' _ _ (upd_same (H := upd (upd (upd (upd H a1 (.lst (vB (bs.take p)))) a2 (.lst [.int s.x])) a3 (.lst (vB (bs.take p ++ [some s.x])))) a4 (.lst (vB (bs.drop (p + 1))))) (a := nb) (o := .lst (vB (bs.set p (some s.x)))))
      have h4c := h4.same s7
      cases h4c with
      | lst e1 gd hz hT =>
      rename_i xs
      have xl := hT.len
      rw [List.length_map] at xl
      walk_at "s"
      intro t0 nt0
      have s01 := same_new (o := .tup [.str (kd s.k), .int s.x]) nt0
      walk_at "s"
      intro l1 nl1
      have s02 := s01.trans (same_new (o := .lst [.ref t0]) nl1)
      refine r_cat (xs := xs) (zs := [.ref t0]) (by walk_at "hp") upd_same (sz (by show xs.length + 1 ≤ _; omega)) fun d2 nd2 => ?_
      have s03 := s02.trans (same_new (o := .lst (xs ++ [.ref t0])) nd2)
      walk_at "s"
      intro m' nm
      have s04 := s03.trans (same_new (o := .lst [.ref nb, .ref no, .ref d2]) nm)
      walk_at "s"
      intro t nt
      have s05 := s04.trans (same_new (o := .tup [.ref m', .int ((p : Nat) : Int)]) nt)
      have sA := s7
      refine q _ m' t (sA.trans s05) upd_same ⟨nb, no, d2, (same_new nt) _ _ upd_same, .inr ((sA.trans s03).free nm), s05 _ _ hnb, .inr (s4.free nnb), s05 _ _ hno, .inr (s5.free nno), ?_⟩
      rw [List.map_append]
      refine .lst (((same_new nm).trans (same_new nt)) _ _ upd_same) (.inr ((sA.trans s02).free nd2)) (by rw [List.length_append]; show xs.length + 1 ≤ _; omega) (TrAll.snoc (hT.move fun a o g e => ⟨s05 _ _ e, .inl g⟩) (by rw [show curD s = PyData.tuple [.str (kd s.k), .int s.x] by unfold curD; first | rfl | rw [ex]]; exact .tup (((same_new nl1).trans ((same_new nd2).trans ((same_new nm).trans (same_new nt)))) _ _ upd_same) (.inr (sA.free nt0)) (Nat.le_of_ble_eq_true rfl) (.cons (.str _) (.cons (.int _) .nil))))
end

end

theorem atI_last (xs : List V) (y : V) : atI (xs ++ [y]) (-1) = some y := by
  unfold atI
  rw [show ixN (xs ++ [y]).length (-1) = some xs.length by
    unfold ixN
    rw [List.length_append, List.length_singleton, if_neg (by decide), if_pos (by omega)]
    exact congrArg some (by omega)]
  show (xs ++ [y])[xs.length]? = some y
  rw [List.getElem?_append_right (Nat.le_refl _), Nat.sub_self]
  rfl
/-- a live shelf at v and the list at p of its models, from the first to the last -/
structure Trk (CL CS : Addr) (G : Addr → Prop) (H : Hp) (v s b t d p : Addr) (n : Nat) (dn : List Stp) (ms : List Addr) : Prop where
  lv : LiveAt CL CS H v s b t d n (runS n dn).1 (runS n dn).2 dn
  hp : H p = some (.lst (ms.map V.ref))
  ml : ms.length = dn.length + 1
  mo : ∀ (i : Nat) (m : Addr), ms[i]? = some m → Mo G H m (runS n (dn.take i)).1 (runS n (dn.take i)).2 (dn.take i)
  vl : Vld n dn
  pb : p ≠ b ∧ p ≠ t ∧ p ≠ d
theorem Trk.last {CL CS : Addr} {G : Addr → Prop} {H : Hp} {v s b t d p : Addr} {n : Nat} {dn : List Stp} {ms : List Addr} (h : Trk CL CS G H v s b t d p n dn ms) : ∃ (ms0 : List Addr) (m : Addr), ms = ms0 ++ [m] ∧ ms0.length = dn.length ∧ Mo G H m (runS n dn).1 (runS n dn).2 dn ∧ atI (ms.map V.ref) (-1) = some (.ref m) := by
  have ml := h.ml
  have ne : ms ≠ [] := fun z => by rw [z] at ml; simp at ml
  have e : ms = ms.dropLast ++ [ms.getLast ne] := (List.dropLast_concat_getLast ne).symm
  generalize ms.dropLast = ms0 at e
  generalize ms.getLast ne = m at e
  subst e
  rw [List.length_append, List.length_singleton] at ml
  have l0 : ms0.length = dn.length := by omega
  have hm := h.mo ms0.length m (by rw [List.getElem?_append_right (Nat.le_refl _), Nat.sub_self]; rfl)
  rw [l0, List.take_length] at hm
  refine ⟨ms0, m, rfl, l0, hm, ?_⟩
  rw [List.map_append]
  exact atI_last _ _
/-- changes elsewhere -/
theorem Trk.kpl {CL CS : Addr} {G : Addr → Prop} {H H' : Hp} {v s b t d p : Addr} {n : Nat} {dn : List Stp} {ms : List Addr} {L : List Addr} (h : Trk CL CS G H v s b t d p n dn ms) (k : KpL L H H') (hL : ∀ x ∈ L, ∃ ys, H x = some (.lst ys)) (hb : b ∉ L) (ht : t ∉ L) (hd : d ∉ L) (hp : p ∉ L) (hG : ∀ x, G x → x ∉ L) : Trk CL CS G H' v s b t d p n dn ms := by
  obtain ⟨⟨⟨dx, h1⟩, ⟨⟨ds, h2⟩, h3, h4, h5⟩, h6, h7, h8⟩, g2, g3, g4, g5, g6⟩ := h
  have nv : v ∉ L := fun e => by obtain ⟨ys, hy⟩ := hL v e; rw [hy] at h1; cases h1
  have ns : s ∉ L := fun e => by obtain ⟨ys, hy⟩ := hL s e; rw [hy] at h2; cases h2
  exact ⟨⟨⟨dx, k _ _ nv h1⟩, ⟨⟨ds, k _ _ ns h2⟩, k _ _ hb h3, k _ _ ht h4, h5⟩, h6.kpl k hd hL, h7, h8⟩, k _ _ hp g2, g3, fun i m e => (g4 i m e).move fun a o g e => ⟨k _ _ (hG _ g) e, g⟩, g5, g6⟩
theorem Trk.same {CL CS : Addr} {G : Addr → Prop} {H H' : Hp} {v s b t d p : Addr} {n : Nat} {dn : List Stp} {ms : List Addr} (h : Trk CL CS G H v s b t d p n dn ms) (k : Same H H') : Trk CL CS G H' v s b t d p n dn ms :=
  h.kpl (L := []) (KpL.of k) (by simp) (by simp) (by simp) (by simp) (by simp) (by simp)
theorem RA.fresh {H : Hp} {r x : Addr} {B : List Addr} (h : RA H r B) (e : H x = none) : x ∉ r :: B := by
  intro hx
  rcases List.mem_cons.mp hx with rfl | hx
  · exact h.got e
  · obtain ⟨g, c, gs, cs, k, t, h1, h2, h3, n1, n2, l1, l2, l3, t0, t1, hb⟩ := h
    exact (hb x hx).2.2.2 e
theorem RA.live {H : Hp} {r : Addr} {B : List Addr} (h : RA H r B) : ∀ x ∈ B, H x ≠ none := by
  obtain ⟨g, c, gs, cs, k, t, h1, h2, h3, n1, n2, l1, l2, l3, t0, t1, hb⟩ := h
  exact fun x hx => (hb x hx).2.2.2
theorem alive_kpl {H H' : Hp} {M L : List Addr} (a : ∀ x ∈ M, H x ≠ none) (k : KpL L H H') (l : ∀ x ∈ L, H' x ≠ none) : ∀ x ∈ M, H' x ≠ none := by
  intro x hx
  by_cases e : x ∈ L
  · exact l x e
  · obtain ⟨o, ho⟩ := Option.ne_none_iff_exists'.mp (a x hx)
    rw [k _ _ e ho]; simp
theorem LiveAt.alive {CL CS : Addr} {H : Hp} {v s b t d : Addr} {n : Nat} {bs : List (Option Int)} {tk : List Int} {dn : List Stp} (h : LiveAt CL CS H v s b t d n bs tk dn) : ∀ x ∈ [b, t, d], H x ≠ none := by
  obtain ⟨_, ⟨_, p3, p4, _⟩, ⟨_, p6, _⟩, _, _⟩ := h
  intro x hx
  simp only [List.mem_cons, List.not_mem_nil, or_false] at hx
  rcases hx with rfl | rfl | rfl
  · rw [p3]; simp
  · rw [p4]; simp
  · rw [p6]; simp
theorem Trk.snoc {CL CS : Addr} {G : Addr → Prop} {H H' : Hp} {v s b t d p m : Addr} {n : Nat} {dn : List Stp} {ms : List Addr} {st : Stp} (h : Trk CL CS G H v s b t d p n dn ms) (k : KpL [b, t, d] H H') (hG : ∀ x, G x → x ∉ [b, t, d, p]) (o : StepOk (runS n dn) st)
    (hl : LiveAt CL CS H' v s b t d n (runS n (dn ++ [st])).1 (runS n (dn ++ [st])).2 (dn ++ [st])) (hm : Mo G H' m (runS n (dn ++ [st])).1 (runS n (dn ++ [st])).2 (dn ++ [st])) :
    Trk CL CS G (L2.upd H' p (.lst (ms.map V.ref ++ [.ref m]))) v s b t d p n (dn ++ [st]) (ms ++ [m]) := by
  obtain ⟨_, g2, g3, g4, g5, g6⟩ := h
  have hp' : H' p = some (.lst (ms.map V.ref)) := k _ _ (by simp; exact ⟨g6.1, g6.2.1, g6.2.2⟩) g2
  refine ⟨hl.kpr (r := p) Kp.set hp' g6.1.symm g6.2.1.symm g6.2.2.symm, ?_, by rw [List.length_append, List.length_append, g3]; rfl, fun i m' e => ?_, .snoc g5 o, g6⟩
  · rw [upd_same, List.map_append]; rfl
  · have keep : ∀ x o, G x → H' x = some o → L2.upd H' p (.lst (ms.map V.ref ++ [.ref m])) x = some o ∧ G x := fun x o g e => ⟨(upd_ne (fun z : x = p => hG x g (by simp [z]))).trans e, g⟩
    by_cases hi : i < ms.length
    · rw [List.getElem?_append_left hi] at e
      rw [List.take_append_of_le_length (by omega)]
      exact ((g4 i m' e).move fun x o g e => ⟨k _ _ (fun z => hG x g (by simp at z ⊢; rcases z with z | z | z <;> simp [z])) e, g⟩).move keep
    · have hi' : i = ms.length := by
        have := (List.getElem?_eq_some_iff.mp e).1
        rw [List.length_append, List.length_singleton] at this
        omega
      subst hi'
      rw [List.getElem?_append_right (Nat.le_refl _), Nat.sub_self] at e
      cases e
      rw [List.take_of_length_le (by rw [List.length_append]; show dn.length + 1 ≤ _; omega)]
      exact hm.move keep
theorem set_back {α : Type} {l : List α} {p : Nat} {x y : α} (h : l[p]? = some x) : (l.set p y).set p x = l := by
  have hl := (List.getElem?_eq_some_iff.mp h).1
  have e := (List.getElem?_eq_some_iff.mp h).2
  rw [List.set_set, ← e, List.set_getElem_self]
theorem erase_back : ∀ {l : List Int} {o : Nat} {x : Int}, l[o]? = some x → (∀ m : Nat, m < o → l[m]? ≠ some x) → (l.erase x).take o ++ [x] ++ (l.erase x).drop o = l
  | [], o, x, h, _ => by simp at h
  | y :: l, 0, x, h, _ => by
    have : y = x := Option.some.inj h
    subst this
    rw [List.erase_cons_head]
    simp
  | y :: l, o + 1, x, h, no => by
    have ne : y ≠ x := fun e => no 0 (Nat.succ_pos _) (by rw [e]; rfl)
    have ih := erase_back (l := l) (o := o) (x := x) h fun m hm => no (m + 1) (by omega)
    rw [List.erase_cons_tail (by simpa using ne)]
    show y :: ((l.erase x).take o ++ [x] ++ (l.erase x).drop o) = _
    rw [ih]
theorem Trk.unsnoc {CL CS : Addr} {G : Addr → Prop} {H H' : Hp} {v s b t d p : Addr} {n : Nat} {dn : List Stp} {ms ms0 : List Addr} {m : Addr} {st : Stp} (h : Trk CL CS G H v s b t d p n (dn ++ [st]) ms) (em : ms = ms0 ++ [m]) (k : KpL [b, t, d] H H') (hG : ∀ x, G x → x ∉ [b, t, d, p])
    (hl : LiveAt CL CS H' v s b t d n (runS n dn).1 (runS n dn).2 dn) : H' p = some (.lst (ms0.map V.ref ++ [.ref m])) ∧ Trk CL CS G (L2.upd H' p (.lst (ms0.map V.ref))) v s b t d p n dn ms0 := by
  obtain ⟨_, g2, g3, g4, g5, g6⟩ := h
  subst em
  have hp' : H' p = some (.lst ((ms0 ++ [m]).map V.ref)) := k _ _ (by simp; exact ⟨g6.1, g6.2.1, g6.2.2⟩) g2
  have ml : ms0.length = dn.length + 1 := by rw [List.length_append, List.length_append] at g3; exact Nat.succ.inj g3
  refine ⟨by rw [hp', List.map_append]; rfl, hl.kpr (r := p) Kp.set hp' g6.1.symm g6.2.1.symm g6.2.2.symm, upd_same, ml, fun i m' e => ?_, g5.pop.1, g6⟩
  have hi := (List.getElem?_eq_some_iff.mp e).1
  have z := g4 i m' (by rw [List.getElem?_append_left hi]; exact e)
  rw [List.take_append_of_le_length (by omega)] at z
  exact (z.move fun x o g e => ⟨k _ _ (fun z => hG x g (by simp at z ⊢; rcases z with z | z | z <;> simp [z])) e, g⟩).move fun x o g e => ⟨(upd_ne (fun z : x = p => hG x g (by simp [z]))).trans e, g⟩

section
local macro_rules | `(tactic| walk_at "s") => `(tactic| repeat (first | walk_at "s1" | walk_at "s2" | walk_at "fld"))
abbrev Sbooks_after : Stmt := topS 20
abbrev Nbooks_after : List Str := ["size", "schedule"]
theorem scbooks_after : FnScope Nbooks_after ["size", "schedule"] (defScope Sbooks_after) := ⟨rfl, rfl, rfl, by decide +kernel, rfl, by decide +kernel, by decide +kernel⟩
abbrev Sbooks_out : Stmt := topS 21
abbrev Nbooks_out : List Str := ["size", "schedule"]
theorem scbooks_out : FnScope Nbooks_out ["size", "schedule"] (defScope Sbooks_out) := ⟨rfl, rfl, rfl, by decide +kernel, rfl, by decide +kernel, by decide +kernel⟩
abbrev Splaces_filled : Stmt := topS 22
abbrev Nplaces_filled : List Str := ["size", "schedule"]
theorem scplaces_filled : FnScope Nplaces_filled ["size", "schedule"] (defScope Splaces_filled) := ⟨rfl, rfl, rfl, by decide +kernel, rfl, by decide +kernel, by decide +kernel⟩

section
variable {P : Program} {w : World} {K : PySem.W.Frag} {mg : Str → Option Value} {base : Heap}
def spBooksAfter : Sp := fun vs H Q _ => ∃ (n : Nat) (a : Addr) (as : List Addr) (ops : List Op), vs = [.int (n : Nat), .ref a] ∧ 1 ≤ n ∧ n ≤ 200 ∧ RowsIn H a as ops ∧ ops.length ≤ 400 ∧ VldO n ops ∧ ∀ H' b, Same H H' → H b = none → H' b = some (.lst (vB (runP n ops).1.1)) → Q (.ref b) H'
theorem ok_books_after {CS f : Addr} {fd : FuncData} (S : ShK K CS) (D_performed : Df P w K mg base 4 "performed" [] (spPerformed CS)) (F : Fun K "books_after" "books_after" Sbooks_after f fd) : FnG P w K mg base 5 f fd ["size", "schedule"] spBooksAfter := by
  refine gok F scbooks_after (fun vs H Q E h => ?_) (fun cdv A fs s H vs Q E hG hr h => ?_)
  · obtain ⟨_, _, _, _, rfl, _⟩ := h; rfl
  · obtain ⟨n, a, as, ops, rfl, n1, n2, hA, ol, hv, q⟩ := h
    have hu := hr.units
    obtain ⟨cl, nb, nt⟩ := S
    refine ⟨_, (pss_one (ps_ret (k_fld K (pe_ix (k_ixT K) (pe_df D_performed hG (hr.mono (by first | decide | omega)) passL (by rfl) (pa_cons (pv 0) (pa_cons (pv 1) pa_nil))) pe_int (fun _ _ => rfl))))), ?_⟩
    walk_at "s"
    refine ⟨n, a, as, ops, rfl, n1, n2, hA, ol, hv, fun H1 u s b t f s1 nu ns nb' nt' nf hu' hS hf => ?_⟩
    obtain ⟨⟨dx, g1⟩, g2, g3, g4⟩ := hS
    walk_at "s"
    exact q _ b s1 nb' g2
def spBooksOut : Sp := fun vs H Q _ => ∃ (n : Nat) (a : Addr) (as : List Addr) (ops : List Op), vs = [.int (n : Nat), .ref a] ∧ 1 ≤ n ∧ n ≤ 200 ∧ RowsIn H a as ops ∧ ops.length ≤ 400 ∧ VldO n ops ∧ ∀ H' p l, Same H H' → H p = none → l.Perm (runP n ops).1.2 → l.Pairwise (· ≤ ·) → H' p = some (.lst (vI l)) → Q (.ref p) H'
theorem ok_books_out {CS f : Addr} {fd : FuncData} (B : Bn mg) (S : ShK K CS) (D_performed : Df P w K mg base 4 "performed" [] (spPerformed CS)) (F : Fun K "books_out" "books_out" Sbooks_out f fd) : FnG P w K mg base 5 f fd ["size", "schedule"] spBooksOut := by
  refine gok F scbooks_out (fun vs H Q E h => ?_) (fun cdv A fs s H vs Q E hG hr h => ?_)
  · obtain ⟨_, _, _, _, rfl, _⟩ := h; rfl
  · obtain ⟨n, a, as, ops, rfl, n1, n2, hA, ol, hv, q⟩ := h
    have hu := hr.units
    obtain ⟨cl, nb, nt⟩ := S
    refine ⟨_, (pss_one (ps_ret (pe_callB (k_sorted K) (by rfl) B.sorted Bsorted (pa_cons (k_fld K (pe_ix (k_ixT K) (pe_df D_performed hG (hr.mono (by first | decide | omega)) passL (by rfl) (pa_cons (pv 0) (pa_cons (pv 1) pa_nil))) pe_int (fun _ _ => rfl))) pa_nil)))), ?_⟩
    walk_at "s"
    refine ⟨n, a, as, ops, rfl, n1, n2, hA, ol, hv, fun H1 u s b t f s1 nu ns nb' nt' nf hu' hS hf => ?_⟩
    obtain ⟨⟨dx, g1⟩, g2, g3, g4⟩ := hS
    walk_at "s"
    refine r_sortI (lst_of g3) fun l p hp hs np => ?_
    exact q _ p l (s1.trans (same_new np)) (s1.free np) hp hs upd_same
def spFilledP : Sp := fun vs H Q _ => ∃ (n : Nat) (a : Addr) (as : List Addr) (ops : List Op), vs = [.int (n : Nat), .ref a] ∧ 1 ≤ n ∧ n ≤ 200 ∧ RowsIn H a as ops ∧ ops.length ≤ 400 ∧ VldO n ops ∧ ∀ H' b, Same H H' → H b = none → H' b = some (.lst (vI (runP n ops).2.1)) → Q (.ref b) H'
theorem ok_places_filled {CS f : Addr} {fd : FuncData} (D_performed : Df P w K mg base 4 "performed" [] (spPerformed CS)) (F : Fun K "places_filled" "places_filled" Splaces_filled f fd) : FnG P w K mg base 5 f fd ["size", "schedule"] spFilledP := by
  refine gok F scplaces_filled (fun vs H Q E h => ?_) (fun cdv A fs s H vs Q E hG hr h => ?_)
  · obtain ⟨_, _, _, _, rfl, _⟩ := h; rfl
  · obtain ⟨n, a, as, ops, rfl, n1, n2, hA, ol, hv, q⟩ := h
    have hu := hr.units
    refine ⟨_, (pss_one (ps_ret (pe_ix (k_ixT K) (pe_df D_performed hG (hr.mono (by first | decide | omega)) passL (by rfl) (pa_cons (pv 0) (pa_cons (pv 1) pa_nil))) pe_int (fun _ _ => rfl)))), ?_⟩
    walk_at "s"
    refine ⟨n, a, as, ops, rfl, n1, n2, hA, ol, hv, fun H1 u s b t f s1 nu ns nb' nt' nf hu' hS hf => ?_⟩
    walk_at "s"
    exact q _ f s1 nf hf
end

end

section
local macro_rules | `(tactic| walk_at "s") => `(tactic| repeat (first | walk_at "s1" | walk_at "s2" | walk_at "fld"))
abbrev Sis_schedule : Stmt := topS 19
abbrev Nis_schedule : List Str := ["size", "value"]
theorem scis_schedule : FnScope Nis_schedule ["size", "value"] (defScope Sis_schedule) := ⟨rfl, rfl, rfl, by decide +kernel, rfl, by decide +kernel, by decide +kernel⟩
abbrev Smost_out : Stmt := topS 23
abbrev Nmost_out : List Str := ["size", "schedule"]
theorem scmost_out : FnScope Nmost_out ["size", "schedule"] (defScope Smost_out) := ⟨rfl, rfl, rfl, by decide +kernel, rfl, by decide +kernel, by decide +kernel⟩

section
variable {P : Program} {w : World} {K : PySem.W.Frag} {mg : Str → Option Value} {base : Heap}
def spIsSched : Sp := fun vs H Q _ => ∃ (n : Nat) (a : Addr) (as : List Addr) (ops : List Op), vs = [.int (n : Nat), .ref a] ∧ 1 ≤ n ∧ n ≤ 200 ∧ RowsIn H a as ops ∧ ops.length ≤ 400 ∧ VldO n ops ∧ ∀ H', Same H H' → Q (.bl true) H'
theorem ok_is_schedule {CS f : Addr} {fd : FuncData} (D_performed : Df P w K mg base 4 "performed" [] (spPerformed CS)) (F : Fun K "is_schedule" "is_schedule" Sis_schedule f fd) : FnG P w K mg base 5 f fd ["size", "value"] spIsSched := by
  refine gok F scis_schedule (fun vs H Q E h => ?_) (fun cdv A fs s H vs Q E hG hr h => ?_)
  · obtain ⟨_, _, _, _, rfl, _⟩ := h; rfl
  · obtain ⟨n, a, as, ops, rfl, n1, n2, hA, ol, hv, q⟩ := h
    have hu := hr.units
    refine ⟨_, (pss_cons (ps_try_thru0 (pss_one (ps_expr (pe_df D_performed hG (hr.mono (by first | decide | omega)) passL (by rfl) (pa_cons (pv 0) (pa_cons (pv 1) pa_nil)))))) (pss_one (ps_ret pe_bl))), ?_⟩
    walk_at "s"
    refine ⟨n, a, as, ops, rfl, n1, n2, hA, ol, hv, fun H1 u s b t f s1 nu ns nb' nt nf hu hS hf => ?_⟩
    walk_at "s"
    exact q _ s1
def spMostOut : Sp := fun vs H Q _ => ∃ (n : Nat) (a : Addr) (as : List Addr) (ops : List Op), vs = [.int (n : Nat), .ref a] ∧ 1 ≤ n ∧ n ≤ 200 ∧ RowsIn H a as ops ∧ ops.length ≤ 400 ∧ VldO n ops ∧ ∀ H', Same H H' → Q (.int (runP n ops).2.2) H'
theorem ok_most_out {CS f : Addr} {fd : FuncData} (D_performed : Df P w K mg base 4 "performed" [] (spPerformed CS)) (F : Fun K "most_out" "most_out" Smost_out f fd) : FnG P w K mg base 5 f fd ["size", "schedule"] spMostOut := by
  refine gok F scmost_out (fun vs H Q E h => ?_) (fun cdv A fs s H vs Q E hG hr h => ?_)
  · obtain ⟨_, _, _, _, rfl, _⟩ := h; rfl
  · obtain ⟨n, a, as, ops, rfl, n1, n2, hA, ol, hv, q⟩ := h
    have hu := hr.units
    refine ⟨_, (pss_one (ps_ret (pe_ix (k_ixT K) (pe_df D_performed hG (hr.mono (by first | decide | omega)) passL (by rfl) (pa_cons (pv 0) (pa_cons (pv 1) pa_nil))) pe_int (fun _ _ => rfl)))), ?_⟩
    walk_at "s"
    refine ⟨n, a, as, ops, rfl, n1, n2, hA, ol, hv, fun H1 u s b t f s1 nu ns nb' nt' nf hu' hS hf => ?_⟩
    walk_at "s"
    exact q _ s1
end

end

abbrev Swords_of : Stmt := topS 32
abbrev Nwords_of : List Str := ["text", "most", "words"]
theorem scwords_of : FnScope Nwords_of ["text", "most"] (defScope Swords_of) := ⟨rfl, rfl, rfl, by decide +kernel, rfl, by decide +kernel, by decide +kernel⟩

section
variable {P : Program} {w : World} {K : PySem.W.Frag} {mg : Str → Option Value} {base : Heap}
def spWordsOf : Sp := fun vs H Q _ => ∃ (ws : List Str) (m : Int), vs = [.str (jnW ws), .int m] ∧ (ws.length : Int) ≤ m ∧ m ≤ 1000 ∧ (∀ p ∈ ws, Wd p) ∧ ∀ H' p, Same H H' → H p = none → H' p = some (.lst (ws.map V.str)) → Q (.ref p) H'
theorem ok_words_of {f : Addr} {fd : FuncData} {k : Nat} (B : Bn mg) (F : Fun K "words_of" "words_of" Swords_of f fd) : FnG P w K mg base (k + 1) f fd ["text", "most"] spWordsOf := by
  refine gok F scwords_of (fun vs H Q E h => ?_) (fun cdv A fs s H vs Q E hG hr h => ?_)
  · obtain ⟨_, _, rfl, _⟩ := h; rfl
  · obtain ⟨ws, m, rfl, hm, hm2, hR, q⟩ := h
    have hu := hr.units
    have hjl := jn_len hR
    have wl : (ws.map V.str).length = ws.length := List.length_map ..
    refine ⟨_, (pss_cons (ps_if (pt_not (pt_val (pe_callB (k_isi K) (by rfl) B.isinstance Bisinstance (pa_cons (pv 0) (pa_cons (pe_bltn (v := .ty "str") (by rfl) B.str Tstr rfl) pa_nil))))) (pss_one ps_never) pss_nil) (pss_cons (ps_set (i := 2) scwords_of.nd rfl (Or.inl rfl) (pe_ifExp (pt_cmpR op_ne (pv 0) pe_str (nomark _)) (pe_split (pv 0) pe_str) (pe_lst pa_nil))) (pss_cons (ps_if (pt_cmpR op_gt (pe_callB (k_len K) (by rfl) B.len Blen (pa_cons (pv 2) pa_nil)) (pv 1) (nomark _)) (pss_one ps_never) pss_nil) (pss_one (ps_ret (pv 2)))))), ?_⟩
    walk_at "s"
    refine ifN (fun hne => ?_) (fun he => ?_)
    · have hw : ws ≠ [] := fun e => hne (by rw [e]; exact jn_nil)
      refine r_m1 ?_
      walk_at "s"
      refine ⟨⟨_, rfl⟩, ?_⟩
      walk_at "s"
      refine ⟨_, _, rfl, rfl, by decide +kernel, sz (by omega), ?_⟩
      rw [split_jn hw hR]
      intro p np
      walk_at "s"
      rw [wl]
      refine ifDF (by omega) ?_
      walk_at "s"
      exact q _ p (same_new np) np upd_same
    · have hw : ws = [] := Classical.byContradiction fun hw => jn_ne hw hR he
      subst hw
      walk_at "s"
      intro p np
      walk_at "s"
      refine ifDF (by show ¬ ((0 : Nat) : Int) > m; have : (([] : List Str).length : Int) = 0 := rfl; omega) ?_
      walk_at "s"
      exact q _ p (same_new np) np upd_same
end

abbrev Soperation_in : Stmt := topS 33
abbrev Noperation_in : List Str := ["word", "number"]
theorem scoperation_in : FnScope Noperation_in ["word"] (defScope Soperation_in) := ⟨rfl, rfl, rfl, by decide +kernel, rfl, by decide +kernel, by decide +kernel⟩
abbrev Sparse_schedule : Stmt := topS 34
abbrev Nparse_schedule : List Str := ["size", "text", "words", "operations", "error", "word"]
theorem scparse_schedule : FnScope Nparse_schedule ["size", "text"] (defScope Sparse_schedule) := ⟨rfl, rfl, rfl, by decide +kernel, rfl, by decide +kernel, by decide +kernel⟩

theorem k_ixD (K : PySem.W.Frag) (w : World) {X : Cx} (h : X.K = K := by rfl) (h2 : X.w = w := by rfl) : IxR X (rIxD K w) := h ▸ h2 ▸ ix_kdict
/-- the letters of the operations, a dict of the module -/
structure LetK (K : PySem.W.Frag) (w : World) (d : Addr) : Prop where
  ex : ∃ es n, KDict K w d es n
  t : KDct K w d "t" (.str "take")
  r : KDct K w d "r" (.str "return")
theorem LetK.at {K : PySem.W.Frag} {w : World} {d : Addr} (h : LetK K w d) (k : Bool) : KDct K w d ⟨#[ltr k]⟩ (.str (opN k)) := by
  cases k with
  | true => exact one_t ▸ h.t
  | false => exact one_r ▸ h.r
theorem LetK.in_ {K : PySem.W.Frag} {w : World} {d : Addr} (h : LetK K w d) (k : Bool) : ∃ u, PySem.W.nsIn K d ⟨#[ltr k]⟩ = some (some u) := by
  obtain ⟨_, _, u, _, _, e, _⟩ := h.at k
  exact ⟨u, e⟩
section
variable {P : Program} {w : World} {K : PySem.W.Frag} {mg : Str → Option Value} {base : Heap}
def spOpIn : Sp := fun vs H Q _ => ∃ (k : Bool) (x : Int), vs = [.str (oW k x)] ∧ 0 ≤ x ∧ x ≤ 1000000000000000000000000000000 ∧ ∀ H' p, Same H H' → H p = none → H' p = some (.tup [.str (opN k), .int x]) → Q (.ref p) H'
theorem ok_operation_in {AL f : Addr} {fd : FuncData} (B : Bn mg) (c_LETTERS : Gc mg "LETTERS" (.ref AL)) (L : LetK K w AL) (D_number_in : Df P w K mg base 1 "number_in" [] spNumIn) (F : Fun K "operation_in" "operation_in" Soperation_in f fd) : FnG P w K mg base 2 f fd ["word"] spOpIn := by
  obtain ⟨es, nn, KD⟩ := L.ex
  refine gok F scoperation_in (fun vs H Q E h => ?_) (fun cdv A fs s H vs Q E hG hr h => ?_)
  · obtain ⟨_, _, rfl, _⟩ := h; rfl
  · obtain ⟨k, x, rfl, h0, h1, q⟩ := h
    have hu := hr.units
    have hl := oW_len k h0 h1
    refine ⟨_, (pss_cons (ps_set (i := 1) scoperation_in.nd rfl (Or.inl rfl) (pe_df D_number_in hG (hr.mono (by first | decide | omega)) passL (by rfl) (pa_cons (pe_slice sl_str (pv 0) (po_some pe_int) po_none) pa_nil))) (pss_one (ps_ret (pe_ifExp (pw_and (pt_cmpR (op_in_kd KD) (pe_slice sl_str (pv 0) po_none (po_some pe_int)) (pe_gc c_LETTERS (by rfl)) rfl) (pw_and1 (pt_cmpR op_notN' (pv 1) pe_non (nomark _)))).pt (pe_tup (pa_cons (pe_ix (k_ixD K w) (pe_gc c_LETTERS (by rfl)) (pe_ix ix_str (pv 0) pe_int (fun _ _ => rfl)) (fun _ _ => rfl)) (pa_cons (pv 1) pa_nil))) pe_non)))), ?_⟩
    walk_at "s"
    refine ⟨_, rfl, sz (by omega), ?_⟩
    rw [oW_from]
    walk_at "s"
    refine ⟨x, rfl, h0, h1, fun H1 s1 => ?_⟩
    walk_at "s"
    refine ⟨_, rfl, sz (by omega), ?_⟩
    rw [oW_to]
    walk_at "s"
    obtain ⟨u, hu'⟩ := L.in_ k
    refine ⟨_, _, rfl, rfl, hu', ?_⟩
    walk_at "s"
    rw [if_pos (show (some u).isSome = true from rfl)]
    walk_at "s"
    refine ⟨_, _, _, rfl, rfl, sz (by omega), oW_at k x, ?_⟩
    walk_at "s"
    refine ⟨AL, _, _, rfl, rfl, L.at k, ?_⟩
    walk_at "s"
    intro p np
    exact q _ p (s1.trans (same_new np)) (s1.free np) upd_same
def spParseSc : Sp := fun vs H Q _ => ∃ (n : Nat) (ops : List Op), vs = [.int (n : Nat), .str (jnW (oWs ops))] ∧ 1 ≤ n ∧ n ≤ 200 ∧ ops.length ≤ 400 ∧ VldO n ops ∧ OpsR ops ∧ ∀ (H' : Hp) (p : Addr) (as : List Addr), Same H H' → H p = none → H' p = some (.lst (as.map V.ref)) → as.length = ops.length → (∀ (i : Nat) (t : Addr) (o : Op), as[i]? = some t → ops[i]? = some o → H t = none ∧ H' t = some (.tup (opV o))) → Q (.ref p) H'
theorem ok_parse_schedule {CS f : Addr} {fd : FuncData} (B : Bn mg) (c_MAX_OPERATIONS_texts : Gc mg "MAX_OPERATIONS_texts" (.int 400)) (D_check_size : Df P w K mg base 2 "check_size" [] spCheckSize) (D_words_of : Df P w K mg base 1 "words_of" [] spWordsOf) (D_operation_in : Df P w K mg base 2 "operation_in" [] spOpIn) (D_performed : Df P w K mg base 4 "performed" [] (spPerformed CS)) (F : Fun K "parse_schedule" "parse_schedule" Sparse_schedule f fd) : FnG P w K mg base 5 f fd ["size", "text"] spParseSc := by
  refine gok F scparse_schedule (fun vs H Q E h => ?_) (fun cdv A fs s H vs Q E hG hr h => ?_)
  · obtain ⟨_, _, rfl, _⟩ := h; rfl
  · obtain ⟨n, ops, rfl, n1, n2, ol, hv, hR, q⟩ := h
    have hu := hr.units
    have wl : (oWs ops).length = ops.length := List.length_map ..
    refine ⟨_, (pss_cons (ps_expr (pe_df D_check_size hG (hr.mono (by first | decide | omega)) passL (by rfl) (pa_cons (pv 0) pa_nil))) (pss_cons (ps_set (i := 2) scparse_schedule.nd rfl (Or.inl rfl) (pe_df D_words_of hG (hr.mono (by first | decide | omega)) passL (by rfl) (pa_cons (pv 1) (pa_cons (pe_gc c_MAX_OPERATIONS_texts (by rfl)) pa_nil)))) (pss_cons (ps_setLc (i := 3) (own := [("word", 5)]) rfl scparse_schedule.nd rfl rfl (sw_true rfl rfl rfl (by decide +kernel)) (k_piL K (pv 2)) (blkOk_by (own := [("word", 5)]) (N := Nparse_schedule) (sc := defScope Sparse_schedule) (by decide +kernel)) (fun _ _ _ _ _ => (pg_name (i := 5) scparse_schedule.nd rfl (Or.inl rfl))) (fun _ _ _ _ _ => pts_nil) (fun _ _ _ _ _ => (pe_df D_operation_in hG (hr.mono (by first | decide | omega)) passL (by rfl) (pa_cons (pv 5) pa_nil)))) (pss_cons (ps_try_thru0 (pss_one (ps_expr (pe_df D_performed hG (hr.mono (by first | decide | omega)) passL (by rfl) (pa_cons (pv 0) (pa_cons (pv 3) pa_nil)))))) (pss_one (ps_ret (pv 3))))))), ?_⟩
    walk_at "s"
    refine ⟨n, rfl, by omega, by omega, ?_⟩
    walk_at "s"
    refine ⟨oWs ops, 400, rfl, by omega, by decide, wds_oW hR, fun H1 wp s1 nwp hwp => ?_⟩
    walk_at "s"
    refine ⟨wp, rfl, ⟨_, lst_of hwp⟩, fun Dl nD => ?_⟩
    have nD0 := s1.free nD
    refine lc_src (src_list (xs := (oWs ops).map V.str)) (fun i H' => Same H1 H' ∧ ∃ as : List Addr, H' Dl = some (.lst (as.map V.ref)) ∧ as.length = i ∧ ∀ (j : Nat) (t : Addr) (o : Op), as[j]? = some t → ops[j]? = some o → H1 t = none ∧ H' t = some (.tup (opV o))) (fun i H' h => lst_of (h.1 _ _ hwp)) ⟨same_new nD, [], upd_same, rfl, fun j t o e => by simp at e⟩ ?_ ?_
    · rintro i v H2 H2' hi ⟨s2, as, hD, al, hI⟩ ⟨rfl, hx⟩
      rw [List.length_map, wl] at hi
      have eo := List.getElem?_eq_getElem hi
      have hr' := hR _ (List.getElem_mem hi)
      have ex : v = .str (oW ops[i].k ops[i].x) := by
        unfold oWs at hx
        rw [List.getElem?_map, List.getElem?_map, eo] at hx
        exact (Option.some.inj hx).symm
      subst ex
      walk_at "s"
      refine ⟨rfl, ?_⟩
      walk_at "s"
      refine ⟨ops[i].k, ops[i].x, rfl, hr'.1, hr'.2, fun H3 t s3 nt ht => ?_⟩
      have hD3 := s3 _ _ hD
      have nDt : t ≠ Dl := fun z => by rw [z, hD] at nt; cases nt
      refine ⟨as.map V.ref, hD3, szl (by rw [List.length_map]; omega), same_set (s2.trans s3) nD, as ++ [t], by rw [upd_same, List.map_append]; rfl, by rw [List.length_append, al]; rfl, fun j u o e1 e2 => ?_⟩
      by_cases hj : j < as.length
      · rw [List.getElem?_append_left hj] at e1
        obtain ⟨z1, z2⟩ := hI j u o e1 e2
        have nu : u ≠ Dl := fun z => by rw [z, hD] at z2; cases z2
        exact ⟨z1, (upd_ne nu).trans (s3 _ _ z2)⟩
      · have hji : j = i := by
          have := (List.getElem?_eq_some_iff.mp e1).1
          rw [List.length_append, List.length_singleton] at this
          omega
        subst hji
        rw [List.getElem?_append_right (by omega), al, Nat.sub_self] at e1
        cases e1
        rw [eo] at e2
        cases e2
        exact ⟨s2.free nt, (upd_ne nDt).trans ht⟩
    · rintro H2 ⟨s2, as, hD, al, hI⟩
      rw [List.length_map, wl] at al
      walk_at "s"
      refine ⟨n, Dl, as, ops, rfl, n1, n2, ⟨.inl hD, al, fun j t o e1 e2 => .inr (hI j t o e1 e2).2⟩, ol, hv, fun H3 u s' b t f s3 _ _ _ _ _ _ _ _ => ?_⟩
      walk_at "s"
      exact q _ Dl as ((s1.trans s2).trans s3) nD0 (s3 _ _ hD) al fun j t o e1 e2 => ⟨s1.free (hI j t o e1 e2).1, s3 _ _ (hI j t o e1 e2).2⟩
end

/-! ### a schedule as a live shelf performs it -/
theorem dn_step {n : Nat} {ops : List Op} {i : Nat} (hv : VldO n ops) (hi : i < ops.length) {dn : List Stp} (hd : opsOf dn = ops.take i) (g : VlG n dn) :
    (ops[i].k = true ∧ ∃ (p : Nat) (b : Int), ops[i].x = p ∧ (runS n dn).1[p]? = some (some b) ∧ opsOf (dn ++ [⟨true, p, p, b, (((runS n dn).2.length : Nat) : Int)⟩]) = ops.take (i + 1) ∧ VlG n (dn ++ [⟨true, p, p, b, (((runS n dn).2.length : Nat) : Int)⟩]) ∧
      runS n (dn ++ [⟨true, p, p, b, (((runS n dn).2.length : Nat) : Int)⟩]) = ((runS n dn).1.set p none, (runS n dn).2 ++ [b])) ∨
    (ops[i].k = false ∧ ∃ (p o : Nat) (x : Int), ops[i].x = x ∧ (runS n dn).1[p]? = some none ∧ (∀ m : Nat, m < p → (runS n dn).1[m]? ≠ some none) ∧ (runS n dn).2[o]? = some x ∧ (∀ m : Nat, m < o → (runS n dn).2[m]? ≠ some x) ∧ 0 ≤ x ∧ opsOf (dn ++ [⟨false, x, p, x, o⟩]) = ops.take (i + 1) ∧ VlG n (dn ++ [⟨false, x, p, x, o⟩]) ∧
      runS n (dn ++ [⟨false, x, p, x, o⟩]) = ((runS n dn).1.set p (some x), (runS n dn).2.erase x)) := by
  obtain ⟨_, er⟩ := g.run
  have hok := hv i hi
  rw [← hd, er] at hok
  have et : ops.take (i + 1) = ops.take i ++ [ops[i]] := by rw [List.take_add_one, List.getElem?_eq_getElem hi]; rfl
  generalize ops[i] = o at *
  obtain ⟨k, x⟩ := o
  unfold OpOk at hok
  cases k with
  | true =>
    rw [if_pos rfl] at hok
    obtain ⟨p, b, e, hp⟩ := hok
    have e : x = p := e
    subst e
    refine .inl ⟨rfl, p, b, rfl, hp, ?_, .snoc g (.inl ⟨p, b, rfl, hp⟩) (fun z => by cases z), ?_⟩
    · rw [opsOf_app, hd, et]
    · rw [runS_app]
      rfl
  | false =>
    rw [if_neg (by simp)] at hok
    obtain ⟨h0, hx, hn⟩ := hok
    have h0 : 0 ≤ x := h0
    have hx : x ∈ (runS n dn).2 := hx
    obtain ⟨g1, g2⟩ := fg_at hn
    have ho : ∃ o : Nat, (runS n dn).2[o]? = some x ∧ ∀ m : Nat, m < o → (runS n dn).2[m]? ≠ some x := by
      have key : ∀ tk : List Int, x ∈ tk → ∃ o : Nat, tk[o]? = some x ∧ ∀ m : Nat, m < o → tk[m]? ≠ some x := by
        intro tk h
        induction tk with
        | nil => cases h
        | cons y r ih =>
          by_cases e : y = x
          · exact ⟨0, by rw [e]; rfl, fun m hm => by omega⟩
          · obtain ⟨o, h1, h2⟩ := ih ((List.mem_cons.mp h).resolve_left (Ne.symm e))
            refine ⟨o + 1, h1, fun m hm => ?_⟩
            cases m with
            | zero => intro z; exact e (Option.some.inj z)
            | succ m => exact h2 m (by omega)
      exact key _ hx
    obtain ⟨o, ho1, ho2⟩ := ho
    refine .inr ⟨rfl, fg (runS n dn).1, o, x, rfl, g1, g2, ho1, ho2, h0, ?_, .snoc g (.inr ⟨fg (runS n dn).1, o, x, rfl, g1, ho1, ho2⟩) (fun _ m hm => g2 m (by have z : m < ((fg (runS n dn).1 : Nat) : Int).toNat := hm; rwa [Int.toNat_natCast] at z)), ?_⟩
    · rw [opsOf_app, hd, et]
    · rw [runS_app]
      rfl

/-! ### classmethods, a class in a variable, own == and != where no repr runs around -/
/-- a classmethod as callers see it -/
structure Cm (P : Program) (w : World) (K : PySem.W.Frag) (mg : Str → Option Value) (base : Heap) (k : Nat) (x : Str) (C : Addr) (m : Str) (dvs : List V) (sp : Sp) : Prop where
  ex : ∃ (p g : Addr) (fd : FuncData) (ps : List Str) (ds : List Value), FnG P w K mg base k g fd ps sp ∧ mg x = some (.ref C) ∧ ClX.CRead K C (.type "type") ∧ ClX.CMet K C (.type "type") m p g ∧ Binds K fd ps ds ∧ Vals dvs ds
def tCmG (C : Addr) (sp : Sp) (dvs : List V) (E : XK) (t : TA) : TE := fun σ H Q => t σ H fun vs H2 => sp (.ref C :: (vs ++ dvs)) H2 Q E
/-- c(..), c a variable that holds the class at C -/
def tMakeV (C : Addr) (sp : Sp) (dvs : List V) (E : XK) (tf : TE) (t : TA) : TE := fun σ H Q => tf σ H fun c H1 => c = .ref C ∧ tMake C sp dvs E t σ H1 Q
/-- a class with its own ==, as its users see it -/
structure Eqo (P : Program) (w : World) (K : PySem.W.Frag) (mg : Str → Option Value) (base : Heap) (k : Nat) (C : Addr) (sp : Sp) : Prop where
  ex : ∃ (f : Addr) (fd : FuncData) (ps : List Str), FnG P w K mg base k f fd ps sp ∧ PySem.W.findIn K (.ref C) "__eq__" = some (some (.ref f)) ∧ PySem.W.isFn K (.ref f) = true ∧ Binds K fd ps [] ∧
    PySem.W.findIn K (.ref C) "__ne__" = some (some (.builtin "object.__ne__")) ∧ PySem.W.mroIn K C (.type "object") = some true
/-- what may stand at the right -/
def Rgt (C : Addr) (y : V) (H : Hp) : Prop := (∃ b dy gs, y = .ref b ∧ H b = some (.ins C dy gs)) ∨ y = .non ∨ (∃ i, y = .int i) ∨ (∃ t, y = .str t) ∨ (∃ b xs, y = .ref b ∧ H b = some (.lst xs)) ∨ (∃ b xs, y = .ref b ∧ H b = some (.tup xs))
def rEqo (C : Addr) (sp : Sp) (E : XK) : R2 := fun x y H Q => ∃ a dx fs, x = .ref a ∧ H a = some (.ins C dx fs) ∧ Rgt C y H ∧ sp [x, y] H (fun v H' => ∃ b, v = .bl b ∧ Q (.bl b) H') E
def rNeo (C : Addr) (sp : Sp) (E : XK) : R2 := fun x y H Q => ∃ a dx fs, x = .ref a ∧ H a = some (.ins C dx fs) ∧ Rgt C y H ∧ sp [x, y] H (fun v H' => ∃ b, v = .bl b ∧ Q (.bl (!b)) H') E
section
variable {X : Cx} {k : Nat} {f g C : Addr} {fd : FuncData} {ps : List Str} {sp : Sp} {dvs : List V} {ds : List Value} {E : XK} {x m : Str} {p pos apos : Pos} {e o : Expr} {es : List Expr} {ta tf : TE} {t : TA} {pins : List (Addr × Obj)} {σ : L2.St} {H : Hp} {s : Shared} {Q : VK}
theorem grunA {A : Around} {us : List Value} {vs : List V} (F : FnG X.prog X.w X.K X.mg X.base k f fd ps sp) (hG : A.guards = some []) (hr : Room k A) (e0 : Env0 X.prog X.w X.K X.mg X.base A X.stack s H) (hb : Binds X.K fd ps ds) (hd : Vals dvs ds)
    (hx : Passes (L2.CX X.prog X.w) X E) (I : Inv X pins σ H s) (r : Vals vs us) (h : sp (vs ++ dvs) H Q E) :
    codeAny (model X.prog X.w) A (.call (.ref f) ⟨us, []⟩) (fun r s' => match r with | .ok (.ret v) => EP X pins σ Q v s' | .ok _ => False | .error e => X.xe e s') s := by
  have rv := r.append hd
  have z := F.go A X.stack s H ⟨us, []⟩ (us ++ ds) (vs ++ dvs) Q E hG hr e0 (hb s us I.kIn (rv.length.symm.trans (F.ln _ _ _ _ h))) rv h
  refine codeAny_mono z ?_
  intro r s' hq
  cases r with
  | error e => exact hx pins σ H s e s' I hq
  | ok fl => cases fl with
    | ret u => exact I.after hq
    | next => exact hq.elim
    | brk => exact hq.elim
    | cont => exact hq.elim
theorem pe_cm {pl : Sem Bool} (M : Cm X.prog X.w X.K X.mg X.base k x C m dvs sp) (hG : X.A.guards = some []) (hr : Room k X.A) (hx : Passes (L2.CX X.prog X.w) X E) (hg : Gl X x) (ha : PA X (e :: es) t)
    (hdb : (x == ("__debug__" : Str)) = false := by decide)
    (hst : starEach (e :: es) X.env = (false, eval e X.env) :: starEach es X.env := by rfl) (hpl : (backTo pos (starEach es X.env)).any (·.1) = false := by rfl)
    (ht : eval (.Call (.Attribute (.Name x p) m apos) (e :: es) [] pos) X.env = (do
      let ov ← eval (.Name x p) X.env
      standAt apos.atName
      let (f, first) ← holding [ov] (getMethod ov m pl)
      callWith pos f first (backTo pos (starEach (e :: es) X.env)) (backToKw pos (keywordEach [] X.env))) := by rfl) :
    PE X (.Call (.Attribute (.Name x p) m apos) (e :: es) [] pos) (tCmG C sp dvs E t) := by
  obtain ⟨pr, g, fd, ps, ds, F, hm, r, c, hb, hd⟩ := M.ex
  refine ⟨fun pins s σ H Q I h => ?_⟩
  refine PySem.W.methodCall_KW (pl := pl) (ld_glob I hg hm ?_ hdb) ht
  refine ClX.getmethcm_ok I r c fun s2 I2 => ?_
  refine ClX.callwith_cm I2 (ClX.base_none I (Nat.le_refl _)) c.fi (thn (ha.run pos _ s2 σ H _ I2 h) fun us s3 ⟨vs, H2, I3, rv, q2⟩ => ⟨⟨ClX.pin_at I3, I3.kIn⟩, ?_⟩) hst hpl
  exact thn (wpAny_call (PySem.W.method_call (ClX.pin_at I3) (grunA (us := .ref C :: us) (vs := .ref C :: vs) F hG hr I3.env0 hb hd hx I3 (.cons rfl rv) q2))) fun _ _ y => ClX.unpinE y
theorem pe_cnV {y : Str} (D : Cn X.prog X.w X.K X.mg X.base k y C dvs sp) (hG : X.A.guards = some []) (hr : Room (k + 1) X.A) (hx : Passes (L2.CX X.prog X.w) X E) (hf : PE X (.Name x p) tf) (ha : PA X (e :: es) t)
    (he : starEach (e :: es) X.env = (false, eval e X.env) :: starEach es X.env := by rfl) (hpl : (backTo pos (starEach es X.env)).any (·.1) = false := by rfl) :
    PE X (.Call (.Name x p) (e :: es) [] pos) (tMakeV C sp dvs E tf t) := by
  obtain ⟨f, fd, ps, ds, F, hm, M, hb, hd⟩ := D.ex
  refine ⟨fun pins s σ H Q I h => ?_⟩
  refine wpAny_Call_Name_kw (thn (hf.run pins s σ H _ I h) fun u s1 ⟨c, H1, I1, rc, ec, q1⟩ => ?_)
  subst ec
  obtain rfl : u = Value.ref C := rc
  refine PySem.W.callWith_K (h₀ := X.base) I.ok.mod.kin M.kp (thn (ha.run pos pins s1 σ H1 _ I1 q1) fun us s2 ⟨vs, H2, I2, r, q⟩ => ⟨I2.kIn, ?_⟩) he hpl
  exact gmakes M F hG hr hb hd hx I2 r q
theorem sub_none (T : String) (l : List Value) (h : PySem.fastBuiltinMro T = some l) (hl : l.all (fun v => match v with | .ref _ => false | _ => true) = true) : PySem.W.notFirst X.K C (.type T) = true := by
  have e : l.contains (.ref C) = false := by
    rw [Bool.eq_false_iff]
    intro z
    have m := List.contains_iff_mem.mp z
    have := List.all_eq_true.mp hl _ m
    cases this
  show (_ || PySem.W.subIn X.K (.type T) (.ref C) == some false) = true
  have : PySem.W.subIn X.K (.type T) (.ref C) = some false := by
    show (PySem.fastBuiltinMro T).map (·.contains (.ref C)) = some false
    rw [h]
    exact congrArg some e
  rw [this]
  simp
theorem looks_rgt {y : V} {v : Value} (I : Inv X pins σ H s) (h : Rgt C y H) (r : RelV y v) : ∃ tb, PySem.W.Looks (model X.prog X.w) s.heap (typeOf v) tb ∧ PySem.W.notFirst X.K C tb = true := by
  rcases h with ⟨b, dy, gs, rfl, hb⟩ | rfl | ⟨i, rfl⟩ | ⟨t, rfl⟩ | ⟨b, xs, rfl, hb⟩ | ⟨b, xs, rfl, hb⟩
  · cases (show v = Value.ref b from r)
    obtain ⟨mB, J, _⟩ := ins_get I.hok hb
    obtain ⟨od, J, _⟩ := J.look
    exact ⟨_, J.type, by simp [PySem.W.notFirst]⟩
  · cases (show v = Value.none from r)
    exact ⟨.type "NoneType", PySem.W.Looks.of_pure rfl, sub_none "NoneType" _ rfl rfl⟩
  · obtain ⟨t, rfl⟩ := (show ∃ t, v = Value.int i t from r)
    exact ⟨.type "int", PySem.W.Looks.of_pure rfl, sub_none "int" _ rfl rfl⟩
  · obtain ⟨u, rfl⟩ := (show ∃ u, v = Value.str t u from r)
    exact ⟨.type "str", PySem.W.Looks.of_pure rfl, sub_none "str" _ rfl rfl⟩
  · cases (show v = Value.ref b from r)
    obtain ⟨z, its, k, r', e⟩ := I.hok b _ hb
    exact ⟨.type "list", (PySem.W.Looks.ld e).andThen .now, sub_none "list" _ rfl rfl⟩
  · cases (show v = Value.ref b from r)
    obtain ⟨its, r', ⟨o, e, hc, n, d⟩, _⟩ := I.tuple (xs := xs) (tup_of hb)
    refine ⟨.type "tuple", ?_, sub_none "tuple" _ rfl rfl⟩
    rw [← hc]
    exact (PySem.W.Looks.ld e).andThen .now
end
section
variable {prog : Program} {w : World} {A : Around} {E : Value → Shared → Prop} {s : Shared} {K : PySem.W.Frag} {x C f : Addr} {ox : Obj} {od : Option Obj} {name : Str} {b tb : Value}
open PySem.W in
theorem ifBound_B {M : Model} {id : String} {args : List Value} {Q : Option Value → Shared → Prop} (X : K.In s.heap) (I : InstAt s.heap x ox C od) (hs : findIn K (.ref C) name = some (some (.builtin id))) (hbd : ∀ self, bindSpecial (.builtin id) self = pure (.builtin id, [self]))
    (h : wpAny M A (call (.builtin id) (.ref x :: args)) (fun v => Q (some v)) E s) : wpAny M A (callSpecialIfBound? (.ref x) name args) Q E s := by
  simp only [callSpecialIfBound?, bindSpecialIfBound?]
  refine wpAny_holding (wpAny_bind (wpAny_bind (wpAny_bind (I.type.here ((looks_findIn X hs).here ?_)))))
  simp only [hbd]
  refine wpAny_bind (wpAny_askSetting (wpAny_ite ?_))
  have fin : wpAny M A (call (.builtin id) ([.ref x] ++ args) >>= fun v => pure (some v)) Q E s := wpAny_bind (wpAny_mono h (fun v s' h' => wpAny_pure h') fun _ _ h' => h')
  split
  · exact wpAny_bind (wpAny_pure (wpAny_pure fin))
  · exact wpAny_tryCatch (wpAny_bind (wpAny_pure (wpAny_pure fin)))
open PySem.W in
theorem cmp_one {op : CmpOp} {Q : Value → Shared → Prop} (hu : A.units < cLine) (X : K.In s.heap) (I : InstAt s.heap x ox C od) (hb : Looks (model prog w) s.heap (typeOf b) tb) (hn : notFirst K C tb = true)
    (one : wpAny (model prog w) A (tryCompare (.ref x) (cmpInfo op).2.1 b) (fun r s' => ∃ v, r = some v ∧ Q v s') E s) : wpAny (model prog w) A (richCompare op (.ref x) b) Q E s := by
  unfold richCompare
  simp only [oneThing_ref]
  refine wpAny_holding (wpAny_bind (wpAny_cRoomFor hu ?_))
  refine wpAny_bind (I.type.here (wpAny_bind (hb.here ?_)))
  split
  · rename_i q
    have e : subIn K tb (.ref C) = some false := by
      rcases Bool.or_eq_true_iff.mp hn with e | e
      · rw [beq_iff_eq.mp e] at q; simp at q
      · exact beq_iff_eq.mp e
    refine wpAny_bind ((looks_subIn X e).here ?_)
    simp only [Bool.false_eq_true, if_false]
    refine wpAny_bind (wpAny_mono one (fun r s' z => ?_) fun _ _ e => e)
    obtain ⟨v, rfl, hq⟩ := z
    exact wpAny_pure hq
  · refine wpAny_bind (wpAny_pure ?_)
    simp only [Bool.false_eq_true, if_false]
    refine wpAny_bind (wpAny_mono one (fun r s' z => ?_) fun _ _ e => e)
    obtain ⟨v, rfl, hq⟩ := z
    exact wpAny_pure hq
open PySem.W in
/-- object.__ne__ of an instance with an own == -/
theorem objNe_K {Q : Fin → Shared → Prop} (hu : A.units < cLine) (X : K.In s.heap) (I : InstAt s.heap x ox C od) (hs : findIn K (.ref C) "__eq__" = some (some (.ref f))) (hf : isFn K (.ref f) = true)
    (h : wpAny (model prog w) A (call (.ref f) [.ref x, b]) (fun v s' => ∃ c, v = .bool c ∧ Q (.done (.ret (.bool (!c)))) s') E s) : wpAny (model prog w) A (Builtin.«object.__ne__» ⟨[.ref x, b], []⟩) Q E s := by
  unfold Builtin.«object.__ne__»
  repeat (first
    | with_reducible refine wpAny_cRoomFor hu ?_
    | (refine wpAny_bind (m := callSpecialIfBound? (.ref x) (Str.ofString "__eq__") [b])
        (ifBound_K X I hs hf (wpAny_mono h (fun r s' hr => by
          obtain ⟨c, rfl, hq⟩ := hr
          repeat (first | exact hq | exact wpAny_pure hq | exact wpAny_truthy_bool hq | (refine wpAny_bind (m := truthy (.bool _)) (wpAny_truthy_bool ?_)) | wp_step)) fun _ _ e => e)))
    | wp_step)
end
section
variable {X : Cx} {k : Nat} {C : Addr} {sp : Sp} {E : XK}
theorem op_eqo (D : Eqo X.prog X.w X.K X.mg X.base k C sp) (hG : X.A.guards = some []) (hr : Room k X.A) (hx : Passes (L2.CX X.prog X.w) X E) : OpR X (compareOp .Eq) (rEqo C sp E) := by
  obtain ⟨f, fd, ps, F, hs, hf, hb, hne, hm⟩ := D.ex
  intro pins s σ H x y v u Q I rx ry h
  obtain ⟨a, dx, fs, rfl, ha, hy, q⟩ := h
  cases (show v = Value.ref a from rx)
  obtain ⟨mA, J, _⟩ := ins_get I.hok ha
  obtain ⟨od, J, _⟩ := J.look
  obtain ⟨tb, hb', hn⟩ := looks_rgt I hy ry
  show wpAny _ X.A (richCompare .Eq (.ref a) u) _ _ _
  refine cmp_one hr.units0 I.kIn J hb' hn ?_
  unfold tryCompare
  refine wpAny_bind (PySem.W.ifBound_K I.kIn J hs hf (wpAny_mono (wpAny_call (grunA (us := [.ref a, u]) (vs := [.ref a, y]) F hG hr I.env0 hb .nil hx I (.cons rfl (.cons ry .nil)) q)) (fun w s' z => ?_) fun _ _ e => e))
  obtain ⟨z', H', I', rz, b, rfl, qz⟩ := z
  cases (show w = Value.bool b from rz)
  exact wpAny_pure ⟨_, rfl, .bl b, H', I', rfl, qz⟩
theorem op_neo (D : Eqo X.prog X.w X.K X.mg X.base k C sp) (hG : X.A.guards = some []) (hr : Room (k + 1) X.A) (hx : Passes (L2.CX X.prog X.w) X E) : OpR X (compareOp .NotEq) (rNeo C sp E) := by
  obtain ⟨f, fd, ps, F, hs, hf, hb, hne, hm⟩ := D.ex
  intro pins s σ H x y v u Q I rx ry h
  obtain ⟨a, dx, fs, rfl, ha, hy, q⟩ := h
  cases (show v = Value.ref a from rx)
  obtain ⟨mA, J, _⟩ := ins_get I.hok ha
  obtain ⟨od, J, _⟩ := J.look
  obtain ⟨tb, hb', hn⟩ := looks_rgt I hy ry
  show wpAny _ X.A (richCompare .NotEq (.ref a) u) _ _ _
  refine cmp_one hr.units0 I.kIn J hb' hn ?_
  unfold tryCompare
  refine wpAny_bind (ifBound_B I.kIn J hne PySem.F.cmp_object.ne.bind (wpAny_call (codeAny_call_builtin PySem.F.cmp_object.ne.plain PySem.F.cmpEntry_ne
    (PySem.W.check_slot PySem.F.cmpKind_ne PySem.F.cmpSplit_ne (J.type.andThen (PySem.W.looks_mroIn I.kIn hm)) (PySem.F.cmpArgs_ne _ _) (objNe_K (Room.in1 hr).units0 I.kIn J hs hf ?_)))))
  refine wpAny_mono (wpAny_call (grunA (us := [.ref a, u]) (vs := [.ref a, y]) F hG (Room.in1 hr) I.env0.in1 hb .nil hx I (.cons rfl (.cons ry .nil)) q)) (fun w s' z => ?_) fun _ _ e => e
  obtain ⟨z', H', I', rz, b, rfl, qz⟩ := z
  cases (show w = Value.bool b from rz)
  exact ⟨b, rfl, wpAny_pure ⟨_, rfl, .bl (!b), H', I', rfl, qz⟩⟩
end
section
variable {σ : L2.St} {H : Hp} {Q : VK} {C : Addr} {sp : Sp} {dvs : List V} {E : XK} {tf : TE} {t : TA}
theorem r_cm (h : t σ H fun vs H2 => sp (.ref C :: (vs ++ dvs)) H2 Q E) : tCmG C sp dvs E t σ H Q := h
theorem r_makeV (h : tf σ H fun c H1 => c = .ref C ∧ tMake C sp dvs E t σ H1 Q) : tMakeV C sp dvs E tf t σ H Q := h
theorem r_eqo {a dx : Addr} {fs : List (Str × V)} {y : V} (h : H a = some (.ins C dx fs)) (hy : Rgt C y H) (q : sp [.ref a, y] H (fun v H' => ∃ b, v = .bl b ∧ Q (.bl b) H') E) : rEqo C sp E (.ref a) y H Q := ⟨a, dx, fs, rfl, h, hy, q⟩
theorem r_neo {a dx : Addr} {fs : List (Str × V)} {y : V} (h : H a = some (.ins C dx fs)) (hy : Rgt C y H) (q : sp [.ref a, y] H (fun v H' => ∃ b, v = .bl b ∧ Q (.bl (!b)) H') E) : rNeo C sp E (.ref a) y H Q := ⟨a, dx, fs, rfl, h, hy, q⟩
end

section
local macro_rules | `(tactic| walk_at "s") => `(tactic| repeat (first | walk_at "s1" | walk_at "s2" | walk_at "fld"))
abbrev SLiveShelf_d__eq_d_ : Stmt := inClass (topS 25) 5
abbrev NLiveShelf_d__eq_d_ : List Str := ["self", "other"]
theorem scLiveShelf_d__eq_d_ : FnScope NLiveShelf_d__eq_d_ ["self", "other"] (defScope SLiveShelf_d__eq_d_) := ⟨rfl, rfl, rfl, by decide +kernel, rfl, by decide +kernel, by decide +kernel⟩
abbrev SLiveShelf_from_schedule : Stmt := inClass (topS 25) 2
abbrev NLiveShelf_from_schedule : List Str := ["cls", "size", "schedule", "found", "kind", "number"]
theorem scLiveShelf_from_schedule : FnScope NLiveShelf_from_schedule ["cls", "size", "schedule"] (defScope SLiveShelf_from_schedule) := ⟨rfl, rfl, rfl, by decide +kernel, rfl, by decide +kernel, by decide +kernel⟩

/-- what isinstance asks of an own class -/
structure IsK (K : PySem.W.Frag) (C : Addr) : Prop where
  ca : PySem.W.findIn K (.ref C) "__class__" = some (some (.builtin "object.__class__"))
  cn : PySem.W.specialIn K (.builtin "object.__class__") "__get__" = some (some (.builtin "getset_descriptor.__get__"))
  ct : PySem.W.takesIn K (.builtin "object.__class__") = some true
  cm : PySem.W.mroIn K C (.type "object") = some true
  ck : PySem.W.kitOne K (.ref C) (.ref C) = some true
/-- a walk over a list or a tuple that stays while other places change -/
theorem r_iSqE {K : PySem.W.Frag} {σ : L2.St} {H : Hp} {R : It → Hp → Prop} {i : Nat} {a : Addr} {xs : List V} (e : σ[i]? = some (some (.ref a))) (h : Sq H a xs)
    (q : ∀ (J : It) (OK : Hp → Prop), (∀ H', H' a = H a → OK H') → Src J xs.length OK (fun i v H H' => H' = H ∧ xs[i]? = some v) → R J H) : iOr (iList K (tVar i)) (iTup K (tVar i)) σ H R :=
  h.elim (fun h => .inl ⟨.ref a, e, a, rfl, ⟨xs, lst_of h⟩, q _ (fun H' => SqL K H' a xs) (fun H' s => lst_of (s.trans h)) src_list⟩) fun h => .inr ⟨.ref a, e, a, rfl, ⟨xs, tup_of h⟩, q _ (fun H' => SqT K H' a xs) (fun H' s => tup_of (s.trans h)) src_tup⟩
def bkE : Option Int → PyData
  | some i => .int i
  | none => .none
theorem dpAll_bkE {K : PySem.W.Frag} {H : Hp} : ∀ bs : List (Option Int), DpAll K H (vB bs) (bs.map bkE)
  | [] => .nil
  | none :: bs => .cons .non (dpAll_bkE bs)
  | some i :: bs => .cons (.int i) (dpAll_bkE bs)
theorem eqs_bkE (bs : List (Option Int)) : Eqs (.list (bs.map bkE)) 1 := .list fun d hd => by
  obtain ⟨x, _, rfl⟩ := List.mem_map.mp hd
  cases x with
  | none => exact .none
  | some i => exact .int _
theorem bkE_inj {bs cs : List (Option Int)} : PyData.list (bs.map bkE) = .list (cs.map bkE) ↔ bs = cs := by
  refine ⟨fun h => ?_, fun h => by rw [h]⟩
  injection h with h
  refine List.map_inj_right ?_ |>.mp h
  intro x y e
  cases x with
  | none =>
    cases y with
    | none => rfl
    | some j => cases e
  | some i =>
    cases y with
    | none => cases e
    | some j => injection e with e; rw [e]
theorem r_eqBk {K : PySem.W.Frag} {H : Hp} {Q : VK} {a e : Addr} {bs cs : List (Option Int)} (h : SqL K H a (vB bs)) (h' : SqL K H e (vB cs)) (q : Q (.bl (decide (bs = cs))) H) : rEqD K (.ref a) (.ref e) H Q := by
  refine r_eqDD (.lst h (dpAll_bkE bs)) (.lst h' (dpAll_bkE cs)) (eqs_bkE _) (eqs_bkE _) (by decide) (by decide) fun b hb => ?_
  have : b = decide (bs = cs) := by
    rw [bkE_inj] at hb
    by_cases z : bs = cs
    · rw [decide_eq_true z, hb.mpr z]
    · rw [decide_eq_false z]
      cases b with
      | false => rfl
      | true => exact absurd (hb.mp rfl) z
  rw [this]
  exact q
theorem r_neBk {K : PySem.W.Frag} {H : Hp} {Q : VK} {a e : Addr} {bs cs : List (Option Int)} (h : SqL K H a (vB bs)) (h' : SqL K H e (vB cs)) (q : Q (.bl (!decide (bs = cs))) H) : rNeD K (.ref a) (.ref e) H Q := by
  refine r_neDD (.lst h (dpAll_bkE bs)) (.lst h' (dpAll_bkE cs)) (eqs_bkE _) (eqs_bkE _) (by decide) (by decide) fun b hb => ?_
  have : b = !decide (bs = cs) := by
    rw [Ne, bkE_inj] at hb
    by_cases z : bs = cs
    · rw [decide_eq_true z]
      cases b with
      | false => rfl
      | true => exact absurd z (hb.mp rfl)
    · rw [decide_eq_false z]
      exact hb.mpr z
  rw [this]
  exact q
section
variable {P : Program} {w : World} {K : PySem.W.Frag} {mg : Str → Option Value} {base : Heap}
def spLvEq (CL CS : Addr) : Sp := fun vs H Q _ => ∃ (v s b t d v' s' b' t' d' : Addr) (n n' : Nat) (bs bs' : List (Option Int)) (tk tk' : List Int) (dn dn' : List Stp), vs = [.ref v, .ref v'] ∧ LiveAt CL CS H v s b t d n bs tk dn ∧ LiveAt CL CS H v' s' b' t' d' n' bs' tk' dn' ∧ Q (.bl (decide (bs = bs'))) H
theorem ok_Live_eq {CL CS f : Addr} {fd : FuncData} {k : Nat} (B : Bn mg) (S : LvK K CL) (SS : ShK K CS) (I : IsK K CL) (c_LiveShelf : Gc mg "LiveShelf" (.ref CL)) (F : Fun K "__eq__" "LiveShelf.__eq__" SLiveShelf_d__eq_d_ f fd) : FnG P w K mg base (k + 1) f fd ["self", "other"] (spLvEq CL CS) := by
  refine gok F scLiveShelf_d__eq_d_ (fun vs H Q E h => ?_) (fun cdv A fs s H vs Q E hG hr h => ?_)
  · obtain ⟨_, _, _, _, _, _, _, _, _, _, _, _, _, _, _, _, _, _, rfl, _⟩ := h; rfl
  · obtain ⟨v, s, b, t, d, v', s', b', t', d', n, n', bs, bs', tk, tk', dn, dn', rfl, ⟨⟨dx, hv⟩, ⟨⟨ds, hs⟩, hb, _, _⟩, _, _, _⟩, ⟨⟨dx', hv'⟩, ⟨⟨ds', hs'⟩, hb', _, _⟩, _, _, _⟩, q⟩ := h
    have hu := hr.units
    obtain ⟨cl, nz, ns, nd⟩ := S
    obtain ⟨cS, nb, nt⟩ := SS
    refine ⟨_, (pss_one (ps_ret (pe_and (pe_callB (k_isi K) (by rfl) B.isinstance Bisinstance (pa_cons (pv 1) (pa_cons (pe_gc c_LiveShelf (by rfl)) pa_nil))) (pe_one (pe_cmpR (k_eqD K hu) (k_fld K (k_fld K (pv 0))) (k_fld K (k_fld K (pv 1))) (nomark _)))))), ?_⟩
    walk_at "s"
    refine ⟨.ref v', .ref CL, .ref CL, .ref CL, true, rfl, .own CL, .base (.ins hv' cl I.ca I.cn I.ct I.cm), I.ck, ?_⟩
    walk_at "s"
    refine r_eqBk (lst_of hb) (lst_of hb') ?_
    exact q
def spFromS (CL CS : Addr) : Sp := fun vs H Q _ => ∃ (n : Nat) (a : Addr) (as : List Addr) (ops : List Op), vs = [.ref CL, .int (n : Nat), .ref a] ∧ 1 ≤ n ∧ n ≤ 200 ∧ RowsIn H a as ops ∧ ops.length ≤ 400 ∧ VldO n ops ∧
  ∀ H' v s b t d dn, Same H H' → H v = none → H s = none → H b = none → H t = none → H d = none → LiveAt CL CS H' v s b t d n (runS n dn).1 (runS n dn).2 dn → VlG n dn → opsOf dn = ops → Q (.ref v) H'
theorem ok_Live_from {CL CS f : Addr} {fd : FuncData} (B : Bn mg) (c_TAKE : Gc mg "TAKE" (.str "take")) (S : LvK K CL) (D_performed : Df P w K mg base 4 "performed" [] (spPerformed CS)) (N_LiveShelf : Cn P w K mg base 3 "LiveShelf" CL [] (spLvInit CL CS)) (M_LiveShelf_take_book : Mt P w K mg base 3 CL "take_book" [] (spLvTake CL CS)) (M_LiveShelf_return_book : Mt P w K mg base 3 CL "return_book" [] (spLvReturn CL CS))
    (F : Fun K "from_schedule" "LiveShelf.from_schedule" SLiveShelf_from_schedule f fd) : FnG P w K mg base 5 f fd ["cls", "size", "schedule"] (spFromS CL CS) := by
  refine gok F scLiveShelf_from_schedule (fun vs H Q E h => ?_) (fun cdv A fs s H vs Q E hG hr h => ?_)
  · obtain ⟨_, _, _, _, rfl, _⟩ := h; rfl
  · obtain ⟨n, a, as, ops, rfl, n1, n2, hA, ol, hv, q⟩ := h
    have hu := hr.units
    obtain ⟨cl, nz, ns, nd⟩ := S
    refine ⟨_, (pss_cons (ps_expr (pe_df D_performed hG (hr.mono (by first | decide | omega)) passL (by rfl) (pa_cons (pv 1) (pa_cons (pv 2) pa_nil)))) (pss_cons (ps_set (i := 3) scLiveShelf_from_schedule.nd rfl (Or.inl rfl) (pe_cnV N_LiveShelf hG (hr.mono (by first | decide | omega)) passL (pv 0) (pa_cons (pv 1) pa_nil))) (pss_cons (ps_for (passes_of rfl) rfl (pi_or (k_piL K (pv 2)) (k_piT K (pv 2))) (pg_or (k_gtup (n := 2) K rfl (pgs_cons (pg_name (i := 4) scLiveShelf_from_schedule.nd rfl (Or.inl rfl)) (pgs_cons (pg_name (i := 5) scLiveShelf_from_schedule.nd rfl (Or.inl rfl)) pgs_nil))) (k_gunl (n := 2) K rfl (pgs_cons (pg_name (i := 4) scLiveShelf_from_schedule.nd rfl (Or.inl rfl)) (pgs_cons (pg_name (i := 5) scLiveShelf_from_schedule.nd rfl (Or.inl rfl)) pgs_nil)))) (pss_one (ps_if (pt_cmpR op_eq (pv 4) (pe_gc c_TAKE (by rfl)) (nomark _)) (pss_one (ps_expr (pe_mt M_LiveShelf_take_book hG (hr.mono (by first | decide | omega)) passL (pv 3) (pa_cons (pv 5) pa_nil)))) (pss_one (ps_expr (pe_mt M_LiveShelf_return_book hG (hr.mono (by first | decide | omega)) passL (pv 3) (pa_cons (pv 5) pa_nil))))))) (pss_one (ps_ret (pv 3)))))), ?_⟩
    walk_at "s"
    refine ⟨n, a, as, ops, rfl, n1, n2, hA, ol, hv, fun H1 u s' b' t' f' s1 _ _ _ _ _ _ _ _ => ?_⟩
    have hA1 := hA.same s1
    walk_at "s"
    refine r_makeV ?_
    walk_at "s"
    refine ⟨rfl, ?_⟩
    walk_at "s"
    intro v dv nv ndv ndne
    have s2 : Same H1 (upd (upd H1 dv (.own v)) v (.ins CL dv [])) := (same_new ndv).trans (same_new (by rw [upd_ne ndne.symm]; exact nv))
    refine ⟨v, dv, n, rfl, upd_same, n1, n2, fun H2 s b t d hK2 ns2 nb2 nt2 nd2 hL => ⟨rfl, ?_⟩⟩
    have s12 : Same H1 H2 := fun x o hx => hK2 x o (by simp; intro e; rw [e, nv] at hx; cases hx) (s2 _ _ hx)
    have hA2 := hA1.same s12
    have sH2 := s1.trans s12
    have nv0 := s1.free nv
    have ns0 := s1.free (s2.free ns2)
    have nb0 := s1.free (s2.free nb2)
    have nt0 := s1.free (s2.free nt2)
    have nd0 := s1.free (s2.free nd2)
    have off : ∀ x o, H x = some o → x ∉ [b, t, d] := fun x o hx => by
      simp only [List.mem_cons, List.not_mem_nil, or_false]
      rintro (e | e | e)
      · rw [e, nb0] at hx; cases hx
      · rw [e, nt0] at hx; cases hx
      · rw [e, nd0] at hx; cases hx
    obtain ⟨oA, hAo⟩ := hA.1.there
    walk_at "s"
    refine r_iSqE rfl hA2.1 fun J OK ok S => ?_
    refine for_src S (fun i σ H' => ∃ v4 v5 dn, σ = [some (.ref CL), some (.int (n : Nat)), some (.ref a), some (.ref v), v4, v5] ∧ KpL [b, t, d] H2 H' ∧ LiveAt CL CS H' v s b t d n (runS n dn).1 (runS n dn).2 dn ∧ VlG n dn ∧ opsOf dn = ops.take i) (fun i σ H' h => by
      obtain ⟨_, _, _, _, k, _⟩ := h
      exact ok _ ((k _ _ (off _ _ hAo) (sH2 _ _ hAo)).trans (sH2 _ _ hAo).symm)) ⟨none, none, [], rfl, KpL.refl _ _, hL, .nil, rfl⟩ ?_ ?_
    · rintro i x σ H3' H3 hi ⟨v4, v5, dn, rfl, hK3, hL3, hg, hd⟩ ⟨rfl, hx⟩
      rw [List.length_map, hA.2.1] at hi
      have hia : i < as.length := by rw [hA.2.1]; exact hi
      rw [List.getElem?_map, List.getElem?_eq_getElem hia] at hx
      cases hx
      have hrow := hA.2.2 i _ _ (List.getElem?_eq_getElem hia) (List.getElem?_eq_getElem hi)
      have hrow3 : Sq H3 as[i] [.str (opN ops[i].k), .int ops[i].x] := hrow.elim (fun h => .inl (hK3 _ _ (off _ _ h) (sH2 _ _ h))) fun h => .inr (hK3 _ _ (off _ _ h) (sH2 _ _ h))
      have dl : dn.length ≤ 400 := by rw [← opsOf_len, hd, List.length_take]; omega
      have hSt := hg.st
      have hcnt := hSt.cnt
      have hlen := hSt.len
      have hcl := List.count_le_length (a := none) (l := (runS n dn).1)
      have step := dn_step hv hi hd hg
      generalize as[i] = y at *
      generalize ops[i] = o at *
      obtain ⟨k, z⟩ := o
      obtain ⟨⟨dx, hv3⟩, _⟩ := id hL3
      refine r_gOr1 hrow3 rfl ?_
      walk_at "s"
      rcases step with ⟨ek, p, i0, ex, hp, eo, g', er⟩ | ⟨ek, p, o, z', ex, hp, hp2, ho, ho2, h0, eo, g', er⟩
      · have ek : k = true := ek
        have ex : z = p := ex
        subst ek ex
        walk_at "s"
        refine ⟨v, s, b, t, d, n, _, _, dn, p, i0, rfl, hL3, hp, by omega, by omega, fun H4 hK4 hL4 => ?_⟩
        walk_at "s"
        exact ⟨_, _, _, rfl, hK3.trans hK4, by rw [er]; exact hL4, g', eo⟩
      · have ek : k = false := ek
        have ex : z = z' := ex
        subst ek ex
        walk_at "s"
        refine ifDF (by show ¬ (("return" : Str) = "take"); decide +kernel) ?_
        walk_at "s"
        refine ⟨v, s, b, t, d, n, _, _, dn, p, o, z, rfl, hL3, h0, hp, hp2, ho, ho2, by omega, fun H4 hK4 hL4 => ?_⟩
        walk_at "s"
        exact ⟨_, _, _, rfl, hK3.trans hK4, by rw [er]; exact hL4, g', eo⟩
    · rintro σ H3 ⟨v4, v5, dn, rfl, hK3, hL3, hg, hd⟩
      rw [List.length_map, hA.2.1, List.take_length] at hd
      walk_at "s"
      exact q _ v s b t d dn (fun x o hx => hK3 _ _ (off _ _ hx) (sH2 _ _ hx)) nv0 ns0 nb0 nt0 nd0 hL3 hg hd
end

end

section
local macro_rules | `(tactic| walk_at "s") => `(tactic| repeat (first | walk_at "s1" | walk_at "s2" | walk_at "fld"))
abbrev Slaw_led : Stmt := topS 40
abbrev Nlaw_led : List Str := ["size", "schedule", "some", "filled", "most", "kind", "number"]
theorem sclaw_led : FnScope Nlaw_led ["size", "schedule"] (defScope Slaw_led) := ⟨rfl, rfl, rfl, by decide +kernel, rfl, by decide +kernel, by decide +kernel⟩

theorem live_kpl {CL CS : Addr} {H H' : Hp} {v s b t d : Addr} {n : Nat} {bs : List (Option Int)} {tk : List Int} {dn : List Stp} {L : List Addr} (h : LiveAt CL CS H v s b t d n bs tk dn) (k : KpL L H H') (hL : ∀ x ∈ L, ∃ ys, H x = some (.lst ys)) (hb : b ∉ L) (ht : t ∉ L) (hd : d ∉ L) : LiveAt CL CS H' v s b t d n bs tk dn := by
  obtain ⟨⟨dx, h1⟩, ⟨⟨ds, h2⟩, h3, h4, h5⟩, h6, h7, h8⟩ := h
  have nv : v ∉ L := fun e => by obtain ⟨ys, hy⟩ := hL v e; rw [hy] at h1; cases h1
  have ns : s ∉ L := fun e => by obtain ⟨ys, hy⟩ := hL s e; rw [hy] at h2; cases h2
  exact ⟨⟨dx, k _ _ nv h1⟩, ⟨⟨ds, k _ _ ns h2⟩, k _ _ hb h3, k _ _ ht h4, h5⟩, h6.kpl k hd hL, h7, h8⟩
/-- a new shelf's three lists are no old places -/
theorem off3 {H : Hp} {b t d : Addr} (hb : H b = none) (ht : H t = none) (hd : H d = none) {x : Addr} {o : HO} (hx : H x = some o) : x ∉ [b, t, d] := by
  simp only [List.mem_cons, List.not_mem_nil, or_false]
  rintro (e | e | e)
  · rw [e, hb] at hx; cases hx
  · rw [e, ht] at hx; cases hx
  · rw [e, hd] at hx; cases hx
theorem stepP_take (s : Sh × List Int × Int) (x : Int) : stepP s ⟨true, x⟩ = (stepO s.1 ⟨true, x⟩, s.2.1, if (((stepO s.1 ⟨true, x⟩).2.length : Nat) : Int) > s.2.2 then (((stepO s.1 ⟨true, x⟩).2.length : Nat) : Int) else s.2.2) := rfl
theorem stepP_back (s : Sh × List Int × Int) (x : Int) : stepP s ⟨false, x⟩ = (stepO s.1 ⟨false, x⟩, s.2.1 ++ [((fg s.1.1 : Nat) : Int)], if (((stepO s.1 ⟨false, x⟩).2.length : Nat) : Int) > s.2.2 then (((stepO s.1 ⟨false, x⟩).2.length : Nat) : Int) else s.2.2) := rfl
section
variable {P : Program} {w : World} {K : PySem.W.Frag} {mg : Str → Option Value} {base : Heap}
def spLed (CL CS : Addr) : Sp := fun vs H Q _ => ∃ (n : Nat) (a : Addr) (as : List Addr) (ops : List Op), vs = [.int (n : Nat), .ref a] ∧ 1 ≤ n ∧ n ≤ 200 ∧ RowsIn H a as ops ∧ ops.length ≤ 400 ∧ VldO n ops ∧
  ∀ H' T v s b t d f dn, Same H H' → H' T = some (.tup [.ref v, .ref f, .int (runP n ops).2.2]) → H' f = some (.lst (vI (runP n ops).2.1)) → LiveAt CL CS H' v s b t d n (runS n dn).1 (runS n dn).2 dn → VlG n dn → opsOf dn = ops → Q (.ref T) H'
theorem ok_law_led {CL CS f : Addr} {fd : FuncData} (B : Bn mg) (S : LvK K CL) (N_LiveShelf : Cn P w K mg base 3 "LiveShelf" CL [] (spLvInit CL CS)) (M_LiveShelf_take_book : Mt P w K mg base 3 CL "take_book" [] (spLvTake CL CS)) (M_LiveShelf_return_book : Mt P w K mg base 3 CL "return_book" [] (spLvReturn CL CS)) (M_LiveShelf_current_out : Mt P w K mg base 1 CL "current_out" [] (spLvOut CL CS))
    (F : Fun K "_law_led" "_law_led" Slaw_led f fd) : FnG P w K mg base 5 f fd ["size", "schedule"] (spLed CL CS) := by
  refine gok F sclaw_led (fun vs H Q E h => ?_) (fun cdv A fs s H vs Q E hG hr h => ?_)
  · obtain ⟨_, _, _, _, rfl, _⟩ := h; rfl
  · obtain ⟨n, a, as, ops, rfl, n1, n2, hA, ol, hv, q⟩ := h
    have hu := hr.units
    obtain ⟨cl, nz, ns, nd⟩ := S
    obtain ⟨oA, hAo⟩ := hA.1.there
    refine ⟨_, (pss_cons (ps_par3 (i := 2) (j := 3) (l := 4) rfl sclaw_led.nd rfl rfl rfl (by decide) (by decide) (by decide) rfl rfl rfl (pa_cons (pe_cn N_LiveShelf hG (hr.mono (by first | decide | omega)) passL (by rfl) (pa_cons (pv 0) pa_nil)) (pa_cons (pe_lst pa_nil) (pa_cons pe_int pa_nil))) (by with_unfolding_all rfl)) (pss_cons (ps_for (passes_of rfl) rfl (pi_or (k_piL K (pv 1)) (k_piT K (pv 1))) (pg_or (k_gtup (n := 2) K rfl (pgs_cons (pg_name (i := 5) sclaw_led.nd rfl (Or.inl rfl)) (pgs_cons (pg_name (i := 6) sclaw_led.nd rfl (Or.inl rfl)) pgs_nil))) (k_gunl (n := 2) K rfl (pgs_cons (pg_name (i := 5) sclaw_led.nd rfl (Or.inl rfl)) (pgs_cons (pg_name (i := 6) sclaw_led.nd rfl (Or.inl rfl)) pgs_nil)))) (pss_cons (ps_if (pt_cmpR op_eq (pv 5) pe_str (nomark _)) (pss_one (ps_expr (pe_mt M_LiveShelf_take_book hG (hr.mono (by first | decide | omega)) passL (pv 2) (pa_cons (pv 6) pa_nil)))) (pss_one (ps_expr (k_bmP K (pe_bm PySem.F.plainAttrs_list PySem.F.slot_list_append PySem.F.type_list_append mt_append (pv 3) (pa_cons (pe_mt M_LiveShelf_return_book hG (hr.mono (by first | decide | omega)) passL (pv 2) (pa_cons (pv 6) pa_nil)) pa_nil)))))) (pss_one (ps_set (i := 4) sclaw_led.nd rfl (Or.inl rfl) (pe_callB (call_max2' rfl) (by rfl) B.max Bmax (pa_cons (pv 4) (pa_cons (pe_callB (k_len K) (by rfl) B.len Blen (pa_cons (pe_mt0 M_LiveShelf_current_out hG (hr.mono (by first | decide | omega)) passL (pv 2)) pa_nil)) pa_nil))))))) (pss_one (ps_ret (pe_tup (pa_cons (pv 2) (pa_cons (pv 3) (pa_cons (pv 4) pa_nil)))))))), ?_⟩
    walk_at "s"
    intro v dv nv ndv ndne
    have s2 : Same H (upd (upd H dv (.own v)) v (.ins CL dv [])) := (same_new ndv).trans (same_new (by rw [upd_ne ndne.symm]; exact nv))
    refine ⟨v, dv, n, rfl, upd_same, n1, n2, fun H2 s b t d hK2 ns2 nb2 nt2 nd2 hL => ⟨rfl, ?_⟩⟩
    have s12 : Same H H2 := fun x o hx => hK2 x o (by simp; intro e; rw [e, nv] at hx; cases hx) (s2 _ _ hx)
    have nb0 := s2.free nb2
    have nt0 := s2.free nt2
    have nd0 := s2.free nd2
    walk_at "s"
    intro f nf
    have sf := same_new (o := .lst []) nf
    have hLf := hL.same sf
    have hff : upd H2 f (.lst []) f = some (.lst (vI [])) := upd_same
    have nf0 := s12.free nf
    have fne : ∀ x ∈ [b, t, d], x ≠ f := fun x hx z => by
      obtain ⟨_, ⟨_, p3, p4, _⟩, ⟨_, p6, _⟩, _, _⟩ := hL
      simp only [List.mem_cons, List.not_mem_nil, or_false] at hx
      rcases hx with e | e | e
      · rw [e] at z; rw [z, nf] at p3; cases p3
      · rw [e] at z; rw [z, nf] at p4; cases p4
      · rw [e] at z; rw [z, nf] at p6; cases p6
    have s13 := s12.trans sf
    generalize upd H2 f (.lst []) = H3 at *
    have hA3 := hA.same s13
    walk_at "s"
    refine r_iSqE rfl hA3.1 fun J OK ok S => ?_
    refine for_src S (fun i σ H' => ∃ v5 v6 dn, σ = [some (.int (n : Nat)), some (.ref a), some (.ref v), some (.ref f), some (.int (runP n (ops.take i)).2.2), v5, v6] ∧ Same H H' ∧ LiveAt CL CS H' v s b t d n (runS n dn).1 (runS n dn).2 dn ∧ VlG n dn ∧ opsOf dn = ops.take i ∧ H' f = some (.lst (vI (runP n (ops.take i)).2.1)) ∧ (runP n (ops.take i)).2.1.length ≤ i) (fun i σ H' h => by
      obtain ⟨_, _, _, _, k, _⟩ := h
      exact ok _ ((k _ _ hAo).trans (s13 _ _ hAo).symm)) ⟨none, none, [], rfl, s13, hLf, .nil, rfl, hff, Nat.zero_le _⟩ ?_ ?_
    · rintro i x σ H4' H4 hi ⟨v5, v6, dn, rfl, s4, hL4, hg, hd, hf4, fl⟩ ⟨rfl, hx⟩
      rw [List.length_map, hA.2.1] at hi
      have hia : i < as.length := by rw [hA.2.1]; exact hi
      rw [List.getElem?_map, List.getElem?_eq_getElem hia] at hx
      cases hx
      have hrow := hA.2.2 i _ _ (List.getElem?_eq_getElem hia) (List.getElem?_eq_getElem hi)
      have hrow4 : Sq H4 as[i] [.str (opN ops[i].k), .int ops[i].x] := s4.sq hrow
      have dl : dn.length ≤ 400 := by rw [← opsOf_len, hd, List.length_take]; omega
      have hSt := hg.st
      have hcnt := hSt.cnt
      have hlen := hSt.len
      have hcl := List.count_le_length (a := none) (l := (runS n dn).1)
      have er1 := hg.run.2
      rw [hd] at er1
      have step := dn_step hv hi hd hg
      rw [runP_succ hi]
      generalize as[i] = y at *
      generalize ops[i] = o at *
      generalize runP n (ops.take i) = R at *
      obtain ⟨R1, fs1, mo⟩ := R
      have er1 : R1 = runS n dn := er1
      subst er1
      have fl : fs1.length ≤ i := fl
      obtain ⟨k, z⟩ := o
      obtain ⟨⟨dx, hv4⟩, _⟩ := id hL4
      refine r_gOr1 hrow4 rfl ?_
      walk_at "s"
      rcases step with ⟨ek, p, i0, ex, hp, eo, g', er⟩ | ⟨ek, p, o, z', ex, hp, hp2, ho, ho2, h0, eo, g', er⟩
      · have ek : k = true := ek
        have ex : z = p := ex
        subst ek ex
        have e2 : stepO (runS n dn) ⟨true, ((p : Nat) : Int)⟩ = ((runS n dn).1.set p none, (runS n dn).2 ++ [i0]) := by
          unfold stepO
          rw [if_pos rfl]
          have : (runS n dn).1.getD (((p : Nat) : Int).toNat) none = some i0 := by rw [Int.toNat_natCast, List.getD_eq_getElem?_getD, hp]; rfl
          show ((runS n dn).1.set (((p : Nat) : Int).toNat) none, (runS n dn).2 ++ [((runS n dn).1.getD (((p : Nat) : Int).toNat) none).getD 0]) = _
          rw [this, Int.toNat_natCast]
          rfl
        rw [stepP_take, e2]
        walk_at "s"
        refine ⟨v, s, b, t, d, n, _, _, dn, p, i0, rfl, hL4, hp, by omega, by omega, fun H5 hK5 hL5 => ?_⟩
        have hf5 := hK5 _ _ (fun z => fne f z rfl) hf4
        have s5 : Same H H5 := fun x o hx => hK5 _ _ (off3 nb0 nt0 nd0 hx) (s4 _ _ hx)
        obtain ⟨⟨dx5, hv5⟩, _⟩ := id hL5
        walk_at "s"
        refine ⟨v, s, b, t, d, n, _, _, _, rfl, hL5, fun H6 p6 s6 np6 hp6 => ?_⟩
        walk_at "s"
        rw [vI_len]
        exact ⟨_, _, _, rfl, s5.trans s6, by rw [er]; exact hL5.same s6, g', eo, s6 _ _ hf5, Nat.le_succ_of_le fl⟩
      · have ek : k = false := ek
        have ex : z = z' := ex
        subst ek ex
        have efg : fg (runS n dn).1 = p := fg_eq hp hp2
        have e2 : stepO (runS n dn) ⟨false, z⟩ = ((runS n dn).1.set p (some z), (runS n dn).2.erase z) := by
          unfold stepO
          rw [if_neg (by simp)]
          show ((runS n dn).1.set (fg (runS n dn).1) (some z), (runS n dn).2.erase z) = _
          rw [efg]
        rw [stepP_back, e2, efg]
        walk_at "s"
        refine ifDF (by show ¬ (("return" : Str) = "take"); decide +kernel) ?_
        walk_at "s"
        refine ⟨v, s, b, t, d, n, _, _, dn, p, o, z, rfl, hL4, h0, hp, hp2, ho, ho2, by omega, fun H5 hK5 hL5 => ?_⟩
        have hf5 := hK5 _ _ (fun z => fne f z rfl) hf4
        have s5 : Same H H5 := fun x o hx => hK5 _ _ (off3 nb0 nt0 nd0 hx) (s4 _ _ hx)
        have kf : KpL [f] H5 (upd H5 f (.lst (vI fs1 ++ [.int ((p : Nat) : Int)]))) := (KpL.refl [f] H5).set (List.mem_singleton.mpr rfl)
        have nofs : ∀ x ∈ [b, t, d], x ∉ [f] := fun x hx z => fne x hx (List.mem_singleton.mp z)
        have hL6 := live_kpl hL5 kf (fun x hx => ⟨vI fs1, by rw [List.mem_singleton.mp hx]; exact hf5⟩) (nofs _ (by simp)) (nofs _ (by simp)) (nofs _ (by simp))
        have s6 : Same H (upd H5 f (.lst (vI fs1 ++ [.int ((p : Nat) : Int)]))) := same_set s5 nf0
        have hf6 : upd H5 f (.lst (vI fs1 ++ [.int ((p : Nat) : Int)])) f = some (.lst (vI (fs1 ++ [((p : Nat) : Int)]))) := by
          rw [upd_same]
          exact congrArg (fun l => some (HO.lst l)) (vI_app fs1 [_])
        have hfl : (vI fs1).length ≤ 1000 := by rw [vI_len]; omega
        walk_at "s"
        generalize upd H5 f _ = H6 at *
        obtain ⟨⟨dx6, hv6⟩, _⟩ := id hL6
        walk_at "s"
        refine ⟨v, s, b, t, d, n, _, _, _, rfl, hL6, fun H7 p7 s7 np7 hp7 => ?_⟩
        walk_at "s"
        rw [vI_len]
        exact ⟨_, _, _, rfl, s6.trans s7, by rw [er]; exact hL6.same s7, g', eo, s7 _ _ hf6, by rw [List.length_append, List.length_singleton]; omega⟩
    · rintro σ H4 ⟨v5, v6, dn, rfl, s4, hL4, hg, hd, hf4, fl⟩
      rw [List.length_map, hA.2.1, List.take_length] at hd hf4
      rw [List.length_map, hA.2.1, List.take_length]
      walk_at "s"
      intro T nT
      have sT := same_new (o := .tup [.ref v, .ref f, .int (runP n ops).2.2]) nT
      exact q _ T v s b t d f dn (s4.trans sT) upd_same (sT _ _ hf4) (hL4.same sT) hg hd
end

end

section
local macro_rules | `(tactic| walk_at "s") => `(tactic| repeat (first | walk_at "s1" | walk_at "s2" | walk_at "fld"))
abbrev Slaw_from_right : Stmt := topS 41
abbrev Nlaw_from_right : List Str := ["some", "size", "schedule", "is_whole", "rows", "whole", "row", "step", "again", "one"]
theorem sclaw_from_right : FnScope Nlaw_from_right ["some", "size", "schedule", "is_whole"] (defScope Slaw_from_right) := ⟨rfl, rfl, rfl, by decide +kernel, rfl, by decide +kernel, by decide +kernel⟩

/-- a list of lists -/
structure LRows (G : Addr → Prop) (H : Hp) (p : Addr) (as : List Addr) (qs : List Op) : Prop where
  hp : H p = some (.lst (as.map V.ref))
  len : as.length = qs.length
  it : ∀ (i : Nat) (a : Addr) (q : Op), as[i]? = some a → qs[i]? = some q → H a = some (.lst (opV q)) ∧ G a
theorem LRows.same {G : Addr → Prop} {H H' : Hp} {p : Addr} {as : List Addr} {qs : List Op} (h : LRows G H p as qs) (s : Same H H') : LRows G H' p as qs :=
  ⟨s _ _ h.hp, h.len, fun i a q e1 e2 => ⟨s _ _ (h.it i a q e1 e2).1, (h.it i a q e1 e2).2⟩⟩
theorem LRows.rows {G : Addr → Prop} {H : Hp} {p : Addr} {as : List Addr} {qs : List Op} (h : LRows G H p as qs) : RowsIn H p as qs := ⟨.inl h.hp, h.len, fun i a q e1 e2 => .inl (h.it i a q e1 e2).1⟩
def opL (o : Op) : PyData := .list [.str (opN o.k), .int o.x]
theorem LRows.dp {K : PySem.W.Frag} {G : Addr → Prop} {H : Hp} {p : Addr} {as : List Addr} {qs : List Op} (h : LRows G H p as qs) (ol : qs.length ≤ 1000) : Dp K H (.ref p) (.list (qs.map opL)) := by
  have key : Tr (fun _ => True) H (.ref p) (.list (qs.map opL)) := by
    refine .lst h.hp trivial (by rw [List.length_map, h.len]; omega) (TrAll.of (by rw [List.length_map, List.length_map]; exact h.len) fun i v d e1 e2 => ?_)
    rw [List.getElem?_map] at e1 e2
    cases ea : as[i]? with
    | none => rw [ea] at e1; cases e1
    | some a =>
      cases eq : qs[i]? with
      | none => rw [eq] at e2; cases e2
      | some q =>
        rw [ea] at e1; rw [eq] at e2
        cases e1; cases e2
        exact .lst (h.it i a q ea eq).1 trivial (by show 2 ≤ _; decide) (.cons (.str _) (.cons (.int _) .nil))
  exact key.dp
theorem eqs_opL (ops : List Op) : Eqs (.list (ops.map opL)) 2 := .list (k := 1) fun d hd => by
  obtain ⟨o, _, rfl⟩ := List.mem_map.mp hd
  refine .list (k := 0) fun d hd => ?_
  simp only [List.mem_cons, List.not_mem_nil, or_false] at hd
  rcases hd with rfl | rfl
  · exact ⟨rfl, by cases o.k <;> decide +kernel, Nat.le_refl _⟩
  · exact .int _
theorem eqs_opD (ops : List Op) : Eqs (.list (ops.map opD)) 2 := .list (k := 1) fun d hd => by
  obtain ⟨o, _, rfl⟩ := List.mem_map.mp hd
  refine .tup (k := 0) fun d hd => ?_
  simp only [List.mem_cons, List.not_mem_nil, or_false] at hd
  rcases hd with rfl | rfl
  · exact ⟨rfl, by cases o.k <;> decide +kernel, Nat.le_refl _⟩
  · exact .int _
theorem run_same {n : Nat} {dn dn' : List Stp} (g : VlG n dn) (g' : VlG n dn') (e : opsOf dn' = opsOf dn) : runS n dn' = runS n dn := by
  rw [← g.run.2, ← g'.run.2, e]
theorem take_last {dn : List Stp} {j : Nat} (h : j < dn.length) : ∃ st, dn.take (dn.length - j) = dn.take (dn.length - (j + 1)) ++ [st] := by
  have e : dn.length - j = (dn.length - (j + 1)) + 1 := by omega
  have hi : dn.length - (j + 1) < dn.length := by omega
  exact ⟨dn[dn.length - (j + 1)], by rw [e, List.take_succ, List.getElem?_eq_getElem hi]; rfl⟩
/-- undo, seen from the steps done -/
theorem undo_of {CL CS : Addr} {H : Hp} {v s b t d : Addr} {n : Nat} {dn0 : List Stp} {st : Stp} {Q : VK} {E : XK} (hL : LiveAt CL CS H v s b t d n (runS n (dn0 ++ [st])).1 (runS n (dn0 ++ [st])).2 (dn0 ++ [st])) (hV : VlG n (dn0 ++ [st])) (hn : n ≤ 200) (dl : dn0.length ≤ 400)
    (q : ∀ H', KpL [b, t, d] H H' → LiveAt CL CS H' v s b t d n (runS n dn0).1 (runS n dn0).2 dn0 → Q .non H') : spLvUndo CL CS [.ref v] H Q E := by
  obtain ⟨hV0, hok⟩ := hV.pop
  have hS := hV.st
  have hS0 := hV0.st
  have hl0 := hS0.len
  have hl1 := hS.len
  have hc1 := hS.cnt
  have hcl := List.count_le_length (a := none) (l := (runS n (dn0 ++ [st])).1)
  have erun := runS_app n dn0 st
  rcases hok with ⟨p0, i0, rfl, hp0⟩ | ⟨p0, o, i0, rfl, hp0, ho, ho2⟩
  · have e1 : (runS n (dn0 ++ [(⟨true, p0, p0, i0, (((runS n dn0).2.length : Nat) : Int)⟩ : Stp)])) = ((runS n dn0).1.set p0 none, (runS n dn0).2 ++ [i0]) := by
      rw [erun]
      rfl
    have pl := (List.getElem?_eq_some_iff.mp hp0).1
    refine ⟨v, s, b, t, d, n, _, _, dn0, _, p0, rfl, hL, rfl, by rw [e1, List.length_set]; exact pl, by omega, by omega, fun _ => ⟨(runS n dn0).2, i0, by rw [e1], fun H3 hK3 hL3 => ?_⟩, fun z => by cases z⟩
    rw [e1, set_back hp0] at hL3
    exact q _ hK3 hL3
  · have e1 : (runS n (dn0 ++ [(⟨false, i0, p0, i0, o⟩ : Stp)])) = ((runS n dn0).1.set p0 (some i0), (runS n dn0).2.erase i0) := by
      rw [erun]
      rfl
    have pl := (List.getElem?_eq_some_iff.mp hp0).1
    have ol := (List.getElem?_eq_some_iff.mp ho).1
    refine ⟨v, s, b, t, d, n, _, _, dn0, _, p0, rfl, hL, rfl, by rw [e1, List.length_set]; exact pl, by omega, by omega, fun z => (by cases z), fun _ => ⟨o, rfl, by rw [e1, List.length_erase_of_mem (List.mem_of_getElem? ho)]; omega, fun H3 hK3 hL3 => ?_⟩⟩
    rw [e1, set_back hp0, erase_back ho ho2] at hL3
    exact q _ hK3 hL3
section
variable {P : Program} {w : World} {K : PySem.W.Frag} {mg : Str → Option Value} {base : Heap}
def spFromR (CL CS : Addr) : Sp := fun vs H Q _ => ∃ (v s b t d : Addr) (n : Nat) (dn : List Stp) (a : Addr) (as : List Addr), vs = [.ref v, .int (n : Nat), .ref a, .bl (decide ((runS n dn).2 = []))] ∧ LiveAt CL CS H v s b t d n (runS n dn).1 (runS n dn).2 dn ∧ VlG n dn ∧ 1 ≤ n ∧ n ≤ 200 ∧ dn.length ≤ 400 ∧
  TupsAt opV (fun _ => True) H a as (opsOf dn) ∧ ∀ H', Same H H' → Q (.bl true) H'
theorem ok_law_from_right {CL CS f : Addr} {fd : FuncData} (B : Bn mg) (S : LvK K CL) (SS : ShK K CS) (G_LiveShelf_from_schedule : Cm P w K mg base 5 "LiveShelf" CL "from_schedule" [] (spFromS CL CS)) (Q_LiveShelf : Eqo P w K mg base 1 CL (spLvEq CL CS)) (M_LiveShelf_current_schedule : Mt P w K mg base 1 CL "current_schedule" [] (spLvSched CL CS)) (M_LiveShelf_current_books : Mt P w K mg base 1 CL "current_books" [] (spLvBooks CL CS))
    (M_LiveShelf_undo : Mt P w K mg base 1 CL "undo" [] (spLvUndo CL CS)) (L_LiveShelf : Ln P w K mg base 1 CL (spLvLen CL CS)) (P_LiveShelf_is_complete : Pr P w K mg base 1 CL "is_complete" (spLvDone CL CS))
    (F : Fun K "_law_from_right" "_law_from_right" Slaw_from_right f fd) : FnG P w K mg base 6 f fd ["some", "size", "schedule", "is_whole"] (spFromR CL CS) := by
  refine gok F sclaw_from_right (fun vs H Q E h => ?_) (fun cdv A fs s H vs Q E hG hr h => ?_)
  · obtain ⟨_, _, _, _, _, _, _, _, _, rfl, _⟩ := h; rfl
  · obtain ⟨v, s, b, t, d, n, dn, a, as, rfl, hL, hV, n1, n2, dl, hA, q⟩ := h
    have hu := hr.units
    obtain ⟨cl, nz, ns, nd⟩ := S
    obtain ⟨hvo, er⟩ := hV.run
    have ol : (opsOf dn).length ≤ 400 := by rw [opsOf_len]; exact dl
    refine ⟨_, (pss_cons (ps_setLc (i := 4) (own := [("one", 9)]) rfl sclaw_from_right.nd rfl rfl (sw_true rfl rfl rfl (by decide +kernel)) (k_piL K (pv 2)) (blkOk_by (own := [("one", 9)]) (N := Nlaw_from_right) (sc := defScope Slaw_from_right) (by decide +kernel)) (fun _ _ _ _ _ => (pg_name (i := 9) sclaw_from_right.nd rfl (Or.inl rfl))) (fun _ _ _ _ _ => pts_nil) (fun _ _ _ _ _ => (pe_callTy (k_list K) (by rfl) B.list Tlist (pa_cons (pv 9) pa_nil)))) (pss_cons (ps_set (i := 5) sclaw_from_right.nd rfl (Or.inl rfl) (pe_cm G_LiveShelf_from_schedule hG (hr.mono (by first | decide | omega)) passL (by rfl) (pa_cons (pv 1) (pa_cons (pv 4) pa_nil)))) (pss_cons (ps_if (pt_cmpR (k_neD K hu) (pv 4) (pe_lc (own := [("one", 9)]) rfl sclaw_from_right.nd (k_piL K (pv 2)) (blkOk_by (own := [("one", 9)]) (N := Nlaw_from_right) (sc := defScope Slaw_from_right) (by decide +kernel)) (fun _ _ _ _ _ => (pg_name (i := 9) sclaw_from_right.nd rfl (Or.inl rfl))) (fun _ _ _ _ _ => pts_nil) (fun _ _ _ _ _ => (pe_callTy (k_list K) (by rfl) B.list Tlist (pa_cons (pv 9) pa_nil)))) (nomark _)) (pss_one (ps_ret pe_bl)) pss_nil) (pss_cons (ps_for (passes_of rfl) rfl (k_piL K (pv 4)) (pg_name (i := 6) sclaw_from_right.nd rfl (Or.inl rfl)) (pss_one (ps_expr (k_bmP K (pe_bm PySem.F.plainAttrs_list PySem.F.slot_list_append PySem.F.type_list_append mt_append (pv 6) (pa_cons pe_int pa_nil)))))) (pss_cons (ps_expr (k_bmP K (pe_bm PySem.F.plainAttrs_list PySem.F.slot_list_append PySem.F.type_list_append mt_append (pv 4) (pa_cons pe_non pa_nil)))) (pss_cons (ps_if (pw_or (pt_cmpR (op_neo Q_LiveShelf hG (hr.mono (by first | decide | omega)) passL) (pv 5) (pv 0) (nomark _)) (pw_or (pt_cmpR (k_neD K hu) (pe_mt0 M_LiveShelf_current_schedule hG (hr.mono (by first | decide | omega)) passL (pv 5)) (pv 2) (nomark _)) (pw_or1 (pt_cmpR op_ne (pe_pr P_LiveShelf_is_complete hG (hr.mono (by first | decide | omega)) passL (pv 5)) (pv 3) (nomark _))))).pt (pss_one (ps_ret pe_bl)) pss_nil) (pss_cons (ps_for (passes_of rfl) rfl (pi_range1 (by rfl) B.range (pa_cons (pe_callB (call_min2' rfl) (by rfl) B.min Bmin (pa_cons (pe_callB (k_len K) (by rfl) B.len Blen (pa_cons (pv 2) pa_nil)) (pa_cons pe_int pa_nil))) pa_nil)) (pg_name (i := 7) sclaw_from_right.nd rfl (Or.inl rfl)) (pss_one (ps_expr (pe_mt0 M_LiveShelf_undo hG (hr.mono (by first | decide | omega)) passL (pv 5))))) (pss_cons (ps_if (pt_cmpR op_ne (pe_cmpR (op_eqo Q_LiveShelf hG (hr.mono (by first | decide | omega)) passL) (pv 5) (pv 0) (nomark _)) (pe_cmpR (k_eqD K hu) (pe_mt0 M_LiveShelf_current_books hG (hr.mono (by first | decide | omega)) passL (pv 5)) (pe_mt0 M_LiveShelf_current_books hG (hr.mono (by first | decide | omega)) passL (pv 0)) (nomark _)) (nomark _)) (pss_one (ps_ret pe_bl)) pss_nil) (pss_cons (ps_set (i := 8) sclaw_from_right.nd rfl (Or.inl rfl) (pe_cm G_LiveShelf_from_schedule hG (hr.mono (by first | decide | omega)) passL (by rfl) (pa_cons (pv 1) (pa_cons (pe_mt0 M_LiveShelf_current_schedule hG (hr.mono (by first | decide | omega)) passL (pv 5)) pa_nil)))) (pss_one (ps_ret (pe_and (pe_cmpR (op_eqo Q_LiveShelf hG (hr.mono (by first | decide | omega)) passL) (pv 5) (pv 8) (nomark _)) (pe_one (pe_cmpR op_eq (pe_callB (call_lenOwn L_LiveShelf hG (hr.mono (by first | decide | omega)) passL) (by rfl) B.len Blen (pa_cons (pv 5) pa_nil)) (pe_callB (call_max2' rfl) (by rfl) B.max Bmax (pa_cons pe_int (pa_cons (pe_op op_sub (pe_callB (k_len K) (by rfl) B.len Blen (pa_cons (pv 2) pa_nil)) pe_int) pa_nil))) (nomark _))))))))))))))), ?_⟩
    walk_at "s"
    refine ⟨a, rfl, ⟨_, lst_of hA.hp⟩, fun p np => ?_⟩
    refine lc_src (src_list (xs := as.map V.ref)) (fun i H' => ∃ bs', Same H H' ∧ H' p = some (.lst (bs'.map V.ref)) ∧ bs'.length = i ∧ ∀ (j : Nat) (x : Addr) (o : Op), bs'[j]? = some x → (opsOf dn)[j]? = some o → H' x = some (.lst (opV o)) ∧ H x = none ∧ x ≠ p) (fun i H' h => by obtain ⟨_, s', _⟩ := h; exact lst_of (s' _ _ hA.hp))
      ⟨[], same_new np, upd_same, rfl, fun j x o e _ => by cases e⟩ ?_ ?_
    · rintro i x H3' H3 hi ⟨bs', s3, hp3, la, hT⟩ ⟨rfl, hx⟩
      rw [List.length_map, hA.len] at hi
      obtain ⟨u, eu, hut, _⟩ := hA.at hi
      rw [eu] at hx
      cases hx
      have hu3 := s3 _ _ hut
      have eo := List.getElem?_eq_getElem hi
      generalize (opsOf dn)[i] = o at *
      walk_at "s"
      refine ⟨rfl, ?_⟩
      walk_at "s"
      intro l nl
      have sl := same_new (o := .lst (opV o)) nl
      have nlp : l ≠ p := fun z => by rw [z, hp3] at nl; cases nl
      have nl0 := s3.free nl
      refine ⟨bs'.map V.ref, (upd_ne nlp.symm).trans hp3, szl (by rw [List.length_map]; omega), bs' ++ [l], same_set (s3.trans sl) np, by rw [upd_same, List.map_append]; rfl, by rw [List.length_append, la]; rfl, fun j x o' e1 e2 => ?_⟩
      by_cases hj : j < bs'.length
      · rw [List.getElem?_append_left hj] at e1
        obtain ⟨h1, h2, h3⟩ := hT j x o' e1 e2
        exact ⟨(upd_ne h3).trans (sl _ _ h1), h2, h3⟩
      · have hj' : j = bs'.length := by
          have := (List.getElem?_eq_some_iff.mp e1).1
          rw [List.length_append, List.length_singleton] at this
          omega
        subst hj'
        rw [List.getElem?_append_right (Nat.le_refl _), Nat.sub_self] at e1
        cases e1
        rw [la, eo] at e2
        cases e2
        exact ⟨(upd_ne nlp).trans upd_same, nl0, nlp⟩
    rintro H3 ⟨bs', s3, hp3, la, hT⟩
    rw [List.length_map, hA.len] at la
    have R3 : LRows (fun x => H x = none ∧ x ≠ p) H3 p bs' (opsOf dn) := ⟨hp3, la, fun j x o e1 e2 => ⟨(hT j x o e1 e2).1, (hT j x o e1 e2).2⟩⟩
    have hb0 : ∀ x ∈ bs', H x = none ∧ x ≠ p ∧ ∃ ys, H3 x = some (.lst ys) ∧ ys.length ≤ 2 := fun x hx => by
      obtain ⟨j, hj, rfl⟩ := List.getElem_of_mem hx
      have hj2 : j < (opsOf dn).length := by omega
      obtain ⟨h1, h2, h3⟩ := hT j _ _ (List.getElem?_eq_getElem hj) (List.getElem?_eq_getElem hj2)
      exact ⟨h2, h3, _, h1, by show 2 ≤ 2; decide⟩
    clear hT
    have hL3 := hL.same s3
    walk_at "s"
    refine r_cm ?_
    walk_at "s"
    refine ⟨n, p, bs', opsOf dn, rfl, n1, n2, R3.rows, ol, hvo, fun H4 v2 sh2 b2 t2 d2 dn2 s4 nv2 ns2 nb2 nt2 nd2 hL2 hV2 ed => ?_⟩
    have R4 := R3.same s4
    have eS := run_same hV hV2 ed
    have dl2 : dn2.length = dn.length := by rw [← opsOf_len, ed, opsOf_len]
    have s04 := s3.trans s4
    have hA4 := hA.same s04
    walk_at "s"
    refine ⟨a, rfl, ⟨_, lst_of hA4.hp⟩, fun p2 np2 => ?_⟩
    refine lc_src (src_list (xs := as.map V.ref)) (fun i H' => ∃ bs', Same H4 H' ∧ H' p2 = some (.lst (bs'.map V.ref)) ∧ bs'.length = i ∧ ∀ (j : Nat) (x : Addr) (o : Op), bs'[j]? = some x → (opsOf dn)[j]? = some o → H' x = some (.lst (opV o)) ∧ H4 x = none ∧ x ≠ p2) (fun i H' h => by obtain ⟨_, s', _⟩ := h; exact lst_of (s' _ _ hA4.hp))
      ⟨[], same_new np2, upd_same, rfl, fun j x o e _ => by cases e⟩ ?_ ?_
    · rintro i x H3' H3 hi ⟨bs', s3, hp3, la, hT⟩ ⟨rfl, hx⟩
      rw [List.length_map, hA.len] at hi
      obtain ⟨u, eu, hut, _⟩ := hA4.at hi
      rw [eu] at hx
      cases hx
      have hu3 := s3 _ _ hut
      have eo := List.getElem?_eq_getElem hi
      generalize (opsOf dn)[i] = o at *
      walk_at "s"
      refine ⟨rfl, ?_⟩
      walk_at "s"
      intro l nl
      have sl := same_new (o := .lst (opV o)) nl
      have nlp : l ≠ p2 := fun z => by rw [z, hp3] at nl; cases nl
      have nl0 := s3.free nl
      refine ⟨bs'.map V.ref, (upd_ne nlp.symm).trans hp3, szl (by rw [List.length_map]; omega), bs' ++ [l], same_set (s3.trans sl) np2, by rw [upd_same, List.map_append]; rfl, by rw [List.length_append, la]; rfl, fun j x o' e1 e2 => ?_⟩
      by_cases hj : j < bs'.length
      · rw [List.getElem?_append_left hj] at e1
        obtain ⟨h1, h2, h3⟩ := hT j x o' e1 e2
        exact ⟨(upd_ne h3).trans (sl _ _ h1), h2, h3⟩
      · have hj' : j = bs'.length := by
          have := (List.getElem?_eq_some_iff.mp e1).1
          rw [List.length_append, List.length_singleton] at this
          omega
        subst hj'
        rw [List.getElem?_append_right (Nat.le_refl _), Nat.sub_self] at e1
        cases e1
        rw [la, eo] at e2
        cases e2
        exact ⟨(upd_ne nlp).trans upd_same, nl0, nlp⟩
    rintro H5 ⟨cs', s5, hp5, la5, hT5⟩
    rw [List.length_map, hA.len] at la5
    have R5 : LRows (fun _ => True) H5 p2 cs' (opsOf dn) := ⟨hp5, la5, fun j x o e1 e2 => ⟨(hT5 j x o e1 e2).1, trivial⟩⟩
    clear hT5
    walk_at "s"
    refine r_neDD ((R4.same s5).dp (by omega)) (R5.dp (by omega)) (eqs_opL _) (eqs_opL _) (by decide) (by decide) fun bb hbb => ?_
    have ebb : bb = false := by
      cases bb with
      | false => rfl
      | true => exact absurd rfl (hbb.mp rfl)
    subst ebb
    clear hbb R5 hp5 la5
    have hp05 := s5 _ _ R4.hp
    have s05 := s04.trans s5
    have pnb : p ∉ bs' := fun z => (hb0 p z).2.1 rfl
    have hI5 : ∀ x ∈ bs', ∃ ys, H5 x = some (.lst ys) ∧ ys.length ≤ 2 := fun x hx => by
      obtain ⟨_, _, ys, h1, h2⟩ := hb0 x hx
      exact ⟨ys, s5 _ _ (s4 _ _ h1), h2⟩
    walk_at "s"
    refine ⟨p, rfl, ⟨_, lst_of hp05⟩, ?_⟩
    refine for_src (src_list (xs := bs'.map V.ref)) (fun i σ H' => ∃ v6, σ = [some (.ref v), some (.int (n : Nat)), some (.ref a), some (.bl (decide ((runS n dn).2 = []))), some (.ref p), some (.ref v2), v6, none, none, none] ∧ KpL bs' H5 H' ∧ ∀ x ∈ bs', ∃ ys, H' x = some (.lst ys) ∧ ys.length ≤ 2 + i) (fun i σ H' h => by
      obtain ⟨_, _, k, _⟩ := h
      exact lst_of (k _ _ pnb hp05)) ⟨none, rfl, KpL.refl _ _, hI5⟩ ?_ ?_
    · rintro i x σ H6' H6 hi ⟨v6, rfl, hK6, hI6⟩ ⟨rfl, hx⟩
      rw [List.length_map] at hi
      rw [List.getElem?_map, List.getElem?_eq_getElem hi] at hx
      cases hx
      have hm := List.getElem_mem hi
      obtain ⟨ys, hy, yl⟩ := hI6 _ hm
      generalize bs'[i] = y at *
      have yl' : ys.length ≤ 1000 := by omega
      walk_at "s"
      refine ⟨_, rfl, hK6.set hm, fun x hx => ?_⟩
      by_cases e : x = y
      · exact ⟨ys ++ [.int 0], by rw [e, upd_same], by rw [List.length_append, List.length_singleton]; omega⟩
      · obtain ⟨zs, h1, h2⟩ := hI6 x hx
        exact ⟨zs, (upd_ne e).trans h1, by omega⟩
    rintro σ H6 ⟨v6, rfl, hK6, hI6⟩
    have hp6 := hK6 _ _ pnb hp05
    have pl : (bs'.map V.ref).length ≤ 100000 := by rw [List.length_map]; omega
    have K7 : ∀ o, KpL (p :: bs') H5 (upd H6 p o) := fun o => (hK6.more fun x hx => List.mem_cons_of_mem _ hx).set List.mem_cons_self
    have offp : ∀ x, H3 x = none → x ∉ p :: bs' := fun x hx z => by
      rcases List.mem_cons.mp z with e | z
      · rw [e, hp3] at hx; cases hx
      · obtain ⟨_, _, ys, h1, _⟩ := hb0 x z
        rw [h1] at hx; cases hx
    have offH : ∀ x o, H x = some o → x ∉ p :: bs' := fun x o hx z => by
      rcases List.mem_cons.mp z with e | z
      · rw [e, np] at hx; cases hx
      · rw [(hb0 x z).1] at hx; cases hx
    have hlp : ∀ x ∈ p :: bs', ∃ ys, H5 x = some (.lst ys) := fun x hx => by
      rcases List.mem_cons.mp hx with e | z
      · exact ⟨_, by rw [e]; exact hp05⟩
      · obtain ⟨ys, h1, _⟩ := hI5 x z
        exact ⟨ys, h1⟩
    have hL7 : ∀ o, LiveAt CL CS (upd H6 p o) v2 sh2 b2 t2 d2 n (runS n dn2).1 (runS n dn2).2 dn2 := fun o => live_kpl (hL2.same s5) (K7 o) hlp (offp _ nb2) (offp _ nt2) (offp _ nd2)
    have s07 : ∀ o, Same H (upd H6 p o) := fun o x u hx => K7 o _ _ (offH _ _ hx) (s05 _ _ hx)
    refine r_seq ?_
    repeat (first | (with_reducible (first | refine r_seq ?_ | refine r_nx ?_ | refine r_next ?_ | refine r_BM ?_ | refine r_drop ?_ | refine r_cons ?_ | refine r_nil ?_ | refine r_c ?_ | refine r_CB ?_)) | ((with_reducible show tVar _ _ _ _); refine r_var rfl ?_))
    refine r_ty (by walk_at "hp") ?_
    repeat (first | (with_reducible (first | refine r_seq ?_ | refine r_nx ?_ | refine r_next ?_ | refine r_BM ?_ | refine r_drop ?_ | refine r_cons ?_ | refine r_nil ?_ | refine r_c ?_ | refine r_CB ?_)) | ((with_reducible show tVar _ _ _ _); refine r_var rfl ?_))
    refine r_app hp6 (szl pl) ?_
    have hL7 := hL7 (.lst (bs'.map V.ref ++ [.non]))
    have s07 := s07 (.lst (bs'.map V.ref ++ [.non]))
    generalize upd H6 p _ = H7 at *
    clear hK6 hI6 hp6 K7 hI5 hp05 hlp hL3
    have hLo7 := hL.same s07
    have hA7 := hA.same s07
    have nb0 := s3.free nb2
    have nt0 := s3.free nt2
    have nd0 := s3.free nd2
    obtain ⟨⟨dx2, hv27⟩, _⟩ := id hL7
    obtain ⟨⟨dx, hv7⟩, _⟩ := id hLo7
    walk_at "s"
    refine r_neo hv27 (.inl ⟨v, _, _, rfl, hv7⟩) ⟨v2, sh2, b2, t2, d2, v, s, b, t, d, n, n, _, _, _, _, dn2, dn, rfl, hL7, hLo7, _, rfl, ?_⟩
    rw [eS, decide_eq_true rfl]
    walk_at "s"
    refine ⟨v2, sh2, b2, t2, d2, n, _, _, dn2, rfl, hL7, by omega, fun H8 p8 s8 np8 hT8 => ?_⟩
    rw [cur_ops, ed] at hT8
    have hA8 := hA7.same s8
    walk_at "s"
    refine r_neDD hT8.dp (ops_tr hA8.hp trivial hA8.len (by omega) fun i a o e1 e2 => ⟨(hA8.it i a o e1 e2).2, (hA8.it i a o e1 e2).1⟩).dp (eqs_opD _) (eqs_opD _) (by decide) (by decide) fun bb hbb => ?_
    have ebb : bb = false := by
      cases bb with
      | false => rfl
      | true => exact absurd rfl (hbb.mp rfl)
    subst ebb
    clear hbb
    have hL8 := hL7.same s8
    obtain ⟨⟨dx28, hv28⟩, _⟩ := id hL8
    walk_at "s"
    refine ⟨v2, dx28, _, rfl, hv28, ?_⟩
    refine ⟨v2, sh2, b2, t2, d2, n, _, _, dn2, rfl, hL8, fun H9 s9 => ?_⟩
    rw [eS]
    have hL9 := hL8.same s9
    have s09 := s07.trans (s8.trans s9)
    have hA9 := hA.same s09
    have hmd9 := hA9.hp
    walk_at "s"
    rw [List.length_map, hA.len, opsOf_len]
    obtain ⟨cc, ec, cl1, cl2⟩ : ∃ cc : Nat, (if (5 : Int) < ((dn.length : Nat) : Int) then (5 : Int) else ((dn.length : Nat) : Int)) = (cc : Int) ∧ cc ≤ dn.length ∧ cc = min dn.length 5 := ⟨min dn.length 5, by split <;> omega, Nat.min_le_left _ _, rfl⟩
    rw [ec]
    refine ⟨_, rfl, by omega, by omega, ?_⟩
    refine for_src src_range (fun j σ H' => ∃ v7, σ = [some (.ref v), some (.int (n : Nat)), some (.ref a), some (.bl (decide ((runS n dn).2 = []))), some (.ref p), some (.ref v2), v6, v7, none, none] ∧ KpL [b2, t2, d2] H9 H' ∧ LiveAt CL CS H' v2 sh2 b2 t2 d2 n (runS n (dn2.take (dn2.length - j))).1 (runS n (dn2.take (dn2.length - j))).2 (dn2.take (dn2.length - j))) (fun _ _ _ _ => trivial)
      ⟨none, rfl, KpL.refl _ _, by rw [Nat.sub_zero, List.take_length]; exact hL9⟩ ?_ ?_
    · rintro j x σ H10' H10 hj ⟨v7, rfl, hK10, hL10⟩ ⟨rfl, rfl⟩
      obtain ⟨st, est⟩ := take_last (dn := dn2) (j := j) (by omega)
      rw [est] at hL10
      have hV10 := hV2.take (dn2.length - j)
      rw [est] at hV10
      obtain ⟨⟨dx10, hv10⟩, _⟩ := id hL10
      walk_at "s"
      refine undo_of hL10 hV10 n2 (by rw [List.length_take]; omega) fun H11 hK11 hL11 => ?_
      walk_at "s"
      exact ⟨_, rfl, hK10.trans hK11, hL11⟩
    rintro σ H10 ⟨v7, rfl, hK10, hL10⟩
    rw [Int.toNat_natCast] at hL10
    have dkl : (dn2.take (dn2.length - cc)).length = dn.length - cc := by rw [List.length_take]; omega
    have hVk := hV2.take (dn2.length - cc)
    generalize dn2.take (dn2.length - cc) = dk at hL10 dkl hVk
    have s010 : Same H H10 := fun x o hx => hK10 _ _ (off3 nb0 nt0 nd0 hx) (s09 _ _ hx)
    have hLo10 := hL.same s010
    obtain ⟨⟨dx10, hv10⟩, _⟩ := id hL10
    obtain ⟨⟨dxo, hvo10⟩, _⟩ := id hLo10
    walk_at "s"
    refine r_eqo hv10 (.inl ⟨v, _, _, rfl, hvo10⟩) ⟨v2, sh2, b2, t2, d2, v, s, b, t, d, n, n, _, _, _, _, dk, dn, rfl, hL10, hLo10, _, rfl, ?_⟩
    walk_at "s"
    refine ⟨v2, sh2, b2, t2, d2, n, _, _, dk, rfl, hL10, fun H11 p11 s11 np11 hp11 => ?_⟩
    have hvo11 := s11 _ _ hvo10
    walk_at "s"
    refine ⟨v, s, b, t, d, n, _, _, dn, rfl, hLo10.same s11, fun H12 p12 s12 np12 hp12 => ?_⟩
    have s1012 := s11.trans s12
    walk_at "s"
    refine r_eqBk (lst_of (s12 _ _ hp11)) (lst_of hp12) ?_
    walk_at "s"
    refine r_cm ?_
    have hL12 := hL10.same s1012
    obtain ⟨⟨dx12, hv12⟩, _⟩ := id hL12
    walk_at "s"
    refine ⟨v2, sh2, b2, t2, d2, n, _, _, dk, rfl, hL12, by omega, fun H13 p13 s13 np13 hT13 => ?_⟩
    rw [cur_ops] at hT13
    obtain ⟨as13, R13⟩ := tr_rows hT13
    walk_at "s"
    refine ⟨n, p13, as13, opsOf dk, rfl, n1, n2, R13, by rw [opsOf_len]; omega, hVk.run.1, fun H14 v3 sh3 b3 t3 d3 dn3 s14 nv3 ns3 nb3 nt3 nd3 hL3 hV3 ed3 => ?_⟩
    have hL14 := hL12.same (s13.trans s14)
    have eS3 := run_same hVk hV3 ed3
    obtain ⟨⟨dx14, hv14⟩, _⟩ := id hL14
    obtain ⟨⟨dx3, hv3⟩, _⟩ := id hL3
    walk_at "s"
    refine r_eqo hv14 (.inl ⟨v3, _, _, rfl, hv3⟩) ⟨v2, sh2, b2, t2, d2, v3, sh3, b3, t3, d3, n, n, _, _, _, _, dk, dn3, rfl, hL14, hL3, _, rfl, ?_⟩
    rw [eS3, decide_eq_true rfl]
    have hA14 := hA.same (s010.trans (s1012.trans (s13.trans s14)))
    have hmd14 := hA14.hp
    walk_at "s"
    refine ⟨v2, dx14, _, rfl, hv14, ?_⟩
    refine ⟨v2, sh2, b2, t2, d2, n, _, _, dk, rfl, hL14, _, rfl, by omega, ?_⟩
    walk_at "s"
    rw [List.length_map, hA.len, opsOf_len, decide_eq_true (by split <;> omega)]
    exact q _ (s010.trans (s1012.trans (s13.trans s14)))
end

end

/-! a book taken and returned many times -/
def twoO : List Op := [⟨true, 0⟩, ⟨false, 0⟩]
def many {α : Type} (k : Nat) (l : List α) : List α := (List.replicate k l).flatten
theorem many_succ {α : Type} (k : Nat) (l : List α) : many (k + 1) l = many k l ++ l := by
  unfold many
  rw [List.replicate_succ', List.flatten_append]
  simp
theorem many_cons {α : Type} (k : Nat) (l : List α) : many (k + 1) l = l ++ many k l := by
  unfold many
  rw [List.replicate_succ, List.flatten_cons]
theorem many_len {α : Type} (k : Nat) (l : List α) : (many k l).length = k * l.length := by
  induction k with
  | zero => rw [Nat.zero_mul]; rfl
  | succ k ih => rw [many_succ, List.length_append, ih, Nat.succ_mul]
theorem many_vld : ∀ k : Nat, VldO 1 (many k twoO) ∧ (runP 1 (many k twoO)).1 = ([some 0], [])
  | 0 => ⟨fun i hi => absurd hi (Nat.not_lt_zero i), rfl⟩
  | k + 1 => by
    obtain ⟨h1, h2⟩ := many_vld k
    have e1 : many (k + 1) twoO = (many k twoO ++ [⟨true, 0⟩]) ++ [⟨false, 0⟩] := by rw [many_succ, List.append_assoc]; rfl
    rw [e1]
    obtain ⟨a1, a2⟩ := step_take (n := 1) (ops := many k twoO) (x := 0) (i := 0) (by decide) (by rw [h2]; rfl)
    have hv := h1.snoc a2
    have r1 : (runP 1 (many k twoO ++ [⟨true, 0⟩])).1 = ([none], [0]) := by rw [a1, h2]; rfl
    obtain ⟨b1, b2, _⟩ := step_back (n := 1) (ops := many k twoO ++ [⟨true, 0⟩]) (x := 0) hv (by rw [r1]; exact List.mem_singleton.mpr rfl)
    refine ⟨hv.snoc b2, ?_⟩
    rw [b1, r1]
    rfl
theorem many_at {t1 t2 : Addr} : ∀ (k i : Nat) (a : Addr) (o : Op), (many k [t1, t2])[i]? = some a → (many k twoO)[i]? = some o → (a = t1 ∧ o = ⟨true, 0⟩) ∨ (a = t2 ∧ o = ⟨false, 0⟩)
  | 0, i, a, o, h, _ => by unfold many at h; simp at h
  | k + 1, i, a, o, h, g => by
    rw [many_cons] at h g
    match i, h, g with
    | 0, h, g => cases h; cases g; exact .inl ⟨rfl, rfl⟩
    | 1, h, g => cases h; cases g; exact .inr ⟨rfl, rfl⟩
    | i + 2, h, g => exact many_at k i a o (by simpa using h) (by simpa [twoO] using g)

section
local macro_rules | `(tactic| walk_at "s") => `(tactic| repeat (first | walk_at "s1" | walk_at "s2" | walk_at "fld"))
abbrev Slaw : Stmt := topS 42
abbrev Nlaw : List Str := ["script", "reel", "k", "size", "some", "model", "step", "kind", "number", "due", "found", "schedule", "mate", "filled", "most", "part", "whole"]
theorem sclaw : FnScope Nlaw ["script"] (defScope Slaw) := ⟨rfl, rfl, rfl, by decide +kernel, rfl, by decide +kernel, by decide +kernel⟩

local macro_rules | `(tactic| walk_at "led") => `(tactic| repeat (first | walk_at "s1" | walk_at "s2" | walk_at "fld"))
theorem ifEJ {c : Prop} [Decidable c] {te tu : TE} {σ : L2.St} {H : Hp} {Q : VK} (J : V → Hp → Prop) (h1 : ∀ Q' : VK, (∀ v H, J v H → Q' v H) → c → te σ H Q') (h2 : ∀ Q' : VK, (∀ v H, J v H → Q' v H) → ¬ c → tu σ H Q') (hQ : ∀ v H, J v H → Q v H) :
    if decide c = true then te σ H Q else tu σ H Q := ifD (h1 Q hQ) (h2 Q hQ)
theorem rows_takeT {G : Addr → Prop} {H H' : Hp} {p p' : Addr} {as : List Addr} {qs : List Op} (h : TupsAt opV G H p as qs) (k : Nat) (s : Same H H') (hp' : H' p' = some (.lst ((as.map V.ref).take k))) : TupsAt opV G H' p' (as.take k) (qs.take k) := by
  refine ⟨by rw [hp', List.map_take], by rw [List.length_take, List.length_take, h.len], fun i a q e1 e2 => ?_⟩
  have hik : i < k := by have := (List.getElem?_eq_some_iff.mp e1).1; rw [List.length_take] at this; omega
  rw [List.getElem?_take_of_lt hik] at e1 e2
  exact ⟨s _ _ (h.it i a q e1 e2).1, (h.it i a q e1 e2).2⟩
theorem rows_ofT {G : Addr → Prop} {H : Hp} {p : Addr} {as : List Addr} {qs : List Op} (h : TupsAt opV G H p as qs) : RowsIn H p as qs := ⟨.inl h.hp, h.len, fun i a q e1 e2 => .inr (h.it i a q e1 e2).1⟩
theorem tups_dp {K : PySem.W.Frag} {G : Addr → Prop} {H : Hp} {p : Addr} {as : List Addr} {qs : List Op} (h : TupsAt opV G H p as qs) (ol : qs.length ≤ 1000) : Dp K H (.ref p) (.list (qs.map opD)) :=
  (ops_tr (G := fun _ => True) h.hp trivial h.len ol fun i a o e1 e2 => ⟨trivial, (h.it i a o e1 e2).1⟩).dp
theorem r_neOps {K : PySem.W.Frag} {H : Hp} {Q : VK} {a e : Addr} {xs ys : List Op} (h : Dp K H (.ref a) (.list (xs.map opD))) (h' : Dp K H (.ref e) (.list (ys.map opD))) (ee : xs = ys) (q : Q (.bl false) H) : rNeD K (.ref a) (.ref e) H Q := by
  refine r_neDD h h' (eqs_opD _) (eqs_opD _) (by decide) (by decide) fun b hb => ?_
  have : b = false := by
    cases b with
    | false => rfl
    | true => exact absurd (by rw [ee]) (hb.mp rfl)
  rw [this]
  exact q
theorem r_eqOps {K : PySem.W.Frag} {H : Hp} {Q : VK} {a e : Addr} {xs ys : List Op} (h : Dp K H (.ref a) (.list (xs.map opD))) (h' : Dp K H (.ref e) (.list (ys.map opD))) (ee : xs = ys) (q : Q (.bl true) H) : rEqD K (.ref a) (.ref e) H Q := by
  refine r_eqDD h h' (eqs_opD _) (eqs_opD _) (by decide) (by decide) fun b hb => ?_
  rw [hb.mpr (by rw [ee])]
  exact q
/-- a live shelf and a model beside it -/
structure S49 (CL CS r v s b t d : Addr) (H : Hp) (n : Nat) (dn : List Stp) (m : Addr) : Prop where
  ra : RA H r [b, t, d]
  lv : LiveAt CL CS H v s b t d n (runS n dn).1 (runS n dn).2 dn
  vl : VlG n dn
  mo : Mo (fun x => x ∉ r :: [b, t, d]) H m (runS n dn).1 (runS n dn).2 dn
theorem live_lists {CL CS : Addr} {H : Hp} {v s b t d : Addr} {n : Nat} {bs : List (Option Int)} {tk : List Int} {dn : List Stp} (h : LiveAt CL CS H v s b t d n bs tk dn) : ∀ x ∈ [b, t, d], ∃ ys, H x = some (.lst ys) := by
  obtain ⟨_, ⟨_, p3, p4, _⟩, ⟨_, p6, _⟩, _, _⟩ := h
  intro x hx
  simp only [List.mem_cons, List.not_mem_nil, or_false] at hx
  rcases hx with rfl | rfl | rfl
  · exact ⟨_, p3⟩
  · exact ⟨_, p4⟩
  · exact ⟨_, p6⟩
theorem live_ne {CL CS : Addr} {H : Hp} {v s b t d : Addr} {n : Nat} {bs : List (Option Int)} {tk : List Int} {dn : List Stp} (h : LiveAt CL CS H v s b t d n bs tk dn) : ∀ x ∈ [b, t, d], H x ≠ none := fun x hx => by
  obtain ⟨ys, e⟩ := live_lists h x hx
  rw [e]
  simp
theorem idx_first9 {tk : List Int} {x : Int} (h : x ∈ tk) : ∃ o : Nat, tk[o]? = some x ∧ ∀ m : Nat, m < o → tk[m]? ≠ some x := by
  induction tk with
  | nil => cases h
  | cons y r ih =>
    by_cases e : y = x
    · exact ⟨0, by rw [e]; rfl, fun m hm => by omega⟩
    · obtain ⟨o, h1, h2⟩ := ih ((List.mem_cons.mp h).resolve_left (Ne.symm e))
      refine ⟨o + 1, h1, fun m hm => ?_⟩
      cases m with
      | zero => intro z; exact e (Option.some.inj z)
      | succ m => exact h2 m (by omega)
section
variable {CL CS r v s b t d m m' : Addr} {H H' : Hp} {n : Nat} {dn dn' : List Stp}
theorem S49.same (h : S49 CL CS r v s b t d H n dn m) (k : Same H H') : S49 CL CS r v s b t d H' n dn m := ⟨h.ra.same k, h.lv.same k, h.vl, h.mo.same k⟩
theorem S49.kr (h : S49 CL CS r v s b t d H n dn m) (hK : Kp r H H') (hR : RA H' r [b, t, d]) : S49 CL CS r v s b t d H' n dn m := by
  obtain ⟨ry, hry⟩ := h.ra.val
  have nr : ∀ x ∈ [b, t, d], x ∉ [r] := fun x hx z => h.ra.off hx (List.mem_singleton.mp z)
  have hl : ∀ x ∈ [r], ∃ ys, H x = some (.lst ys) := fun x hx => ⟨ry, by rw [List.mem_singleton.mp hx]; exact hry⟩
  have kk : KpL [r] H H' := hK.kpl (by simp)
  exact ⟨hR, live_kpl h.lv kk hl (nr _ (by simp)) (nr _ (by simp)) (nr _ (by simp)), h.vl, h.mo.move fun x o g e => ⟨hK.get (fun z => g (by rw [z]; exact List.mem_cons_self)) e, g⟩⟩
theorem S49.step (h : S49 CL CS r v s b t d H n dn m) (kk : KpL [b, t, d] H H') (hL : LiveAt CL CS H' v s b t d n (runS n dn').1 (runS n dn').2 dn') (hv : VlG n dn') (hm : Mo (fun x => x ∉ r :: [b, t, d]) H m' (runS n dn').1 (runS n dn').2 dn') : S49 CL CS r v s b t d H' n dn' m' :=
  ⟨h.ra.kpl kk (fun x hx => hx) (live_ne hL), hL, hv, hm.move fun x o g e => ⟨kk _ _ (fun z => g (List.mem_cons_of_mem _ z)) e, g⟩⟩
end
section
variable {P : Program} {w : World} {K : PySem.W.Frag} {mg : Str → Option Value} {base : Heap}
def spLaw (K : PySem.W.Frag) : Sp := fun vs H Q _ => ∃ (a : Addr) (ns : List Int), vs = [.ref a] ∧ SqL K H a (ns.map V.int) ∧ ns.length ≤ 63 ∧ ∀ H', Q (.bl true) H'
open Lx in set_option maxHeartbeats 40000000 in
theorem ok_law {CL CS f : Addr} {fd : FuncData} (B : Bn mg) (D_law_reel : Df P w K mg base 1 "_law_reel" [] (spReel K)) (D_law_draw : Df P w K mg base 1 "_law_draw" [] spDraw) (D_law_next : Df P w K mg base 2 "_law_next" [] spNext) (D_law_moved : Df P w K mg base 1 "_law_moved" [] spMoved)
    (D_is_schedule : Df P w K mg base 5 "is_schedule" [] spIsSched) (D_books_after : Df P w K mg base 5 "books_after" [] spBooksAfter) (D_books_out : Df P w K mg base 5 "books_out" [] spBooksOut) (D_places_filled : Df P w K mg base 5 "places_filled" [] spFilledP) (D_most_out : Df P w K mg base 5 "most_out" [] spMostOut)
    (D_format_schedule : Df P w K mg base 5 "format_schedule" [] spFormatSc) (D_parse_schedule : Df P w K mg base 5 "parse_schedule" [] spParseSc) (D_law_led : Df P w K mg base 5 "_law_led" [] (spLed CL CS)) (D_law_from_right : Df P w K mg base 6 "_law_from_right" [] (spFromR CL CS))
    (N_LiveShelf : Cn P w K mg base 3 "LiveShelf" CL [] (spLvInit CL CS)) (G_LiveShelf_from_schedule : Cm P w K mg base 5 "LiveShelf" CL "from_schedule" [] (spFromS CL CS)) (Q_LiveShelf : Eqo P w K mg base 1 CL (spLvEq CL CS)) (M_LiveShelf_take_book : Mt P w K mg base 3 CL "take_book" [] (spLvTake CL CS)) (M_LiveShelf_return_book : Mt P w K mg base 3 CL "return_book" [] (spLvReturn CL CS))
    (M_LiveShelf_current_schedule : Mt P w K mg base 1 CL "current_schedule" [] (spLvSched CL CS)) (M_LiveShelf_current_books : Mt P w K mg base 1 CL "current_books" [] (spLvBooks CL CS)) (M_LiveShelf_current_out : Mt P w K mg base 1 CL "current_out" [] (spLvOut CL CS)) (M_LiveShelf_undo : Mt P w K mg base 1 CL "undo" [] (spLvUndo CL CS)) (L_LiveShelf : Ln P w K mg base 1 CL (spLvLen CL CS))
    (F : Fun K "law" "law" Slaw f fd) : FnG P w K mg base 7 f fd ["script"] (spLaw K) := by
  refine gok F sclaw (fun vs H Q E h => ?_) (fun cdv A' fs s' H vs Q E hG hr h => ?_)
  · obtain ⟨_, _, rfl, _⟩ := h; rfl
  · obtain ⟨a, ns, rfl, hA, hl, q⟩ := h
    have hu := hr.units
    refine ⟨_, (pss_cons (ps_set (i := 1) sclaw.nd rfl (Or.inl rfl) (pe_df D_law_reel hG (hr.mono (by first | decide | omega)) passL (by rfl) (pa_cons (pv 0) pa_nil))) (pss_cons (ps_for (passes_of rfl) rfl (pi_range1 (by rfl) B.range (pa_cons (pe_op op_add pe_int (pe_callB (call_min2' rfl) (by rfl) B.min Bmin (pa_cons (pe_callB (k_len K) (by rfl) B.len Blen (pa_cons (pv 0) pa_nil)) (pa_cons pe_int pa_nil)))) pa_nil)) (pg_name (i := 2) sclaw.nd rfl (Or.inl rfl)) (pss_cons (ps_set (i := 3) sclaw.nd rfl (Or.inl rfl) (pe_op op_add pe_int (pe_df D_law_draw hG (hr.mono (by first | decide | omega)) passL (by rfl) (pa_cons (pv 1) (pa_cons (pe_ix (k_ixL K) (pe_lst (pa_cons pe_int (pa_cons pe_int pa_nil))) (pe_op op_mod (pv 2) pe_int) (fun _ _ => rfl)) pa_nil))))) (C8.pss_cut (ps_par (i := 4) (j := 5) rfl sclaw.nd rfl rfl (by decide) rfl rfl (pa_cons (pe_cn N_LiveShelf hG (hr.mono (by first | decide | omega)) passL (by rfl) (pa_cons (pv 3) pa_nil)) (pa_cons (pe_lst (pa_cons (pe_listRg rfl (by rfl) B.list (prg_1 (by rfl) B.range (pv 3))) (pa_cons (pe_lst pa_nil) (pa_cons (pe_lst pa_nil) pa_nil)))) pa_nil)) (by with_unfolding_all rfl)) (C8.pss_cut (ps_for (passes_of rfl) rfl (pi_range1 (by rfl) B.range (pa_cons (pe_ifExp (pt_cmpR op_eq (pv 2) pe_int (nomark _)) pe_int (pe_df D_law_draw hG (hr.mono (by first | decide | omega)) passL (by rfl) (pa_cons (pv 1) (pa_cons pe_int pa_nil)))) pa_nil)) (pg_name (i := 6) sclaw.nd rfl (Or.inl rfl)) (pss_cons (ps_asg (pe_df D_law_next hG (hr.mono (by first | decide | omega)) passL (by rfl) (pa_cons (pv 1) (pa_cons (pv 5) pa_nil))) (k_gtup (n := 2) K rfl (pgs_cons (pg_name (i := 7) sclaw.nd rfl (Or.inl rfl)) (pgs_cons (pg_name (i := 8) sclaw.nd rfl (Or.inl rfl)) pgs_nil)))) (pss_cons (ps_asg (pe_df D_law_moved hG (hr.mono (by first | decide | omega)) passL (by rfl) (pa_cons (pv 5) (pa_cons (pv 7) (pa_cons (pv 8) pa_nil)))) (k_gtup (n := 2) K rfl (pgs_cons (pg_name (i := 5) sclaw.nd rfl (Or.inl rfl)) (pgs_cons (pg_name (i := 9) sclaw.nd rfl (Or.inl rfl)) pgs_nil)))) (pss_one (ps_set (i := 10) sclaw.nd rfl (Or.inl rfl) (pe_ifExp (pt_cmpR op_eq (pv 7) pe_str (nomark _)) (pe_mt M_LiveShelf_take_book hG (hr.mono (by first | decide | omega)) passL (pv 4) (pa_cons (pv 8) pa_nil)) (pe_mt M_LiveShelf_return_book hG (hr.mono (by first | decide | omega)) passL (pv 4) (pa_cons (pv 8) pa_nil)))))))) (C8.pss_cut (ps_set (i := 11) sclaw.nd rfl (Or.inl rfl) (pe_mt0 M_LiveShelf_current_schedule hG (hr.mono (by first | decide | omega)) passL (pv 4))) (C8.pss_cut (ps_if (pw_or (pt_not (pt_val (pe_df D_is_schedule hG (hr.mono (by first | decide | omega)) passL (by rfl) (pa_cons (pv 3) (pa_cons (pv 11) pa_nil))))) (pw_or1 (pt_cmpR (k_neD K hu) (pe_df D_books_after hG (hr.mono (by first | decide | omega)) passL (by rfl) (pa_cons (pv 3) (pa_cons (pv 11) pa_nil))) (pe_mt0 M_LiveShelf_current_books hG (hr.mono (by first | decide | omega)) passL (pv 4)) (nomark _)))).pt (pss_one (ps_ret pe_bl)) pss_nil) (C8.pss_cut (ps_if (pt_cmpR (k_neD K hu) (pe_df D_books_out hG (hr.mono (by first | decide | omega)) passL (by rfl) (pa_cons (pv 3) (pa_cons (pv 11) pa_nil))) (pe_callB (k_sorted K) (by rfl) B.sorted Bsorted (pa_cons (pe_mt0 M_LiveShelf_current_out hG (hr.mono (by first | decide | omega)) passL (pv 4)) pa_nil)) (nomark _)) (pss_one (ps_ret pe_bl)) pss_nil) (C8.pss_cut (ps_if (pt_not (pt_val (pe_df D_law_from_right hG (hr.mono (by first | decide | omega)) passL (by rfl) (pa_cons (pv 4) (pa_cons (pv 3) (pa_cons (pv 11) (pa_cons (pe_cmpR (k_eqD K hu) (pe_ix (k_ixL K) (pv 5) pe_int (fun _ _ => rfl)) (pe_lst pa_nil) (nomark _)) pa_nil))))))) (pss_one (ps_ret pe_bl)) pss_nil) (pss_cons (ps_asg (pe_df D_law_led hG (hr.mono (by first | decide | omega)) passL (by rfl) (pa_cons (pv 3) (pa_cons (pv 11) pa_nil))) (k_gtup (n := 3) K rfl (pgs_cons (pg_name (i := 12) sclaw.nd rfl (Or.inl rfl)) (pgs_cons (pg_name (i := 13) sclaw.nd rfl (Or.inl rfl)) (pgs_cons (pg_name (i := 14) sclaw.nd rfl (Or.inl rfl)) pgs_nil))))) (C8.pss_cut (ps_if (pw_or (pt_cmpR (op_neo Q_LiveShelf hG (hr.mono (by first | decide | omega)) passL) (pv 12) (pv 4) (nomark _)) (pw_or (pt_cmpR (k_neD K hu) (pe_df D_places_filled hG (hr.mono (by first | decide | omega)) passL (by rfl) (pa_cons (pv 3) (pa_cons (pv 11) pa_nil))) (pv 13) (nomark _)) (pw_or1 (pt_cmpR op_ne (pe_df D_most_out hG (hr.mono (by first | decide | omega)) passL (by rfl) (pa_cons (pv 3) (pa_cons (pv 11) pa_nil))) (pv 14) (nomark _))))).pt (pss_one (ps_ret pe_bl)) pss_nil) (C8.pss_cut (ps_if (pt_cmpR (k_neD K hu) (pe_df D_parse_schedule hG (hr.mono (by first | decide | omega)) passL (by rfl) (pa_cons (pv 3) (pa_cons (pe_df D_format_schedule hG (hr.mono (by first | decide | omega)) passL (by rfl) (pa_cons (pv 3) (pa_cons (pv 11) pa_nil))) pa_nil))) (pv 11) (nomark _)) (pss_one (ps_ret pe_bl)) pss_nil) (pss_one (ps_for (passes_of rfl) rfl (pi_range1 (by rfl) B.range (pa_cons (pe_callB (call_min2' rfl) (by rfl) B.min Bmin (pa_cons (pe_callB (k_len K) (by rfl) B.len Blen (pa_cons (pv 11) pa_nil)) (pa_cons pe_int pa_nil))) pa_nil)) (pg_name (i := 6) sclaw.nd rfl (Or.inl rfl)) (pss_cons (ps_expr (pe_mt0 M_LiveShelf_undo hG (hr.mono (by first | decide | omega)) passL (pv 4))) (pss_cons (ps_set (i := 15) sclaw.nd rfl (Or.inl rfl) (pe_slice (k_slL K) (pv 11) po_none (po_some (pe_op op_sub (pe_op op_sub (pe_callB (k_len K) (by rfl) B.len Blen (pa_cons (pv 11) pa_nil)) (pv 6)) pe_int)))) (pss_one (ps_if (pw_or (pt_cmpR (k_neD K hu) (pe_mt0 M_LiveShelf_current_schedule hG (hr.mono (by first | decide | omega)) passL (pv 4)) (pv 15) (nomark _)) (pw_or1 (pt_cmpR (k_neD K hu) (pe_df D_books_after hG (hr.mono (by first | decide | omega)) passL (by rfl) (pa_cons (pv 3) (pa_cons (pv 15) pa_nil))) (pe_mt0 M_LiveShelf_current_books hG (hr.mono (by first | decide | omega)) passL (pv 4)) (nomark _)))).pt (pss_one (ps_ret pe_bl)) pss_nil))))))))))))))))) (pss_cons (ps_set (i := 11) sclaw.nd rfl (Or.inl rfl) (pe_op op_rep (pe_lst (pa_cons (pe_tup (pa_cons pe_str (pa_cons pe_int pa_nil))) (pa_cons (pe_tup (pa_cons pe_str (pa_cons pe_int pa_nil))) pa_nil))) pe_int)) (pss_cons (ps_set (i := 16) sclaw.nd rfl (Or.inl rfl) (pe_cm G_LiveShelf_from_schedule hG (hr.mono (by first | decide | omega)) passL (by rfl) (pa_cons pe_int (pa_cons (pv 11) pa_nil)))) (pss_one (ps_ret (pe_and (pe_cmpR op_eq (pe_callB (call_lenOwn L_LiveShelf hG (hr.mono (by first | decide | omega)) passL) (by rfl) B.len Blen (pa_cons (pv 16) pa_nil)) pe_int (nomark _)) (pe_and (pe_cmpR (k_eqD K hu) (pe_mt0 M_LiveShelf_current_schedule hG (hr.mono (by first | decide | omega)) passL (pv 16)) (pv 11) (nomark _)) (pe_one (pe_cmpR (op_eqo Q_LiveShelf hG (hr.mono (by first | decide | omega)) passL) (pv 16) (pe_cn N_LiveShelf hG (hr.mono (by first | decide | omega)) passL (by rfl) (pa_cons pe_int pa_nil)) (nomark _))))))))))), ?_⟩
    walk_at "s"
    refine ⟨a, ns, rfl, hA, hl, fun H1 r s1 nr hR1 => ?_⟩
    have hA1 := s1.seq hA
    walk_at "s"
    rw [List.length_map]
    have hc : 2 ≤ 2 + (if (4 : Int) < (ns.length : Int) then (4 : Int) else (ns.length : Int)) ∧ 2 + (if (4 : Int) < (ns.length : Int) then (4 : Int) else (ns.length : Int)) ≤ 6 := by split <;> omega
    generalize 2 + (if (4 : Int) < (ns.length : Int) then (4 : Int) else (ns.length : Int)) = c0 at hc
    refine ⟨_, rfl, by omega, by omega, ?_⟩
    refine for_src src_range (fun i σ H' => ∃ v2 v3 v4 v5 v6 v7 v8 v9 v10 v11 v12 v13 v14 v15 v16, σ = [some (.ref a), some (.ref r), v2, v3, v4, v5, v6, v7, v8, v9, v10, v11, v12, v13, v14, v15, v16] ∧ RA H' r []) (fun _ _ _ _ => trivial) ⟨none, none, none, none, none, none, none, none, none, none, none, none, none, none, none, rfl, hR1⟩ ?_ ?_
    · rintro i x σ H2' H2 hi ⟨v2, v3, v4, v5, v6, v7, v8, v9, v10, v11, v12, v13, v14, v15, v16, rfl, hR2⟩ ⟨rfl, rfl⟩
      walk_at "s"
      intro t0 nt0
      have hR3 := hR2.same (same_new (o := .lst [.int 9, .int 200]) nt0)
      have ht0 : upd H2 t0 (.lst [.int 9, .int 200]) t0 = some (.lst [.int 9, .int 200]) := upd_same
      generalize upd H2 t0 _ = H3 at *
      obtain ⟨mm, hmm, m1, m2⟩ : ∃ mm : Int, atI [V.int 9, V.int 200] ((0 + (i : Int)) % 2) = some (.int mm) ∧ 1 ≤ mm ∧ mm ≤ 200 := by
        have : (0 + (i : Int)) % 2 = 0 ∨ (0 + (i : Int)) % 2 = 1 := by omega
        rcases this with e | e
        · exact ⟨9, by rw [e]; rfl, by decide, by decide⟩
        · exact ⟨200, by rw [e]; rfl, by decide, by decide⟩
      walk_at "s"
      refine ⟨r, mm, [], rfl, hR3, by omega, Int.lt_of_le_of_lt m2 (by decide), fun e1 H5 e10 e11 hR5 hK5 => ?_⟩
      obtain ⟨n, en, hn1, hn2⟩ : ∃ n : Nat, 1 + e1 = (n : Int) ∧ 1 ≤ n ∧ n ≤ 200 := ⟨(1 + e1).toNat, by omega, by omega, by omega⟩
      walk_at "s"
      rw [en]
      refine ⟨fun σ' H' => ∃ v s b t d m, σ' = [some (.ref a), some (.ref r), some (.int (0 + (i : Int))), some (.int (n : Int)), some (.ref v), some (.ref m), v6, v7, v8, v9, v10, v11, v12, v13, v14, v15, v16] ∧ S49 CL CS r v s b t d H' n [] m, ?_, ?_⟩
      · walk_at "s"
        intro v dv nv ndv nev
        have s5 : Same H5 (upd (upd H5 dv (.own v)) v (.ins CL dv [])) := (same_new ndv).trans (same_new (by rw [upd_ne nev.symm]; exact nv))
        refine ⟨v, dv, n, rfl, upd_same, hn1, hn2, fun H6 s b t d hK6 ns6 nb6 nt6 nd6 hL6 => ⟨rfl, ?_⟩⟩
        have s56 : Same H5 H6 := fun x o hx => hK6 x o (by simp; intro e; rw [e, nv] at hx; cases hx) (s5 _ _ hx)
        have nb5 := s5.free nb6
        have nt5 := s5.free nt6
        have nd5 := s5.free nd6
        walk_at "s"
        refine ⟨.of_le (by omega) (by omega) (by omega) (by omega), fun mb nmb => ?_⟩
        rw [iota_vB, show ((List.range n).map fun i => some ((i : Nat) : Int)) = allB n from rfl]
        have sb := same_new (o := .lst (vB (allB n))) nmb
        have hmb : upd H6 mb (.lst (vB (allB n))) mb = some (.lst (vB (allB n))) := upd_same
        generalize upd H6 mb _ = H7 at *
        walk_at "s"
        intro mo nmo
        have so := same_new (o := .lst []) nmo
        have hmo : upd H7 mo (.lst []) mo = some (.lst (vI [])) := upd_same
        have hmb8 := so _ _ hmb
        generalize upd H7 mo _ = H8 at *
        walk_at "s"
        intro md nmd
        have sd := same_new (o := .lst []) nmd
        have hmd : upd H8 md (.lst []) md = some (.lst []) := upd_same
        have hmb9 := sd _ _ hmb8
        have hmo9 := sd _ _ hmo
        generalize upd H8 md _ = H9 at *
        walk_at "s"
        intro m nm
        have sm := same_new (o := .lst [.ref mb, .ref mo, .ref md]) nm
        have hm : upd H9 m (.lst [.ref mb, .ref mo, .ref md]) m = some (.lst [.ref mb, .ref mo, .ref md]) := upd_same
        have hmb10 := sm _ _ hmb9
        have hmo10 := sm _ _ hmo9
        have hmd10 := sm _ _ hmd
        have hS : S49 CL CS r v s b t d (upd H9 m (.lst [.ref mb, .ref mo, .ref md])) n [] m := by
          have s610 := sb.trans (so.trans (sd.trans sm))
          have l6' : ∀ x ∈ [b, t, d], H6 x ≠ none := live_ne hL6
          have hr6 : H6 r ≠ none := (hR5.same s56).got
          have fresh : ∀ x, H6 x = none → x ∉ r :: [b, t, d] := fun x hx z => by
            rcases List.mem_cons.mp z with e | z
            · exact hr6 (e ▸ hx)
            · exact l6' x z hx
          refine ⟨?_, hL6.same s610, .nil, mb, mo, md, hm, fresh _ ((sb.trans (so.trans sd)).free nm), hmb10, fresh _ nmb, hmo10, fresh _ (sb.free nmo), .lst hmd10 (fresh _ ((sb.trans so).free nmd)) (by decide) .nil⟩
          refine (hR5.grow (s56.trans s610) (L := [b, t, d]) fun x hx => ⟨?_, by
            obtain ⟨o, ho⟩ := Option.ne_none_iff_exists'.mp (l6' x hx)
            rw [s610 _ _ ho]
            simp⟩).less (fun x hx => by rw [List.append_nil]; exact hx)
          simp only [List.mem_cons, List.not_mem_nil, or_false] at hx
          rcases hx with e | e | e
          · exact e ▸ nb5
          · exact e ▸ nt5
          · exact e ▸ nd5
        walk_at "s"
        exact ⟨v, s, b, t, d, m, rfl, hS⟩
      clear hR5 hR3 hR2 hK5 ht0 nt0 hmm
      rintro σ H11 ⟨v, s, b, t, d, m, rfl, hS⟩
      refine ⟨fun σ' H' => ∃ m v6 v7 v8 v9 v10 dn, σ' = [some (.ref a), some (.ref r), some (.int (0 + (i : Int))), some (.int (n : Int)), some (.ref v), some (.ref m), v6, v7, v8, v9, v10, v11, v12, v13, v14, v15, v16] ∧ S49 CL CS r v s b t d H' n dn m ∧ dn.length ≤ 290, ?_, ?_⟩
      · walk_at "s"
        refine ifEJ (fun v' H' => ∃ cc : Int, v' = .int cc ∧ 0 ≤ cc ∧ cc ≤ 290 ∧ S49 CL CS r v s b t d H' n [] m) (fun Q' hQ' _ => ?_) (fun Q' hQ' _ => ?_) ?_
        · walk_at "s"
          exact hQ' _ _ ⟨290, rfl, by decide, by decide, hS⟩
        · walk_at "s"
          exact ⟨r, 121, _, rfl, hS.ra, by decide, by decide, fun d' H' d0 d1 hS' hK' => hQ' _ _ ⟨d', rfl, d0, by omega, hS.kr hK' hS'⟩⟩
        rintro _ H12 ⟨cn, rfl, cn0, cn1, hS⟩
        walk_at "s"
        refine ⟨_, rfl, by omega, by omega, ?_⟩
        refine for_src src_range (fun j σ H' => ∃ m v6 v7 v8 v9 v10 dn, σ = [some (.ref a), some (.ref r), some (.int (0 + (i : Int))), some (.int (n : Int)), some (.ref v), some (.ref m), v6, v7, v8, v9, v10, v11, v12, v13, v14, v15, v16] ∧ S49 CL CS r v s b t d H' n dn m ∧ dn.length = j) (fun _ _ _ _ => trivial)
          ⟨m, v6, v7, v8, v9, v10, [], rfl, hS, rfl⟩ ?_ ?_
        · rintro j x σ H13' H13 hj ⟨m, v6, v7, v8, v9, v10, dn, rfl, hW, hdl⟩ ⟨rfl, rfl⟩
          have hSt := hW.vl.st
          have hcnt := hSt.cnt
          have hcl := List.count_le_length (a := none) (l := (runS n dn).1)
          have hlen := hSt.len
          walk_at "s"
          refine ⟨r, m, _, _, _, _, dn, rfl, hW.ra, hW.mo, fun x g z => g (by rw [z]; exact List.mem_cons_self), by omega, by omega, by omega, hSt.full, fun H1 pp k x hpp hK1 hR1 hk1 hk0 => ?_⟩
          have hW1 := hW.kr hK1 hR1
          walk_at "s"
          cases k with
          | true =>
            obtain ⟨x0, i0, hpx⟩ := hk1 rfl
            obtain ⟨pl, rfl⟩ := Int.eq_ofNat_of_zero_le x0
            rw [Int.toNat_natCast] at hpx
            have pll := (List.getElem?_eq_some_iff.mp hpx).1
            have est : runS n (dn ++ [⟨true, pl, pl, i0, (((runS n dn).2.length : Nat) : Int)⟩]) = ((runS n dn).1.set pl none, (runS n dn).2 ++ [i0]) := by rw [runS_app]; rfl
            refine ⟨m, _, _, _, dn, ⟨true, pl, pl, i0, (((runS n dn).2.length : Nat) : Int)⟩, rfl, hW1.mo, by omega, by omega, by omega, fun _ => ⟨pl, i0, rfl, hpx, fun H2 m' tt s2 htt hMm => ?_⟩, fun z => (by cases z)⟩
            have hM2 : Mo (fun x => x ∉ r :: [b, t, d]) H2 m' (runS n (dn ++ [⟨true, pl, pl, i0, (((runS n dn).2.length : Nat) : Int)⟩])).1 (runS n (dn ++ [⟨true, pl, pl, i0, (((runS n dn).2.length : Nat) : Int)⟩])).2 (dn ++ [⟨true, pl, pl, i0, (((runS n dn).2.length : Nat) : Int)⟩]) := by
              rw [est]
              exact hMm.move fun x o g e => ⟨e, g.elim id fun z => hW1.ra.fresh z⟩
            have hW2 := hW1.same s2
            obtain ⟨⟨dxx, hvv⟩, _⟩ := id hW2.lv
            walk_at "s"
            refine ⟨v, s, b, t, d, n, _, _, dn, pl, i0, rfl, hW2.lv, hpx, by omega, by omega, fun H5 hK5 hL5 => ?_⟩
            have hW5 := hW2.step (dn' := dn ++ [⟨true, pl, pl, i0, (((runS n dn).2.length : Nat) : Int)⟩]) hK5 (by rw [est]; exact hL5) (.snoc hW.vl (.inl ⟨pl, i0, rfl, hpx⟩) (fun z => by cases z)) hM2
            walk_at "s"
            exact ⟨m', _, _, _, _, _, _, rfl, hW5, by rw [List.length_append, List.length_singleton]; omega⟩
          | false =>
            have hxt := hk0 rfl
            have hx0 := hSt.rt x hxt
            obtain ⟨pl, hpx, hp2⟩ : ∃ p : Nat, (runS n dn).1[p]? = some none ∧ ∀ m : Nat, m < p → (runS n dn).1[m]? ≠ some none :=
              have g := fg_at (hSt.gap (fun z => by rw [z] at hxt; cases hxt))
              ⟨_, g.1, g.2⟩
            obtain ⟨o, ho, ho2⟩ : ∃ o : Nat, (runS n dn).2[o]? = some x ∧ ∀ m : Nat, m < o → (runS n dn).2[m]? ≠ some x := idx_first9 hxt
            have pll := (List.getElem?_eq_some_iff.mp hpx).1
            have est : runS n (dn ++ [⟨false, x, pl, x, o⟩]) = ((runS n dn).1.set pl (some x), (runS n dn).2.erase x) := by rw [runS_app]; rfl
            refine ⟨m, _, _, _, dn, ⟨false, x, pl, x, o⟩, rfl, hW1.mo, by omega, by omega, by omega, fun z => (by cases z), fun _ => ⟨pl, hpx, hp2, hSt.nd, fun H2 m' tt s2 htt hMm => ?_⟩⟩
            have hM2 : Mo (fun x => x ∉ r :: [b, t, d]) H2 m' (runS n (dn ++ [⟨false, x, pl, x, o⟩])).1 (runS n (dn ++ [⟨false, x, pl, x, o⟩])).2 (dn ++ [⟨false, x, pl, x, o⟩]) := by
              rw [est]
              exact hMm.move fun x o g e => ⟨e, g.elim id fun z => hW1.ra.fresh z⟩
            have hW2 := hW1.same s2
            obtain ⟨⟨dxx, hvv⟩, _⟩ := id hW2.lv
            walk_at "s"
            refine ⟨v, s, b, t, d, n, _, _, dn, pl, o, x, rfl, hW2.lv, hx0.1, hpx, hp2, ho, ho2, by omega, fun H5 hK5 hL5 => ?_⟩
            have hW5 := hW2.step (dn' := dn ++ [⟨false, x, pl, x, o⟩]) hK5 (by rw [est]; exact hL5) (.snoc hW.vl (.inr ⟨pl, o, x, rfl, hpx, ho, ho2⟩) (fun _ m hm => hp2 m (by have z : m < ((pl : Nat) : Int).toNat := hm; rwa [Int.toNat_natCast] at z))) hM2
            walk_at "s"
            exact ⟨m', _, _, _, _, _, _, rfl, hW5, by rw [List.length_append, List.length_singleton]; omega⟩
        · rintro σ H13 ⟨m, v6, v7, v8, v9, v10, dn, rfl, hW, hdl⟩
          walk_at "s"
          exact ⟨m, v6, v7, v8, v9, v10, dn, rfl, hW, by omega⟩
      clear hS
      rintro σ H13 ⟨m, v6, v7, v8, v9, v10, dn, rfl, hW, hdl⟩
      obtain ⟨hvo, er⟩ := hW.vl.run
      have ob := ops_lt hvo
      have oR : OpsR (opsOf dn) := fun o ho => by have := ob o ho; omega
      have ol : (opsOf dn).length ≤ 400 := by rw [opsOf_len]; omega
      have oll := opsOf_len dn
      refine ⟨fun σ' H' => ∃ sc as, σ' = [some (.ref a), some (.ref r), some (.int (0 + (i : Int))), some (.int (n : Int)), some (.ref v), some (.ref m), v6, v7, v8, v9, v10, some (.ref sc), v12, v13, v14, v15, v16] ∧ Same H13 H' ∧ H13 sc = none ∧ TupsAt opV (fun a => H13 a = none) H' sc as (opsOf dn), ?_, ?_⟩
      · obtain ⟨⟨dx13, hv13⟩, _⟩ := id hW.lv
        walk_at "s"
        refine ⟨v, s, b, t, d, n, _, _, dn, rfl, hW.lv, by omega, fun H14 sc s14 nsc hT14 => ?_⟩
        rw [cur_ops] at hT14
        obtain ⟨as, hsc, gsc, al, hit⟩ := tr_ops hT14
        walk_at "s"
        exact ⟨sc, as, rfl, s14, nsc, hsc, al, fun i a o e1 e2 => ⟨(hit i a o e1 e2).2, (hit i a o e1 e2).1⟩⟩
      rintro σ H14 ⟨sc, as, rfl, s14, nsc, T14⟩
      have W14 := hW.same s14
      -- is_schedule, books_after
      refine ⟨fun σ' H' => σ' = [some (.ref a), some (.ref r), some (.int (0 + (i : Int))), some (.int (n : Int)), some (.ref v), some (.ref m), v6, v7, v8, v9, v10, some (.ref sc), v12, v13, v14, v15, v16] ∧ Same H14 H', ?_, ?_⟩
      · walk_at "s"
        refine ⟨n, sc, as, opsOf dn, rfl, hn1, hn2, rows_ofT T14, ol, hvo, fun H15 s15 => ?_⟩
        have T15 := T14.same s15
        walk_at "s"
        refine ⟨n, sc, as, opsOf dn, rfl, hn1, hn2, rows_ofT T15, ol, hvo, fun H16 p16 s16 np16 hp16 => ?_⟩
        have L16 := W14.lv.same (s15.trans s16)
        obtain ⟨⟨dx16, hv16⟩, _⟩ := id L16
        walk_at "s"
        refine ⟨v, s, b, t, d, n, _, _, dn, rfl, L16, fun H17 p17 s17 np17 hp17 => ?_⟩
        walk_at "s"
        refine r_neBk (lst_of (s17 _ _ hp16)) (lst_of hp17) ?_
        rw [er, decide_eq_true rfl]
        walk_at "s"
        exact ⟨rfl, s15.trans (s16.trans s17)⟩
      rintro σ H17 ⟨rfl, s17⟩
      have T17 := T14.same s17
      have W17 := W14.same s17
      -- books_out
      refine ⟨fun σ' H' => σ' = [some (.ref a), some (.ref r), some (.int (0 + (i : Int))), some (.int (n : Int)), some (.ref v), some (.ref m), v6, v7, v8, v9, v10, some (.ref sc), v12, v13, v14, v15, v16] ∧ Same H17 H', ?_, ?_⟩
      · walk_at "s"
        refine ⟨n, sc, as, opsOf dn, rfl, hn1, hn2, rows_ofT T17, ol, hvo, fun H18 p18 l18 s18 np18 pm18 ps18 hp18 => ?_⟩
        have L18 := W17.lv.same s18
        obtain ⟨⟨dx18, hv18⟩, _⟩ := id L18
        walk_at "s"
        refine ⟨v, s, b, t, d, n, _, _, dn, rfl, L18, fun H19 p19 s19 np19 hp19 => ?_⟩
        walk_at "s"
        refine r_sortI (lst_of hp19) fun l20 p20 pm20 ps20 np20 => ?_
        have s20 := same_new (o := .lst (vI l20)) np20
        have hp20 : upd H19 p20 (.lst (vI l20)) p20 = some (.lst (vI l20)) := upd_same
        generalize upd H19 p20 _ = H20 at *
        rw [er] at pm18
        have el : l18 = l20 := perm_le_eq (pm18.trans pm20.symm) ps18 ps20
        walk_at "s"
        refine r_neLI (lst_of (s20 _ _ (s19 _ _ hp18))) (lst_of hp20) ?_
        rw [decide_eq_true el]
        walk_at "s"
        exact ⟨rfl, s18.trans (s19.trans s20)⟩
      rintro σ H20 ⟨rfl, s20⟩
      have T20 := T17.same s20
      have W20 := W17.same s20
      clear T14 T17 W14 W17
      -- from_right
      refine ⟨fun σ' H' => σ' = [some (.ref a), some (.ref r), some (.int (0 + (i : Int))), some (.int (n : Int)), some (.ref v), some (.ref m), v6, v7, v8, v9, v10, some (.ref sc), v12, v13, v14, v15, v16] ∧ Same H20 H', ?_, ?_⟩
      · obtain ⟨mb, mo, md, hm, gm, hmb, gmb, hmo, gmo, hT⟩ := id W20.mo
        walk_at "s"
        intro e21 ne21
        have s21 := same_new (o := .lst []) ne21
        refine r_eqLI (xs := (runS n dn).2) (ys := []) (lst_of (s21 _ _ hmo)) (lst_of upd_same) ?_
        generalize upd H20 e21 _ = H21 at *
        walk_at "s"
        refine ⟨v, s, b, t, d, n, dn, sc, as, rfl, W20.lv.same s21, hW.vl, hn1, hn2, by omega, (T20.same s21).any, fun H22 s22 => ?_⟩
        walk_at "s"
        exact ⟨rfl, s21.trans s22⟩
      rintro σ H22 ⟨rfl, s22⟩
      have T22 := T20.same s22
      have W22 := W20.same s22
      -- led
      refine r_seq ?_
      walk_at "led"
      refine ⟨n, sc, as, opsOf dn, rfl, hn1, hn2, rows_ofT T22, ol, hvo, fun H23 T v2 sh2 b2 t2 d2 fp dn2 s23 hTT hfp hL2 hV2 ed => ?_⟩
      have T23 := T22.same s23
      have W23 := W22.same s23
      have eS := run_same hW.vl hV2 ed
      walk_at "led"
      refine ⟨fun σ' H' => σ' = [some (.ref a), some (.ref r), some (.int (0 + (i : Int))), some (.int (n : Int)), some (.ref v), some (.ref m), v6, v7, v8, v9, v10, some (.ref sc), some (.ref v2), some (.ref fp), some (.int (runP n (opsOf dn)).2.2), v15, v16] ∧ Same H23 H', ?_, ?_⟩
      · obtain ⟨⟨dx23, hv23⟩, _⟩ := id W23.lv
        obtain ⟨⟨dx2, hv2⟩, _⟩ := id hL2
        walk_at "s"
        refine r_neo hv2 (.inl ⟨v, _, _, rfl, hv23⟩) ⟨v2, sh2, b2, t2, d2, v, s, b, t, d, n, n, _, _, _, _, dn2, dn, rfl, hL2, W23.lv, _, rfl, ?_⟩
        rw [eS, decide_eq_true rfl]
        walk_at "s"
        refine ⟨n, sc, as, opsOf dn, rfl, hn1, hn2, rows_ofT T23, ol, hvo, fun H24 p24 s24 np24 hp24 => ?_⟩
        walk_at "s"
        refine r_neLI (lst_of hp24) (lst_of (s24 _ _ hfp)) ?_
        rw [decide_eq_true rfl]
        walk_at "s"
        refine ⟨n, sc, as, opsOf dn, rfl, hn1, hn2, rows_ofT (T23.same s24), ol, hvo, fun H25 s25 => ?_⟩
        walk_at "s"
        exact ⟨rfl, s24.trans s25⟩
      clear hTT hfp hL2 hV2 eS
      rintro σ H25 ⟨rfl, s25⟩
      have T25 := T23.same s25
      have W25 := W23.same s25
      clear T20 T22 T23 W20 W22 W23
      -- the text
      refine ⟨fun σ' H' => σ' = [some (.ref a), some (.ref r), some (.int (0 + (i : Int))), some (.int (n : Int)), some (.ref v), some (.ref m), v6, v7, v8, v9, v10, some (.ref sc), some (.ref v2), some (.ref fp), some (.int (runP n (opsOf dn)).2.2), v15, v16] ∧ Same H25 H', ?_, ?_⟩
      · walk_at "s"
        refine ⟨n, sc, as, opsOf dn, rfl, hn1, hn2, rows_ofT T25, ol, hvo, oR, fun H26 s26 => ?_⟩
        have T26 := T25.same s26
        walk_at "s"
        refine ⟨n, opsOf dn, rfl, hn1, hn2, ol, hvo, oR, fun H27 fo fas s27 nfo hfo fl' hfi => ?_⟩
        have hTf : Tr (fun _ => True) H27 (.ref fo) (.list ((opsOf dn).map opD)) := ops_tr hfo trivial fl' (by omega) fun i a o e1 e2 => ⟨trivial, (hfi i a o e1 e2).2⟩
        walk_at "s"
        refine r_neOps hTf.dp (tups_dp (T26.same s27) (by omega)) rfl ?_
        walk_at "s"
        exact ⟨rfl, s26.trans s27⟩
      rintro σ H27 ⟨rfl, s27⟩
      have T27 := T25.same s27
      have W27 := W25.same s27
      have L27 := W27.lv
      have R27 := W27.ra
      have hsc27 := T27.hp
      have off13 : ∀ x, H13 x = none → x ∉ [b, t, d] := fun x hx z => live_ne hW.lv x z hx
      have goff : sc ∉ [b, t, d] := off13 _ nsc
      clear T25 W25
      walk_at "s"
      rw [List.length_map, T27.len, oll]
      obtain ⟨cc, ec, cl1⟩ : ∃ cc : Nat, (if (10 : Int) < ((dn.length : Nat) : Int) then (10 : Int) else ((dn.length : Nat) : Int)) = (cc : Int) ∧ cc ≤ dn.length := ⟨min dn.length 10, by split <;> omega, Nat.min_le_left _ _⟩
      rw [ec]
      refine ⟨_, rfl, by omega, by omega, ?_⟩
      refine for_src src_range (fun j σ H' => ∃ v6 v15, σ = [some (.ref a), some (.ref r), some (.int (0 + (i : Int))), some (.int (n : Int)), some (.ref v), some (.ref m), v6, v7, v8, v9, v10, some (.ref sc), some (.ref v2), some (.ref fp), some (.int (runP n (opsOf dn)).2.2), v15, v16] ∧ RA H' r [b, t, d] ∧ LiveAt CL CS H' v s b t d n (runS n (dn.take (dn.length - j))).1 (runS n (dn.take (dn.length - j))).2 (dn.take (dn.length - j)) ∧ KpL [b, t, d] H27 H') (fun _ _ _ _ => trivial)
        ⟨_, _, rfl, R27, by rw [Nat.sub_zero, List.take_length]; exact L27, KpL.refl _ _⟩ ?_ ?_
      · rintro j x σ H28' H28 hj ⟨v6, v15, rfl, hR28, hL28, hK28⟩ ⟨rfl, rfl⟩
        have hj' : j < dn.length := by omega
        obtain ⟨st, est⟩ := take_last hj'
        have hV28 := hW.vl.take (dn.length - j)
        rw [est] at hL28 hV28
        have hdk : (opsOf dn).take (dn.length - (j + 1)) = opsOf (dn.take (dn.length - (j + 1))) := List.map_take.symm
        have hdkl : (dn.take (dn.length - (j + 1))).length = dn.length - (j + 1) := by rw [List.length_take]; omega
        have hVk := hW.vl.take (dn.length - (j + 1))
        generalize dn.take (dn.length - (j + 1)) = dk at *
        obtain ⟨hvk, erk⟩ := hVk.run
        obtain ⟨⟨dx28, hv28⟩, _⟩ := id hL28
        walk_at "s"
        refine undo_of hL28 hV28 hn2 (by omega) fun H29 hK29 hL29 => ?_
        have hR29 := hR28.kpl hK29 (fun x hx => hx) (live_ne hL29)
        have hK2729 := hK28.trans hK29
        have T29 : TupsAt opV (fun _ => True) H29 sc as (opsOf dn) := (T27.kpl hK2729 goff fun a g => off13 a g).any
        have hsc29 := T29.hp
        obtain ⟨⟨dx29, hv29⟩, _⟩ := id hL29
        walk_at "s"
        rw [List.length_map, T29.len, oll, show ((dn.length : Nat) : Int) - (0 + (j : Int)) - 1 = ((dn.length - (j + 1) : Nat) : Int) by omega, cut_hi]
        intro p6 np6
        have s6 := same_new (o := .lst ((as.map V.ref).take (dn.length - (j + 1)))) np6
        have hp6 : upd H29 p6 (.lst ((as.map V.ref).take (dn.length - (j + 1)))) p6 = some (.lst ((as.map V.ref).take (dn.length - (j + 1)))) := upd_same
        have T30 := rows_takeT T29 (dn.length - (j + 1)) s6 hp6
        rw [hdk] at T30
        have hL30 := hL29.same s6
        generalize upd H29 p6 _ = H30 at *
        obtain ⟨⟨dx30, hv30⟩, _⟩ := id hL30
        have okl : (opsOf dk).length ≤ 400 := by rw [opsOf_len]; omega
        walk_at "s"
        refine ⟨v, s, b, t, d, n, _, _, dk, rfl, hL30, by omega, fun H31 p31 s31 np31 hT31 => ?_⟩
        rw [cur_ops] at hT31
        have T31 := T30.same s31
        walk_at "s"
        refine r_neOps hT31.dp (tups_dp T31 (by omega)) rfl ?_
        walk_at "s"
        refine ⟨n, p6, _, opsOf dk, rfl, hn1, hn2, rows_ofT T31, okl, hvk, fun H32 p32 s32 np32 hp32 => ?_⟩
        have hL32 := hL30.same (s31.trans s32)
        obtain ⟨⟨dx32, hv32⟩, _⟩ := id hL32
        walk_at "s"
        refine ⟨v, s, b, t, d, n, _, _, dk, rfl, hL32, fun H33 p33 s33 np33 hp33 => ?_⟩
        walk_at "s"
        refine r_neBk (lst_of (s33 _ _ hp32)) (lst_of hp33) ?_
        rw [erk, decide_eq_true rfl]
        have s2933 := s6.trans (s31.trans (s32.trans s33))
        walk_at "s"
        exact ⟨_, _, rfl, hR29.same s2933, hL29.same s2933, hK2729.trans (KpL.of s2933)⟩
      · rintro σ H28 ⟨v6, v15, rfl, hR28, _, _⟩
        walk_at "s"
        exact ⟨_, _, _, _, _, _, _, _, _, _, _, _, _, _, _, rfl, hR28.less (fun x hx => by cases hx)⟩
    · rintro σ H2 ⟨v2, v3, v4, v5, v6, v7, v8, v9, v10, v11, v12, v13, v14, v15, v16, rfl, hR2⟩
      walk_at "s"
      intro t1 nt1
      have st1 := same_new (o := .tup [.str "take", .int 0]) nt1
      have ht1 : upd H2 t1 (.tup [.str "take", .int 0]) t1 = some (.tup [.str "take", .int 0]) := upd_same
      generalize upd H2 t1 _ = H3 at *
      walk_at "s"
      intro t2 nt2
      have st2 := same_new (o := .tup [.str "return", .int 0]) nt2
      have ht2 : upd H3 t2 (.tup [.str "return", .int 0]) t2 = some (.tup [.str "return", .int 0]) := upd_same
      have ht1 := st2 _ _ ht1
      generalize upd H3 t2 _ = H4 at *
      walk_at "s"
      intro p1 np1
      have sp1 := same_new (o := .lst [.ref t1, .ref t2]) np1
      have hp1 : upd H4 p1 (.lst [.ref t1, .ref t2]) p1 = some (.lst [.ref t1, .ref t2]) := upd_same
      have ht1 := sp1 _ _ ht1
      have ht2 := sp1 _ _ ht2
      generalize upd H4 p1 _ = H5 at *
      walk_at "s"
      refine r_rep (n := 200) hp1 (by show 2 * 200 ≤ 100000; decide) (by decide) fun p2 np2 => ?_
      have sp2 := same_new (o := .lst (List.replicate 200 [V.ref t1, V.ref t2]).flatten) np2
      have hp2 : upd H5 p2 (.lst (List.replicate 200 [V.ref t1, V.ref t2]).flatten) p2 = some (.lst ((many 200 [t1, t2]).map V.ref)) := by
        rw [upd_same]
        unfold many
        rw [List.map_flatten, List.map_replicate]
        rfl
      have ht1 := sp2 _ _ ht1
      have ht2 := sp2 _ _ ht2
      generalize upd H5 p2 _ = H6 at *
      have ml : (many 200 twoO).length = 400 := by rw [many_len]; rfl
      have T6 : TupsAt opV (fun _ => True) H6 p2 (many 200 [t1, t2]) (many 200 twoO) := ⟨hp2, by rw [many_len, ml]; rfl, fun i a o e1 e2 => ⟨by
        rcases many_at 200 i a o e1 e2 with ⟨rfl, rfl⟩ | ⟨rfl, rfl⟩
        · exact ht1
        · exact ht2, trivial⟩⟩
      obtain ⟨mv, mr⟩ := many_vld 200
      walk_at "s"
      refine r_cm ?_
      walk_at "s"
      refine ⟨1, p2, _, many 200 twoO, rfl, Nat.le_refl _, by decide, rows_ofT T6, by rw [ml]; decide, mv, fun H7 v s b t d dn s7 nv ns nb nt nd hL hV ed => ?_⟩
      have dl : dn.length = 400 := by rw [← opsOf_len, ed, ml]
      have eS : (runS 1 dn) = ([some 0], []) := by rw [← hV.run.2, ed, mr]
      obtain ⟨⟨dx, hv⟩, _⟩ := id hL
      walk_at "s"
      refine ⟨v, dx, _, rfl, hv, ?_⟩
      refine ⟨v, s, b, t, d, 1, _, _, dn, rfl, hL, _, rfl, by rw [dl]; decide, ?_⟩
      rw [dl]
      walk_at "s"
      refine ⟨v, s, b, t, d, 1, _, _, dn, rfl, hL, by rw [dl]; decide, fun H8 p8 s8 np8 hT8 => ?_⟩
      rw [cur_ops, ed] at hT8
      walk_at "s"
      refine r_eqOps hT8.dp (tups_dp ((T6.same s7).same s8) (by rw [ml]; decide)) rfl ?_
      have hL8 := hL.same s8
      obtain ⟨⟨dx8, hv8⟩, _⟩ := id hL8
      walk_at "s"
      intro v' dv' nv' ndv' ndne'
      have s9 : Same H8 (upd (upd H8 dv' (.own v')) v' (.ins CL dv' [])) := (same_new ndv').trans (same_new (by rw [upd_ne ndne'.symm]; exact nv'))
      refine ⟨v', dv', 1, rfl, upd_same, Nat.le_refl _, by decide, fun H9 s' b' t' d' hK9 ns' nb' nt' nd' hL' => ⟨rfl, ?_⟩⟩
      have s89 : Same H8 H9 := fun x o hx => hK9 x o (by simp; intro e; rw [e, nv'] at hx; cases hx) (s9 _ _ hx)
      obtain ⟨⟨dx', hv'⟩, _⟩ := id hL'
      refine r_eqo (s89 _ _ hv8) (.inl ⟨v', _, _, rfl, hv'⟩) ⟨v, s, b, t, d, v', s', b', t', d', 1, 1, _, _, _, _, dn, [], rfl, hL8.same s89, hL', _, rfl, ?_⟩
      rw [eS, show (List.range 1).map (fun i => some ((i : Nat) : Int)) = [some 0] from rfl, decide_eq_true rfl]
      exact q _
end

end

theorem all_mk {l : PySem.W.OpenLaw} {w : World} {K : PySem.W.Frag} {h : Heap} {mg : Str → Option Value} {fa : Addr} (X : K.In h) (G : h.Ns mainGlobals mg) (hfa : mg "law" = some (.ref fa))
    {f_is_integer : Addr} {od_is_integer an_is_integer : Option Addr} {sl_is_integer : Array (Option Value)} {oc_is_integer kV_is_integer dc_is_integer pm_is_integer cd_is_integer ct_is_integer : Value}
    {T_is_integer : Addr} {oT_is_integer : Value} {dT_is_integer : Option Addr} {nT_is_integer : Nat} {sT_is_integer : Array (Option Value)}
    {f_is_listed : Addr} {od_is_listed an_is_listed : Option Addr} {sl_is_listed : Array (Option Value)} {oc_is_listed kV_is_listed dc_is_listed pm_is_listed cd_is_listed ct_is_listed : Value}
    {f_check_size : Addr} {od_check_size an_check_size : Option Addr} {sl_check_size : Array (Option Value)} {oc_check_size kV_check_size dc_check_size pm_check_size cd_check_size ct_check_size : Value}
    {f_performed : Addr} {od_performed an_performed : Option Addr} {sl_performed : Array (Option Value)} {oc_performed kV_performed dc_performed pm_performed cd_performed ct_performed : Value}
    {f_is_schedule : Addr} {od_is_schedule an_is_schedule : Option Addr} {sl_is_schedule : Array (Option Value)} {oc_is_schedule kV_is_schedule dc_is_schedule pm_is_schedule cd_is_schedule ct_is_schedule : Value}
    {f_books_after : Addr} {od_books_after an_books_after : Option Addr} {sl_books_after : Array (Option Value)} {oc_books_after kV_books_after dc_books_after pm_books_after cd_books_after ct_books_after : Value}
    {f_books_out : Addr} {od_books_out an_books_out : Option Addr} {sl_books_out : Array (Option Value)} {oc_books_out kV_books_out dc_books_out pm_books_out cd_books_out ct_books_out : Value}
    {f_places_filled : Addr} {od_places_filled an_places_filled : Option Addr} {sl_places_filled : Array (Option Value)} {oc_places_filled kV_places_filled dc_places_filled pm_places_filled cd_places_filled ct_places_filled : Value}
    {f_most_out : Addr} {od_most_out an_most_out : Option Addr} {sl_most_out : Array (Option Value)} {oc_most_out kV_most_out dc_most_out pm_most_out cd_most_out ct_most_out : Value}
    {f_number_in : Addr} {od_number_in an_number_in : Option Addr} {sl_number_in : Array (Option Value)} {oc_number_in kV_number_in dc_number_in pm_number_in cd_number_in ct_number_in : Value}
    {f_format_schedule : Addr} {od_format_schedule an_format_schedule : Option Addr} {sl_format_schedule : Array (Option Value)} {oc_format_schedule kV_format_schedule dc_format_schedule pm_format_schedule cd_format_schedule ct_format_schedule : Value}
    {f_words_of : Addr} {od_words_of an_words_of : Option Addr} {sl_words_of : Array (Option Value)} {oc_words_of kV_words_of dc_words_of pm_words_of cd_words_of ct_words_of : Value}
    {f_operation_in : Addr} {od_operation_in an_operation_in : Option Addr} {sl_operation_in : Array (Option Value)} {oc_operation_in kV_operation_in dc_operation_in pm_operation_in cd_operation_in ct_operation_in : Value}
    {f_parse_schedule : Addr} {od_parse_schedule an_parse_schedule : Option Addr} {sl_parse_schedule : Array (Option Value)} {oc_parse_schedule kV_parse_schedule dc_parse_schedule pm_parse_schedule cd_parse_schedule ct_parse_schedule : Value}
    {f_law_reel : Addr} {od_law_reel an_law_reel : Option Addr} {sl_law_reel : Array (Option Value)} {oc_law_reel kV_law_reel dc_law_reel pm_law_reel cd_law_reel ct_law_reel : Value}
    {f_law_draw : Addr} {od_law_draw an_law_draw : Option Addr} {sl_law_draw : Array (Option Value)} {oc_law_draw kV_law_draw dc_law_draw pm_law_draw cd_law_draw ct_law_draw : Value}
    {f_law_moved : Addr} {od_law_moved an_law_moved : Option Addr} {sl_law_moved : Array (Option Value)} {oc_law_moved kV_law_moved dc_law_moved pm_law_moved cd_law_moved ct_law_moved : Value}
    {f_law_next : Addr} {od_law_next an_law_next : Option Addr} {sl_law_next : Array (Option Value)} {oc_law_next kV_law_next dc_law_next pm_law_next cd_law_next ct_law_next : Value}
    {f_law_led : Addr} {od_law_led an_law_led : Option Addr} {sl_law_led : Array (Option Value)} {oc_law_led kV_law_led dc_law_led pm_law_led cd_law_led ct_law_led : Value}
    {f_law_from_right : Addr} {od_law_from_right an_law_from_right : Option Addr} {sl_law_from_right : Array (Option Value)} {oc_law_from_right kV_law_from_right dc_law_from_right pm_law_from_right cd_law_from_right ct_law_from_right : Value}
    {f_law : Addr} {od_law an_law : Option Addr} {sl_law : Array (Option Value)} {oc_law kV_law dc_law pm_law cd_law ct_law : Value}
    {C_Shelf : Addr}
    {f_Shelf_d__init_d_ : Addr} {od_Shelf_d__init_d_ an_Shelf_d__init_d_ : Option Addr} {sl_Shelf_d__init_d_ : Array (Option Value)} {oc_Shelf_d__init_d_ kV_Shelf_d__init_d_ dc_Shelf_d__init_d_ pm_Shelf_d__init_d_ cd_Shelf_d__init_d_ ct_Shelf_d__init_d_ : Value}
    {f_Shelf_can_take : Addr} {od_Shelf_can_take an_Shelf_can_take : Option Addr} {sl_Shelf_can_take : Array (Option Value)} {oc_Shelf_can_take kV_Shelf_can_take dc_Shelf_can_take pm_Shelf_can_take cd_Shelf_can_take ct_Shelf_can_take : Value}
    {f_Shelf_can_return : Addr} {od_Shelf_can_return an_Shelf_can_return : Option Addr} {sl_Shelf_can_return : Array (Option Value)} {oc_Shelf_can_return kV_Shelf_can_return dc_Shelf_can_return pm_Shelf_can_return cd_Shelf_can_return ct_Shelf_can_return : Value}
    {f_Shelf_take : Addr} {od_Shelf_take an_Shelf_take : Option Addr} {sl_Shelf_take : Array (Option Value)} {oc_Shelf_take kV_Shelf_take dc_Shelf_take pm_Shelf_take cd_Shelf_take ct_Shelf_take : Value}
    {f_Shelf_put_back : Addr} {od_Shelf_put_back an_Shelf_put_back : Option Addr} {sl_Shelf_put_back : Array (Option Value)} {oc_Shelf_put_back kV_Shelf_put_back dc_Shelf_put_back pm_Shelf_put_back cd_Shelf_put_back ct_Shelf_put_back : Value}
    {f_Shelf_can_perform : Addr} {od_Shelf_can_perform an_Shelf_can_perform : Option Addr} {sl_Shelf_can_perform : Array (Option Value)} {oc_Shelf_can_perform kV_Shelf_can_perform dc_Shelf_can_perform pm_Shelf_can_perform cd_Shelf_can_perform ct_Shelf_can_perform : Value}
    {f_Shelf_perform : Addr} {od_Shelf_perform an_Shelf_perform : Option Addr} {sl_Shelf_perform : Array (Option Value)} {oc_Shelf_perform kV_Shelf_perform dc_Shelf_perform pm_Shelf_perform cd_Shelf_perform ct_Shelf_perform : Value}
    {C_LiveShelf : Addr}
    {f_LiveShelf_d__init_d_ : Addr} {od_LiveShelf_d__init_d_ an_LiveShelf_d__init_d_ : Option Addr} {sl_LiveShelf_d__init_d_ : Array (Option Value)} {oc_LiveShelf_d__init_d_ kV_LiveShelf_d__init_d_ dc_LiveShelf_d__init_d_ pm_LiveShelf_d__init_d_ cd_LiveShelf_d__init_d_ ct_LiveShelf_d__init_d_ : Value}
    {f_LiveShelf_take_book : Addr} {od_LiveShelf_take_book an_LiveShelf_take_book : Option Addr} {sl_LiveShelf_take_book : Array (Option Value)} {oc_LiveShelf_take_book kV_LiveShelf_take_book dc_LiveShelf_take_book pm_LiveShelf_take_book cd_LiveShelf_take_book ct_LiveShelf_take_book : Value}
    {f_LiveShelf_return_book : Addr} {od_LiveShelf_return_book an_LiveShelf_return_book : Option Addr} {sl_LiveShelf_return_book : Array (Option Value)} {oc_LiveShelf_return_book kV_LiveShelf_return_book dc_LiveShelf_return_book pm_LiveShelf_return_book cd_LiveShelf_return_book ct_LiveShelf_return_book : Value}
    {f_LiveShelf_undo : Addr} {od_LiveShelf_undo an_LiveShelf_undo : Option Addr} {sl_LiveShelf_undo : Array (Option Value)} {oc_LiveShelf_undo kV_LiveShelf_undo dc_LiveShelf_undo pm_LiveShelf_undo cd_LiveShelf_undo ct_LiveShelf_undo : Value}
    {f_LiveShelf_current_books : Addr} {od_LiveShelf_current_books an_LiveShelf_current_books : Option Addr} {sl_LiveShelf_current_books : Array (Option Value)} {oc_LiveShelf_current_books kV_LiveShelf_current_books dc_LiveShelf_current_books pm_LiveShelf_current_books cd_LiveShelf_current_books ct_LiveShelf_current_books : Value}
    {f_LiveShelf_current_out : Addr} {od_LiveShelf_current_out an_LiveShelf_current_out : Option Addr} {sl_LiveShelf_current_out : Array (Option Value)} {oc_LiveShelf_current_out kV_LiveShelf_current_out dc_LiveShelf_current_out pm_LiveShelf_current_out cd_LiveShelf_current_out ct_LiveShelf_current_out : Value}
    {f_LiveShelf_current_schedule : Addr} {od_LiveShelf_current_schedule an_LiveShelf_current_schedule : Option Addr} {sl_LiveShelf_current_schedule : Array (Option Value)} {oc_LiveShelf_current_schedule kV_LiveShelf_current_schedule dc_LiveShelf_current_schedule pm_LiveShelf_current_schedule cd_LiveShelf_current_schedule ct_LiveShelf_current_schedule : Value}
    {f_LiveShelf_is_complete : Addr} {od_LiveShelf_is_complete an_LiveShelf_is_complete : Option Addr} {sl_LiveShelf_is_complete : Array (Option Value)} {oc_LiveShelf_is_complete kV_LiveShelf_is_complete dc_LiveShelf_is_complete pm_LiveShelf_is_complete cd_LiveShelf_is_complete ct_LiveShelf_is_complete : Value}
    {p_LiveShelf_is_complete : Addr} {rs_LiveShelf_is_complete : List Value}
    {f_LiveShelf_d__len_d_ : Addr} {od_LiveShelf_d__len_d_ an_LiveShelf_d__len_d_ : Option Addr} {sl_LiveShelf_d__len_d_ : Array (Option Value)} {oc_LiveShelf_d__len_d_ kV_LiveShelf_d__len_d_ dc_LiveShelf_d__len_d_ pm_LiveShelf_d__len_d_ cd_LiveShelf_d__len_d_ ct_LiveShelf_d__len_d_ : Value}
    {f_LiveShelf_from_schedule : Addr} {od_LiveShelf_from_schedule an_LiveShelf_from_schedule : Option Addr} {sl_LiveShelf_from_schedule : Array (Option Value)} {oc_LiveShelf_from_schedule kV_LiveShelf_from_schedule dc_LiveShelf_from_schedule pm_LiveShelf_from_schedule cd_LiveShelf_from_schedule ct_LiveShelf_from_schedule : Value}
    {p_LiveShelf_from_schedule : Addr} {rs_LiveShelf_from_schedule : List Value}
    {f_LiveShelf_d__eq_d_ : Addr} {od_LiveShelf_d__eq_d_ an_LiveShelf_d__eq_d_ : Option Addr} {sl_LiveShelf_d__eq_d_ : Array (Option Value)} {oc_LiveShelf_d__eq_d_ kV_LiveShelf_d__eq_d_ dc_LiveShelf_d__eq_d_ pm_LiveShelf_d__eq_d_ cd_LiveShelf_d__eq_d_ ct_LiveShelf_d__eq_d_ : Value}
    {t_MAX_SIZE : Tok}
    {t_TAKE : Tok}
    {t_RETURN : Tok}
    {t_MAX_OPERATIONS_schedules : Tok}
    {t_DIGITS : Tok}
    {t_MAX_OPERATIONS_texts : Tok}
    {A_LETTERS : Addr}
    {es_LETTERS : Array DictEntry} {n_LETTERS : Nat}
    {t_t t_r : Tok}
    (a_is_integer : PySem.W.nsIn K mainGlobals "is_integer" = some (some (.ref f_is_integer)))
    (l_is_integer : K.lookup f_is_integer = some ⟨oc_is_integer, od_is_integer, .func (PySem.W.fnOf "is_integer" "is_integer" (defArgs Sis_integer) (defBody Sis_integer) (defScope Sis_integer) (.ref T_is_integer) kV_is_integer dc_is_integer pm_is_integer an_is_integer cd_is_integer ct_is_integer), sl_is_integer⟩)
    (t_is_integer : K.lookup T_is_integer = some ⟨oT_is_integer, dT_is_integer, .seq #[.none] nT_is_integer, sT_is_integer⟩)
    (c_is_integer : PySem.W.codeIn K cd_is_integer "is_integer" = true)
    (k_is_integer : PySem.W.keepIn K (.ref f_is_integer) = true)
    (a_is_listed : PySem.W.nsIn K mainGlobals "is_listed" = some (some (.ref f_is_listed)))
    (l_is_listed : K.lookup f_is_listed = some ⟨oc_is_listed, od_is_listed, .func (PySem.W.fnOf "is_listed" "is_listed" (defArgs Sis_listed) (defBody Sis_listed) (defScope Sis_listed) .none kV_is_listed dc_is_listed pm_is_listed an_is_listed cd_is_listed ct_is_listed), sl_is_listed⟩)
    (c_is_listed : PySem.W.codeIn K cd_is_listed "is_listed" = true)
    (k_is_listed : PySem.W.keepIn K (.ref f_is_listed) = true)
    (a_check_size : PySem.W.nsIn K mainGlobals "check_size" = some (some (.ref f_check_size)))
    (l_check_size : K.lookup f_check_size = some ⟨oc_check_size, od_check_size, .func (PySem.W.fnOf "check_size" "check_size" (defArgs Scheck_size) (defBody Scheck_size) (defScope Scheck_size) .none kV_check_size dc_check_size pm_check_size an_check_size cd_check_size ct_check_size), sl_check_size⟩)
    (c_check_size : PySem.W.codeIn K cd_check_size "check_size" = true)
    (k_check_size : PySem.W.keepIn K (.ref f_check_size) = true)
    (a_performed : PySem.W.nsIn K mainGlobals "performed" = some (some (.ref f_performed)))
    (l_performed : K.lookup f_performed = some ⟨oc_performed, od_performed, .func (PySem.W.fnOf "performed" "performed" (defArgs Sperformed) (defBody Sperformed) (defScope Sperformed) .none kV_performed dc_performed pm_performed an_performed cd_performed ct_performed), sl_performed⟩)
    (c_performed : PySem.W.codeIn K cd_performed "performed" = true)
    (k_performed : PySem.W.keepIn K (.ref f_performed) = true)
    (a_is_schedule : PySem.W.nsIn K mainGlobals "is_schedule" = some (some (.ref f_is_schedule)))
    (l_is_schedule : K.lookup f_is_schedule = some ⟨oc_is_schedule, od_is_schedule, .func (PySem.W.fnOf "is_schedule" "is_schedule" (defArgs Sis_schedule) (defBody Sis_schedule) (defScope Sis_schedule) .none kV_is_schedule dc_is_schedule pm_is_schedule an_is_schedule cd_is_schedule ct_is_schedule), sl_is_schedule⟩)
    (c_is_schedule : PySem.W.codeIn K cd_is_schedule "is_schedule" = true)
    (k_is_schedule : PySem.W.keepIn K (.ref f_is_schedule) = true)
    (a_books_after : PySem.W.nsIn K mainGlobals "books_after" = some (some (.ref f_books_after)))
    (l_books_after : K.lookup f_books_after = some ⟨oc_books_after, od_books_after, .func (PySem.W.fnOf "books_after" "books_after" (defArgs Sbooks_after) (defBody Sbooks_after) (defScope Sbooks_after) .none kV_books_after dc_books_after pm_books_after an_books_after cd_books_after ct_books_after), sl_books_after⟩)
    (c_books_after : PySem.W.codeIn K cd_books_after "books_after" = true)
    (k_books_after : PySem.W.keepIn K (.ref f_books_after) = true)
    (a_books_out : PySem.W.nsIn K mainGlobals "books_out" = some (some (.ref f_books_out)))
    (l_books_out : K.lookup f_books_out = some ⟨oc_books_out, od_books_out, .func (PySem.W.fnOf "books_out" "books_out" (defArgs Sbooks_out) (defBody Sbooks_out) (defScope Sbooks_out) .none kV_books_out dc_books_out pm_books_out an_books_out cd_books_out ct_books_out), sl_books_out⟩)
    (c_books_out : PySem.W.codeIn K cd_books_out "books_out" = true)
    (k_books_out : PySem.W.keepIn K (.ref f_books_out) = true)
    (a_places_filled : PySem.W.nsIn K mainGlobals "places_filled" = some (some (.ref f_places_filled)))
    (l_places_filled : K.lookup f_places_filled = some ⟨oc_places_filled, od_places_filled, .func (PySem.W.fnOf "places_filled" "places_filled" (defArgs Splaces_filled) (defBody Splaces_filled) (defScope Splaces_filled) .none kV_places_filled dc_places_filled pm_places_filled an_places_filled cd_places_filled ct_places_filled), sl_places_filled⟩)
    (c_places_filled : PySem.W.codeIn K cd_places_filled "places_filled" = true)
    (k_places_filled : PySem.W.keepIn K (.ref f_places_filled) = true)
    (a_most_out : PySem.W.nsIn K mainGlobals "most_out" = some (some (.ref f_most_out)))
    (l_most_out : K.lookup f_most_out = some ⟨oc_most_out, od_most_out, .func (PySem.W.fnOf "most_out" "most_out" (defArgs Smost_out) (defBody Smost_out) (defScope Smost_out) .none kV_most_out dc_most_out pm_most_out an_most_out cd_most_out ct_most_out), sl_most_out⟩)
    (c_most_out : PySem.W.codeIn K cd_most_out "most_out" = true)
    (k_most_out : PySem.W.keepIn K (.ref f_most_out) = true)
    (a_number_in : PySem.W.nsIn K mainGlobals "number_in" = some (some (.ref f_number_in)))
    (l_number_in : K.lookup f_number_in = some ⟨oc_number_in, od_number_in, .func (PySem.W.fnOf "number_in" "number_in" (defArgs Snumber_in) (defBody Snumber_in) (defScope Snumber_in) .none kV_number_in dc_number_in pm_number_in an_number_in cd_number_in ct_number_in), sl_number_in⟩)
    (c_number_in : PySem.W.codeIn K cd_number_in "number_in" = true)
    (k_number_in : PySem.W.keepIn K (.ref f_number_in) = true)
    (a_format_schedule : PySem.W.nsIn K mainGlobals "format_schedule" = some (some (.ref f_format_schedule)))
    (l_format_schedule : K.lookup f_format_schedule = some ⟨oc_format_schedule, od_format_schedule, .func (PySem.W.fnOf "format_schedule" "format_schedule" (defArgs Sformat_schedule) (defBody Sformat_schedule) (defScope Sformat_schedule) .none kV_format_schedule dc_format_schedule pm_format_schedule an_format_schedule cd_format_schedule ct_format_schedule), sl_format_schedule⟩)
    (c_format_schedule : PySem.W.codeIn K cd_format_schedule "format_schedule" = true)
    (k_format_schedule : PySem.W.keepIn K (.ref f_format_schedule) = true)
    (a_words_of : PySem.W.nsIn K mainGlobals "words_of" = some (some (.ref f_words_of)))
    (l_words_of : K.lookup f_words_of = some ⟨oc_words_of, od_words_of, .func (PySem.W.fnOf "words_of" "words_of" (defArgs Swords_of) (defBody Swords_of) (defScope Swords_of) .none kV_words_of dc_words_of pm_words_of an_words_of cd_words_of ct_words_of), sl_words_of⟩)
    (c_words_of : PySem.W.codeIn K cd_words_of "words_of" = true)
    (k_words_of : PySem.W.keepIn K (.ref f_words_of) = true)
    (a_operation_in : PySem.W.nsIn K mainGlobals "operation_in" = some (some (.ref f_operation_in)))
    (l_operation_in : K.lookup f_operation_in = some ⟨oc_operation_in, od_operation_in, .func (PySem.W.fnOf "operation_in" "operation_in" (defArgs Soperation_in) (defBody Soperation_in) (defScope Soperation_in) .none kV_operation_in dc_operation_in pm_operation_in an_operation_in cd_operation_in ct_operation_in), sl_operation_in⟩)
    (c_operation_in : PySem.W.codeIn K cd_operation_in "operation_in" = true)
    (k_operation_in : PySem.W.keepIn K (.ref f_operation_in) = true)
    (a_parse_schedule : PySem.W.nsIn K mainGlobals "parse_schedule" = some (some (.ref f_parse_schedule)))
    (l_parse_schedule : K.lookup f_parse_schedule = some ⟨oc_parse_schedule, od_parse_schedule, .func (PySem.W.fnOf "parse_schedule" "parse_schedule" (defArgs Sparse_schedule) (defBody Sparse_schedule) (defScope Sparse_schedule) .none kV_parse_schedule dc_parse_schedule pm_parse_schedule an_parse_schedule cd_parse_schedule ct_parse_schedule), sl_parse_schedule⟩)
    (c_parse_schedule : PySem.W.codeIn K cd_parse_schedule "parse_schedule" = true)
    (k_parse_schedule : PySem.W.keepIn K (.ref f_parse_schedule) = true)
    (a_law_reel : PySem.W.nsIn K mainGlobals "_law_reel" = some (some (.ref f_law_reel)))
    (l_law_reel : K.lookup f_law_reel = some ⟨oc_law_reel, od_law_reel, .func (PySem.W.fnOf "_law_reel" "_law_reel" (defArgs Slaw_reel) (defBody Slaw_reel) (defScope Slaw_reel) .none kV_law_reel dc_law_reel pm_law_reel an_law_reel cd_law_reel ct_law_reel), sl_law_reel⟩)
    (c_law_reel : PySem.W.codeIn K cd_law_reel "_law_reel" = true)
    (k_law_reel : PySem.W.keepIn K (.ref f_law_reel) = true)
    (a_law_draw : PySem.W.nsIn K mainGlobals "_law_draw" = some (some (.ref f_law_draw)))
    (l_law_draw : K.lookup f_law_draw = some ⟨oc_law_draw, od_law_draw, .func (PySem.W.fnOf "_law_draw" "_law_draw" (defArgs Slaw_draw) (defBody Slaw_draw) (defScope Slaw_draw) .none kV_law_draw dc_law_draw pm_law_draw an_law_draw cd_law_draw ct_law_draw), sl_law_draw⟩)
    (c_law_draw : PySem.W.codeIn K cd_law_draw "_law_draw" = true)
    (k_law_draw : PySem.W.keepIn K (.ref f_law_draw) = true)
    (a_law_moved : PySem.W.nsIn K mainGlobals "_law_moved" = some (some (.ref f_law_moved)))
    (l_law_moved : K.lookup f_law_moved = some ⟨oc_law_moved, od_law_moved, .func (PySem.W.fnOf "_law_moved" "_law_moved" (defArgs Slaw_moved) (defBody Slaw_moved) (defScope Slaw_moved) .none kV_law_moved dc_law_moved pm_law_moved an_law_moved cd_law_moved ct_law_moved), sl_law_moved⟩)
    (c_law_moved : PySem.W.codeIn K cd_law_moved "_law_moved" = true)
    (k_law_moved : PySem.W.keepIn K (.ref f_law_moved) = true)
    (a_law_next : PySem.W.nsIn K mainGlobals "_law_next" = some (some (.ref f_law_next)))
    (l_law_next : K.lookup f_law_next = some ⟨oc_law_next, od_law_next, .func (PySem.W.fnOf "_law_next" "_law_next" (defArgs Slaw_next) (defBody Slaw_next) (defScope Slaw_next) .none kV_law_next dc_law_next pm_law_next an_law_next cd_law_next ct_law_next), sl_law_next⟩)
    (c_law_next : PySem.W.codeIn K cd_law_next "_law_next" = true)
    (k_law_next : PySem.W.keepIn K (.ref f_law_next) = true)
    (a_law_led : PySem.W.nsIn K mainGlobals "_law_led" = some (some (.ref f_law_led)))
    (l_law_led : K.lookup f_law_led = some ⟨oc_law_led, od_law_led, .func (PySem.W.fnOf "_law_led" "_law_led" (defArgs Slaw_led) (defBody Slaw_led) (defScope Slaw_led) .none kV_law_led dc_law_led pm_law_led an_law_led cd_law_led ct_law_led), sl_law_led⟩)
    (c_law_led : PySem.W.codeIn K cd_law_led "_law_led" = true)
    (k_law_led : PySem.W.keepIn K (.ref f_law_led) = true)
    (a_law_from_right : PySem.W.nsIn K mainGlobals "_law_from_right" = some (some (.ref f_law_from_right)))
    (l_law_from_right : K.lookup f_law_from_right = some ⟨oc_law_from_right, od_law_from_right, .func (PySem.W.fnOf "_law_from_right" "_law_from_right" (defArgs Slaw_from_right) (defBody Slaw_from_right) (defScope Slaw_from_right) .none kV_law_from_right dc_law_from_right pm_law_from_right an_law_from_right cd_law_from_right ct_law_from_right), sl_law_from_right⟩)
    (c_law_from_right : PySem.W.codeIn K cd_law_from_right "_law_from_right" = true)
    (k_law_from_right : PySem.W.keepIn K (.ref f_law_from_right) = true)
    (a_law : PySem.W.nsIn K mainGlobals "law" = some (some (.ref f_law)))
    (l_law : K.lookup f_law = some ⟨oc_law, od_law, .func (PySem.W.fnOf "law" "law" (defArgs Slaw) (defBody Slaw) (defScope Slaw) .none kV_law dc_law pm_law an_law cd_law ct_law), sl_law⟩)
    (c_law : PySem.W.codeIn K cd_law "law" = true)
    (k_law : PySem.W.keepIn K (.ref f_law) = true)
    (aC_Shelf : PySem.W.nsIn K mainGlobals "Shelf" = some (some (.ref C_Shelf)))
    (a_Shelf_d__init_d_ : PySem.W.findIn K (.ref C_Shelf) "__init__" = some (some (.ref f_Shelf_d__init_d_)))
    (i_Shelf_d__init_d_ : PySem.W.isFn K (.ref f_Shelf_d__init_d_) = true)
    (l_Shelf_d__init_d_ : K.lookup f_Shelf_d__init_d_ = some ⟨oc_Shelf_d__init_d_, od_Shelf_d__init_d_, .func (PySem.W.fnOf "__init__" "Shelf.__init__" (defArgs SShelf_d__init_d_) (defBody SShelf_d__init_d_) (defScope SShelf_d__init_d_) .none kV_Shelf_d__init_d_ dc_Shelf_d__init_d_ pm_Shelf_d__init_d_ an_Shelf_d__init_d_ cd_Shelf_d__init_d_ ct_Shelf_d__init_d_), sl_Shelf_d__init_d_⟩)
    (c_Shelf_d__init_d_ : PySem.W.codeIn K cd_Shelf_d__init_d_ "Shelf.__init__" = true)
    (k_Shelf_d__init_d_ : PySem.W.keepIn K (.ref f_Shelf_d__init_d_) = true)
    (a_Shelf_can_take : PySem.W.findIn K (.ref C_Shelf) "can_take" = some (some (.ref f_Shelf_can_take)))
    (i_Shelf_can_take : PySem.W.isFn K (.ref f_Shelf_can_take) = true)
    (l_Shelf_can_take : K.lookup f_Shelf_can_take = some ⟨oc_Shelf_can_take, od_Shelf_can_take, .func (PySem.W.fnOf "can_take" "Shelf.can_take" (defArgs SShelf_can_take) (defBody SShelf_can_take) (defScope SShelf_can_take) .none kV_Shelf_can_take dc_Shelf_can_take pm_Shelf_can_take an_Shelf_can_take cd_Shelf_can_take ct_Shelf_can_take), sl_Shelf_can_take⟩)
    (c_Shelf_can_take : PySem.W.codeIn K cd_Shelf_can_take "Shelf.can_take" = true)
    (k_Shelf_can_take : PySem.W.keepIn K (.ref f_Shelf_can_take) = true)
    (a_Shelf_can_return : PySem.W.findIn K (.ref C_Shelf) "can_return" = some (some (.ref f_Shelf_can_return)))
    (i_Shelf_can_return : PySem.W.isFn K (.ref f_Shelf_can_return) = true)
    (l_Shelf_can_return : K.lookup f_Shelf_can_return = some ⟨oc_Shelf_can_return, od_Shelf_can_return, .func (PySem.W.fnOf "can_return" "Shelf.can_return" (defArgs SShelf_can_return) (defBody SShelf_can_return) (defScope SShelf_can_return) .none kV_Shelf_can_return dc_Shelf_can_return pm_Shelf_can_return an_Shelf_can_return cd_Shelf_can_return ct_Shelf_can_return), sl_Shelf_can_return⟩)
    (c_Shelf_can_return : PySem.W.codeIn K cd_Shelf_can_return "Shelf.can_return" = true)
    (k_Shelf_can_return : PySem.W.keepIn K (.ref f_Shelf_can_return) = true)
    (a_Shelf_take : PySem.W.findIn K (.ref C_Shelf) "take" = some (some (.ref f_Shelf_take)))
    (i_Shelf_take : PySem.W.isFn K (.ref f_Shelf_take) = true)
    (l_Shelf_take : K.lookup f_Shelf_take = some ⟨oc_Shelf_take, od_Shelf_take, .func (PySem.W.fnOf "take" "Shelf.take" (defArgs SShelf_take) (defBody SShelf_take) (defScope SShelf_take) .none kV_Shelf_take dc_Shelf_take pm_Shelf_take an_Shelf_take cd_Shelf_take ct_Shelf_take), sl_Shelf_take⟩)
    (c_Shelf_take : PySem.W.codeIn K cd_Shelf_take "Shelf.take" = true)
    (k_Shelf_take : PySem.W.keepIn K (.ref f_Shelf_take) = true)
    (a_Shelf_put_back : PySem.W.findIn K (.ref C_Shelf) "put_back" = some (some (.ref f_Shelf_put_back)))
    (i_Shelf_put_back : PySem.W.isFn K (.ref f_Shelf_put_back) = true)
    (l_Shelf_put_back : K.lookup f_Shelf_put_back = some ⟨oc_Shelf_put_back, od_Shelf_put_back, .func (PySem.W.fnOf "put_back" "Shelf.put_back" (defArgs SShelf_put_back) (defBody SShelf_put_back) (defScope SShelf_put_back) .none kV_Shelf_put_back dc_Shelf_put_back pm_Shelf_put_back an_Shelf_put_back cd_Shelf_put_back ct_Shelf_put_back), sl_Shelf_put_back⟩)
    (c_Shelf_put_back : PySem.W.codeIn K cd_Shelf_put_back "Shelf.put_back" = true)
    (k_Shelf_put_back : PySem.W.keepIn K (.ref f_Shelf_put_back) = true)
    (a_Shelf_can_perform : PySem.W.findIn K (.ref C_Shelf) "can_perform" = some (some (.ref f_Shelf_can_perform)))
    (i_Shelf_can_perform : PySem.W.isFn K (.ref f_Shelf_can_perform) = true)
    (l_Shelf_can_perform : K.lookup f_Shelf_can_perform = some ⟨oc_Shelf_can_perform, od_Shelf_can_perform, .func (PySem.W.fnOf "can_perform" "Shelf.can_perform" (defArgs SShelf_can_perform) (defBody SShelf_can_perform) (defScope SShelf_can_perform) .none kV_Shelf_can_perform dc_Shelf_can_perform pm_Shelf_can_perform an_Shelf_can_perform cd_Shelf_can_perform ct_Shelf_can_perform), sl_Shelf_can_perform⟩)
    (c_Shelf_can_perform : PySem.W.codeIn K cd_Shelf_can_perform "Shelf.can_perform" = true)
    (k_Shelf_can_perform : PySem.W.keepIn K (.ref f_Shelf_can_perform) = true)
    (a_Shelf_perform : PySem.W.findIn K (.ref C_Shelf) "perform" = some (some (.ref f_Shelf_perform)))
    (i_Shelf_perform : PySem.W.isFn K (.ref f_Shelf_perform) = true)
    (l_Shelf_perform : K.lookup f_Shelf_perform = some ⟨oc_Shelf_perform, od_Shelf_perform, .func (PySem.W.fnOf "perform" "Shelf.perform" (defArgs SShelf_perform) (defBody SShelf_perform) (defScope SShelf_perform) .none kV_Shelf_perform dc_Shelf_perform pm_Shelf_perform an_Shelf_perform cd_Shelf_perform ct_Shelf_perform), sl_Shelf_perform⟩)
    (c_Shelf_perform : PySem.W.codeIn K cd_Shelf_perform "Shelf.perform" = true)
    (k_Shelf_perform : PySem.W.keepIn K (.ref f_Shelf_perform) = true)
    (pg_Shelf : PySem.W.plainGet K C_Shelf Str.empty = true)
    (hd_Shelf : PySem.W.hasDictIn K C_Shelf = true)
    (po_Shelf : PySem.W.plainOver K C_Shelf = true)
    (sa_Shelf : PySem.W.findIn K (.ref C_Shelf) "__setattr__" = some (some (.builtin "object.__setattr__")))
    (mk_Shelf : PySem.W.makesIn K C_Shelf = true)
    (kc_Shelf : PySem.W.keepIn K (.ref C_Shelf) = true)
    (n_Shelf_books : PySem.W.findIn K (.ref C_Shelf) "books" = some none)
    (n_Shelf_taken : PySem.W.findIn K (.ref C_Shelf) "taken" = some none)
    (aC_LiveShelf : PySem.W.nsIn K mainGlobals "LiveShelf" = some (some (.ref C_LiveShelf)))
    (a_LiveShelf_d__init_d_ : PySem.W.findIn K (.ref C_LiveShelf) "__init__" = some (some (.ref f_LiveShelf_d__init_d_)))
    (i_LiveShelf_d__init_d_ : PySem.W.isFn K (.ref f_LiveShelf_d__init_d_) = true)
    (l_LiveShelf_d__init_d_ : K.lookup f_LiveShelf_d__init_d_ = some ⟨oc_LiveShelf_d__init_d_, od_LiveShelf_d__init_d_, .func (PySem.W.fnOf "__init__" "LiveShelf.__init__" (defArgs SLiveShelf_d__init_d_) (defBody SLiveShelf_d__init_d_) (defScope SLiveShelf_d__init_d_) .none kV_LiveShelf_d__init_d_ dc_LiveShelf_d__init_d_ pm_LiveShelf_d__init_d_ an_LiveShelf_d__init_d_ cd_LiveShelf_d__init_d_ ct_LiveShelf_d__init_d_), sl_LiveShelf_d__init_d_⟩)
    (c_LiveShelf_d__init_d_ : PySem.W.codeIn K cd_LiveShelf_d__init_d_ "LiveShelf.__init__" = true)
    (k_LiveShelf_d__init_d_ : PySem.W.keepIn K (.ref f_LiveShelf_d__init_d_) = true)
    (a_LiveShelf_take_book : PySem.W.findIn K (.ref C_LiveShelf) "take_book" = some (some (.ref f_LiveShelf_take_book)))
    (i_LiveShelf_take_book : PySem.W.isFn K (.ref f_LiveShelf_take_book) = true)
    (l_LiveShelf_take_book : K.lookup f_LiveShelf_take_book = some ⟨oc_LiveShelf_take_book, od_LiveShelf_take_book, .func (PySem.W.fnOf "take_book" "LiveShelf.take_book" (defArgs SLiveShelf_take_book) (defBody SLiveShelf_take_book) (defScope SLiveShelf_take_book) .none kV_LiveShelf_take_book dc_LiveShelf_take_book pm_LiveShelf_take_book an_LiveShelf_take_book cd_LiveShelf_take_book ct_LiveShelf_take_book), sl_LiveShelf_take_book⟩)
    (c_LiveShelf_take_book : PySem.W.codeIn K cd_LiveShelf_take_book "LiveShelf.take_book" = true)
    (k_LiveShelf_take_book : PySem.W.keepIn K (.ref f_LiveShelf_take_book) = true)
    (a_LiveShelf_return_book : PySem.W.findIn K (.ref C_LiveShelf) "return_book" = some (some (.ref f_LiveShelf_return_book)))
    (i_LiveShelf_return_book : PySem.W.isFn K (.ref f_LiveShelf_return_book) = true)
    (l_LiveShelf_return_book : K.lookup f_LiveShelf_return_book = some ⟨oc_LiveShelf_return_book, od_LiveShelf_return_book, .func (PySem.W.fnOf "return_book" "LiveShelf.return_book" (defArgs SLiveShelf_return_book) (defBody SLiveShelf_return_book) (defScope SLiveShelf_return_book) .none kV_LiveShelf_return_book dc_LiveShelf_return_book pm_LiveShelf_return_book an_LiveShelf_return_book cd_LiveShelf_return_book ct_LiveShelf_return_book), sl_LiveShelf_return_book⟩)
    (c_LiveShelf_return_book : PySem.W.codeIn K cd_LiveShelf_return_book "LiveShelf.return_book" = true)
    (k_LiveShelf_return_book : PySem.W.keepIn K (.ref f_LiveShelf_return_book) = true)
    (a_LiveShelf_undo : PySem.W.findIn K (.ref C_LiveShelf) "undo" = some (some (.ref f_LiveShelf_undo)))
    (i_LiveShelf_undo : PySem.W.isFn K (.ref f_LiveShelf_undo) = true)
    (l_LiveShelf_undo : K.lookup f_LiveShelf_undo = some ⟨oc_LiveShelf_undo, od_LiveShelf_undo, .func (PySem.W.fnOf "undo" "LiveShelf.undo" (defArgs SLiveShelf_undo) (defBody SLiveShelf_undo) (defScope SLiveShelf_undo) .none kV_LiveShelf_undo dc_LiveShelf_undo pm_LiveShelf_undo an_LiveShelf_undo cd_LiveShelf_undo ct_LiveShelf_undo), sl_LiveShelf_undo⟩)
    (c_LiveShelf_undo : PySem.W.codeIn K cd_LiveShelf_undo "LiveShelf.undo" = true)
    (k_LiveShelf_undo : PySem.W.keepIn K (.ref f_LiveShelf_undo) = true)
    (a_LiveShelf_current_books : PySem.W.findIn K (.ref C_LiveShelf) "current_books" = some (some (.ref f_LiveShelf_current_books)))
    (i_LiveShelf_current_books : PySem.W.isFn K (.ref f_LiveShelf_current_books) = true)
    (l_LiveShelf_current_books : K.lookup f_LiveShelf_current_books = some ⟨oc_LiveShelf_current_books, od_LiveShelf_current_books, .func (PySem.W.fnOf "current_books" "LiveShelf.current_books" (defArgs SLiveShelf_current_books) (defBody SLiveShelf_current_books) (defScope SLiveShelf_current_books) .none kV_LiveShelf_current_books dc_LiveShelf_current_books pm_LiveShelf_current_books an_LiveShelf_current_books cd_LiveShelf_current_books ct_LiveShelf_current_books), sl_LiveShelf_current_books⟩)
    (c_LiveShelf_current_books : PySem.W.codeIn K cd_LiveShelf_current_books "LiveShelf.current_books" = true)
    (k_LiveShelf_current_books : PySem.W.keepIn K (.ref f_LiveShelf_current_books) = true)
    (a_LiveShelf_current_out : PySem.W.findIn K (.ref C_LiveShelf) "current_out" = some (some (.ref f_LiveShelf_current_out)))
    (i_LiveShelf_current_out : PySem.W.isFn K (.ref f_LiveShelf_current_out) = true)
    (l_LiveShelf_current_out : K.lookup f_LiveShelf_current_out = some ⟨oc_LiveShelf_current_out, od_LiveShelf_current_out, .func (PySem.W.fnOf "current_out" "LiveShelf.current_out" (defArgs SLiveShelf_current_out) (defBody SLiveShelf_current_out) (defScope SLiveShelf_current_out) .none kV_LiveShelf_current_out dc_LiveShelf_current_out pm_LiveShelf_current_out an_LiveShelf_current_out cd_LiveShelf_current_out ct_LiveShelf_current_out), sl_LiveShelf_current_out⟩)
    (c_LiveShelf_current_out : PySem.W.codeIn K cd_LiveShelf_current_out "LiveShelf.current_out" = true)
    (k_LiveShelf_current_out : PySem.W.keepIn K (.ref f_LiveShelf_current_out) = true)
    (a_LiveShelf_current_schedule : PySem.W.findIn K (.ref C_LiveShelf) "current_schedule" = some (some (.ref f_LiveShelf_current_schedule)))
    (i_LiveShelf_current_schedule : PySem.W.isFn K (.ref f_LiveShelf_current_schedule) = true)
    (l_LiveShelf_current_schedule : K.lookup f_LiveShelf_current_schedule = some ⟨oc_LiveShelf_current_schedule, od_LiveShelf_current_schedule, .func (PySem.W.fnOf "current_schedule" "LiveShelf.current_schedule" (defArgs SLiveShelf_current_schedule) (defBody SLiveShelf_current_schedule) (defScope SLiveShelf_current_schedule) .none kV_LiveShelf_current_schedule dc_LiveShelf_current_schedule pm_LiveShelf_current_schedule an_LiveShelf_current_schedule cd_LiveShelf_current_schedule ct_LiveShelf_current_schedule), sl_LiveShelf_current_schedule⟩)
    (c_LiveShelf_current_schedule : PySem.W.codeIn K cd_LiveShelf_current_schedule "LiveShelf.current_schedule" = true)
    (k_LiveShelf_current_schedule : PySem.W.keepIn K (.ref f_LiveShelf_current_schedule) = true)
    (a_LiveShelf_is_complete : PySem.W.findIn K (.ref C_LiveShelf) "is_complete" = some (some (.ref p_LiveShelf_is_complete)))
    (pg_LiveShelf_is_complete : PySem.W.specialIn K (.ref p_LiveShelf_is_complete) "__get__" = some (some (.builtin "property.__get__")))
    (pt_LiveShelf_is_complete : PySem.W.takesIn K (.ref p_LiveShelf_is_complete) = some true)
    (pr_LiveShelf_is_complete : PySem.W.recIn K p_LiveShelf_is_complete "property" = some (.ref f_LiveShelf_is_complete :: rs_LiveShelf_is_complete))
    (l_LiveShelf_is_complete : K.lookup f_LiveShelf_is_complete = some ⟨oc_LiveShelf_is_complete, od_LiveShelf_is_complete, .func (PySem.W.fnOf "is_complete" "LiveShelf.is_complete" (defArgs SLiveShelf_is_complete) (defBody SLiveShelf_is_complete) (defScope SLiveShelf_is_complete) .none kV_LiveShelf_is_complete dc_LiveShelf_is_complete pm_LiveShelf_is_complete an_LiveShelf_is_complete cd_LiveShelf_is_complete ct_LiveShelf_is_complete), sl_LiveShelf_is_complete⟩)
    (c_LiveShelf_is_complete : PySem.W.codeIn K cd_LiveShelf_is_complete "LiveShelf.is_complete" = true)
    (k_LiveShelf_is_complete : PySem.W.keepIn K (.ref f_LiveShelf_is_complete) = true)
    (a_LiveShelf_d__len_d_ : PySem.W.findIn K (.ref C_LiveShelf) "__len__" = some (some (.ref f_LiveShelf_d__len_d_)))
    (i_LiveShelf_d__len_d_ : PySem.W.isFn K (.ref f_LiveShelf_d__len_d_) = true)
    (l_LiveShelf_d__len_d_ : K.lookup f_LiveShelf_d__len_d_ = some ⟨oc_LiveShelf_d__len_d_, od_LiveShelf_d__len_d_, .func (PySem.W.fnOf "__len__" "LiveShelf.__len__" (defArgs SLiveShelf_d__len_d_) (defBody SLiveShelf_d__len_d_) (defScope SLiveShelf_d__len_d_) .none kV_LiveShelf_d__len_d_ dc_LiveShelf_d__len_d_ pm_LiveShelf_d__len_d_ an_LiveShelf_d__len_d_ cd_LiveShelf_d__len_d_ ct_LiveShelf_d__len_d_), sl_LiveShelf_d__len_d_⟩)
    (c_LiveShelf_d__len_d_ : PySem.W.codeIn K cd_LiveShelf_d__len_d_ "LiveShelf.__len__" = true)
    (k_LiveShelf_d__len_d_ : PySem.W.keepIn K (.ref f_LiveShelf_d__len_d_) = true)
    (a_LiveShelf_from_schedule : PySem.W.findCls K (.ref C_LiveShelf) (.type "type") "from_schedule" = some (.get (.builtin "classmethod.__get__") (.ref p_LiveShelf_from_schedule) .none (.ref C_LiveShelf)))
    (pr_LiveShelf_from_schedule : PySem.W.recIn K p_LiveShelf_from_schedule "classmethod" = some (.ref f_LiveShelf_from_schedule :: rs_LiveShelf_from_schedule))
    (fi_LiveShelf_from_schedule : PySem.W.fnIn K f_LiveShelf_from_schedule = true)
    (l_LiveShelf_from_schedule : K.lookup f_LiveShelf_from_schedule = some ⟨oc_LiveShelf_from_schedule, od_LiveShelf_from_schedule, .func (PySem.W.fnOf "from_schedule" "LiveShelf.from_schedule" (defArgs SLiveShelf_from_schedule) (defBody SLiveShelf_from_schedule) (defScope SLiveShelf_from_schedule) .none kV_LiveShelf_from_schedule dc_LiveShelf_from_schedule pm_LiveShelf_from_schedule an_LiveShelf_from_schedule cd_LiveShelf_from_schedule ct_LiveShelf_from_schedule), sl_LiveShelf_from_schedule⟩)
    (c_LiveShelf_from_schedule : PySem.W.codeIn K cd_LiveShelf_from_schedule "LiveShelf.from_schedule" = true)
    (k_LiveShelf_from_schedule : PySem.W.keepIn K (.ref f_LiveShelf_from_schedule) = true)
    (a_LiveShelf_d__eq_d_ : PySem.W.findIn K (.ref C_LiveShelf) "__eq__" = some (some (.ref f_LiveShelf_d__eq_d_)))
    (i_LiveShelf_d__eq_d_ : PySem.W.isFn K (.ref f_LiveShelf_d__eq_d_) = true)
    (l_LiveShelf_d__eq_d_ : K.lookup f_LiveShelf_d__eq_d_ = some ⟨oc_LiveShelf_d__eq_d_, od_LiveShelf_d__eq_d_, .func (PySem.W.fnOf "__eq__" "LiveShelf.__eq__" (defArgs SLiveShelf_d__eq_d_) (defBody SLiveShelf_d__eq_d_) (defScope SLiveShelf_d__eq_d_) .none kV_LiveShelf_d__eq_d_ dc_LiveShelf_d__eq_d_ pm_LiveShelf_d__eq_d_ an_LiveShelf_d__eq_d_ cd_LiveShelf_d__eq_d_ ct_LiveShelf_d__eq_d_), sl_LiveShelf_d__eq_d_⟩)
    (c_LiveShelf_d__eq_d_ : PySem.W.codeIn K cd_LiveShelf_d__eq_d_ "LiveShelf.__eq__" = true)
    (k_LiveShelf_d__eq_d_ : PySem.W.keepIn K (.ref f_LiveShelf_d__eq_d_) = true)
    (pg_LiveShelf : PySem.W.plainGet K C_LiveShelf Str.empty = true)
    (hd_LiveShelf : PySem.W.hasDictIn K C_LiveShelf = true)
    (po_LiveShelf : PySem.W.plainOver K C_LiveShelf = true)
    (sa_LiveShelf : PySem.W.findIn K (.ref C_LiveShelf) "__setattr__" = some (some (.builtin "object.__setattr__")))
    (mk_LiveShelf : PySem.W.makesIn K C_LiveShelf = true)
    (kc_LiveShelf : PySem.W.keepIn K (.ref C_LiveShelf) = true)
    (rd_LiveShelf : PySem.W.readsIn K C_LiveShelf (.type "type") = true)
    (gg_LiveShelf : PySem.W.specialIn K (.ref C_LiveShelf) "__getattribute__" = some (some (.builtin "type.__getattribute__")))
    (ne_LiveShelf : PySem.W.findIn K (.ref C_LiveShelf) "__ne__" = some (some (.builtin "object.__ne__")))
    (mo_LiveShelf : PySem.W.mroIn K C_LiveShelf (.type "object") = some true)
    (ca_LiveShelf : PySem.W.findIn K (.ref C_LiveShelf) "__class__" = some (some (.builtin "object.__class__")))
    (cn_LiveShelf : PySem.W.specialIn K (.builtin "object.__class__") "__get__" = some (some (.builtin "getset_descriptor.__get__")))
    (ct_LiveShelf : PySem.W.takesIn K (.builtin "object.__class__") = some true)
    (n_LiveShelf_size : PySem.W.findIn K (.ref C_LiveShelf) "size" = some none)
    (n_LiveShelf_shelf : PySem.W.findIn K (.ref C_LiveShelf) "shelf" = some none)
    (n_LiveShelf_done : PySem.W.findIn K (.ref C_LiveShelf) "done" = some none)
    (g_MAX_SIZE : PySem.W.nsIn K mainGlobals "MAX_SIZE" = some (some (.int (200) t_MAX_SIZE)))
    (g_TAKE : PySem.W.nsIn K mainGlobals "TAKE" = some (some (.str "take" t_TAKE)))
    (g_RETURN : PySem.W.nsIn K mainGlobals "RETURN" = some (some (.str "return" t_RETURN)))
    (g_MAX_OPERATIONS_schedules : PySem.W.nsIn K mainGlobals "MAX_OPERATIONS_schedules" = some (some (.int (400) t_MAX_OPERATIONS_schedules)))
    (g_DIGITS : PySem.W.nsIn K mainGlobals "DIGITS" = some (some (.str "0123456789" t_DIGITS)))
    (g_MAX_OPERATIONS_texts : PySem.W.nsIn K mainGlobals "MAX_OPERATIONS_texts" = some (some (.int (400) t_MAX_OPERATIONS_texts)))
    (z_len : PySem.W.nsIn K mainGlobals "len" = some none)
    (z_range : PySem.W.nsIn K mainGlobals "range" = some none)
    (z_isinstance : PySem.W.nsIn K mainGlobals "isinstance" = some none)
    (z_int : PySem.W.nsIn K mainGlobals "int" = some none)
    (z_bool : PySem.W.nsIn K mainGlobals "bool" = some none)
    (z_str : PySem.W.nsIn K mainGlobals "str" = some none)
    (z_list : PySem.W.nsIn K mainGlobals "list" = some none)
    (z_tuple : PySem.W.nsIn K mainGlobals "tuple" = some none)
    (z_set : PySem.W.nsIn K mainGlobals "set" = some none)
    (z_sorted : PySem.W.nsIn K mainGlobals "sorted" = some none)
    (z_min : PySem.W.nsIn K mainGlobals "min" = some none)
    (z_max : PySem.W.nsIn K mainGlobals "max" = some none)
    (z_sum : PySem.W.nsIn K mainGlobals "sum" = some none)
    (z_all : PySem.W.nsIn K mainGlobals "all" = some none)
    (z_any : PySem.W.nsIn K mainGlobals "any" = some none)
    (z_abs : PySem.W.nsIn K mainGlobals "abs" = some none)
    (z_repr : PySem.W.nsIn K mainGlobals "repr" = some none)
    (z_enumerate : PySem.W.nsIn K mainGlobals "enumerate" = some none)
    (z_zip : PySem.W.nsIn K mainGlobals "zip" = some none)
    (z_reversed : PySem.W.nsIn K mainGlobals "reversed" = some none)
    (z_dict : PySem.W.nsIn K mainGlobals "dict" = some none)
    (aL : PySem.W.nsIn K mainGlobals "LETTERS" = some (some (.ref A_LETTERS)))
    (lL : K.lookup A_LETTERS = some ⟨.type "dict", none, .dict es_LETTERS n_LETTERS, #[]⟩)
    (kL : PySem.W.KeysLit w.params es_LETTERS.toList)
    (oL : (A_LETTERS == sysModules) = false)
    (tL : PySem.W.nsIn K A_LETTERS "t" = some (some (.str "take" t_t)))
    (rL : PySem.W.nsIn K A_LETTERS "r" = some (some (.str "return" t_r))) :
    ∃ fd : FuncData, (∀ (s : Shared) (v : Value), BindsTo s fd ⟨[v], []⟩ [("script", v)]) ∧ ∀ base : Heap, K.In base → base.Ns mainGlobals mg → FnG l.prog w K mg base 7 fa fd ["script"] (spLaw K) := by
  have e := hfa.symm.trans (PySem.W.mg_of X G a_law)
  cases e
  have B : Bn mg := ⟨PySem.W.mg_none_of X G z_len, PySem.W.mg_none_of X G z_range, PySem.W.mg_none_of X G z_isinstance, PySem.W.mg_none_of X G z_int, PySem.W.mg_none_of X G z_bool, PySem.W.mg_none_of X G z_str, PySem.W.mg_none_of X G z_list, PySem.W.mg_none_of X G z_tuple, PySem.W.mg_none_of X G z_set, PySem.W.mg_none_of X G z_sorted, PySem.W.mg_none_of X G z_min, PySem.W.mg_none_of X G z_max, PySem.W.mg_none_of X G z_sum, PySem.W.mg_none_of X G z_all, PySem.W.mg_none_of X G z_any, PySem.W.mg_none_of X G z_abs, PySem.W.mg_none_of X G z_repr, PySem.W.mg_none_of X G z_enumerate, PySem.W.mg_none_of X G z_zip, PySem.W.mg_none_of X G z_reversed, PySem.W.mg_none_of X G z_dict⟩
  have c_MAX_SIZE : Gc mg "MAX_SIZE" (.int (200)) := ⟨_, PySem.W.mg_of X G g_MAX_SIZE, ⟨_, rfl⟩⟩
  have c_TAKE : Gc mg "TAKE" (.str "take") := ⟨_, PySem.W.mg_of X G g_TAKE, ⟨_, rfl⟩⟩
  have c_RETURN : Gc mg "RETURN" (.str "return") := ⟨_, PySem.W.mg_of X G g_RETURN, ⟨_, rfl⟩⟩
  have c_MAX_OPERATIONS_schedules : Gc mg "MAX_OPERATIONS_schedules" (.int (400)) := ⟨_, PySem.W.mg_of X G g_MAX_OPERATIONS_schedules, ⟨_, rfl⟩⟩
  have c_DIGITS : Gc mg "DIGITS" (.str "0123456789") := ⟨_, PySem.W.mg_of X G g_DIGITS, ⟨_, rfl⟩⟩
  have c_MAX_OPERATIONS_texts : Gc mg "MAX_OPERATIONS_texts" (.int (400)) := ⟨_, PySem.W.mg_of X G g_MAX_OPERATIONS_texts, ⟨_, rfl⟩⟩
  have F_is_integer : FunD K "is_integer" "is_integer" (defArgs Sis_integer) (defBody Sis_integer) (defScope Sis_integer) [.non] [] f_is_integer _ := ⟨⟨_, _, _, _, _, _, _, _, _, _, rfl, l_is_integer, c_is_integer, .inr ⟨List.cons_ne_nil _ _, _, _, [.none], _, rfl, t_is_integer, rfl, .cons rfl (.nil)⟩, .inl rfl⟩, k_is_integer⟩
  have b_is_integer := F_is_integer.binds1 (ps := ["value", "low", "high"]) 3 1 (List.cons_ne_nil _ _) rfl fun T kV doc pm an cdv ct us its hl hi => match us, its, hl, hi with | [_, _, _], [_], _, _ => ⟨_, rfl, rfl⟩
  obtain ⟨ds_is_integer, v_is_integer, b_is_integer⟩ := b_is_integer
  have bd1_is_integer := F_is_integer.binds1 (ps := ["value", "low", "high"]) 2 0 (List.cons_ne_nil _ _) rfl fun T kV doc pm an cdv ct us its hl hi => match us, its, hl, hi with | [_, _], [_], _, _ => ⟨_, rfl, rfl⟩
  obtain ⟨ds1_is_integer, v1_is_integer, b1_is_integer⟩ := bd1_is_integer
  have F_is_listed := fun_mk (st := Sis_listed) l_is_listed c_is_listed k_is_listed
  have b_is_listed := F_is_listed.binds (ps := ["value"]) fun _ _ _ _ _ _ us hl => match us, hl with | [_], _ => rfl
  have F_check_size := fun_mk (st := Scheck_size) l_check_size c_check_size k_check_size
  have b_check_size := F_check_size.binds (ps := ["size"]) fun _ _ _ _ _ _ us hl => match us, hl with | [_], _ => rfl
  have F_performed := fun_mk (st := Sperformed) l_performed c_performed k_performed
  have b_performed := F_performed.binds (ps := ["size", "schedule"]) fun _ _ _ _ _ _ us hl => match us, hl with | [_, _], _ => rfl
  have F_is_schedule := fun_mk (st := Sis_schedule) l_is_schedule c_is_schedule k_is_schedule
  have b_is_schedule := F_is_schedule.binds (ps := ["size", "value"]) fun _ _ _ _ _ _ us hl => match us, hl with | [_, _], _ => rfl
  have F_books_after := fun_mk (st := Sbooks_after) l_books_after c_books_after k_books_after
  have b_books_after := F_books_after.binds (ps := ["size", "schedule"]) fun _ _ _ _ _ _ us hl => match us, hl with | [_, _], _ => rfl
  have F_books_out := fun_mk (st := Sbooks_out) l_books_out c_books_out k_books_out
  have b_books_out := F_books_out.binds (ps := ["size", "schedule"]) fun _ _ _ _ _ _ us hl => match us, hl with | [_, _], _ => rfl
  have F_places_filled := fun_mk (st := Splaces_filled) l_places_filled c_places_filled k_places_filled
  have b_places_filled := F_places_filled.binds (ps := ["size", "schedule"]) fun _ _ _ _ _ _ us hl => match us, hl with | [_, _], _ => rfl
  have F_most_out := fun_mk (st := Smost_out) l_most_out c_most_out k_most_out
  have b_most_out := F_most_out.binds (ps := ["size", "schedule"]) fun _ _ _ _ _ _ us hl => match us, hl with | [_, _], _ => rfl
  have F_number_in := fun_mk (st := Snumber_in) l_number_in c_number_in k_number_in
  have b_number_in := F_number_in.binds (ps := ["word"]) fun _ _ _ _ _ _ us hl => match us, hl with | [_], _ => rfl
  have F_format_schedule := fun_mk (st := Sformat_schedule) l_format_schedule c_format_schedule k_format_schedule
  have b_format_schedule := F_format_schedule.binds (ps := ["size", "schedule"]) fun _ _ _ _ _ _ us hl => match us, hl with | [_, _], _ => rfl
  have F_words_of := fun_mk (st := Swords_of) l_words_of c_words_of k_words_of
  have b_words_of := F_words_of.binds (ps := ["text", "most"]) fun _ _ _ _ _ _ us hl => match us, hl with | [_, _], _ => rfl
  have F_operation_in := fun_mk (st := Soperation_in) l_operation_in c_operation_in k_operation_in
  have b_operation_in := F_operation_in.binds (ps := ["word"]) fun _ _ _ _ _ _ us hl => match us, hl with | [_], _ => rfl
  have F_parse_schedule := fun_mk (st := Sparse_schedule) l_parse_schedule c_parse_schedule k_parse_schedule
  have b_parse_schedule := F_parse_schedule.binds (ps := ["size", "text"]) fun _ _ _ _ _ _ us hl => match us, hl with | [_, _], _ => rfl
  have F_law_reel := fun_mk (st := Slaw_reel) l_law_reel c_law_reel k_law_reel
  have b_law_reel := F_law_reel.binds (ps := ["script"]) fun _ _ _ _ _ _ us hl => match us, hl with | [_], _ => rfl
  have F_law_draw := fun_mk (st := Slaw_draw) l_law_draw c_law_draw k_law_draw
  have b_law_draw := F_law_draw.binds (ps := ["reel", "many"]) fun _ _ _ _ _ _ us hl => match us, hl with | [_, _], _ => rfl
  have F_law_moved := fun_mk (st := Slaw_moved) l_law_moved c_law_moved k_law_moved
  have b_law_moved := F_law_moved.binds (ps := ["model", "kind", "number"]) fun _ _ _ _ _ _ us hl => match us, hl with | [_, _, _], _ => rfl
  have F_law_next := fun_mk (st := Slaw_next) l_law_next c_law_next k_law_next
  have b_law_next := F_law_next.binds (ps := ["reel", "model"]) fun _ _ _ _ _ _ us hl => match us, hl with | [_, _], _ => rfl
  have F_law_led := fun_mk (st := Slaw_led) l_law_led c_law_led k_law_led
  have b_law_led := F_law_led.binds (ps := ["size", "schedule"]) fun _ _ _ _ _ _ us hl => match us, hl with | [_, _], _ => rfl
  have F_law_from_right := fun_mk (st := Slaw_from_right) l_law_from_right c_law_from_right k_law_from_right
  have b_law_from_right := F_law_from_right.binds (ps := ["some", "size", "schedule", "is_whole"]) fun _ _ _ _ _ _ us hl => match us, hl with | [_, _, _, _], _ => rfl
  have F_law := fun_mk (st := Slaw) l_law c_law k_law
  have S_Shelf : ShK K C_Shelf := ⟨⟨pg_Shelf, hd_Shelf, po_Shelf, sa_Shelf⟩, n_Shelf_books, n_Shelf_taken⟩
  have F_Shelf_d__init_d_ := fun_mk (st := SShelf_d__init_d_) l_Shelf_d__init_d_ c_Shelf_d__init_d_ k_Shelf_d__init_d_
  have b_Shelf_d__init_d_ := F_Shelf_d__init_d_.binds (ps := ["self", "size"]) fun _ _ _ _ _ _ us hl => match us, hl with | [_, _], _ => rfl
  have F_Shelf_can_take := fun_mk (st := SShelf_can_take) l_Shelf_can_take c_Shelf_can_take k_Shelf_can_take
  have b_Shelf_can_take := F_Shelf_can_take.binds (ps := ["self", "place"]) fun _ _ _ _ _ _ us hl => match us, hl with | [_, _], _ => rfl
  have F_Shelf_can_return := fun_mk (st := SShelf_can_return) l_Shelf_can_return c_Shelf_can_return k_Shelf_can_return
  have b_Shelf_can_return := F_Shelf_can_return.binds (ps := ["self", "book"]) fun _ _ _ _ _ _ us hl => match us, hl with | [_, _], _ => rfl
  have F_Shelf_take := fun_mk (st := SShelf_take) l_Shelf_take c_Shelf_take k_Shelf_take
  have b_Shelf_take := F_Shelf_take.binds (ps := ["self", "place"]) fun _ _ _ _ _ _ us hl => match us, hl with | [_, _], _ => rfl
  have F_Shelf_put_back := fun_mk (st := SShelf_put_back) l_Shelf_put_back c_Shelf_put_back k_Shelf_put_back
  have b_Shelf_put_back := F_Shelf_put_back.binds (ps := ["self", "book"]) fun _ _ _ _ _ _ us hl => match us, hl with | [_, _], _ => rfl
  have F_Shelf_can_perform := fun_mk (st := SShelf_can_perform) l_Shelf_can_perform c_Shelf_can_perform k_Shelf_can_perform
  have b_Shelf_can_perform := F_Shelf_can_perform.binds (ps := ["self", "operation"]) fun _ _ _ _ _ _ us hl => match us, hl with | [_, _], _ => rfl
  have F_Shelf_perform := fun_mk (st := SShelf_perform) l_Shelf_perform c_Shelf_perform k_Shelf_perform
  have b_Shelf_perform := F_Shelf_perform.binds (ps := ["self", "operation"]) fun _ _ _ _ _ _ us hl => match us, hl with | [_, _], _ => rfl
  have S_LiveShelf : LvK K C_LiveShelf := ⟨⟨pg_LiveShelf, hd_LiveShelf, po_LiveShelf, sa_LiveShelf⟩, n_LiveShelf_size, n_LiveShelf_shelf, n_LiveShelf_done⟩
  have I_LiveShelf : IsK K C_LiveShelf := ⟨ca_LiveShelf, cn_LiveShelf, ct_LiveShelf, mo_LiveShelf, by unfold PySem.W.kitOne; rw [if_pos (beq_self_eq_true _)]⟩
  have c_LiveShelf : Gc mg "LiveShelf" (.ref C_LiveShelf) := ⟨_, PySem.W.mg_of X G aC_LiveShelf, rfl⟩
  have F_LiveShelf_d__init_d_ := fun_mk (st := SLiveShelf_d__init_d_) l_LiveShelf_d__init_d_ c_LiveShelf_d__init_d_ k_LiveShelf_d__init_d_
  have b_LiveShelf_d__init_d_ := F_LiveShelf_d__init_d_.binds (ps := ["self", "size"]) fun _ _ _ _ _ _ us hl => match us, hl with | [_, _], _ => rfl
  have F_LiveShelf_take_book := fun_mk (st := SLiveShelf_take_book) l_LiveShelf_take_book c_LiveShelf_take_book k_LiveShelf_take_book
  have b_LiveShelf_take_book := F_LiveShelf_take_book.binds (ps := ["self", "place"]) fun _ _ _ _ _ _ us hl => match us, hl with | [_, _], _ => rfl
  have F_LiveShelf_return_book := fun_mk (st := SLiveShelf_return_book) l_LiveShelf_return_book c_LiveShelf_return_book k_LiveShelf_return_book
  have b_LiveShelf_return_book := F_LiveShelf_return_book.binds (ps := ["self", "book"]) fun _ _ _ _ _ _ us hl => match us, hl with | [_, _], _ => rfl
  have F_LiveShelf_undo := fun_mk (st := SLiveShelf_undo) l_LiveShelf_undo c_LiveShelf_undo k_LiveShelf_undo
  have b_LiveShelf_undo := F_LiveShelf_undo.binds (ps := ["self"]) fun _ _ _ _ _ _ us hl => match us, hl with | [_], _ => rfl
  have F_LiveShelf_current_books := fun_mk (st := SLiveShelf_current_books) l_LiveShelf_current_books c_LiveShelf_current_books k_LiveShelf_current_books
  have b_LiveShelf_current_books := F_LiveShelf_current_books.binds (ps := ["self"]) fun _ _ _ _ _ _ us hl => match us, hl with | [_], _ => rfl
  have F_LiveShelf_current_out := fun_mk (st := SLiveShelf_current_out) l_LiveShelf_current_out c_LiveShelf_current_out k_LiveShelf_current_out
  have b_LiveShelf_current_out := F_LiveShelf_current_out.binds (ps := ["self"]) fun _ _ _ _ _ _ us hl => match us, hl with | [_], _ => rfl
  have F_LiveShelf_current_schedule := fun_mk (st := SLiveShelf_current_schedule) l_LiveShelf_current_schedule c_LiveShelf_current_schedule k_LiveShelf_current_schedule
  have b_LiveShelf_current_schedule := F_LiveShelf_current_schedule.binds (ps := ["self"]) fun _ _ _ _ _ _ us hl => match us, hl with | [_], _ => rfl
  have F_LiveShelf_is_complete := fun_mk (st := SLiveShelf_is_complete) l_LiveShelf_is_complete c_LiveShelf_is_complete k_LiveShelf_is_complete
  have b_LiveShelf_is_complete := F_LiveShelf_is_complete.binds (ps := ["self"]) fun _ _ _ _ _ _ us hl => match us, hl with | [_], _ => rfl
  have F_LiveShelf_d__len_d_ := fun_mk (st := SLiveShelf_d__len_d_) l_LiveShelf_d__len_d_ c_LiveShelf_d__len_d_ k_LiveShelf_d__len_d_
  have b_LiveShelf_d__len_d_ := F_LiveShelf_d__len_d_.binds (ps := ["self"]) fun _ _ _ _ _ _ us hl => match us, hl with | [_], _ => rfl
  have F_LiveShelf_from_schedule := fun_mk (st := SLiveShelf_from_schedule) l_LiveShelf_from_schedule c_LiveShelf_from_schedule k_LiveShelf_from_schedule
  have b_LiveShelf_from_schedule := F_LiveShelf_from_schedule.binds (ps := ["cls", "size", "schedule"]) fun _ _ _ _ _ _ us hl => match us, hl with | [_, _, _], _ => rfl
  have F_LiveShelf_d__eq_d_ := fun_mk (st := SLiveShelf_d__eq_d_) l_LiveShelf_d__eq_d_ c_LiveShelf_d__eq_d_ k_LiveShelf_d__eq_d_
  have b_LiveShelf_d__eq_d_ := F_LiveShelf_d__eq_d_.binds (ps := ["self", "other"]) fun _ _ _ _ _ _ us hl => match us, hl with | [_, _], _ => rfl
  refine ⟨PySem.W.fnOf "law" "law" (defArgs Slaw) (defBody Slaw) (defScope Slaw) .none kV_law dc_law pm_law an_law cd_law ct_law, fun s v => .of_eq rfl, fun base _ _ => ?_⟩
  have c_LETTERS : Gc mg "LETTERS" (.ref A_LETTERS) := ⟨_, PySem.W.mg_of X G aL, rfl⟩
  have L_LETTERS : LetK K w A_LETTERS := ⟨⟨_, _, lL, kL, oL⟩, ⟨_, _, _, lL, kL, tL, ⟨_, rfl⟩⟩, ⟨_, _, _, lL, kL, rL, ⟨_, rfl⟩⟩⟩
  have D_is_integer : Df l.prog w K mg base 1 "is_integer" [] spIsInteger := ⟨_, _, _, _, ok_is_integer (k := 0) B F_is_integer, PySem.W.mg_of X G a_is_integer, k_is_integer, b_is_integer, v_is_integer⟩
  have D_is_integer_2 : Df l.prog w K mg base 1 "is_integer" [.non] spIsInteger := ⟨_, _, _, _, ok_is_integer (k := 0) B F_is_integer, PySem.W.mg_of X G a_is_integer, k_is_integer, b1_is_integer, v1_is_integer⟩
  have D_check_size : Df l.prog w K mg base 2 "check_size" [] spCheckSize := ⟨_, _, _, _, ok_check_size c_MAX_SIZE D_is_integer F_check_size, PySem.W.mg_of X G a_check_size, k_check_size, b_check_size, .nil⟩
  have D_is_listed : Df l.prog w K mg base 1 "is_listed" [] spIsListed := ⟨_, _, _, _, ok_is_listed (k := 0) B F_is_listed, PySem.W.mg_of X G a_is_listed, k_is_listed, b_is_listed, .nil⟩
  have N_Shelf : Cn l.prog w K mg base 1 "Shelf" C_Shelf [] (spShInit C_Shelf) := ⟨_, _, _, _, ok_Shelf_init (k := 0) B S_Shelf F_Shelf_d__init_d_, PySem.W.mg_of X G aC_Shelf, ⟨mk_Shelf, a_Shelf_d__init_d_, i_Shelf_d__init_d_, kc_Shelf⟩, b_Shelf_d__init_d_, .nil⟩
  have M_Shelf_can_take : Mt l.prog w K mg base 2 C_Shelf "can_take" [] (spCanTake C_Shelf) := ⟨_, _, _, _, ok_Shelf_can_take B S_Shelf D_is_integer F_Shelf_can_take, S_Shelf.cl, ⟨a_Shelf_can_take, i_Shelf_can_take, k_Shelf_can_take⟩, b_Shelf_can_take, .nil⟩
  have M_Shelf_can_return : Mt l.prog w K mg base 2 C_Shelf "can_return" [] (spCanReturn C_Shelf) := ⟨_, _, _, _, ok_Shelf_can_return S_Shelf D_is_integer_2 F_Shelf_can_return, S_Shelf.cl, ⟨a_Shelf_can_return, i_Shelf_can_return, k_Shelf_can_return⟩, b_Shelf_can_return, .nil⟩
  have M_Shelf_take : Mt l.prog w K mg base 1 C_Shelf "take" [] (spTake C_Shelf) := ⟨_, _, _, _, ok_Shelf_take (k := 0) B S_Shelf F_Shelf_take, S_Shelf.cl, ⟨a_Shelf_take, i_Shelf_take, k_Shelf_take⟩, b_Shelf_take, .nil⟩
  have M_Shelf_put_back : Mt l.prog w K mg base 1 C_Shelf "put_back" [] (spPutBack C_Shelf) := ⟨_, _, _, _, ok_Shelf_put_back (k := 0) B S_Shelf F_Shelf_put_back, S_Shelf.cl, ⟨a_Shelf_put_back, i_Shelf_put_back, k_Shelf_put_back⟩, b_Shelf_put_back, .nil⟩
  have M_Shelf_can_perform : Mt l.prog w K mg base 3 C_Shelf "can_perform" [] (spCanPerform C_Shelf) := ⟨_, _, _, _, ok_Shelf_can_perform B c_TAKE c_RETURN S_Shelf D_is_listed M_Shelf_can_take M_Shelf_can_return F_Shelf_can_perform, S_Shelf.cl, ⟨a_Shelf_can_perform, i_Shelf_can_perform, k_Shelf_can_perform⟩, b_Shelf_can_perform, .nil⟩
  have M_Shelf_perform : Mt l.prog w K mg base 2 C_Shelf "perform" [] (spPerform C_Shelf) := ⟨_, _, _, _, ok_Shelf_perform B c_TAKE S_Shelf M_Shelf_take M_Shelf_put_back F_Shelf_perform, S_Shelf.cl, ⟨a_Shelf_perform, i_Shelf_perform, k_Shelf_perform⟩, b_Shelf_perform, .nil⟩
  have D_performed : Df l.prog w K mg base 4 "performed" [] (spPerformed C_Shelf) := ⟨_, _, _, _, ok_performed B c_MAX_OPERATIONS_schedules S_Shelf D_check_size D_is_listed N_Shelf M_Shelf_can_perform M_Shelf_perform F_performed, PySem.W.mg_of X G a_performed, k_performed, b_performed, .nil⟩
  have D_is_schedule : Df l.prog w K mg base 5 "is_schedule" [] spIsSched := ⟨_, _, _, _, ok_is_schedule D_performed F_is_schedule, PySem.W.mg_of X G a_is_schedule, k_is_schedule, b_is_schedule, .nil⟩
  have D_books_after : Df l.prog w K mg base 5 "books_after" [] spBooksAfter := ⟨_, _, _, _, ok_books_after S_Shelf D_performed F_books_after, PySem.W.mg_of X G a_books_after, k_books_after, b_books_after, .nil⟩
  have D_books_out : Df l.prog w K mg base 5 "books_out" [] spBooksOut := ⟨_, _, _, _, ok_books_out B S_Shelf D_performed F_books_out, PySem.W.mg_of X G a_books_out, k_books_out, b_books_out, .nil⟩
  have D_places_filled : Df l.prog w K mg base 5 "places_filled" [] spFilledP := ⟨_, _, _, _, ok_places_filled D_performed F_places_filled, PySem.W.mg_of X G a_places_filled, k_places_filled, b_places_filled, .nil⟩
  have D_most_out : Df l.prog w K mg base 5 "most_out" [] spMostOut := ⟨_, _, _, _, ok_most_out D_performed F_most_out, PySem.W.mg_of X G a_most_out, k_most_out, b_most_out, .nil⟩
  have N_LiveShelf : Cn l.prog w K mg base 3 "LiveShelf" C_LiveShelf [] (spLvInit C_LiveShelf C_Shelf) := ⟨_, _, _, _, ok_Live_init B S_LiveShelf D_check_size N_Shelf F_LiveShelf_d__init_d_, PySem.W.mg_of X G aC_LiveShelf, ⟨mk_LiveShelf, a_LiveShelf_d__init_d_, i_LiveShelf_d__init_d_, kc_LiveShelf⟩, b_LiveShelf_d__init_d_, .nil⟩
  have P_LiveShelf_is_complete : Pr l.prog w K mg base 1 C_LiveShelf "is_complete" (spLvDone C_LiveShelf C_Shelf) := ⟨_, _, _, _, ok_Live_is_complete (k := 0) B S_LiveShelf S_Shelf F_LiveShelf_is_complete, S_LiveShelf.cl, ⟨a_LiveShelf_is_complete, pg_LiveShelf_is_complete, pt_LiveShelf_is_complete, ⟨_, pr_LiveShelf_is_complete⟩⟩, b_LiveShelf_is_complete⟩
  have L_LiveShelf : Ln l.prog w K mg base 1 C_LiveShelf (spLvLen C_LiveShelf C_Shelf) := ⟨_, _, _, ok_Live_len (k := 0) B S_LiveShelf F_LiveShelf_d__len_d_, a_LiveShelf_d__len_d_, i_LiveShelf_d__len_d_, b_LiveShelf_d__len_d_⟩
  have M_LiveShelf_take_book : Mt l.prog w K mg base 3 C_LiveShelf "take_book" [] (spLvTake C_LiveShelf C_Shelf) := ⟨_, _, _, _, ok_Live_take_book B c_TAKE S_LiveShelf S_Shelf M_Shelf_can_take M_Shelf_take F_LiveShelf_take_book, S_LiveShelf.cl, ⟨a_LiveShelf_take_book, i_LiveShelf_take_book, k_LiveShelf_take_book⟩, b_LiveShelf_take_book, .nil⟩
  have M_LiveShelf_return_book : Mt l.prog w K mg base 3 C_LiveShelf "return_book" [] (spLvReturn C_LiveShelf C_Shelf) := ⟨_, _, _, _, ok_Live_return_book B c_RETURN S_LiveShelf S_Shelf M_Shelf_can_return M_Shelf_put_back F_LiveShelf_return_book, S_LiveShelf.cl, ⟨a_LiveShelf_return_book, i_LiveShelf_return_book, k_LiveShelf_return_book⟩, b_LiveShelf_return_book, .nil⟩
  have M_LiveShelf_current_books : Mt l.prog w K mg base 1 C_LiveShelf "current_books" [] (spLvBooks C_LiveShelf C_Shelf) := ⟨_, _, _, _, ok_Live_current_books (k := 0) B S_LiveShelf S_Shelf F_LiveShelf_current_books, S_LiveShelf.cl, ⟨a_LiveShelf_current_books, i_LiveShelf_current_books, k_LiveShelf_current_books⟩, b_LiveShelf_current_books, .nil⟩
  have M_LiveShelf_current_out : Mt l.prog w K mg base 1 C_LiveShelf "current_out" [] (spLvOut C_LiveShelf C_Shelf) := ⟨_, _, _, _, ok_Live_current_out (k := 0) B S_LiveShelf S_Shelf F_LiveShelf_current_out, S_LiveShelf.cl, ⟨a_LiveShelf_current_out, i_LiveShelf_current_out, k_LiveShelf_current_out⟩, b_LiveShelf_current_out, .nil⟩
  have M_LiveShelf_current_schedule : Mt l.prog w K mg base 1 C_LiveShelf "current_schedule" [] (spLvSched C_LiveShelf C_Shelf) := ⟨_, _, _, _, ok_Live_current_schedule (k := 0) B S_LiveShelf F_LiveShelf_current_schedule, S_LiveShelf.cl, ⟨a_LiveShelf_current_schedule, i_LiveShelf_current_schedule, k_LiveShelf_current_schedule⟩, b_LiveShelf_current_schedule, .nil⟩
  have M_LiveShelf_undo : Mt l.prog w K mg base 1 C_LiveShelf "undo" [] (spLvUndo C_LiveShelf C_Shelf) := ⟨_, _, _, _, ok_Live_undo (k := 0) B c_TAKE S_LiveShelf S_Shelf F_LiveShelf_undo, S_LiveShelf.cl, ⟨a_LiveShelf_undo, i_LiveShelf_undo, k_LiveShelf_undo⟩, b_LiveShelf_undo, .nil⟩
  have Q_LiveShelf : Eqo l.prog w K mg base 1 C_LiveShelf (spLvEq C_LiveShelf C_Shelf) := ⟨_, _, _, ok_Live_eq (k := 0) B S_LiveShelf S_Shelf I_LiveShelf c_LiveShelf F_LiveShelf_d__eq_d_, a_LiveShelf_d__eq_d_, i_LiveShelf_d__eq_d_, b_LiveShelf_d__eq_d_, ne_LiveShelf, mo_LiveShelf⟩
  have G_LiveShelf_from_schedule : Cm l.prog w K mg base 5 "LiveShelf" C_LiveShelf "from_schedule" [] (spFromS C_LiveShelf C_Shelf) := ⟨_, _, _, _, _, ok_Live_from B c_TAKE S_LiveShelf D_performed N_LiveShelf M_LiveShelf_take_book M_LiveShelf_return_book F_LiveShelf_from_schedule, PySem.W.mg_of X G aC_LiveShelf, ⟨rd_LiveShelf, gg_LiveShelf⟩, ⟨a_LiveShelf_from_schedule, ⟨_, pr_LiveShelf_from_schedule⟩, fi_LiveShelf_from_schedule⟩, b_LiveShelf_from_schedule, .nil⟩
  have D_number_in : Df l.prog w K mg base 1 "number_in" [] spNumIn := ⟨_, _, _, _, ok_number_in (k := 0) B c_DIGITS F_number_in, PySem.W.mg_of X G a_number_in, k_number_in, b_number_in, .nil⟩
  have D_format_schedule : Df l.prog w K mg base 5 "format_schedule" [] spFormatSc := ⟨_, _, _, _, ok_format_schedule B D_performed F_format_schedule, PySem.W.mg_of X G a_format_schedule, k_format_schedule, b_format_schedule, .nil⟩
  have D_words_of : Df l.prog w K mg base 1 "words_of" [] spWordsOf := ⟨_, _, _, _, ok_words_of (k := 0) B F_words_of, PySem.W.mg_of X G a_words_of, k_words_of, b_words_of, .nil⟩
  have D_operation_in : Df l.prog w K mg base 2 "operation_in" [] spOpIn := ⟨_, _, _, _, ok_operation_in B c_LETTERS L_LETTERS D_number_in F_operation_in, PySem.W.mg_of X G a_operation_in, k_operation_in, b_operation_in, .nil⟩
  have D_parse_schedule : Df l.prog w K mg base 5 "parse_schedule" [] spParseSc := ⟨_, _, _, _, ok_parse_schedule B c_MAX_OPERATIONS_texts D_check_size D_words_of D_operation_in D_performed F_parse_schedule, PySem.W.mg_of X G a_parse_schedule, k_parse_schedule, b_parse_schedule, .nil⟩
  have D_law_reel : Df l.prog w K mg base 1 "_law_reel" [] (spReel K) := ⟨_, _, _, _, ok_law_reel (k := 0) B F_law_reel, PySem.W.mg_of X G a_law_reel, k_law_reel, b_law_reel, .nil⟩
  have D_law_draw : Df l.prog w K mg base 1 "_law_draw" [] spDraw := ⟨_, _, _, _, ok_law_draw (k := 0) B F_law_draw, PySem.W.mg_of X G a_law_draw, k_law_draw, b_law_draw, .nil⟩
  have D_law_moved : Df l.prog w K mg base 1 "_law_moved" [] spMoved := ⟨_, _, _, _, ok_law_moved (k := 0) B F_law_moved, PySem.W.mg_of X G a_law_moved, k_law_moved, b_law_moved, .nil⟩
  have D_law_next : Df l.prog w K mg base 2 "_law_next" [] spNext := ⟨_, _, _, _, ok_law_next B D_law_draw F_law_next, PySem.W.mg_of X G a_law_next, k_law_next, b_law_next, .nil⟩
  have D_law_led : Df l.prog w K mg base 5 "_law_led" [] (spLed C_LiveShelf C_Shelf) := ⟨_, _, _, _, ok_law_led B S_LiveShelf N_LiveShelf M_LiveShelf_take_book M_LiveShelf_return_book M_LiveShelf_current_out F_law_led, PySem.W.mg_of X G a_law_led, k_law_led, b_law_led, .nil⟩
  have D_law_from_right : Df l.prog w K mg base 6 "_law_from_right" [] (spFromR C_LiveShelf C_Shelf) := ⟨_, _, _, _, ok_law_from_right B S_LiveShelf S_Shelf G_LiveShelf_from_schedule Q_LiveShelf M_LiveShelf_current_schedule M_LiveShelf_current_books M_LiveShelf_undo L_LiveShelf P_LiveShelf_is_complete F_law_from_right, PySem.W.mg_of X G a_law_from_right, k_law_from_right, b_law_from_right, .nil⟩
  exact ok_law B D_law_reel D_law_draw D_law_next D_law_moved D_is_schedule D_books_after D_books_out D_places_filled D_most_out D_format_schedule D_parse_schedule D_law_led D_law_from_right N_LiveShelf G_LiveShelf_from_schedule Q_LiveShelf M_LiveShelf_take_book M_LiveShelf_return_book M_LiveShelf_current_schedule M_LiveShelf_current_books M_LiveShelf_current_out M_LiveShelf_undo L_LiveShelf F_law
theorem the_walk {l : PySem.W.OpenLaw} {q : Program} {loose : List Str} {XP : (Str → Option Value) → Heap → Prop} {YP : World → Heap → Prop} {d : DefRec} {K : Params → PySem.W.Frag} (hn : l.most = some 63) (hdf : d.params.defaults = [])
    (hY : ∀ (w : World) (h : Heap), YP w h → (K w.params).In h)
    (F : ∀ (w : World) (mg : Str → Option Value) (fa : Addr) (h : Heap), (K w.params).In h → h.Ns mainGlobals mg → mg d.name = some (.ref fa) →
      ∃ fd : FuncData, (∀ (s : Shared) (u : Value), BindsTo s fd ⟨[u], []⟩ [("script", u)]) ∧ ∀ base : Heap, (K w.params).In base → base.Ns mainGlobals mg → FnG l.prog w (K w.params) mg base 7 fa fd ["script"] (spLaw (K w.params))) :
    PySem.W.WalkO q loose XP YP l.row.toRowW d [] (fun f vs => PySem.call f vs) :=
  Lx.gwalk (n := 63) (k := 7) (x := "script") (sp := fun w => spLaw (K w.params)) hn (by decide) hdf ⟨rfl, by decide, by decide⟩ hY F (fun _ _ a ns hl hb hS => ⟨a, ns, rfl, hS, hl, fun _ => rfl⟩)
end My
open PySem PySem.W PyProof.Rows in
set_option maxRecDepth 100000 in
set_option maxHeartbeats 0 in
theorem PySem.Challenge.cw_leftreturn_k49_whole_live_shelves_and_sc_holds : PySem.Challenge.rw_leftreturn_k49_whole_live_shelves_and_sc.Holds := by
  w_on; o_law; k_head; (case hw => w_witness2)
  k_fill
  refine My.the_walk (l := PySem.Challenge.rw_leftreturn_k49_whole_live_shelves_and_sc) rfl rfl (fun w h Y => PySem.W.kIn_of Y) ?F
  case F =>
    intro w mg fa h KX G hmg
    refine' My.all_mk KX G hmg ?a_is_integer ?l_is_integer ?t_is_integer ?c_is_integer ?k_is_integer ?a_is_listed ?l_is_listed ?c_is_listed ?k_is_listed ?a_check_size ?l_check_size ?c_check_size ?k_check_size ?a_performed ?l_performed ?c_performed ?k_performed ?a_is_schedule ?l_is_schedule ?c_is_schedule ?k_is_schedule ?a_books_after ?l_books_after ?c_books_after ?k_books_after ?a_books_out ?l_books_out ?c_books_out ?k_books_out ?a_places_filled ?l_places_filled ?c_places_filled ?k_places_filled ?a_most_out ?l_most_out ?c_most_out ?k_most_out ?a_number_in ?l_number_in ?c_number_in ?k_number_in ?a_format_schedule ?l_format_schedule ?c_format_schedule ?k_format_schedule ?a_words_of ?l_words_of ?c_words_of ?k_words_of ?a_operation_in ?l_operation_in ?c_operation_in ?k_operation_in ?a_parse_schedule ?l_parse_schedule ?c_parse_schedule ?k_parse_schedule ?a_law_reel ?l_law_reel ?c_law_reel ?k_law_reel ?a_law_draw ?l_law_draw ?c_law_draw ?k_law_draw ?a_law_moved ?l_law_moved ?c_law_moved ?k_law_moved ?a_law_next ?l_law_next ?c_law_next ?k_law_next ?a_law_led ?l_law_led ?c_law_led ?k_law_led ?a_law_from_right ?l_law_from_right ?c_law_from_right ?k_law_from_right ?a_law ?l_law ?c_law ?k_law ?aC_Shelf ?a_Shelf_d__init_d_ ?i_Shelf_d__init_d_ ?l_Shelf_d__init_d_ ?c_Shelf_d__init_d_ ?k_Shelf_d__init_d_ ?a_Shelf_can_take ?i_Shelf_can_take ?l_Shelf_can_take ?c_Shelf_can_take ?k_Shelf_can_take ?a_Shelf_can_return ?i_Shelf_can_return ?l_Shelf_can_return ?c_Shelf_can_return ?k_Shelf_can_return ?a_Shelf_take ?i_Shelf_take ?l_Shelf_take ?c_Shelf_take ?k_Shelf_take ?a_Shelf_put_back ?i_Shelf_put_back ?l_Shelf_put_back ?c_Shelf_put_back ?k_Shelf_put_back ?a_Shelf_can_perform ?i_Shelf_can_perform ?l_Shelf_can_perform ?c_Shelf_can_perform ?k_Shelf_can_perform ?a_Shelf_perform ?i_Shelf_perform ?l_Shelf_perform ?c_Shelf_perform ?k_Shelf_perform ?pg_Shelf ?hd_Shelf ?po_Shelf ?sa_Shelf ?mk_Shelf ?kc_Shelf ?n_Shelf_books ?n_Shelf_taken ?aC_LiveShelf ?a_LiveShelf_d__init_d_ ?i_LiveShelf_d__init_d_ ?l_LiveShelf_d__init_d_ ?c_LiveShelf_d__init_d_ ?k_LiveShelf_d__init_d_ ?a_LiveShelf_take_book ?i_LiveShelf_take_book ?l_LiveShelf_take_book ?c_LiveShelf_take_book ?k_LiveShelf_take_book ?a_LiveShelf_return_book ?i_LiveShelf_return_book ?l_LiveShelf_return_book ?c_LiveShelf_return_book ?k_LiveShelf_return_book ?a_LiveShelf_undo ?i_LiveShelf_undo ?l_LiveShelf_undo ?c_LiveShelf_undo ?k_LiveShelf_undo ?a_LiveShelf_current_books ?i_LiveShelf_current_books ?l_LiveShelf_current_books ?c_LiveShelf_current_books ?k_LiveShelf_current_books ?a_LiveShelf_current_out ?i_LiveShelf_current_out ?l_LiveShelf_current_out ?c_LiveShelf_current_out ?k_LiveShelf_current_out ?a_LiveShelf_current_schedule ?i_LiveShelf_current_schedule ?l_LiveShelf_current_schedule ?c_LiveShelf_current_schedule ?k_LiveShelf_current_schedule ?a_LiveShelf_is_complete ?pg_LiveShelf_is_complete ?pt_LiveShelf_is_complete ?pr_LiveShelf_is_complete ?l_LiveShelf_is_complete ?c_LiveShelf_is_complete ?k_LiveShelf_is_complete ?a_LiveShelf_d__len_d_ ?i_LiveShelf_d__len_d_ ?l_LiveShelf_d__len_d_ ?c_LiveShelf_d__len_d_ ?k_LiveShelf_d__len_d_ ?a_LiveShelf_from_schedule ?pr_LiveShelf_from_schedule ?fi_LiveShelf_from_schedule ?l_LiveShelf_from_schedule ?c_LiveShelf_from_schedule ?k_LiveShelf_from_schedule ?a_LiveShelf_d__eq_d_ ?i_LiveShelf_d__eq_d_ ?l_LiveShelf_d__eq_d_ ?c_LiveShelf_d__eq_d_ ?k_LiveShelf_d__eq_d_ ?pg_LiveShelf ?hd_LiveShelf ?po_LiveShelf ?sa_LiveShelf ?mk_LiveShelf ?kc_LiveShelf ?rd_LiveShelf ?gg_LiveShelf ?ne_LiveShelf ?mo_LiveShelf ?ca_LiveShelf ?cn_LiveShelf ?ct_LiveShelf ?n_LiveShelf_size ?n_LiveShelf_shelf ?n_LiveShelf_done ?g_MAX_SIZE ?g_TAKE ?g_RETURN ?g_MAX_OPERATIONS_schedules ?g_DIGITS ?g_MAX_OPERATIONS_texts ?z_len ?z_range ?z_isinstance ?z_int ?z_bool ?z_str ?z_list ?z_tuple ?z_set ?z_sorted ?z_min ?z_max ?z_sum ?z_all ?z_any ?z_abs ?z_repr ?z_enumerate ?z_zip ?z_reversed ?z_dict ?aL ?lL ?kL ?oL ?tL ?rL
    (case a_is_integer => k_is)
    (case l_is_integer => k_is)
    (case t_is_integer => k_is)
    (case c_is_integer => k_is)
    (case k_is_integer => k_is)
    (case a_is_listed => k_is)
    (case l_is_listed => k_is)
    (case c_is_listed => k_is)
    (case k_is_listed => k_is)
    (case a_check_size => k_is)
    (case l_check_size => k_is)
    (case c_check_size => k_is)
    (case k_check_size => k_is)
    (case a_performed => k_is)
    (case l_performed => k_is)
    (case c_performed => k_is)
    (case k_performed => k_is)
    (case a_is_schedule => k_is)
    (case l_is_schedule => k_is)
    (case c_is_schedule => k_is)
    (case k_is_schedule => k_is)
    (case a_books_after => k_is)
    (case l_books_after => k_is)
    (case c_books_after => k_is)
    (case k_books_after => k_is)
    (case a_books_out => k_is)
    (case l_books_out => k_is)
    (case c_books_out => k_is)
    (case k_books_out => k_is)
    (case a_places_filled => k_is)
    (case l_places_filled => k_is)
    (case c_places_filled => k_is)
    (case k_places_filled => k_is)
    (case a_most_out => k_is)
    (case l_most_out => k_is)
    (case c_most_out => k_is)
    (case k_most_out => k_is)
    (case a_number_in => k_is)
    (case l_number_in => k_is)
    (case c_number_in => k_is)
    (case k_number_in => k_is)
    (case a_format_schedule => k_is)
    (case l_format_schedule => k_is)
    (case c_format_schedule => k_is)
    (case k_format_schedule => k_is)
    (case a_words_of => k_is)
    (case l_words_of => k_is)
    (case c_words_of => k_is)
    (case k_words_of => k_is)
    (case a_operation_in => k_is)
    (case l_operation_in => k_is)
    (case c_operation_in => k_is)
    (case k_operation_in => k_is)
    (case a_parse_schedule => k_is)
    (case l_parse_schedule => k_is)
    (case c_parse_schedule => k_is)
    (case k_parse_schedule => k_is)
    (case a_law_reel => k_is)
    (case l_law_reel => k_is)
    (case c_law_reel => k_is)
    (case k_law_reel => k_is)
    (case a_law_draw => k_is)
    (case l_law_draw => k_is)
    (case c_law_draw => k_is)
    (case k_law_draw => k_is)
    (case a_law_moved => k_is)
    (case l_law_moved => k_is)
    (case c_law_moved => k_is)
    (case k_law_moved => k_is)
    (case a_law_next => k_is)
    (case l_law_next => k_is)
    (case c_law_next => k_is)
    (case k_law_next => k_is)
    (case a_law_led => k_is)
    (case l_law_led => k_is)
    (case c_law_led => k_is)
    (case k_law_led => k_is)
    (case a_law_from_right => k_is)
    (case l_law_from_right => k_is)
    (case c_law_from_right => k_is)
    (case k_law_from_right => k_is)
    (case a_law => k_is)
    (case l_law => k_is)
    (case c_law => k_is)
    (case k_law => k_is)
    (case aC_Shelf => k_is)
    (case a_Shelf_d__init_d_ => k_is)
    (case i_Shelf_d__init_d_ => k_is)
    (case l_Shelf_d__init_d_ => k_is)
    (case c_Shelf_d__init_d_ => k_is)
    (case k_Shelf_d__init_d_ => k_is)
    (case a_Shelf_can_take => k_is)
    (case i_Shelf_can_take => k_is)
    (case l_Shelf_can_take => k_is)
    (case c_Shelf_can_take => k_is)
    (case k_Shelf_can_take => k_is)
    (case a_Shelf_can_return => k_is)
    (case i_Shelf_can_return => k_is)
    (case l_Shelf_can_return => k_is)
    (case c_Shelf_can_return => k_is)
    (case k_Shelf_can_return => k_is)
    (case a_Shelf_take => k_is)
    (case i_Shelf_take => k_is)
    (case l_Shelf_take => k_is)
    (case c_Shelf_take => k_is)
    (case k_Shelf_take => k_is)
    (case a_Shelf_put_back => k_is)
    (case i_Shelf_put_back => k_is)
    (case l_Shelf_put_back => k_is)
    (case c_Shelf_put_back => k_is)
    (case k_Shelf_put_back => k_is)
    (case a_Shelf_can_perform => k_is)
    (case i_Shelf_can_perform => k_is)
    (case l_Shelf_can_perform => k_is)
    (case c_Shelf_can_perform => k_is)
    (case k_Shelf_can_perform => k_is)
    (case a_Shelf_perform => k_is)
    (case i_Shelf_perform => k_is)
    (case l_Shelf_perform => k_is)
    (case c_Shelf_perform => k_is)
    (case k_Shelf_perform => k_is)
    (case pg_Shelf => k_is)
    (case hd_Shelf => k_is)
    (case po_Shelf => k_is)
    (case sa_Shelf => k_is)
    (case mk_Shelf => k_is)
    (case kc_Shelf => k_is)
    (case n_Shelf_books => k_is)
    (case n_Shelf_taken => k_is)
    (case aC_LiveShelf => k_is)
    (case a_LiveShelf_d__init_d_ => k_is)
    (case i_LiveShelf_d__init_d_ => k_is)
    (case l_LiveShelf_d__init_d_ => k_is)
    (case c_LiveShelf_d__init_d_ => k_is)
    (case k_LiveShelf_d__init_d_ => k_is)
    (case a_LiveShelf_take_book => k_is)
    (case i_LiveShelf_take_book => k_is)
    (case l_LiveShelf_take_book => k_is)
    (case c_LiveShelf_take_book => k_is)
    (case k_LiveShelf_take_book => k_is)
    (case a_LiveShelf_return_book => k_is)
    (case i_LiveShelf_return_book => k_is)
    (case l_LiveShelf_return_book => k_is)
    (case c_LiveShelf_return_book => k_is)
    (case k_LiveShelf_return_book => k_is)
    (case a_LiveShelf_undo => k_is)
    (case i_LiveShelf_undo => k_is)
    (case l_LiveShelf_undo => k_is)
    (case c_LiveShelf_undo => k_is)
    (case k_LiveShelf_undo => k_is)
    (case a_LiveShelf_current_books => k_is)
    (case i_LiveShelf_current_books => k_is)
    (case l_LiveShelf_current_books => k_is)
    (case c_LiveShelf_current_books => k_is)
    (case k_LiveShelf_current_books => k_is)
    (case a_LiveShelf_current_out => k_is)
    (case i_LiveShelf_current_out => k_is)
    (case l_LiveShelf_current_out => k_is)
    (case c_LiveShelf_current_out => k_is)
    (case k_LiveShelf_current_out => k_is)
    (case a_LiveShelf_current_schedule => k_is)
    (case i_LiveShelf_current_schedule => k_is)
    (case l_LiveShelf_current_schedule => k_is)
    (case c_LiveShelf_current_schedule => k_is)
    (case k_LiveShelf_current_schedule => k_is)
    (case a_LiveShelf_is_complete => k_is)
    (case pg_LiveShelf_is_complete => k_is)
    (case pt_LiveShelf_is_complete => k_is)
    (case pr_LiveShelf_is_complete => k_is)
    (case l_LiveShelf_is_complete => k_is)
    (case c_LiveShelf_is_complete => k_is)
    (case k_LiveShelf_is_complete => k_is)
    (case a_LiveShelf_d__len_d_ => k_is)
    (case i_LiveShelf_d__len_d_ => k_is)
    (case l_LiveShelf_d__len_d_ => k_is)
    (case c_LiveShelf_d__len_d_ => k_is)
    (case k_LiveShelf_d__len_d_ => k_is)
    (case a_LiveShelf_from_schedule => k_is)
    (case pr_LiveShelf_from_schedule => k_is)
    (case fi_LiveShelf_from_schedule => k_is)
    (case l_LiveShelf_from_schedule => k_is)
    (case c_LiveShelf_from_schedule => k_is)
    (case k_LiveShelf_from_schedule => k_is)
    (case a_LiveShelf_d__eq_d_ => k_is)
    (case i_LiveShelf_d__eq_d_ => k_is)
    (case l_LiveShelf_d__eq_d_ => k_is)
    (case c_LiveShelf_d__eq_d_ => k_is)
    (case k_LiveShelf_d__eq_d_ => k_is)
    (case pg_LiveShelf => k_is)
    (case hd_LiveShelf => k_is)
    (case po_LiveShelf => k_is)
    (case sa_LiveShelf => k_is)
    (case mk_LiveShelf => k_is)
    (case kc_LiveShelf => k_is)
    (case rd_LiveShelf => k_is)
    (case gg_LiveShelf => k_is)
    (case ne_LiveShelf => k_is)
    (case mo_LiveShelf => k_is)
    (case ca_LiveShelf => k_is)
    (case cn_LiveShelf => k_is)
    (case ct_LiveShelf => k_is)
    (case n_LiveShelf_size => k_is)
    (case n_LiveShelf_shelf => k_is)
    (case n_LiveShelf_done => k_is)
    (case g_MAX_SIZE => k_is)
    (case g_TAKE => k_is)
    (case g_RETURN => k_is)
    (case g_MAX_OPERATIONS_schedules => k_is)
    (case g_DIGITS => k_is)
    (case g_MAX_OPERATIONS_texts => k_is)
    (case z_len => k_is)
    (case z_range => k_is)
    (case z_isinstance => k_is)
    (case z_int => k_is)
    (case z_bool => k_is)
    (case z_str => k_is)
    (case z_list => k_is)
    (case z_tuple => k_is)
    (case z_set => k_is)
    (case z_sorted => k_is)
    (case z_min => k_is)
    (case z_max => k_is)
    (case z_sum => k_is)
    (case z_all => k_is)
    (case z_any => k_is)
    (case z_abs => k_is)
    (case z_repr => k_is)
    (case z_enumerate => k_is)
    (case z_zip => k_is)
    (case z_reversed => k_is)
    (case z_dict => k_is)
    (case aL => k_is)
    (case lL => k_is)
    (case kL => k_keys)
    (case oL => decide)
    (case tL => k_is)
    (case rL => k_is)
