import PyProof.Rows.All
import Wide.All
import OpenK.AllK
import Wide.FinOn
import HandS.ForMost
import HandS.Exc
import HandS.ExcOwn
import HandS.WordsExc
import HandS.EndBits
import HandS.IsInst
import HandS.ExcInit
import HandS.ExcField
import KE.KExcIs
import HandS.Wide
import HandS.Style
import PySem.Challenge.RW_genuspapers_k01_errors_as_told
set_option Elab.async false
set_option linter.all false
set_option maxRecDepth 100000
set_option maxHeartbeats 4000000
/-! GBase: defs whose promise knows more of what runs around them: no repr is open (guards), objects that are pinned (a caught error). -/
namespace G
open PySem PySem.Spec PyProof.Rows L2
abbrev Pins := List (Addr × Obj)
abbrev Sq := Pins → Sp
/-- room around: c tells that nothing is being handled -/
structure Rm (c : Bool) (k : Nat) (A : Around) : Prop where
  dp : A.depth + 3 * k + 5 < recursionLimit
  un : A.units + 16 * k + 200 < cLine
  gd : A.guards = some []
  hd : c = true → A.handled = none
theorem Rm.mono {c : Bool} {j k : Nat} {A : Around} (r : Rm c k A) (h : j ≤ k) : Rm c j A :=
  { dp := by have q := r.dp; omega, un := by have q := r.un; omega, gd := r.gd, hd := r.hd }
theorem Rm.any {c : Bool} {k : Nat} {A : Around} (r : Rm c k A) : Rm false k A := { dp := r.dp, un := r.un, gd := r.gd, hd := fun z => nomatch z }
theorem Rm.deeper {c : Bool} {k : Nat} {A : Around} (r : Rm c (k + 1) A) (env : Env) : Rm c k (A.deeper env) :=
  { dp := by have q := r.dp; show A.depth + 1 + 3 * k + 5 < _; omega, un := by have q := r.un; show A.units + 3 + 16 * k + 200 < _; omega, gd := r.gd, hd := r.hd }
theorem Rm.mark {c : Bool} {k : Nat} {A : Around} (r : Rm c k A) (h : Option Value) : Rm false k (A.mark h) :=
  { dp := r.dp, un := r.un, gd := r.gd, hd := fun z => nomatch z }
theorem Rm.room {k : Nat} {A : Around} (r : Rm true k A) : Room k A := { hd := r.hd rfl, dp := r.dp, un := r.un }
theorem Rm.hu {c : Bool} {k : Nat} {A : Around} (r : Rm c k A) : A.units + 64 < cLine := by have q := r.un; omega
theorem Rm.hu1 {c : Bool} {k : Nat} {A : Around} (r : Rm c k A) : A.units + 1 < cLine := by have q := r.un; omega
theorem Rm.deep {c : Bool} {k : Nat} {A : Around} (r : Rm c k A) : A.depth < recursionLimit := by have q := r.dp; omega

/-- a pinned object stands in the state, untracked -/
structure PinAt (outer : List Env) (H : Hp) (s : Shared) (p : Addr × Obj) : Prop where
  get : s.heap.get? p.1 = some p.2
  free : H p.1 = none
  nofs : p.1 ∉ frs outer
  nocell : ∀ v, p.2.data ≠ .cell v

structure FnG (P : Program) (w : World) (K : PySem.W.Frag) (mg : Str → Option Value) (base : Heap) (c : Bool) (k : Nat) (f : Addr) (fd : FuncData) (ps : List Str) (sp : Sq) : Prop where
  len : ∀ pl vs H Q E, sp pl vs H Q E → vs.length = ps.length
  run : ∀ (A : Around) (outer : List Env) (s : Shared) (H : Hp) (args : Args) (us : List Value) (vs : List V) (Q : VK) (E : XK) (pl : Pins), Rm c k A → (∀ p ∈ pl, PinAt outer H s p) →
    Env0 P w K mg base A outer s H → BindsTo s fd args (ps.zip us) → Vals vs us → sp pl vs H Q E →
    codeAny (model P w) A (.call (.ref f) args) (CR (L2.CX P w) outer P w H s Q E) s
theorem FnG.up {P : Program} {w : World} {K : PySem.W.Frag} {mg : Str → Option Value} {base : Heap} {c : Bool} {j k : Nat} {f : Addr} {fd : FuncData} {ps : List Str} {sp : Sq} (F : FnG P w K mg base c j f fd ps sp) (h : j ≤ k) : FnG P w K mg base c k f fd ps sp :=
  { len := F.len, run := fun A o s H a us vs Q E pl hr => F.run A o s H a us vs Q E pl (hr.mono h) }
theorem FnG.of {P : Program} {w : World} {K : PySem.W.Frag} {mg : Str → Option Value} {base : Heap} {k : Nat} {f : Addr} {fd : FuncData} {ps : List Str} {sp : Sp} (F : FnOk P w K mg base (L2.CX P w) k f fd ps sp) : FnG P w K mg base true k f fd ps (fun _ => sp) :=
  { len := fun _ => F.len, run := fun A o s H a us vs Q E _ hr _ => F.run A o s H a us vs Q E hr.room }

/-- the context of a body -/
abbrev cxG (P : Program) (w : World) (K : PySem.W.Frag) (mg : Str → Option Value) (base : Heap) (N : List Str) (qual : Str) (scope : Scope) (f : Addr) (cd : Value) (A : Around) (outer : List Env) (s : Shared) (H : Hp) (E : XK) (c : Bool) (pl : Pins) : Cx :=
  { cxOf (L2.CX P w) P w K mg base N qual scope f cd A outer s H E with calm := c, pn := pl }

section
variable {P : Program} {w : World} {K : PySem.W.Frag} {mg : Str → Option Value} {base : Heap} {N ps : List Str} {qual : Str} {scope : Scope} {f : Addr} {cd : Value} {A : Around} {outer : List Env} {s s1 : Shared} {H : Hp} {E : XK} {us : List Value} {vs : List V} {c : Bool} {pl : Pins}
theorem inv_go (S : FnScope N ps scope) (hd : c = true → A.handled = none) (hp : ∀ p ∈ pl, PinAt outer H s p) (e0 : Env0 P w K mg base A outer s H) (hl : vs.length = ps.length) (r : Vals vs us)
    (x : InCallC s s.heap.objs.size (bindL (envOfC qual scope s.heap.objs.size f cd).kindOf (ps.zip us) fun _ => none) (cellsFrom (s.heap.objs.size + 1) scope.names []) (bindC (envOfC qual scope s.heap.objs.size f cd).kindOf (ps.zip us) fun _ => none) s1) :
    Inv (cxG P w K mg base N qual scope f cd A outer s H E c pl) [] (start N vs) H s1 := by
  have e1 : Env0 P w K mg base { A with handled := none } outer s H := { frames := e0.frames, mod := e0.mod, bs := e0.bs, bsz := e0.bsz, funs := e0.funs, frf := e0.frf, hok := e0.hok, bare := e0.bare }
  have I : Inv (cxOf (L2.CX P w) P w K mg base N qual scope f cd { A with handled := none } outer s H E) [] (start N vs) H s1 := inv_start S rfl e1 hl r x
  have o := I.ok
  obtain ⟨h1, tk, rfl, hk⟩ := x.done
  refine { ok := { mod := o.mod, kind := o.kind, glob := o.glob, blt := o.blt, above := o.above, inj := o.inj, has := o.has, cab := o.cab, hd := fun z => hd z, frames := o.frames, stk := o.stk, exf := o.exf, bs := o.bs, bsz := o.bsz, noex := o.noex, exfs := o.exfs, funs := o.funs, frf := o.frf }
           os := I.os, bare := I.bare, base := I.base, loc := I.loc, cell := I.cell, free := I.free, freeC := I.freeC, pin := ?_, hok := I.hok, len := I.len }
  intro p hq
  have hq' : p ∈ pl := by simpa using (show p ∈ pl ++ ([] : Pins) from hq)
  have z := hp p hq'
  exact ⟨hk p.1 p.2 z.get, z.free, Nat.ne_of_lt (Heap.lt_size z.get), z.nofs, z.nocell⟩

/-- THE RULE of a def -/
theorem fn_go {x : Str} {st : Stmt} {fd : FuncData} {k : Nat} {sp : Sq} (F : Fun K x qual st f fd) (S : FnScope N ps (defScope st)) (len : ∀ pl vs H Q E, sp pl vs H Q E → vs.length = ps.length)
    (body : ∀ (cdv : Value) (A : Around) (outer : List Env) (s : Shared) (H : Hp) (vs : List V) (Q : VK) (E : XK) (pl : Pins), Rm c k (A.deeper (envOfC qual (defScope st) s.heap.objs.size f cdv)) → sp pl vs H Q E →
      ∃ t, PSs (cxG P w K mg base N qual (defScope st) f cdv A outer s H E c pl) (defBody st) t ∧ t { nx := fun _ H' => Q .non H', rt := Q } (start N vs) H) :
    FnG P w K mg base c (k + 1) f fd ps sp := by
  obtain ⟨oc, od, kV, doc, pm, an, cdv, ct, osl, rfl, lk, hcd⟩ := F.ex
  refine ⟨len, ?_⟩
  intro A outer s H args us vs Q E pl hr hp e0 hb r hsp
  have up : ∀ b o, base.get? b = some o → s.heap.get? b = some o := fun b o e => (e0.bs b o e).1
  have KX : K.In s.heap := e0.mod.kin.keeps up
  refine codeAny_call_function hr.deep (KX _ _ lk) rfl S.co S.gen rfl (PySem.W.codeRec_of KX hcd) (hb _ _ _ _ ?_)
  refine wpAny_newFunctionEnv_cells S.kind (fun y hy => ?_) fun env he s1 x => ?_
  · obtain ⟨n, v⟩ := y
    cases S.par n (List.of_mem_zip hy).1 with
    | inl q => exact Or.inl q
    | inr q => exact Or.inr ⟨q, PySem.W.cellsFrom_some _ _ _ (Or.inl q)⟩
  · subst he
    refine ⟨(e0.mod.nolimit.keeps up).keeps x.toInCall.keep, codeAny_func ?_⟩
    obtain ⟨t, ht, hq⟩ := body cdv A outer s H vs Q E pl (hr.deeper _) hsp
    have I := inv_go (E := E) (c := c) (pl := pl) S hr.hd hp e0 (len _ _ _ _ _ hsp) r x
    refine wpAny_mono (ht.run [] s1 (start N vs) H _ I hq) (fun fl s' hs => ?_) (fun e s' hs => hs)
    cases fl with
    | brk => obtain ⟨_, _, _, q⟩ := hs; exact q.elim
    | cont => obtain ⟨_, _, _, q⟩ := hs; exact q.elim
    | ret u => obtain ⟨v, σ', H', J, rv, q⟩ := hs; exact ⟨v, H', J.os, J.bare, J.base, J.hok, rv, q⟩
    | next => obtain ⟨σ', H', J, q⟩ := hs; exact ⟨.non, H', J.os, J.bare, J.base, J.hok, rfl, q⟩
end

section
variable {X : Cx} {c : Bool} {k : Nat} {f : Addr} {fd : FuncData} {ps : List Str} {sp : Sq} {E : L2.St → XK} {x : Str} {q pos : Pos} {e : Expr} {es : List Expr} {t : TA} {pl : Pins}
/-- what a call may let out -/
abbrev Lets (X : Cx) (E : L2.St → XK) : Prop := ∀ σ, PassesAt (L2.CX X.prog X.w) X σ (E σ)
theorem run_go {pins : Pins} {σ : L2.St} {H : Hp} {s : Shared} {Q : VK} {us : List Value} {vs : List V} (F : FnG X.prog X.w X.K X.mg X.base c k f fd ps sp) (hr : Rm c k X.A) (hp : ∀ p ∈ pl, p ∈ X.pn) (hb : Binds X.K fd ps []) (hx : Lets X E)
    (I : Inv X pins σ H s) (r : Vals vs us) (h : sp pl vs H Q (E σ)) : wpAny (model X.prog X.w) X.A (call (.ref f) us) (EP X pins σ Q) X.xe s := by
  have hl : (us ++ ([] : List Value)).length = ps.length := by rw [List.append_nil, ← r.length]; exact F.len _ _ _ _ _ h
  have b := hb s us I.kIn hl
  rw [List.append_nil] at b
  have pin : ∀ p ∈ pl, PinAt X.stack H s p := fun p hm => by
    have z := I.pin p (List.mem_append_left _ (hp p hm))
    refine { get := z.1, free := z.2.1, nofs := fun hf => ?_, nocell := z.2.2.2.2 }
    cases List.mem_cons.mp (I.stkSub p.1 hf) with
    | inl y => exact z.2.2.1 y
    | inr y => exact z.2.2.2.1 y
  refine wpAny_call (codeAny_mono (F.run X.A X.stack s H ⟨us, []⟩ us vs Q (E σ) pl hr pin I.env0 b r h) (fun r s' hq => ?_))
  match r, hq with
  | .error e, hq => exact hx σ pins H s e s' I hq
  | .ok (.ret u), hq => exact I.after hq
  | .ok .next, hq => exact hq.elim
  | .ok .brk, hq => exact hq.elim
  | .ok .cont, hq => exact hq.elim
/-- f(e, ..) -/
def tCallG (sp : Sq) (pl : Pins) (E : L2.St → XK) (t : TA) : TE := fun σ H Q => t σ H fun vs H1 => sp pl vs H1 Q (E σ)
theorem pe_go (F : FnG X.prog X.w X.K X.mg X.base c k f fd ps sp) (hr : Rm c k X.A) (hp : ∀ p ∈ pl, p ∈ X.pn) (hg : Gl X x) (hm : X.mg x = some (.ref f)) (hk : PySem.W.keepIn X.K (.ref f) = true) (hb : Binds X.K fd ps []) (hx : Lets X E)
    (ha : PA X (e :: es) t) (hdb : (x == ("__debug__" : Str)) = false := by decide) (he : starEach (e :: es) X.env = (false, eval e X.env) :: starEach es X.env := by rfl) (hpl : (backTo pos (starEach es X.env)).any (·.1) = false := by rfl) :
    PE X (.Call (.Name x q) (e :: es) [] pos) (tCallG sp pl E t) := by
  refine ⟨fun pins s σ H Q I h => ?_⟩
  refine wpAny_Call_Name_kw (ld_glob I hg hm ?_ hdb)
  refine PySem.W.callWith_K (h₀ := X.base) I.ok.mod.kin hk (thn (ha.run pos pins s σ H _ I h) ?_) he hpl
  intro us s1 z
  obtain ⟨vs, H1, I1, r, q⟩ := z
  exact ⟨I1.kIn, run_go F hr hp hb hx I1 r q⟩
/-- f() -/
theorem pe_go0 (F : FnG X.prog X.w X.K X.mg X.base c k f fd ps sp) (hr : Rm c k X.A) (hp : ∀ p ∈ pl, p ∈ X.pn) (hg : Gl X x) (hm : X.mg x = some (.ref f)) (hk : PySem.W.keepIn X.K (.ref f) = true) (hb : Binds X.K fd ps []) (hx : Lets X E)
    (hdb : (x == ("__debug__" : Str)) = false := by decide) : PE X (.Call (.Name x q) [] [] pos) (tCallG sp pl E tNil) := by
  refine ⟨fun pins s σ H Q I h => ?_⟩
  refine wpAny_Call_Name_kw (ld_glob I hg hm ?_ hdb)
  exact PySem.W.callWith_K0 I.kIn hk (run_go (us := []) F hr hp hb hx I .nil h)
/-- nothing is let out -/
theorem lets0 : Lets X (fun _ => E0) := fun _ pins H s e s' I z => by
  obtain ⟨_, _, _, _, _, _, _, _, _, _, _, _, q⟩ := z
  exact q.elim
end
end G

set_option Elab.async false
set_option linter.all false
set_option maxRecDepth 100000
set_option maxHeartbeats 4000000
/-! DBase: data (trees of plain values) in place of values and heaps; what a body does, told over data alone. -/
namespace G
open PySem PySem.Spec PyProof.Rows L2
/-! ### data -/
inductive D where
  | non | bl (b : Bool) | int (i : Int) | str (s : Str) | ty (n : String) | fn (a : Addr)
  | tup (l : List D) | lst (l : List D) | dic (l : List (Key × D)) | obj (C : Addr) (l : List (Str × D)) | exc (a : Addr) (dd : Option Addr) (C : Addr) (l : List (Str × D))
mutual
inductive Rp (K : PySem.W.Frag) (H : Hp) : V → D → Prop
  | non : Rp K H .non .non
  | bl (b : Bool) : Rp K H (.bl b) (.bl b)
  | int (i : Int) : Rp K H (.int i) (.int i)
  | str (s : Str) : Rp K H (.str s) (.str s)
  | ty (n : String) : Rp K H (.ty n) (.ty n)
  | fn (a : Addr) : Rp K H (.ref a) (.fn a)
  | tup {a : Addr} {xs : List V} {ds : List D} : SqT K H a xs → RpA K H xs ds → Rp K H (.ref a) (.tup ds)
  | lst {a : Addr} {xs : List V} {ds : List D} : H a = some (.lst xs) → RpA K H xs ds → Rp K H (.ref a) (.lst ds)
  | dic {a : Addr} {xs : List (Key × V)} {ds : List (Key × D)} : H a = some (.dK xs) → xs.map (·.1) = ds.map (·.1) → RpA K H (xs.map (·.2)) (ds.map (·.2)) → Rp K H (.ref a) (.dic ds)
  | obj {a C dx : Addr} {xs : List (Str × V)} {ds : List (Str × D)} : H a = some (.ins C dx xs) → xs.map (·.1) = ds.map (·.1) → RpA K H (xs.map (·.2)) (ds.map (·.2)) → Rp K H (.ref a) (.obj C ds)
  | exc {a dd C : Addr} {xs : List (Str × V)} {ds : List (Str × D)} : H dd = some (.xd xs) → xs.map (·.1) = ds.map (·.1) → RpA K H (xs.map (·.2)) (ds.map (·.2)) → Rp K H (.ref a) (.exc a (some dd) C ds)
  | exc0 (a C : Addr) : Rp K H (.ref a) (.exc a none C [])
inductive RpA (K : PySem.W.Frag) (H : Hp) : List V → List D → Prop
  | nil : RpA K H [] []
  | cons {v : V} {vs : List V} {d : D} {ds : List D} : Rp K H v d → RpA K H vs ds → RpA K H (v :: vs) (d :: ds)
end
def Ex (H H' : Hp) : Prop := ∀ a o, H a = some o → H' a = some o
theorem Ex.refl (H : Hp) : Ex H H := fun _ _ h => h
theorem Ex.trans {H H1 H2 : Hp} (a : Ex H H1) (b : Ex H1 H2) : Ex H H2 := fun x o h => b x o (a x o h)
theorem Ex.new {H : Hp} {p : Addr} {o : HO} (h : H p = none) : Ex H (upd H p o) := fun a u e => by rw [upd_ne (ne_of_none e h)]; exact e
theorem Ex.no {H H' : Hp} {p : Addr} (e : Ex H H') (h : H' p = none) : H p = none := by
  cases q : H p with
  | none => rfl
  | some o => rw [e p o q] at h; cases h
theorem Ex.up {H H' : Hp} {p : Addr} {o : HO} (e : Ex H H') : Ex (upd H p o) (upd H' p o) := fun a u h => by
  by_cases z : a = p
  · subst z; rw [upd_same] at h ⊢; exact h
  · rw [upd_ne z] at h ⊢; exact e a u h
theorem Ex.rd {H H' : Hp} {a : Addr} {u : HO} (e : Ex H H') (h : Rd H a u) : Rd H' a u := by
  cases h with
  | inl h => exact Or.inl (e _ _ h)
  | inr h => obtain ⟨o, h⟩ := h; exact Or.inr ⟨o, e _ _ h⟩
theorem Ex.sl {K : PySem.W.Frag} {H H' : Hp} {a : Addr} {xs : List V} (e : Ex H H') (h : SqL K H a xs) : SqL K H' a xs := h.elim (fun h => Or.inl (e.rd h)) Or.inr
theorem Ex.st {K : PySem.W.Frag} {H H' : Hp} {a : Addr} {xs : List V} (e : Ex H H') (h : SqT K H a xs) : SqT K H' a xs := h.elim (fun h => Or.inl (e.rd h)) Or.inr
section
variable {K : PySem.W.Frag} {H H' : Hp}
mutual
theorem Rp.up (e : Ex H H') : ∀ {v : V} {d : D}, Rp K H v d → Rp K H' v d
  | _, _, .non => .non
  | _, _, .bl b => .bl b
  | _, _, .int i => .int i
  | _, _, .str s => .str s
  | _, _, .ty n => .ty n
  | _, _, .fn a => .fn a
  | _, _, .tup h r => .tup (e.st h) (RpA.up e r)
  | _, _, .lst h r => .lst (e _ _ h) (RpA.up e r)
  | _, _, .dic h k r => .dic (e _ _ h) k (RpA.up e r)
  | _, _, .obj h k r => .obj (e _ _ h) k (RpA.up e r)
  | _, _, .exc h k r => .exc (e _ _ h) k (RpA.up e r)
  | _, _, .exc0 a C => .exc0 a C
theorem RpA.up (e : Ex H H') : ∀ {vs : List V} {ds : List D}, RpA K H vs ds → RpA K H' vs ds
  | _, _, .nil => .nil
  | _, _, .cons h r => .cons (Rp.up e h) (RpA.up e r)
end
theorem RpA.len : ∀ {vs : List V} {ds : List D}, RpA K H vs ds → vs.length = ds.length
  | _, _, .nil => rfl
  | _, _, .cons _ r => congrArg (· + 1) r.len
theorem RpA.at : ∀ {vs : List V} {ds : List D} {i : Nat} {d : D}, RpA K H vs ds → ds[i]? = some d → ∃ v, vs[i]? = some v ∧ Rp K H v d
  | _, _, _, _, .nil, h => by simp at h
  | _, _, 0, _, .cons (v := v) q _, h => by simp at h; subst h; exact ⟨v, rfl, q⟩
  | _, _, i + 1, _, .cons _ r, h => by
    obtain ⟨v, e, q⟩ := r.at (i := i) (by simpa using h)
    exact ⟨v, by simpa using e, q⟩
theorem RpA.at' : ∀ {vs : List V} {ds : List D} {i : Nat} {v : V}, RpA K H vs ds → vs[i]? = some v → ∃ d, ds[i]? = some d ∧ Rp K H v d
  | _, _, _, _, .nil, h => by simp at h
  | _, _, 0, _, .cons (d := d) q _, h => by simp at h; subst h; exact ⟨d, rfl, q⟩
  | _, _, i + 1, _, .cons _ r, h => by
    obtain ⟨v, e, q⟩ := r.at' (i := i) (by simpa using h)
    exact ⟨v, by simpa using e, q⟩
theorem RpA.app : ∀ {vs ws : List V} {ds es : List D}, RpA K H vs ds → RpA K H ws es → RpA K H (vs ++ ws) (ds ++ es)
  | _, _, _, _, .nil, r => r
  | _, _, _, _, .cons q r, s => .cons q (r.app s)
theorem RpA.ints : ∀ {ns : List Int}, RpA K H (ns.map V.int) (ns.map D.int)
  | [] => .nil
  | n :: r => .cons (.int n) RpA.ints
end

/-! ### the pen of the laws: the dict from which all is drawn -/
def PenO (K : PySem.W.Frag) (Hf : Hp) (o : HO) : Prop :=
  ∃ (c : Addr) (ns : List Int) (at' dg cn fo : Int), o = .dK [(Sum.inr "cells", .ref c), (Sum.inr "at", .int at'), (Sum.inr "digits", .int dg), (Sum.inr "count", .int cn), (Sum.inr "fold", .int fo)] ∧
    SqL K Hf c (ns.map V.int) ∧ 0 ≤ at' ∧ 0 ≤ dg ∧ dg.natAbs < 2 ^ 1048577 ∧ 0 ≤ fo ∧ fo < 2 ^ 31 ∧ (∀ n ∈ ns, Builtin.Int.intBits n ≤ 1048576)
theorem PenO.up {K : PySem.W.Frag} {H H' : Hp} {o : HO} (e : Ex H H') (h : PenO K H o) : PenO K H' o := by
  obtain ⟨c, ns, a, d, n, f, q, s, r⟩ := h
  exact ⟨c, ns, a, d, n, f, q, e.sl s, r⟩

/-! ### what stands ahead of a body: B what may not be touched, F what may be read for good, M the pens -/
structure Bs where
  B : Hp
  F : Hp
  M : List Addr
structure Exit (K : PySem.W.Frag) (b : Bs) (Hf H : Hp) : Prop where
  exF : Ex Hf H
  ex0 : Ex b.F Hf
  exB : Ex b.B H
  frz : ∀ a, b.B a ≠ none → b.F a = none → Hf a = none
  pens : ∀ p ∈ b.M, Hf p = none ∧ b.B p = none ∧ ∃ o, H p = some o ∧ PenO K Hf o
/-- what a slot holds: nothing told | data, shared | a list of one's own | the pen -/
inductive Sl where
  | no | sh (d : D) | ow (ds : List D) | pen
def SlOk (K : PySem.W.Frag) (M : List Addr) (Hf H : Hp) : Option V → Sl → Prop
  | _, .no => True
  | some v, .sh d => Rp K Hf v d
  | some v, .ow ds => ∃ a xs, v = .ref a ∧ Hf a = none ∧ H a = some (.lst xs) ∧ RpA K Hf xs ds ∧ a ∉ M
  | some v, .pen => ∃ p ∈ M, v = .ref p
  | none, _ => False
def Own (σ : L2.St) (ρ : List Sl) (i : Nat) (a : Addr) : Prop := (∃ ds, ρ[i]? = some (.ow ds)) ∧ σ[i]? = some (some (.ref a))
structure Fm (K : PySem.W.Frag) (b : Bs) (Hf H : Hp) (σ : L2.St) (ρ : List Sl) : Prop where
  ex : Exit K b Hf H
  len : σ.length = ρ.length
  sl : ∀ (i : Nat) (o : Option V) (s : Sl), σ[i]? = some o → ρ[i]? = some s → SlOk K b.M Hf H o s
  mine : ∀ i a, Own σ ρ i a → b.B a = none
  sep : ∀ i j a, Own σ ρ i a → Own σ ρ j a → i = j

section
variable {K : PySem.W.Frag} {b : Bs} {Hf H Hf' H' : Hp} {σ : L2.St} {ρ : List Sl}
/-- nothing of one's own is touched -/
theorem Fm.step (fr : Fm K b Hf H σ ρ) (x : Exit K b Hf' H') (e : Ex Hf Hf') (k : ∀ a xs, H a = some (.lst xs) → Hf a = none → b.B a = none → a ∉ b.M → Hf' a = none ∧ H' a = some (.lst xs)) : Fm K b Hf' H' σ ρ := by
  refine { ex := x, len := fr.len, sl := fun i o s h1 h2 => ?_, mine := fr.mine, sep := fr.sep }
  have q := fr.sl i o s h1 h2
  match o, s, q with
  | _, .no, _ => trivial
  | some v, .sh d, q => exact Rp.up e q
  | some v, .pen, q => exact q
  | some v, .ow ds, q =>
    obtain ⟨a, xs, rfl, h3, h4, r, nm⟩ := q
    obtain ⟨z1, z2⟩ := k a xs h4 h3 (fr.mine i a ⟨⟨ds, h2⟩, h1⟩) nm
    exact ⟨a, xs, rfl, z1, z2, RpA.up e r, nm⟩
theorem Exit.put (x : Exit K b Hf H) {p : Addr} {o : HO} (hp : H p = none) : Exit K b (upd Hf p o) (upd H p o) := by
  have np := x.exF.no hp
  have nb := x.exB.no hp
  refine { exF := x.exF.up, ex0 := x.ex0.trans (Ex.new np), exB := x.exB.trans (Ex.new hp), frz := fun a h1 h2 => ?_, pens := fun q hq => ?_ }
  · rw [upd_ne (fun z => h1 (by rw [z]; exact nb))]
    exact x.frz a h1 h2
  · obtain ⟨h1, h2, ob, h3, h4⟩ := x.pens q hq
    have n : q ≠ p := ne_of_none h3 hp
    exact ⟨by rw [upd_ne n]; exact h1, h2, ob, by rw [upd_ne n]; exact h3, h4.up (Ex.new np)⟩
/-- a new object is laid -/
theorem Fm.put (fr : Fm K b Hf H σ ρ) {p : Addr} {o : HO} (hp : H p = none) : Fm K b (upd Hf p o) (upd H p o) σ ρ :=
  fr.step (fr.ex.put hp) (Ex.new (fr.ex.exF.no hp)) fun a xs h1 h2 _ _ => by
    have n : a ≠ p := ne_of_none h1 hp
    rw [upd_ne n, upd_ne n]
    exact ⟨h2, h1⟩
/-- a slot is set to shared data -/
theorem Fm.set (fr : Fm K b Hf H σ ρ) {i : Nat} {v : V} {d : D} (r : Rp K Hf v d) : Fm K b Hf H (σ.set i (some v)) (ρ.set i (.sh d)) := by
  have own : ∀ j a, Own (σ.set i (some v)) (ρ.set i (.sh d)) j a → Own σ ρ j a := fun j a ⟨⟨ds, h1⟩, h2⟩ => by
    by_cases z : j = i
    · subst z
      rw [List.getElem?_set] at h1
      simp at h1
    · rw [List.getElem?_set_ne (Ne.symm z)] at h1 h2
      exact ⟨⟨ds, h1⟩, h2⟩
  refine { ex := fr.ex, len := by rw [List.length_set, List.length_set]; exact fr.len, sl := fun j o s h1 h2 => ?_, mine := fun j a h => fr.mine j a (own j a h), sep := fun j k a h1 h2 => fr.sep j k a (own j a h1) (own k a h2) }
  by_cases z : j = i
  · subst z
    rw [List.getElem?_set] at h1 h2
    simp at h1 h2
    obtain ⟨_, rfl⟩ := h1
    obtain ⟨_, rfl⟩ := h2
    exact r
  · rw [List.getElem?_set_ne (Ne.symm z)] at h1 h2
    exact fr.sl j o s h1 h2
/-- a slot is forgotten -/
theorem Fm.drop (fr : Fm K b Hf H σ ρ) {i : Nat} {o' : Option V} : Fm K b Hf H (σ.set i o') (ρ.set i .no) := by
  have own : ∀ j a, Own (σ.set i o') (ρ.set i .no) j a → Own σ ρ j a := fun j a ⟨⟨ds, h1⟩, h2⟩ => by
    by_cases z : j = i
    · subst z
      rw [List.getElem?_set] at h1
      simp at h1
    · rw [List.getElem?_set_ne (Ne.symm z)] at h1 h2
      exact ⟨⟨ds, h1⟩, h2⟩
  refine { ex := fr.ex, len := by rw [List.length_set, List.length_set]; exact fr.len, sl := fun j o s h1 h2 => ?_, mine := fun j a h => fr.mine j a (own j a h), sep := fun j k a h1 h2 => fr.sep j k a (own j a h1) (own k a h2) }
  by_cases z : j = i
  · subst z
    rw [List.getElem?_set] at h2
    simp at h2
    obtain ⟨_, rfl⟩ := h2
    match o with
    | none => trivial
    | some _ => trivial
  · rw [List.getElem?_set_ne (Ne.symm z)] at h1 h2
    exact fr.sl j o s h1 h2
/-- a new list becomes one's own -/
theorem Fm.own (fr : Fm K b Hf H σ ρ) {i : Nat} {p : Addr} {xs : List V} {ds : List D} (hp : H p = none) (r : RpA K Hf xs ds) : Fm K b Hf (upd H p (.lst xs)) (σ.set i (some (.ref p))) (ρ.set i (.ow ds)) := by
  have np := fr.ex.exF.no hp
  have nm : p ∉ b.M := fun z => by
    obtain ⟨_, _, o, h3, _⟩ := fr.ex.pens p z
    rw [hp] at h3; cases h3
  have old : ∀ j a, j ≠ i → Own (σ.set i (some (.ref p))) (ρ.set i (.ow ds)) j a → Own σ ρ j a ∧ a ≠ p := fun j a z ⟨⟨es, h1⟩, h2⟩ => by
    rw [List.getElem?_set_ne (Ne.symm z)] at h1 h2
    refine ⟨⟨⟨es, h1⟩, h2⟩, fun e => ?_⟩
    obtain ⟨a', ys, e1, _, h3, _⟩ := fr.sl j _ _ h2 h1
    cases e1
    rw [e, hp] at h3; cases h3
  have at_i : ∀ a, Own (σ.set i (some (.ref p))) (ρ.set i (.ow ds)) i a → a = p := fun a ⟨_, h2⟩ => by
    rw [List.getElem?_set] at h2
    simp at h2
    exact h2.2.symm
  refine { ex := ?_, len := by rw [List.length_set, List.length_set]; exact fr.len, sl := fun j o s h1 h2 => ?_, mine := fun j a h => ?_, sep := fun j k a h1 h2 => ?_ }
  · refine { exF := fr.ex.exF.trans (Ex.new hp), ex0 := fr.ex.ex0, exB := fr.ex.exB.trans (Ex.new hp), frz := fr.ex.frz, pens := fun q hq => ?_ }
    obtain ⟨h1, h2, ob, h3, h4⟩ := fr.ex.pens q hq
    exact ⟨h1, h2, ob, by rw [upd_ne (ne_of_none h3 hp)]; exact h3, h4⟩
  · by_cases z : j = i
    · subst z
      rw [List.getElem?_set] at h1 h2
      simp at h1 h2
      obtain ⟨_, rfl⟩ := h1
      obtain ⟨_, rfl⟩ := h2
      exact ⟨p, xs, rfl, np, upd_same, r, nm⟩
    · rw [List.getElem?_set_ne (Ne.symm z)] at h1 h2
      have q := fr.sl j o s h1 h2
      match o, s, q with
      | none, .no, _ => trivial
      | some _, .no, _ => trivial
      | some v, .sh d, q => exact q
      | some v, .pen, q => exact q
      | some v, .ow es, q =>
        obtain ⟨a, ys, rfl, h3, h4, r', nm'⟩ := q
        exact ⟨a, ys, rfl, h3, by rw [upd_ne (ne_of_none h4 hp)]; exact h4, r', nm'⟩
  · by_cases z : j = i
    · subst z
      rw [at_i a h]
      exact fr.ex.exB.no hp
    · exact fr.mine j a (old j a z h).1
  · by_cases z : j = i
    · by_cases y : k = i
      · rw [z, y]
      · subst z
        exact ((old k a y h2).2 (at_i a h1)).elim
    · by_cases y : k = i
      · subst y
        exact ((old j a z h1).2 (at_i a h2)).elim
      · exact fr.sep j k a (old j a z h1).1 (old k a y h2).1
/-- one's own list is changed -/
theorem Fm.chg (fr : Fm K b Hf H σ ρ) {i : Nat} {p : Addr} {xs : List V} {ds es : List D} (hi : ρ[i]? = some (.ow ds)) (hs : σ[i]? = some (some (.ref p))) (r : RpA K Hf xs es) : Fm K b Hf (upd H p (.lst xs)) σ (ρ.set i (.ow es)) := by
  obtain ⟨p', ys, e0, np, hp, _, nm⟩ := fr.sl i _ _ hs hi
  cases e0
  have nb := fr.mine i p ⟨⟨ds, hi⟩, hs⟩
  have own : ∀ j a, Own σ (ρ.set i (.ow es)) j a → Own σ ρ j a := fun j a ⟨⟨fs, h1⟩, h2⟩ => by
    by_cases z : j = i
    · subst z
      exact ⟨⟨ds, hi⟩, h2⟩
    · rw [List.getElem?_set_ne (Ne.symm z)] at h1
      exact ⟨⟨fs, h1⟩, h2⟩
  refine { ex := ?_, len := by rw [List.length_set]; exact fr.len, sl := fun j o s h1 h2 => ?_, mine := fun j a h => fr.mine j a (own j a h), sep := fun j k a h1 h2 => fr.sep j k a (own j a h1) (own k a h2) }
  · refine { exF := fun a o e => ?_, ex0 := fr.ex.ex0, exB := fun a o e => ?_, frz := fr.ex.frz, pens := fun q hq => ?_ }
    · rw [upd_ne (ne_of_none e np)]; exact fr.ex.exF a o e
    · rw [upd_ne (ne_of_none e nb)]; exact fr.ex.exB a o e
    · obtain ⟨h1, h2, ob, h3, h4⟩ := fr.ex.pens q hq
      exact ⟨h1, h2, ob, by rw [upd_ne (fun z => nm (by rw [← z]; exact hq))]; exact h3, h4⟩
  · by_cases z : j = i
    · subst z
      rw [h1] at hs
      cases hs
      rw [List.getElem?_set] at h2
      simp at h2
      obtain ⟨_, rfl⟩ := h2
      exact ⟨p, xs, rfl, np, upd_same, r, nm⟩
    · rw [List.getElem?_set_ne (Ne.symm z)] at h2
      have q := fr.sl j o s h1 h2
      match o, s, q, h1, h2 with
      | none, .no, _, _, _ => trivial
      | some _, .no, _, _, _ => trivial
      | some v, .sh d, q, _, _ => exact q
      | some v, .pen, q, _, _ => exact q
      | some v, .ow fs, q, h1, h2 =>
        obtain ⟨a, zs, rfl, h3, h4, r', nm'⟩ := q
        have n : a ≠ p := fun e => z (fr.sep j i a ⟨⟨fs, h2⟩, h1⟩ ⟨⟨ds, hi⟩, by rw [e]; exact hs⟩)
        exact ⟨a, zs, rfl, h3, by rw [upd_ne n]; exact h4, r', nm'⟩
/-- one's own list is shared from now on -/
theorem Fm.share (fr : Fm K b Hf H σ ρ) {i : Nat} {ds : List D} (hi : ρ[i]? = some (.ow ds)) : ∃ Hf', Ex Hf Hf' ∧ Fm K b Hf' H σ (ρ.set i (.sh (.lst ds))) := by
  have hl : i < σ.length := by rw [fr.len]; exact (List.getElem?_eq_some_iff.mp hi).1
  obtain ⟨o, ho⟩ : ∃ o, σ[i]? = some o := ⟨_, List.getElem?_eq_getElem hl⟩
  have q := fr.sl i o _ ho hi
  match o, q, ho with
  | none, q, _ => exact q.elim
  | some v, q, ho =>
    obtain ⟨p, xs, rfl, np, hp, r, nm⟩ := q
    have e := Ex.new (o := .lst xs) np
    have nb := fr.mine i p ⟨⟨ds, hi⟩, ho⟩
    have own : ∀ j a, Own σ (ρ.set i (.sh (.lst ds))) j a → Own σ ρ j a ∧ j ≠ i := fun j a ⟨⟨fs, h1⟩, h2⟩ => by
      by_cases z : j = i
      · subst z
        rw [List.getElem?_set] at h1
        simp at h1
      · rw [List.getElem?_set_ne (Ne.symm z)] at h1
        exact ⟨⟨⟨fs, h1⟩, h2⟩, z⟩
    refine ⟨upd Hf p (.lst xs), e, { ex := ?_, len := by rw [List.length_set]; exact fr.len, sl := fun j o s h1 h2 => ?_, mine := fun j a h => fr.mine j a (own j a h).1, sep := fun j k a h1 h2 => fr.sep j k a (own j a h1).1 (own k a h2).1 }⟩
    · refine { exF := fun a o h => ?_, ex0 := fr.ex.ex0.trans e, exB := fr.ex.exB, frz := fun a h1 h2 => ?_, pens := fun q hq => ?_ }
      · by_cases z : a = p
        · subst z; rw [upd_same] at h; cases h; exact hp
        · rw [upd_ne z] at h; exact fr.ex.exF a o h
      · rw [upd_ne (fun z => h1 (by rw [z]; exact nb))]; exact fr.ex.frz a h1 h2
      · obtain ⟨h1, h2, ob, h3, h4⟩ := fr.ex.pens q hq
        exact ⟨by rw [upd_ne (fun z => nm (by rw [← z]; exact hq))]; exact h1, h2, ob, h3, h4.up e⟩
    · by_cases z : j = i
      · subst z
        rw [ho] at h1
        cases h1
        rw [List.getElem?_set] at h2
        simp at h2
        obtain ⟨_, rfl⟩ := h2
        exact Rp.lst upd_same (RpA.up e r)
      · rw [List.getElem?_set_ne (Ne.symm z)] at h2
        have q := fr.sl j o s h1 h2
        match o, s, q, h1, h2 with
        | none, .no, _, _, _ => trivial
        | some _, .no, _, _, _ => trivial
        | some v, .sh d, q, _, _ => exact Rp.up e q
        | some v, .pen, q, _, _ => exact q
        | some v, .ow fs, q, h1, h2 =>
          obtain ⟨a, zs, rfl, h3, h4, r', nm'⟩ := q
          have n : a ≠ p := fun y => z (fr.sep j i a ⟨⟨fs, h2⟩, h1⟩ ⟨⟨ds, hi⟩, by rw [y]; exact ho⟩)
          exact ⟨a, zs, rfl, by rw [upd_ne n]; exact h3, h4, RpA.up e r', nm'⟩
end
end G

set_option Elab.async false
set_option linter.all false
set_option maxRecDepth 100000
set_option maxHeartbeats 4000000
/-! DRules: readings over data: expressions (DE), arguments (DA, DC), tests (DT), statements (DS). -/
namespace G
open PySem PySem.Spec PyProof.Rows L2
/-! ### data as plain data of the library -/
def keyPy : Key → PyData
  | .inl i => .int i
  | .inr x => .str x
mutual
def D.py : D → PyData
  | .non => .none
  | .bl b => .bool b
  | .int i => .int i
  | .str s => .str s
  | .ty _ => .none
  | .fn _ => .none
  | .tup l => .tuple (D.pyL l)
  | .lst l => .list (D.pyL l)
  | .dic l => .dict (D.pyK l)
  | .obj _ _ => .none
  | .exc _ _ _ _ => .none
def D.pyL : List D → List PyData
  | [] => []
  | d :: r => d.py :: D.pyL r
def D.pyK : List (Key × D) → List (PyData × PyData)
  | [] => []
  | (k, d) :: r => (keyPy k, d.py) :: D.pyK r
end
/-! plain: no classes, defs, objects -/
mutual
def D.pl : D → Bool
  | .non => true
  | .bl _ => true
  | .int _ => true
  | .str _ => true
  | .ty _ => false
  | .fn _ => false
  | .tup l => D.plL l
  | .lst l => D.plL l
  | .dic l => D.plK l
  | .obj _ _ => false
  | .exc _ _ _ _ => false
def D.plL : List D → Bool
  | [] => true
  | d :: r => d.pl && D.plL r
def D.plK : List (Key × D) → Bool
  | [] => true
  | (_, d) :: r => d.pl && D.plK r
end
/-! no dict within -/
mutual
def D.nd : D → Bool
  | .tup l => D.ndL l
  | .lst l => D.ndL l
  | .dic _ => false
  | _ => true
def D.ndL : List D → Bool
  | [] => true
  | d :: r => d.nd && D.ndL r
end
section
variable {K : PySem.W.Frag} {H : Hp}
mutual
theorem Rp.dp : ∀ {v : V} {d : D}, Rp K H v d → d.pl = true → d.nd = true → Dp K H v d.py
  | _, .non, .non, _, _ => Dp.non
  | _, .bl b, .bl _, _, _ => Dp.bl b
  | _, .int i, .int _, _, _ => Dp.int i
  | _, .str s, .str _, _, _ => Dp.str s
  | _, .ty _, _, h, _ => by simp [D.pl] at h
  | _, .fn _, _, h, _ => by simp [D.pl] at h
  | _, .tup l, .tup h r, hp, hn => by
    simp only [D.py]
    exact Dp.tup h (RpA.dp r (by simpa [D.pl] using hp) (by simpa [D.nd] using hn))
  | _, .lst l, .lst h r, hp, hn => by
    simp only [D.py]
    exact Dp.lst (SqL.of h) (RpA.dp r (by simpa [D.pl] using hp) (by simpa [D.nd] using hn))
  | _, .dic _, _, _, h => by simp [D.nd] at h
  | _, .obj _ _, _, h, _ => by simp [D.pl] at h
  | _, .exc _ _ _ _, _, h, _ => by simp [D.pl] at h
theorem RpA.dp : ∀ {vs : List V} {ds : List D}, RpA K H vs ds → D.plL ds = true → D.ndL ds = true → DpAll K H vs (D.pyL ds)
  | _, [], .nil, _, _ => by simp only [D.pyL]; exact DpAll.nil
  | _, d :: r, .cons q t, hp, hn => by
    simp only [D.plL, Bool.and_eq_true] at hp
    simp only [D.ndL, Bool.and_eq_true] at hn
    simp only [D.pyL]
    exact DpAll.cons (Rp.dp q hp.1 hn.1) (RpA.dp t hp.2 hn.2)
end
theorem Rp.int_inv {v : V} {i : Int} (h : Rp K H v (.int i)) : v = .int i := by cases h; rfl
theorem Rp.bl_inv {v : V} {i : Bool} (h : Rp K H v (.bl i)) : v = .bl i := by cases h; rfl
theorem Rp.str_inv {v : V} {i : Str} (h : Rp K H v (.str i)) : v = .str i := by cases h; rfl
theorem Rp.non_inv {v : V} (h : Rp K H v .non) : v = .non := by cases h; rfl
end

/-! ### readings over data -/
/-- nothing but the pens is changed -/
def Up (b : Bs) (Hf H Hf' H' : Hp) : Prop := Ex Hf Hf' ∧ ∀ a o, H a = some o → a ∉ b.M → H' a = some o ∧ (Hf a = none → Hf' a = none)
theorem Up.refl {b : Bs} {Hf H : Hp} : Up b Hf H Hf H := ⟨Ex.refl _, fun _ _ h _ => ⟨h, fun z => z⟩⟩
theorem Up.trans {b : Bs} {Hf H Hf1 H1 Hf2 H2 : Hp} (x : Up b Hf H Hf1 H1) (y : Up b Hf1 H1 Hf2 H2) : Up b Hf H Hf2 H2 := ⟨x.1.trans y.1, fun a o h n => by
  obtain ⟨h1, h2⟩ := x.2 a o h n
  obtain ⟨h3, h4⟩ := y.2 a o h1 n
  exact ⟨h3, fun z => h4 (h2 z)⟩⟩
theorem Up.new {b : Bs} {Hf H : Hp} {p : Addr} {o : HO} (hp : H p = none) (hf : Hf p = none) : Up b Hf H (upd Hf p o) (upd H p o) := ⟨Ex.new hf, fun a u h _ => by
  have n := ne_of_none h hp
  rw [upd_ne n, upd_ne n]
  exact ⟨h, fun z => z⟩⟩
def DE (K : PySem.W.Frag) (b : Bs) (ρ : List Sl) (t : TE) (Q : D → Prop) : Prop := ∀ (Hf H : Hp) (σ : L2.St) (k : VK), Fm K b Hf H σ ρ →
  (∀ v d Hf' H', Up b Hf H Hf' H' → Fm K b Hf' H' σ ρ → Rp K Hf' v d → Q d → k v H') → t σ H k
/-- a new list, not shared yet -/
def DN (K : PySem.W.Frag) (b : Bs) (ρ : List Sl) (t : TE) (Q : List D → Prop) : Prop := ∀ (Hf H : Hp) (σ : L2.St) (k : VK), Fm K b Hf H σ ρ →
  (∀ p xs ds Hf' H', Up b Hf H Hf' H' → Fm K b Hf' H' σ ρ → H' p = none → RpA K Hf' xs ds → Q ds → k (.ref p) (upd H' p (.lst xs))) → t σ H k
def DT (K : PySem.W.Frag) (b : Bs) (ρ : List Sl) (t : TT) (Q : Bool → Prop) : Prop := ∀ (Hf H : Hp) (σ : L2.St) (k : Bool → Hp → Prop), Fm K b Hf H σ ρ →
  (∀ c Hf' H', Up b Hf H Hf' H' → Fm K b Hf' H' σ ρ → Q c → k c H') → t σ H k
def DA (K : PySem.W.Frag) (b : Bs) (ρ : List Sl) (t : TA) (Q : List D → Prop) : Prop := ∀ (Hf H : Hp) (σ : L2.St) (k : List V → Hp → Prop), Fm K b Hf H σ ρ →
  (∀ vs ds Hf' H', Up b Hf H Hf' H' → Fm K b Hf' H' σ ρ → RpA K Hf' vs ds → Q ds → k vs H') → t σ H k
/-- arguments of a def: data, or the pen -/
def ArgOk (K : PySem.W.Frag) (M : List Addr) (Hf : Hp) : V → Sl → Prop
  | v, .sh d => Rp K Hf v d
  | v, .pen => ∃ p ∈ M, v = .ref p
  | _, _ => False
theorem ArgOk.up {K : PySem.W.Frag} {M : List Addr} {Hf Hf' : Hp} {v : V} {s : Sl} (e : Ex Hf Hf') (h : ArgOk K M Hf v s) : ArgOk K M Hf' v s := by
  match s, h with
  | .sh d, h => exact Rp.up e h
  | .pen, h => exact h
def DC (K : PySem.W.Frag) (b : Bs) (ρ : List Sl) (t : TA) (Q : List Sl → Prop) : Prop := ∀ (Hf H : Hp) (σ : L2.St) (k : List V → Hp → Prop), Fm K b Hf H σ ρ →
  (∀ vs ss Hf' H', Up b Hf H Hf' H' → Fm K b Hf' H' σ ρ → Paired (ArgOk K b.M Hf') vs ss → Q ss → k vs H') → t σ H k
def DS (K : PySem.W.Frag) (b : Bs) (ρ : List Sl) (t : TS) (nx : List Sl → Prop) (rt : D → Prop) (bk ct : List Sl → Prop) : Prop := ∀ (Hf H : Hp) (σ : L2.St) (D : Ends), Fm K b Hf H σ ρ →
  (∀ ρ' σ' Hf' H', Ex Hf Hf' → Fm K b Hf' H' σ' ρ' → nx ρ' → D.nx σ' H') → (∀ v d Hf' H', Ex Hf Hf' → Exit K b Hf' H' → Rp K Hf' v d → rt d → D.rt v H') →
  (∀ ρ' σ' Hf' H', Ex Hf Hf' → Fm K b Hf' H' σ' ρ' → bk ρ' → D.bk σ' H') → (∀ ρ' σ' Hf' H', Ex Hf Hf' → Fm K b Hf' H' σ' ρ' → ct ρ' → D.ct σ' H') → t D σ H

/-- the fields of an error, at its own dict (none: it has none) -/
def ExD (K : PySem.W.Frag) (Hf : Hp) : Option Addr → List (Str × D) → Prop
  | some dx, fs => ∃ fv, Hf dx = some (.xd fv) ∧ fv.map (·.1) = fs.map (·.1) ∧ RpA K Hf (fv.map (·.2)) (fs.map (·.2))
  | none, fs => fs = []
theorem ExD.up {K : PySem.W.Frag} {Hf Hf' : Hp} {d : Option Addr} {fs : List (Str × D)} (e : Ex Hf Hf') (h : ExD K Hf d fs) : ExD K Hf' d fs := by
  match d, h with
  | none, h => exact h
  | some dx, h =>
    obtain ⟨fv, h1, h2, h3⟩ := h
    exact ⟨fv, e _ _ h1, h2, h3.up e⟩
theorem ExD.rp {K : PySem.W.Frag} {Hf : Hp} {d : Option Addr} {fs : List (Str × D)} (a C : Addr) (h : ExD K Hf d fs) : Rp K Hf (.ref a) (.exc a d C fs) := by
  match d, h with
  | none, h =>
    have h' : fs = [] := h
    subst h'
    exact .exc0 a C
  | some dx, h =>
    obtain ⟨fv, h1, h2, h3⟩ := h
    exact .exc h1 h2 h3
/-- what a def over data promises: F tells, for arguments, what is enough that the result is as wished (R), an exception too (X: its class, its fields) -/
abbrev DF := List Sl → (D → Prop) → (Addr → List (Str × D) → Prop) → Prop
def spD (K : PySem.W.Frag) (F : DF) : Sp := fun vs H Q E => ∃ (Hf : Hp) (M : List Addr) (ss : List Sl) (R : D → Prop) (X : Addr → List (Str × D) → Prop),
  Ex Hf H ∧ (∀ p ∈ M, Hf p = none ∧ ∃ o, H p = some o ∧ PenO K Hf o) ∧ Paired (ArgOk K M Hf) vs ss ∧ F ss R X ∧
  (∀ v d Hf' H', Exit K ⟨fun a => if a ∈ M then none else H a, Hf, M⟩ Hf' H' → Rp K Hf' v d → R d → Q v H') ∧
  (∀ C fs d Hf' H', Exit K ⟨fun a => if a ∈ M then none else H a, Hf, M⟩ Hf' H' → ExD K Hf' d fs → X C fs → E (.ref C) d H')
/-- exceptions as told over data reach the wish E -/
def EL (K : PySem.W.Frag) (b : Bs) (ρ : List Sl) (E : L2.St → XK) (X : Addr → List (Str × D) → Prop) : Prop := ∀ (Hf H : Hp) (σ : L2.St), Fm K b Hf H σ ρ →
  ∀ C fs d, ExD K Hf d fs → X C fs → E σ (.ref C) d H
theorem EL.no {K : PySem.W.Frag} {b : Bs} {ρ : List Sl} {E : L2.St → XK} : EL K b ρ E (fun _ _ => False) := fun _ _ _ _ _ _ _ _ z => False.elim z

section
variable {K : PySem.W.Frag} {b : Bs} {ρ : List Sl} {ta tb te : TE} {tt tu : TT} {tr : TA} {Q : D → Prop}
theorem DE.imp {Q' : D → Prop} (h : DE K b ρ te Q) (i : ∀ d, Q d → Q' d) : DE K b ρ te Q' := fun Hf H σ k fr q => h Hf H σ k fr fun v d Hf' H' e f r z => q v d Hf' H' e f r (i d z)
theorem DT.imp {R R' : Bool → Prop} (h : DT K b ρ tt R) (i : ∀ c, R c → R' c) : DT K b ρ tt R' := fun Hf H σ k fr q => h Hf H σ k fr fun c Hf' H' e f z => q c Hf' H' e f (i c z)
/-! names and constants -/
theorem de_var {i : Nat} {d : D} (h : ρ[i]? = some (.sh d)) (q : Q d) : DE K b ρ (tVar i) Q := fun Hf H σ k fr c => by
  have hl : i < σ.length := by rw [fr.len]; exact (List.getElem?_eq_some_iff.mp h).1
  have ho : σ[i]? = some σ[i] := List.getElem?_eq_getElem hl
  have z := fr.sl i _ _ ho h
  generalize σ[i] = o at ho z
  match o, z with
  | none, z => exact z.elim
  | some v, z => exact ⟨v, ho, c v d Hf H Up.refl fr z q⟩
theorem de_int {i : Int} (q : Q (.int i)) : DE K b ρ (tC (.int i)) Q := fun Hf H σ k fr c => c _ _ Hf H Up.refl fr (.int i) q
theorem de_bl {i : Bool} (q : Q (.bl i)) : DE K b ρ (tC (.bl i)) Q := fun Hf H σ k fr c => c _ _ Hf H Up.refl fr (.bl i) q
theorem de_str {i : Str} (q : Q (.str i)) : DE K b ρ (tC (.str i)) Q := fun Hf H σ k fr c => c _ _ Hf H Up.refl fr (.str i) q
theorem de_non (q : Q .non) : DE K b ρ (tC .non) Q := fun Hf H σ k fr c => c _ _ Hf H Up.refl fr .non q
theorem de_ty {n : String} (q : Q (.ty n)) : DE K b ρ (tC (.ty n)) Q := fun Hf H σ k fr c => c _ _ Hf H Up.refl fr (.ty n) q
theorem de_fn {a : Addr} (q : Q (.fn a)) : DE K b ρ (tC (.ref a)) Q := fun Hf H σ k fr c => c _ _ Hf H Up.refl fr (.fn a) q
/-! operators: what the rule asks of the values is told by data -/
theorem de_op {r : R2} (h : DE K b ρ ta fun x => DE K b ρ tb fun y => ∀ (Hf H : Hp) (σ : L2.St) (k : VK) (v u : V), Fm K b Hf H σ ρ → Rp K Hf v x → Rp K Hf u y →
    (∀ w d Hf' H', Up b Hf H Hf' H' → Fm K b Hf' H' σ ρ → Rp K Hf' w d → Q d → k w H') → r v u H k) : DE K b ρ (tOp r ta tb) Q := fun Hf H σ k fr c => by
  refine h Hf H σ _ fr fun v x Hf1 H1 e1 f1 r1 q1 => ?_
  refine q1 Hf1 H1 σ _ f1 fun u y Hf2 H2 e2 f2 r2 q2 => ?_
  exact q2 Hf2 H2 σ k v u f2 (r1.up e2.1) r2 fun w d Hf' H' e f r q => c w d Hf' H' ((e1.trans e2).trans e) f r q
theorem de_II {C : Int → Int → Prop} {g : Int → Int → Int} (h : DE K b ρ ta fun x => DE K b ρ tb fun y => ∃ i j, x = .int i ∧ y = .int j ∧ C i j ∧ Q (.int (g i j))) : DE K b ρ (tOp (rI C fun i j => .int (g i j)) ta tb) Q :=
  de_op (h.imp fun x hx => hx.imp fun y ⟨i, j, e1, e2, hc, q⟩ Hf H σ k v u f rv ru c => by
    subst e1; subst e2
    exact ⟨i, j, rv.int_inv, ru.int_inv, hc, c _ _ Hf H Up.refl f (.int _) q⟩)
theorem de_I0 {g : Int → Int → Int} (h : DE K b ρ ta fun x => DE K b ρ tb fun y => ∃ i j, x = .int i ∧ y = .int j ∧ Q (.int (g i j))) : DE K b ρ (tOp (rI0 fun i j => .int (g i j)) ta tb) Q :=
  de_op (h.imp fun x hx => hx.imp fun y ⟨i, j, e1, e2, q⟩ Hf H σ k v u f rv ru c => by
    subst e1; subst e2
    exact ⟨i, j, rv.int_inv, ru.int_inv, c _ _ Hf H Up.refl f (.int _) q⟩)
theorem de_B0 {g : Int → Int → Bool} (h : DE K b ρ ta fun x => DE K b ρ tb fun y => ∃ i j, x = .int i ∧ y = .int j ∧ Q (.bl (g i j))) : DE K b ρ (tOp (rI0 fun i j => .bl (g i j)) ta tb) Q :=
  de_op (h.imp fun x hx => hx.imp fun y ⟨i, j, e1, e2, q⟩ Hf H σ k v u f rv ru c => by
    subst e1; subst e2
    exact ⟨i, j, rv.int_inv, ru.int_inv, c _ _ Hf H Up.refl f (.bl _) q⟩)
theorem de_un {g : Int → Int} (h : DE K b ρ ta fun x => ∃ i, x = .int i ∧ Q (.int (g i))) : DE K b ρ (tUn (rU fun i => .int (g i)) ta) Q := fun Hf H σ k fr c => by
  refine h Hf H σ _ fr fun v x Hf1 H1 e1 f1 r1 ⟨i, e, q⟩ => ?_
  subst e
  exact ⟨i, r1.int_inv, c _ _ Hf1 H1 e1 f1 (.int _) q⟩
/-- == and != of any plain data -/
def eqD (x y : D) : Bool := PyData.eqv x.py y.py
def okD (x : D) : Bool := x.pl && x.nd && SeqAt.shaped x.py
theorem okD_un {x : D} (h : okD x = true) : x.pl = true ∧ x.nd = true ∧ SeqAt.shaped x.py = true := by
  unfold okD at h
  simp only [Bool.and_eq_true] at h
  exact ⟨h.1.1, h.1.2, h.2⟩
theorem de_eqD (h : DE K b ρ ta fun x => DE K b ρ tb fun y => okD x = true ∧ okD y = true ∧ Q (.bl (eqD x y))) : DE K b ρ (tOp (rEqD K) ta tb) Q :=
  de_op (h.imp fun x hx => hx.imp fun y ⟨o1, o2, q⟩ Hf H σ k v u f rv ru c => by
    obtain ⟨a1, a2, a3⟩ := okD_un o1
    obtain ⟨b1, b2, b3⟩ := okD_un o2
    exact ⟨x.py, y.py, (rv.up f.ex.exF).dp a1 a2, (ru.up f.ex.exF).dp b1 b2, a3, b3, c _ _ Hf H Up.refl f (.bl _) q⟩)
theorem de_neD (h : DE K b ρ ta fun x => DE K b ρ tb fun y => okD x = true ∧ okD y = true ∧ Q (.bl (!eqD x y))) : DE K b ρ (tOp (rNeD K) ta tb) Q :=
  de_op (h.imp fun x hx => hx.imp fun y ⟨o1, o2, q⟩ Hf H σ k v u f rv ru c => by
    obtain ⟨a1, a2, a3⟩ := okD_un o1
    obtain ⟨b1, b2, b3⟩ := okD_un o2
    exact ⟨x.py, y.py, (rv.up f.ex.exF).dp a1 a2, (ru.up f.ex.exF).dp b1 b2, a3, b3, c _ _ Hf H Up.refl f (.bl _) q⟩)
/-- x is None -/
def isN : D → Bool
  | .non => true
  | _ => false
theorem Rp.isN {H : Hp} {v : V} {d : D} (h : Rp K H v d) : decide (v = .non) = isN d := by cases h <;> rfl
theorem de_isN (h : DE K b ρ ta fun x => Q (.bl (isN x))) : DE K b ρ (tIsN ta) Q := fun Hf H σ k fr c => by
  refine h Hf H σ _ fr fun v x Hf1 H1 e1 f1 r1 q => ?_
  show k (.bl (decide (v = .non))) H1
  rw [r1.isN]
  exact c _ _ Hf1 H1 e1 f1 (.bl _) q
theorem de_notN (h : DE K b ρ ta fun x => Q (.bl (!isN x))) : DE K b ρ (tNotN ta) Q := fun Hf H σ k fr c => by
  refine h Hf H σ _ fr fun v x Hf1 H1 e1 f1 r1 q => ?_
  show k (.bl (!decide (v = .non))) H1
  rw [r1.isN]
  exact c _ _ Hf1 H1 e1 f1 (.bl _) q
/-! tests -/
theorem dt_test {R : Bool → Prop} (h : DE K b ρ te fun x => ∃ c, x = .bl c ∧ R c) : DT K b ρ (tTest te) R := fun Hf H σ k fr c => by
  refine h Hf H σ _ fr fun v x Hf1 H1 e1 f1 r1 ⟨c', e, q⟩ => ?_
  subst e
  exact ⟨c', r1.bl_inv, c c' Hf1 H1 e1 f1 q⟩
theorem dt_B {R : Bool → Prop} (h : DE K b ρ te fun x => ∃ c, x = .bl c ∧ R c) : DT K b ρ (tB te) R := dt_test h
theorem dt_and {R : Bool → Prop} (h : DT K b ρ tt fun c => if c = true then DT K b ρ tu R else R false) : DT K b ρ (tAnd tt tu) R := fun Hf H σ k fr c => by
  refine h Hf H σ _ fr fun c' Hf1 H1 e1 f1 q => ?_
  cases c' with
  | true => exact (iteT ((show DT K b ρ tu R from q) Hf1 H1 σ k f1 fun c2 Hf' H' e f z => c c2 Hf' H' (e1.trans e) f z))
  | false => exact iteF (c false Hf1 H1 e1 f1 q)
theorem dt_or {R : Bool → Prop} (h : DT K b ρ tt fun c => if c = true then R true else DT K b ρ tu R) : DT K b ρ (tOr tt tu) R := fun Hf H σ k fr c => by
  refine h Hf H σ _ fr fun c' Hf1 H1 e1 f1 q => ?_
  cases c' with
  | true => exact iteT (c true Hf1 H1 e1 f1 q)
  | false => exact iteF ((show DT K b ρ tu R from q) Hf1 H1 σ k f1 fun c2 Hf' H' e f z => c c2 Hf' H' (e1.trans e) f z)
theorem dt_not {R : Bool → Prop} (h : DT K b ρ tt fun c => R (!c)) : DT K b ρ (tNot tt) R := fun Hf H σ k fr c =>
  h Hf H σ _ fr fun c' Hf1 H1 e1 f1 q => c (!c') Hf1 H1 e1 f1 q
theorem de_andV (h : DE K b ρ ta fun x => ∃ c, x = .bl c ∧ if c = true then DE K b ρ tb Q else Q (.bl false)) : DE K b ρ (tAndV ta tb) Q := fun Hf H σ k fr c => by
  refine h Hf H σ _ fr fun v x Hf1 H1 e1 f1 r1 ⟨c', e, q⟩ => ?_
  subst e
  refine ⟨c', r1.bl_inv, ?_⟩
  cases c' with
  | true => exact iteT ((show DE K b ρ tb Q from q) Hf1 H1 σ k f1 fun v d Hf' H' e f r z => c v d Hf' H' (e1.trans e) f r z)
  | false => exact iteF (c _ _ Hf1 H1 e1 f1 (.bl _) q)
theorem de_orV (h : DE K b ρ ta fun x => ∃ c, x = .bl c ∧ if c = true then Q (.bl true) else DE K b ρ tb Q) : DE K b ρ (tOrV ta tb) Q := fun Hf H σ k fr c => by
  refine h Hf H σ _ fr fun v x Hf1 H1 e1 f1 r1 ⟨c', e, q⟩ => ?_
  subst e
  refine ⟨c', r1.bl_inv, ?_⟩
  cases c' with
  | true => exact iteT (c _ _ Hf1 H1 e1 f1 (.bl _) q)
  | false => exact iteF ((show DE K b ρ tb Q from q) Hf1 H1 σ k f1 fun v d Hf' H' e f r z => c v d Hf' H' (e1.trans e) f r z)
theorem de_notV (h : DE K b ρ ta fun x => ∃ c, x = .bl c ∧ Q (.bl (!c))) : DE K b ρ (tNotV ta) Q := fun Hf H σ k fr c => by
  refine h Hf H σ _ fr fun v x Hf1 H1 e1 f1 r1 ⟨c', e, q⟩ => ?_
  subst e
  exact ⟨c', r1.bl_inv, c _ _ Hf1 H1 e1 f1 (.bl _) q⟩
theorem de_ite (h : DT K b ρ tt fun c => if c = true then DE K b ρ ta Q else DE K b ρ tb Q) : DE K b ρ (tIf tt ta tb) Q := fun Hf H σ k fr c => by
  refine h Hf H σ _ fr fun c' Hf1 H1 e1 f1 q => ?_
  cases c' with
  | true => exact iteT ((show DE K b ρ ta Q from q) Hf1 H1 σ k f1 fun v d Hf' H' e f r z => c v d Hf' H' (e1.trans e) f r z)
  | false => exact iteF ((show DE K b ρ tb Q from q) Hf1 H1 σ k f1 fun v d Hf' H' e f r z => c v d Hf' H' (e1.trans e) f r z)
/-! arguments, displays -/
theorem da_nil {R : List D → Prop} (q : R []) : DA K b ρ tNil R := fun Hf H σ k fr c => c _ _ Hf H Up.refl fr .nil q
theorem da_cons {R : List D → Prop} (h : DE K b ρ te fun x => DA K b ρ tr fun l => R (x :: l)) : DA K b ρ (tCons te tr) R := fun Hf H σ k fr c => by
  refine h Hf H σ _ fr fun v x Hf1 H1 e1 f1 r1 q => ?_
  exact q Hf1 H1 σ _ f1 fun vs ds Hf2 H2 e2 f2 r2 z => c _ _ Hf2 H2 (e1.trans e2) f2 (.cons (r1.up e2.1) r2) z
theorem dc_nil {R : List Sl → Prop} (q : R []) : DC K b ρ tNil R := fun Hf H σ k fr c => c _ _ Hf H Up.refl fr .nil q
theorem dc_cons {R : List Sl → Prop} (h : DE K b ρ te fun x => DC K b ρ tr fun l => R (.sh x :: l)) : DC K b ρ (tCons te tr) R := fun Hf H σ k fr c => by
  refine h Hf H σ _ fr fun v x Hf1 H1 e1 f1 r1 q => ?_
  exact q Hf1 H1 σ _ f1 fun vs ds Hf2 H2 e2 f2 r2 z => c _ _ Hf2 H2 (e1.trans e2) f2 (.cons (show ArgOk K b.M Hf2 v (.sh x) from r1.up e2.1) r2) z
theorem dc_pen {R : List Sl → Prop} {i : Nat} (hi : ρ[i]? = some .pen) (h : DC K b ρ tr fun l => R (.pen :: l)) : DC K b ρ (tCons (tVar i) tr) R := fun Hf H σ k fr c => by
  have hl : i < σ.length := by rw [fr.len]; exact (List.getElem?_eq_some_iff.mp hi).1
  have ho : σ[i]? = some σ[i] := List.getElem?_eq_getElem hl
  have z := fr.sl i _ _ ho hi
  generalize σ[i] = o at ho z
  match o, z with
  | none, z => exact z.elim
  | some v, z =>
    refine ⟨v, ho, ?_⟩
    exact h Hf H σ _ fr fun vs ds Hf2 H2 e2 f2 r2 q => c _ _ Hf2 H2 e2 f2 (.cons (show ArgOk K b.M Hf2 v .pen from z) r2) q
theorem de_tup (h : DA K b ρ tr fun l => l.length ≤ 1000 ∧ Q (.tup l)) : DE K b ρ (tTup tr) Q := fun Hf H σ k fr c => by
  refine h Hf H σ _ fr fun vs ds Hf1 H1 e1 f1 r1 ⟨hz, q⟩ => ?_
  refine ⟨Nat.le_of_lt (small1000 (by rw [r1.len]; exact hz)), fun p hp => ?_⟩
  have n := f1.ex.exF.no hp
  exact c _ _ _ _ (e1.trans (Up.new hp n)) (f1.put hp) (Rp.tup (SqT.of upd_same) (RpA.up (Ex.new n) r1)) q
theorem dn_lst {R : List D → Prop} (h : DA K b ρ tr fun l => l.length ≤ 1000 ∧ R l) : DN K b ρ (tLst tr) R := fun Hf H σ k fr c => by
  refine h Hf H σ _ fr fun vs ds Hf1 H1 e1 f1 r1 ⟨hz, q⟩ => ?_
  exact ⟨Nat.le_of_lt (small1000 (by rw [r1.len]; exact hz)), fun p hp => c _ _ _ _ _ e1 f1 hp r1 q⟩
/-- a new list that is shared at once -/
theorem de_new (h : DN K b ρ te fun l => Q (.lst l)) : DE K b ρ te Q := fun Hf H σ k fr c => by
  refine h Hf H σ _ fr fun p xs ds Hf1 H1 e1 f1 hp r1 q => ?_
  have n := f1.ex.exF.no hp
  exact c _ _ _ _ (e1.trans (Up.new hp n)) (f1.put hp) (Rp.lst upd_same (RpA.up (Ex.new n) r1)) q
theorem de_lst (h : DA K b ρ tr fun l => l.length ≤ 1000 ∧ Q (.lst l)) : DE K b ρ (tLst tr) Q := de_new (dn_lst h)
/-! calls -/
theorem call_core {F : DF} {E : L2.St → XK} {X : Addr → List (Str × D) → Prop} {Hf1 H1 : Hp} {σ : L2.St} {vs : List V} {ss : List Sl} {k : VK} (hE : EL K b ρ E X) (f1 : Fm K b Hf1 H1 σ ρ) (r1 : Paired (ArgOk K b.M Hf1) vs ss) (q : F ss Q X)
    (c : ∀ v d Hf' H', Up b Hf1 H1 Hf' H' → Fm K b Hf' H' σ ρ → Rp K Hf' v d → Q d → k v H') : spD K F vs H1 k (E σ) := by
  have x1 := f1.ex
  have back : ∀ Hf' H', Exit K ⟨fun a => if a ∈ b.M then none else H1 a, Hf1, b.M⟩ Hf' H' → Fm K b Hf' H' σ ρ := fun Hf' H' y => by
    have out : ∀ a o, b.B a = some o → a ∉ b.M := fun a o e z => by
      obtain ⟨_, z2, _⟩ := x1.pens a z
      rw [z2] at e; cases e
    refine f1.step { exF := y.exF, ex0 := x1.ex0.trans y.ex0, exB := fun a o e => y.exB a o (by show (if a ∈ b.M then none else H1 a) = some o; rw [if_neg (out a o e)]; exact x1.exB a o e), frz := fun a h1 h2 => ?_, pens := fun p hp => ?_ } y.ex0 fun a xs h1 h2 h3 h4 => ?_
    · have h3 := x1.frz a h1 h2
      cases hb : b.B a with
      | none => exact (h1 hb).elim
      | some o =>
        refine y.frz a ?_ h3
        show (if a ∈ b.M then none else H1 a) ≠ none
        rw [if_neg (out a o hb), x1.exB a o hb]
        exact fun z => nomatch z
    · obtain ⟨z1, z2, z3⟩ := y.pens p hp
      exact ⟨z1, (x1.pens p hp).2.1, z3⟩
    · have e : (if a ∈ b.M then none else H1 a) = some (.lst xs) := by rw [if_neg h4]; exact h1
      exact ⟨y.frz a (by show (if a ∈ b.M then none else H1 a) ≠ none; rw [e]; exact fun z => nomatch z) h2, y.exB a _ e⟩
  refine ⟨Hf1, b.M, ss, Q, X, x1.exF, fun p hp => ⟨(x1.pens p hp).1, (x1.pens p hp).2.2⟩, r1, q, fun v d Hf' H' y r z => ?_, fun C fs d Hf' H' y hx z => ?_⟩
  · refine c v d Hf' H' ⟨y.ex0, fun a o h n => ?_⟩ (back Hf' H' y) r z
    have e : (if a ∈ b.M then none else H1 a) = some o := by rw [if_neg n]; exact h
    exact ⟨y.exB a o e, y.frz a (by show (if a ∈ b.M then none else H1 a) ≠ none; rw [e]; exact fun z => nomatch z)⟩
  · exact hE Hf' H' σ (back Hf' H' y) C fs d hx z
theorem de_call {F : DF} {E : L2.St → XK} {X : Addr → List (Str × D) → Prop} (hE : EL K b ρ E X) (h : DC K b ρ tr fun ss => F ss Q X) : DE K b ρ (tCallG (fun _ => spD K F) [] E tr) Q := fun Hf H σ k fr c => by
  refine h Hf H σ _ fr fun vs ss Hf1 H1 e1 f1 r1 q => ?_
  exact call_core hE f1 r1 q fun v d Hf' H' e f r z => c v d Hf' H' (e1.trans e) f r z
/-- a built-in that is a function of data -/
theorem de_cb {r : List V → Hp → VK → Prop} (h : DA K b ρ tr fun ds => ∀ (Hf H : Hp) (σ : L2.St) (k : VK) (vs : List V), Fm K b Hf H σ ρ → RpA K Hf vs ds →
    (∀ w d Hf' H', Up b Hf H Hf' H' → Fm K b Hf' H' σ ρ → Rp K Hf' w d → Q d → k w H') → r vs H k) : DE K b ρ (tCB r tr) Q := fun Hf H σ k fr c => by
  refine h Hf H σ _ fr fun vs ds Hf1 H1 e1 f1 r1 q => ?_
  exact q Hf1 H1 σ k vs f1 r1 fun w d Hf' H' e f r z => c w d Hf' H' (e1.trans e) f r z
theorem de_cb1 {r : List V → Hp → VK → Prop} (h : DE K b ρ ta fun x => ∀ (Hf H : Hp) (σ : L2.St) (k : VK) (v : V), Fm K b Hf H σ ρ → Rp K Hf v x →
    (∀ w d Hf' H', Up b Hf H Hf' H' → Fm K b Hf' H' σ ρ → Rp K Hf' w d → Q d → k w H') → r [v] H k) : DE K b ρ (tCB r (tCons ta tNil)) Q :=
  de_cb (da_cons (h.imp fun x hx => da_nil fun Hf H σ k vs f r c => by
    cases r with
    | cons r1 r2 =>
      cases r2
      exact hx Hf H σ k _ f r1 c))

/-! ### statements -/
variable {nx bk ct : List Sl → Prop} {rt : D → Prop} {ts tw : TS}
theorem ds_next (q : nx ρ) : DS K b ρ tNext nx rt bk ct := fun Hf H σ D fr n r bk ct => n ρ σ Hf H (Ex.refl _) fr q
theorem ds_break (q : bk ρ) : DS K b ρ tBreak nx rt bk ct := fun Hf H σ D fr n r bk ct => bk ρ σ Hf H (Ex.refl _) fr q
theorem ds_cont (q : ct ρ) : DS K b ρ tCont nx rt bk ct := fun Hf H σ D fr n r bk ct => ct ρ σ Hf H (Ex.refl _) fr q
theorem ds_seq (h : DS K b ρ ts (fun ρ' => DS K b ρ' tw nx rt bk ct) rt bk ct) : DS K b ρ (tSeq ts tw) nx rt bk ct := fun Hf H σ D fr n r bk ct =>
  h Hf H σ { D with nx := tw D } fr (fun ρ' σ' Hf' H' e f q => q Hf' H' σ' D f (fun ρ2 σ2 Hf2 H2 e2 f2 q2 => n ρ2 σ2 Hf2 H2 (e.trans e2) f2 q2) (fun v d Hf2 H2 e2 x2 r2 q2 => r v d Hf2 H2 (e.trans e2) x2 r2 q2)
    (fun ρ2 σ2 Hf2 H2 e2 f2 q2 => bk ρ2 σ2 Hf2 H2 (e.trans e2) f2 q2) (fun ρ2 σ2 Hf2 H2 e2 f2 q2 => ct ρ2 σ2 Hf2 H2 (e.trans e2) f2 q2)) r bk ct
theorem ds_asg {i : Nat} (h : DE K b ρ te fun d => nx (ρ.set i (.sh d))) : DS K b ρ (tAsg te (gName i)) nx rt bk ct := fun Hf H σ D fr n r bk ct =>
  h Hf H σ _ fr fun v d Hf' H' e f rp q => n _ _ Hf' H' e.1 (f.set rp) q
/-- the name keeps a list of its own -/
theorem ds_own {i : Nat} (h : DN K b ρ te fun l => nx (ρ.set i (.ow l))) : DS K b ρ (tAsg te (gName i)) nx rt bk ct := fun Hf H σ D fr n r bk ct =>
  h Hf H σ _ fr fun p xs ds Hf' H' e f hp rp q => n _ _ Hf' _ e.1 (f.own hp rp) q
theorem ds_share {i : Nat} {l : List D} (hi : ρ[i]? = some (.ow l)) (h : DS K b (ρ.set i (.sh (.lst l))) ts nx rt bk ct) : DS K b ρ ts nx rt bk ct := fun Hf H σ D fr n r bk ct => by
  obtain ⟨Hf1, e1, f1⟩ := fr.share hi
  exact h Hf1 H σ D f1 (fun ρ2 σ2 Hf2 H2 e2 f2 q2 => n ρ2 σ2 Hf2 H2 (e1.trans e2) f2 q2) (fun v d Hf2 H2 e2 x2 r2 q2 => r v d Hf2 H2 (e1.trans e2) x2 r2 q2)
    (fun ρ2 σ2 Hf2 H2 e2 f2 q2 => bk ρ2 σ2 Hf2 H2 (e1.trans e2) f2 q2) (fun ρ2 σ2 Hf2 H2 e2 f2 q2 => ct ρ2 σ2 Hf2 H2 (e1.trans e2) f2 q2)
theorem ds_if (h : DT K b ρ tt fun c => if c = true then DS K b ρ ts nx rt bk ct else DS K b ρ tw nx rt bk ct) : DS K b ρ (tIfS tt ts tw) nx rt bk ct := fun Hf H σ D fr n r bk ct => by
  refine h Hf H σ _ fr fun c Hf1 H1 e1 f1 q => ?_
  have go : ∀ t, DS K b ρ t nx rt _ _ → t D σ H1 := fun t ht => ht Hf1 H1 σ D f1 (fun ρ2 σ2 Hf2 H2 e2 f2 q2 => n ρ2 σ2 Hf2 H2 (e1.1.trans e2) f2 q2) (fun v d Hf2 H2 e2 x2 r2 q2 => r v d Hf2 H2 (e1.1.trans e2) x2 r2 q2)
    (fun ρ2 σ2 Hf2 H2 e2 f2 q2 => bk ρ2 σ2 Hf2 H2 (e1.1.trans e2) f2 q2) (fun ρ2 σ2 Hf2 H2 e2 f2 q2 => ct ρ2 σ2 Hf2 H2 (e1.1.trans e2) f2 q2)
  cases c with
  | true => exact iteT (go ts q)
  | false => exact iteF (go tw q)
theorem ds_ret (h : DE K b ρ te rt) : DS K b ρ (tRet te) nx rt bk ct := fun Hf H σ D fr n r bk ct => h Hf H σ _ fr fun v d Hf' H' e f rp q => r v d Hf' H' e.1 f.ex rp q
theorem ds_retN (q : rt .non) : DS K b ρ tRetN nx rt bk ct := fun Hf H σ D fr n r bk ct => r _ _ Hf H (Ex.refl _) fr.ex .non q
theorem ds_drop (h : DE K b ρ te fun _ => nx ρ) : DS K b ρ (tDrop te) nx rt bk ct := fun Hf H σ D fr n r bk ct => h Hf H σ _ fr fun v d Hf' H' e f rp q => n ρ σ Hf' H' e.1 f q
theorem own_at {Hf H : Hp} {σ : L2.St} (fr : Fm K b Hf H σ ρ) {i : Nat} {l : List D} (hi : ρ[i]? = some (.ow l)) : ∃ a xs, σ[i]? = some (some (.ref a)) ∧ Hf a = none ∧ H a = some (.lst xs) ∧ RpA K Hf xs l := by
  have hl : i < σ.length := by rw [fr.len]; exact (List.getElem?_eq_some_iff.mp hi).1
  have ho : σ[i]? = some σ[i] := List.getElem?_eq_getElem hl
  have z := fr.sl i _ _ ho hi
  generalize σ[i] = o at ho z
  match o, z with
  | none, z => exact z.elim
  | some v, z =>
    obtain ⟨a, xs, rfl, h1, h2, h3, _⟩ := z
    exact ⟨a, xs, ho, h1, h2, h3⟩
/-- found.append(e), found a list of one's own -/
theorem ds_app {i : Nat} {l : List D} (hi : ρ[i]? = some (.ow l)) (h : DE K b ρ te fun d => l.length < 16000 ∧ nx (ρ.set i (.ow (l ++ [d])))) : DS K b ρ (tDrop (tBM K "list" rAppend (tVar i) (tCons te tNil))) nx rt bk ct := fun Hf H σ D fr n r bk ct => by
  obtain ⟨a, xs, ho, h1, h2, h3⟩ := own_at fr hi
  refine ⟨_, ho, Or.inl ⟨rfl, xs, SqL.of h2⟩, ?_⟩
  refine h Hf H σ _ fr fun v d Hf' H' e f rp q => ?_
  obtain ⟨a', ys, ho', k1, k2, k3⟩ := own_at f hi
  rw [ho] at ho'
  cases ho'
  refine ⟨a, ys, v, rfl, rfl, k2, Nat.lt_of_lt_of_le (by rw [k3.len]; exact q.1) (by decide), ?_⟩
  exact n _ σ Hf' _ e.1 (f.chg hi ho (k3.app (.cons rp .nil))) q.2
/-- a list of one's own, read: its length -/
theorem de_var_own {i : Nat} {l : List D} (hi : ρ[i]? = some (.ow l)) {r : List V → Hp → VK → Prop} (h : ∀ (Hf H : Hp) (σ : L2.St) (k : VK) (a : Addr) (xs : List V), Fm K b Hf H σ ρ → H a = some (.lst xs) → RpA K Hf xs l →
    (∀ w d Hf' H', Up b Hf H Hf' H' → Fm K b Hf' H' σ ρ → Rp K Hf' w d → Q d → k w H') → r [.ref a] H k) : DE K b ρ (tCB r (tCons (tVar i) tNil)) Q := fun Hf H σ k fr c => by
  obtain ⟨a, xs, ho, h1, h2, h3⟩ := own_at fr hi
  exact ⟨_, ho, h Hf H σ k a xs fr h2 h3 c⟩
end
end G

set_option Elab.async false
set_option linter.all false
set_option maxRecDepth 100000
set_option maxHeartbeats 4000000
/-! DMore: a def by its body over data; repr, isinstance, fields of errors, places, lengths, loops. -/
namespace G
open PySem PySem.Spec PyProof.Rows L2
theorem paired_at {α β : Type} {F : α → β → Prop} : ∀ {xs : List α} {ys : List β} {i : Nat} {x : α} {y : β}, Paired F xs ys → xs[i]? = some x → ys[i]? = some y → F x y
  | _, _, _, _, _, .nil, h, _ => by simp at h
  | _, _, 0, _, _, .cons q _, h, h' => by simp at h h'; subst h; subst h'; exact q
  | _, _, i + 1, _, _, .cons _ r, h, h' => paired_at (i := i) r (by simpa using h) (by simpa using h')
/-! ### a def by its body -/
/-- pins that are as told, then the promise over data that hangs on them -/
def spP (K : PySem.W.Frag) (Pp : Pins → Prop) (F : Pins → DF) : Sq := fun pl vs H Q E => Pp pl ∧ spD K (F pl) vs H Q E
section
variable {P : Program} {w : World} {K : PySem.W.Frag} {mg : Str → Option Value} {base : Heap} {N ps : List Str} {x qual : Str} {st : Stmt} {f : Addr} {fd : FuncData} {k : Nat} {c : Bool}
theorem start_ok {Hf H : Hp} {M : List Addr} {vs : List V} {ss : List Sl} {n : Nat} (hl : vs.length = ps.length) (hn : N.length = n) (hx : Ex Hf H) (hp : ∀ p ∈ M, Hf p = none ∧ ∃ o, H p = some o ∧ PenO K Hf o) (ha : Paired (ArgOk K M Hf) vs ss) :
    Fm K ⟨fun a => if a ∈ M then none else H a, Hf, M⟩ Hf H (start N vs) (ss ++ List.replicate (N.length - ps.length) .no) := by
  have hvs := ha.length
  have own : ∀ i a, ¬ Own (start N vs) (ss ++ List.replicate (N.length - ps.length) .no) i a := fun i a ⟨⟨ds, h1⟩, h2⟩ => by
    by_cases z : i < ss.length
    · rw [List.getElem?_append_left z] at h1
      have hv : i < vs.length := by omega
      have q := paired_at ha (List.getElem?_eq_getElem hv) h1
      exact q
    · rw [List.getElem?_append_right (by omega), List.getElem?_replicate] at h1
      split at h1 <;> cases h1
  refine { ex := { exF := hx, ex0 := Ex.refl _, exB := fun a o e => ?_, frz := fun a _ h => h, pens := fun p hm => ⟨(hp p hm).1, if_pos hm, (hp p hm).2⟩ }, len := ?_, sl := fun i o s h1 h2 => ?_, mine := fun i a z => (own i a z).elim, sep := fun i j a z _ => (own i a z).elim }
  · have e' : (if a ∈ M then none else H a) = some o := e
    by_cases z : a ∈ M
    · rw [if_pos z] at e'; cases e'
    · rw [if_neg z] at e'; exact e'
  · unfold L2.start
    simp
    omega
  · unfold L2.start at h1
    by_cases z : i < vs.length
    · rw [List.getElem?_append_left (by simpa using z), List.getElem?_map, List.getElem?_eq_getElem z] at h1
      simp at h1
      subst h1
      rw [List.getElem?_append_left (by omega)] at h2
      have q := paired_at ha (List.getElem?_eq_getElem z) h2
      match s, q with
      | .sh d, q => exact q
      | .pen, q => exact q
    · rw [List.getElem?_append_right (by omega), List.getElem?_replicate] at h2
      split at h2
      · cases h2
        match o with
        | none => trivial
        | some _ => trivial
      · cases h2
theorem fn_dataP {Pp : Pins → Prop} {Fd : Pins → DF} (F : Fun K x qual st f fd) (S : FnScope N ps (defScope st)) (len : ∀ pl ss R X, Fd pl ss R X → ss.length = ps.length)
    (body : ∀ (cdv : Value) (A : Around) (outer : List Env) (s : Shared) (H : Hp) (E : XK) (pl : Pins), Rm c k (A.deeper (envOfC qual (defScope st) s.heap.objs.size f cdv)) → Pp pl →
      ∃ t, PSs (cxG P w K mg base N qual (defScope st) f cdv A outer s H E c pl) (defBody st) t ∧ ∀ b ss R X, Fd pl ss R X → (∀ ρ, EL K b ρ (fun _ => E) X) →
        DS K b (ss ++ List.replicate (N.length - ps.length) .no) t (fun _ => R .non) R (fun _ => False) (fun _ => False)) :
    FnG P w K mg base c (k + 1) f fd ps (spP K Pp Fd) := by
  have hlen : ∀ pl vs H Q E, spP K Pp Fd pl vs H Q E → vs.length = ps.length := fun pl vs H Q E h => by
    obtain ⟨_, Hf, M, ss, R, X, h1, h2, h3, h4, _⟩ := h
    rw [h3.length]
    exact len pl ss R X h4
  refine fn_go F S hlen fun cdv A outer s H vs Q E pl hr hsp => ?_
  have hl := hlen _ _ _ _ _ hsp
  obtain ⟨hpp, Hf, M, ss, R, X, h1, h2, h3, h4, h5, h6⟩ := hsp
  obtain ⟨t, ht, hd⟩ := body cdv A outer s H E pl hr hpp
  refine ⟨t, ht, ?_⟩
  refine hd ⟨fun a => if a ∈ M then none else H a, Hf, M⟩ ss R X h4 (fun ρ Hf' H' σ' fr C fs d e1 e2 => h6 C fs d Hf' H' fr.ex e1 e2) Hf H (start N vs) _ (start_ok hl rfl h1 h2 h3)
    (fun ρ' σ' Hf' H' e fr q => h5 .non .non Hf' H' fr.ex .non q) (fun v d Hf' H' e x r q => h5 v d Hf' H' x r q) (fun _ _ _ _ _ _ z => z.elim) (fun _ _ _ _ _ _ z => z.elim)
theorem fn_data {Fd : DF} (F : Fun K x qual st f fd) (S : FnScope N ps (defScope st)) (len : ∀ ss R X, Fd ss R X → ss.length = ps.length)
    (body : ∀ (cdv : Value) (A : Around) (outer : List Env) (s : Shared) (H : Hp) (E : XK) (pl : Pins), Rm c k (A.deeper (envOfC qual (defScope st) s.heap.objs.size f cdv)) →
      ∃ t, PSs (cxG P w K mg base N qual (defScope st) f cdv A outer s H E c pl) (defBody st) t ∧ ∀ b ss R X, Fd ss R X → (∀ ρ, EL K b ρ (fun _ => E) X) →
        DS K b (ss ++ List.replicate (N.length - ps.length) .no) t (fun _ => R .non) R (fun _ => False) (fun _ => False)) :
    FnG P w K mg base c (k + 1) f fd ps (fun _ => spD K Fd) := by
  have G : FnG P w K mg base c (k + 1) f fd ps (spP K (fun _ => True) (fun _ => Fd)) := fn_dataP F S (fun _ => len) fun cdv A outer s H E pl hr _ => body cdv A outer s H E pl hr
  exact { len := fun pl vs H Q E h => G.len pl vs H Q E ⟨trivial, h⟩, run := fun A o s H a us vs Q E pl hr hp e0 hb r h => G.run A o s H a us vs Q E pl hr hp e0 hb r ⟨trivial, h⟩ }
end
/-- a call with pins -/
theorem de_callP {K : PySem.W.Frag} {b : Bs} {ρ : List Sl} {tr : TA} {Q : D → Prop} {Pp : Pins → Prop} {F : Pins → DF} {pl : Pins} {E : L2.St → XK} {X : Addr → List (Str × D) → Prop} (hE : EL K b ρ E X) (hp : Pp pl) (h : DC K b ρ tr fun ss => F pl ss Q X) : DE K b ρ (tCallG (spP K Pp F) pl E tr) Q :=
  fun Hf H σ k fr c => by
    refine h Hf H σ _ fr fun vs ss Hf1 H1 e1 f1 r1 q => ?_
    exact (show spP K Pp F pl vs H1 k (E σ) from ⟨hp, call_core hE f1 r1 q fun v d Hf' H' e f r z => c v d Hf' H' (e1.trans e) f r z⟩)
/-- a def that is handed the error which a suite holds -/
def spX (sp : Sq) (a : Addr) (cls : Value) (d : Option Addr) : Sp := fun vs H Q E => ∀ oe : Obj, Zc cls d oe → (∃ fs, oe.data = .fields fs) → sp [(a, oe)] vs H Q E
section
variable {X : Cx} {c : Bool} {k : Nat} {f a : Addr} {fd : FuncData} {ps : List Str} {sp : Sq} {E : L2.St → XK} {x : Str} {q pos : Pos} {e : Expr} {es : List Expr} {t : TA} {oe : Obj} {cls : Value} {d : Option Addr}
theorem pe_goX (F : FnG X.prog X.w X.K X.mg X.base c k f fd ps sp) (hz : Zc cls d oe) (hf : ∃ fs, oe.data = .fields fs) (hr : Rm c k X.A) (hp : (a, oe) ∈ X.pn) (hg : Gl X x) (hm : X.mg x = some (.ref f)) (hk : PySem.W.keepIn X.K (.ref f) = true) (hb : Binds X.K fd ps []) (hx : Lets X E)
    (ha : PA X (e :: es) t) (hdb : (x == ("__debug__" : Str)) = false := by decide) (he : starEach (e :: es) X.env = (false, eval e X.env) :: starEach es X.env := by rfl) (hpl : (backTo pos (starEach es X.env)).any (·.1) = false := by rfl) :
    PE X (.Call (.Name x q) (e :: es) [] pos) (tCallG (fun _ => spX sp a cls d) [] E t) := by
  refine ⟨fun pins s σ H Q I h => ?_⟩
  refine wpAny_Call_Name_kw (ld_glob I hg hm ?_ hdb)
  refine PySem.W.callWith_K (h₀ := X.base) I.ok.mod.kin hk (thn (ha.run pos pins s σ H _ I h) ?_) he hpl
  intro us s1 z
  obtain ⟨vs, H1, I1, r, q⟩ := z
  exact ⟨I1.kIn, run_go (pl := [(a, oe)]) F hr (fun p h => by rw [List.mem_singleton.mp h]; exact hp) hb hx I1 r (q oe hz hf)⟩
end
theorem de_callX {K : PySem.W.Frag} {b : Bs} {ρ : List Sl} {tr : TA} {Q : D → Prop} {Pp : Pins → Prop} {F : Pins → DF} {a : Addr} {cls : Value} {d : Option Addr} {E : L2.St → XK} {X : Addr → List (Str × D) → Prop} (hE : EL K b ρ E X)
    (h : DC K b ρ tr fun ss => ∀ oe : Obj, Zc cls d oe → (∃ fs, oe.data = .fields fs) → Pp [(a, oe)] ∧ F [(a, oe)] ss Q X) : DE K b ρ (tCallG (fun _ => spX (spP K Pp F) a cls d) [] E tr) Q :=
  fun Hf H σ k fr c => by
    refine h Hf H σ _ fr fun vs ss Hf1 H1 e1 f1 r1 q => ?_
    refine (show spX (spP K Pp F) a cls d vs H1 k (E σ) from fun oe hz hf => ?_)
    obtain ⟨hp, q⟩ := q oe hz hf
    exact ⟨hp, call_core hE f1 r1 q fun v d Hf' H' e f r z => c v d Hf' H' (e1.trans e) f r z⟩
end G

set_option Elab.async false
set_option linter.all false
set_option maxRecDepth 100000
set_option maxHeartbeats 4000000
/-! DOps: operators and built-ins over data; loops. -/
namespace G
open PySem PySem.Spec PyProof.Rows L2
section
variable {K : PySem.W.Frag} {b : Bs} {ρ : List Sl} {ta tb te tc : TE} {tt tu : TT} {tr : TA} {Q : D → Prop} {H Hf : Hp}
theorem small_line {n : Nat} (h : n ≤ 100000) : n ≤ sizeLine := Nat.le_trans h (by decide)
/-! ### places -/
theorem RpA.atI {vs : List V} {ds : List D} {i : Int} {d : D} (r : RpA K H vs ds) (h : L2.atI ds i = some d) : ∃ v, L2.atI vs i = some v ∧ Rp K H v d := by
  unfold L2.atI at h ⊢
  rw [r.len]
  cases e : ixN ds.length i with
  | none => rw [e] at h; cases h
  | some j =>
    rw [e] at h
    exact r.at (i := j) h
def atD : D → Int → Option D
  | .tup l, i => L2.atI l i
  | .lst l, i => L2.atI l i
  | .str z, i => if z.length ≤ 100000 then (L2.atI z.cps.toList i).map fun c => .str ⟨#[c]⟩ else none
  | _, _ => none
theorem de_ix (h : DE K b ρ ta fun x => DE K b ρ tb fun y => ∃ i d, y = .int i ∧ atD x i = some d ∧ Q d) : DE K b ρ (tOp (rIx K) ta tb) Q :=
  de_op (h.imp fun x hx => hx.imp fun y ⟨i, d, e, ha, q⟩ Hf H σ k v u f rv ru c => by
    subst e
    have eu := ru.int_inv
    subst eu
    cases rv with
    | tup h1 h2 =>
      obtain ⟨v', e1, r1⟩ := h2.atI (i := i) ha
      exact Or.inr (Or.inl ⟨_, _, i, v', rfl, rfl, f.ex.exF.st h1, e1, c _ _ Hf H Up.refl f r1 q⟩)
    | lst h1 h2 =>
      obtain ⟨v', e1, r1⟩ := h2.atI (i := i) ha
      exact Or.inl ⟨_, _, i, v', rfl, rfl, SqL.of (f.ex.exF _ _ h1), e1, c _ _ Hf H Up.refl f r1 q⟩
    | str z =>
      have ha' : (if z.length ≤ 100000 then (L2.atI z.cps.toList i).map fun c => D.str ⟨#[c]⟩ else none) = some d := ha
      by_cases hz : z.length ≤ 100000
      · rw [if_pos hz] at ha'
        cases e2 : L2.atI z.cps.toList i with
        | none => rw [e2] at ha'; cases ha'
        | some c' =>
          rw [e2] at ha'
          cases ha'
          exact Or.inr (Or.inr ⟨z, i, c', rfl, rfl, small_line hz, e2, c _ _ Hf H Up.refl f (.str _) q⟩)
      · rw [if_neg hz] at ha'; cases ha'
    | non => cases ha
    | bl _ => cases ha
    | int _ => cases ha
    | ty _ => cases ha
    | fn _ => cases ha
    | dic _ _ _ => cases ha
    | obj _ _ _ => cases ha
    | exc _ _ _ => cases ha
    | exc0 _ _ => cases ha)
/-! ### len -/
def lenD : D → Option Nat
  | .tup l => some l.length
  | .lst l => some l.length
  | .str z => if z.length ≤ 100000 then some z.length else none
  | _ => none
def rLenV (K : PySem.W.Frag) : List V → Hp → VK → Prop := fun xs H Q => ∃ x n, xs = [x] ∧ LenV K x H n ∧ Q (.int n) H
theorem call_lenV {X : Cx} : CallR X (.builtin "len") (rLenV X.K) := call_len
theorem de_len (h : DE K b ρ ta fun x => ∃ n : Nat, lenD x = some n ∧ Q (.int n)) : DE K b ρ (tCB (rLenV K) (tCons ta tNil)) Q :=
  de_cb1 (h.imp fun x ⟨n, ha, q⟩ Hf H σ k v f rv c => by
    cases rv with
    | tup h1 h2 =>
      cases ha
      refine ⟨_, _, rfl, Or.inr ⟨_, f.ex.exF.st h1, rfl⟩, ?_⟩
      rw [h2.len]
      exact c _ _ Hf H Up.refl f (.int _) q
    | lst h1 h2 =>
      cases ha
      refine ⟨_, _, rfl, Or.inl ⟨_, SqL.of (f.ex.exF _ _ h1), rfl⟩, ?_⟩
      rw [h2.len]
      exact c _ _ Hf H Up.refl f (.int _) q
    | str z =>
      have ha' : (if z.length ≤ 100000 then some z.length else none) = some n := ha
      by_cases hz : z.length ≤ 100000
      · rw [if_pos hz] at ha'
        cases ha'
        exact ⟨_, _, rfl, ⟨small_line hz, rfl⟩, c _ _ Hf H Up.refl f (.int _) q⟩
      · rw [if_neg hz] at ha'; cases ha'
    | non => cases ha
    | bl _ => cases ha
    | int _ => cases ha
    | ty _ => cases ha
    | fn _ => cases ha
    | dic _ _ _ => cases ha
    | obj _ _ _ => cases ha
    | exc _ _ _ => cases ha
    | exc0 _ _ => cases ha)
theorem de_len_own {i : Nat} {l : List D} (hi : ρ[i]? = some (.ow l)) (q : Q (.int l.length)) : DE K b ρ (tCB (rLenV K) (tCons (tVar i) tNil)) Q :=
  de_var_own hi fun Hf H σ k a xs f h1 h2 c => by
    refine ⟨_, _, rfl, Or.inl ⟨_, SqL.of h1, rfl⟩, ?_⟩
    rw [h2.len]
    exact c _ _ Hf H Up.refl f (.int _) q
/-! ### int, abs, max, min -/
def rInt1 : List V → Hp → VK → Prop := fun xs H Q => (∃ i, xs = [.int i] ∧ Q (.int i) H) ∨ ∃ k, xs = [.bl k] ∧ Q (.int (if k then 1 else 0)) H
theorem call_intV {X : Cx} : CallR X (.type "int") rInt1 := call_int1
theorem de_intc (h : DE K b ρ ta fun x => (∃ i, x = .int i ∧ Q (.int i)) ∨ ∃ c : Bool, x = .bl c ∧ Q (.int (if c then 1 else 0))) : DE K b ρ (tCB rInt1 (tCons ta tNil)) Q :=
  de_cb1 (h.imp fun x hx Hf H σ k v f rv c => by
    cases hx with
    | inl hx =>
      obtain ⟨i, e, q⟩ := hx
      subst e
      have e := rv.int_inv
      subst e
      exact Or.inl ⟨i, rfl, c _ _ Hf H Up.refl f (.int _) q⟩
    | inr hx =>
      obtain ⟨i, e, q⟩ := hx
      subst e
      have e := rv.bl_inv
      subst e
      exact Or.inr ⟨i, rfl, c _ _ Hf H Up.refl f (.int _) q⟩)
def rAbs : List V → Hp → VK → Prop := fun xs H Q => ∃ i, xs = [.int i] ∧ Q (.int (if i < 0 then -i else i)) H
theorem call_absV {X : Cx} : CallR X (.builtin "abs") rAbs := call_abs
theorem de_abs (h : DE K b ρ ta fun x => ∃ i, x = .int i ∧ Q (.int (if i < 0 then -i else i))) : DE K b ρ (tCB rAbs (tCons ta tNil)) Q :=
  de_cb1 (h.imp fun x ⟨i, e, q⟩ Hf H σ k v f rv c => by
    subst e
    have e := rv.int_inv
    subst e
    exact ⟨i, rfl, c _ _ Hf H Up.refl f (.int _) q⟩)
/-! ### lists put together -/
theorem dn_cat {R : List D → Prop} (h : DE K b ρ ta fun x => DE K b ρ tb fun y => ∃ l m, x = .lst l ∧ y = .lst m ∧ l.length + m.length ≤ 16000 ∧ R (l ++ m)) : DN K b ρ (tOp rCat ta tb) R := fun Hf H σ k fr c => by
  refine h Hf H σ _ fr fun v x Hf1 H1 e1 f1 r1 q1 => ?_
  refine q1 Hf1 H1 σ _ f1 fun u y Hf2 H2 e2 f2 r2 ⟨l, m, ex, ey, hz, q⟩ => ?_
  subst ex
  subst ey
  cases r1 with
  | lst h1 a1 =>
    cases r2 with
    | lst h2 a2 =>
      refine ⟨_, _, _, _, rfl, rfl, f2.ex.exF _ _ (e2.1 _ _ h1), f2.ex.exF _ _ h2, small_line (by rw [a1.len, a2.len]; omega), fun p hp => ?_⟩
      exact c p _ _ Hf2 H2 (e1.trans e2) f2 hp ((a1.up e2.1).app a2) q
/-- the first one one's own -/
theorem dn_cat_own {R : List D → Prop} {i : Nat} {l : List D} (hi : ρ[i]? = some (.ow l)) (h : DE K b ρ tb fun y => ∃ m, y = .lst m ∧ l.length + m.length ≤ 16000 ∧ R (l ++ m)) : DN K b ρ (tOp rCat (tVar i) tb) R := fun Hf H σ k fr c => by
  obtain ⟨a, xs, ho, h1, h2, h3⟩ := own_at fr hi
  refine ⟨_, ho, ?_⟩
  refine h Hf H σ _ fr fun u y Hf2 H2 e2 f2 r2 ⟨m, ey, hz, q⟩ => ?_
  subst ey
  obtain ⟨a', ys, ho', k1, k2, k3⟩ := own_at f2 hi
  rw [ho] at ho'
  cases ho'
  cases r2 with
  | lst h4 a4 =>
    refine ⟨_, _, _, _, rfl, rfl, k2, f2.ex.exF _ _ h4, small_line (by rw [k3.len, a4.len]; omega), fun p hp => ?_⟩
    exact c p _ _ Hf2 H2 e2 f2 hp (k3.app a4) q
/-! ### in, not in, of flat things -/
def flD : D → Option V
  | .non => some .non
  | .bl c => some (.bl c)
  | .int i => some (.int i)
  | .str s => some (.str s)
  | _ => none
def flL : List D → Option (List V)
  | [] => some []
  | d :: r => match flD d, flL r with
    | some v, some vs => some (v :: vs)
    | _, _ => none
theorem Rp.fl {v u : V} {d : D} (r : Rp K H v d) (h : flD d = some u) : v = u ∧ flatV v = true := by
  cases r <;> first | (cases h; exact ⟨rfl, rfl⟩) | cases h
theorem RpA.fl : ∀ {vs us : List V} {ds : List D}, RpA K H vs ds → flL ds = some us → vs = us ∧ vs.all flatV = true
  | _, _, _, .nil, h => by cases h; exact ⟨rfl, rfl⟩
  | _, us, d :: ds, .cons q r, h => by
    have h' : (match flD d, flL ds with | some v, some vs => some (v :: vs) | _, _ => none) = some us := h
    split at h'
    · rename_i v vs e1 e2
      cases h'
      obtain ⟨a1, a2⟩ := q.fl e1
      obtain ⟨b1, b2⟩ := r.fl e2
      subst a1
      subst b1
      exact ⟨rfl, by rw [List.all_cons, a2, b2] <;> rfl⟩
    · cases h'
def seqD : D → Option (List D)
  | .tup l => some l
  | .lst l => some l
  | _ => none
theorem de_in {neg : Bool} (h : DE K b ρ ta fun x => DE K b ρ tb fun y => ∃ v l us, flD x = some v ∧ seqD y = some l ∧ flL l = some us ∧ Q (.bl (if neg then !inV v us else inV v us))) : DE K b ρ (tOp (rIn K neg) ta tb) Q :=
  de_op (h.imp fun x hx => hx.imp fun y ⟨v', l, us, e1, e2, e3, q⟩ Hf H σ k v u f rv ru c => by
    obtain ⟨a1, a2⟩ := rv.fl e1
    subst a1
    cases ru with
    | tup h1 h2 =>
      cases e2
      obtain ⟨b1, b2⟩ := h2.fl e3
      subst b1
      exact ⟨_, _, rfl, Or.inr (f.ex.exF.st h1), a2, b2, c _ _ Hf H Up.refl f (.bl _) q⟩
    | lst h1 h2 =>
      cases e2
      obtain ⟨b1, b2⟩ := h2.fl e3
      subst b1
      exact ⟨_, _, rfl, Or.inl (SqL.of (f.ex.exF _ _ h1)), a2, b2, c _ _ Hf H Up.refl f (.bl _) q⟩
    | non => cases e2
    | bl _ => cases e2
    | int _ => cases e2
    | str _ => cases e2
    | ty _ => cases e2
    | fn _ => cases e2
    | dic _ _ _ => cases e2
    | obj _ _ _ => cases e2
    | exc _ _ _ => cases e2
    | exc0 _ _ => cases e2)
/-! ### isinstance -/
def tyD : D → Option String
  | .non => some "NoneType"
  | .bl _ => some "bool"
  | .int _ => some "int"
  | .str _ => some "str"
  | .tup _ => some "tuple"
  | .lst _ => some "list"
  | .dic _ => some "dict"
  | _ => none
theorem Rp.tyX {v : V} {d : D} {t : String} (r : Rp K Hf v d) (e : Ex Hf H) (h : tyD d = some t) : TyX K H v (.type t) := by
  cases r with
  | non => cases h; exact .base .non
  | bl _ => cases h; exact .base (.bl _)
  | int _ => cases h; exact .base (.int _)
  | str _ => cases h; exact .base (.str _)
  | tup h1 _ =>
    cases h
    match e.st h1 with
    | .inl (.inl h2) => exact .base (.tup h2)
    | .inl (.inr ⟨o, h2⟩) => exact .fTuple h2
    | .inr ⟨o, its, n, h2, h3, _⟩ => exact .kTuple h2 h3
  | lst h1 _ => cases h; exact .base (.lst (e _ _ h1))
  | dic h1 _ _ => cases h; exact .base (.dK (e _ _ h1))
  | ty _ => cases h
  | fn _ => cases h
  | obj _ _ _ => cases h
  | exc _ _ _ => cases h
  | exc0 _ _ => cases h
/-- what the class of an error must say so that its fields are read, its class asked -/
structure XcC (K : PySem.W.Frag) (C : Addr) : Prop where
  cl : (PySem.W.clsIn K C).isSome = true
  ga : PySem.W.findIn K (.ref C) "__getattribute__" = some (some (.builtin "BaseException.__getattribute__"))
  gg : PySem.W.findIn K (.ref C) "__getattr__" = some none
  sb : PySem.W.subIn K (.ref C) (.type "BaseException") = some true
  hd : PySem.W.hasDictIn K C = true
  ka : PySem.W.findIn K (.ref C) "__class__" = some (some (.builtin "object.__class__"))
  kn : PySem.W.specialIn K (.builtin "object.__class__") "__get__" = some (some (.builtin "getset_descriptor.__get__"))
  kt : PySem.W.takesIn K (.builtin "object.__class__") = some true
  km : PySem.W.mroIn K C (.type "object") = some true
/-- the error at a, of the class at C, its own dict at d, is pinned -/
def PnOk (K : PySem.W.Frag) (pn : Pins) (a : Addr) (d : Option Addr) (C : Addr) : Prop := ∃ oe, (a, oe) ∈ pn ∧ Zc (.ref C) d oe ∧ (∃ vs, oe.data = .fields vs) ∧ XcC K C
/-- which errors are pinned -/
abbrev PinP := Addr → Option Addr → Addr → Prop
def rIsX (K : PySem.W.Frag) (pn : PinP) : List V → Hp → VK → Prop := fun xs H Q => ∃ (a : Addr) (d : Option Addr) (C : Addr) (c : V) (cv : Value) (r : Bool), xs = [.ref a, c] ∧ pn a d C ∧ (∀ dx, d = some dx → ∃ fs, H dx = some (.xd fs)) ∧ ClsV c cv ∧ PySem.W.kitOne K (.ref C) cv = some r ∧ Q (.bl r) H
theorem call_isX {X : Cx} {pn : PinP} (hp : ∀ a d C, pn a d C → PnOk X.K X.pn a d C) : CallR X (.builtin "isinstance") (rIsX X.K pn) := by
  intro pins s σ H xs us Q I r h
  obtain ⟨a, d, C, c, cv, r0, rfl, hpn, hd, hcv, e, q⟩ := h
  obtain ⟨oe, hm, hz, ⟨vs, hv⟩, hC⟩ := hp a d C hpn
  obtain ⟨u1, u2, rfl, rx, rt⟩ := vals2 r
  have ec := hcv.eq rt
  subst ec
  cases rx
  obtain ⟨hget, _⟩ := I.pin (a, oe) (List.mem_append_left _ hm)
  have J : ∃ od, PySem.W.InstAt s.heap a oe C od := by
    obtain ⟨oc, od, oda, osl⟩ := oe
    obtain ⟨h1, h2⟩ := hz
    dsimp only at h1 h2 hv
    subst h1 h2 hv
    match od, hd with
    | none, _ => exact ⟨none, hget, rfl, rfl, trivial⟩
    | some dx, hd =>
      obtain ⟨fs, hd⟩ := hd dx rfl
      have hx : ObjOk X.prog X.w H s.heap dx (.xd fs) := I.hok dx _ hd
      obtain ⟨mA, ⟨o, es, ep, ho, _⟩, _⟩ := hx
      exact ⟨some o, hget, rfl, rfl, ho⟩
  obtain ⟨od, J⟩ := J
  refine PySem.W.kia_one (PySem.W.kitx_exc hC.cl hC.ga hC.gg hC.sb hC.ka hC.kn hC.kt hC.km) I.kIn J e (fun z => nomatch z) fun tk => ?_
  exact ⟨.bl r0, H, I.kept (t' := tk) fun _ _ z => z, rfl, q⟩
def rIsG (K : PySem.W.Frag) (pn : PinP) : List V → Hp → VK → Prop := fun xs H Q => rIsi K xs H Q ∨ rIsX K pn xs H Q
theorem call_isG {X : Cx} {pn : PinP} (hp : ∀ a d C, pn a d C → PnOk X.K X.pn a d C) : CallR X (.builtin "isinstance") (rIsG X.K pn) := fun pins s σ H xs us Q I r h => h.elim (call_isi pins s σ H xs us Q I r) (call_isX hp pins s σ H xs us Q I r)
/-- isinstance(x, T), T a built-in class: plain data -/
theorem de_isT {pn : PinP} {n : String} (h : DE K b ρ ta fun x => ∃ t r, tyD x = some t ∧ kitB t n = some r ∧ Q (.bl r)) : DE K b ρ (tCB (rIsG K pn) (tCons ta (tCons (tC (.ty n)) tNil))) Q :=
  de_cb (da_cons (h.imp fun x ⟨t, r, e1, e2, q⟩ => da_cons (de_ty (da_nil fun Hf H σ k vs f rr c => by
    cases rr with
    | cons r1 rr =>
      cases rr with
      | cons r2 rr =>
        cases rr
        cases r2
        exact Or.inl ⟨_, _, _, _, r, rfl, .ty n, r1.tyX f.ex.exF e1, kit_ty e2, c _ _ Hf H Up.refl f (.bl _) q⟩))))
/-- isinstance(e, C), e a caught error -/
theorem de_isX {pn : PinP} {u : V} {cv : Value} (hu : ClsV u cv) (h : DE K b ρ ta fun x => ∃ a d C l r, x = .exc a d C l ∧ pn a d C ∧ PySem.W.kitOne K (.ref C) cv = some r ∧ Q (.bl r)) : DE K b ρ (tCB (rIsG K pn) (tCons ta (tCons (tC u) tNil))) Q := fun Hf H σ k fr c => by
  refine h Hf H σ _ fr fun v x Hf1 H1 e1 f1 r1 ⟨a, d, C, l, r, ex, hp, hk, q⟩ => ?_
  subst ex
  cases r1 with
  | exc h1 h2 h3 => exact Or.inr ⟨a, _, C, u, cv, r, rfl, hp, (fun dx e => by cases e; exact ⟨_, f1.ex.exF _ _ h1⟩), hu, hk, c _ _ Hf1 H1 e1 f1 (.bl _) q⟩
  | exc0 _ _ => exact Or.inr ⟨a, _, C, u, cv, r, rfl, hp, (fun dx e => nomatch e), hu, hk, c _ _ Hf1 H1 e1 f1 (.bl _) q⟩
/-- isinstance(x, (T1, T2)) -/
theorem de_isT2 {n m : String} (h : DE K b ρ ta fun x => ∃ t r1 r2, tyD x = some t ∧ kitB t n = some r1 ∧ kitB t m = some r2 ∧ Q (.bl (r1 || r2))) : DE K b ρ (tCB (rIsiT K) (tCons ta (tCons (tTup (tCons (tC (.ty n)) (tCons (tC (.ty m)) tNil))) tNil))) Q := fun Hf H σ k fr c => by
  refine h Hf H σ _ fr fun v x Hf1 H1 e1 f1 r1 ⟨t, a, d, g1, g2, g3, q⟩ => ?_
  refine ⟨by show 2 ≤ sizeLine; decide, fun p hp => ?_⟩
  have n' := f1.ex.exF.no hp
  refine ⟨v, p, [.ty n, .ty m], .type t, [.type n, .type m], (a || d), rfl, upd_same, .cons (.ty n) (.cons (.ty m) .nil), r1.tyX (f1.ex.exF.trans (Ex.new hp)) g1, ?_, c _ _ (upd Hf1 p (.tup [.ty n, .ty m])) _ (e1.trans (Up.new hp n')) (f1.put hp) (.bl _) q⟩
  refine kitAny_cons (kit_ty g2) (fun z => ?_) (fun z => by rw [z] <;> rfl)
  refine kitAny_cons (kit_ty g3) (fun y => ?_) (fun y => by rw [y, Bool.or_true])
  rw [z, y]
  exact kitAny_nil
/-! ### the field of a caught error -/
def tXe (K : PySem.W.Frag) (pn : PinP) (f : Str) (te : TE) : TE := fun σ H Q => te σ H fun x H1 => ∃ (a d C : Addr) (fs : List (Str × V)) (v : V), x = .ref a ∧ pn a (some d) C ∧ PySem.W.findIn K (.ref C) f = some none ∧ H1 d = some (.xd fs) ∧ fs.lookup f = some v ∧ Q v H1
theorem pe_xe {X : Cx} {pn : PinP} (hp : ∀ a d C, pn a d C → PnOk X.K X.pn a d C) {e : Expr} {f : Str} {pos : Pos} {te : TE} (he : PE X e te) (hb : attributeBase e f X.env (eval e X.env) = eval e X.env := by rfl) : PE X (.Attribute e f pos) (tXe X.K pn f te) := by
  refine ⟨fun pins s σ H Q I h => ?_⟩
  refine attr_of hb (thn (he.run pins s σ H _ I h) fun u s1 hh => ?_)
  obtain ⟨x, H1, I1, rx, a, d, C, fs, v, ex, hpn, hno, ed, l, q⟩ := hh
  obtain ⟨oe, hm, hz, ⟨vs, hv⟩, hC⟩ := hp a (some d) C hpn
  subst ex
  obtain rfl : u = Value.ref a := rx
  obtain ⟨hget, _⟩ := I1.pin (a, oe) (List.mem_append_left _ hm)
  have hx : ObjOk X.prog X.w H1 s1.heap d (.xd fs) := I1.hok d _ ed
  obtain ⟨mA, hns, hr⟩ := hx
  obtain ⟨o, ho, hl⟩ := lookIn_ns hns
  obtain ⟨u, hu, ru⟩ := RelO.some_of (v := v) (o := mA f) (by rw [← l]; exact hr f)
  have J : PySem.W.InstAt s1.heap a oe C (some o) := ⟨hget, hz.1, by unfold PySem.W.notCls; rw [hv] <;> rfl, by rw [hz.2]; exact ho⟩
  exact HandSPX.exc_get I1.kIn J hC.ga hC.gg hC.sb (PySem.W.findObj_own hC.hd hno rfl (by rw [hl, hu])) (handed_of ru) ⟨v, H1, I1.tok _, ru, q⟩
theorem lookup_rel : ∀ {xs : List (Str × V)} {ds : List (Str × D)} {f : Str} {d : D}, xs.map (·.1) = ds.map (·.1) → RpA K H (xs.map (·.2)) (ds.map (·.2)) → ds.lookup f = some d → ∃ v, xs.lookup f = some v ∧ Rp K H v d
  | [], [], _, _, _, _, h => by cases h
  | [], _ :: _, _, _, h, _, _ => by cases h
  | _ :: _, [], _, _, h, _, _ => by cases h
  | (k, v) :: xs, (k', d') :: ds, f, d, hk, r, h => by
    have hk' : k :: xs.map (·.1) = k' :: ds.map (·.1) := hk
    injection hk' with e1 e2
    subst e1
    have r' : RpA K H (v :: xs.map (·.2)) (d' :: ds.map (·.2)) := r
    cases r' with
    | cons q r =>
      rw [List.lookup_cons] at h ⊢
      by_cases e : (f == k) = true
      · rw [e] at h ⊢
        cases h
        exact ⟨v, rfl, q⟩
      · have e' : (f == k) = false := by simpa using e
        rw [e'] at h ⊢
        exact lookup_rel e2 r h
theorem de_xe {pn : PinP} {f : Str} (h : DE K b ρ te fun x => ∃ a d C l y, x = .exc a d C l ∧ pn a d C ∧ PySem.W.findIn K (.ref C) f = some none ∧ l.lookup f = some y ∧ Q y) : DE K b ρ (tXe K pn f te) Q := fun Hf H σ k fr c => by
  refine h Hf H σ _ fr fun v x Hf1 H1 e1 f1 r1 ⟨a, d, C, l, y, ex, hp, hn, hl, q⟩ => ?_
  subst ex
  cases r1 with
  | exc0 _ _ => cases hl
  | exc h1 h2 h3 =>
    obtain ⟨v', l', r'⟩ := lookup_rel h2 h3 hl
    exact ⟨a, _, C, _, v', rfl, hp, hn, f1.ex.exF _ _ h1, l', c _ _ Hf1 H1 e1 f1 r' q⟩
end
end G

set_option Elab.async false
set_option linter.all false
set_option maxRecDepth 100000
set_option maxHeartbeats 4000000
/-! DLoop: repr, is with truth values, targets, loops, comprehensions. -/
namespace G
open PySem PySem.Spec PyProof.Rows L2
/-! ### repr -/
def SysD (base : Heap) : Prop := ∃ o es ep, base.get? sysModules = some o ∧ o.data = .dict es ep
section
variable {X : Cx} {pins : Pins} {σ : L2.St} {H : Hp} {s : Shared}
theorem not_sys (hS : SysD X.base) (I : Inv X pins σ H s) {a : Addr} {o : HO} (h : H a = some o) : a ≠ sysModules := fun z => by
  obtain ⟨o', es, ep, e, _⟩ := hS
  have q := (I.bs sysModules o' e).2
  rw [← z, h] at q
  cases q
theorem pairs_read (I : Inv X pins σ H s) : ∀ {es : List DictEntry} {kvs : List (Key × Value)}, Pairs (mixKind X.prog X.w) es kvs → ∃ as, ReadsAll s.heap (es.map (·.key)) (kvs.map fun p => keyPy p.1) as ∧ as = []
  | _, _, .nil => ⟨[], .nil, rfl⟩
  | _, _, .cons (e := e) (kv := kv) h1 h2 h3 => by
    obtain ⟨as, r, ea⟩ := pairs_read I h3
    subst ea
    have h1' : keyIs kv.1 e.key = true := h1
    obtain ⟨k, v⟩ := kv
    rcases keyIs_shape h1' with ⟨i, t, e1, e2⟩ | ⟨x, t, e1, e2⟩
    · have e1' : k = Sum.inl i := e1
      subst e1'
      refine ⟨[] ++ [], ?_, rfl⟩
      show ReadsAll s.heap (e.key :: _) (PyData.int i :: _) _
      rw [e2]
      exact .cons (.int i t) r
    · have e1' : k = Sum.inr x := e1
      subst e1'
      refine ⟨[] ++ [], ?_, rfl⟩
      show ReadsAll s.heap (e.key :: _) (PyData.str x :: _) _
      rw [e2]
      exact .cons (.str x t) r
theorem pairs_val : ∀ {es : List DictEntry} {kvs : List (Key × Value)}, Pairs (mixKind X.prog X.w) es kvs → es.map (·.val) = kvs.map (·.2)
  | _, _, .nil => rfl
  | _, _, .cons h1 h2 h3 => by
    rw [List.map_cons, List.map_cons, pairs_val h3, h2]
theorem kv_split : ∀ {xs : List (Key × V)} {vs : List (Key × Value)}, KV xs vs → xs.map (·.1) = vs.map (·.1) ∧ Vals (xs.map (·.2)) (vs.map (·.2))
  | _, _, .nil => ⟨rfl, .nil⟩
  | _, _, .cons ⟨e, r⟩ t => by
    obtain ⟨a, b⟩ := kv_split t
    exact ⟨by rw [List.map_cons, List.map_cons, e, a], .cons r b⟩
theorem pyK_split : ∀ (l : List (Key × D)), (D.pyK l).map (·.1) = l.map (fun p => keyPy p.1) ∧ (D.pyK l).map (·.2) = D.pyL (l.map (·.2))
  | [] => ⟨by simp [D.pyK], by simp [D.pyK, D.pyL]⟩
  | (k, d) :: r => by
    obtain ⟨a, b⟩ := pyK_split r
    constructor
    · simp only [D.pyK, List.map_cons, a]
    · simp only [D.pyK, List.map_cons, b, D.pyL]
theorem plK_vals : ∀ (l : List (Key × D)), D.plK l = D.plL (l.map (·.2))
  | [] => by simp [D.plK, D.plL]
  | (k, d) :: r => by simp only [D.plK, D.plL, List.map_cons, plK_vals r]
mutual
theorem Rp.reads (hS : SysD X.base) (I : Inv X pins σ H s) : ∀ (d : D) (v : V) (u : Value), Rp X.K H v d → d.pl = true → RelV v u → ∃ as, Reads s.heap u d.py as ∧ sysModules ∉ as
  | .non, _, _, .non, _, r => by
    cases r
    exact ⟨[], by simpa only [D.py] using Reads.none, by simp⟩
  | .bl c, _, _, .bl _, _, r => by
    cases r
    exact ⟨[], by simpa only [D.py] using Reads.bool c, by simp⟩
  | .int i, _, _, .int _, _, r => by
    obtain ⟨t, rfl⟩ := r
    exact ⟨[], by simpa only [D.py] using Reads.int i t, by simp⟩
  | .str x, _, _, .str _, _, r => by
    obtain ⟨t, rfl⟩ := r
    exact ⟨[], by simpa only [D.py] using Reads.str x t, by simp⟩
  | .ty _, _, _, _, h, _ => by simp [D.pl] at h
  | .fn _, _, _, _, h, _ => by simp [D.pl] at h
  | .tup l, _, _, .tup h1 h2, h, r => by
    cases r
    obtain ⟨its, rv, ⟨o, ho, hc, n, hd⟩, _⟩ := I.tuple h1
    obtain ⟨as, hr, hn⟩ := RpA.reads hS I l _ its h2 (by simpa [D.pl] using h) rv
    exact ⟨as, by simp only [D.py]; exact Reads.tuple ho hc hd hr, hn⟩
  | .lst l, _, _, .lst h1 h2, h, r => by
    cases r
    have ne := not_sys hS I h1
    obtain ⟨its, rv, ⟨o, n, ho, hc, _, hd⟩, _⟩ := I.list (SqL.of h1)
    obtain ⟨as, hr, hn⟩ := RpA.reads hS I l _ its h2 (by simpa [D.pl] using h) rv
    exact ⟨_ :: as, by simp only [D.py]; exact Reads.list ho hc hd hr, fun z => (List.mem_cons.mp z).elim (fun y => ne y.symm) hn⟩
  | .dic l, _, _, .dic h1 h2 h3, h, r => by
    cases r
    have ne := not_sys hS I h1
    obtain ⟨_, _, vs, kv, o, es, ep, ho, hx, hd, _, hp, _⟩ := I.hok _ _ h1
    obtain ⟨k1, k2⟩ := kv_split kv
    obtain ⟨bs, hb, eb⟩ := pairs_read I hp
    subst eb
    obtain ⟨as, hr, hn⟩ := RpA.reads hS I (l.map (·.2)) _ (vs.map (·.2)) h3 (by rw [← plK_vals]; simpa [D.pl] using h) k2
    obtain ⟨p1, p2⟩ := pyK_split l
    refine ⟨_ :: [] ++ as, ?_, fun z => (List.mem_cons.mp z).elim (fun y => ne y.symm) fun y => hn (by simpa using y)⟩
    simp only [D.py]
    refine Reads.dict ho hx.1 hd ?_ ?_
    · rw [p1]
      have e : l.map (fun p => keyPy p.1) = vs.map (fun p => keyPy p.1) := by
        have q : ∀ (f : Key → PyData) (a : List (Key × D)) (b : List (Key × Value)), a.map (·.1) = b.map (·.1) → a.map (fun p => f p.1) = b.map (fun p => f p.1) := fun f a b e => by
          have e' := congrArg (List.map f) e
          rw [List.map_map, List.map_map] at e'
          exact e'
        exact q keyPy l vs (h2.symm.trans k1)
      rw [e]
      exact hb
    · rw [p2, pairs_val hp]
      exact hr
  | .obj _ _, _, _, _, h, _ => by simp [D.pl] at h
  | .exc _ _ _ _, _, _, _, h, _ => by simp [D.pl] at h
theorem RpA.reads (hS : SysD X.base) (I : Inv X pins σ H s) : ∀ (ds : List D) (vs : List V) (us : List Value), RpA X.K H vs ds → D.plL ds = true → Vals vs us → ∃ as, ReadsAll s.heap us (D.pyL ds) as ∧ sysModules ∉ as
  | [], _, _, .nil, _, r => by
    cases r
    exact ⟨[], by simp only [D.pyL]; exact ReadsAll.nil, by simp⟩
  | d :: ds, _, _, .cons h1 h2, h, r => by
    cases r with
    | cons r1 r2 =>
      simp only [D.plL, Bool.and_eq_true] at h
      obtain ⟨as, q1, n1⟩ := Rp.reads hS I d _ _ h1 h.1 r1
      obtain ⟨bs, q2, n2⟩ := RpA.reads hS I ds _ _ h2 h.2 r2
      exact ⟨as ++ bs, by simp only [D.pyL]; exact ReadsAll.cons q1 q2, fun z => (List.mem_append.mp z).elim n1 n2⟩
end
end
end G

set_option Elab.async false
set_option linter.all false
set_option maxRecDepth 100000
set_option maxHeartbeats 4000000
/-! DFlow: repr over data, is with truth values, targets, loops, try, raise. -/
namespace G
open PySem PySem.Spec PyProof.Rows L2
section
variable {K : PySem.W.Frag} {b : Bs} {ρ : List Sl} {ta tb te tc : TE} {tt tu : TT} {tr : TA} {Q : D → Prop} {H Hf : Hp}
/-! ### repr -/
def rRepr (K : PySem.W.Frag) : List V → Hp → VK → Prop := fun xs H Q => ∃ x d, xs = [x] ∧ Rp K H x d ∧ d.pl = true ∧ d.py.showable = true ∧ d.py.depth ≤ 60 ∧ d.py.shown.length ≤ sizeLine ∧ Q (.str d.py.shown) H
theorem call_repr {X : Cx} (hS : SysD X.base) (hg : X.A.guards = some []) (hu : X.A.units + 64 < cLine) : CallR X (.builtin "repr") (rRepr X.K) := by
  intro pins s σ H xs us Q I r h
  obtain ⟨x, d, rfl, rp, hp, hs, hd, hz, q⟩ := h
  obtain ⟨u, rfl, rx⟩ := vals1 r
  have byRef : ∀ a, u = Value.ref a → wpAny (model X.prog X.w) X.A (call (.builtin "repr") [u]) (EP X pins σ Q) X.xe s := fun a e => by
    obtain ⟨as, hr, hn⟩ := Rp.reads hS I d x u rp hp rx
    subst e
    refine repr_of_reads' hr hs (fun _ => hn) hg (by omega) (fun _ _ e => e) (fun h' u' tk hk => ?_) hz
    exact ⟨.str _, H, I.kept (t' := tk) hk, ⟨_, rfl⟩, q⟩
  cases rp with
  | non =>
    cases rx
    exact PySem.P.repr_of_none ⟨.str _, H, I.tok _, ⟨_, rfl⟩, by simpa [D.py, PyData.shown] using q⟩
  | bl c =>
    cases rx
    exact PySem.P.repr_of_bool ⟨.str _, H, I.tok _, ⟨_, rfl⟩, by simpa [D.py, PyData.shown] using q⟩
  | int i =>
    obtain ⟨t, rfl⟩ := rx
    exact PySem.P.repr_of_int (by simpa [D.py, PyData.showable] using hs) ⟨.str _, H, I.tok _, ⟨_, rfl⟩, by simpa [D.py, PyData.shown] using q⟩
  | str z =>
    obtain ⟨t, rfl⟩ := rx
    exact PySem.P.repr_of_str ⟨.str _, H, I.tok _, ⟨_, rfl⟩, by simpa [D.py, PyData.shown] using q⟩ (by simpa [D.py, PyData.shown] using hz)
  | ty _ => simp [D.pl] at hp
  | fn _ => simp [D.pl] at hp
  | tup _ _ => exact byRef _ rx
  | lst _ _ => exact byRef _ rx
  | dic _ _ _ => exact byRef _ rx
  | obj _ _ _ => simp [D.pl] at hp
  | exc _ _ _ => simp [D.pl] at hp
  | exc0 _ _ => simp [D.pl] at hp
def okR (d : D) : Prop := d.pl = true ∧ d.py.showable = true ∧ d.py.depth ≤ 60 ∧ d.py.shown.length ≤ 100000
theorem de_repr (h : DE K b ρ ta fun x => okR x ∧ Q (.str x.py.shown)) : DE K b ρ (tCB (rRepr K) (tCons ta tNil)) Q :=
  de_cb1 (h.imp fun x ⟨⟨h1, h2, h3, h4⟩, q⟩ Hf H σ k v f rv c => ⟨v, x, rfl, rv.up f.ex.exF, h1, h2, h3, small_line h4, c _ _ Hf H Up.refl f (.str _) q⟩)
/-! ### is True, is False -/
def rIsBl : R2 := fun x y H Q => ∃ c, y = .bl c ∧ Q (.bl (decide (x = .bl c))) H
theorem op_isBlV {X : Cx} : OpR X (compareOp .Is) rIsBl := by
  intro pins s σ H x y v u Q I rx ry h
  obtain ⟨c, rfl, q⟩ := h
  cases (show u = Value.bool c from ry)
  have e : (v == Value.bool c) = decide (x = V.bl c) := by
    cases x with
    | non => cases rx; rfl
    | bl d =>
      cases (show v = Value.bool d from rx)
      cases c <;> cases d <;> rfl
    | int _ => obtain ⟨t, rfl⟩ := rx; rfl
    | str _ => obtain ⟨t, rfl⟩ := rx; rfl
    | byt _ => obtain ⟨t, rfl⟩ := rx; rfl
    | flt _ => obtain ⟨t, rfl⟩ := rx; rfl
    | ref _ => cases rx; rfl
    | ty _ => cases rx; rfl
  have go : wpAny (model X.prog X.w) X.A (pure (Value.bool (v == Value.bool c))) (EP X pins σ Q) X.xe s := wpAny_pure ⟨.bl _, H, I, by rw [e]; rfl, q⟩
  cases x with
  | non => cases rx; exact go
  | bl d => cases (show v = Value.bool d from rx); exact go
  | int _ => obtain ⟨t, rfl⟩ := rx; exact go
  | str _ => obtain ⟨t, rfl⟩ := rx; exact go
  | byt _ => obtain ⟨t, rfl⟩ := rx; exact go
  | flt _ => obtain ⟨t, rfl⟩ := rx; exact go
  | ref _ => cases rx; exact go
  | ty _ => cases rx; exact go
def isB (x : D) (c : Bool) : Bool := match x with
  | .bl d => d == c
  | _ => false
theorem de_isBl {c : Bool} (h : DE K b ρ ta fun x => Q (.bl (isB x c))) : DE K b ρ (tOp rIsBl ta (tC (.bl c))) Q := fun Hf H σ k fr cc => by
  refine h Hf H σ _ fr fun v x Hf1 H1 e1 f1 r1 q => ?_
  refine ⟨c, rfl, ?_⟩
  have e : decide (v = V.bl c) = isB x c := by
    cases r1 <;> first | rfl | skip
    rename_i d
    cases c <;> cases d <;> rfl
  rw [e]
  exact cc _ _ Hf1 H1 e1 f1 (.bl _) q
/-! ### targets -/
def DG (K : PySem.W.Frag) (b : Bs) (ρ : List Sl) (g : TG) (x : D) (Q : List Sl → Prop) : Prop := ∀ (Hf H : Hp) (σ : L2.St) (v : V) (k : L2.St → Hp → Prop), Fm K b Hf H σ ρ → Rp K Hf v x →
  (∀ ρ' σ' Hf' H', Ex Hf Hf' → Fm K b Hf' H' σ' ρ' → Q ρ' → k σ' H') → g v σ H k
def DGs (K : PySem.W.Frag) (b : Bs) (ρ : List Sl) (g : TGs) (xs : List D) (Q : List Sl → Prop) : Prop := ∀ (Hf H : Hp) (σ : L2.St) (vs : List V) (k : L2.St → Hp → Prop), Fm K b Hf H σ ρ → RpA K Hf vs xs →
  (∀ ρ' σ' Hf' H', Ex Hf Hf' → Fm K b Hf' H' σ' ρ' → Q ρ' → k σ' H') → g vs σ H k
variable {x : D} {xs : List D} {R : List Sl → Prop} {g : TG} {gs : TGs}
theorem dg_name {i : Nat} (q : R (ρ.set i (.sh x))) : DG K b ρ (gName i) x R := fun Hf H σ v k fr r c => c _ _ Hf H (Ex.refl _) (fr.set r) q
theorem dgs_nil (q : R ρ) : DGs K b ρ gNil [] R := fun Hf H σ vs k fr r c => by
  cases r
  exact ⟨rfl, c _ _ Hf H (Ex.refl _) fr q⟩
theorem dgs_cons (h : DG K b ρ g x fun ρ' => DGs K b ρ' gs xs R) : DGs K b ρ (gCons g gs) (x :: xs) R := fun Hf H σ vs k fr r c => by
  cases r with
  | cons r1 r2 =>
    refine ⟨_, _, rfl, ?_⟩
    refine h Hf H σ _ _ fr r1 fun ρ' σ' Hf' H' e f q => ?_
    exact q Hf' H' σ' _ _ f (r2.up e) fun ρ2 σ2 Hf2 H2 e2 f2 q2 => c ρ2 σ2 Hf2 H2 (e.trans e2) f2 q2
theorem dg_tup {n : Nat} {l : List D} (hx : x = .tup l) (hn : l.length = n) (h : DGs K b ρ gs l R) : DG K b ρ (gTup K n gs) x R := fun Hf H σ v k fr r c => by
  subst hx
  cases r with
  | tup h1 h2 => exact ⟨_, _, rfl, fr.ex.exF.st h1, by rw [h2.len]; exact hn, h Hf H σ _ k fr h2 c⟩
variable {nx bk ct : List Sl → Prop} {rt : D → Prop} {ts tw tb' : TS}
theorem ds_asgG (h : DE K b ρ te fun d => DG K b ρ g d nx) : DS K b ρ (tAsg te g) nx rt bk ct := fun Hf H σ D fr n r bk ct =>
  h Hf H σ _ fr fun v d Hf' H' e f rp q => q Hf' H' σ v _ f rp fun ρ2 σ2 Hf2 H2 e2 f2 q2 => n ρ2 σ2 Hf2 H2 (e.1.trans e2) f2 q2
/-- a, b = x, y -/
theorem ds_par {i j : Nat} (h : DA K b ρ tr fun l => ∃ x y, l = [x, y] ∧ nx ((ρ.set i (.sh x)).set j (.sh y))) : DS K b ρ (tPar i j tr) nx rt bk ct := fun Hf H σ D fr n r bk ct => by
  refine h Hf H σ _ fr fun vs ds Hf1 H1 e1 f1 r1 ⟨x, y, e, q⟩ => ?_
  subst e
  cases r1 with
  | cons q1 r1 =>
    cases r1 with
    | cons q2 r1 =>
      cases r1
      exact ⟨_, _, rfl, n _ _ Hf1 H1 e1.1 ((f1.set q1).set q2) q⟩
/-- x op= e of ints -/
theorem ds_aug {i : Nat} {f : Int → Int → Int} {a : Int} (hi : ρ[i]? = some (.sh (.int a))) (h : DE K b ρ te fun y => ∃ j, y = .int j ∧ nx (ρ.set i (.sh (.int (f a j))))) : DS K b ρ (tAug i te (ipI f)) nx rt bk ct := fun Hf H σ D fr n r bk ct => by
  have hl : i < σ.length := by rw [fr.len]; exact (List.getElem?_eq_some_iff.mp hi).1
  have ho : σ[i]? = some σ[i] := List.getElem?_eq_getElem hl
  have z := fr.sl i _ _ ho hi
  generalize σ[i] = o at ho z
  match o, z with
  | none, z => exact z.elim
  | some v, z =>
    have ev := Rp.int_inv z
    subst ev
    refine ⟨.int a, ho, ?_⟩
    refine h Hf H σ _ fr fun v d Hf1 H1 e1 f1 r1 ⟨j, e, q⟩ => ?_
    subst e
    exact ⟨a, j, rfl, r1.int_inv, n _ _ Hf1 H1 e1.1 (f1.set (.int _)) q⟩
/-! ### loops -/
theorem ds_while (I : Nat → List Sl → Prop) (m : Nat) (h0 : I m ρ) (hs : ∀ m ρ', I m ρ' → DT K b ρ' tt fun c => if c = true then DS K b ρ' tb' (fun ρ2 => ∃ m', m' < m ∧ I m' ρ2) rt nx (fun ρ2 => ∃ m', m' < m ∧ I m' ρ2) else nx ρ') :
    DS K b ρ (tWhile tt tb') nx rt bk ct := fun Hf H σ D fr n r bk ct => by
  refine ⟨fun m σ' H' => ∃ ρ' Hf', Ex Hf Hf' ∧ Fm K b Hf' H' σ' ρ' ∧ I m ρ', ⟨m, ρ, Hf, Ex.refl _, fr, h0⟩, fun m σ' H' ⟨ρ', Hf', e, f, hI⟩ => ?_⟩
  refine hs m ρ' hI Hf' H' σ' _ f fun c Hf1 H1 e1 f1 q => ?_
  cases c with
  | true =>
    refine iteT ⟨fun σ2 H2 => ∃ m', m' < m ∧ ∃ ρ2 Hf2, Ex Hf Hf2 ∧ Fm K b Hf2 H2 σ2 ρ2 ∧ I m' ρ2, fun σ2 H2 z => z, ?_⟩
    refine (show DS K b ρ' tb' _ _ _ _ from q) Hf1 H1 σ' _ f1 (fun ρ2 σ2 Hf2 H2 e2 f2 ⟨m', hm, q2⟩ => ⟨m', hm, ρ2, Hf2, e.trans (e1.1.trans e2), f2, q2⟩) (fun v d Hf2 H2 e2 x2 r2 q2 => r v d Hf2 H2 (e.trans (e1.1.trans e2)) x2 r2 q2)
      (fun ρ2 σ2 Hf2 H2 e2 f2 q2 => n ρ2 σ2 Hf2 H2 (e.trans (e1.1.trans e2)) f2 q2) (fun ρ2 σ2 Hf2 H2 e2 f2 ⟨m', hm, q2⟩ => ⟨m', hm, ρ2, Hf2, e.trans (e1.1.trans e2), f2, q2⟩)
  | false => exact iteF (n ρ' σ' Hf1 H1 (e.trans e1.1) f1 q)
theorem ds_forN {lo : Int} {m : Nat} {wi : TI} {Hf1 H1 : Hp} {σ1 : L2.St} {D : Ends} (I : Nat → List Sl → Prop) (f1 : Fm K b Hf1 H1 σ1 ρ) (h0 : I 0 ρ) (hs : ∀ (i : Nat) ρ', i < m → I i ρ' → DG K b ρ' g (.int (lo + i)) fun ρ2 => DS K b ρ2 tb' (I (i + 1)) rt nx (I (i + 1))) (hd : ∀ ρ', I m ρ' → nx ρ')
    (n : ∀ ρ' σ' Hf' H', Ex Hf1 Hf' → Fm K b Hf' H' σ' ρ' → nx ρ' → D.nx σ' H') (r : ∀ v d Hf' H', Ex Hf1 Hf' → Exit K b Hf' H' → Rp K Hf' v d → rt d → D.rt v H') :
    ∃ W : Nat → Nat → L2.St → Hp → Prop, (∃ m, W 0 m σ1 H1) ∧ ∀ i m' σ H, W i m' σ H →
      ((Itr lo m).stop i H ∧ D.nx σ H) ∨ ((Itr lo m).go i H ∧ ∃ N : L2.St → Hp → Prop, (∀ σ' H', N σ' H' → ∃ m2, m2 < m' ∧ W (i + 1) m2 σ' H') ∧ ∀ x H', (Itr lo m).yld i H x H' → g x σ H' fun σ2 H2 => tb' { D with nx := N, ct := N, bk := D.nx } σ2 H2) := by
  refine for_range (fun i σ' H' => ∃ ρ' Hf', Ex Hf1 Hf' ∧ Fm K b Hf' H' σ' ρ' ∧ I i ρ') ⟨ρ, Hf1, Ex.refl _, f1, h0⟩ (fun i σ' H' hi ⟨ρ', Hf', e, f, hI⟩ => ?_) (fun σ' H' ⟨ρ', Hf', e, f, hI⟩ => n ρ' σ' Hf' H' e f (hd ρ' hI))
  refine hs i ρ' hi hI Hf' H' σ' _ _ f (.int _) fun ρ2 σ2 Hf2 H2 e2 f2 q => ?_
  exact q Hf2 H2 σ2 _ f2 (fun ρ3 σ3 Hf3 H3 e3 f3 q3 => ⟨ρ3, Hf3, e.trans (e2.trans e3), f3, q3⟩) (fun v d Hf3 H3 e3 x3 r3 q3 => r v d Hf3 H3 (e.trans (e2.trans e3)) x3 r3 q3)
    (fun ρ3 σ3 Hf3 H3 e3 f3 q3 => n ρ3 σ3 Hf3 H3 (e.trans (e2.trans e3)) f3 q3) (fun ρ3 σ3 Hf3 H3 e3 f3 q3 => ⟨ρ3, Hf3, e.trans (e2.trans e3), f3, q3⟩)
theorem ds_forR1 (h : DA K b ρ tr fun l => ∃ j : Int, l = [.int j] ∧ -(2 ^ 60) ≤ j ∧ j ≤ 2 ^ 60 ∧ ∃ I : Nat → List Sl → Prop, I 0 ρ ∧ (∀ (i : Nat) ρ', i < j.toNat → I i ρ' → DG K b ρ' g (.int i) fun ρ2 => DS K b ρ2 tb' (I (i + 1)) rt nx (I (i + 1))) ∧ ∀ ρ', I j.toNat ρ' → nx ρ') :
    DS K b ρ (tFor (iRng1 tr) g tb') nx rt bk ct := fun Hf H σ D fr n r bk ct => by
  refine h Hf H σ _ fr fun vs ds Hf1 H1 e1 f1 r1 ⟨j, e, l1, l2, I, h0, hs, hd⟩ => ?_
  subst e
  cases r1 with
  | cons q1 r1 =>
    cases r1
    have e := q1.int_inv
    subst e
    refine ⟨j, rfl, by omega, by omega, ?_⟩
    exact ds_forN (wi := iRng1 tr) (nx := nx) (rt := rt) I f1 h0 (fun i ρ' hi hI => by rw [Int.zero_add]; exact hs i ρ' hi hI) hd (fun ρ' σ' Hf' H' e f q => n ρ' σ' Hf' H' (e1.1.trans e) f q) (fun v d Hf' H' e x r' q => r v d Hf' H' (e1.1.trans e) x r' q)
theorem ds_forR2 (h : DA K b ρ tr fun l => ∃ i0 j : Int, l = [.int i0, .int j] ∧ -(2 ^ 60) ≤ i0 ∧ i0 ≤ 2 ^ 60 ∧ -(2 ^ 60) ≤ j ∧ j ≤ 2 ^ 60 ∧ ∃ I : Nat → List Sl → Prop, I 0 ρ ∧ (∀ (i : Nat) ρ', i < (j - i0).toNat → I i ρ' → DG K b ρ' g (.int (i0 + i)) fun ρ2 => DS K b ρ2 tb' (I (i + 1)) rt nx (I (i + 1))) ∧ ∀ ρ', I (j - i0).toNat ρ' → nx ρ') :
    DS K b ρ (tFor (iRng2 tr) g tb') nx rt bk ct := fun Hf H σ D fr n r bk ct => by
  refine h Hf H σ _ fr fun vs ds Hf1 H1 e1 f1 r1 ⟨i0, j, e, l1, l2, l3, l4, I, h0, hs, hd⟩ => ?_
  subst e
  cases r1 with
  | cons q1 r1 =>
    cases r1 with
    | cons q2 r1 =>
      cases r1
      have e := q1.int_inv
      subst e
      have e := q2.int_inv
      subst e
      refine ⟨i0, j, rfl, by omega, ?_⟩
      exact ds_forN (wi := iRng2 tr) (nx := nx) (rt := rt) I f1 h0 hs hd (fun ρ' σ' Hf' H' e f q => n ρ' σ' Hf' H' (e1.1.trans e) f q) (fun v d Hf' H' e x r' q => r v d Hf' H' (e1.1.trans e) x r' q)
/-- a list or a tuple, walked -/
def iSeq (K : PySem.W.Frag) (tl : TE) : TI := fun σ H R => tl σ H fun x H1 => ∃ a, x = .ref a ∧ (((∃ xs, SqL K H1 a xs) ∧ R (Itl K a) H1) ∨ ((∃ xs, SqT K H1 a xs) ∧ R (Itt K a) H1))
theorem pi_seq {X : Cx} {tg l : Expr} {tl : TE} (hl : PE X l tl) : PI X tg l (iSeq X.K tl) := by
  refine ⟨fun pins s σ H R I h => ?_⟩
  refine thn (hl.run pins s σ H _ I h) ?_
  intro v s1 z
  obtain ⟨x, H1, I1, r1, a, ex, q1⟩ := z
  subst ex
  cases r1
  have I2 : Inv X pins σ H1 { s1 with heap := s1.heap } := I1
  have fresh := I1.hok.fresh (Nat.le_refl s1.heap.objs.size)
  cases q1 with
  | inl q1 =>
    obtain ⟨⟨xs, hq⟩, q⟩ := q1
    obtain ⟨its, rv, p, _⟩ := I1.list hq
    refine wpAny_pyIter_list p.isList ?_
    refine ⟨_, [s1.heap.objs.size], _, _, H1, rfl, ?_, turn_list a _, ?_, ?_, q⟩
    · exact I1.kept (t' := s1.toks) fun b o e => Heap.get?_push_of_some _ e
    · exact ⟨_, Heap.get?_push_size _ rfl, rfl, rfl⟩
    · intro c hc
      rw [List.mem_singleton.mp hc]
      exact I1.fpOk (Nat.le_refl _) fresh
  | inr q1 =>
    obtain ⟨⟨xs, hq⟩, q⟩ := q1
    obtain ⟨its, rv, p, _⟩ := I1.tuple hq
    refine wpAny_pyIter_tuple (show s1.heap.IsTuple a its.toArray from p) ?_
    refine ⟨_, [s1.heap.objs.size], _, _, H1, rfl, ?_, turn_tuple a _, ?_, ?_, q⟩
    · exact I1.kept (t' := s1.toks) fun b o e => Heap.get?_push_of_some _ e
    · exact ⟨_, Heap.get?_push_size _ rfl, rfl, rfl⟩
    · intro c hc
      rw [List.mem_singleton.mp hc]
      exact I1.fpOk (Nat.le_refl _) fresh
theorem ds_forS (h : DE K b ρ ta fun x => ∃ l, seqD x = some l ∧ ∃ I : Nat → List Sl → Prop, I 0 ρ ∧ (∀ (i : Nat) d ρ', l[i]? = some d → I i ρ' → DG K b ρ' g d fun ρ2 => DS K b ρ2 tb' (I (i + 1)) rt nx (I (i + 1))) ∧ ∀ ρ', I l.length ρ' → nx ρ') :
    DS K b ρ (tFor (iSeq K ta) g tb') nx rt bk ct := fun Hf H σ D fr n r bk ct => by
  refine h Hf H σ _ fr fun v x Hf1 H1 e1 f1 r1 ⟨l, el, I, h0, hs, hd⟩ => ?_
  have turn : ∀ {xs : List V} (rx : RpA K Hf1 xs l) (i : Nat) (y : V) (σ' : L2.St) (H' : Hp), xs[i]? = some y → (∃ ρ' Hf', Ex Hf1 Hf' ∧ Fm K b Hf' H' σ' ρ' ∧ I i ρ') →
      g y σ' H' fun σ2 H2 => tb' { D with nx := fun σ3 H3 => ∃ ρ' Hf', Ex Hf1 Hf' ∧ Fm K b Hf' H3 σ3 ρ' ∧ I (i + 1) ρ', ct := fun σ3 H3 => ∃ ρ' Hf', Ex Hf1 Hf' ∧ Fm K b Hf' H3 σ3 ρ' ∧ I (i + 1) ρ', bk := D.nx } σ2 H2 := fun rx i y σ' H' hi ⟨ρ', Hf', e, f, hI⟩ => by
    obtain ⟨d, hd', rd⟩ := rx.at' hi
    refine hs i d ρ' hd' hI Hf' H' σ' _ _ f (rd.up e) fun ρ2 σ2 Hf2 H2 e2 f2 q => ?_
    exact q Hf2 H2 σ2 _ f2 (fun ρ3 σ3 Hf3 H3 e3 f3 q3 => ⟨ρ3, Hf3, e.trans (e2.trans e3), f3, q3⟩) (fun v d Hf3 H3 e3 x3 r3 q3 => r v d Hf3 H3 (e1.1.trans (e.trans (e2.trans e3))) x3 r3 q3)
      (fun ρ3 σ3 Hf3 H3 e3 f3 q3 => n ρ3 σ3 Hf3 H3 (e1.1.trans (e.trans (e2.trans e3))) f3 q3) (fun ρ3 σ3 Hf3 H3 e3 f3 q3 => ⟨ρ3, Hf3, e.trans (e2.trans e3), f3, q3⟩)
  have fin : ∀ σ' H', (∃ ρ' Hf', Ex Hf1 Hf' ∧ Fm K b Hf' H' σ' ρ' ∧ I l.length ρ') → D.nx σ' H' := fun σ' H' ⟨ρ', Hf', e, f, hI⟩ => n ρ' σ' Hf' H' (e1.1.trans e) f (hd ρ' hI)
  cases r1 with
  | tup h1 h2 =>
    cases el
    refine ⟨_, rfl, Or.inr ⟨⟨_, f1.ex.exF.st h1⟩, ?_⟩⟩
    exact for_tup (fun i σ' H' => ∃ ρ' Hf', Ex Hf1 Hf' ∧ Fm K b Hf' H' σ' ρ' ∧ I i ρ') ⟨ρ, Hf1, Ex.refl _, f1, h0⟩ (fun i σ' H' _ ⟨ρ', Hf', e, f, _⟩ => f.ex.exF.st (e.st h1)) (fun i y σ' H' hi p => turn h2 i y σ' H' hi p) (fun σ' H' p => fin σ' H' (by rw [← h2.len]; exact p))
  | lst h1 h2 =>
    cases el
    refine ⟨_, rfl, Or.inl ⟨⟨_, SqL.of (f1.ex.exF _ _ h1)⟩, ?_⟩⟩
    exact for_list (fun i σ' H' => ∃ ρ' Hf', Ex Hf1 Hf' ∧ Fm K b Hf' H' σ' ρ' ∧ I i ρ') ⟨ρ, Hf1, Ex.refl _, f1, h0⟩ (fun i σ' H' _ ⟨ρ', Hf', e, f, _⟩ => SqL.of (f.ex.exF _ _ (e _ _ h1))) (fun i y σ' H' hi p => turn h2 i y σ' H' hi p) (fun σ' H' p => fin σ' H' (by rw [← h2.len]; exact p))
  | non => cases el
  | bl _ => cases el
  | int _ => cases el
  | str _ => cases el
  | ty _ => cases el
  | fn _ => cases el
  | dic _ _ _ => cases el
  | obj _ _ _ => cases el
  | exc _ _ _ => cases el
  | exc0 _ _ => cases el
end
end G

set_option Elab.async false
set_option linter.all false
set_option maxRecDepth 100000
set_option maxHeartbeats 4000000
/-! DErr: own errors made, raised, caught, over data. -/
namespace G
open PySem PySem.Spec PyProof.Rows L2
/-! ### __init__ of an error that keeps its arguments -/
structure Inited (H H2 : Hp) (a C d : Addr) (fs : List (Str × V)) : Prop where
  obj : H2 a = some (exo a C (some d))
  dct : H2 d = some (exd d fs)
  new : H d = none
  ne : d ≠ a
  old : ∀ b, b ≠ a → b ≠ d → H2 b = H b
def spInit (C : Addr) (names : List Str) : Sp := fun vs H Q _ => ∃ (a : Addr) (ys : List V), vs = .ref a :: ys ∧ ys.length = names.length ∧ H a = some (exo a C none) ∧ ∀ d H2, Inited H H2 a C d (names.zip ys).reverse → Q .non H2
section
variable {K : PySem.W.Frag} {f : Str} {i : Nat} {y : V} {a C d : Addr} {σ : L2.St} {H H0 : Hp} {D : Ends} {fs : List (Str × V)} {ts : TS}
theorem ost_first (h0 : σ[0]? = some (some (.ref a))) (hi : σ[i]? = some (some y)) (T : OexC K C) (n : PySem.W.findIn K (.ref C) f = some none) (hH : H a = some (exo a C none)) (k : ∀ d H2, Inited H H2 a C d [(f, y)] → D.nx σ H2) :
    tOst K f (tVar 0) (tVar i) D σ H := by
  refine ⟨y, hi, _, h0, a, C, rfl, T, n, Or.inl ⟨hH, fun d hd ne => ?_⟩⟩
  refine k d _ { obj := upd_same, dct := ?_, new := hd, ne := ne, old := fun b h1 h2 => ?_ }
  · rw [upd_ne ne, upd_same]
  · rw [upd_ne h1, upd_ne h2]
theorem ost_next (h0 : σ[0]? = some (some (.ref a))) (hi : σ[i]? = some (some y)) (T : OexC K C) (n : PySem.W.findIn K (.ref C) f = some none) (J : Inited H0 H a C d fs) (hl : fs.length ≤ 900) (k : ∀ H2, Inited H0 H2 a C d ((f, y) :: fs) → D.nx σ H2) :
    tOst K f (tVar 0) (tVar i) D σ H := by
  refine ⟨y, hi, _, h0, a, C, rfl, T, n, Or.inr ⟨d, fs, J.obj, J.dct, hl, ?_⟩⟩
  refine k _ { obj := ?_, dct := upd_same, new := J.new, ne := J.ne, old := fun b h1 h2 => ?_ }
  · rw [upd_ne J.ne.symm]; exact J.obj
  · rw [upd_ne h2]; exact J.old b h1 h2
end
section
variable {P : Program} {w : World} {K : PySem.W.Frag} {mg : Str → Option Value} {base : Heap} {C fI : Addr} {fd : FuncData} {qual a1 a2 a3 f1 f2 f3 : Str} {st : Stmt}
/-- self.f1 = a1 -/
theorem init1 (F : Fun K "__init__" qual st fI fd) (S : FnScope (["self", a1] : List Str) (["self", a1] : List Str) (defScope st)) (T : OexC K C) (n1 : PySem.W.findIn K (.ref C) f1 = some none)
    (body : ∀ (cdv : Value) (A : Around) (outer : List Env) (s : Shared) (H : Hp) (E : XK), PSs (cxOf CX0 P w K mg base (["self", a1] : List Str) qual (defScope st) fI cdv A outer s H E).nox (defBody st) (tOst K f1 (tVar 0) (tVar 1))) : FnOk P w K mg base CX0 1 fI fd ["self", a1] (spInit C [f1]) := by
  refine F.ok S (fun vs H Q E h => ?_) (fun cdv A outer s H vs Q E hr h => ?_)
  · obtain ⟨a, ys, rfl, hl, _⟩ := h
    simpa using hl
  · obtain ⟨a, ys, rfl, hl, hH, k⟩ := h
    match ys, hl with
    | [y], _ =>
      refine ⟨_, body cdv A outer s H E, ?_⟩
      exact ost_first (C := C) rfl rfl T n1 hH fun d H2 J => k d H2 J
theorem init2 (F : Fun K "__init__" qual st fI fd) (S : FnScope (["self", a1, a2] : List Str) (["self", a1, a2] : List Str) (defScope st)) (T : OexC K C) (n1 : PySem.W.findIn K (.ref C) f1 = some none) (n2 : PySem.W.findIn K (.ref C) f2 = some none)
    (body : ∀ (cdv : Value) (A : Around) (outer : List Env) (s : Shared) (H : Hp) (E : XK), PSs (cxOf CX0 P w K mg base (["self", a1, a2] : List Str) qual (defScope st) fI cdv A outer s H E).nox (defBody st) (tSeq (tOst K f1 (tVar 0) (tVar 1)) (tOst K f2 (tVar 0) (tVar 2)))) : FnOk P w K mg base CX0 1 fI fd ["self", a1, a2] (spInit C [f1, f2]) := by
  refine F.ok S (fun vs H Q E h => ?_) (fun cdv A outer s H vs Q E hr h => ?_)
  · obtain ⟨a, ys, rfl, hl, _⟩ := h
    simpa using hl
  · obtain ⟨a, ys, rfl, hl, hH, k⟩ := h
    match ys, hl with
    | [y, z], _ =>
      refine ⟨_, body cdv A outer s H E, ?_⟩
      exact ost_first (C := C) rfl rfl T n1 hH fun d H2 J => ost_next (C := C) rfl rfl T n2 J (by show 1 ≤ 900; decide) fun H3 J3 => k d H3 J3
theorem init3 (F : Fun K "__init__" qual st fI fd) (S : FnScope (["self", a1, a2, a3] : List Str) (["self", a1, a2, a3] : List Str) (defScope st)) (T : OexC K C) (n1 : PySem.W.findIn K (.ref C) f1 = some none) (n2 : PySem.W.findIn K (.ref C) f2 = some none) (n3 : PySem.W.findIn K (.ref C) f3 = some none)
    (body : ∀ (cdv : Value) (A : Around) (outer : List Env) (s : Shared) (H : Hp) (E : XK), PSs (cxOf CX0 P w K mg base (["self", a1, a2, a3] : List Str) qual (defScope st) fI cdv A outer s H E).nox (defBody st) (tSeq (tOst K f1 (tVar 0) (tVar 1)) (tSeq (tOst K f2 (tVar 0) (tVar 2)) (tOst K f3 (tVar 0) (tVar 3))))) : FnOk P w K mg base CX0 1 fI fd ["self", a1, a2, a3] (spInit C [f1, f2, f3]) := by
  refine F.ok S (fun vs H Q E h => ?_) (fun cdv A outer s H vs Q E hr h => ?_)
  · obtain ⟨a, ys, rfl, hl, _⟩ := h
    simpa using hl
  · obtain ⟨a, ys, rfl, hl, hH, k⟩ := h
    match ys, hl with
    | [y, z, u], _ =>
      refine ⟨_, body cdv A outer s H E, ?_⟩
      exact ost_first (C := C) rfl rfl T n1 hH fun d H2 J => ost_next (C := C) rfl rfl T n2 J (by show 1 ≤ 900; decide) fun H3 J3 => ost_next (C := C) rfl rfl T n3 J3 (by show 2 ≤ 900; decide) fun H4 J4 => k d H4 J4
end

/-! ### raise -/
def tRaise (t : L2.St → Hp → XK → Prop) (W : WX) : TS := fun _ σ H => t σ H fun cls d H' => W cls d σ H'
theorem ps_raiseN {X : Cx} {W : WX} {e : Expr} {t : L2.St → Hp → XK → Prop} {pos : Pos} (hc : X.calm = true) (tk : Takes X W) (he : PMk X e t) : PS X (.Raise (some e) none pos) (tRaise t W) := ps_raise hc tk he
/-- C(), C a class without an __init__ of its own -/
def tMk0 (C : Addr) : L2.St → Hp → XK → Prop := fun _ H Q => Q (.ref C) none H
theorem pmk_none {X : Cx} {C : Addr} {x : Str} {p pos : Pos} (q : PySem.W.excIn X.K C [.type "ValueError", .type "Exception", .type "BaseException", .type "object"] "ValueError.__new__" = true) (gC : X.mg x = some (.ref C)) (kC : PySem.W.keepIn X.K (.ref C) = true) (r : Raises X (.ref C)) (hg : Gl X x)
    (hdb : (x == ("__debug__" : Str)) = false := by decide) : PMk X (.Call (.Name x p) [] [] pos) (tMk0 C) := by
  intro pins s σ H Q I h
  refine wpAny_Call_Name_kw (ld_glob I hg gC ?_ hdb)
  refine PySem.W.callWith_K0 I.kIn kC ?_
  obtain ⟨bm, N, nm, qn, bs, hdct, sn, sub, ab, col, dd, k0, k1, k2, k3, k5, mN, hC, hN, hni, T⟩ := exc_obj I.kIn q
  refine wpAny_call_exc_subT PySem.F.excBase_ValueError T hC hN hni (fun h' e hm => ?_) (by show 0 ≤ sizeLine; exact Nat.zero_le _)
  exact mk_of I hm r h (I.hok.gone hm.new)
section
variable {K : PySem.W.Frag} {b : Bs} {ρ : List Sl} {ta : TA} {nx bk ct : List Sl → Prop} {rt : D → Prop} {E : XK} {X : Addr → List (Str × D) → Prop} {C : Addr}
theorem RpA.rev {H : Hp} : ∀ {vs : List V} {ds : List D}, RpA K H vs ds → RpA K H vs.reverse ds.reverse
  | _, _, .nil => .nil
  | _, _, .cons q r => by
    rw [List.reverse_cons, List.reverse_cons]
    exact r.rev.app (.cons q .nil)
theorem zip_keys {α : Type} : ∀ (ns : List Str) (xs : List α), xs.length = ns.length → (ns.zip xs).map (·.1) = ns ∧ (ns.zip xs).map (·.2) = xs
  | [], [], _ => ⟨rfl, rfl⟩
  | n :: ns, x :: xs, h => by
    obtain ⟨h1, h2⟩ := zip_keys ns xs (by simpa using h)
    exact ⟨by rw [List.zip_cons_cons, List.map_cons, h1], by rw [List.zip_cons_cons, List.map_cons, h2]⟩
  | [], _ :: _, h => by simp at h
  | _ :: _, [], h => by simp at h
theorem ds_raise {names : List Str} (hE : EL K b ρ (fun _ => E) X) (h : DA K b ρ ta fun ds => ds.length = names.length ∧ names.length ≤ 10 ∧ X C (names.zip ds).reverse) : DS K b ρ (tRaise (tMkO C (spInit C names) [] ta) (fun cls d _ H => E cls d H)) nx rt bk ct := fun Hf H σ D fr n r bk ct => by
  refine h Hf H σ _ fr fun vs ds Hf1 H1 e1 f1 r1 ⟨hl, hz, q⟩ => ?_
  have hv : vs.length = names.length := by rw [r1.len]; exact hl
  refine ⟨by omega, fun a ha => ?_⟩
  refine ⟨a, vs, by rw [List.append_nil], hv, upd_same, fun d H2 J => ⟨rfl, d, _, J.obj, J.dct, ?_, ?_⟩⟩
  · have q := J.new
    rw [upd_ne J.ne] at q
    exact q
  · have hd : H1 d = none := by
      have q := J.new
      rw [upd_ne J.ne] at q
      exact q
    have eq : upd (del H2 a) d (.xd (names.zip vs).reverse) = upd H1 d (.xd (names.zip vs).reverse) := by
      funext x
      by_cases z : x = d
      · subst z; rw [upd_same, upd_same]
      · rw [upd_ne z, upd_ne z]
        by_cases y : x = a
        · subst y; rw [del_same]; exact ha.symm
        · rw [del_ne y, J.old x y z, upd_ne y]
    rw [eq]
    refine hE _ _ σ (f1.put hd) C (names.zip ds).reverse (some d) ⟨_, upd_same, ?_, ?_⟩ q
    · rw [List.map_reverse, List.map_reverse, (zip_keys names vs hv).1, (zip_keys names ds hl).1]
    · rw [List.map_reverse, List.map_reverse, (zip_keys names vs hv).2, (zip_keys names ds hl).2]
      exact (r1.up (Ex.new (f1.ex.exF.no hd))).rev
theorem ds_raise0 (hE : EL K b ρ (fun _ => E) X) (h : X C []) : DS K b ρ (tRaise (tMk0 C) (fun cls d _ H => E cls d H)) nx rt bk ct := fun Hf H σ D fr n r bk ct =>
  hE Hf H σ fr C [] none rfl h
end

/-! ### try .. except C as n -/
/-- b' is b, what stands now readable for good -/
def Sub (K : PySem.W.Frag) (b b' : Bs) : Prop := (∀ Hf H σ ρ, Fm K b' Hf H σ ρ → Fm K b Hf H σ ρ) ∧ (∀ Hf H, Exit K b' Hf H → Exit K b Hf H)
theorem Sub.refl {K : PySem.W.Frag} {b : Bs} : Sub K b b := ⟨fun _ _ _ _ h => h, fun _ _ h => h⟩
theorem EL.sub {K : PySem.W.Frag} {b b' : Bs} {ρ : List Sl} {E : L2.St → XK} {X : Addr → List (Str × D) → Prop} (s : Sub K b b') (h : EL K b ρ E X) : EL K b' ρ E X := fun Hf H σ fr => h Hf H σ (s.1 _ _ _ _ fr)
theorem Fm.rebase {K : PySem.W.Frag} {b : Bs} {Hf H : Hp} {σ : L2.St} {ρ : List Sl} (fr : Fm K b Hf H σ ρ) : Fm K { b with F := Hf } Hf H σ ρ ∧ Sub K b { b with F := Hf } ∧ (∀ Hf' H', Exit K { b with F := Hf } Hf' H' → Ex Hf Hf') := by
  have back : ∀ Hf' H', Exit K { b with F := Hf } Hf' H' → Exit K b Hf' H' := fun Hf' H' x => { exF := x.exF, ex0 := fr.ex.ex0.trans x.ex0, exB := x.exB, frz := fun a h1 h2 => x.frz a h1 (fr.ex.frz a h1 h2), pens := x.pens }
  refine ⟨{ ex := { exF := fr.ex.exF, ex0 := Ex.refl _, exB := fr.ex.exB, frz := fun a _ h => h, pens := fr.ex.pens }, len := fr.len, sl := fr.sl, mine := fr.mine, sep := fr.sep }, ⟨fun Hf' H' σ' ρ' f => ?_, back⟩, fun Hf' H' x => x.ex0⟩
  exact { ex := back _ _ f.ex, len := f.len, sl := f.sl, mine := f.mine, sep := f.sep }
def tTryAs (K : PySem.W.Frag) (c : Value) (i : Nat) (tb : WX → TS) (ts : Addr → Value → Option Addr → TS) (Wout : WX) : TS := fun D σ H => tb (wAs K c i ts Wout D) D σ H
theorem ds_try {K : PySem.W.Frag} {b : Bs} {ρ : List Sl} {nx bk ct : List Sl → Prop} {rt : D → Prop} {c : Value} {i : Nat} {tb : WX → TS} {ts : Addr → Value → Option Addr → TS} {Wout : WX} (Xb : Addr → List (Str × D) → Prop) (hi : ∀ d, ρ[i]? ≠ some (.ow d))
    (hb : ∀ (b' : Bs) (W : WX), Sub K b b' → EL K b' ρ (fun σ => WE W σ) Xb → DS K b' ρ (tb W) nx rt bk ct)
    (hs : ∀ (b' : Bs) (C : Addr) (fs : List (Str × D)), Sub K b b' → Xb C fs → PySem.W.exmOne K (.ref C) c = some true ∧ ∀ (a : Addr) (d : Option Addr), DS K b' (ρ.set i (.sh (.exc a d C fs))) (ts a (.ref C) d) (fun ρ2 => nx (ρ2.set i .no)) rt (fun ρ2 => bk (ρ2.set i .no)) (fun ρ2 => ct (ρ2.set i .no))) :
    DS K b ρ (tTryAs K c i tb ts Wout) nx rt bk ct := fun Hf H σ D fr n r bk ct => by
  obtain ⟨fr', sub, lo⟩ := fr.rebase
  refine hb { b with F := Hf } (wAs K c i ts Wout D) sub (fun Hf1 H1 σ1 f1 C fs d hx q => ?_) Hf H σ D fr' (fun ρ2 σ2 Hf2 H2 e2 f2 q2 => n ρ2 σ2 Hf2 H2 e2 (sub.1 _ _ _ _ f2) q2) (fun v d Hf2 H2 e2 x2 r2 q2 => r v d Hf2 H2 e2 (sub.2 _ _ x2) r2 q2)
    (fun ρ2 σ2 Hf2 H2 e2 f2 q2 => bk ρ2 σ2 Hf2 H2 e2 (sub.1 _ _ _ _ f2) q2) (fun ρ2 σ2 Hf2 H2 e2 f2 q2 => ct ρ2 σ2 Hf2 H2 e2 (sub.1 _ _ _ _ f2) q2)
  obtain ⟨hm, hs⟩ := hs { b with F := Hf } C fs sub q
  have e1 := lo _ _ f1.ex
  refine ⟨true, hm, fun _ a ha => ?_, fun z => nomatch z⟩
  refine hs a d Hf1 H1 _ _ (f1.set (hx.rp a C)) (fun ρ2 σ2 Hf2 H2 e2 f2 q2 => ?_) (fun v d' Hf2 H2 e2 x2 r2 q2 => r v d' Hf2 H2 (e1.trans e2) (sub.2 _ _ x2) r2 q2) (fun ρ2 σ2 Hf2 H2 e2 f2 q2 => ?_) (fun ρ2 σ2 Hf2 H2 e2 f2 q2 => ?_)
  · exact n _ _ Hf2 H2 (e1.trans e2) (sub.1 _ _ _ _ f2).drop q2
  · exact bk _ _ Hf2 H2 (e1.trans e2) (sub.1 _ _ _ _ f2).drop q2
  · exact ct _ _ Hf2 H2 (e1.trans e2) (sub.1 _ _ _ _ f2).drop q2
end G

set_option Elab.async false
set_option linter.all false
set_option maxRecDepth 100000
set_option maxHeartbeats 4000000
/-! DFacts: what the written part says of the package's error classes, and what follows. -/
namespace G
open PySem PySem.Spec PyProof.Rows L2
abbrev veT : List Value := [.type "ValueError", .type "Exception", .type "BaseException", .type "object"]
/-- an error class at C with the chain bm behind it -/
structure ErrK (K : PySem.W.Frag) (C : Addr) (bm : List Value) : Prop where
  cls : ∃ nm q N bs sn sub ab col dd k0 k1 k2 k3 k5, K.lookup C = some (excClassObj nm q C N bs bm true sn sub ab col dd k0 k1 k2 k3 k5 "ValueError.__new__")
  sa : PySem.W.findIn K (.ref C) "__setattr__" = some (some (.builtin "object.__setattr__"))
  ga : PySem.W.findIn K (.ref C) "__getattribute__" = some (some (.builtin "BaseException.__getattribute__"))
  gg : PySem.W.findIn K (.ref C) "__getattr__" = some none
  ka : PySem.W.findIn K (.ref C) "__class__" = some (some (.builtin "object.__class__"))
  kp : PySem.W.keepIn K (.ref C) = true
structure ErrB (K : PySem.W.Frag) : Prop where
  kn : PySem.W.specialIn K (.builtin "object.__class__") "__get__" = some (some (.builtin "getset_descriptor.__get__"))
  kt : PySem.W.takesIn K (.builtin "object.__class__") = some true
section
variable {K : PySem.W.Frag} {C G C' : Addr} {bm bm' : List Value}
theorem ErrK.data (h : ErrK K C bm) : ∃ cd, PySem.W.clsIn K C = some cd ∧ cd.mro = .ref C :: bm ∧ cd.hasDict = true := by
  obtain ⟨nm, q, N, bs, sn, sub, ab, col, dd, k0, k1, k2, k3, k5, e⟩ := h.cls
  refine ⟨{ name := nm, bases := bs, mro := .ref C :: bm, ns := N, qualname := q, hasDict := true, slotNames := sn, subclasses := sub, abstract := ab, collection := col, hasDel := false }, ?_, rfl, rfl⟩
  unfold PySem.W.clsIn
  rw [e]
theorem ErrK.ty (h : ErrK K C bm) : PySem.W.typeIn K (.ref C) = some (.type "type") := by
  obtain ⟨nm, q, N, bs, sn, sub, ab, col, dd, k0, k1, k2, k3, k5, e⟩ := h.cls
  show (K.lookup C).map (·.cls) = _
  rw [e]
  rfl
theorem ErrK.sub (h : ErrK K C bm) (c : Value) : PySem.W.subIn K (.ref C) c = some ((Value.ref C :: bm).contains c) := by
  obtain ⟨cd, e, m, _⟩ := h.data
  show PySem.W.mroIn K C c = _
  unfold PySem.W.mroIn
  rw [e]
  show (if cd.mro.isEmpty = true then none else some (cd.mro.contains c)) = _
  rw [m]
  rfl
theorem ErrK.dict (h : ErrK K C bm) : PySem.W.hasDictIn K C = true := by
  obtain ⟨cd, e, _, d⟩ := h.data
  unfold PySem.W.hasDictIn
  rw [e]
  simp [d]
theorem ErrK.xc (h : ErrK K C bm) (hb : ErrB K) (hv : PySem.HandSPX.refsVE bm = true) : XcC K C := by
  obtain ⟨cd, e, m, d⟩ := h.data
  have c1 : (Value.ref C :: bm).contains (.type "BaseException") = true := (PySem.HandSPX.refsVE_contains "BaseException" (.ref C :: bm) hv).trans (by decide +kernel)
  have c2 : (Value.ref C :: bm).contains (.type "object") = true := (PySem.HandSPX.refsVE_contains "object" (.ref C :: bm) hv).trans (by decide +kernel)
  refine { cl := by rw [e]; rfl, ga := h.ga, gg := h.gg, sb := by rw [h.sub, c1], hd := h.dict, ka := h.ka, kn := hb.kn, kt := hb.kt, km := ?_ }
  have := h.sub (.type "object")
  rw [c2] at this
  exact this
theorem ErrK.oex (h : ErrK K C bm) (hv : PySem.HandSPX.refsVE bm = true) : OexC K C := by
  have c1 : (Value.ref C :: bm).contains (.type "BaseException") = true := (PySem.HandSPX.refsVE_contains "BaseException" (.ref C :: bm) hv).trans (by decide +kernel)
  obtain ⟨nm, q, N, bs, sn, sub, ab, col, dd, k0, k1, k2, k3, k5, e⟩ := h.cls
  exact { cls := ⟨nm, q, N, bs, bm, sn, sub, ab, col, dd, k0, k1, k2, k3, k5, e, hv⟩, sa := h.sa, exC := by rw [h.sub, c1], tyC := h.ty, kC := h.kp }
theorem ErrK.raises (h : ErrK K C bm) (hv : PySem.HandSPX.refsVE bm = true) : PySem.W.subIn K (.ref C) (.type "BaseException") = some true := (h.oex hv).exC
/-- isinstance of an error of the class at C -/
theorem ErrK.kit (h : ErrK K C bm) (h' : ErrK K C' bm') : PySem.W.kitOne K (.ref C) (.ref C') = some ((Value.ref C :: bm).contains (.ref C')) := by
  unfold PySem.W.kitOne
  by_cases e : (Value.ref C == Value.ref C') = true
  · rw [if_pos e]
    have z : Value.ref C = Value.ref C' := beq_iff_eq.mp e
    rw [← z]
    simp
  · rw [if_neg e]
    obtain ⟨cd, e', _, _⟩ := h'.data
    show (if ((PySem.W.clsIn K C').isSome && PySem.W.typeIn K (.ref C') == some (.type "type")) = true then PySem.W.subIn K (.ref C) (.ref C') else none) = _
    rw [if_pos (by rw [e', h'.ty] <;> rfl), h.sub]
theorem ErrK.kitT (h : ErrK K C bm) (hv : PySem.HandSPX.refsVE bm = true) : PySem.W.kitOne K (.ref C) (.type "ValueError") = some true := by
  have c1 : (Value.ref C :: bm).contains (.type "ValueError") = true := (PySem.HandSPX.refsVE_contains "ValueError" (.ref C :: bm) hv).trans (by decide +kernel)
  unfold PySem.W.kitOne
  rw [if_neg (by simp)]
  show (if PySem.W.kitMeta "ValueError" = true then PySem.W.subIn K (.ref C) (.type "ValueError") else none) = _
  rw [if_pos (by decide +kernel), h.sub, c1]
theorem ErrK.exm (h : ErrK K C bm) (h' : ErrK K C' bm') (hv : PySem.HandSPX.refsVE bm' = true) : PySem.W.exmOne K (.ref C) (.ref C') = some ((Value.ref C :: bm).contains (.ref C')) := by
  obtain ⟨cd, e', _, _⟩ := h'.data
  show (if (PySem.W.subIn K (.ref C') (.type "BaseException") == some true) = true then (if ((PySem.W.clsIn K C').isSome && PySem.W.typeIn K (.ref C') == some (.type "type")) = true then PySem.W.subIn K (.ref C) (.ref C') else none) else none) = _
  rw [if_pos (by rw [h'.raises hv] <;> rfl), if_pos (by rw [e', h'.ty] <;> rfl), h.sub]
theorem contains_other (hne : C ≠ C') (hg : G ≠ C') : (Value.ref C :: .ref G :: veT).contains (.ref C') = false := by
  rw [List.contains_cons, List.contains_cons]
  have e1 : (Value.ref C' == Value.ref C) = false := by
    rw [beq_eq_false_iff_ne]
    exact fun z => hne (Value.ref.inj z).symm
  have e2 : (Value.ref C' == Value.ref G) = false := by
    rw [beq_eq_false_iff_ne]
    exact fun z => hg (Value.ref.inj z).symm
  rw [e1, e2]
  rfl
theorem contains_self : (Value.ref C :: .ref G :: veT).contains (.ref C) = true := by simp
theorem contains_base : (Value.ref C :: .ref G :: veT).contains (.ref G) = true := by simp
theorem vees : PySem.HandSPX.refsVE (.ref G :: veT) = true := by show PySem.HandSPX.refsVE veT = true; decide +kernel
theorem vees0 : PySem.HandSPX.refsVE veT = true := by decide +kernel
end
end G

set_option Elab.async false
set_option linter.all false
set_option maxRecDepth 100000
set_option maxHeartbeats 4000000
/-! DOps2: + of any kind, // and % of great ints, list(..), tuple(..), small dicts; the pen. -/
namespace G
open PySem PySem.Spec PyProof.Rows L2
def rAddS : R2 := fun x y H Q => ∃ i j, x = .str i ∧ y = .str j ∧ i.length + j.length ≤ sizeLine ∧ Q (.str (i ++ j)) H
def rAddG (K : PySem.W.Frag) : R2 := fun x y H Q => rI0 (fun i j => .int (i + j)) x y H Q ∨ rAddS x y H Q ∨ rCat x y H Q ∨ rCatT K x y H Q
theorem op_addG {X : Cx} : OpR X (binaryOp .Add) (rAddG X.K) := op_add.or ((show OpR X (binaryOp .Add) rAddS from op_add_str).or (op_cat.or op_catT))
def CDivA (_ j : Int) : Prop := j ≠ 0 ∧ j.natAbs.log2 < 9000
theorem op_fdivG {X : Cx} : OpR X (binaryOp .FloorDiv) (rI CDivA fun i j => .int (i.fdiv j)) := opI fun _ _ _ _ _ _ _ hc q => floordiv_int hc.1 q (.inl (PyProof.noPylong_of_log2 hc.2))
theorem op_mulG {X : Cx} : OpR X (binaryOp .Mult) (rI IntMulOk fun i j => .int (i * j)) := opI fun _ _ _ _ _ _ _ hc q => mul_int q hc
theorem mul_small {i j : Int} (h : CMul i j) : IntMulOk i j := h.ok
theorem mul_wide {i j : Int} (h : CMulW i j) : IntMulOk i j := h.ok
section
variable {K : PySem.W.Frag} {b : Bs} {ρ : List Sl} {ta tb te tc : TE} {tr : TA} {Q : D → Prop}
theorem DE.orL {r r' : R2} (h : DE K b ρ (tOp r ta tb) Q) : DE K b ρ (tOp (fun x y H Q => r x y H Q ∨ r' x y H Q) ta tb) Q → True := fun _ => trivial
theorem de_addI (h : DE K b ρ ta fun x => DE K b ρ tb fun y => ∃ i j, x = .int i ∧ y = .int j ∧ Q (.int (i + j))) : DE K b ρ (tOp (rAddG K) ta tb) Q :=
  de_op (h.imp fun x hx => hx.imp fun y ⟨i, j, e1, e2, q⟩ Hf H σ k v u f rv ru c => by
    subst e1; subst e2
    exact Or.inl ⟨i, j, rv.int_inv, ru.int_inv, c _ _ Hf H Up.refl f (.int _) q⟩)
theorem de_addS (h : DE K b ρ ta fun x => DE K b ρ tb fun y => ∃ i j, x = .str i ∧ y = .str j ∧ i.length + j.length ≤ 100000 ∧ Q (.str (i ++ j))) : DE K b ρ (tOp (rAddG K) ta tb) Q :=
  de_op (h.imp fun x hx => hx.imp fun y ⟨i, j, e1, e2, hz, q⟩ Hf H σ k v u f rv ru c => by
    subst e1; subst e2
    exact Or.inr (Or.inl ⟨i, j, rv.str_inv, ru.str_inv, small_line hz, c _ _ Hf H Up.refl f (.str _) q⟩))
theorem dn_addL {R : List D → Prop} (h : DE K b ρ ta fun x => DE K b ρ tb fun y => ∃ l m, x = .lst l ∧ y = .lst m ∧ l.length + m.length ≤ 16000 ∧ R (l ++ m)) : DN K b ρ (tOp (rAddG K) ta tb) R := fun Hf H σ k fr c => by
  refine h Hf H σ _ fr fun v x Hf1 H1 e1 f1 r1 q1 => ?_
  refine q1 Hf1 H1 σ _ f1 fun u y Hf2 H2 e2 f2 r2 ⟨l, m, ex, ey, hz, q⟩ => ?_
  subst ex
  subst ey
  cases r1 with
  | lst h1 a1 =>
    cases r2 with
    | lst h2 a2 =>
      refine Or.inr (Or.inr (Or.inl ⟨_, _, _, _, rfl, rfl, f2.ex.exF _ _ (e2.1 _ _ h1), f2.ex.exF _ _ h2, small_line (by rw [a1.len, a2.len]; omega), fun p hp => ?_⟩))
      exact c p _ _ Hf2 H2 (e1.trans e2) f2 hp ((a1.up e2.1).app a2) q
theorem dn_addL_own {R : List D → Prop} {i : Nat} {l : List D} (hi : ρ[i]? = some (.ow l)) (h : DE K b ρ tb fun y => ∃ m, y = .lst m ∧ l.length + m.length ≤ 16000 ∧ R (l ++ m)) : DN K b ρ (tOp (rAddG K) (tVar i) tb) R := fun Hf H σ k fr c => by
  obtain ⟨a, xs, ho, h1, h2, h3⟩ := own_at fr hi
  refine ⟨_, ho, ?_⟩
  refine h Hf H σ _ fr fun u y Hf2 H2 e2 f2 r2 ⟨m, ey, hz, q⟩ => ?_
  subst ey
  obtain ⟨a', ys, ho', k1, k2, k3⟩ := own_at f2 hi
  rw [ho] at ho'
  cases ho'
  cases r2 with
  | lst h4 a4 =>
    refine Or.inr (Or.inr (Or.inl ⟨_, _, _, _, rfl, rfl, k2, f2.ex.exF _ _ h4, small_line (by rw [k3.len, a4.len]; omega), fun p hp => ?_⟩))
    exact c p _ _ Hf2 H2 e2 f2 hp (k3.app a4) q
theorem de_addT (h : DE K b ρ ta fun x => DE K b ρ tb fun y => ∃ l m, x = .tup l ∧ y = .tup m ∧ l ≠ [] ∧ l.length + m.length ≤ 16000 ∧ Q (.tup (l ++ m))) : DE K b ρ (tOp (rAddG K) ta tb) Q := fun Hf H σ k fr c => by
  refine h Hf H σ _ fr fun v x Hf1 H1 e1 f1 r1 q1 => ?_
  refine q1 Hf1 H1 σ _ f1 fun u y Hf2 H2 e2 f2 r2 ⟨l, m, ex, ey, hn, hz, q⟩ => ?_
  subst ex
  subst ey
  cases r1 with
  | tup h1 a1 =>
    cases r2 with
    | tup h2 a2 =>
      refine Or.inr (Or.inr (Or.inr ⟨_, _, _, _, rfl, rfl, f2.ex.exF.st (e2.1.st h1), f2.ex.exF.st h2, fun z => hn ?_, small_line (by rw [a1.len, a2.len]; omega), fun z => ?_, fun z p hp => ?_⟩))
      · have q := a1.len
        rw [z] at q
        exact List.eq_nil_of_length_eq_zero q.symm
      · subst z
        cases a2
        rw [List.append_nil] at q
        exact c _ _ Hf2 H2 (e1.trans e2) f2 (.tup (e2.1.st h1) (a1.up e2.1)) q
      · have n := f2.ex.exF.no hp
        exact c _ _ _ _ ((e1.trans e2).trans (Up.new hp n)) (f2.put hp) (Rp.tup (SqT.of upd_same) (RpA.up (Ex.new n) ((a1.up e2.1).app a2))) q
/-! ### list(x), tuple(x) -/
def rListV (K : PySem.W.Frag) : List V → Hp → VK → Prop := fun xs H Q => ∃ p ys, xs = [.ref p] ∧ (SqL K H p ys ∨ SqT K H p ys) ∧ ∀ l, H l = none → Q (.ref l) (upd H l (.lst ys))
theorem call_listV {X : Cx} : CallR X (.type "list") (rListV X.K) := call_list_of
def rTupV (K : PySem.W.Frag) : List V → Hp → VK → Prop := fun xs H Q => ∃ p ys, xs = [.ref p] ∧ ((SqL K H p ys ∧ ∀ l, H l = none → Q (.ref l) (upd H l (.tup ys))) ∨ (SqT K H p ys ∧ Q (.ref p) H))
theorem call_tupleV {X : Cx} : CallR X (.type "tuple") (rTupV X.K) := call_tuple_of
theorem dn_list {R : List D → Prop} (h : DE K b ρ ta fun x => ∃ l, seqD x = some l ∧ R l) : DN K b ρ (tCB (rListV K) (tCons ta tNil)) R := fun Hf H σ k fr c => by
  refine h Hf H σ _ fr fun v x Hf1 H1 e1 f1 r1 ⟨l, el, q⟩ => ?_
  cases r1 with
  | tup h1 a1 =>
    cases el
    exact ⟨_, _, rfl, Or.inr (f1.ex.exF.st h1), fun p hp => c p _ _ Hf1 H1 e1 f1 hp a1 q⟩
  | lst h1 a1 =>
    cases el
    exact ⟨_, _, rfl, Or.inl (SqL.of (f1.ex.exF _ _ h1)), fun p hp => c p _ _ Hf1 H1 e1 f1 hp a1 q⟩
  | non => cases el
  | bl _ => cases el
  | int _ => cases el
  | str _ => cases el
  | ty _ => cases el
  | fn _ => cases el
  | dic _ _ _ => cases el
  | obj _ _ _ => cases el
  | exc _ _ _ => cases el
  | exc0 _ _ => cases el
theorem de_tuple (h : DE K b ρ ta fun x => ∃ l, seqD x = some l ∧ Q (.tup l)) : DE K b ρ (tCB (rTupV K) (tCons ta tNil)) Q := fun Hf H σ k fr c => by
  refine h Hf H σ _ fr fun v x Hf1 H1 e1 f1 r1 ⟨l, el, q⟩ => ?_
  cases r1 with
  | tup h1 a1 =>
    cases el
    exact ⟨_, _, rfl, Or.inr ⟨f1.ex.exF.st h1, c _ _ Hf1 H1 e1 f1 (.tup h1 a1) q⟩⟩
  | lst h1 a1 =>
    cases el
    refine ⟨_, _, rfl, Or.inl ⟨SqL.of (f1.ex.exF _ _ h1), fun p hp => ?_⟩⟩
    have n := f1.ex.exF.no hp
    exact c _ _ _ _ (e1.trans (Up.new hp n)) (f1.put hp) (Rp.tup (SqT.of upd_same) (RpA.up (Ex.new n) a1)) q
  | non => cases el
  | bl _ => cases el
  | int _ => cases el
  | str _ => cases el
  | ty _ => cases el
  | fn _ => cases el
  | dic _ _ _ => cases el
  | obj _ _ _ => cases el
  | exc _ _ _ => cases el
  | exc0 _ _ => cases el
/-- tuple of a list that is made for it -/
theorem de_tupN {l : List D → Prop} (h : DN K b ρ ta fun l => Q (.tup l)) : DE K b ρ (tCB (rTupV K) (tCons ta tNil)) Q :=
  de_tuple (de_new (by
    intro Hf H σ k fr c
    refine h Hf H σ k fr fun p xs ds Hf' H' e f hp r q => ?_
    exact c p xs ds Hf' H' e f hp r ⟨ds, rfl, q⟩))
/-- an object that is being filled -/
theorem Fm.lay {Hf H : Hp} {σ : L2.St} (fr : Fm K b Hf H σ ρ) {p : Addr} {o : HO} (hp : H p = none) : Fm K b Hf (upd H p o) σ ρ := by
  refine fr.step { exF := fr.ex.exF.trans (Ex.new hp), ex0 := fr.ex.ex0, exB := fr.ex.exB.trans (Ex.new hp), frz := fr.ex.frz, pens := fun q hq => ?_ } (Ex.refl _) fun a xs h1 h2 _ _ => ⟨h2, ?_⟩
  · obtain ⟨h1, h2, ob, h3, h4⟩ := fr.ex.pens q hq
    exact ⟨h1, h2, ob, (upd_ne (ne_of_none h3 hp)).trans h3, h4⟩
  · exact (upd_ne (ne_of_none h1 hp)).trans h1
theorem Fm.fill {Hf H : Hp} {σ : L2.St} (fr : Fm K b Hf H σ ρ) {p : Addr} {o1 o : HO} (hp : H p = some o1) (hn : ∀ xs, o1 ≠ .lst xs) (hf : Hf p = none) (hb : b.B p = none) (hm : p ∉ b.M) : Fm K b (upd Hf p o) (upd H p o) σ ρ := by
  have e := Ex.new (o := o) hf
  refine fr.step { exF := fr.ex.exF.up, ex0 := fr.ex.ex0.trans e, exB := fun a u h => ?_, frz := fun a h1 h2 => ?_, pens := fun q hq => ?_ } e fun a xs h1 h2 _ _ => ?_
  · rw [upd_ne (ne_of_none h hb)]; exact fr.ex.exB a u h
  · rw [upd_ne (fun z => h1 (by rw [z]; exact hb))]; exact fr.ex.frz a h1 h2
  · obtain ⟨h1, h2, ob, h3, h4⟩ := fr.ex.pens q hq
    have n : q ≠ p := fun z => hm (by rw [← z]; exact hq)
    exact ⟨by rw [upd_ne n]; exact h1, h2, ob, by rw [upd_ne n]; exact h3, h4.up e⟩
  · have n : a ≠ p := fun z => by
      rw [z, hp] at h1
      exact hn xs (Option.some.inj h1)
    rw [upd_ne n, upd_ne n]
    exact ⟨h2, h1⟩
/-- {'k': v} -/
theorem de_disp1 {x : Str} (h : DE K b ρ ta fun d => Q (.dic [(Sum.inr x, d)])) : DE K b ρ (tDisp [(tC (.str x), ta)]) Q := fun Hf H σ k fr c => by
  intro p hp
  have np := fr.ex.exF.no hp
  have nb := fr.ex.exB.no hp
  have nm : p ∉ b.M := fun z => by
    obtain ⟨_, _, o, h3, _⟩ := fr.ex.pens p z
    rw [hp] at h3; cases h3
  show ta σ (upd H p (.dK [])) _
  refine h Hf _ σ _ (fr.lay hp) fun v d Hf1 H1 e1 f1 r1 q => ?_
  obtain ⟨k1, k2⟩ := e1.2 p _ upd_same nm
  refine ⟨k1, [(Sum.inr x, v)], rfl, by show 1 ≤ 15; decide, ?_⟩
  have m : mergeK [] [((Sum.inr x : Key), v)] = [((Sum.inr x : Key), v)] := rfl
  rw [m]
  have n1 := k2 np
  refine c _ _ (upd Hf1 p (.dK [(Sum.inr x, v)])) _ ⟨e1.1.trans (Ex.new n1), fun a o ha hm => ?_⟩ (f1.fill k1 (fun xs z => by cases z) n1 nb nm) (Rp.dic upd_same rfl (.cons (r1.up (Ex.new n1)) .nil)) q
  have n : a ≠ p := ne_of_none ha hp
  obtain ⟨z1, z2⟩ := e1.2 a o (by rw [upd_ne n]; exact ha) hm
  rw [upd_ne n, upd_ne n]
  exact ⟨z1, z2⟩
end
end G

set_option Elab.async false
set_option linter.all false
set_option maxRecDepth 100000
set_option maxHeartbeats 4000000
/-! DPen: == and != of any kind; the pen: made, drawn from. -/
namespace G
open PySem PySem.Spec PyProof.Rows L2
def rEqG (K : PySem.W.Frag) : R2 := fun x y H Q => rEq x y H Q ∨ rEqD K x y H Q
def rNeG (K : PySem.W.Frag) : R2 := fun x y H Q => rNe x y H Q ∨ rNeD K x y H Q
theorem op_eqG {X : Cx} (hu : X.A.units + 64 < cLine) : OpR X (compareOp .Eq) (rEqG X.K) := op_eq.or (op_eqD hu)
theorem op_neG {X : Cx} (hu : X.A.units + 64 < cLine) : OpR X (compareOp .NotEq) (rNeG X.K) := op_ne.or (op_neD hu)
section
variable {K : PySem.W.Frag} {b : Bs} {ρ : List Sl} {ta tb te tc : TE} {tr : TA} {Q : D → Prop}
theorem de_eqI (h : DE K b ρ ta fun x => DE K b ρ tb fun y => ∃ i j, x = .int i ∧ y = .int j ∧ Q (.bl (decide (i = j)))) : DE K b ρ (tOp (rEqG K) ta tb) Q :=
  de_op (h.imp fun x hx => hx.imp fun y ⟨i, j, e1, e2, q⟩ Hf H σ k v u f rv ru c => by
    subst e1; subst e2
    have a := rv.int_inv; subst a
    have a := ru.int_inv; subst a
    refine Or.inl ⟨rfl, ?_⟩
    have e : decide (V.int i = V.int j) = decide (i = j) := by rw [dec_int]; exact (Bool.beq_eq_decide_eq i j)
    rw [e]
    exact c _ _ Hf H Up.refl f (.bl _) q)
theorem de_neI (h : DE K b ρ ta fun x => DE K b ρ tb fun y => ∃ i j, x = .int i ∧ y = .int j ∧ Q (.bl (!decide (i = j)))) : DE K b ρ (tOp (rNeG K) ta tb) Q :=
  de_op (h.imp fun x hx => hx.imp fun y ⟨i, j, e1, e2, q⟩ Hf H σ k v u f rv ru c => by
    subst e1; subst e2
    have a := rv.int_inv; subst a
    have a := ru.int_inv; subst a
    refine Or.inl ⟨rfl, ?_⟩
    have e : decide (V.int i = V.int j) = decide (i = j) := by rw [dec_int]; exact (Bool.beq_eq_decide_eq i j)
    rw [e]
    exact c _ _ Hf H Up.refl f (.bl _) q)
theorem dec_strV (i j : Str) : decide (V.str i = V.str j) = decide (i = j) := by
  by_cases e : i = j
  · subst e; simp
  · rw [decide_eq_false e, decide_eq_false (fun z => e (V.str.inj z))]
theorem de_eqS (h : DE K b ρ ta fun x => DE K b ρ tb fun y => ∃ i j, x = .str i ∧ y = .str j ∧ Q (.bl (decide (i = j)))) : DE K b ρ (tOp (rEqG K) ta tb) Q :=
  de_op (h.imp fun x hx => hx.imp fun y ⟨i, j, e1, e2, q⟩ Hf H σ k v u f rv ru c => by
    subst e1; subst e2
    have a := rv.str_inv; subst a
    have a := ru.str_inv; subst a
    refine Or.inl ⟨rfl, ?_⟩
    rw [dec_strV]
    exact c _ _ Hf H Up.refl f (.bl _) q)
theorem de_neS (h : DE K b ρ ta fun x => DE K b ρ tb fun y => ∃ i j, x = .str i ∧ y = .str j ∧ Q (.bl (!decide (i = j)))) : DE K b ρ (tOp (rNeG K) ta tb) Q :=
  de_op (h.imp fun x hx => hx.imp fun y ⟨i, j, e1, e2, q⟩ Hf H σ k v u f rv ru c => by
    subst e1; subst e2
    have a := rv.str_inv; subst a
    have a := ru.str_inv; subst a
    refine Or.inl ⟨rfl, ?_⟩
    rw [dec_strV]
    exact c _ _ Hf H Up.refl f (.bl _) q)
theorem de_eqA (h : DE K b ρ ta fun x => DE K b ρ tb fun y => okD x = true ∧ okD y = true ∧ Q (.bl (eqD x y))) : DE K b ρ (tOp (rEqG K) ta tb) Q :=
  de_op (h.imp fun x hx => hx.imp fun y ⟨o1, o2, q⟩ Hf H σ k v u f rv ru c => by
    obtain ⟨a1, a2, a3⟩ := okD_un o1
    obtain ⟨b1, b2, b3⟩ := okD_un o2
    exact Or.inr ⟨x.py, y.py, (rv.up f.ex.exF).dp a1 a2, (ru.up f.ex.exF).dp b1 b2, a3, b3, c _ _ Hf H Up.refl f (.bl _) q⟩)
theorem de_neA (h : DE K b ρ ta fun x => DE K b ρ tb fun y => okD x = true ∧ okD y = true ∧ Q (.bl (!eqD x y))) : DE K b ρ (tOp (rNeG K) ta tb) Q :=
  de_op (h.imp fun x hx => hx.imp fun y ⟨o1, o2, q⟩ Hf H σ k v u f rv ru c => by
    obtain ⟨a1, a2, a3⟩ := okD_un o1
    obtain ⟨b1, b2, b3⟩ := okD_un o2
    exact Or.inr ⟨x.py, y.py, (rv.up f.ex.exF).dp a1 a2, (ru.up f.ex.exF).dp b1 b2, a3, b3, c _ _ Hf H Up.refl f (.bl _) q⟩)
end
/-! ### the pen -/
def penL (c : Addr) (a d n f : Int) : List (Key × V) := [(Sum.inr "cells", .ref c), (Sum.inr "at", .int a), (Sum.inr "digits", .int d), (Sum.inr "count", .int n), (Sum.inr "fold", .int f)]
section
variable {c p : Addr} {a d n f : Int} {H Hf : Hp} {K : PySem.W.Frag} {σ : L2.St} {Q : VK} {D : Ends}
theorem v_cells : valV (penL c a d n f) (Sum.inr "cells") = some (.ref c) := rfl
theorem v_at : valV (penL c a d n f) (Sum.inr "at") = some (.int a) := rfl
theorem v_digits : valV (penL c a d n f) (Sum.inr "digits") = some (.int d) := rfl
theorem v_count : valV (penL c a d n f) (Sum.inr "count") = some (.int n) := rfl
theorem v_fold : valV (penL c a d n f) (Sum.inr "fold") = some (.int f) := rfl
theorem p_at (x : Int) : putK (penL c a d n f) (Sum.inr "at") (.int x) = penL c x d n f := rfl
theorem p_digits (x : Int) : putK (penL c a d n f) (Sum.inr "digits") (.int x) = penL c a x n f := rfl
theorem p_count (x : Int) : putK (penL c a d n f) (Sum.inr "count") (.int x) = penL c a d x f := rfl
theorem p_fold (x : Int) : putK (penL c a d n f) (Sum.inr "fold") (.int x) = penL c a d n x := rfl
theorem pen_get {x : Str} {v : V} (h0 : σ[0]? = some (some (.ref p))) (hv : valV (penL c a d n f) (Sum.inr x) = some v) (q : Q v (upd H p (.dK (penL c a d n f)))) : tDGet (tVar 0) (tC (.str x)) σ (upd H p (.dK (penL c a d n f))) Q :=
  ⟨_, h0, p, v, rfl, .inl ⟨_, Sum.inr x, .inl upd_same, rfl, hv.symm⟩, q⟩
theorem pen_put {x : Str} {te : TE} {v : V} {kvs : List (Key × V)} (h0 : σ[0]? = some (some (.ref p))) (hp : putK (penL c a d n f) (Sum.inr x) v = kvs)
    (h : ∀ R : VK, R v (upd H p (.dK (penL c a d n f))) → te σ (upd H p (.dK (penL c a d n f))) R) (k : D.nx σ (upd H p (.dK kvs))) : sDPut (tVar 0) (tC (.str x)) te D σ (upd H p (.dK (penL c a d n f))) := by
  refine h _ ⟨_, h0, p, _, rfl, .inl ⟨_, Sum.inr x, upd_same, rfl, by show 5 < sizeLine; decide, rfl⟩, ?_⟩
  rw [upd_upd, hp]
  exact k
end
end G
namespace G
open PySem PySem.Spec PyProof.Rows L2
/-- behind a store into the pen -/
theorem pen_exit {K : PySem.W.Frag} {Hf H : Hp} {M : List Addr} {p : Addr} {o : HO} (h1 : Ex Hf H) (h2 : ∀ p ∈ M, Hf p = none ∧ ∃ o, H p = some o ∧ PenO K Hf o) (hp : p ∈ M) (ho : PenO K Hf o) : Exit K ⟨fun a => if a ∈ M then none else H a, Hf, M⟩ Hf (upd H p o) := by
  refine { exF := fun a u e => ?_, ex0 := Ex.refl _, exB := fun a u e => ?_, frz := fun a _ h => h, pens := fun q hq => ⟨(h2 q hq).1, if_pos hq, ?_⟩ }
  · have n : a ≠ p := ne_of_none e (h2 p hp).1
    rw [upd_ne n]
    exact h1 a u e
  · have e' : (if a ∈ M then none else H a) = some u := e
    by_cases z : a ∈ M
    · rw [if_pos z] at e'; cases e'
    · rw [if_neg z] at e'
      rw [upd_ne (fun y => z (by rw [y]; exact hp))]
      exact e'
  · by_cases z : q = p
    · subst z
      exact ⟨o, upd_same, ho⟩
    · rw [upd_ne z]
      exact (h2 q hq).2
theorem penO_of {K : PySem.W.Frag} {Hf : Hp} {c : Addr} {ns : List Int} {a d n f : Int} (hs : SqL K Hf c (ns.map V.int)) (ha : 0 ≤ a) (hd : 0 ≤ d) (hd2 : d.natAbs < 2 ^ 1048577) (hf : 0 ≤ f) (hf2 : f < 2 ^ 31) (hn : ∀ n ∈ ns, Builtin.Int.intBits n ≤ 1048576) : PenO K Hf (.dK (penL c a d n f)) :=
  ⟨c, ns, a, d, n, f, rfl, hs, ha, hd, hd2, hf, hf2, hn⟩
theorem same_upd {H : Hp} {p : Addr} {o : HO} (h : H p = some o) : H = upd H p o := by
  funext a
  by_cases z : a = p
  · subst z; rw [upd_same, h]
  · rw [upd_ne z]
end G
namespace G
open PySem PySem.Spec PyProof.Rows L2
/-- an if whose ways meet -/
theorem if_cut {c : TT} {t u rest : TS} {D : Ends} {σ : L2.St} {H : Hp} (J : L2.St → Hp → Prop) (hj : ∀ σ' H', J σ' H' → rest D σ' H') (h : ∀ N : L2.St → Hp → Prop, (∀ σ' H', J σ' H' → N σ' H') → tIfS c t u { D with nx := N } σ H) : tSeq (tIfS c t u) rest D σ H := h (rest D) hj
theorem bits_lt {n : Int} {k : Nat} (h : Builtin.Int.intBits n ≤ k) : n.natAbs < 2 ^ k := by
  unfold Builtin.Int.intBits at h
  by_cases z : n = 0
  · subst z; exact Nat.two_pow_pos k
  · have e : (n == 0) = false := by simpa using z
    rw [e] at h
    have h' : n.natAbs.log2 + 1 ≤ k := h
    exact Nat.lt_of_lt_of_le Nat.lt_log2_self (Nat.pow_le_pow_right (by decide) h')
theorem fmod_lo (a : Int) {m : Int} (h : 0 < m) : 0 ≤ a.fmod m := by
  rw [Int.fmod_eq_emod_of_nonneg _ (Int.le_of_lt h)]
  exact Int.emod_nonneg _ (by omega)
theorem fmod_hi (a : Int) {m : Int} (h : 0 < m) : a.fmod m < m := by
  rw [Int.fmod_eq_emod_of_nonneg _ (Int.le_of_lt h)]
  exact Int.emod_lt_of_pos _ h
theorem fdiv_lo {a m : Int} (ha : 0 ≤ a) (h : 0 < m) : 0 ≤ a.fdiv m := by
  rw [Int.fdiv_eq_ediv_of_nonneg _ (Int.le_of_lt h)]
  exact Int.ediv_nonneg ha (Int.le_of_lt h)
theorem fdiv_abs {a m : Int} (ha : 0 ≤ a) (h : 0 < m) : (a.fdiv m).natAbs ≤ a.natAbs := by
  have h1 := fdiv_lo ha h
  have h2 : a.fdiv m ≤ a := by
    rw [Int.fdiv_eq_ediv_of_nonneg _ (Int.le_of_lt h)]
    exact Int.ediv_le_self _ ha
  omega
theorem atI_ints {ns : List Int} {i : Int} (h0 : 0 ≤ i) (h : i < ns.length) : ∃ n, n ∈ ns ∧ L2.atI (ns.map V.int) i = some (.int n) := by
  obtain ⟨k, rfl⟩ := Int.eq_ofNat_of_zero_le h0
  have hk : k < ns.length := by omega
  refine ⟨ns[k], List.getElem_mem hk, ?_⟩
  unfold L2.atI ixN
  rw [List.length_map, if_pos (by omega), if_pos (by omega)]
  show (ns.map V.int)[((k : Nat) : Int).toNat]? = _
  rw [Int.toNat_natCast, List.getElem?_map, List.getElem?_eq_getElem hk]
  rfl
end G

set_option Elab.async false
set_option linter.all false
set_option maxRecDepth 100000
set_option maxHeartbeats 4000000
/-! DLaw: a law's own end: from its promise to the row. -/
namespace G
open PySem PySem.Spec PyProof.Rows L2
/-- what a law promises: True, whatever the script -/
def spLaw (K : PySem.W.Frag) : Sp := fun vs H Q _ => ∃ (a : Addr) (ns : List Int), vs = [.ref a] ∧ SqL K H a (ns.map V.int) ∧ ns.length ≤ 63 ∧ (∀ z ∈ ns, Builtin.Int.intBits z ≤ 1048576) ∧ ∀ H', Q (.bl true) H'
theorem sys_of {h : Heap} (x : h.NoSeer) : SysD h := by
  obtain ⟨mm, ⟨o, es, ep, e, d, _⟩, _⟩ := x.mods
  exact ⟨o, es, ep, e, d⟩
section
variable {P : Program} {w : World} {K : PySem.W.Frag} {mg mb : Str → Option Value} {k : Nat} {fa a : Addr} {fd : FuncData} {s₁ : Shared} {vs : List Value} {ns : List Int}
/-- the law is called: the script alone may be tracked, and then it is known to its object -/
theorem law_in (KX : K.In s₁.heap) (hM : ∀ H : Hp, (∀ b, H b ≠ none → b = a) → (H a ≠ none → K.lookup a = none) → L2.Mod K mg (hidT s₁.heap H) ∧ SysD (hidT s₁.heap H)) (hg : s₁.gens = #[])
    (ha : s₁.heap.get? a = some { cls := .type "list", data := .seq vs.toArray }) (hi : IntsAre vs ns) (hl : ns.length ≤ 63) (hb : ∀ z ∈ ns, Builtin.Int.intBits z ≤ 1048576) (hr : Rm true k callerA)
    (F : ∀ base : Heap, L2.Mod K mg base → SysD base → FnG P w K mg base true k fa fd (["script"] : List Str) (fun _ => spLaw K)) (hbind : ∀ (s : Shared) (u : Value), BindsTo s fd ⟨[u], []⟩ [("script", u)]) :
    codeAny (model P w) callerA (.call (.ref fa) ⟨[.ref a], []⟩) (fun r s' => r = .ok (.ret (.bool true)) ∧ OldK s₁.heap s'.heap ∧ s'.os = s₁.os ∧ AllBare s'.gens) s₁ := by
  have rv := vals_ints hi
  have key : ∀ H : Hp, (∀ b, H b = none ∨ ∃ o xs, H b = some (.frz o (.lst xs))) → SqL K H a (ns.map V.int) → HOk P w H s₁.heap → (∀ b, H b ≠ none → b = a) → (H a ≠ none → K.lookup a = none) →
      codeAny (model P w) callerA (.call (.ref fa) ⟨[.ref a], []⟩) (fun r s' => r = .ok (.ret (.bool true)) ∧ OldK s₁.heap s'.heap ∧ s'.os = s₁.os ∧ AllBare s'.gens) s₁ := fun H hO hS hok hA hK => by
    obtain ⟨M, hsys⟩ := hM H hA hK
    have none_in : ∀ (b : Addr), b ∉ ([] : List Addr) := fun b h => nomatch h
    have e0 : Env0 P w K mg (hidT s₁.heap H) callerA [] s₁ H := { frames := rfl, mod := M, bs := fun b o e => of_hidT e, bsz := Nat.le_of_eq (hidT_size _ _), funs := trivial, frf := fun b h => (none_in b h).elim, hok := hok, bare := .of_eq hg }
    have go := (F _ M hsys).run callerA [] s₁ H ⟨[.ref a], []⟩ [.ref a] [.ref a] (fun v _ => v = .bl true) (fun _ _ _ => False) [] hr (fun p h => nomatch h) e0 (hbind s₁ (.ref a)) (.cons rfl .nil) ⟨a, ns, rfl, hS, hl, hb, fun _ => rfl⟩
    refine codeAny_mono go (fun r s' h => ?_)
    match r, h with
    | .error e, h =>
      obtain ⟨_, _, _, _, _, _, _, _, _, _, _, _, z⟩ := h
      exact z.elim
    | .ok .next, h => exact h.elim
    | .ok .brk, h => exact h.elim
    | .ok .cont, h => exact h.elim
    | .ok (.ret u), h =>
      obtain ⟨v, H', os, bare, un, hok', ru, q⟩ := h
      have q' : v = .bl true := q
      rw [q'] at ru
      have eu : u = Value.bool true := ru
      rw [eu]
      refine ⟨rfl, OldK.of_keep (fun b o e => ?_), os, bare⟩
      rcases hO b with z | ⟨ob, xs, z⟩
      · exact un.keep b o e z (none_in b) (none_in b)
      · obtain ⟨e1, _⟩ := hok b _ z
        obtain ⟨e2, _⟩ := hok' b _ (un.frzs b ob _ z)
        rw [e] at e1
        rw [Option.some.inj e1]
        exact e2
  cases hk : K.lookup a with
  | some o =>
    have e := KX a o hk
    rw [ha] at e
    have e' := Option.some.inj e
    subst e'
    refine key (fun _ => none) (fun _ => Or.inl rfl) (Or.inr ⟨_, vs.toArray, _, hk, rfl, rfl, rfl, ?_, ?_⟩) (fun _ _ z => nomatch z) (fun _ z => (z rfl).elim) (fun z => (z rfl).elim)
    · rw [List.size_toArray, hi.length]; exact Nat.le_trans hl (by decide)
    · rw [List.toList_toArray]; exact rv
  | none =>
    let ob : Obj := { cls := .type "list", data := .seq vs.toArray }
    have at_a : (fun b => if b = a then some (HO.frz ob (.lst (ns.map V.int))) else none : Hp) a = some (.frz ob (.lst (ns.map V.int))) := if_pos rfl
    have only : ∀ b, (fun b => if b = a then some (HO.frz ob (.lst (ns.map V.int))) else none : Hp) b ≠ none → b = a := fun b h => by
      by_cases z : b = a
      · exact z
      · exact (h (if_neg z)).elim
    refine key (fun b => if b = a then some (.frz ob (.lst (ns.map V.int))) else none) (fun b => ?_) (Or.inl (Or.inr ⟨ob, at_a⟩)) (fun b u e => ?_) only (fun _ => hk)
    · by_cases z : b = a
      · rw [z]; exact Or.inr ⟨_, _, at_a⟩
      · exact Or.inl (if_neg z)
    · have z := only b (by rw [e]; exact fun y => nomatch y)
      subst z
      rw [at_a] at e
      cases e
      exact ⟨ha, by rw [List.length_map]; exact Nat.le_trans hl (by decide), vs, _, rv, ha⟩
end
/-- the end of the row -/
theorem walkG {l : PySem.W.OpenLaw} {k : Nat} {q : Program} {loose : List Str} {XP : (Str → Option Value) → Heap → Prop} {YP : World → Heap → Prop} {d : DefRec} {K : Params → PySem.W.Frag}
    (hn : l.most = some 63) (hdf : d.params.defaults = []) (hi : importsNone q = true) (hr : Rm true k callerA) (hY : ∀ (w : World) (h : Heap), YP w h → (K w.params).In h)
    (F : ∀ (w : World) (mg : Str → Option Value) (fa : Addr) (h : Heap), (K w.params).In h → h.Ns mainGlobals mg → mg d.name = some (.ref fa) →
      ∃ fd : FuncData, (∀ (s : Shared) (u : Value), BindsTo s fd ⟨[u], []⟩ [("script", u)]) ∧ ∀ base : Heap, L2.Mod (K w.params) mg base → SysD base → FnG l.prog w (K w.params) mg base true k fa fd (["script"] : List Str) (fun _ => spLaw (K w.params))) :
    PySem.W.WalkO q loose XP YP l.row.toRowW d [] (fun f vs => PySem.call f vs) := by
  refine Att.attach_callB hn hdf fun w s₀ s₁ mg mb fa o pm cd doc a vs ns G Y ho hd hcd hmg hobj hints hlen hbits hg => ?_
  have KX := hY w _ Y
  obtain ⟨fd, hb, hF⟩ := F w mg fa _ KX G.T.g hmg
  have S := G.T.seer hi
  refine law_in KX (fun H hA hK => ?_) hg hobj hints hlen hbits hr hF hb
  have noA : ∀ {b : Addr} {o : Obj} {es : Array DictEntry} {ep : Nat}, s₁.heap.get? b = some o → o.data = .dict es ep → H b = none := fun {b o es ep} e dd => by
    cases z : H b with
    | none => rfl
    | some u =>
      have y := hA b (by rw [z]; exact fun y => nomatch y)
      rw [y, hobj] at e
      rw [← Option.some.inj e] at dd
      exact Data.noConfusion dd
  have nsK : ∀ {b : Addr} {m : Str → Option Value}, s₁.heap.Ns b m → (hidT s₁.heap H).Ns b m := fun {b m} x => by
    obtain ⟨o, es, ep, e, dd, r⟩ := x
    exact ⟨o, es, ep, hidT_get e (noA e dd), dd, r⟩
  have kin : (K w.params).In (hidT s₁.heap H) := fun b o e => by
    refine hidT_get (KX b o e) ?_
    cases z : H b with
    | none => rfl
    | some u =>
      have y := hA b (by rw [z]; exact fun y => nomatch y)
      rw [y] at e z
      rw [hK (by rw [z]; exact fun y => nomatch y)] at e
      cases e
  obtain ⟨mc, l1, l2⟩ := G.T.nolimit
  obtain ⟨so, ses, sep, se, sd⟩ := sys_of S
  exact ⟨{ kin := kin, glob := nsK G.T.g, blt := ⟨mb, nsK G.T.b, G.T.builtins⟩, nolimit := ⟨mc, nsK l1, l2⟩ }, so, ses, sep, hidT_get se (noA se sd), sd⟩
/-! ### a pen is made -/
def spPen (K : PySem.W.Frag) : Sp := fun vs H Q _ => ∃ (a : Addr) (ns : List Int), vs = [.ref a] ∧ SqL K H a (ns.map V.int) ∧ ns.length ≤ 63 ∧ (∀ z ∈ ns, Builtin.Int.intBits z ≤ 1048576) ∧
  ∀ p o Hf H', Ex Hf H' → Hf p = none → H' p = some o → PenO K Hf o → Q (.ref p) H'
/-- the rest of a law behind its pen -/
theorem law_rest {K : PySem.W.Frag} {t : TS} {n : Nat} {Q : VK} {p sc : Addr} {o : HO} {Hf H : Hp} (he : Ex Hf H) (hf : Hf p = none) (hp : H p = some o) (ho : PenO K Hf o)
    (h : ∀ b, DS K b (.no :: .pen :: List.replicate n .no) t (fun _ => False) (fun d => d = .bl true) (fun _ => False) (fun _ => False)) (q : ∀ H', Q (.bl true) H') :
    t { nx := fun _ H' => Q .non H', rt := Q } (some (.ref sc) :: some (.ref p) :: List.replicate n none) H := by
  refine h ⟨fun _ => none, fun _ => none, [p]⟩ Hf H _ _ ?_ (fun _ _ _ _ _ _ z => z.elim) (fun v d Hf' H' e x r z => ?_) (fun _ _ _ _ _ _ z => z.elim) (fun _ _ _ _ _ _ z => z.elim)
  · refine { ex := { exF := he, ex0 := fun a u e => (nomatch e), exB := fun a u e => (nomatch e), frz := fun a h1 _ => (h1 rfl).elim, pens := fun q hq => ?_ }, len := by simp, sl := fun i x s h1 h2 => ?_, mine := fun i a z => rfl, sep := fun i j a z _ => ?_ }
    · rw [List.mem_singleton.mp hq]
      exact ⟨hf, rfl, o, hp, ho⟩
    · match i with
      | 0 =>
        simp at h1 h2
        subst h1; subst h2
        trivial
      | 1 =>
        simp at h1 h2
        subst h1; subst h2
        exact ⟨p, List.mem_singleton.mpr rfl, rfl⟩
      | i + 2 =>
        simp at h1 h2
        rw [List.getElem?_replicate] at h2
        split at h2
        · cases h2
          match x with
          | none => trivial
          | some _ => trivial
        · cases h2
    · obtain ⟨⟨ds, h1⟩, _⟩ := z
      match i with
      | 0 => simp at h1
      | 1 => simp at h1
      | i + 2 =>
        simp at h1
        rw [List.getElem?_replicate] at h1
        split at h1 <;> cases h1
  · subst z
    rw [r.bl_inv]
    exact q H'
end G

set_option Elab.async false
set_option linter.all false
set_option maxRecDepth 100000
set_option maxHeartbeats 4000000
/-! DShow: how long a repr is; data that repr may be asked of. -/
namespace G
open PySem PySem.Spec PyProof.Rows L2
/-- all its signs have few digits -/
def Ok8 (s : Str) : Prop := ∀ c ∈ s.cps.toList, c < 16 ^ 8
theorem Ok8.app {a b : Str} (x : Ok8 a) (y : Ok8 b) : Ok8 (a ++ b) := fun c h => (mem_cps_append.mp h).elim (x c) (y c)
theorem ok8_char (c : Char) : c.toNat < 16 ^ 8 := c.val.toNat_lt
theorem ok8_hex (n c : Nat) : ∀ x ∈ List.replicate n 48 ++ (Nat.toDigits 16 c).map Char.toNat, x < 16 ^ 8 := fun x h => by
  rcases List.mem_append.mp h with h | h
  · rw [(List.mem_replicate.mp h).2]; decide
  · obtain ⟨ch, _, rfl⟩ := List.mem_map.mp h
    exact ok8_char ch
theorem ok8_int0 (i : Int) : Ok8 (PyData.int i).shown := fun c hc => by
  by_cases h : c < 16 ^ 8
  · exact h
  · exact (shown_int_free' (k := c) ⟨by omega, Or.inr (by omega)⟩ i hc).elim
theorem ok8_rc (q c : Nat) (hc : c < 16 ^ 8) : ∀ x ∈ Builtin.Str.reprChar q c, x < 16 ^ 8 := by
  have two : ∀ a b : Nat, a < 16 ^ 8 → b < 16 ^ 8 → ∀ x ∈ [a, b], x < 16 ^ 8 := fun a b ha hb x h => by
    rcases List.mem_cons.mp h with rfl | h
    · exact ha
    · rw [List.mem_singleton.mp h]; exact hb
  have app : ∀ (l m : List Nat), (∀ x ∈ l, x < 16 ^ 8) → (∀ x ∈ m, x < 16 ^ 8) → ∀ x ∈ l ++ m, x < 16 ^ 8 := fun l m a b x h => (List.mem_append.mp h).elim (a x) (b x)
  unfold Builtin.Str.reprChar
  dsimp only
  by_cases h1 : (c == q || c == 92) = true
  · rw [if_pos h1]; exact two _ _ (by decide) hc
  rw [if_neg h1]
  by_cases h2 : (c == 10) = true
  · rw [if_pos h2]; exact two _ _ (by decide) (by decide)
  rw [if_neg h2]
  by_cases h3 : (c == 13) = true
  · rw [if_pos h3]; exact two _ _ (by decide) (by decide)
  rw [if_neg h3]
  by_cases h4 : (c == 9) = true
  · rw [if_pos h4]; exact two _ _ (by decide) (by decide)
  rw [if_neg h4]
  by_cases h5 : Unicode.isPrintable c = true
  · rw [if_pos h5]; intro x h; rw [List.mem_singleton.mp h]; exact hc
  rw [if_neg h5]
  by_cases h6 : c < 256
  · rw [if_pos h6]; exact app _ _ (two _ _ (by decide) (by decide)) (ok8_hex _ _)
  rw [if_neg h6]
  by_cases h7 : c < 65536
  · rw [if_pos h7]; exact app _ _ (two _ _ (by decide) (by decide)) (ok8_hex _ _)
  · rw [if_neg h7]; exact app _ _ (two _ _ (by decide) (by decide)) (ok8_hex _ _)
theorem ok8_fold (q : Nat) : ∀ (l : List Nat) (acc : Array Nat), (∀ c ∈ l, c < 16 ^ 8) → (∀ c ∈ acc.toList, c < 16 ^ 8) → ∀ c ∈ (l.foldl (fun out c => out ++ (Builtin.Str.reprChar q c).toArray) acc).toList, c < 16 ^ 8
  | [], acc, _, h => h
  | c :: r, acc, h, ha => ok8_fold q r _ (fun d hd => h d (List.mem_cons_of_mem _ hd)) fun d hd => by
    rw [Array.toList_append] at hd
    rcases List.mem_append.mp hd with z | z
    · exact ha d z
    · exact ok8_rc q c (h c List.mem_cons_self) d z
theorem ok8_reprText {x : Str} (h : Ok8 x) : Ok8 (reprText x) := by
  have hq : reprQuote x < 16 ^ 8 := by
    unfold reprQuote
    split <;> decide
  intro c hc
  unfold reprText at hc
  rw [Array.toList_push, ← Array.foldl_toList] at hc
  rcases List.mem_append.mp hc with z | z
  · exact ok8_fold _ _ _ h (fun d hd => by rw [List.mem_singleton.mp hd]; exact hq) c z
  · rw [List.mem_singleton.mp z]; exact hq
theorem ok8_dec {s : Str} (h : (s.cps.toList.all fun c => decide (c < 16 ^ 8)) = true) : Ok8 s := fun c hc => of_decide_eq_true (List.all_eq_true.mp h c hc)
theorem ok8_text : ∀ (ts : List Str) (k : Nat) (acc : Str), Ok8 acc → (∀ t ∈ ts, Ok8 t) → Ok8 (textFrom k acc ts)
  | [], _, _, h, _ => h
  | t :: r, k, acc, h, ht => ok8_text r (k + 1) _ ((h.app (by split <;> exact ok8_dec (by decide +kernel))).app (ht t List.mem_cons_self)) fun u hu => ht u (List.mem_cons_of_mem _ hu)
theorem ok8_list {ts : List Str} (h : ∀ t ∈ ts, Ok8 t) : Ok8 (listText ts) := (ok8_text ts 0 _ (ok8_dec (by decide +kernel)) h).app (ok8_dec (by decide +kernel))
theorem ok8_join {sep : Str} (hs : Ok8 sep) : ∀ ts : List Str, (∀ t ∈ ts, Ok8 t) → Ok8 (Str.join sep ts)
  | [], _ => fun c h => by
    have h' : c ∈ ([] : List Nat) := h
    cases h'
  | [x], h => h x (List.mem_singleton.mpr rfl)
  | x :: y :: r, h => ((h x List.mem_cons_self).app hs).app (ok8_join hs (y :: r) fun t ht => h t (List.mem_cons_of_mem _ ht))
theorem ok8_tuple {ts : List Str} (h : ∀ t ∈ ts, Ok8 t) : Ok8 (tupleText ts) := by
  unfold tupleText
  refine ((ok8_dec (by decide +kernel)).app (ok8_join (ok8_dec (by decide +kernel)) ts h)).app ?_
  split <;> exact ok8_dec (by decide +kernel)
theorem ok8_dict {ts : List Str} (h : ∀ t ∈ ts, Ok8 t) : Ok8 (dictText ts) := ((ok8_dec (by decide +kernel)).app (ok8_join (ok8_dec (by decide +kernel)) ts h)).app (ok8_dec (by decide +kernel))
mutual
theorem ok8_shown {B : Nat} : ∀ d : PyData, d.leavesShort B = true → Ok8 d.shown
  | .none, _ => ok8_dec (by decide +kernel)
  | .bool b, _ => by cases b <;> exact ok8_dec (by decide +kernel)
  | .int i, _ => ok8_int0 i
  | .str x, h => by
    simp only [PyData.shown]
    exact ok8_reprText (x := x) (ok8_dec (by simpa only [PyData.leavesShort] using h))
  | .list xs, h => by
    simp only [PyData.shown]
    exact ok8_list (ok8_shownAll xs (by simpa only [PyData.leavesShort] using h))
  | .tuple xs, h => by
    simp only [PyData.shown]
    exact ok8_tuple (ok8_shownAll xs (by simpa only [PyData.leavesShort] using h))
  | .dict xs, h => by
    simp only [PyData.shown]
    exact ok8_dict (ok8_shownKv xs (by simpa only [PyData.leavesShort] using h))
theorem ok8_shownAll {B : Nat} : ∀ ds : List PyData, PyData.leavesShortAll B ds = true → ∀ t ∈ PyData.shownAll ds, Ok8 t
  | [], _, t, ht => by simp [PyData.shownAll] at ht
  | d :: r, h, t, ht => by
    simp only [PyData.leavesShortAll, Bool.and_eq_true] at h
    simp only [PyData.shownAll] at ht
    rcases List.mem_cons.mp ht with rfl | ht
    · exact ok8_shown d h.1
    · exact ok8_shownAll r h.2 t ht
theorem ok8_shownKv {B : Nat} : ∀ ds : List (PyData × PyData), PyData.leavesShortKv B ds = true → ∀ t ∈ PyData.shownKv ds, Ok8 t
  | [], _, t, ht => by simp [PyData.shownKv] at ht
  | (k, v) :: r, h, t, ht => by
    simp only [PyData.leavesShortKv, Bool.and_eq_true] at h
    simp only [PyData.shownKv] at ht
    rcases List.mem_cons.mp ht with rfl | ht
    · exact ((ok8_shown k h.1.1).app (ok8_dec (by decide +kernel))).app (ok8_shown v h.1.2)
    · exact ok8_shownKv r h.2 t ht
end
/-- data of depth at most n, of bulk at most w, its ints of at most 50 digits -/
structure Sm (n w : Nat) (d : D) : Prop where
  pl : d.pl = true
  sh : d.py.showable = true
  dp : d.py.depth ≤ n
  lv : d.py.leavesShort 50 = true
  bk : d.py.bulk ≤ w
structure SmL (n w : Nat) (d : List D) : Prop where
  pl : D.plL d = true
  sh : PyData.showableAll (D.pyL d) = true
  dp : PyData.depthAll (D.pyL d) ≤ n
  lv : PyData.leavesShortAll 50 (D.pyL d) = true
  bk : PyData.bulkAll (D.pyL d) ≤ w
section
variable {n m w v : Nat} {d : D} {l : List D}
theorem Sm.mono (h : Sm n w d) (a : n ≤ m) (b : w ≤ v) : Sm m v d := { pl := h.pl, sh := h.sh, dp := Nat.le_trans h.dp a, lv := h.lv, bk := Nat.le_trans h.bk b }
theorem Sm.len (h : Sm n w d) : d.py.shown.length ≤ 52 * w + 50 := by
  have a := PyData.shown_le_bulk 50 (by decide) d.py h.lv
  have b := h.bk
  omega
theorem Sm.ok (h : Sm n w d) (a : n ≤ 60) (b : w ≤ 1900) : okR d := ⟨h.pl, h.sh, Nat.le_trans h.dp a, by have q := h.len; omega⟩
theorem Sm.ok8 (h : Sm n w d) : Ok8 d.py.shown := ok8_shown d.py h.lv
theorem Sm.str {s : Str} (h : Ok8 s) (hl : s.length ≤ w) : Sm n w (.str s) :=
  { pl := by simp [D.pl], sh := by simp [D.py, PyData.showable], dp := by simp [D.py, PyData.depth], lv := by simp only [D.py, PyData.leavesShort]; exact List.all_eq_true.mpr fun c hc => decide_eq_true (h c hc), bk := by simp only [D.py, PyData.bulk]; exact hl }
theorem Sm.shown (h : Sm n w d) : Sm m (52 * w + 50) (.str d.py.shown) := Sm.str h.ok8 h.len
theorem SmL.nil : SmL n w [] := { pl := by simp [D.plL], sh := by simp [D.pyL, PyData.showableAll], dp := by simp [D.pyL, PyData.depthAll], lv := by simp [D.pyL, PyData.leavesShortAll], bk := by simp [D.pyL, PyData.bulkAll] }
theorem SmL.cons (h : Sm n w d) (r : SmL n v l) : SmL n (w + 1 + v) (d :: l) :=
  { pl := by simp only [D.plL, h.pl, r.pl] <;> rfl, sh := by simp only [D.pyL, PyData.showableAll, h.sh, r.sh] <;> rfl
    dp := by simp only [D.pyL, PyData.depthAll]; exact Nat.max_le.mpr ⟨h.dp, r.dp⟩, lv := by simp only [D.pyL, PyData.leavesShortAll, h.lv, r.lv] <;> rfl
    bk := by simp only [D.pyL, PyData.bulkAll]; have a := h.bk; have b := r.bk; omega }
theorem SmL.tup (h : SmL n w l) : Sm (n + 1) w (.tup l) :=
  { pl := by simpa only [D.pl] using h.pl, sh := by simpa only [D.py, PyData.showable] using h.sh, dp := by simp only [D.py, PyData.depth]; exact Nat.succ_le_succ h.dp, lv := by simpa only [D.py, PyData.leavesShort] using h.lv, bk := by simpa only [D.py, PyData.bulk] using h.bk }
theorem SmL.lst (h : SmL n w l) : Sm (n + 1) w (.lst l) :=
  { pl := by simpa only [D.pl] using h.pl, sh := by simpa only [D.py, PyData.showable] using h.sh, dp := by simp only [D.py, PyData.depth]; exact Nat.succ_le_succ h.dp, lv := by simpa only [D.py, PyData.leavesShort] using h.lv, bk := by simpa only [D.py, PyData.bulk] using h.bk }
theorem lenD_seq {x : D} {l : List D} (h : seqD x = some l) : lenD x = some l.length := by
  cases x <;> first | (cases h; rfl) | cases h
theorem atD_seq {x : D} {l : List D} (h : seqD x = some l) (i : Int) : atD x i = L2.atI l i := by
  cases x <;> first | (cases h; rfl) | cases h
theorem atI_nat {l : List D} {i : Int} (h0 : 0 ≤ i) (h : i < l.length) : ∃ d, d ∈ l ∧ L2.atI l i = some d := by
  obtain ⟨k, rfl⟩ := Int.eq_ofNat_of_zero_le h0
  have hk : k < l.length := by omega
  refine ⟨l[k], List.getElem_mem hk, ?_⟩
  unfold L2.atI ixN
  rw [if_pos (by omega), if_pos (by omega)]
  show l[((k : Nat) : Int).toNat]? = _
  rw [Int.toNat_natCast]
  exact List.getElem?_eq_getElem hk
end
end G

set_option Elab.async false
set_option linter.all false
set_option maxRecDepth 100000
set_option maxHeartbeats 4000000
/-! DTry: try .. except C as n, as read by ds_try. -/
namespace G
open PySem PySem.Spec PyProof.Rows L2
theorem ps_tryD {X : Cx} {x n : Str} {c : Value} {i : Nat} {body suite : List Stmt} {b₀ : Stmt} {np pos pos' : Pos} {tb : WX → TS} {ts : Addr → Value → Option Addr → TS} {Wout : WX}
    (hs : X.stack = X.env :: X.outer) (hf : X.env.frame = some X.env.locals) (hN : X.N.Nodup) (hi : X.N[i]? = some n) (hln : X.env.kindOf n = some .local) (hc : Names X x c) (tk : Takes X Wout)
    (hb : ∀ (W : WX) (pn : List (Addr × Obj)) (xe : Value → Shared → Prop), Takes (X.tr pn xe) W → PassesOwn (model X.prog X.w) X.A X.env xe → PSs (X.tr pn xe) body (tb W))
    (hsu : ∀ (a : Addr) (oe : Obj) (cls : Value) (d : Option Addr) (pn : List (Addr × Obj)), Zc cls d oe → (∃ vs, oe.data = .fields vs) → PSs (X.suite a ((a, oe) :: pn)) (b₀ :: suite) (ts a cls d)) :
    PS X (.Try body [.ExceptHandler (some (.Name x np)) (some n) (b₀ :: suite) pos'] [] [] pos) (tTryAs X.K c i tb ts Wout) := ps_try_as hs hf hN hi hln hc tk hb hsu
theorem pnp_of {K : PySem.W.Frag} {a a' C' : Addr} {d d' : Option Addr} {oe : Obj} {cls : Value} {pn : Pins} (hz : Zc cls d oe) (hf : ∃ vs, oe.data = .fields vs) (z : a' = a ∧ d' = d ∧ Value.ref C' = cls ∧ XcC K C') : PnOk K ((a, oe) :: pn) a' d' C' := by
  obtain ⟨z1, z2, z3, z4⟩ := z
  subst z1; subst z2; subst z3
  exact ⟨oe, List.mem_cons_self, hz, hf, z4⟩
/-- a, b, c = x, y, z -/
theorem ds_par3 {K : PySem.W.Frag} {b : Bs} {ρ : List Sl} {tr : TA} {nx bk ct : List Sl → Prop} {rt : D → Prop} {i j m : Nat} (h : DA K b ρ tr fun l => ∃ x y z, l = [x, y, z] ∧ nx (((ρ.set i (.sh x)).set j (.sh y)).set m (.sh z))) : DS K b ρ (tPar3 i j m tr) nx rt bk ct := fun Hf H σ D fr n r bk ct => by
  refine h Hf H σ _ fr fun vs ds Hf1 H1 e1 f1 r1 ⟨x, y, z, e, q⟩ => ?_
  subst e
  cases r1 with
  | cons q1 r1 =>
    cases r1 with
    | cons q2 r1 =>
      cases r1 with
      | cons q3 r1 =>
        cases r1
        exact ⟨_, _, _, rfl, n _ _ Hf1 H1 e1.1 (((f1.set q1).set q2).set q3) q⟩
/-- a law begins: its pen -/
theorem law_start {K : PySem.W.Frag} {t : TS} {n : Nat} {Q : VK} {sa : Addr} {ns : List Int} {H : Hp} {N : List Str} {E : L2.St → XK} (hN : L2.start N [.ref sa] = some (.ref sa) :: none :: List.replicate n none)
    (hs : SqL K H sa (ns.map V.int)) (hl : ns.length ≤ 63) (hb : ∀ z ∈ ns, Builtin.Int.intBits z ≤ 1048576)
    (h : ∀ b, DS K b (.no :: .pen :: List.replicate n .no) t (fun _ => False) (fun d => d = .bl true) (fun _ => False) (fun _ => False)) (q : ∀ H', Q (.bl true) H') :
    tSeq (tAsg (tCallG (fun _ => spPen K) [] E (tCons (tVar 0) tNil)) (gName 1)) t { nx := fun _ H' => Q .non H', rt := Q } (L2.start N [.ref sa]) H := by
  rw [hN]
  refine ⟨_, rfl, sa, ns, rfl, hs, hl, hb, fun p o Hf H' e1 e2 e3 e4 => ?_⟩
  exact law_rest (t := t) (n := n) e1 e2 e3 e4 h q
end G

set_option Elab.async false
set_option linter.all false
set_option maxRecDepth 100000
set_option maxHeartbeats 4000000
namespace Law
open PySem PySem.Spec PyProof.Rows L2 G
def top (i : Nat) : Stmt := PySem.Challenge.pw_genuspapers_k01_errors_as_told.main.body.getD i (.Pass ⟨0, 0, 0, 0⟩)
abbrev s__law_pen : Stmt := top 19
abbrev nm__law_pen : List Str := (["script", "fold", "cell"] : List Str)
theorem sc__law_pen : FnScope nm__law_pen (["script"] : List Str) (defScope s__law_pen) := ⟨rfl, rfl, rfl, by decide +kernel, rfl, by decide +kernel, by decide +kernel⟩
abbrev s__law_draw : Stmt := top 20
abbrev nm__law_draw : List Str := (["pen", "many", "cell", "digit", "blend"] : List Str)
theorem sc__law_draw : FnScope nm__law_draw (["pen", "many"] : List Str) (defScope s__law_draw) := ⟨rfl, rfl, rfl, by decide +kernel, rfl, by decide +kernel, by decide +kernel⟩
abbrev s__law_pick : Stmt := top 21
abbrev nm__law_pick : List Str := (["pen", "some"] : List Str)
theorem sc__law_pick : FnScope nm__law_pick (["pen", "some"] : List Str) (defScope s__law_pick) := ⟨rfl, rfl, rfl, by decide +kernel, rfl, by decide +kernel, by decide +kernel⟩
abbrev s__law_kinds : Stmt := top 22
abbrev nm__law_kinds : List Str := (["e", "found"] : List Str)
theorem sc__law_kinds : FnScope nm__law_kinds (["e"] : List Str) (defScope s__law_kinds) := ⟨rfl, rfl, rfl, by decide +kernel, rfl, by decide +kernel, by decide +kernel⟩
abbrev s__law_more_kinds : Stmt := top 23
abbrev nm__law_more_kinds : List Str := (["e", "found"] : List Str)
theorem sc__law_more_kinds : FnScope nm__law_more_kinds (["e"] : List Str) (defScope s__law_more_kinds) := ⟨rfl, rfl, rfl, by decide +kernel, rfl, by decide +kernel, by decide +kernel⟩
abbrev s__law_any_field : Stmt := top 24
abbrev nm__law_any_field : List Str := (["pen", "way"] : List Str)
theorem sc__law_any_field : FnScope nm__law_any_field (["pen"] : List Str) (defScope s__law_any_field) := ⟨rfl, rfl, rfl, by decide +kernel, rfl, by decide +kernel, by decide +kernel⟩
abbrev s__law_raised : Stmt := top 25
abbrev nm__law_raised : List Str := (["kind", "one", "two", "three"] : List Str)
theorem sc__law_raised : FnScope nm__law_raised (["kind", "one", "two", "three"] : List Str) (defScope s__law_raised) := ⟨rfl, rfl, rfl, by decide +kernel, rfl, by decide +kernel, by decide +kernel⟩
abbrev s__law_raised_too : Stmt := top 26
abbrev nm__law_raised_too : List Str := (["kind", "one", "two", "three"] : List Str)
theorem sc__law_raised_too : FnScope nm__law_raised_too (["kind", "one", "two", "three"] : List Str) (defScope s__law_raised_too) := ⟨rfl, rfl, rfl, by decide +kernel, rfl, by decide +kernel, by decide +kernel⟩
abbrev s__law_told : Stmt := top 27
abbrev nm__law_told : List Str := (["kind", "one", "two", "three", "found", "e"] : List Str)
theorem sc__law_told : FnScope nm__law_told (["kind", "one", "two", "three"] : List Str) (defScope s__law_told) := ⟨rfl, rfl, rfl, by decide +kernel, rfl, by decide +kernel, by decide +kernel⟩
abbrev s__law_due : Stmt := top 28
abbrev nm__law_due : List Str := (["kind", "one", "two", "three", "words"] : List Str)
theorem sc__law_due : FnScope nm__law_due (["kind", "one", "two", "three"] : List Str) (defScope s__law_due) := ⟨rfl, rfl, rfl, by decide +kernel, rfl, by decide +kernel, by decide +kernel⟩
abbrev s_law : Stmt := top 29
abbrev nm_law : List Str := (["script", "pen", "kind", "one", "two", "three", "told"] : List Str)
theorem sc_law : FnScope nm_law (["script"] : List Str) (defScope s_law) := ⟨rfl, rfl, rfl, by decide +kernel, rfl, by decide +kernel, by decide +kernel⟩
abbrev s_BadNumber_init : Stmt := inClass (top 2) 0
abbrev nm_BadNumber_init : List Str := (["self", "what", "number"] : List Str)
theorem sc_BadNumber_init : FnScope nm_BadNumber_init (["self", "what", "number"] : List Str) (defScope s_BadNumber_init) := ⟨rfl, rfl, rfl, by decide +kernel, rfl, by decide +kernel, by decide +kernel⟩
abbrev s_BadRow_init : Stmt := inClass (top 3) 0
abbrev nm_BadRow_init : List Str := (["self", "what", "row"] : List Str)
theorem sc_BadRow_init : FnScope nm_BadRow_init (["self", "what", "row"] : List Str) (defScope s_BadRow_init) := ⟨rfl, rfl, rfl, by decide +kernel, rfl, by decide +kernel, by decide +kernel⟩
abbrev s_BadTable_init : Stmt := inClass (top 4) 0
abbrev nm_BadTable_init : List Str := (["self", "what"] : List Str)
theorem sc_BadTable_init : FnScope nm_BadTable_init (["self", "what"] : List Str) (defScope s_BadTable_init) := ⟨rfl, rfl, rfl, by decide +kernel, rfl, by decide +kernel, by decide +kernel⟩
abbrev s_BadForm_init : Stmt := inClass (top 5) 0
abbrev nm_BadForm_init : List Str := (["self", "what"] : List Str)
theorem sc_BadForm_init : FnScope nm_BadForm_init (["self", "what"] : List Str) (defScope s_BadForm_init) := ⟨rfl, rfl, rfl, by decide +kernel, rfl, by decide +kernel, by decide +kernel⟩
abbrev s_BadBook_init : Stmt := inClass (top 6) 0
abbrev nm_BadBook_init : List Str := (["self", "what"] : List Str)
theorem sc_BadBook_init : FnScope nm_BadBook_init (["self", "what"] : List Str) (defScope s_BadBook_init) := ⟨rfl, rfl, rfl, by decide +kernel, rfl, by decide +kernel, by decide +kernel⟩
abbrev s_BadName_init : Stmt := inClass (top 7) 0
abbrev nm_BadName_init : List Str := (["self", "name"] : List Str)
theorem sc_BadName_init : FnScope nm_BadName_init (["self", "name"] : List Str) (defScope s_BadName_init) := ⟨rfl, rfl, rfl, by decide +kernel, rfl, by decide +kernel, by decide +kernel⟩
abbrev s_BadText_init : Stmt := inClass (top 8) 0
abbrev nm_BadText_init : List Str := (["self", "line", "word"] : List Str)
theorem sc_BadText_init : FnScope nm_BadText_init (["self", "line", "word"] : List Str) (defScope s_BadText_init) := ⟨rfl, rfl, rfl, by decide +kernel, rfl, by decide +kernel, by decide +kernel⟩
abbrev s_NoPlace_init : Stmt := inClass (top 9) 0
abbrev nm_NoPlace_init : List Str := (["self", "what", "index"] : List Str)
theorem sc_NoPlace_init : FnScope nm_NoPlace_init (["self", "what", "index"] : List Str) (defScope s_NoPlace_init) := ⟨rfl, rfl, rfl, by decide +kernel, rfl, by decide +kernel, by decide +kernel⟩
abbrev s_NoName_init : Stmt := inClass (top 10) 0
abbrev nm_NoName_init : List Str := (["self", "name"] : List Str)
theorem sc_NoName_init : FnScope nm_NoName_init (["self", "name"] : List Str) (defScope s_NoName_init) := ⟨rfl, rfl, rfl, by decide +kernel, rfl, by decide +kernel, by decide +kernel⟩
abbrev s_TakenName_init : Stmt := inClass (top 11) 0
abbrev nm_TakenName_init : List Str := (["self", "name"] : List Str)
theorem sc_TakenName_init : FnScope nm_TakenName_init (["self", "name"] : List Str) (defScope s_TakenName_init) := ⟨rfl, rfl, rfl, by decide +kernel, rfl, by decide +kernel, by decide +kernel⟩
abbrev s_Unlike_init : Stmt := inClass (top 12) 0
abbrev nm_Unlike_init : List Str := (["self", "what"] : List Str)
theorem sc_Unlike_init : FnScope nm_Unlike_init (["self", "what"] : List Str) (defScope s_Unlike_init) := ⟨rfl, rfl, rfl, by decide +kernel, rfl, by decide +kernel, by decide +kernel⟩
abbrev s_NotThere_init : Stmt := inClass (top 13) 0
abbrev nm_NotThere_init : List Str := (["self", "paper"] : List Str)
theorem sc_NotThere_init : FnScope nm_NotThere_init (["self", "paper"] : List Str) (defScope s_NotThere_init) := ⟨rfl, rfl, rfl, by decide +kernel, rfl, by decide +kernel, by decide +kernel⟩
abbrev s_TooMany_init : Stmt := inClass (top 14) 0
abbrev nm_TooMany_init : List Str := (["self", "what", "many", "limit"] : List Str)
theorem sc_TooMany_init : FnScope nm_TooMany_init (["self", "what", "many", "limit"] : List Str) (defScope s_TooMany_init) := ⟨rfl, rfl, rfl, by decide +kernel, rfl, by decide +kernel, by decide +kernel⟩
abbrev s_NotKept_init : Stmt := inClass (top 15) 0
abbrev nm_NotKept_init : List Str := (["self", "promise", "witness"] : List Str)
theorem sc_NotKept_init : FnScope nm_NotKept_init (["self", "promise", "witness"] : List Str) (defScope s_NotKept_init) := ⟨rfl, rfl, rfl, by decide +kernel, rfl, by decide +kernel, by decide +kernel⟩
structure Ad where
  f__law_pen : Addr
  d__law_pen : FuncData
  f__law_draw : Addr
  d__law_draw : FuncData
  f__law_pick : Addr
  d__law_pick : FuncData
  f__law_kinds : Addr
  d__law_kinds : FuncData
  f__law_more_kinds : Addr
  d__law_more_kinds : FuncData
  f__law_any_field : Addr
  d__law_any_field : FuncData
  f__law_raised : Addr
  d__law_raised : FuncData
  f__law_raised_too : Addr
  d__law_raised_too : FuncData
  f__law_told : Addr
  d__law_told : FuncData
  f__law_due : Addr
  d__law_due : FuncData
  f_law : Addr
  d_law : FuncData
  c_GenusError : Addr
  c_BadNumber : Addr
  i_BadNumber : Addr
  di_BadNumber : FuncData
  c_BadRow : Addr
  i_BadRow : Addr
  di_BadRow : FuncData
  c_BadTable : Addr
  i_BadTable : Addr
  di_BadTable : FuncData
  c_BadForm : Addr
  i_BadForm : Addr
  di_BadForm : FuncData
  c_BadBook : Addr
  i_BadBook : Addr
  di_BadBook : FuncData
  c_BadName : Addr
  i_BadName : Addr
  di_BadName : FuncData
  c_BadText : Addr
  i_BadText : Addr
  di_BadText : FuncData
  c_NoPlace : Addr
  i_NoPlace : Addr
  di_NoPlace : FuncData
  c_NoName : Addr
  i_NoName : Addr
  di_NoName : FuncData
  c_TakenName : Addr
  i_TakenName : Addr
  di_TakenName : FuncData
  c_Unlike : Addr
  i_Unlike : Addr
  di_Unlike : FuncData
  c_NotThere : Addr
  i_NotThere : Addr
  di_NotThere : FuncData
  c_TooMany : Addr
  i_TooMany : Addr
  di_TooMany : FuncData
  c_NotKept : Addr
  i_NotKept : Addr
  di_NotKept : FuncData
  c_NothingToUndo : Addr
  c_NothingToRedo : Addr
structure Tx (K : PySem.W.Frag) (mg : Str → Option Value) (a : Ad) : Prop where
  F__law_pen : Fun K "_law_pen" "_law_pen" s__law_pen a.f__law_pen a.d__law_pen
  g__law_pen : mg "_law_pen" = some (.ref a.f__law_pen)
  b__law_pen : L2.Binds K a.d__law_pen (["script"] : List Str) []
  F__law_draw : Fun K "_law_draw" "_law_draw" s__law_draw a.f__law_draw a.d__law_draw
  g__law_draw : mg "_law_draw" = some (.ref a.f__law_draw)
  b__law_draw : L2.Binds K a.d__law_draw (["pen", "many"] : List Str) []
  F__law_pick : Fun K "_law_pick" "_law_pick" s__law_pick a.f__law_pick a.d__law_pick
  g__law_pick : mg "_law_pick" = some (.ref a.f__law_pick)
  b__law_pick : L2.Binds K a.d__law_pick (["pen", "some"] : List Str) []
  F__law_kinds : Fun K "_law_kinds" "_law_kinds" s__law_kinds a.f__law_kinds a.d__law_kinds
  g__law_kinds : mg "_law_kinds" = some (.ref a.f__law_kinds)
  b__law_kinds : L2.Binds K a.d__law_kinds (["e"] : List Str) []
  F__law_more_kinds : Fun K "_law_more_kinds" "_law_more_kinds" s__law_more_kinds a.f__law_more_kinds a.d__law_more_kinds
  g__law_more_kinds : mg "_law_more_kinds" = some (.ref a.f__law_more_kinds)
  b__law_more_kinds : L2.Binds K a.d__law_more_kinds (["e"] : List Str) []
  F__law_any_field : Fun K "_law_any_field" "_law_any_field" s__law_any_field a.f__law_any_field a.d__law_any_field
  g__law_any_field : mg "_law_any_field" = some (.ref a.f__law_any_field)
  b__law_any_field : L2.Binds K a.d__law_any_field (["pen"] : List Str) []
  F__law_raised : Fun K "_law_raised" "_law_raised" s__law_raised a.f__law_raised a.d__law_raised
  g__law_raised : mg "_law_raised" = some (.ref a.f__law_raised)
  b__law_raised : L2.Binds K a.d__law_raised (["kind", "one", "two", "three"] : List Str) []
  F__law_raised_too : Fun K "_law_raised_too" "_law_raised_too" s__law_raised_too a.f__law_raised_too a.d__law_raised_too
  g__law_raised_too : mg "_law_raised_too" = some (.ref a.f__law_raised_too)
  b__law_raised_too : L2.Binds K a.d__law_raised_too (["kind", "one", "two", "three"] : List Str) []
  F__law_told : Fun K "_law_told" "_law_told" s__law_told a.f__law_told a.d__law_told
  g__law_told : mg "_law_told" = some (.ref a.f__law_told)
  b__law_told : L2.Binds K a.d__law_told (["kind", "one", "two", "three"] : List Str) []
  F__law_due : Fun K "_law_due" "_law_due" s__law_due a.f__law_due a.d__law_due
  g__law_due : mg "_law_due" = some (.ref a.f__law_due)
  b__law_due : L2.Binds K a.d__law_due (["kind", "one", "two", "three"] : List Str) []
  F_law : Fun K "law" "law" s_law a.f_law a.d_law
  g_law : mg "law" = some (.ref a.f_law)
  b_law : L2.Binds K a.d_law (["script"] : List Str) []
  n_ValueError : mg "ValueError" = none
  n_int : mg "int" = none
  n_isinstance : mg "isinstance" = none
  n_len : mg "len" = none
  n_list : mg "list" = none
  n_range : mg "range" = none
  n_repr : mg "repr" = none
  eb : ErrB K
  e_GenusError : ErrK K a.c_GenusError veT
  g_GenusError : mg "GenusError" = some (.ref a.c_GenusError)
  ne : [a.c_GenusError, a.c_BadNumber, a.c_BadRow, a.c_BadTable, a.c_BadForm, a.c_BadBook, a.c_BadName, a.c_BadText, a.c_NoPlace, a.c_NoName, a.c_TakenName, a.c_Unlike, a.c_NotThere, a.c_TooMany, a.c_NotKept, a.c_NothingToUndo, a.c_NothingToRedo].Nodup
  e_BadNumber : ErrK K a.c_BadNumber (.ref a.c_GenusError :: veT)
  g_BadNumber : mg "BadNumber" = some (.ref a.c_BadNumber)
  i_BadNumber : PySem.W.findIn K (.ref a.c_BadNumber) "__init__" = some (some (.ref a.i_BadNumber))
  ti_BadNumber : PySem.W.typeIn K (.ref a.i_BadNumber) = some (.type "function")
  Fi_BadNumber : Fun K "__init__" "BadNumber.__init__" s_BadNumber_init a.i_BadNumber a.di_BadNumber
  bi_BadNumber : L2.Binds K a.di_BadNumber (["self", "what", "number"] : List Str) []
  no_BadNumber_what : PySem.W.findIn K (.ref a.c_BadNumber) "what" = some none
  no_BadNumber_number : PySem.W.findIn K (.ref a.c_BadNumber) "number" = some none
  e_BadRow : ErrK K a.c_BadRow (.ref a.c_GenusError :: veT)
  g_BadRow : mg "BadRow" = some (.ref a.c_BadRow)
  i_BadRow : PySem.W.findIn K (.ref a.c_BadRow) "__init__" = some (some (.ref a.i_BadRow))
  ti_BadRow : PySem.W.typeIn K (.ref a.i_BadRow) = some (.type "function")
  Fi_BadRow : Fun K "__init__" "BadRow.__init__" s_BadRow_init a.i_BadRow a.di_BadRow
  bi_BadRow : L2.Binds K a.di_BadRow (["self", "what", "row"] : List Str) []
  no_BadRow_what : PySem.W.findIn K (.ref a.c_BadRow) "what" = some none
  no_BadRow_row : PySem.W.findIn K (.ref a.c_BadRow) "row" = some none
  e_BadTable : ErrK K a.c_BadTable (.ref a.c_GenusError :: veT)
  g_BadTable : mg "BadTable" = some (.ref a.c_BadTable)
  i_BadTable : PySem.W.findIn K (.ref a.c_BadTable) "__init__" = some (some (.ref a.i_BadTable))
  ti_BadTable : PySem.W.typeIn K (.ref a.i_BadTable) = some (.type "function")
  Fi_BadTable : Fun K "__init__" "BadTable.__init__" s_BadTable_init a.i_BadTable a.di_BadTable
  bi_BadTable : L2.Binds K a.di_BadTable (["self", "what"] : List Str) []
  no_BadTable_what : PySem.W.findIn K (.ref a.c_BadTable) "what" = some none
  e_BadForm : ErrK K a.c_BadForm (.ref a.c_GenusError :: veT)
  g_BadForm : mg "BadForm" = some (.ref a.c_BadForm)
  i_BadForm : PySem.W.findIn K (.ref a.c_BadForm) "__init__" = some (some (.ref a.i_BadForm))
  ti_BadForm : PySem.W.typeIn K (.ref a.i_BadForm) = some (.type "function")
  Fi_BadForm : Fun K "__init__" "BadForm.__init__" s_BadForm_init a.i_BadForm a.di_BadForm
  bi_BadForm : L2.Binds K a.di_BadForm (["self", "what"] : List Str) []
  no_BadForm_what : PySem.W.findIn K (.ref a.c_BadForm) "what" = some none
  e_BadBook : ErrK K a.c_BadBook (.ref a.c_GenusError :: veT)
  g_BadBook : mg "BadBook" = some (.ref a.c_BadBook)
  i_BadBook : PySem.W.findIn K (.ref a.c_BadBook) "__init__" = some (some (.ref a.i_BadBook))
  ti_BadBook : PySem.W.typeIn K (.ref a.i_BadBook) = some (.type "function")
  Fi_BadBook : Fun K "__init__" "BadBook.__init__" s_BadBook_init a.i_BadBook a.di_BadBook
  bi_BadBook : L2.Binds K a.di_BadBook (["self", "what"] : List Str) []
  no_BadBook_what : PySem.W.findIn K (.ref a.c_BadBook) "what" = some none
  e_BadName : ErrK K a.c_BadName (.ref a.c_GenusError :: veT)
  g_BadName : mg "BadName" = some (.ref a.c_BadName)
  i_BadName : PySem.W.findIn K (.ref a.c_BadName) "__init__" = some (some (.ref a.i_BadName))
  ti_BadName : PySem.W.typeIn K (.ref a.i_BadName) = some (.type "function")
  Fi_BadName : Fun K "__init__" "BadName.__init__" s_BadName_init a.i_BadName a.di_BadName
  bi_BadName : L2.Binds K a.di_BadName (["self", "name"] : List Str) []
  no_BadName_name : PySem.W.findIn K (.ref a.c_BadName) "name" = some none
  e_BadText : ErrK K a.c_BadText (.ref a.c_GenusError :: veT)
  g_BadText : mg "BadText" = some (.ref a.c_BadText)
  i_BadText : PySem.W.findIn K (.ref a.c_BadText) "__init__" = some (some (.ref a.i_BadText))
  ti_BadText : PySem.W.typeIn K (.ref a.i_BadText) = some (.type "function")
  Fi_BadText : Fun K "__init__" "BadText.__init__" s_BadText_init a.i_BadText a.di_BadText
  bi_BadText : L2.Binds K a.di_BadText (["self", "line", "word"] : List Str) []
  no_BadText_line : PySem.W.findIn K (.ref a.c_BadText) "line" = some none
  no_BadText_word : PySem.W.findIn K (.ref a.c_BadText) "word" = some none
  e_NoPlace : ErrK K a.c_NoPlace (.ref a.c_GenusError :: veT)
  g_NoPlace : mg "NoPlace" = some (.ref a.c_NoPlace)
  i_NoPlace : PySem.W.findIn K (.ref a.c_NoPlace) "__init__" = some (some (.ref a.i_NoPlace))
  ti_NoPlace : PySem.W.typeIn K (.ref a.i_NoPlace) = some (.type "function")
  Fi_NoPlace : Fun K "__init__" "NoPlace.__init__" s_NoPlace_init a.i_NoPlace a.di_NoPlace
  bi_NoPlace : L2.Binds K a.di_NoPlace (["self", "what", "index"] : List Str) []
  no_NoPlace_what : PySem.W.findIn K (.ref a.c_NoPlace) "what" = some none
  no_NoPlace_index : PySem.W.findIn K (.ref a.c_NoPlace) "index" = some none
  e_NoName : ErrK K a.c_NoName (.ref a.c_GenusError :: veT)
  g_NoName : mg "NoName" = some (.ref a.c_NoName)
  i_NoName : PySem.W.findIn K (.ref a.c_NoName) "__init__" = some (some (.ref a.i_NoName))
  ti_NoName : PySem.W.typeIn K (.ref a.i_NoName) = some (.type "function")
  Fi_NoName : Fun K "__init__" "NoName.__init__" s_NoName_init a.i_NoName a.di_NoName
  bi_NoName : L2.Binds K a.di_NoName (["self", "name"] : List Str) []
  no_NoName_name : PySem.W.findIn K (.ref a.c_NoName) "name" = some none
  e_TakenName : ErrK K a.c_TakenName (.ref a.c_GenusError :: veT)
  g_TakenName : mg "TakenName" = some (.ref a.c_TakenName)
  i_TakenName : PySem.W.findIn K (.ref a.c_TakenName) "__init__" = some (some (.ref a.i_TakenName))
  ti_TakenName : PySem.W.typeIn K (.ref a.i_TakenName) = some (.type "function")
  Fi_TakenName : Fun K "__init__" "TakenName.__init__" s_TakenName_init a.i_TakenName a.di_TakenName
  bi_TakenName : L2.Binds K a.di_TakenName (["self", "name"] : List Str) []
  no_TakenName_name : PySem.W.findIn K (.ref a.c_TakenName) "name" = some none
  e_Unlike : ErrK K a.c_Unlike (.ref a.c_GenusError :: veT)
  g_Unlike : mg "Unlike" = some (.ref a.c_Unlike)
  i_Unlike : PySem.W.findIn K (.ref a.c_Unlike) "__init__" = some (some (.ref a.i_Unlike))
  ti_Unlike : PySem.W.typeIn K (.ref a.i_Unlike) = some (.type "function")
  Fi_Unlike : Fun K "__init__" "Unlike.__init__" s_Unlike_init a.i_Unlike a.di_Unlike
  bi_Unlike : L2.Binds K a.di_Unlike (["self", "what"] : List Str) []
  no_Unlike_what : PySem.W.findIn K (.ref a.c_Unlike) "what" = some none
  e_NotThere : ErrK K a.c_NotThere (.ref a.c_GenusError :: veT)
  g_NotThere : mg "NotThere" = some (.ref a.c_NotThere)
  i_NotThere : PySem.W.findIn K (.ref a.c_NotThere) "__init__" = some (some (.ref a.i_NotThere))
  ti_NotThere : PySem.W.typeIn K (.ref a.i_NotThere) = some (.type "function")
  Fi_NotThere : Fun K "__init__" "NotThere.__init__" s_NotThere_init a.i_NotThere a.di_NotThere
  bi_NotThere : L2.Binds K a.di_NotThere (["self", "paper"] : List Str) []
  no_NotThere_paper : PySem.W.findIn K (.ref a.c_NotThere) "paper" = some none
  e_TooMany : ErrK K a.c_TooMany (.ref a.c_GenusError :: veT)
  g_TooMany : mg "TooMany" = some (.ref a.c_TooMany)
  i_TooMany : PySem.W.findIn K (.ref a.c_TooMany) "__init__" = some (some (.ref a.i_TooMany))
  ti_TooMany : PySem.W.typeIn K (.ref a.i_TooMany) = some (.type "function")
  Fi_TooMany : Fun K "__init__" "TooMany.__init__" s_TooMany_init a.i_TooMany a.di_TooMany
  bi_TooMany : L2.Binds K a.di_TooMany (["self", "what", "many", "limit"] : List Str) []
  no_TooMany_what : PySem.W.findIn K (.ref a.c_TooMany) "what" = some none
  no_TooMany_many : PySem.W.findIn K (.ref a.c_TooMany) "many" = some none
  no_TooMany_limit : PySem.W.findIn K (.ref a.c_TooMany) "limit" = some none
  e_NotKept : ErrK K a.c_NotKept (.ref a.c_GenusError :: veT)
  g_NotKept : mg "NotKept" = some (.ref a.c_NotKept)
  i_NotKept : PySem.W.findIn K (.ref a.c_NotKept) "__init__" = some (some (.ref a.i_NotKept))
  ti_NotKept : PySem.W.typeIn K (.ref a.i_NotKept) = some (.type "function")
  Fi_NotKept : Fun K "__init__" "NotKept.__init__" s_NotKept_init a.i_NotKept a.di_NotKept
  bi_NotKept : L2.Binds K a.di_NotKept (["self", "promise", "witness"] : List Str) []
  no_NotKept_promise : PySem.W.findIn K (.ref a.c_NotKept) "promise" = some none
  no_NotKept_witness : PySem.W.findIn K (.ref a.c_NotKept) "witness" = some none
  e_NothingToUndo : ErrK K a.c_NothingToUndo (.ref a.c_GenusError :: veT)
  g_NothingToUndo : mg "NothingToUndo" = some (.ref a.c_NothingToUndo)
  x_NothingToUndo : PySem.W.excIn K a.c_NothingToUndo [.type "ValueError", .type "Exception", .type "BaseException", .type "object"] "ValueError.__new__" = true
  e_NothingToRedo : ErrK K a.c_NothingToRedo (.ref a.c_GenusError :: veT)
  g_NothingToRedo : mg "NothingToRedo" = some (.ref a.c_NothingToRedo)
  x_NothingToRedo : PySem.W.excIn K a.c_NothingToRedo [.type "ValueError", .type "Exception", .type "BaseException", .type "object"] "ValueError.__new__" = true
section
variable {P : Program} {w : World} {K : PySem.W.Frag} {mg : Str → Option Value} {base : Heap} {a : Ad}
theorem Tx.y_BadNumber (T : Tx K mg a) : PySem.W.keepIn K (.ref a.c_BadNumber) = true := T.e_BadNumber.kp
theorem Tx.o_BadNumber (T : Tx K mg a) : PySem.W.subIn K (.ref a.c_BadNumber) (.type "BaseException") = some true := T.e_BadNumber.raises vees
theorem Tx.t_BadNumber (T : Tx K mg a) : PySem.W.typeIn K (.ref a.c_BadNumber) = some (.type "type") := T.e_BadNumber.ty
theorem Tx.O_BadNumber (T : Tx K mg a) : OexC K a.c_BadNumber := T.e_BadNumber.oex vees
theorem in_BadNumber (T : Tx K mg a) : FnOk P w K mg base CX0 1 a.i_BadNumber a.di_BadNumber (["self", "what", "number"] : List Str) (spInit a.c_BadNumber (["what", "number"] : List Str)) := init2 T.Fi_BadNumber sc_BadNumber_init T.O_BadNumber T.no_BadNumber_what T.no_BadNumber_number (fun cdv A outer s H E => (pss_cons (ps_ost (pv 0) (pv 1)) (pss_one (ps_ost (pv 0) (pv 2)))))
theorem Tx.y_BadRow (T : Tx K mg a) : PySem.W.keepIn K (.ref a.c_BadRow) = true := T.e_BadRow.kp
theorem Tx.o_BadRow (T : Tx K mg a) : PySem.W.subIn K (.ref a.c_BadRow) (.type "BaseException") = some true := T.e_BadRow.raises vees
theorem Tx.t_BadRow (T : Tx K mg a) : PySem.W.typeIn K (.ref a.c_BadRow) = some (.type "type") := T.e_BadRow.ty
theorem Tx.O_BadRow (T : Tx K mg a) : OexC K a.c_BadRow := T.e_BadRow.oex vees
theorem in_BadRow (T : Tx K mg a) : FnOk P w K mg base CX0 1 a.i_BadRow a.di_BadRow (["self", "what", "row"] : List Str) (spInit a.c_BadRow (["what", "row"] : List Str)) := init2 T.Fi_BadRow sc_BadRow_init T.O_BadRow T.no_BadRow_what T.no_BadRow_row (fun cdv A outer s H E => (pss_cons (ps_ost (pv 0) (pv 1)) (pss_one (ps_ost (pv 0) (pv 2)))))
theorem Tx.y_BadTable (T : Tx K mg a) : PySem.W.keepIn K (.ref a.c_BadTable) = true := T.e_BadTable.kp
theorem Tx.o_BadTable (T : Tx K mg a) : PySem.W.subIn K (.ref a.c_BadTable) (.type "BaseException") = some true := T.e_BadTable.raises vees
theorem Tx.t_BadTable (T : Tx K mg a) : PySem.W.typeIn K (.ref a.c_BadTable) = some (.type "type") := T.e_BadTable.ty
theorem Tx.O_BadTable (T : Tx K mg a) : OexC K a.c_BadTable := T.e_BadTable.oex vees
theorem in_BadTable (T : Tx K mg a) : FnOk P w K mg base CX0 1 a.i_BadTable a.di_BadTable (["self", "what"] : List Str) (spInit a.c_BadTable (["what"] : List Str)) := init1 T.Fi_BadTable sc_BadTable_init T.O_BadTable T.no_BadTable_what (fun cdv A outer s H E => (pss_one (ps_ost (pv 0) (pv 1))))
theorem Tx.y_BadForm (T : Tx K mg a) : PySem.W.keepIn K (.ref a.c_BadForm) = true := T.e_BadForm.kp
theorem Tx.o_BadForm (T : Tx K mg a) : PySem.W.subIn K (.ref a.c_BadForm) (.type "BaseException") = some true := T.e_BadForm.raises vees
theorem Tx.t_BadForm (T : Tx K mg a) : PySem.W.typeIn K (.ref a.c_BadForm) = some (.type "type") := T.e_BadForm.ty
theorem Tx.O_BadForm (T : Tx K mg a) : OexC K a.c_BadForm := T.e_BadForm.oex vees
theorem in_BadForm (T : Tx K mg a) : FnOk P w K mg base CX0 1 a.i_BadForm a.di_BadForm (["self", "what"] : List Str) (spInit a.c_BadForm (["what"] : List Str)) := init1 T.Fi_BadForm sc_BadForm_init T.O_BadForm T.no_BadForm_what (fun cdv A outer s H E => (pss_one (ps_ost (pv 0) (pv 1))))
theorem Tx.y_BadBook (T : Tx K mg a) : PySem.W.keepIn K (.ref a.c_BadBook) = true := T.e_BadBook.kp
theorem Tx.o_BadBook (T : Tx K mg a) : PySem.W.subIn K (.ref a.c_BadBook) (.type "BaseException") = some true := T.e_BadBook.raises vees
theorem Tx.t_BadBook (T : Tx K mg a) : PySem.W.typeIn K (.ref a.c_BadBook) = some (.type "type") := T.e_BadBook.ty
theorem Tx.O_BadBook (T : Tx K mg a) : OexC K a.c_BadBook := T.e_BadBook.oex vees
theorem in_BadBook (T : Tx K mg a) : FnOk P w K mg base CX0 1 a.i_BadBook a.di_BadBook (["self", "what"] : List Str) (spInit a.c_BadBook (["what"] : List Str)) := init1 T.Fi_BadBook sc_BadBook_init T.O_BadBook T.no_BadBook_what (fun cdv A outer s H E => (pss_one (ps_ost (pv 0) (pv 1))))
theorem Tx.y_BadName (T : Tx K mg a) : PySem.W.keepIn K (.ref a.c_BadName) = true := T.e_BadName.kp
theorem Tx.o_BadName (T : Tx K mg a) : PySem.W.subIn K (.ref a.c_BadName) (.type "BaseException") = some true := T.e_BadName.raises vees
theorem Tx.t_BadName (T : Tx K mg a) : PySem.W.typeIn K (.ref a.c_BadName) = some (.type "type") := T.e_BadName.ty
theorem Tx.O_BadName (T : Tx K mg a) : OexC K a.c_BadName := T.e_BadName.oex vees
theorem in_BadName (T : Tx K mg a) : FnOk P w K mg base CX0 1 a.i_BadName a.di_BadName (["self", "name"] : List Str) (spInit a.c_BadName (["name"] : List Str)) := init1 T.Fi_BadName sc_BadName_init T.O_BadName T.no_BadName_name (fun cdv A outer s H E => (pss_one (ps_ost (pv 0) (pv 1))))
theorem Tx.y_BadText (T : Tx K mg a) : PySem.W.keepIn K (.ref a.c_BadText) = true := T.e_BadText.kp
theorem Tx.o_BadText (T : Tx K mg a) : PySem.W.subIn K (.ref a.c_BadText) (.type "BaseException") = some true := T.e_BadText.raises vees
theorem Tx.t_BadText (T : Tx K mg a) : PySem.W.typeIn K (.ref a.c_BadText) = some (.type "type") := T.e_BadText.ty
theorem Tx.O_BadText (T : Tx K mg a) : OexC K a.c_BadText := T.e_BadText.oex vees
theorem in_BadText (T : Tx K mg a) : FnOk P w K mg base CX0 1 a.i_BadText a.di_BadText (["self", "line", "word"] : List Str) (spInit a.c_BadText (["line", "word"] : List Str)) := init2 T.Fi_BadText sc_BadText_init T.O_BadText T.no_BadText_line T.no_BadText_word (fun cdv A outer s H E => (pss_cons (ps_ost (pv 0) (pv 1)) (pss_one (ps_ost (pv 0) (pv 2)))))
theorem Tx.y_NoPlace (T : Tx K mg a) : PySem.W.keepIn K (.ref a.c_NoPlace) = true := T.e_NoPlace.kp
theorem Tx.o_NoPlace (T : Tx K mg a) : PySem.W.subIn K (.ref a.c_NoPlace) (.type "BaseException") = some true := T.e_NoPlace.raises vees
theorem Tx.t_NoPlace (T : Tx K mg a) : PySem.W.typeIn K (.ref a.c_NoPlace) = some (.type "type") := T.e_NoPlace.ty
theorem Tx.O_NoPlace (T : Tx K mg a) : OexC K a.c_NoPlace := T.e_NoPlace.oex vees
theorem in_NoPlace (T : Tx K mg a) : FnOk P w K mg base CX0 1 a.i_NoPlace a.di_NoPlace (["self", "what", "index"] : List Str) (spInit a.c_NoPlace (["what", "index"] : List Str)) := init2 T.Fi_NoPlace sc_NoPlace_init T.O_NoPlace T.no_NoPlace_what T.no_NoPlace_index (fun cdv A outer s H E => (pss_cons (ps_ost (pv 0) (pv 1)) (pss_one (ps_ost (pv 0) (pv 2)))))
theorem Tx.y_NoName (T : Tx K mg a) : PySem.W.keepIn K (.ref a.c_NoName) = true := T.e_NoName.kp
theorem Tx.o_NoName (T : Tx K mg a) : PySem.W.subIn K (.ref a.c_NoName) (.type "BaseException") = some true := T.e_NoName.raises vees
theorem Tx.t_NoName (T : Tx K mg a) : PySem.W.typeIn K (.ref a.c_NoName) = some (.type "type") := T.e_NoName.ty
theorem Tx.O_NoName (T : Tx K mg a) : OexC K a.c_NoName := T.e_NoName.oex vees
theorem in_NoName (T : Tx K mg a) : FnOk P w K mg base CX0 1 a.i_NoName a.di_NoName (["self", "name"] : List Str) (spInit a.c_NoName (["name"] : List Str)) := init1 T.Fi_NoName sc_NoName_init T.O_NoName T.no_NoName_name (fun cdv A outer s H E => (pss_one (ps_ost (pv 0) (pv 1))))
theorem Tx.y_TakenName (T : Tx K mg a) : PySem.W.keepIn K (.ref a.c_TakenName) = true := T.e_TakenName.kp
theorem Tx.o_TakenName (T : Tx K mg a) : PySem.W.subIn K (.ref a.c_TakenName) (.type "BaseException") = some true := T.e_TakenName.raises vees
theorem Tx.t_TakenName (T : Tx K mg a) : PySem.W.typeIn K (.ref a.c_TakenName) = some (.type "type") := T.e_TakenName.ty
theorem Tx.O_TakenName (T : Tx K mg a) : OexC K a.c_TakenName := T.e_TakenName.oex vees
theorem in_TakenName (T : Tx K mg a) : FnOk P w K mg base CX0 1 a.i_TakenName a.di_TakenName (["self", "name"] : List Str) (spInit a.c_TakenName (["name"] : List Str)) := init1 T.Fi_TakenName sc_TakenName_init T.O_TakenName T.no_TakenName_name (fun cdv A outer s H E => (pss_one (ps_ost (pv 0) (pv 1))))
theorem Tx.y_Unlike (T : Tx K mg a) : PySem.W.keepIn K (.ref a.c_Unlike) = true := T.e_Unlike.kp
theorem Tx.o_Unlike (T : Tx K mg a) : PySem.W.subIn K (.ref a.c_Unlike) (.type "BaseException") = some true := T.e_Unlike.raises vees
theorem Tx.t_Unlike (T : Tx K mg a) : PySem.W.typeIn K (.ref a.c_Unlike) = some (.type "type") := T.e_Unlike.ty
theorem Tx.O_Unlike (T : Tx K mg a) : OexC K a.c_Unlike := T.e_Unlike.oex vees
theorem in_Unlike (T : Tx K mg a) : FnOk P w K mg base CX0 1 a.i_Unlike a.di_Unlike (["self", "what"] : List Str) (spInit a.c_Unlike (["what"] : List Str)) := init1 T.Fi_Unlike sc_Unlike_init T.O_Unlike T.no_Unlike_what (fun cdv A outer s H E => (pss_one (ps_ost (pv 0) (pv 1))))
theorem Tx.y_NotThere (T : Tx K mg a) : PySem.W.keepIn K (.ref a.c_NotThere) = true := T.e_NotThere.kp
theorem Tx.o_NotThere (T : Tx K mg a) : PySem.W.subIn K (.ref a.c_NotThere) (.type "BaseException") = some true := T.e_NotThere.raises vees
theorem Tx.t_NotThere (T : Tx K mg a) : PySem.W.typeIn K (.ref a.c_NotThere) = some (.type "type") := T.e_NotThere.ty
theorem Tx.O_NotThere (T : Tx K mg a) : OexC K a.c_NotThere := T.e_NotThere.oex vees
theorem in_NotThere (T : Tx K mg a) : FnOk P w K mg base CX0 1 a.i_NotThere a.di_NotThere (["self", "paper"] : List Str) (spInit a.c_NotThere (["paper"] : List Str)) := init1 T.Fi_NotThere sc_NotThere_init T.O_NotThere T.no_NotThere_paper (fun cdv A outer s H E => (pss_one (ps_ost (pv 0) (pv 1))))
theorem Tx.y_TooMany (T : Tx K mg a) : PySem.W.keepIn K (.ref a.c_TooMany) = true := T.e_TooMany.kp
theorem Tx.o_TooMany (T : Tx K mg a) : PySem.W.subIn K (.ref a.c_TooMany) (.type "BaseException") = some true := T.e_TooMany.raises vees
theorem Tx.t_TooMany (T : Tx K mg a) : PySem.W.typeIn K (.ref a.c_TooMany) = some (.type "type") := T.e_TooMany.ty
theorem Tx.O_TooMany (T : Tx K mg a) : OexC K a.c_TooMany := T.e_TooMany.oex vees
theorem in_TooMany (T : Tx K mg a) : FnOk P w K mg base CX0 1 a.i_TooMany a.di_TooMany (["self", "what", "many", "limit"] : List Str) (spInit a.c_TooMany (["what", "many", "limit"] : List Str)) := init3 T.Fi_TooMany sc_TooMany_init T.O_TooMany T.no_TooMany_what T.no_TooMany_many T.no_TooMany_limit (fun cdv A outer s H E => (pss_cons (ps_ost (pv 0) (pv 1)) (pss_cons (ps_ost (pv 0) (pv 2)) (pss_one (ps_ost (pv 0) (pv 3))))))
theorem Tx.y_NotKept (T : Tx K mg a) : PySem.W.keepIn K (.ref a.c_NotKept) = true := T.e_NotKept.kp
theorem Tx.o_NotKept (T : Tx K mg a) : PySem.W.subIn K (.ref a.c_NotKept) (.type "BaseException") = some true := T.e_NotKept.raises vees
theorem Tx.t_NotKept (T : Tx K mg a) : PySem.W.typeIn K (.ref a.c_NotKept) = some (.type "type") := T.e_NotKept.ty
theorem Tx.O_NotKept (T : Tx K mg a) : OexC K a.c_NotKept := T.e_NotKept.oex vees
theorem in_NotKept (T : Tx K mg a) : FnOk P w K mg base CX0 1 a.i_NotKept a.di_NotKept (["self", "promise", "witness"] : List Str) (spInit a.c_NotKept (["promise", "witness"] : List Str)) := init2 T.Fi_NotKept sc_NotKept_init T.O_NotKept T.no_NotKept_promise T.no_NotKept_witness (fun cdv A outer s H E => (pss_cons (ps_ost (pv 0) (pv 1)) (pss_one (ps_ost (pv 0) (pv 2)))))
theorem Tx.y_NothingToUndo (T : Tx K mg a) : PySem.W.keepIn K (.ref a.c_NothingToUndo) = true := T.e_NothingToUndo.kp
theorem Tx.o_NothingToUndo (T : Tx K mg a) : PySem.W.subIn K (.ref a.c_NothingToUndo) (.type "BaseException") = some true := T.e_NothingToUndo.raises vees
theorem Tx.t_NothingToUndo (T : Tx K mg a) : PySem.W.typeIn K (.ref a.c_NothingToUndo) = some (.type "type") := T.e_NothingToUndo.ty
theorem Tx.y_NothingToRedo (T : Tx K mg a) : PySem.W.keepIn K (.ref a.c_NothingToRedo) = true := T.e_NothingToRedo.kp
theorem Tx.o_NothingToRedo (T : Tx K mg a) : PySem.W.subIn K (.ref a.c_NothingToRedo) (.type "BaseException") = some true := T.e_NothingToRedo.raises vees
theorem Tx.t_NothingToRedo (T : Tx K mg a) : PySem.W.typeIn K (.ref a.c_NothingToRedo) = some (.type "type") := T.e_NothingToRedo.ty
end
section
variable {P : Program} {w : World} {K : PySem.W.Frag} {mg : Str → Option Value} {base : Heap} {a : Ad}
def F_draw : DF := fun ss R _ => ∃ m : Int, ss = [.pen, .sh (.int m)] ∧ 0 < m ∧ m.natAbs.log2 < 9000 ∧ ∀ k : Int, 0 ≤ k → k < m → R (.int k)
theorem ok__law_draw (T : Tx K mg a) (hS : SysD base) : FnG P w K mg base true 1 a.f__law_draw a.d__law_draw (["pen", "many"] : List Str) (fun _ => spD K F_draw) := by
  refine fn_go T.F__law_draw sc__law_draw (fun pl vs H Q E h => ?_) (fun cdv A outer s H vs Q E pl hr h => ?_)
  · obtain ⟨Hf, M, ss, R, X, _, _, h3, ⟨m, rfl, _⟩, _⟩ := h
    exact h3.length
  obtain ⟨Hf, M, ss, R, X, h1, h2, h3, ⟨m, rfl, hm, hl, hR⟩, h5, h6⟩ := h
  obtain ⟨v1, v2, rfl, q1, q2⟩ : ∃ v1 v2, vs = [v1, v2] ∧ ArgOk K M Hf v1 .pen ∧ ArgOk K M Hf v2 (.sh (.int m)) := by
    cases h3 with
    | cons q1 h3 =>
      cases h3 with
      | cons q2 h3 =>
        cases h3
        exact ⟨_, _, rfl, q1, q2⟩
  obtain ⟨p, hpM, rfl⟩ := (show ∃ p ∈ M, v1 = .ref p from q1)
  have ev := Rp.int_inv (show Rp K Hf v2 (.int m) from q2)
  subst ev
  obtain ⟨hpf, o, hp, c, ns, at', dg, cn, fo, rfl, hs, b1, b2, b3, b4, b5, b6⟩ := h2 p hpM
  have hH : H = upd H p (.dK (penL c at' dg cn fo)) := same_upd hp
  have fin : ∀ (a' d' n' f' k : Int), 0 ≤ a' → 0 ≤ d' → d'.natAbs < 2 ^ 1048577 → 0 ≤ f' → f' < 2 ^ 31 → 0 ≤ k → k < m → Q (.int k) (upd H p (.dK (penL c a' d' n' f'))) := fun a' d' n' f' k g1 g2 g3 g4 g5 g6 g7 =>
    h5 (.int k) (.int k) Hf _ (pen_exit h1 h2 hpM (penO_of hs g1 g2 g3 g4 g5 b6)) (.int k) (hR k g6 g7)
  refine ⟨_, (pss_cons (ps_dput hr.hu1 (pv 0) pe_str (pe_op op_addG (pe_dget hr.hu1 (pv 0) pe_str (fun _ _ => rfl)) pe_int) rfl)
      (pss_cons (ps_if (PW.pt (pw_and (pt_cmpR (op_eqG hr.hu) (pe_dget hr.hu1 (pv 0) pe_str (fun _ _ => rfl)) pe_int (nomark _)) (pw_and1 (pt_cmpR op_lt (pe_dget hr.hu1 (pv 0) pe_str (fun _ _ => rfl)) (pe_callB call_lenV (by rfl) T.n_len PySem.boot_len (pa_cons (pe_dget hr.hu1 (pv 0) pe_str (fun _ _ => rfl)) pa_nil)) (nomark _))))) (pss_cons (ps_set (i := 2) sc__law_draw.nd rfl (Or.inl rfl) (pe_ix ix_seq (pe_dget hr.hu1 (pv 0) pe_str (fun _ _ => rfl)) (pe_dget hr.hu1 (pv 0) pe_str (fun _ _ => rfl)) (fun _ _ => rfl)))
      (pss_cons (ps_dput hr.hu1 (pv 0) pe_str (pe_op op_addG (pe_dget hr.hu1 (pv 0) pe_str (fun _ _ => rfl)) pe_int) rfl)
      (pss_one (ps_if (pt_cmpR op_ge (pv 2) (pe_op op_pow pe_int pe_int) (nomark _)) (pss_one (ps_dput hr.hu1 (pv 0) pe_str (pe_op op_sub (pv 2) (pe_op op_pow pe_int pe_int)) rfl)) (pss_one (ps_dput hr.hu1 (pv 0) pe_str (pe_op op_modN (pe_callTy call_intV (by rfl) T.n_int PyProof.Rows.boot_int (pa_cons (pe_op op_addG (pe_op op_mulG (pe_dget hr.hu1 (pv 0) pe_str (fun _ _ => rfl)) pe_int) (pv 2)) pa_nil)) pe_int) rfl)))))) pss_nil)
      (pss_cons (ps_if (pt_cmpR op_gt (pe_dget hr.hu1 (pv 0) pe_str (fun _ _ => rfl)) pe_int (nomark _)) (pss_cons (ps_set (i := 3) sc__law_draw.nd rfl (Or.inl rfl) (pe_op op_modN (pe_callTy call_intV (by rfl) T.n_int PyProof.Rows.boot_int (pa_cons (pe_dget hr.hu1 (pv 0) pe_str (fun _ _ => rfl)) pa_nil)) (pv 1)))
      (pss_cons (ps_dput hr.hu1 (pv 0) pe_str (pe_op op_fdivG (pe_dget hr.hu1 (pv 0) pe_str (fun _ _ => rfl)) (pv 1)) rfl)
      (pss_one (ps_ret (pv 3))))) pss_nil)
      (pss_cons (ps_set (i := 4) sc__law_draw.nd rfl (Or.inl rfl) (pe_op op_modN (pe_callTy call_intV (by rfl) T.n_int PyProof.Rows.boot_int (pa_cons (pe_op op_addG (pe_op op_addG (pe_op op_mulG (pe_dget hr.hu1 (pv 0) pe_str (fun _ _ => rfl)) pe_int) (pe_op op_mulG (pe_dget hr.hu1 (pv 0) pe_str (fun _ _ => rfl)) pe_int)) pe_int) pa_nil)) pe_int))
      (pss_cons (ps_set (i := 4) sc__law_draw.nd rfl (Or.inl rfl) (pe_op op_modN (pe_callTy call_intV (by rfl) T.n_int PyProof.Rows.boot_int (pa_cons (pe_op op_addG (pe_op op_addG (pe_op op_mulG (pv 4) (pv 4)) (pe_op op_mulG pe_int (pv 4))) (pe_dget hr.hu1 (pv 0) pe_str (fun _ _ => rfl))) pa_nil)) pe_int))
      (pss_cons (ps_dput hr.hu1 (pv 0) pe_str (pe_op op_modN (pe_callTy call_intV (by rfl) T.n_int PyProof.Rows.boot_int (pa_cons (pe_op op_addG (pe_op op_mulG (pv 4) pe_int) pe_int) pa_nil)) pe_int) rfl)
      (pss_one (ps_ret (pe_op op_modN (pe_callTy call_intV (by rfl) T.n_int PyProof.Rows.boot_int (pa_cons (pe_op op_fdivG (pv 4) pe_int) pa_nil)) (pv 1)))))))))), ?_⟩
  have h0 : ∀ (o2 o3 o4 : Option V), ([some (V.ref p), some (V.int m), o2, o3, o4] : L2.St)[0]? = some (some (.ref p)) := fun _ _ _ => rfl
  rw [hH]
  show tSeq _ _ _ ([some (V.ref p), some (V.int m), none, none, none] : L2.St) _
  refine pen_put (v := .int (cn + 1)) rfl (p_count _) (fun R q => pen_get rfl v_count (Or.inl ⟨cn, 1, rfl, rfl, q⟩)) ?_
  have hx : ∀ o', Ex Hf (upd H p o') := fun o' a u e => by
    rw [upd_ne (ne_of_none e hpf)]
    exact h1 a u e
  have pw : CPow 10 18 := ⟨by decide, by decide, by decide⟩
  dsimp only
  refine if_cut (fun σ' H' => ∃ (o2 : Option V) (a' d' n' f' : Int), σ' = [some (V.ref p), some (V.int m), o2, none, none] ∧ H' = upd H p (.dK (penL c a' d' n' f')) ∧ 0 ≤ a' ∧ 0 ≤ d' ∧ d'.natAbs < 2 ^ 1048577 ∧ 0 ≤ f' ∧ f' < 2 ^ 31) ?_ (fun N hN => ?_)
  · rintro _ _ ⟨o2, a', d', n', f', rfl, rfl, g1, g2, g3, g4, g5⟩
    refine pen_get rfl v_digits ⟨d', 0, rfl, rfl, _, rfl, ite2 (fun z => ?_) (fun z => ?_)⟩
    · refine pen_get rfl v_digits (Or.inl ⟨_, rfl, _, rfl, _, _, rfl, rfl, by omega, ?_⟩)
      dsimp only [gName]
      refine pen_put (v := .int (d'.fdiv m)) rfl (p_digits _) (fun R q => pen_get rfl v_digits ⟨_, rfl, _, _, rfl, rfl, ⟨by omega, hl⟩, q⟩) ?_
      refine ⟨_, rfl, ?_⟩
      exact fin _ _ _ _ _ g1 (fdiv_lo g2 hm) (Nat.lt_of_le_of_lt (fdiv_abs g2 hm) g3) g4 g5 (fmod_lo _ hm) (fmod_hi _ hm)
    · refine pen_get rfl v_fold ⟨f', _, rfl, rfl, mul_small (Or.inr ⟨by decide, by decide⟩), ?_⟩
      refine pen_get rfl v_count ⟨n', _, rfl, rfl, mul_small (Or.inr ⟨by decide, by decide⟩), ?_⟩
      refine Or.inl ⟨_, _, rfl, rfl, Or.inl ⟨_, _, rfl, rfl, Or.inl ⟨_, rfl, _, _, rfl, rfl, (show (2147483647 : Int) ≠ 0 by decide), ?_⟩⟩⟩
      dsimp only [gName]
      have w1 := fmod_lo (f' * 48271 + n' * 7919 + 13) (m := 2147483647) (by decide)
      have w2 := fmod_hi (f' * 48271 + n' * 7919 + 13) (m := 2147483647) (by decide)
      generalize (f' * 48271 + n' * 7919 + 13).fmod 2147483647 = e1 at w1 w2
      refine ⟨_, rfl, _, rfl, e1, e1, rfl, rfl, mul_small (Or.inl ⟨by omega, by omega⟩), ?_⟩
      refine ⟨_, rfl, _, e1, rfl, rfl, mul_small (Or.inl ⟨by decide, by decide⟩), Or.inl ⟨_, _, rfl, rfl, ?_⟩⟩
      refine pen_get rfl v_count (Or.inl ⟨_, _, rfl, rfl, Or.inl ⟨_, rfl, _, _, rfl, rfl, (show (2147483629 : Int) ≠ 0 by decide), ?_⟩⟩)
      dsimp only [gName]
      have w3 := fmod_lo (e1 * e1 + 31 * e1 + n') (m := 2147483629) (by decide)
      have w4 := fmod_hi (e1 * e1 + 31 * e1 + n') (m := 2147483629) (by decide)
      generalize (e1 * e1 + 31 * e1 + n').fmod 2147483629 = e2 at w3 w4
      refine pen_put (v := .int ((e2 * 16807 + 7).fmod 2147483647)) rfl (p_fold _) (fun R q => ⟨_, rfl, e2, _, rfl, rfl, mul_small (Or.inl ⟨by omega, by omega⟩), Or.inl ⟨_, _, rfl, rfl, Or.inl ⟨_, rfl, _, _, rfl, rfl, (show (2147483647 : Int) ≠ 0 by decide), q⟩⟩⟩) ?_
      refine ⟨_, rfl, e2, _, rfl, rfl, ⟨by decide, by decide⟩, Or.inl ⟨_, rfl, _, rfl, _, _, rfl, rfl, by omega, ?_⟩⟩
      exact fin _ _ _ _ _ g1 g2 g3 (fmod_lo _ (by decide)) (Int.lt_trans (fmod_hi _ (by decide)) (by decide)) (fmod_lo _ hm) (fmod_hi _ hm)
  · refine pen_get rfl v_digits (Or.inl ⟨rfl, _, rfl, ite2 (fun z => ?_) (fun z => ?_)⟩)
    · refine pen_get rfl v_at (pen_get rfl v_cells ⟨_, _, rfl, Or.inl ⟨_, (hx _).sl hs, rfl⟩, at', _, rfl, rfl, _, rfl, ite2 (fun y => ?_) (fun y => ?_)⟩)
      · have hlt : at' < ns.length := by
          have q := of_decide_eq_true y
          rw [List.length_map] at q
          exact q
        obtain ⟨cell, hmem, hat⟩ := atI_ints b1 hlt
        refine pen_get rfl v_cells (pen_get rfl v_at (Or.inl ⟨c, _, at', .int cell, rfl, rfl, (hx _).sl hs, hat, ?_⟩))
        dsimp only [gName]
        refine pen_put (v := .int (at' + 1)) rfl (p_at _) (fun R q => pen_get rfl v_at (Or.inl ⟨at', 1, rfl, rfl, q⟩)) ?_
        have hb := bits_lt (b6 cell hmem)
        refine ⟨_, rfl, _, _, rfl, rfl, pw, cell, _, rfl, rfl, _, rfl, ite2 (fun x => ?_) (fun x => ?_)⟩
        · refine pen_put (v := .int (cell - 10 ^ 18)) rfl (p_digits _) (fun R q => ⟨_, rfl, _, _, rfl, rfl, pw, cell, _, rfl, rfl, q⟩) ?_
          have x' : (10 : Int) ^ 18 ≤ cell := of_decide_eq_true x
          refine hN _ _ ⟨_, _, _, _, _, rfl, rfl, by omega, by omega, ?_, b4, b5⟩
          have e : (2 : Nat) ^ 1048577 = 2 ^ 1048576 * 2 := Nat.pow_succ ..
          rw [e]
          generalize (2 : Nat) ^ 1048576 = W at hb
          omega
        · refine pen_put (v := .int ((fo * 69069 + cell).fmod 2147483587)) rfl (p_fold _) (fun R q => pen_get rfl v_fold ⟨fo, _, rfl, rfl, mul_small (Or.inl ⟨by omega, by omega⟩), _, rfl, Or.inl ⟨_, _, rfl, rfl, Or.inl ⟨_, rfl, _, _, rfl, rfl, (show (2147483587 : Int) ≠ 0 by decide), q⟩⟩⟩) ?_
          exact hN _ _ ⟨_, _, _, _, _, rfl, rfl, by omega, b2, b3, fmod_lo _ (by decide), Int.lt_trans (fmod_hi _ (by decide)) (by decide)⟩
      · exact hN _ _ ⟨_, _, _, _, _, rfl, rfl, b1, b2, b3, b4, b5⟩
    · exact iteF (hN _ _ ⟨_, _, _, _, _, rfl, rfl, b1, b2, b3, b4, b5⟩)
theorem ok__law_pen (T : Tx K mg a) (hS : SysD base) : FnG P w K mg base true 1 a.f__law_pen a.d__law_pen (["script"] : List Str) (fun _ => spPen K) := by
  refine fn_go T.F__law_pen sc__law_pen (fun pl vs H Q E h => ?_) (fun cdv A outer s H vs Q E pl hr h => ?_)
  · obtain ⟨sa, ns, rfl, _⟩ := h
    rfl
  obtain ⟨sa, ns, rfl, hs, hl, hb, k⟩ := h
  refine ⟨_, (pss_cons (ps_set (i := 1) sc__law_pen.nd rfl (Or.inl rfl) pe_int)
      (pss_cons (ps_for (passes_of rfl) rfl (pi_seq (pv 0)) (pg_name (i := 2) sc__law_pen.nd rfl (Or.inl rfl)) (pss_one (ps_set (i := 1) sc__law_pen.nd rfl (Or.inl rfl) (pe_op op_modN (pe_callTy call_intV (by rfl) T.n_int PyProof.Rows.boot_int (pa_cons (pe_op op_addG (pe_op op_mulG (pv 1) pe_int) (pv 2)) pa_nil)) pe_int))))
      (pss_one (ps_ret (pe_disp (pps_cons pe_str (pe_callTy call_listV (by rfl) T.n_list PyProof.Rows.boot_list (pa_cons (pv 0) pa_nil)) (pps_cons pe_str pe_int (pps_cons pe_str pe_int (pps_cons pe_str pe_int (pps_cons pe_str (pv 1) pps_nil))))) (by rfl) (by rfl) (fun z => by cases z) (by decide)))))), ?_⟩
  refine ⟨_, rfl, sa, rfl, Or.inl ⟨⟨_, hs⟩, ?_⟩⟩
  refine for_list (xs := ns.map V.int) (fun i σ' H' => ∃ (f : Int) (o : Option V), σ' = [some (.ref sa), some (.int f), o] ∧ H' = H ∧ 0 ≤ f ∧ f < 2 ^ 31) ⟨0, none, rfl, rfl, by decide, by decide⟩ (fun i σ' H' _ z => ?_) (fun i x σ' H' hx z => ?_) (fun σ' H' z => ?_)
  · obtain ⟨f, o, rfl, rfl, _⟩ := z
    exact hs
  · obtain ⟨f, o, rfl, rfl, g1, g2⟩ := z
    obtain ⟨n, rfl⟩ : ∃ n, x = V.int n := by
      rw [List.getElem?_map] at hx
      cases e : ns[i]? with
      | none => rw [e] at hx; cases hx
      | some n => rw [e] at hx; exact ⟨n, (Option.some.inj hx).symm⟩
    refine ⟨_, rfl, f, _, rfl, rfl, mul_small (Or.inl ⟨by omega, by omega⟩), _, rfl, Or.inl ⟨_, _, rfl, rfl, Or.inl ⟨_, rfl, _, _, rfl, rfl, (show (1000000007 : Int) ≠ 0 by decide), ?_⟩⟩⟩
    exact ⟨_, _, rfl, rfl, fmod_lo _ (by decide), Int.lt_trans (fmod_hi _ (by decide)) (by decide)⟩
  · obtain ⟨f, o, rfl, rfl, g1, g2⟩ := z
    intro p hp
    refine ⟨_, rfl, sa, _, rfl, Or.inl ((Ex.new hp).sl hs), fun l hlp => ?_⟩
    have nlp : l ≠ p := fun z => by rw [z, upd_same] at hlp; cases hlp
    have nl : H' l = none := by rw [← hlp, upd_ne nlp]
    refine ⟨_, rfl, ?_⟩
    refine ⟨by rw [upd_ne nlp.symm, upd_same], penL l 0 0 0 f, rfl, (show 5 ≤ 15 by decide), ?_⟩
    have he : Ex (upd H' l (.lst (ns.map V.int))) (upd (upd (upd H' p (.dK [])) l (.lst (ns.map V.int))) p (.dK (penL l 0 0 0 f))) := fun b u e => by
      by_cases z : b = p
      · subst z
        rw [upd_ne nlp.symm, hp] at e
        cases e
      · rw [upd_ne z]
        by_cases y : b = l
        · subst y
          rw [upd_same] at e ⊢
          exact e
        · rw [upd_ne y] at e ⊢
          rw [upd_ne z]
          exact e
    exact k p (.dK (penL l 0 0 0 f)) (upd H' l (.lst (ns.map V.int))) _ he (by rw [upd_ne nlp.symm]; exact hp) upd_same (penO_of (SqL.of upd_same) (Int.le_refl 0) (Int.le_refl 0) (Nat.two_pow_pos _) g1 (by omega) hb)
end
end Law

set_option Elab.async false
set_option linter.all false
set_option maxRecDepth 100000
set_option maxHeartbeats 4000000
namespace Law
open PySem PySem.Spec PyProof.Rows L2 G
section
variable {P : Program} {w : World} {K : PySem.W.Frag} {mg : Str → Option Value} {base : Heap} {a : Ad}
def F_pick : DF := fun ss R _ => ∃ x l, ss = [.pen, .sh x] ∧ seqD x = some l ∧ l ≠ [] ∧ l.length ≤ 1000 ∧ ∀ d ∈ l, R d
theorem log_small {n : Nat} (h : n < 2 ^ 9000) (h0 : n ≠ 0) : n.log2 < 9000 := (Nat.log2_lt h0).mpr h
theorem draw_ok {m : Int} (h0 : 0 < m) (h : m ≤ 2 ^ 60) : m.natAbs.log2 < 9000 := by
  have e : m.natAbs < 2 ^ 61 := by
    have : (2 : Nat) ^ 61 = 2 ^ 60 * 2 := by decide
    omega
  exact Nat.lt_of_lt_of_le ((Nat.log2_lt (by omega)).mpr e) (by decide)
theorem ok__law_pick (T : Tx K mg a) (hS : SysD base) : FnG P w K mg base true 2 a.f__law_pick a.d__law_pick (["pen", "some"] : List Str) (fun _ => spD K F_pick) := by
  refine fn_data T.F__law_pick sc__law_pick (fun ss R X z => by obtain ⟨x, l, h, _⟩ := z; rw [h] <;> rfl) fun cdv A outer s H E pl hr => ⟨_, (pss_one (ps_ret (pe_ix ix_seq (pv 1) (pe_go (ok__law_draw T hS) (hr.mono (by decide)) (pl := []) (fun _ h => nomatch h) (by rfl) T.g__law_draw T.F__law_draw.kp T.b__law_draw lets0 (pa_cons (pv 0) (pa_cons (pe_callB call_lenV (by rfl) T.n_len PySem.boot_len (pa_cons (pv 1) pa_nil)) pa_nil))) (fun _ _ => rfl)))), fun b ss R X h hX => ?_⟩
  obtain ⟨x, l, rfl, hs, hn, hl, hR⟩ := h
  have hp : 0 < l.length := List.length_pos_iff.mpr hn
  refine ds_ret (de_ix (de_var rfl (de_call EL.no (dc_pen rfl (dc_cons (de_len (de_var rfl ⟨l.length, lenD_seq hs, dc_nil ⟨l.length, rfl, by omega, draw_ok (by omega) (by omega), fun k h1 h2 => ?_⟩⟩)))))))
  obtain ⟨d, hd, e⟩ := atI_nat h1 h2
  exact ⟨k, d, rfl, by rw [atD_seq hs]; exact e, hR d hd⟩
/-- the field of an error -/
abbrev Fd (d : D) : Prop := Sm 3 9 d
theorem sm_int {n w : Nat} {k : Int} (h0 : 0 ≤ k) (h : k < 10 ^ 6) : Sm n w (.int k) := by
  obtain ⟨m, rfl⟩ := Int.eq_ofNat_of_zero_le h0
  have hm : m < 10 ^ 6 := by omega
  have hl : (PyData.int (m : Int)).shown.length ≤ 50 := by
    rw [PyData.shown_int]
    have e := int_text_length_le10 (a := (m : Int)) (k := 6) (by decide) (by omega)
    rw [PySem.ofString_length]
    omega
  refine { pl := by simp [D.pl], sh := ?_, dp := by simp [D.py, PyData.depth], lv := ?_, bk := by simp [D.py, PyData.bulk] }
  · simp only [D.py, PyData.showable, decide_eq_true_eq]
    by_cases z : m = 0
    · subst z; decide
    · have e : ((m : Int)).natAbs = m := by omega
      rw [e]
      exact Nat.lt_of_lt_of_le ((Nat.log2_lt z).mpr (show m < 2 ^ 20 by omega)) (by decide)
  · simp only [D.py, PyData.leavesShort, decide_eq_true_eq]
    exact hl
def F_field : DF := fun ss R _ => ss = [.pen] ∧ ∀ d, Fd d → R d
theorem ok__law_any_field (T : Tx K mg a) (hS : SysD base) : FnG P w K mg base true 3 a.f__law_any_field a.d__law_any_field (["pen"] : List Str) (fun _ => spD K F_field) := by
  refine fn_data T.F__law_any_field sc__law_any_field (fun ss R X z => by obtain ⟨h, _⟩ := z; rw [h] <;> rfl) fun cdv A outer s H E pl hr => ⟨_, (pss_cons (ps_set (i := 1) sc__law_any_field.nd rfl (Or.inl rfl) (pe_go (ok__law_draw T hS) (hr.mono (by decide)) (pl := []) (fun _ h => nomatch h) (by rfl) T.g__law_draw T.F__law_draw.kp T.b__law_draw lets0 (pa_cons (pv 0) (pa_cons pe_int pa_nil))))
      (pss_cons (ps_if (pt_cmpR (op_eqG hr.hu) (pv 1) pe_int (nomark _)) (pss_one (ps_ret (pe_lst (pa_cons (pe_go (ok__law_draw T hS) (hr.mono (by decide)) (pl := []) (fun _ h => nomatch h) (by rfl) T.g__law_draw T.F__law_draw.kp T.b__law_draw lets0 (pa_cons (pv 0) (pa_cons pe_int pa_nil))) (pa_cons (pe_lst pa_nil) pa_nil))))) pss_nil)
      (pss_cons (ps_if (pt_cmpR (op_eqG hr.hu) (pv 1) pe_int (nomark _)) (pss_one (ps_ret (pe_tup (pa_cons pe_str (pa_cons (pe_tup (pa_cons (pe_go (ok__law_draw T hS) (hr.mono (by decide)) (pl := []) (fun _ h => nomatch h) (by rfl) T.g__law_draw T.F__law_draw.kp T.b__law_draw lets0 (pa_cons (pv 0) (pa_cons (pe_op op_pow pe_int pe_int) pa_nil))) pa_nil)) pa_nil))))) pss_nil)
      (pss_one (ps_ret (pe_go (ok__law_pick T hS) (hr.mono (by decide)) (pl := []) (fun _ h => nomatch h) (by rfl) T.g__law_pick T.F__law_pick.kp T.b__law_pick lets0 (pa_cons (pv 0) (pa_cons (pe_lst (pa_cons pe_non (pa_cons pe_bl (pa_cons pe_bl (pa_cons pe_int (pa_cons (pe_un un_neg pe_int) (pa_cons pe_str (pa_cons pe_str (pa_cons (pe_op op_pow pe_int pe_int) (pa_cons (pe_disp (pps_cons pe_str pe_int pps_nil) (by rfl) (by rfl) (fun z => by cases z) (by decide)) pa_nil)))))))))) pa_nil)))))))), fun b ss R X h hX => ?_⟩
  obtain ⟨rfl, hR⟩ := h
  have go : ∀ d, Fd d → R d := hR
  refine ds_seq (ds_asg (de_call EL.no (dc_pen rfl (dc_cons (de_int (dc_nil ⟨8, rfl, by decide, draw_ok (by decide) (by decide), fun k h1 h2 => ?_⟩))))))
  refine ds_seq (ds_if (dt_test (de_eqI (de_var rfl (de_int ⟨k, 0, rfl, rfl, _, rfl, ite2 (fun z => ?_) (fun z => ?_)⟩)))))
  · refine ds_ret (de_lst (da_cons (de_call EL.no (dc_pen rfl (dc_cons (de_int (dc_nil ⟨100, rfl, by decide, draw_ok (by decide) (by decide), fun k h1 h2 => ?_⟩)))))))
    exact da_cons (de_lst (da_nil ⟨by decide, da_nil ⟨by simp, go _ ((SmL.cons (sm_int (w := 0) h1 (by omega)) (SmL.cons (n := 2) (w := 0) (Sm.mono (SmL.lst (SmL.nil (n := 0) (w := 0))) (by decide) (by decide)) (SmL.nil (w := 0)))).lst.mono (by decide) (by decide))⟩⟩))
  · refine ds_next (ds_seq (ds_if (dt_test (de_eqI (de_var rfl (de_int ⟨k, 1, rfl, rfl, _, rfl, ite2 (fun z => ?_) (fun z => ?_)⟩))))))
    · refine ds_ret (de_tup (da_cons (de_str (da_cons (de_tup (da_cons (de_call EL.no (dc_pen rfl (dc_cons ?_)))))))))
      refine de_II (de_int (de_int ⟨10, 6, rfl, rfl, ⟨by decide, by decide, by decide⟩, ?_⟩))
      refine dc_nil ⟨1000000, rfl, by decide, draw_ok (by decide) (by decide), fun k h1 h2 => ?_⟩
      exact da_nil ⟨by simp, da_nil ⟨by simp, go _ ((SmL.cons (n := 2) (w := 1) (Sm.str (ok8_dec (by decide +kernel)) (by decide +kernel)) (SmL.cons (n := 2) (w := 1) ((SmL.cons (sm_int (n := 1) (w := 0) h1 h2) (SmL.nil (w := 0))).tup.mono (by decide) (by decide)) (SmL.nil (w := 0)))).tup.mono (by decide) (by decide))⟩⟩
    · refine ds_next (ds_ret (de_call EL.no (dc_pen rfl (dc_cons (de_lst ?_)))))
      refine da_cons (de_non (da_cons (de_bl (da_cons (de_bl (da_cons (de_int (da_cons (de_un (de_int ⟨1, rfl, ?_⟩))))))))))
      refine da_cons (de_str (da_cons (de_str (da_cons (de_II (de_int (de_int ⟨10, 40, rfl, rfl, ⟨by decide, by decide, by decide⟩, ?_⟩)))))))
      refine da_cons (de_disp1 (de_int (da_nil ⟨by decide, dc_nil ⟨_, _, rfl, rfl, (fun z => nomatch z), by decide, fun d hd => hR d ?_⟩⟩)))
      have cl : ∀ d : D, d.pl = true → d.py.showable = true → d.py.depth ≤ 3 → d.py.leavesShort 50 = true → d.py.bulk ≤ 9 → Fd d := fun d a b c e f => ⟨a, b, c, e, f⟩
      simp only [List.mem_cons, List.not_mem_nil, or_false] at hd
      rcases hd with rfl | rfl | rfl | rfl | rfl | rfl | rfl | rfl | rfl <;> exact cl _ (by decide +kernel) (by decide +kernel) (by decide +kernel) (by decide +kernel) (by decide +kernel)
end
end Law

set_option Elab.async false
set_option linter.all false
set_option maxRecDepth 100000
set_option maxHeartbeats 4000000
namespace Law
open PySem PySem.Spec PyProof.Rows L2 G
def kC (a : Ad) : Nat → Addr
  | 0 => a.c_BadNumber
  | 1 => a.c_BadRow
  | 2 => a.c_BadTable
  | 3 => a.c_BadForm
  | 4 => a.c_BadBook
  | 5 => a.c_BadName
  | 6 => a.c_BadText
  | 7 => a.c_NoPlace
  | 8 => a.c_NoName
  | 9 => a.c_TakenName
  | 10 => a.c_Unlike
  | 11 => a.c_NotThere
  | 12 => a.c_TooMany
  | 13 => a.c_NotKept
  | 14 => a.c_NothingToUndo
  | 15 => a.c_NothingToRedo
  | _ => 0
def kF (one two three : D) : Nat → List (Str × D)
  | 0 => [("number", two), ("what", one)]
  | 1 => [("row", two), ("what", one)]
  | 2 => [("what", one)]
  | 3 => [("what", one)]
  | 4 => [("what", one)]
  | 5 => [("name", one)]
  | 6 => [("word", two), ("line", one)]
  | 7 => [("index", two), ("what", one)]
  | 8 => [("name", one)]
  | 9 => [("name", one)]
  | 10 => [("what", one)]
  | 11 => [("paper", one)]
  | 12 => [("limit", three), ("many", two), ("what", one)]
  | 13 => [("witness", two), ("promise", one)]
  | 14 => []
  | 15 => []
  | _ => []
def kT (one two three : D) : Nat → D
  | 0 => .tup [.str "number", one, .str (two).py.shown]
  | 1 => .tup [.str "row", one, .str (two).py.shown]
  | 2 => .tup [.str "table", one]
  | 3 => .tup [.str "form", one]
  | 4 => .tup [.str "book", one]
  | 5 => .tup [.str "badname", .str (one).py.shown]
  | 6 => .tup [.str "text", one, two]
  | 7 => .tup [.str "place", one, .str (two).py.shown]
  | 8 => .tup [.str "noname", .str (one).py.shown]
  | 9 => .tup [.str "taken", .str (one).py.shown]
  | 10 => .tup [.str "unlike", one]
  | 11 => .tup [.str "notthere", one]
  | 12 => .tup [.str "many", one, two, three]
  | 13 => .tup [.str "kept", one, two]
  | 14 => .tup [.str "undo"]
  | 15 => .tup [.str "redo"]
  | _ => .non
theorem nodup_lt : ∀ {l : List Addr}, l.Nodup → ∀ {i j : Nat} {x y : Addr}, l[i]? = some x → l[j]? = some y → i < j → x ≠ y
  | [], _, _, _, _, _, h, _, _ => by simp at h
  | c :: r, h, 0, j + 1, x, y, hi, hj, _ => fun e => by
    have a := List.nodup_cons.mp h
    simp at hi hj
    subst hi; subst e
    exact a.1 (List.mem_of_getElem? hj)
  | c :: r, h, i + 1, j + 1, x, y, hi, hj, hl => nodup_lt (List.nodup_cons.mp h).2 (i := i) (j := j) (by simpa using hi) (by simpa using hj) (by omega)
  | c :: r, h, i + 1, 0, x, y, _, _, hl => by omega
theorem nodup_ne {l : List Addr} (h : l.Nodup) {i j : Nat} {x y : Addr} (hi : l[i]? = some x) (hj : l[j]? = some y) (hij : i ≠ j) : x ≠ y := by
  by_cases z : i < j
  · exact nodup_lt h hi hj z
  · exact (nodup_lt h hj hi (by omega)).symm
section
variable {P : Program} {w : World} {K : PySem.W.Frag} {mg : Str → Option Value} {base : Heap} {a : Ad}
theorem ds_isE {b : Bs} {ρ : List Sl} {pn : PinP} {i : Nat} {a0 C C' G : Addr} {d0 : Option Addr} {l0 : List (Str × D)} {tb : TS} {nx bk ct : List Sl → Prop} {rt : D → Prop} (hi : ρ[i]? = some (.sh (.exc a0 d0 C l0))) (hp : pn a0 d0 C)
    (e : ErrK K C (.ref G :: veT)) (e' : ErrK K C' (.ref G :: veT)) (hg : G ≠ C') (h1 : C = C' → DS K b ρ tb nx rt bk ct) (h2 : C ≠ C' → nx ρ) :
    DS K b ρ (tIfS (tTest (tCB (rIsG K pn) (tCons (tVar i) (tCons (tC (.ref C')) tNil)))) tb tNext) nx rt bk ct := by
  refine ds_if (dt_test (de_isX (.own C') (de_var hi ⟨_, _, _, _, _, rfl, hp, e.kit e', _, rfl, ?_⟩)))
  by_cases z : C = C'
  · subst z
    rw [contains_self]
    exact iteT (h1 rfl)
  · rw [contains_other z hg]
    exact iteF (ds_next (h2 z))
def F_law_more_kinds (K : PySem.W.Frag) (a : Ad) (pl : Pins) : DF := fun ss R _ => ∃ (k : Nat) (a0 : Addr) (d0 : Option Addr) (one two three : D), k < 16 ∧ PnOk K pl a0 d0 (kC a k) ∧ ss = [.sh (.exc a0 d0 (kC a k) (kF one two three k))] ∧ Fd one ∧ Fd two ∧ Fd three ∧ R (.lst (if 8 ≤ k then [kT one two three k] else []))
theorem ok__law_more_kinds (T : Tx K mg a) (hS : SysD base) : FnG P w K mg base false 1 a.f__law_more_kinds a.d__law_more_kinds (["e"] : List Str) (spP K (fun _ => True) (F_law_more_kinds K a)) := by
  refine fn_dataP T.F__law_more_kinds sc__law_more_kinds (fun pl ss R X z => by obtain ⟨_, _, _, _, _, _, _, _, h, _⟩ := z; rw [h] <;> rfl) fun cdv A outer s H E pl hr _ => ⟨_, (pss_cons (ps_set (i := 1) sc__law_more_kinds.nd rfl (Or.inl rfl) (pe_lst pa_nil))
      (pss_cons (ps_if (pt_val (pe_callB (call_isG (pn := (fun a d C => PnOk K pl a d C)) (fun _ _ _ z => z)) (by rfl) T.n_isinstance PyProof.Rows.boot_isinstance (pa_cons (pv 0) (pa_cons (pe_glob (v := .ref a.c_NoName) (by rfl) T.g_NoName rfl) pa_nil)))) (pss_one (ps_expr (pe_bm PySem.F.plainAttrs_list PySem.F.slot_list_append PySem.F.type_list_append mt_append (pv 1) (pa_cons (pe_tup (pa_cons pe_str (pa_cons (pe_callB (call_repr hS (hr.gd) hr.hu) (by rfl) T.n_repr PyProof.Rows.boot_repr (pa_cons (pe_xe (pn := (fun a d C => PnOk K pl a d C)) (fun _ _ _ z => z) (pv 0)) pa_nil)) pa_nil))) pa_nil)))) pss_nil)
      (pss_cons (ps_if (pt_val (pe_callB (call_isG (pn := (fun a d C => PnOk K pl a d C)) (fun _ _ _ z => z)) (by rfl) T.n_isinstance PyProof.Rows.boot_isinstance (pa_cons (pv 0) (pa_cons (pe_glob (v := .ref a.c_TakenName) (by rfl) T.g_TakenName rfl) pa_nil)))) (pss_one (ps_expr (pe_bm PySem.F.plainAttrs_list PySem.F.slot_list_append PySem.F.type_list_append mt_append (pv 1) (pa_cons (pe_tup (pa_cons pe_str (pa_cons (pe_callB (call_repr hS (hr.gd) hr.hu) (by rfl) T.n_repr PyProof.Rows.boot_repr (pa_cons (pe_xe (pn := (fun a d C => PnOk K pl a d C)) (fun _ _ _ z => z) (pv 0)) pa_nil)) pa_nil))) pa_nil)))) pss_nil)
      (pss_cons (ps_if (pt_val (pe_callB (call_isG (pn := (fun a d C => PnOk K pl a d C)) (fun _ _ _ z => z)) (by rfl) T.n_isinstance PyProof.Rows.boot_isinstance (pa_cons (pv 0) (pa_cons (pe_glob (v := .ref a.c_Unlike) (by rfl) T.g_Unlike rfl) pa_nil)))) (pss_one (ps_expr (pe_bm PySem.F.plainAttrs_list PySem.F.slot_list_append PySem.F.type_list_append mt_append (pv 1) (pa_cons (pe_tup (pa_cons pe_str (pa_cons (pe_xe (pn := (fun a d C => PnOk K pl a d C)) (fun _ _ _ z => z) (pv 0)) pa_nil))) pa_nil)))) pss_nil)
      (pss_cons (ps_if (pt_val (pe_callB (call_isG (pn := (fun a d C => PnOk K pl a d C)) (fun _ _ _ z => z)) (by rfl) T.n_isinstance PyProof.Rows.boot_isinstance (pa_cons (pv 0) (pa_cons (pe_glob (v := .ref a.c_NotThere) (by rfl) T.g_NotThere rfl) pa_nil)))) (pss_one (ps_expr (pe_bm PySem.F.plainAttrs_list PySem.F.slot_list_append PySem.F.type_list_append mt_append (pv 1) (pa_cons (pe_tup (pa_cons pe_str (pa_cons (pe_xe (pn := (fun a d C => PnOk K pl a d C)) (fun _ _ _ z => z) (pv 0)) pa_nil))) pa_nil)))) pss_nil)
      (pss_cons (ps_if (pt_val (pe_callB (call_isG (pn := (fun a d C => PnOk K pl a d C)) (fun _ _ _ z => z)) (by rfl) T.n_isinstance PyProof.Rows.boot_isinstance (pa_cons (pv 0) (pa_cons (pe_glob (v := .ref a.c_TooMany) (by rfl) T.g_TooMany rfl) pa_nil)))) (pss_one (ps_expr (pe_bm PySem.F.plainAttrs_list PySem.F.slot_list_append PySem.F.type_list_append mt_append (pv 1) (pa_cons (pe_tup (pa_cons pe_str (pa_cons (pe_xe (pn := (fun a d C => PnOk K pl a d C)) (fun _ _ _ z => z) (pv 0)) (pa_cons (pe_xe (pn := (fun a d C => PnOk K pl a d C)) (fun _ _ _ z => z) (pv 0)) (pa_cons (pe_xe (pn := (fun a d C => PnOk K pl a d C)) (fun _ _ _ z => z) (pv 0)) pa_nil))))) pa_nil)))) pss_nil)
      (pss_cons (ps_if (pt_val (pe_callB (call_isG (pn := (fun a d C => PnOk K pl a d C)) (fun _ _ _ z => z)) (by rfl) T.n_isinstance PyProof.Rows.boot_isinstance (pa_cons (pv 0) (pa_cons (pe_glob (v := .ref a.c_NotKept) (by rfl) T.g_NotKept rfl) pa_nil)))) (pss_one (ps_expr (pe_bm PySem.F.plainAttrs_list PySem.F.slot_list_append PySem.F.type_list_append mt_append (pv 1) (pa_cons (pe_tup (pa_cons pe_str (pa_cons (pe_xe (pn := (fun a d C => PnOk K pl a d C)) (fun _ _ _ z => z) (pv 0)) (pa_cons (pe_xe (pn := (fun a d C => PnOk K pl a d C)) (fun _ _ _ z => z) (pv 0)) pa_nil)))) pa_nil)))) pss_nil)
      (pss_cons (ps_if (pt_val (pe_callB (call_isG (pn := (fun a d C => PnOk K pl a d C)) (fun _ _ _ z => z)) (by rfl) T.n_isinstance PyProof.Rows.boot_isinstance (pa_cons (pv 0) (pa_cons (pe_glob (v := .ref a.c_NothingToUndo) (by rfl) T.g_NothingToUndo rfl) pa_nil)))) (pss_one (ps_expr (pe_bm PySem.F.plainAttrs_list PySem.F.slot_list_append PySem.F.type_list_append mt_append (pv 1) (pa_cons (pe_tup (pa_cons pe_str pa_nil)) pa_nil)))) pss_nil)
      (pss_cons (ps_if (pt_val (pe_callB (call_isG (pn := (fun a d C => PnOk K pl a d C)) (fun _ _ _ z => z)) (by rfl) T.n_isinstance PyProof.Rows.boot_isinstance (pa_cons (pv 0) (pa_cons (pe_glob (v := .ref a.c_NothingToRedo) (by rfl) T.g_NothingToRedo rfl) pa_nil)))) (pss_one (ps_expr (pe_bm PySem.F.plainAttrs_list PySem.F.slot_list_append PySem.F.type_list_append mt_append (pv 1) (pa_cons (pe_tup (pa_cons pe_str pa_nil)) pa_nil)))) pss_nil)
      (pss_one (ps_ret (pv 1)))))))))))), fun b ss R X h hX => ?_⟩
  obtain ⟨k, a0, d0, one, two, three, hk, hpn, rfl, h1, h2, h3, hR⟩ := h
  have ok1 := h1.ok (by decide) (by decide)
  have ok2 := h2.ok (by decide) (by decide)
  refine ds_seq (ds_own (dn_lst (da_nil ⟨by decide, ?_⟩)))
  have hk' : k = 0 ∨ k = 1 ∨ k = 2 ∨ k = 3 ∨ k = 4 ∨ k = 5 ∨ k = 6 ∨ k = 7 ∨ k = 8 ∨ k = 9 ∨ k = 10 ∨ k = 11 ∨ k = 12 ∨ k = 13 ∨ k = 14 ∨ k = 15 := by omega
  rcases hk' with rfl | rfl | rfl | rfl | rfl | rfl | rfl | rfl | rfl | rfl | rfl | rfl | rfl | rfl | rfl | rfl
  · have hR : R (.lst []) := hR
    refine ds_seq (ds_isE (a0 := a0) (C := a.c_BadNumber) (d0 := d0) (l0 := kF one two three 0) rfl hpn T.e_BadNumber T.e_NoName (nodup_ne T.ne (i := 0) (j := 9) rfl rfl (by decide)) (fun z => (nodup_ne T.ne (i := 1) (j := 9) rfl rfl (by decide) z).elim) (fun _ => ?_))
    refine ds_seq (ds_isE (a0 := a0) (C := a.c_BadNumber) (d0 := d0) (l0 := kF one two three 0) rfl hpn T.e_BadNumber T.e_TakenName (nodup_ne T.ne (i := 0) (j := 10) rfl rfl (by decide)) (fun z => (nodup_ne T.ne (i := 1) (j := 10) rfl rfl (by decide) z).elim) (fun _ => ?_))
    refine ds_seq (ds_isE (a0 := a0) (C := a.c_BadNumber) (d0 := d0) (l0 := kF one two three 0) rfl hpn T.e_BadNumber T.e_Unlike (nodup_ne T.ne (i := 0) (j := 11) rfl rfl (by decide)) (fun z => (nodup_ne T.ne (i := 1) (j := 11) rfl rfl (by decide) z).elim) (fun _ => ?_))
    refine ds_seq (ds_isE (a0 := a0) (C := a.c_BadNumber) (d0 := d0) (l0 := kF one two three 0) rfl hpn T.e_BadNumber T.e_NotThere (nodup_ne T.ne (i := 0) (j := 12) rfl rfl (by decide)) (fun z => (nodup_ne T.ne (i := 1) (j := 12) rfl rfl (by decide) z).elim) (fun _ => ?_))
    refine ds_seq (ds_isE (a0 := a0) (C := a.c_BadNumber) (d0 := d0) (l0 := kF one two three 0) rfl hpn T.e_BadNumber T.e_TooMany (nodup_ne T.ne (i := 0) (j := 13) rfl rfl (by decide)) (fun z => (nodup_ne T.ne (i := 1) (j := 13) rfl rfl (by decide) z).elim) (fun _ => ?_))
    refine ds_seq (ds_isE (a0 := a0) (C := a.c_BadNumber) (d0 := d0) (l0 := kF one two three 0) rfl hpn T.e_BadNumber T.e_NotKept (nodup_ne T.ne (i := 0) (j := 14) rfl rfl (by decide)) (fun z => (nodup_ne T.ne (i := 1) (j := 14) rfl rfl (by decide) z).elim) (fun _ => ?_))
    refine ds_seq (ds_isE (a0 := a0) (C := a.c_BadNumber) (d0 := d0) (l0 := kF one two three 0) rfl hpn T.e_BadNumber T.e_NothingToUndo (nodup_ne T.ne (i := 0) (j := 15) rfl rfl (by decide)) (fun z => (nodup_ne T.ne (i := 1) (j := 15) rfl rfl (by decide) z).elim) (fun _ => ?_))
    refine ds_seq (ds_isE (a0 := a0) (C := a.c_BadNumber) (d0 := d0) (l0 := kF one two three 0) rfl hpn T.e_BadNumber T.e_NothingToRedo (nodup_ne T.ne (i := 0) (j := 16) rfl rfl (by decide)) (fun z => (nodup_ne T.ne (i := 1) (j := 16) rfl rfl (by decide) z).elim) (fun _ => ?_))
    exact ds_share (i := 1) rfl (ds_ret (de_var rfl hR))
  · have hR : R (.lst []) := hR
    refine ds_seq (ds_isE (a0 := a0) (C := a.c_BadRow) (d0 := d0) (l0 := kF one two three 1) rfl hpn T.e_BadRow T.e_NoName (nodup_ne T.ne (i := 0) (j := 9) rfl rfl (by decide)) (fun z => (nodup_ne T.ne (i := 2) (j := 9) rfl rfl (by decide) z).elim) (fun _ => ?_))
    refine ds_seq (ds_isE (a0 := a0) (C := a.c_BadRow) (d0 := d0) (l0 := kF one two three 1) rfl hpn T.e_BadRow T.e_TakenName (nodup_ne T.ne (i := 0) (j := 10) rfl rfl (by decide)) (fun z => (nodup_ne T.ne (i := 2) (j := 10) rfl rfl (by decide) z).elim) (fun _ => ?_))
    refine ds_seq (ds_isE (a0 := a0) (C := a.c_BadRow) (d0 := d0) (l0 := kF one two three 1) rfl hpn T.e_BadRow T.e_Unlike (nodup_ne T.ne (i := 0) (j := 11) rfl rfl (by decide)) (fun z => (nodup_ne T.ne (i := 2) (j := 11) rfl rfl (by decide) z).elim) (fun _ => ?_))
    refine ds_seq (ds_isE (a0 := a0) (C := a.c_BadRow) (d0 := d0) (l0 := kF one two three 1) rfl hpn T.e_BadRow T.e_NotThere (nodup_ne T.ne (i := 0) (j := 12) rfl rfl (by decide)) (fun z => (nodup_ne T.ne (i := 2) (j := 12) rfl rfl (by decide) z).elim) (fun _ => ?_))
    refine ds_seq (ds_isE (a0 := a0) (C := a.c_BadRow) (d0 := d0) (l0 := kF one two three 1) rfl hpn T.e_BadRow T.e_TooMany (nodup_ne T.ne (i := 0) (j := 13) rfl rfl (by decide)) (fun z => (nodup_ne T.ne (i := 2) (j := 13) rfl rfl (by decide) z).elim) (fun _ => ?_))
    refine ds_seq (ds_isE (a0 := a0) (C := a.c_BadRow) (d0 := d0) (l0 := kF one two three 1) rfl hpn T.e_BadRow T.e_NotKept (nodup_ne T.ne (i := 0) (j := 14) rfl rfl (by decide)) (fun z => (nodup_ne T.ne (i := 2) (j := 14) rfl rfl (by decide) z).elim) (fun _ => ?_))
    refine ds_seq (ds_isE (a0 := a0) (C := a.c_BadRow) (d0 := d0) (l0 := kF one two three 1) rfl hpn T.e_BadRow T.e_NothingToUndo (nodup_ne T.ne (i := 0) (j := 15) rfl rfl (by decide)) (fun z => (nodup_ne T.ne (i := 2) (j := 15) rfl rfl (by decide) z).elim) (fun _ => ?_))
    refine ds_seq (ds_isE (a0 := a0) (C := a.c_BadRow) (d0 := d0) (l0 := kF one two three 1) rfl hpn T.e_BadRow T.e_NothingToRedo (nodup_ne T.ne (i := 0) (j := 16) rfl rfl (by decide)) (fun z => (nodup_ne T.ne (i := 2) (j := 16) rfl rfl (by decide) z).elim) (fun _ => ?_))
    exact ds_share (i := 1) rfl (ds_ret (de_var rfl hR))
  · have hR : R (.lst []) := hR
    refine ds_seq (ds_isE (a0 := a0) (C := a.c_BadTable) (d0 := d0) (l0 := kF one two three 2) rfl hpn T.e_BadTable T.e_NoName (nodup_ne T.ne (i := 0) (j := 9) rfl rfl (by decide)) (fun z => (nodup_ne T.ne (i := 3) (j := 9) rfl rfl (by decide) z).elim) (fun _ => ?_))
    refine ds_seq (ds_isE (a0 := a0) (C := a.c_BadTable) (d0 := d0) (l0 := kF one two three 2) rfl hpn T.e_BadTable T.e_TakenName (nodup_ne T.ne (i := 0) (j := 10) rfl rfl (by decide)) (fun z => (nodup_ne T.ne (i := 3) (j := 10) rfl rfl (by decide) z).elim) (fun _ => ?_))
    refine ds_seq (ds_isE (a0 := a0) (C := a.c_BadTable) (d0 := d0) (l0 := kF one two three 2) rfl hpn T.e_BadTable T.e_Unlike (nodup_ne T.ne (i := 0) (j := 11) rfl rfl (by decide)) (fun z => (nodup_ne T.ne (i := 3) (j := 11) rfl rfl (by decide) z).elim) (fun _ => ?_))
    refine ds_seq (ds_isE (a0 := a0) (C := a.c_BadTable) (d0 := d0) (l0 := kF one two three 2) rfl hpn T.e_BadTable T.e_NotThere (nodup_ne T.ne (i := 0) (j := 12) rfl rfl (by decide)) (fun z => (nodup_ne T.ne (i := 3) (j := 12) rfl rfl (by decide) z).elim) (fun _ => ?_))
    refine ds_seq (ds_isE (a0 := a0) (C := a.c_BadTable) (d0 := d0) (l0 := kF one two three 2) rfl hpn T.e_BadTable T.e_TooMany (nodup_ne T.ne (i := 0) (j := 13) rfl rfl (by decide)) (fun z => (nodup_ne T.ne (i := 3) (j := 13) rfl rfl (by decide) z).elim) (fun _ => ?_))
    refine ds_seq (ds_isE (a0 := a0) (C := a.c_BadTable) (d0 := d0) (l0 := kF one two three 2) rfl hpn T.e_BadTable T.e_NotKept (nodup_ne T.ne (i := 0) (j := 14) rfl rfl (by decide)) (fun z => (nodup_ne T.ne (i := 3) (j := 14) rfl rfl (by decide) z).elim) (fun _ => ?_))
    refine ds_seq (ds_isE (a0 := a0) (C := a.c_BadTable) (d0 := d0) (l0 := kF one two three 2) rfl hpn T.e_BadTable T.e_NothingToUndo (nodup_ne T.ne (i := 0) (j := 15) rfl rfl (by decide)) (fun z => (nodup_ne T.ne (i := 3) (j := 15) rfl rfl (by decide) z).elim) (fun _ => ?_))
    refine ds_seq (ds_isE (a0 := a0) (C := a.c_BadTable) (d0 := d0) (l0 := kF one two three 2) rfl hpn T.e_BadTable T.e_NothingToRedo (nodup_ne T.ne (i := 0) (j := 16) rfl rfl (by decide)) (fun z => (nodup_ne T.ne (i := 3) (j := 16) rfl rfl (by decide) z).elim) (fun _ => ?_))
    exact ds_share (i := 1) rfl (ds_ret (de_var rfl hR))
  · have hR : R (.lst []) := hR
    refine ds_seq (ds_isE (a0 := a0) (C := a.c_BadForm) (d0 := d0) (l0 := kF one two three 3) rfl hpn T.e_BadForm T.e_NoName (nodup_ne T.ne (i := 0) (j := 9) rfl rfl (by decide)) (fun z => (nodup_ne T.ne (i := 4) (j := 9) rfl rfl (by decide) z).elim) (fun _ => ?_))
    refine ds_seq (ds_isE (a0 := a0) (C := a.c_BadForm) (d0 := d0) (l0 := kF one two three 3) rfl hpn T.e_BadForm T.e_TakenName (nodup_ne T.ne (i := 0) (j := 10) rfl rfl (by decide)) (fun z => (nodup_ne T.ne (i := 4) (j := 10) rfl rfl (by decide) z).elim) (fun _ => ?_))
    refine ds_seq (ds_isE (a0 := a0) (C := a.c_BadForm) (d0 := d0) (l0 := kF one two three 3) rfl hpn T.e_BadForm T.e_Unlike (nodup_ne T.ne (i := 0) (j := 11) rfl rfl (by decide)) (fun z => (nodup_ne T.ne (i := 4) (j := 11) rfl rfl (by decide) z).elim) (fun _ => ?_))
    refine ds_seq (ds_isE (a0 := a0) (C := a.c_BadForm) (d0 := d0) (l0 := kF one two three 3) rfl hpn T.e_BadForm T.e_NotThere (nodup_ne T.ne (i := 0) (j := 12) rfl rfl (by decide)) (fun z => (nodup_ne T.ne (i := 4) (j := 12) rfl rfl (by decide) z).elim) (fun _ => ?_))
    refine ds_seq (ds_isE (a0 := a0) (C := a.c_BadForm) (d0 := d0) (l0 := kF one two three 3) rfl hpn T.e_BadForm T.e_TooMany (nodup_ne T.ne (i := 0) (j := 13) rfl rfl (by decide)) (fun z => (nodup_ne T.ne (i := 4) (j := 13) rfl rfl (by decide) z).elim) (fun _ => ?_))
    refine ds_seq (ds_isE (a0 := a0) (C := a.c_BadForm) (d0 := d0) (l0 := kF one two three 3) rfl hpn T.e_BadForm T.e_NotKept (nodup_ne T.ne (i := 0) (j := 14) rfl rfl (by decide)) (fun z => (nodup_ne T.ne (i := 4) (j := 14) rfl rfl (by decide) z).elim) (fun _ => ?_))
    refine ds_seq (ds_isE (a0 := a0) (C := a.c_BadForm) (d0 := d0) (l0 := kF one two three 3) rfl hpn T.e_BadForm T.e_NothingToUndo (nodup_ne T.ne (i := 0) (j := 15) rfl rfl (by decide)) (fun z => (nodup_ne T.ne (i := 4) (j := 15) rfl rfl (by decide) z).elim) (fun _ => ?_))
    refine ds_seq (ds_isE (a0 := a0) (C := a.c_BadForm) (d0 := d0) (l0 := kF one two three 3) rfl hpn T.e_BadForm T.e_NothingToRedo (nodup_ne T.ne (i := 0) (j := 16) rfl rfl (by decide)) (fun z => (nodup_ne T.ne (i := 4) (j := 16) rfl rfl (by decide) z).elim) (fun _ => ?_))
    exact ds_share (i := 1) rfl (ds_ret (de_var rfl hR))
  · have hR : R (.lst []) := hR
    refine ds_seq (ds_isE (a0 := a0) (C := a.c_BadBook) (d0 := d0) (l0 := kF one two three 4) rfl hpn T.e_BadBook T.e_NoName (nodup_ne T.ne (i := 0) (j := 9) rfl rfl (by decide)) (fun z => (nodup_ne T.ne (i := 5) (j := 9) rfl rfl (by decide) z).elim) (fun _ => ?_))
    refine ds_seq (ds_isE (a0 := a0) (C := a.c_BadBook) (d0 := d0) (l0 := kF one two three 4) rfl hpn T.e_BadBook T.e_TakenName (nodup_ne T.ne (i := 0) (j := 10) rfl rfl (by decide)) (fun z => (nodup_ne T.ne (i := 5) (j := 10) rfl rfl (by decide) z).elim) (fun _ => ?_))
    refine ds_seq (ds_isE (a0 := a0) (C := a.c_BadBook) (d0 := d0) (l0 := kF one two three 4) rfl hpn T.e_BadBook T.e_Unlike (nodup_ne T.ne (i := 0) (j := 11) rfl rfl (by decide)) (fun z => (nodup_ne T.ne (i := 5) (j := 11) rfl rfl (by decide) z).elim) (fun _ => ?_))
    refine ds_seq (ds_isE (a0 := a0) (C := a.c_BadBook) (d0 := d0) (l0 := kF one two three 4) rfl hpn T.e_BadBook T.e_NotThere (nodup_ne T.ne (i := 0) (j := 12) rfl rfl (by decide)) (fun z => (nodup_ne T.ne (i := 5) (j := 12) rfl rfl (by decide) z).elim) (fun _ => ?_))
    refine ds_seq (ds_isE (a0 := a0) (C := a.c_BadBook) (d0 := d0) (l0 := kF one two three 4) rfl hpn T.e_BadBook T.e_TooMany (nodup_ne T.ne (i := 0) (j := 13) rfl rfl (by decide)) (fun z => (nodup_ne T.ne (i := 5) (j := 13) rfl rfl (by decide) z).elim) (fun _ => ?_))
    refine ds_seq (ds_isE (a0 := a0) (C := a.c_BadBook) (d0 := d0) (l0 := kF one two three 4) rfl hpn T.e_BadBook T.e_NotKept (nodup_ne T.ne (i := 0) (j := 14) rfl rfl (by decide)) (fun z => (nodup_ne T.ne (i := 5) (j := 14) rfl rfl (by decide) z).elim) (fun _ => ?_))
    refine ds_seq (ds_isE (a0 := a0) (C := a.c_BadBook) (d0 := d0) (l0 := kF one two three 4) rfl hpn T.e_BadBook T.e_NothingToUndo (nodup_ne T.ne (i := 0) (j := 15) rfl rfl (by decide)) (fun z => (nodup_ne T.ne (i := 5) (j := 15) rfl rfl (by decide) z).elim) (fun _ => ?_))
    refine ds_seq (ds_isE (a0 := a0) (C := a.c_BadBook) (d0 := d0) (l0 := kF one two three 4) rfl hpn T.e_BadBook T.e_NothingToRedo (nodup_ne T.ne (i := 0) (j := 16) rfl rfl (by decide)) (fun z => (nodup_ne T.ne (i := 5) (j := 16) rfl rfl (by decide) z).elim) (fun _ => ?_))
    exact ds_share (i := 1) rfl (ds_ret (de_var rfl hR))
  · have hR : R (.lst []) := hR
    refine ds_seq (ds_isE (a0 := a0) (C := a.c_BadName) (d0 := d0) (l0 := kF one two three 5) rfl hpn T.e_BadName T.e_NoName (nodup_ne T.ne (i := 0) (j := 9) rfl rfl (by decide)) (fun z => (nodup_ne T.ne (i := 6) (j := 9) rfl rfl (by decide) z).elim) (fun _ => ?_))
    refine ds_seq (ds_isE (a0 := a0) (C := a.c_BadName) (d0 := d0) (l0 := kF one two three 5) rfl hpn T.e_BadName T.e_TakenName (nodup_ne T.ne (i := 0) (j := 10) rfl rfl (by decide)) (fun z => (nodup_ne T.ne (i := 6) (j := 10) rfl rfl (by decide) z).elim) (fun _ => ?_))
    refine ds_seq (ds_isE (a0 := a0) (C := a.c_BadName) (d0 := d0) (l0 := kF one two three 5) rfl hpn T.e_BadName T.e_Unlike (nodup_ne T.ne (i := 0) (j := 11) rfl rfl (by decide)) (fun z => (nodup_ne T.ne (i := 6) (j := 11) rfl rfl (by decide) z).elim) (fun _ => ?_))
    refine ds_seq (ds_isE (a0 := a0) (C := a.c_BadName) (d0 := d0) (l0 := kF one two three 5) rfl hpn T.e_BadName T.e_NotThere (nodup_ne T.ne (i := 0) (j := 12) rfl rfl (by decide)) (fun z => (nodup_ne T.ne (i := 6) (j := 12) rfl rfl (by decide) z).elim) (fun _ => ?_))
    refine ds_seq (ds_isE (a0 := a0) (C := a.c_BadName) (d0 := d0) (l0 := kF one two three 5) rfl hpn T.e_BadName T.e_TooMany (nodup_ne T.ne (i := 0) (j := 13) rfl rfl (by decide)) (fun z => (nodup_ne T.ne (i := 6) (j := 13) rfl rfl (by decide) z).elim) (fun _ => ?_))
    refine ds_seq (ds_isE (a0 := a0) (C := a.c_BadName) (d0 := d0) (l0 := kF one two three 5) rfl hpn T.e_BadName T.e_NotKept (nodup_ne T.ne (i := 0) (j := 14) rfl rfl (by decide)) (fun z => (nodup_ne T.ne (i := 6) (j := 14) rfl rfl (by decide) z).elim) (fun _ => ?_))
    refine ds_seq (ds_isE (a0 := a0) (C := a.c_BadName) (d0 := d0) (l0 := kF one two three 5) rfl hpn T.e_BadName T.e_NothingToUndo (nodup_ne T.ne (i := 0) (j := 15) rfl rfl (by decide)) (fun z => (nodup_ne T.ne (i := 6) (j := 15) rfl rfl (by decide) z).elim) (fun _ => ?_))
    refine ds_seq (ds_isE (a0 := a0) (C := a.c_BadName) (d0 := d0) (l0 := kF one two three 5) rfl hpn T.e_BadName T.e_NothingToRedo (nodup_ne T.ne (i := 0) (j := 16) rfl rfl (by decide)) (fun z => (nodup_ne T.ne (i := 6) (j := 16) rfl rfl (by decide) z).elim) (fun _ => ?_))
    exact ds_share (i := 1) rfl (ds_ret (de_var rfl hR))
  · have hR : R (.lst []) := hR
    refine ds_seq (ds_isE (a0 := a0) (C := a.c_BadText) (d0 := d0) (l0 := kF one two three 6) rfl hpn T.e_BadText T.e_NoName (nodup_ne T.ne (i := 0) (j := 9) rfl rfl (by decide)) (fun z => (nodup_ne T.ne (i := 7) (j := 9) rfl rfl (by decide) z).elim) (fun _ => ?_))
    refine ds_seq (ds_isE (a0 := a0) (C := a.c_BadText) (d0 := d0) (l0 := kF one two three 6) rfl hpn T.e_BadText T.e_TakenName (nodup_ne T.ne (i := 0) (j := 10) rfl rfl (by decide)) (fun z => (nodup_ne T.ne (i := 7) (j := 10) rfl rfl (by decide) z).elim) (fun _ => ?_))
    refine ds_seq (ds_isE (a0 := a0) (C := a.c_BadText) (d0 := d0) (l0 := kF one two three 6) rfl hpn T.e_BadText T.e_Unlike (nodup_ne T.ne (i := 0) (j := 11) rfl rfl (by decide)) (fun z => (nodup_ne T.ne (i := 7) (j := 11) rfl rfl (by decide) z).elim) (fun _ => ?_))
    refine ds_seq (ds_isE (a0 := a0) (C := a.c_BadText) (d0 := d0) (l0 := kF one two three 6) rfl hpn T.e_BadText T.e_NotThere (nodup_ne T.ne (i := 0) (j := 12) rfl rfl (by decide)) (fun z => (nodup_ne T.ne (i := 7) (j := 12) rfl rfl (by decide) z).elim) (fun _ => ?_))
    refine ds_seq (ds_isE (a0 := a0) (C := a.c_BadText) (d0 := d0) (l0 := kF one two three 6) rfl hpn T.e_BadText T.e_TooMany (nodup_ne T.ne (i := 0) (j := 13) rfl rfl (by decide)) (fun z => (nodup_ne T.ne (i := 7) (j := 13) rfl rfl (by decide) z).elim) (fun _ => ?_))
    refine ds_seq (ds_isE (a0 := a0) (C := a.c_BadText) (d0 := d0) (l0 := kF one two three 6) rfl hpn T.e_BadText T.e_NotKept (nodup_ne T.ne (i := 0) (j := 14) rfl rfl (by decide)) (fun z => (nodup_ne T.ne (i := 7) (j := 14) rfl rfl (by decide) z).elim) (fun _ => ?_))
    refine ds_seq (ds_isE (a0 := a0) (C := a.c_BadText) (d0 := d0) (l0 := kF one two three 6) rfl hpn T.e_BadText T.e_NothingToUndo (nodup_ne T.ne (i := 0) (j := 15) rfl rfl (by decide)) (fun z => (nodup_ne T.ne (i := 7) (j := 15) rfl rfl (by decide) z).elim) (fun _ => ?_))
    refine ds_seq (ds_isE (a0 := a0) (C := a.c_BadText) (d0 := d0) (l0 := kF one two three 6) rfl hpn T.e_BadText T.e_NothingToRedo (nodup_ne T.ne (i := 0) (j := 16) rfl rfl (by decide)) (fun z => (nodup_ne T.ne (i := 7) (j := 16) rfl rfl (by decide) z).elim) (fun _ => ?_))
    exact ds_share (i := 1) rfl (ds_ret (de_var rfl hR))
  · have hR : R (.lst []) := hR
    refine ds_seq (ds_isE (a0 := a0) (C := a.c_NoPlace) (d0 := d0) (l0 := kF one two three 7) rfl hpn T.e_NoPlace T.e_NoName (nodup_ne T.ne (i := 0) (j := 9) rfl rfl (by decide)) (fun z => (nodup_ne T.ne (i := 8) (j := 9) rfl rfl (by decide) z).elim) (fun _ => ?_))
    refine ds_seq (ds_isE (a0 := a0) (C := a.c_NoPlace) (d0 := d0) (l0 := kF one two three 7) rfl hpn T.e_NoPlace T.e_TakenName (nodup_ne T.ne (i := 0) (j := 10) rfl rfl (by decide)) (fun z => (nodup_ne T.ne (i := 8) (j := 10) rfl rfl (by decide) z).elim) (fun _ => ?_))
    refine ds_seq (ds_isE (a0 := a0) (C := a.c_NoPlace) (d0 := d0) (l0 := kF one two three 7) rfl hpn T.e_NoPlace T.e_Unlike (nodup_ne T.ne (i := 0) (j := 11) rfl rfl (by decide)) (fun z => (nodup_ne T.ne (i := 8) (j := 11) rfl rfl (by decide) z).elim) (fun _ => ?_))
    refine ds_seq (ds_isE (a0 := a0) (C := a.c_NoPlace) (d0 := d0) (l0 := kF one two three 7) rfl hpn T.e_NoPlace T.e_NotThere (nodup_ne T.ne (i := 0) (j := 12) rfl rfl (by decide)) (fun z => (nodup_ne T.ne (i := 8) (j := 12) rfl rfl (by decide) z).elim) (fun _ => ?_))
    refine ds_seq (ds_isE (a0 := a0) (C := a.c_NoPlace) (d0 := d0) (l0 := kF one two three 7) rfl hpn T.e_NoPlace T.e_TooMany (nodup_ne T.ne (i := 0) (j := 13) rfl rfl (by decide)) (fun z => (nodup_ne T.ne (i := 8) (j := 13) rfl rfl (by decide) z).elim) (fun _ => ?_))
    refine ds_seq (ds_isE (a0 := a0) (C := a.c_NoPlace) (d0 := d0) (l0 := kF one two three 7) rfl hpn T.e_NoPlace T.e_NotKept (nodup_ne T.ne (i := 0) (j := 14) rfl rfl (by decide)) (fun z => (nodup_ne T.ne (i := 8) (j := 14) rfl rfl (by decide) z).elim) (fun _ => ?_))
    refine ds_seq (ds_isE (a0 := a0) (C := a.c_NoPlace) (d0 := d0) (l0 := kF one two three 7) rfl hpn T.e_NoPlace T.e_NothingToUndo (nodup_ne T.ne (i := 0) (j := 15) rfl rfl (by decide)) (fun z => (nodup_ne T.ne (i := 8) (j := 15) rfl rfl (by decide) z).elim) (fun _ => ?_))
    refine ds_seq (ds_isE (a0 := a0) (C := a.c_NoPlace) (d0 := d0) (l0 := kF one two three 7) rfl hpn T.e_NoPlace T.e_NothingToRedo (nodup_ne T.ne (i := 0) (j := 16) rfl rfl (by decide)) (fun z => (nodup_ne T.ne (i := 8) (j := 16) rfl rfl (by decide) z).elim) (fun _ => ?_))
    exact ds_share (i := 1) rfl (ds_ret (de_var rfl hR))
  · have hR : R (.lst [kT one two three 8]) := hR
    refine ds_seq (ds_isE (a0 := a0) (C := a.c_NoName) (d0 := d0) (l0 := kF one two three 8) rfl hpn T.e_NoName T.e_NoName (nodup_ne T.ne (i := 0) (j := 9) rfl rfl (by decide)) (fun _ => ds_app rfl (de_tup (da_cons (de_str (da_cons (de_repr (de_xe (de_var rfl ⟨a0, d0, a.c_NoName, kF one two three 8, one, rfl, hpn, T.no_NoName_name, rfl, ok1, da_nil ⟨by simp, (show 0 < 16000 by decide), ?_⟩⟩)))))))) (fun z => (z rfl).elim))
    refine ds_seq (ds_isE (a0 := a0) (C := a.c_NoName) (d0 := d0) (l0 := kF one two three 8) rfl hpn T.e_NoName T.e_TakenName (nodup_ne T.ne (i := 0) (j := 10) rfl rfl (by decide)) (fun z => (nodup_ne T.ne (i := 9) (j := 10) rfl rfl (by decide) z).elim) (fun _ => ?_))
    refine ds_seq (ds_isE (a0 := a0) (C := a.c_NoName) (d0 := d0) (l0 := kF one two three 8) rfl hpn T.e_NoName T.e_Unlike (nodup_ne T.ne (i := 0) (j := 11) rfl rfl (by decide)) (fun z => (nodup_ne T.ne (i := 9) (j := 11) rfl rfl (by decide) z).elim) (fun _ => ?_))
    refine ds_seq (ds_isE (a0 := a0) (C := a.c_NoName) (d0 := d0) (l0 := kF one two three 8) rfl hpn T.e_NoName T.e_NotThere (nodup_ne T.ne (i := 0) (j := 12) rfl rfl (by decide)) (fun z => (nodup_ne T.ne (i := 9) (j := 12) rfl rfl (by decide) z).elim) (fun _ => ?_))
    refine ds_seq (ds_isE (a0 := a0) (C := a.c_NoName) (d0 := d0) (l0 := kF one two three 8) rfl hpn T.e_NoName T.e_TooMany (nodup_ne T.ne (i := 0) (j := 13) rfl rfl (by decide)) (fun z => (nodup_ne T.ne (i := 9) (j := 13) rfl rfl (by decide) z).elim) (fun _ => ?_))
    refine ds_seq (ds_isE (a0 := a0) (C := a.c_NoName) (d0 := d0) (l0 := kF one two three 8) rfl hpn T.e_NoName T.e_NotKept (nodup_ne T.ne (i := 0) (j := 14) rfl rfl (by decide)) (fun z => (nodup_ne T.ne (i := 9) (j := 14) rfl rfl (by decide) z).elim) (fun _ => ?_))
    refine ds_seq (ds_isE (a0 := a0) (C := a.c_NoName) (d0 := d0) (l0 := kF one two three 8) rfl hpn T.e_NoName T.e_NothingToUndo (nodup_ne T.ne (i := 0) (j := 15) rfl rfl (by decide)) (fun z => (nodup_ne T.ne (i := 9) (j := 15) rfl rfl (by decide) z).elim) (fun _ => ?_))
    refine ds_seq (ds_isE (a0 := a0) (C := a.c_NoName) (d0 := d0) (l0 := kF one two three 8) rfl hpn T.e_NoName T.e_NothingToRedo (nodup_ne T.ne (i := 0) (j := 16) rfl rfl (by decide)) (fun z => (nodup_ne T.ne (i := 9) (j := 16) rfl rfl (by decide) z).elim) (fun _ => ?_))
    exact ds_share (i := 1) rfl (ds_ret (de_var rfl hR))
  · have hR : R (.lst [kT one two three 9]) := hR
    refine ds_seq (ds_isE (a0 := a0) (C := a.c_TakenName) (d0 := d0) (l0 := kF one two three 9) rfl hpn T.e_TakenName T.e_NoName (nodup_ne T.ne (i := 0) (j := 9) rfl rfl (by decide)) (fun z => (nodup_ne T.ne (i := 10) (j := 9) rfl rfl (by decide) z).elim) (fun _ => ?_))
    refine ds_seq (ds_isE (a0 := a0) (C := a.c_TakenName) (d0 := d0) (l0 := kF one two three 9) rfl hpn T.e_TakenName T.e_TakenName (nodup_ne T.ne (i := 0) (j := 10) rfl rfl (by decide)) (fun _ => ds_app rfl (de_tup (da_cons (de_str (da_cons (de_repr (de_xe (de_var rfl ⟨a0, d0, a.c_TakenName, kF one two three 9, one, rfl, hpn, T.no_TakenName_name, rfl, ok1, da_nil ⟨by simp, (show 0 < 16000 by decide), ?_⟩⟩)))))))) (fun z => (z rfl).elim))
    refine ds_seq (ds_isE (a0 := a0) (C := a.c_TakenName) (d0 := d0) (l0 := kF one two three 9) rfl hpn T.e_TakenName T.e_Unlike (nodup_ne T.ne (i := 0) (j := 11) rfl rfl (by decide)) (fun z => (nodup_ne T.ne (i := 10) (j := 11) rfl rfl (by decide) z).elim) (fun _ => ?_))
    refine ds_seq (ds_isE (a0 := a0) (C := a.c_TakenName) (d0 := d0) (l0 := kF one two three 9) rfl hpn T.e_TakenName T.e_NotThere (nodup_ne T.ne (i := 0) (j := 12) rfl rfl (by decide)) (fun z => (nodup_ne T.ne (i := 10) (j := 12) rfl rfl (by decide) z).elim) (fun _ => ?_))
    refine ds_seq (ds_isE (a0 := a0) (C := a.c_TakenName) (d0 := d0) (l0 := kF one two three 9) rfl hpn T.e_TakenName T.e_TooMany (nodup_ne T.ne (i := 0) (j := 13) rfl rfl (by decide)) (fun z => (nodup_ne T.ne (i := 10) (j := 13) rfl rfl (by decide) z).elim) (fun _ => ?_))
    refine ds_seq (ds_isE (a0 := a0) (C := a.c_TakenName) (d0 := d0) (l0 := kF one two three 9) rfl hpn T.e_TakenName T.e_NotKept (nodup_ne T.ne (i := 0) (j := 14) rfl rfl (by decide)) (fun z => (nodup_ne T.ne (i := 10) (j := 14) rfl rfl (by decide) z).elim) (fun _ => ?_))
    refine ds_seq (ds_isE (a0 := a0) (C := a.c_TakenName) (d0 := d0) (l0 := kF one two three 9) rfl hpn T.e_TakenName T.e_NothingToUndo (nodup_ne T.ne (i := 0) (j := 15) rfl rfl (by decide)) (fun z => (nodup_ne T.ne (i := 10) (j := 15) rfl rfl (by decide) z).elim) (fun _ => ?_))
    refine ds_seq (ds_isE (a0 := a0) (C := a.c_TakenName) (d0 := d0) (l0 := kF one two three 9) rfl hpn T.e_TakenName T.e_NothingToRedo (nodup_ne T.ne (i := 0) (j := 16) rfl rfl (by decide)) (fun z => (nodup_ne T.ne (i := 10) (j := 16) rfl rfl (by decide) z).elim) (fun _ => ?_))
    exact ds_share (i := 1) rfl (ds_ret (de_var rfl hR))
  · have hR : R (.lst [kT one two three 10]) := hR
    refine ds_seq (ds_isE (a0 := a0) (C := a.c_Unlike) (d0 := d0) (l0 := kF one two three 10) rfl hpn T.e_Unlike T.e_NoName (nodup_ne T.ne (i := 0) (j := 9) rfl rfl (by decide)) (fun z => (nodup_ne T.ne (i := 11) (j := 9) rfl rfl (by decide) z).elim) (fun _ => ?_))
    refine ds_seq (ds_isE (a0 := a0) (C := a.c_Unlike) (d0 := d0) (l0 := kF one two three 10) rfl hpn T.e_Unlike T.e_TakenName (nodup_ne T.ne (i := 0) (j := 10) rfl rfl (by decide)) (fun z => (nodup_ne T.ne (i := 11) (j := 10) rfl rfl (by decide) z).elim) (fun _ => ?_))
    refine ds_seq (ds_isE (a0 := a0) (C := a.c_Unlike) (d0 := d0) (l0 := kF one two three 10) rfl hpn T.e_Unlike T.e_Unlike (nodup_ne T.ne (i := 0) (j := 11) rfl rfl (by decide)) (fun _ => ds_app rfl (de_tup (da_cons (de_str (da_cons (de_xe (de_var rfl ⟨a0, d0, a.c_Unlike, kF one two three 10, one, rfl, hpn, T.no_Unlike_what, rfl, da_nil ⟨by simp, (show 0 < 16000 by decide), ?_⟩⟩))))))) (fun z => (z rfl).elim))
    refine ds_seq (ds_isE (a0 := a0) (C := a.c_Unlike) (d0 := d0) (l0 := kF one two three 10) rfl hpn T.e_Unlike T.e_NotThere (nodup_ne T.ne (i := 0) (j := 12) rfl rfl (by decide)) (fun z => (nodup_ne T.ne (i := 11) (j := 12) rfl rfl (by decide) z).elim) (fun _ => ?_))
    refine ds_seq (ds_isE (a0 := a0) (C := a.c_Unlike) (d0 := d0) (l0 := kF one two three 10) rfl hpn T.e_Unlike T.e_TooMany (nodup_ne T.ne (i := 0) (j := 13) rfl rfl (by decide)) (fun z => (nodup_ne T.ne (i := 11) (j := 13) rfl rfl (by decide) z).elim) (fun _ => ?_))
    refine ds_seq (ds_isE (a0 := a0) (C := a.c_Unlike) (d0 := d0) (l0 := kF one two three 10) rfl hpn T.e_Unlike T.e_NotKept (nodup_ne T.ne (i := 0) (j := 14) rfl rfl (by decide)) (fun z => (nodup_ne T.ne (i := 11) (j := 14) rfl rfl (by decide) z).elim) (fun _ => ?_))
    refine ds_seq (ds_isE (a0 := a0) (C := a.c_Unlike) (d0 := d0) (l0 := kF one two three 10) rfl hpn T.e_Unlike T.e_NothingToUndo (nodup_ne T.ne (i := 0) (j := 15) rfl rfl (by decide)) (fun z => (nodup_ne T.ne (i := 11) (j := 15) rfl rfl (by decide) z).elim) (fun _ => ?_))
    refine ds_seq (ds_isE (a0 := a0) (C := a.c_Unlike) (d0 := d0) (l0 := kF one two three 10) rfl hpn T.e_Unlike T.e_NothingToRedo (nodup_ne T.ne (i := 0) (j := 16) rfl rfl (by decide)) (fun z => (nodup_ne T.ne (i := 11) (j := 16) rfl rfl (by decide) z).elim) (fun _ => ?_))
    exact ds_share (i := 1) rfl (ds_ret (de_var rfl hR))
  · have hR : R (.lst [kT one two three 11]) := hR
    refine ds_seq (ds_isE (a0 := a0) (C := a.c_NotThere) (d0 := d0) (l0 := kF one two three 11) rfl hpn T.e_NotThere T.e_NoName (nodup_ne T.ne (i := 0) (j := 9) rfl rfl (by decide)) (fun z => (nodup_ne T.ne (i := 12) (j := 9) rfl rfl (by decide) z).elim) (fun _ => ?_))
    refine ds_seq (ds_isE (a0 := a0) (C := a.c_NotThere) (d0 := d0) (l0 := kF one two three 11) rfl hpn T.e_NotThere T.e_TakenName (nodup_ne T.ne (i := 0) (j := 10) rfl rfl (by decide)) (fun z => (nodup_ne T.ne (i := 12) (j := 10) rfl rfl (by decide) z).elim) (fun _ => ?_))
    refine ds_seq (ds_isE (a0 := a0) (C := a.c_NotThere) (d0 := d0) (l0 := kF one two three 11) rfl hpn T.e_NotThere T.e_Unlike (nodup_ne T.ne (i := 0) (j := 11) rfl rfl (by decide)) (fun z => (nodup_ne T.ne (i := 12) (j := 11) rfl rfl (by decide) z).elim) (fun _ => ?_))
    refine ds_seq (ds_isE (a0 := a0) (C := a.c_NotThere) (d0 := d0) (l0 := kF one two three 11) rfl hpn T.e_NotThere T.e_NotThere (nodup_ne T.ne (i := 0) (j := 12) rfl rfl (by decide)) (fun _ => ds_app rfl (de_tup (da_cons (de_str (da_cons (de_xe (de_var rfl ⟨a0, d0, a.c_NotThere, kF one two three 11, one, rfl, hpn, T.no_NotThere_paper, rfl, da_nil ⟨by simp, (show 0 < 16000 by decide), ?_⟩⟩))))))) (fun z => (z rfl).elim))
    refine ds_seq (ds_isE (a0 := a0) (C := a.c_NotThere) (d0 := d0) (l0 := kF one two three 11) rfl hpn T.e_NotThere T.e_TooMany (nodup_ne T.ne (i := 0) (j := 13) rfl rfl (by decide)) (fun z => (nodup_ne T.ne (i := 12) (j := 13) rfl rfl (by decide) z).elim) (fun _ => ?_))
    refine ds_seq (ds_isE (a0 := a0) (C := a.c_NotThere) (d0 := d0) (l0 := kF one two three 11) rfl hpn T.e_NotThere T.e_NotKept (nodup_ne T.ne (i := 0) (j := 14) rfl rfl (by decide)) (fun z => (nodup_ne T.ne (i := 12) (j := 14) rfl rfl (by decide) z).elim) (fun _ => ?_))
    refine ds_seq (ds_isE (a0 := a0) (C := a.c_NotThere) (d0 := d0) (l0 := kF one two three 11) rfl hpn T.e_NotThere T.e_NothingToUndo (nodup_ne T.ne (i := 0) (j := 15) rfl rfl (by decide)) (fun z => (nodup_ne T.ne (i := 12) (j := 15) rfl rfl (by decide) z).elim) (fun _ => ?_))
    refine ds_seq (ds_isE (a0 := a0) (C := a.c_NotThere) (d0 := d0) (l0 := kF one two three 11) rfl hpn T.e_NotThere T.e_NothingToRedo (nodup_ne T.ne (i := 0) (j := 16) rfl rfl (by decide)) (fun z => (nodup_ne T.ne (i := 12) (j := 16) rfl rfl (by decide) z).elim) (fun _ => ?_))
    exact ds_share (i := 1) rfl (ds_ret (de_var rfl hR))
  · have hR : R (.lst [kT one two three 12]) := hR
    refine ds_seq (ds_isE (a0 := a0) (C := a.c_TooMany) (d0 := d0) (l0 := kF one two three 12) rfl hpn T.e_TooMany T.e_NoName (nodup_ne T.ne (i := 0) (j := 9) rfl rfl (by decide)) (fun z => (nodup_ne T.ne (i := 13) (j := 9) rfl rfl (by decide) z).elim) (fun _ => ?_))
    refine ds_seq (ds_isE (a0 := a0) (C := a.c_TooMany) (d0 := d0) (l0 := kF one two three 12) rfl hpn T.e_TooMany T.e_TakenName (nodup_ne T.ne (i := 0) (j := 10) rfl rfl (by decide)) (fun z => (nodup_ne T.ne (i := 13) (j := 10) rfl rfl (by decide) z).elim) (fun _ => ?_))
    refine ds_seq (ds_isE (a0 := a0) (C := a.c_TooMany) (d0 := d0) (l0 := kF one two three 12) rfl hpn T.e_TooMany T.e_Unlike (nodup_ne T.ne (i := 0) (j := 11) rfl rfl (by decide)) (fun z => (nodup_ne T.ne (i := 13) (j := 11) rfl rfl (by decide) z).elim) (fun _ => ?_))
    refine ds_seq (ds_isE (a0 := a0) (C := a.c_TooMany) (d0 := d0) (l0 := kF one two three 12) rfl hpn T.e_TooMany T.e_NotThere (nodup_ne T.ne (i := 0) (j := 12) rfl rfl (by decide)) (fun z => (nodup_ne T.ne (i := 13) (j := 12) rfl rfl (by decide) z).elim) (fun _ => ?_))
    refine ds_seq (ds_isE (a0 := a0) (C := a.c_TooMany) (d0 := d0) (l0 := kF one two three 12) rfl hpn T.e_TooMany T.e_TooMany (nodup_ne T.ne (i := 0) (j := 13) rfl rfl (by decide)) (fun _ => ds_app rfl (de_tup (da_cons (de_str (da_cons (de_xe (de_var rfl ⟨a0, d0, a.c_TooMany, kF one two three 12, one, rfl, hpn, T.no_TooMany_what, rfl, da_cons (de_xe (de_var rfl ⟨a0, d0, a.c_TooMany, kF one two three 12, two, rfl, hpn, T.no_TooMany_many, rfl, da_cons (de_xe (de_var rfl ⟨a0, d0, a.c_TooMany, kF one two three 12, three, rfl, hpn, T.no_TooMany_limit, rfl, da_nil ⟨by simp, (show 0 < 16000 by decide), ?_⟩⟩))⟩))⟩))))))) (fun z => (z rfl).elim))
    refine ds_seq (ds_isE (a0 := a0) (C := a.c_TooMany) (d0 := d0) (l0 := kF one two three 12) rfl hpn T.e_TooMany T.e_NotKept (nodup_ne T.ne (i := 0) (j := 14) rfl rfl (by decide)) (fun z => (nodup_ne T.ne (i := 13) (j := 14) rfl rfl (by decide) z).elim) (fun _ => ?_))
    refine ds_seq (ds_isE (a0 := a0) (C := a.c_TooMany) (d0 := d0) (l0 := kF one two three 12) rfl hpn T.e_TooMany T.e_NothingToUndo (nodup_ne T.ne (i := 0) (j := 15) rfl rfl (by decide)) (fun z => (nodup_ne T.ne (i := 13) (j := 15) rfl rfl (by decide) z).elim) (fun _ => ?_))
    refine ds_seq (ds_isE (a0 := a0) (C := a.c_TooMany) (d0 := d0) (l0 := kF one two three 12) rfl hpn T.e_TooMany T.e_NothingToRedo (nodup_ne T.ne (i := 0) (j := 16) rfl rfl (by decide)) (fun z => (nodup_ne T.ne (i := 13) (j := 16) rfl rfl (by decide) z).elim) (fun _ => ?_))
    exact ds_share (i := 1) rfl (ds_ret (de_var rfl hR))
  · have hR : R (.lst [kT one two three 13]) := hR
    refine ds_seq (ds_isE (a0 := a0) (C := a.c_NotKept) (d0 := d0) (l0 := kF one two three 13) rfl hpn T.e_NotKept T.e_NoName (nodup_ne T.ne (i := 0) (j := 9) rfl rfl (by decide)) (fun z => (nodup_ne T.ne (i := 14) (j := 9) rfl rfl (by decide) z).elim) (fun _ => ?_))
    refine ds_seq (ds_isE (a0 := a0) (C := a.c_NotKept) (d0 := d0) (l0 := kF one two three 13) rfl hpn T.e_NotKept T.e_TakenName (nodup_ne T.ne (i := 0) (j := 10) rfl rfl (by decide)) (fun z => (nodup_ne T.ne (i := 14) (j := 10) rfl rfl (by decide) z).elim) (fun _ => ?_))
    refine ds_seq (ds_isE (a0 := a0) (C := a.c_NotKept) (d0 := d0) (l0 := kF one two three 13) rfl hpn T.e_NotKept T.e_Unlike (nodup_ne T.ne (i := 0) (j := 11) rfl rfl (by decide)) (fun z => (nodup_ne T.ne (i := 14) (j := 11) rfl rfl (by decide) z).elim) (fun _ => ?_))
    refine ds_seq (ds_isE (a0 := a0) (C := a.c_NotKept) (d0 := d0) (l0 := kF one two three 13) rfl hpn T.e_NotKept T.e_NotThere (nodup_ne T.ne (i := 0) (j := 12) rfl rfl (by decide)) (fun z => (nodup_ne T.ne (i := 14) (j := 12) rfl rfl (by decide) z).elim) (fun _ => ?_))
    refine ds_seq (ds_isE (a0 := a0) (C := a.c_NotKept) (d0 := d0) (l0 := kF one two three 13) rfl hpn T.e_NotKept T.e_TooMany (nodup_ne T.ne (i := 0) (j := 13) rfl rfl (by decide)) (fun z => (nodup_ne T.ne (i := 14) (j := 13) rfl rfl (by decide) z).elim) (fun _ => ?_))
    refine ds_seq (ds_isE (a0 := a0) (C := a.c_NotKept) (d0 := d0) (l0 := kF one two three 13) rfl hpn T.e_NotKept T.e_NotKept (nodup_ne T.ne (i := 0) (j := 14) rfl rfl (by decide)) (fun _ => ds_app rfl (de_tup (da_cons (de_str (da_cons (de_xe (de_var rfl ⟨a0, d0, a.c_NotKept, kF one two three 13, one, rfl, hpn, T.no_NotKept_promise, rfl, da_cons (de_xe (de_var rfl ⟨a0, d0, a.c_NotKept, kF one two three 13, two, rfl, hpn, T.no_NotKept_witness, rfl, da_nil ⟨by simp, (show 0 < 16000 by decide), ?_⟩⟩))⟩))))))) (fun z => (z rfl).elim))
    refine ds_seq (ds_isE (a0 := a0) (C := a.c_NotKept) (d0 := d0) (l0 := kF one two three 13) rfl hpn T.e_NotKept T.e_NothingToUndo (nodup_ne T.ne (i := 0) (j := 15) rfl rfl (by decide)) (fun z => (nodup_ne T.ne (i := 14) (j := 15) rfl rfl (by decide) z).elim) (fun _ => ?_))
    refine ds_seq (ds_isE (a0 := a0) (C := a.c_NotKept) (d0 := d0) (l0 := kF one two three 13) rfl hpn T.e_NotKept T.e_NothingToRedo (nodup_ne T.ne (i := 0) (j := 16) rfl rfl (by decide)) (fun z => (nodup_ne T.ne (i := 14) (j := 16) rfl rfl (by decide) z).elim) (fun _ => ?_))
    exact ds_share (i := 1) rfl (ds_ret (de_var rfl hR))
  · have hR : R (.lst [kT one two three 14]) := hR
    refine ds_seq (ds_isE (a0 := a0) (C := a.c_NothingToUndo) (d0 := d0) (l0 := kF one two three 14) rfl hpn T.e_NothingToUndo T.e_NoName (nodup_ne T.ne (i := 0) (j := 9) rfl rfl (by decide)) (fun z => (nodup_ne T.ne (i := 15) (j := 9) rfl rfl (by decide) z).elim) (fun _ => ?_))
    refine ds_seq (ds_isE (a0 := a0) (C := a.c_NothingToUndo) (d0 := d0) (l0 := kF one two three 14) rfl hpn T.e_NothingToUndo T.e_TakenName (nodup_ne T.ne (i := 0) (j := 10) rfl rfl (by decide)) (fun z => (nodup_ne T.ne (i := 15) (j := 10) rfl rfl (by decide) z).elim) (fun _ => ?_))
    refine ds_seq (ds_isE (a0 := a0) (C := a.c_NothingToUndo) (d0 := d0) (l0 := kF one two three 14) rfl hpn T.e_NothingToUndo T.e_Unlike (nodup_ne T.ne (i := 0) (j := 11) rfl rfl (by decide)) (fun z => (nodup_ne T.ne (i := 15) (j := 11) rfl rfl (by decide) z).elim) (fun _ => ?_))
    refine ds_seq (ds_isE (a0 := a0) (C := a.c_NothingToUndo) (d0 := d0) (l0 := kF one two three 14) rfl hpn T.e_NothingToUndo T.e_NotThere (nodup_ne T.ne (i := 0) (j := 12) rfl rfl (by decide)) (fun z => (nodup_ne T.ne (i := 15) (j := 12) rfl rfl (by decide) z).elim) (fun _ => ?_))
    refine ds_seq (ds_isE (a0 := a0) (C := a.c_NothingToUndo) (d0 := d0) (l0 := kF one two three 14) rfl hpn T.e_NothingToUndo T.e_TooMany (nodup_ne T.ne (i := 0) (j := 13) rfl rfl (by decide)) (fun z => (nodup_ne T.ne (i := 15) (j := 13) rfl rfl (by decide) z).elim) (fun _ => ?_))
    refine ds_seq (ds_isE (a0 := a0) (C := a.c_NothingToUndo) (d0 := d0) (l0 := kF one two three 14) rfl hpn T.e_NothingToUndo T.e_NotKept (nodup_ne T.ne (i := 0) (j := 14) rfl rfl (by decide)) (fun z => (nodup_ne T.ne (i := 15) (j := 14) rfl rfl (by decide) z).elim) (fun _ => ?_))
    refine ds_seq (ds_isE (a0 := a0) (C := a.c_NothingToUndo) (d0 := d0) (l0 := kF one two three 14) rfl hpn T.e_NothingToUndo T.e_NothingToUndo (nodup_ne T.ne (i := 0) (j := 15) rfl rfl (by decide)) (fun _ => ds_app rfl (de_tup (da_cons (de_str (da_nil ⟨by simp, (show 0 < 16000 by decide), ?_⟩))))) (fun z => (z rfl).elim))
    refine ds_seq (ds_isE (a0 := a0) (C := a.c_NothingToUndo) (d0 := d0) (l0 := kF one two three 14) rfl hpn T.e_NothingToUndo T.e_NothingToRedo (nodup_ne T.ne (i := 0) (j := 16) rfl rfl (by decide)) (fun z => (nodup_ne T.ne (i := 15) (j := 16) rfl rfl (by decide) z).elim) (fun _ => ?_))
    exact ds_share (i := 1) rfl (ds_ret (de_var rfl hR))
  · have hR : R (.lst [kT one two three 15]) := hR
    refine ds_seq (ds_isE (a0 := a0) (C := a.c_NothingToRedo) (d0 := d0) (l0 := kF one two three 15) rfl hpn T.e_NothingToRedo T.e_NoName (nodup_ne T.ne (i := 0) (j := 9) rfl rfl (by decide)) (fun z => (nodup_ne T.ne (i := 16) (j := 9) rfl rfl (by decide) z).elim) (fun _ => ?_))
    refine ds_seq (ds_isE (a0 := a0) (C := a.c_NothingToRedo) (d0 := d0) (l0 := kF one two three 15) rfl hpn T.e_NothingToRedo T.e_TakenName (nodup_ne T.ne (i := 0) (j := 10) rfl rfl (by decide)) (fun z => (nodup_ne T.ne (i := 16) (j := 10) rfl rfl (by decide) z).elim) (fun _ => ?_))
    refine ds_seq (ds_isE (a0 := a0) (C := a.c_NothingToRedo) (d0 := d0) (l0 := kF one two three 15) rfl hpn T.e_NothingToRedo T.e_Unlike (nodup_ne T.ne (i := 0) (j := 11) rfl rfl (by decide)) (fun z => (nodup_ne T.ne (i := 16) (j := 11) rfl rfl (by decide) z).elim) (fun _ => ?_))
    refine ds_seq (ds_isE (a0 := a0) (C := a.c_NothingToRedo) (d0 := d0) (l0 := kF one two three 15) rfl hpn T.e_NothingToRedo T.e_NotThere (nodup_ne T.ne (i := 0) (j := 12) rfl rfl (by decide)) (fun z => (nodup_ne T.ne (i := 16) (j := 12) rfl rfl (by decide) z).elim) (fun _ => ?_))
    refine ds_seq (ds_isE (a0 := a0) (C := a.c_NothingToRedo) (d0 := d0) (l0 := kF one two three 15) rfl hpn T.e_NothingToRedo T.e_TooMany (nodup_ne T.ne (i := 0) (j := 13) rfl rfl (by decide)) (fun z => (nodup_ne T.ne (i := 16) (j := 13) rfl rfl (by decide) z).elim) (fun _ => ?_))
    refine ds_seq (ds_isE (a0 := a0) (C := a.c_NothingToRedo) (d0 := d0) (l0 := kF one two three 15) rfl hpn T.e_NothingToRedo T.e_NotKept (nodup_ne T.ne (i := 0) (j := 14) rfl rfl (by decide)) (fun z => (nodup_ne T.ne (i := 16) (j := 14) rfl rfl (by decide) z).elim) (fun _ => ?_))
    refine ds_seq (ds_isE (a0 := a0) (C := a.c_NothingToRedo) (d0 := d0) (l0 := kF one two three 15) rfl hpn T.e_NothingToRedo T.e_NothingToUndo (nodup_ne T.ne (i := 0) (j := 15) rfl rfl (by decide)) (fun z => (nodup_ne T.ne (i := 16) (j := 15) rfl rfl (by decide) z).elim) (fun _ => ?_))
    refine ds_seq (ds_isE (a0 := a0) (C := a.c_NothingToRedo) (d0 := d0) (l0 := kF one two three 15) rfl hpn T.e_NothingToRedo T.e_NothingToRedo (nodup_ne T.ne (i := 0) (j := 16) rfl rfl (by decide)) (fun _ => ds_app rfl (de_tup (da_cons (de_str (da_nil ⟨by simp, (show 0 < 16000 by decide), ?_⟩))))) (fun z => (z rfl).elim))
    exact ds_share (i := 1) rfl (ds_ret (de_var rfl hR))
def F_law_kinds (K : PySem.W.Frag) (a : Ad) (pl : Pins) : DF := fun ss R _ => ∃ (k : Nat) (a0 : Addr) (d0 : Option Addr) (one two three : D), k < 16 ∧ PnOk K pl a0 d0 (kC a k) ∧ ss = [.sh (.exc a0 d0 (kC a k) (kF one two three k))] ∧ Fd one ∧ Fd two ∧ Fd three ∧ R (.lst ([kT one two three k]))
theorem ok__law_kinds (T : Tx K mg a) (hS : SysD base) : FnG P w K mg base false 2 a.f__law_kinds a.d__law_kinds (["e"] : List Str) (spP K (fun _ => True) (F_law_kinds K a)) := by
  refine fn_dataP T.F__law_kinds sc__law_kinds (fun pl ss R X z => by obtain ⟨_, _, _, _, _, _, _, _, h, _⟩ := z; rw [h] <;> rfl) fun cdv A outer s H E pl hr _ => ⟨_, (pss_cons (ps_set (i := 1) sc__law_kinds.nd rfl (Or.inl rfl) (pe_lst pa_nil))
      (pss_cons (ps_if (pt_val (pe_callB (call_isG (pn := (fun a d C => PnOk K pl a d C)) (fun _ _ _ z => z)) (by rfl) T.n_isinstance PyProof.Rows.boot_isinstance (pa_cons (pv 0) (pa_cons (pe_glob (v := .ref a.c_BadNumber) (by rfl) T.g_BadNumber rfl) pa_nil)))) (pss_one (ps_expr (pe_bm PySem.F.plainAttrs_list PySem.F.slot_list_append PySem.F.type_list_append mt_append (pv 1) (pa_cons (pe_tup (pa_cons pe_str (pa_cons (pe_xe (pn := (fun a d C => PnOk K pl a d C)) (fun _ _ _ z => z) (pv 0)) (pa_cons (pe_callB (call_repr hS (hr.gd) hr.hu) (by rfl) T.n_repr PyProof.Rows.boot_repr (pa_cons (pe_xe (pn := (fun a d C => PnOk K pl a d C)) (fun _ _ _ z => z) (pv 0)) pa_nil)) pa_nil)))) pa_nil)))) pss_nil)
      (pss_cons (ps_if (pt_val (pe_callB (call_isG (pn := (fun a d C => PnOk K pl a d C)) (fun _ _ _ z => z)) (by rfl) T.n_isinstance PyProof.Rows.boot_isinstance (pa_cons (pv 0) (pa_cons (pe_glob (v := .ref a.c_BadRow) (by rfl) T.g_BadRow rfl) pa_nil)))) (pss_one (ps_expr (pe_bm PySem.F.plainAttrs_list PySem.F.slot_list_append PySem.F.type_list_append mt_append (pv 1) (pa_cons (pe_tup (pa_cons pe_str (pa_cons (pe_xe (pn := (fun a d C => PnOk K pl a d C)) (fun _ _ _ z => z) (pv 0)) (pa_cons (pe_callB (call_repr hS (hr.gd) hr.hu) (by rfl) T.n_repr PyProof.Rows.boot_repr (pa_cons (pe_xe (pn := (fun a d C => PnOk K pl a d C)) (fun _ _ _ z => z) (pv 0)) pa_nil)) pa_nil)))) pa_nil)))) pss_nil)
      (pss_cons (ps_if (pt_val (pe_callB (call_isG (pn := (fun a d C => PnOk K pl a d C)) (fun _ _ _ z => z)) (by rfl) T.n_isinstance PyProof.Rows.boot_isinstance (pa_cons (pv 0) (pa_cons (pe_glob (v := .ref a.c_BadTable) (by rfl) T.g_BadTable rfl) pa_nil)))) (pss_one (ps_expr (pe_bm PySem.F.plainAttrs_list PySem.F.slot_list_append PySem.F.type_list_append mt_append (pv 1) (pa_cons (pe_tup (pa_cons pe_str (pa_cons (pe_xe (pn := (fun a d C => PnOk K pl a d C)) (fun _ _ _ z => z) (pv 0)) pa_nil))) pa_nil)))) pss_nil)
      (pss_cons (ps_if (pt_val (pe_callB (call_isG (pn := (fun a d C => PnOk K pl a d C)) (fun _ _ _ z => z)) (by rfl) T.n_isinstance PyProof.Rows.boot_isinstance (pa_cons (pv 0) (pa_cons (pe_glob (v := .ref a.c_BadForm) (by rfl) T.g_BadForm rfl) pa_nil)))) (pss_one (ps_expr (pe_bm PySem.F.plainAttrs_list PySem.F.slot_list_append PySem.F.type_list_append mt_append (pv 1) (pa_cons (pe_tup (pa_cons pe_str (pa_cons (pe_xe (pn := (fun a d C => PnOk K pl a d C)) (fun _ _ _ z => z) (pv 0)) pa_nil))) pa_nil)))) pss_nil)
      (pss_cons (ps_if (pt_val (pe_callB (call_isG (pn := (fun a d C => PnOk K pl a d C)) (fun _ _ _ z => z)) (by rfl) T.n_isinstance PyProof.Rows.boot_isinstance (pa_cons (pv 0) (pa_cons (pe_glob (v := .ref a.c_BadBook) (by rfl) T.g_BadBook rfl) pa_nil)))) (pss_one (ps_expr (pe_bm PySem.F.plainAttrs_list PySem.F.slot_list_append PySem.F.type_list_append mt_append (pv 1) (pa_cons (pe_tup (pa_cons pe_str (pa_cons (pe_xe (pn := (fun a d C => PnOk K pl a d C)) (fun _ _ _ z => z) (pv 0)) pa_nil))) pa_nil)))) pss_nil)
      (pss_cons (ps_if (pt_val (pe_callB (call_isG (pn := (fun a d C => PnOk K pl a d C)) (fun _ _ _ z => z)) (by rfl) T.n_isinstance PyProof.Rows.boot_isinstance (pa_cons (pv 0) (pa_cons (pe_glob (v := .ref a.c_BadName) (by rfl) T.g_BadName rfl) pa_nil)))) (pss_one (ps_expr (pe_bm PySem.F.plainAttrs_list PySem.F.slot_list_append PySem.F.type_list_append mt_append (pv 1) (pa_cons (pe_tup (pa_cons pe_str (pa_cons (pe_callB (call_repr hS (hr.gd) hr.hu) (by rfl) T.n_repr PyProof.Rows.boot_repr (pa_cons (pe_xe (pn := (fun a d C => PnOk K pl a d C)) (fun _ _ _ z => z) (pv 0)) pa_nil)) pa_nil))) pa_nil)))) pss_nil)
      (pss_cons (ps_if (pt_val (pe_callB (call_isG (pn := (fun a d C => PnOk K pl a d C)) (fun _ _ _ z => z)) (by rfl) T.n_isinstance PyProof.Rows.boot_isinstance (pa_cons (pv 0) (pa_cons (pe_glob (v := .ref a.c_BadText) (by rfl) T.g_BadText rfl) pa_nil)))) (pss_one (ps_expr (pe_bm PySem.F.plainAttrs_list PySem.F.slot_list_append PySem.F.type_list_append mt_append (pv 1) (pa_cons (pe_tup (pa_cons pe_str (pa_cons (pe_xe (pn := (fun a d C => PnOk K pl a d C)) (fun _ _ _ z => z) (pv 0)) (pa_cons (pe_xe (pn := (fun a d C => PnOk K pl a d C)) (fun _ _ _ z => z) (pv 0)) pa_nil)))) pa_nil)))) pss_nil)
      (pss_cons (ps_if (pt_val (pe_callB (call_isG (pn := (fun a d C => PnOk K pl a d C)) (fun _ _ _ z => z)) (by rfl) T.n_isinstance PyProof.Rows.boot_isinstance (pa_cons (pv 0) (pa_cons (pe_glob (v := .ref a.c_NoPlace) (by rfl) T.g_NoPlace rfl) pa_nil)))) (pss_one (ps_expr (pe_bm PySem.F.plainAttrs_list PySem.F.slot_list_append PySem.F.type_list_append mt_append (pv 1) (pa_cons (pe_tup (pa_cons pe_str (pa_cons (pe_xe (pn := (fun a d C => PnOk K pl a d C)) (fun _ _ _ z => z) (pv 0)) (pa_cons (pe_callB (call_repr hS (hr.gd) hr.hu) (by rfl) T.n_repr PyProof.Rows.boot_repr (pa_cons (pe_xe (pn := (fun a d C => PnOk K pl a d C)) (fun _ _ _ z => z) (pv 0)) pa_nil)) pa_nil)))) pa_nil)))) pss_nil)
      (pss_one (ps_ret (pe_op op_addG (pv 1) (pe_go (ok__law_more_kinds T hS) (hr.mono (by decide)) (fun _ h => h) (by rfl) T.g__law_more_kinds T.F__law_more_kinds.kp T.b__law_more_kinds lets0 (pa_cons (pv 0) pa_nil)))))))))))))), fun b ss R X h hX => ?_⟩
  obtain ⟨k, a0, d0, one, two, three, hk, hpn, rfl, h1, h2, h3, hR⟩ := h
  have ok1 := h1.ok (by decide) (by decide)
  have ok2 := h2.ok (by decide) (by decide)
  refine ds_seq (ds_own (dn_lst (da_nil ⟨by decide, ?_⟩)))
  have hk' : k = 0 ∨ k = 1 ∨ k = 2 ∨ k = 3 ∨ k = 4 ∨ k = 5 ∨ k = 6 ∨ k = 7 ∨ k = 8 ∨ k = 9 ∨ k = 10 ∨ k = 11 ∨ k = 12 ∨ k = 13 ∨ k = 14 ∨ k = 15 := by omega
  rcases hk' with rfl | rfl | rfl | rfl | rfl | rfl | rfl | rfl | rfl | rfl | rfl | rfl | rfl | rfl | rfl | rfl
  · have hR : R (.lst [kT one two three 0]) := hR
    refine ds_seq (ds_isE (a0 := a0) (C := a.c_BadNumber) (d0 := d0) (l0 := kF one two three 0) rfl hpn T.e_BadNumber T.e_BadNumber (nodup_ne T.ne (i := 0) (j := 1) rfl rfl (by decide)) (fun _ => ds_app rfl (de_tup (da_cons (de_str (da_cons (de_xe (de_var rfl ⟨a0, d0, a.c_BadNumber, kF one two three 0, one, rfl, hpn, T.no_BadNumber_what, rfl, da_cons (de_repr (de_xe (de_var rfl ⟨a0, d0, a.c_BadNumber, kF one two three 0, two, rfl, hpn, T.no_BadNumber_number, rfl, ok2, da_nil ⟨by simp, (show 0 < 16000 by decide), ?_⟩⟩)))⟩))))))) (fun z => (z rfl).elim))
    refine ds_seq (ds_isE (a0 := a0) (C := a.c_BadNumber) (d0 := d0) (l0 := kF one two three 0) rfl hpn T.e_BadNumber T.e_BadRow (nodup_ne T.ne (i := 0) (j := 2) rfl rfl (by decide)) (fun z => (nodup_ne T.ne (i := 1) (j := 2) rfl rfl (by decide) z).elim) (fun _ => ?_))
    refine ds_seq (ds_isE (a0 := a0) (C := a.c_BadNumber) (d0 := d0) (l0 := kF one two three 0) rfl hpn T.e_BadNumber T.e_BadTable (nodup_ne T.ne (i := 0) (j := 3) rfl rfl (by decide)) (fun z => (nodup_ne T.ne (i := 1) (j := 3) rfl rfl (by decide) z).elim) (fun _ => ?_))
    refine ds_seq (ds_isE (a0 := a0) (C := a.c_BadNumber) (d0 := d0) (l0 := kF one two three 0) rfl hpn T.e_BadNumber T.e_BadForm (nodup_ne T.ne (i := 0) (j := 4) rfl rfl (by decide)) (fun z => (nodup_ne T.ne (i := 1) (j := 4) rfl rfl (by decide) z).elim) (fun _ => ?_))
    refine ds_seq (ds_isE (a0 := a0) (C := a.c_BadNumber) (d0 := d0) (l0 := kF one two three 0) rfl hpn T.e_BadNumber T.e_BadBook (nodup_ne T.ne (i := 0) (j := 5) rfl rfl (by decide)) (fun z => (nodup_ne T.ne (i := 1) (j := 5) rfl rfl (by decide) z).elim) (fun _ => ?_))
    refine ds_seq (ds_isE (a0 := a0) (C := a.c_BadNumber) (d0 := d0) (l0 := kF one two three 0) rfl hpn T.e_BadNumber T.e_BadName (nodup_ne T.ne (i := 0) (j := 6) rfl rfl (by decide)) (fun z => (nodup_ne T.ne (i := 1) (j := 6) rfl rfl (by decide) z).elim) (fun _ => ?_))
    refine ds_seq (ds_isE (a0 := a0) (C := a.c_BadNumber) (d0 := d0) (l0 := kF one two three 0) rfl hpn T.e_BadNumber T.e_BadText (nodup_ne T.ne (i := 0) (j := 7) rfl rfl (by decide)) (fun z => (nodup_ne T.ne (i := 1) (j := 7) rfl rfl (by decide) z).elim) (fun _ => ?_))
    refine ds_seq (ds_isE (a0 := a0) (C := a.c_BadNumber) (d0 := d0) (l0 := kF one two three 0) rfl hpn T.e_BadNumber T.e_NoPlace (nodup_ne T.ne (i := 0) (j := 8) rfl rfl (by decide)) (fun z => (nodup_ne T.ne (i := 1) (j := 8) rfl rfl (by decide) z).elim) (fun _ => ?_))
    exact ds_ret (de_new (dn_addL_own rfl (de_callP EL.no trivial (dc_cons (de_var rfl (dc_nil ⟨0, a0, d0, one, two, three, by decide, hpn, rfl, h1, h2, h3, _, rfl, (show 1 ≤ 16000 by decide), hR⟩))))))
  · have hR : R (.lst [kT one two three 1]) := hR
    refine ds_seq (ds_isE (a0 := a0) (C := a.c_BadRow) (d0 := d0) (l0 := kF one two three 1) rfl hpn T.e_BadRow T.e_BadNumber (nodup_ne T.ne (i := 0) (j := 1) rfl rfl (by decide)) (fun z => (nodup_ne T.ne (i := 2) (j := 1) rfl rfl (by decide) z).elim) (fun _ => ?_))
    refine ds_seq (ds_isE (a0 := a0) (C := a.c_BadRow) (d0 := d0) (l0 := kF one two three 1) rfl hpn T.e_BadRow T.e_BadRow (nodup_ne T.ne (i := 0) (j := 2) rfl rfl (by decide)) (fun _ => ds_app rfl (de_tup (da_cons (de_str (da_cons (de_xe (de_var rfl ⟨a0, d0, a.c_BadRow, kF one two three 1, one, rfl, hpn, T.no_BadRow_what, rfl, da_cons (de_repr (de_xe (de_var rfl ⟨a0, d0, a.c_BadRow, kF one two three 1, two, rfl, hpn, T.no_BadRow_row, rfl, ok2, da_nil ⟨by simp, (show 0 < 16000 by decide), ?_⟩⟩)))⟩))))))) (fun z => (z rfl).elim))
    refine ds_seq (ds_isE (a0 := a0) (C := a.c_BadRow) (d0 := d0) (l0 := kF one two three 1) rfl hpn T.e_BadRow T.e_BadTable (nodup_ne T.ne (i := 0) (j := 3) rfl rfl (by decide)) (fun z => (nodup_ne T.ne (i := 2) (j := 3) rfl rfl (by decide) z).elim) (fun _ => ?_))
    refine ds_seq (ds_isE (a0 := a0) (C := a.c_BadRow) (d0 := d0) (l0 := kF one two three 1) rfl hpn T.e_BadRow T.e_BadForm (nodup_ne T.ne (i := 0) (j := 4) rfl rfl (by decide)) (fun z => (nodup_ne T.ne (i := 2) (j := 4) rfl rfl (by decide) z).elim) (fun _ => ?_))
    refine ds_seq (ds_isE (a0 := a0) (C := a.c_BadRow) (d0 := d0) (l0 := kF one two three 1) rfl hpn T.e_BadRow T.e_BadBook (nodup_ne T.ne (i := 0) (j := 5) rfl rfl (by decide)) (fun z => (nodup_ne T.ne (i := 2) (j := 5) rfl rfl (by decide) z).elim) (fun _ => ?_))
    refine ds_seq (ds_isE (a0 := a0) (C := a.c_BadRow) (d0 := d0) (l0 := kF one two three 1) rfl hpn T.e_BadRow T.e_BadName (nodup_ne T.ne (i := 0) (j := 6) rfl rfl (by decide)) (fun z => (nodup_ne T.ne (i := 2) (j := 6) rfl rfl (by decide) z).elim) (fun _ => ?_))
    refine ds_seq (ds_isE (a0 := a0) (C := a.c_BadRow) (d0 := d0) (l0 := kF one two three 1) rfl hpn T.e_BadRow T.e_BadText (nodup_ne T.ne (i := 0) (j := 7) rfl rfl (by decide)) (fun z => (nodup_ne T.ne (i := 2) (j := 7) rfl rfl (by decide) z).elim) (fun _ => ?_))
    refine ds_seq (ds_isE (a0 := a0) (C := a.c_BadRow) (d0 := d0) (l0 := kF one two three 1) rfl hpn T.e_BadRow T.e_NoPlace (nodup_ne T.ne (i := 0) (j := 8) rfl rfl (by decide)) (fun z => (nodup_ne T.ne (i := 2) (j := 8) rfl rfl (by decide) z).elim) (fun _ => ?_))
    exact ds_ret (de_new (dn_addL_own rfl (de_callP EL.no trivial (dc_cons (de_var rfl (dc_nil ⟨1, a0, d0, one, two, three, by decide, hpn, rfl, h1, h2, h3, _, rfl, (show 1 ≤ 16000 by decide), hR⟩))))))
  · have hR : R (.lst [kT one two three 2]) := hR
    refine ds_seq (ds_isE (a0 := a0) (C := a.c_BadTable) (d0 := d0) (l0 := kF one two three 2) rfl hpn T.e_BadTable T.e_BadNumber (nodup_ne T.ne (i := 0) (j := 1) rfl rfl (by decide)) (fun z => (nodup_ne T.ne (i := 3) (j := 1) rfl rfl (by decide) z).elim) (fun _ => ?_))
    refine ds_seq (ds_isE (a0 := a0) (C := a.c_BadTable) (d0 := d0) (l0 := kF one two three 2) rfl hpn T.e_BadTable T.e_BadRow (nodup_ne T.ne (i := 0) (j := 2) rfl rfl (by decide)) (fun z => (nodup_ne T.ne (i := 3) (j := 2) rfl rfl (by decide) z).elim) (fun _ => ?_))
    refine ds_seq (ds_isE (a0 := a0) (C := a.c_BadTable) (d0 := d0) (l0 := kF one two three 2) rfl hpn T.e_BadTable T.e_BadTable (nodup_ne T.ne (i := 0) (j := 3) rfl rfl (by decide)) (fun _ => ds_app rfl (de_tup (da_cons (de_str (da_cons (de_xe (de_var rfl ⟨a0, d0, a.c_BadTable, kF one two three 2, one, rfl, hpn, T.no_BadTable_what, rfl, da_nil ⟨by simp, (show 0 < 16000 by decide), ?_⟩⟩))))))) (fun z => (z rfl).elim))
    refine ds_seq (ds_isE (a0 := a0) (C := a.c_BadTable) (d0 := d0) (l0 := kF one two three 2) rfl hpn T.e_BadTable T.e_BadForm (nodup_ne T.ne (i := 0) (j := 4) rfl rfl (by decide)) (fun z => (nodup_ne T.ne (i := 3) (j := 4) rfl rfl (by decide) z).elim) (fun _ => ?_))
    refine ds_seq (ds_isE (a0 := a0) (C := a.c_BadTable) (d0 := d0) (l0 := kF one two three 2) rfl hpn T.e_BadTable T.e_BadBook (nodup_ne T.ne (i := 0) (j := 5) rfl rfl (by decide)) (fun z => (nodup_ne T.ne (i := 3) (j := 5) rfl rfl (by decide) z).elim) (fun _ => ?_))
    refine ds_seq (ds_isE (a0 := a0) (C := a.c_BadTable) (d0 := d0) (l0 := kF one two three 2) rfl hpn T.e_BadTable T.e_BadName (nodup_ne T.ne (i := 0) (j := 6) rfl rfl (by decide)) (fun z => (nodup_ne T.ne (i := 3) (j := 6) rfl rfl (by decide) z).elim) (fun _ => ?_))
    refine ds_seq (ds_isE (a0 := a0) (C := a.c_BadTable) (d0 := d0) (l0 := kF one two three 2) rfl hpn T.e_BadTable T.e_BadText (nodup_ne T.ne (i := 0) (j := 7) rfl rfl (by decide)) (fun z => (nodup_ne T.ne (i := 3) (j := 7) rfl rfl (by decide) z).elim) (fun _ => ?_))
    refine ds_seq (ds_isE (a0 := a0) (C := a.c_BadTable) (d0 := d0) (l0 := kF one two three 2) rfl hpn T.e_BadTable T.e_NoPlace (nodup_ne T.ne (i := 0) (j := 8) rfl rfl (by decide)) (fun z => (nodup_ne T.ne (i := 3) (j := 8) rfl rfl (by decide) z).elim) (fun _ => ?_))
    exact ds_ret (de_new (dn_addL_own rfl (de_callP EL.no trivial (dc_cons (de_var rfl (dc_nil ⟨2, a0, d0, one, two, three, by decide, hpn, rfl, h1, h2, h3, _, rfl, (show 1 ≤ 16000 by decide), hR⟩))))))
  · have hR : R (.lst [kT one two three 3]) := hR
    refine ds_seq (ds_isE (a0 := a0) (C := a.c_BadForm) (d0 := d0) (l0 := kF one two three 3) rfl hpn T.e_BadForm T.e_BadNumber (nodup_ne T.ne (i := 0) (j := 1) rfl rfl (by decide)) (fun z => (nodup_ne T.ne (i := 4) (j := 1) rfl rfl (by decide) z).elim) (fun _ => ?_))
    refine ds_seq (ds_isE (a0 := a0) (C := a.c_BadForm) (d0 := d0) (l0 := kF one two three 3) rfl hpn T.e_BadForm T.e_BadRow (nodup_ne T.ne (i := 0) (j := 2) rfl rfl (by decide)) (fun z => (nodup_ne T.ne (i := 4) (j := 2) rfl rfl (by decide) z).elim) (fun _ => ?_))
    refine ds_seq (ds_isE (a0 := a0) (C := a.c_BadForm) (d0 := d0) (l0 := kF one two three 3) rfl hpn T.e_BadForm T.e_BadTable (nodup_ne T.ne (i := 0) (j := 3) rfl rfl (by decide)) (fun z => (nodup_ne T.ne (i := 4) (j := 3) rfl rfl (by decide) z).elim) (fun _ => ?_))
    refine ds_seq (ds_isE (a0 := a0) (C := a.c_BadForm) (d0 := d0) (l0 := kF one two three 3) rfl hpn T.e_BadForm T.e_BadForm (nodup_ne T.ne (i := 0) (j := 4) rfl rfl (by decide)) (fun _ => ds_app rfl (de_tup (da_cons (de_str (da_cons (de_xe (de_var rfl ⟨a0, d0, a.c_BadForm, kF one two three 3, one, rfl, hpn, T.no_BadForm_what, rfl, da_nil ⟨by simp, (show 0 < 16000 by decide), ?_⟩⟩))))))) (fun z => (z rfl).elim))
    refine ds_seq (ds_isE (a0 := a0) (C := a.c_BadForm) (d0 := d0) (l0 := kF one two three 3) rfl hpn T.e_BadForm T.e_BadBook (nodup_ne T.ne (i := 0) (j := 5) rfl rfl (by decide)) (fun z => (nodup_ne T.ne (i := 4) (j := 5) rfl rfl (by decide) z).elim) (fun _ => ?_))
    refine ds_seq (ds_isE (a0 := a0) (C := a.c_BadForm) (d0 := d0) (l0 := kF one two three 3) rfl hpn T.e_BadForm T.e_BadName (nodup_ne T.ne (i := 0) (j := 6) rfl rfl (by decide)) (fun z => (nodup_ne T.ne (i := 4) (j := 6) rfl rfl (by decide) z).elim) (fun _ => ?_))
    refine ds_seq (ds_isE (a0 := a0) (C := a.c_BadForm) (d0 := d0) (l0 := kF one two three 3) rfl hpn T.e_BadForm T.e_BadText (nodup_ne T.ne (i := 0) (j := 7) rfl rfl (by decide)) (fun z => (nodup_ne T.ne (i := 4) (j := 7) rfl rfl (by decide) z).elim) (fun _ => ?_))
    refine ds_seq (ds_isE (a0 := a0) (C := a.c_BadForm) (d0 := d0) (l0 := kF one two three 3) rfl hpn T.e_BadForm T.e_NoPlace (nodup_ne T.ne (i := 0) (j := 8) rfl rfl (by decide)) (fun z => (nodup_ne T.ne (i := 4) (j := 8) rfl rfl (by decide) z).elim) (fun _ => ?_))
    exact ds_ret (de_new (dn_addL_own rfl (de_callP EL.no trivial (dc_cons (de_var rfl (dc_nil ⟨3, a0, d0, one, two, three, by decide, hpn, rfl, h1, h2, h3, _, rfl, (show 1 ≤ 16000 by decide), hR⟩))))))
  · have hR : R (.lst [kT one two three 4]) := hR
    refine ds_seq (ds_isE (a0 := a0) (C := a.c_BadBook) (d0 := d0) (l0 := kF one two three 4) rfl hpn T.e_BadBook T.e_BadNumber (nodup_ne T.ne (i := 0) (j := 1) rfl rfl (by decide)) (fun z => (nodup_ne T.ne (i := 5) (j := 1) rfl rfl (by decide) z).elim) (fun _ => ?_))
    refine ds_seq (ds_isE (a0 := a0) (C := a.c_BadBook) (d0 := d0) (l0 := kF one two three 4) rfl hpn T.e_BadBook T.e_BadRow (nodup_ne T.ne (i := 0) (j := 2) rfl rfl (by decide)) (fun z => (nodup_ne T.ne (i := 5) (j := 2) rfl rfl (by decide) z).elim) (fun _ => ?_))
    refine ds_seq (ds_isE (a0 := a0) (C := a.c_BadBook) (d0 := d0) (l0 := kF one two three 4) rfl hpn T.e_BadBook T.e_BadTable (nodup_ne T.ne (i := 0) (j := 3) rfl rfl (by decide)) (fun z => (nodup_ne T.ne (i := 5) (j := 3) rfl rfl (by decide) z).elim) (fun _ => ?_))
    refine ds_seq (ds_isE (a0 := a0) (C := a.c_BadBook) (d0 := d0) (l0 := kF one two three 4) rfl hpn T.e_BadBook T.e_BadForm (nodup_ne T.ne (i := 0) (j := 4) rfl rfl (by decide)) (fun z => (nodup_ne T.ne (i := 5) (j := 4) rfl rfl (by decide) z).elim) (fun _ => ?_))
    refine ds_seq (ds_isE (a0 := a0) (C := a.c_BadBook) (d0 := d0) (l0 := kF one two three 4) rfl hpn T.e_BadBook T.e_BadBook (nodup_ne T.ne (i := 0) (j := 5) rfl rfl (by decide)) (fun _ => ds_app rfl (de_tup (da_cons (de_str (da_cons (de_xe (de_var rfl ⟨a0, d0, a.c_BadBook, kF one two three 4, one, rfl, hpn, T.no_BadBook_what, rfl, da_nil ⟨by simp, (show 0 < 16000 by decide), ?_⟩⟩))))))) (fun z => (z rfl).elim))
    refine ds_seq (ds_isE (a0 := a0) (C := a.c_BadBook) (d0 := d0) (l0 := kF one two three 4) rfl hpn T.e_BadBook T.e_BadName (nodup_ne T.ne (i := 0) (j := 6) rfl rfl (by decide)) (fun z => (nodup_ne T.ne (i := 5) (j := 6) rfl rfl (by decide) z).elim) (fun _ => ?_))
    refine ds_seq (ds_isE (a0 := a0) (C := a.c_BadBook) (d0 := d0) (l0 := kF one two three 4) rfl hpn T.e_BadBook T.e_BadText (nodup_ne T.ne (i := 0) (j := 7) rfl rfl (by decide)) (fun z => (nodup_ne T.ne (i := 5) (j := 7) rfl rfl (by decide) z).elim) (fun _ => ?_))
    refine ds_seq (ds_isE (a0 := a0) (C := a.c_BadBook) (d0 := d0) (l0 := kF one two three 4) rfl hpn T.e_BadBook T.e_NoPlace (nodup_ne T.ne (i := 0) (j := 8) rfl rfl (by decide)) (fun z => (nodup_ne T.ne (i := 5) (j := 8) rfl rfl (by decide) z).elim) (fun _ => ?_))
    exact ds_ret (de_new (dn_addL_own rfl (de_callP EL.no trivial (dc_cons (de_var rfl (dc_nil ⟨4, a0, d0, one, two, three, by decide, hpn, rfl, h1, h2, h3, _, rfl, (show 1 ≤ 16000 by decide), hR⟩))))))
  · have hR : R (.lst [kT one two three 5]) := hR
    refine ds_seq (ds_isE (a0 := a0) (C := a.c_BadName) (d0 := d0) (l0 := kF one two three 5) rfl hpn T.e_BadName T.e_BadNumber (nodup_ne T.ne (i := 0) (j := 1) rfl rfl (by decide)) (fun z => (nodup_ne T.ne (i := 6) (j := 1) rfl rfl (by decide) z).elim) (fun _ => ?_))
    refine ds_seq (ds_isE (a0 := a0) (C := a.c_BadName) (d0 := d0) (l0 := kF one two three 5) rfl hpn T.e_BadName T.e_BadRow (nodup_ne T.ne (i := 0) (j := 2) rfl rfl (by decide)) (fun z => (nodup_ne T.ne (i := 6) (j := 2) rfl rfl (by decide) z).elim) (fun _ => ?_))
    refine ds_seq (ds_isE (a0 := a0) (C := a.c_BadName) (d0 := d0) (l0 := kF one two three 5) rfl hpn T.e_BadName T.e_BadTable (nodup_ne T.ne (i := 0) (j := 3) rfl rfl (by decide)) (fun z => (nodup_ne T.ne (i := 6) (j := 3) rfl rfl (by decide) z).elim) (fun _ => ?_))
    refine ds_seq (ds_isE (a0 := a0) (C := a.c_BadName) (d0 := d0) (l0 := kF one two three 5) rfl hpn T.e_BadName T.e_BadForm (nodup_ne T.ne (i := 0) (j := 4) rfl rfl (by decide)) (fun z => (nodup_ne T.ne (i := 6) (j := 4) rfl rfl (by decide) z).elim) (fun _ => ?_))
    refine ds_seq (ds_isE (a0 := a0) (C := a.c_BadName) (d0 := d0) (l0 := kF one two three 5) rfl hpn T.e_BadName T.e_BadBook (nodup_ne T.ne (i := 0) (j := 5) rfl rfl (by decide)) (fun z => (nodup_ne T.ne (i := 6) (j := 5) rfl rfl (by decide) z).elim) (fun _ => ?_))
    refine ds_seq (ds_isE (a0 := a0) (C := a.c_BadName) (d0 := d0) (l0 := kF one two three 5) rfl hpn T.e_BadName T.e_BadName (nodup_ne T.ne (i := 0) (j := 6) rfl rfl (by decide)) (fun _ => ds_app rfl (de_tup (da_cons (de_str (da_cons (de_repr (de_xe (de_var rfl ⟨a0, d0, a.c_BadName, kF one two three 5, one, rfl, hpn, T.no_BadName_name, rfl, ok1, da_nil ⟨by simp, (show 0 < 16000 by decide), ?_⟩⟩)))))))) (fun z => (z rfl).elim))
    refine ds_seq (ds_isE (a0 := a0) (C := a.c_BadName) (d0 := d0) (l0 := kF one two three 5) rfl hpn T.e_BadName T.e_BadText (nodup_ne T.ne (i := 0) (j := 7) rfl rfl (by decide)) (fun z => (nodup_ne T.ne (i := 6) (j := 7) rfl rfl (by decide) z).elim) (fun _ => ?_))
    refine ds_seq (ds_isE (a0 := a0) (C := a.c_BadName) (d0 := d0) (l0 := kF one two three 5) rfl hpn T.e_BadName T.e_NoPlace (nodup_ne T.ne (i := 0) (j := 8) rfl rfl (by decide)) (fun z => (nodup_ne T.ne (i := 6) (j := 8) rfl rfl (by decide) z).elim) (fun _ => ?_))
    exact ds_ret (de_new (dn_addL_own rfl (de_callP EL.no trivial (dc_cons (de_var rfl (dc_nil ⟨5, a0, d0, one, two, three, by decide, hpn, rfl, h1, h2, h3, _, rfl, (show 1 ≤ 16000 by decide), hR⟩))))))
  · have hR : R (.lst [kT one two three 6]) := hR
    refine ds_seq (ds_isE (a0 := a0) (C := a.c_BadText) (d0 := d0) (l0 := kF one two three 6) rfl hpn T.e_BadText T.e_BadNumber (nodup_ne T.ne (i := 0) (j := 1) rfl rfl (by decide)) (fun z => (nodup_ne T.ne (i := 7) (j := 1) rfl rfl (by decide) z).elim) (fun _ => ?_))
    refine ds_seq (ds_isE (a0 := a0) (C := a.c_BadText) (d0 := d0) (l0 := kF one two three 6) rfl hpn T.e_BadText T.e_BadRow (nodup_ne T.ne (i := 0) (j := 2) rfl rfl (by decide)) (fun z => (nodup_ne T.ne (i := 7) (j := 2) rfl rfl (by decide) z).elim) (fun _ => ?_))
    refine ds_seq (ds_isE (a0 := a0) (C := a.c_BadText) (d0 := d0) (l0 := kF one two three 6) rfl hpn T.e_BadText T.e_BadTable (nodup_ne T.ne (i := 0) (j := 3) rfl rfl (by decide)) (fun z => (nodup_ne T.ne (i := 7) (j := 3) rfl rfl (by decide) z).elim) (fun _ => ?_))
    refine ds_seq (ds_isE (a0 := a0) (C := a.c_BadText) (d0 := d0) (l0 := kF one two three 6) rfl hpn T.e_BadText T.e_BadForm (nodup_ne T.ne (i := 0) (j := 4) rfl rfl (by decide)) (fun z => (nodup_ne T.ne (i := 7) (j := 4) rfl rfl (by decide) z).elim) (fun _ => ?_))
    refine ds_seq (ds_isE (a0 := a0) (C := a.c_BadText) (d0 := d0) (l0 := kF one two three 6) rfl hpn T.e_BadText T.e_BadBook (nodup_ne T.ne (i := 0) (j := 5) rfl rfl (by decide)) (fun z => (nodup_ne T.ne (i := 7) (j := 5) rfl rfl (by decide) z).elim) (fun _ => ?_))
    refine ds_seq (ds_isE (a0 := a0) (C := a.c_BadText) (d0 := d0) (l0 := kF one two three 6) rfl hpn T.e_BadText T.e_BadName (nodup_ne T.ne (i := 0) (j := 6) rfl rfl (by decide)) (fun z => (nodup_ne T.ne (i := 7) (j := 6) rfl rfl (by decide) z).elim) (fun _ => ?_))
    refine ds_seq (ds_isE (a0 := a0) (C := a.c_BadText) (d0 := d0) (l0 := kF one two three 6) rfl hpn T.e_BadText T.e_BadText (nodup_ne T.ne (i := 0) (j := 7) rfl rfl (by decide)) (fun _ => ds_app rfl (de_tup (da_cons (de_str (da_cons (de_xe (de_var rfl ⟨a0, d0, a.c_BadText, kF one two three 6, one, rfl, hpn, T.no_BadText_line, rfl, da_cons (de_xe (de_var rfl ⟨a0, d0, a.c_BadText, kF one two three 6, two, rfl, hpn, T.no_BadText_word, rfl, da_nil ⟨by simp, (show 0 < 16000 by decide), ?_⟩⟩))⟩))))))) (fun z => (z rfl).elim))
    refine ds_seq (ds_isE (a0 := a0) (C := a.c_BadText) (d0 := d0) (l0 := kF one two three 6) rfl hpn T.e_BadText T.e_NoPlace (nodup_ne T.ne (i := 0) (j := 8) rfl rfl (by decide)) (fun z => (nodup_ne T.ne (i := 7) (j := 8) rfl rfl (by decide) z).elim) (fun _ => ?_))
    exact ds_ret (de_new (dn_addL_own rfl (de_callP EL.no trivial (dc_cons (de_var rfl (dc_nil ⟨6, a0, d0, one, two, three, by decide, hpn, rfl, h1, h2, h3, _, rfl, (show 1 ≤ 16000 by decide), hR⟩))))))
  · have hR : R (.lst [kT one two three 7]) := hR
    refine ds_seq (ds_isE (a0 := a0) (C := a.c_NoPlace) (d0 := d0) (l0 := kF one two three 7) rfl hpn T.e_NoPlace T.e_BadNumber (nodup_ne T.ne (i := 0) (j := 1) rfl rfl (by decide)) (fun z => (nodup_ne T.ne (i := 8) (j := 1) rfl rfl (by decide) z).elim) (fun _ => ?_))
    refine ds_seq (ds_isE (a0 := a0) (C := a.c_NoPlace) (d0 := d0) (l0 := kF one two three 7) rfl hpn T.e_NoPlace T.e_BadRow (nodup_ne T.ne (i := 0) (j := 2) rfl rfl (by decide)) (fun z => (nodup_ne T.ne (i := 8) (j := 2) rfl rfl (by decide) z).elim) (fun _ => ?_))
    refine ds_seq (ds_isE (a0 := a0) (C := a.c_NoPlace) (d0 := d0) (l0 := kF one two three 7) rfl hpn T.e_NoPlace T.e_BadTable (nodup_ne T.ne (i := 0) (j := 3) rfl rfl (by decide)) (fun z => (nodup_ne T.ne (i := 8) (j := 3) rfl rfl (by decide) z).elim) (fun _ => ?_))
    refine ds_seq (ds_isE (a0 := a0) (C := a.c_NoPlace) (d0 := d0) (l0 := kF one two three 7) rfl hpn T.e_NoPlace T.e_BadForm (nodup_ne T.ne (i := 0) (j := 4) rfl rfl (by decide)) (fun z => (nodup_ne T.ne (i := 8) (j := 4) rfl rfl (by decide) z).elim) (fun _ => ?_))
    refine ds_seq (ds_isE (a0 := a0) (C := a.c_NoPlace) (d0 := d0) (l0 := kF one two three 7) rfl hpn T.e_NoPlace T.e_BadBook (nodup_ne T.ne (i := 0) (j := 5) rfl rfl (by decide)) (fun z => (nodup_ne T.ne (i := 8) (j := 5) rfl rfl (by decide) z).elim) (fun _ => ?_))
    refine ds_seq (ds_isE (a0 := a0) (C := a.c_NoPlace) (d0 := d0) (l0 := kF one two three 7) rfl hpn T.e_NoPlace T.e_BadName (nodup_ne T.ne (i := 0) (j := 6) rfl rfl (by decide)) (fun z => (nodup_ne T.ne (i := 8) (j := 6) rfl rfl (by decide) z).elim) (fun _ => ?_))
    refine ds_seq (ds_isE (a0 := a0) (C := a.c_NoPlace) (d0 := d0) (l0 := kF one two three 7) rfl hpn T.e_NoPlace T.e_BadText (nodup_ne T.ne (i := 0) (j := 7) rfl rfl (by decide)) (fun z => (nodup_ne T.ne (i := 8) (j := 7) rfl rfl (by decide) z).elim) (fun _ => ?_))
    refine ds_seq (ds_isE (a0 := a0) (C := a.c_NoPlace) (d0 := d0) (l0 := kF one two three 7) rfl hpn T.e_NoPlace T.e_NoPlace (nodup_ne T.ne (i := 0) (j := 8) rfl rfl (by decide)) (fun _ => ds_app rfl (de_tup (da_cons (de_str (da_cons (de_xe (de_var rfl ⟨a0, d0, a.c_NoPlace, kF one two three 7, one, rfl, hpn, T.no_NoPlace_what, rfl, da_cons (de_repr (de_xe (de_var rfl ⟨a0, d0, a.c_NoPlace, kF one two three 7, two, rfl, hpn, T.no_NoPlace_index, rfl, ok2, da_nil ⟨by simp, (show 0 < 16000 by decide), ?_⟩⟩)))⟩))))))) (fun z => (z rfl).elim))
    exact ds_ret (de_new (dn_addL_own rfl (de_callP EL.no trivial (dc_cons (de_var rfl (dc_nil ⟨7, a0, d0, one, two, three, by decide, hpn, rfl, h1, h2, h3, _, rfl, (show 1 ≤ 16000 by decide), hR⟩))))))
  · have hR : R (.lst [kT one two three 8]) := hR
    refine ds_seq (ds_isE (a0 := a0) (C := a.c_NoName) (d0 := d0) (l0 := kF one two three 8) rfl hpn T.e_NoName T.e_BadNumber (nodup_ne T.ne (i := 0) (j := 1) rfl rfl (by decide)) (fun z => (nodup_ne T.ne (i := 9) (j := 1) rfl rfl (by decide) z).elim) (fun _ => ?_))
    refine ds_seq (ds_isE (a0 := a0) (C := a.c_NoName) (d0 := d0) (l0 := kF one two three 8) rfl hpn T.e_NoName T.e_BadRow (nodup_ne T.ne (i := 0) (j := 2) rfl rfl (by decide)) (fun z => (nodup_ne T.ne (i := 9) (j := 2) rfl rfl (by decide) z).elim) (fun _ => ?_))
    refine ds_seq (ds_isE (a0 := a0) (C := a.c_NoName) (d0 := d0) (l0 := kF one two three 8) rfl hpn T.e_NoName T.e_BadTable (nodup_ne T.ne (i := 0) (j := 3) rfl rfl (by decide)) (fun z => (nodup_ne T.ne (i := 9) (j := 3) rfl rfl (by decide) z).elim) (fun _ => ?_))
    refine ds_seq (ds_isE (a0 := a0) (C := a.c_NoName) (d0 := d0) (l0 := kF one two three 8) rfl hpn T.e_NoName T.e_BadForm (nodup_ne T.ne (i := 0) (j := 4) rfl rfl (by decide)) (fun z => (nodup_ne T.ne (i := 9) (j := 4) rfl rfl (by decide) z).elim) (fun _ => ?_))
    refine ds_seq (ds_isE (a0 := a0) (C := a.c_NoName) (d0 := d0) (l0 := kF one two three 8) rfl hpn T.e_NoName T.e_BadBook (nodup_ne T.ne (i := 0) (j := 5) rfl rfl (by decide)) (fun z => (nodup_ne T.ne (i := 9) (j := 5) rfl rfl (by decide) z).elim) (fun _ => ?_))
    refine ds_seq (ds_isE (a0 := a0) (C := a.c_NoName) (d0 := d0) (l0 := kF one two three 8) rfl hpn T.e_NoName T.e_BadName (nodup_ne T.ne (i := 0) (j := 6) rfl rfl (by decide)) (fun z => (nodup_ne T.ne (i := 9) (j := 6) rfl rfl (by decide) z).elim) (fun _ => ?_))
    refine ds_seq (ds_isE (a0 := a0) (C := a.c_NoName) (d0 := d0) (l0 := kF one two three 8) rfl hpn T.e_NoName T.e_BadText (nodup_ne T.ne (i := 0) (j := 7) rfl rfl (by decide)) (fun z => (nodup_ne T.ne (i := 9) (j := 7) rfl rfl (by decide) z).elim) (fun _ => ?_))
    refine ds_seq (ds_isE (a0 := a0) (C := a.c_NoName) (d0 := d0) (l0 := kF one two three 8) rfl hpn T.e_NoName T.e_NoPlace (nodup_ne T.ne (i := 0) (j := 8) rfl rfl (by decide)) (fun z => (nodup_ne T.ne (i := 9) (j := 8) rfl rfl (by decide) z).elim) (fun _ => ?_))
    exact ds_ret (de_new (dn_addL_own rfl (de_callP EL.no trivial (dc_cons (de_var rfl (dc_nil ⟨8, a0, d0, one, two, three, by decide, hpn, rfl, h1, h2, h3, _, rfl, (show 1 ≤ 16000 by decide), hR⟩))))))
  · have hR : R (.lst [kT one two three 9]) := hR
    refine ds_seq (ds_isE (a0 := a0) (C := a.c_TakenName) (d0 := d0) (l0 := kF one two three 9) rfl hpn T.e_TakenName T.e_BadNumber (nodup_ne T.ne (i := 0) (j := 1) rfl rfl (by decide)) (fun z => (nodup_ne T.ne (i := 10) (j := 1) rfl rfl (by decide) z).elim) (fun _ => ?_))
    refine ds_seq (ds_isE (a0 := a0) (C := a.c_TakenName) (d0 := d0) (l0 := kF one two three 9) rfl hpn T.e_TakenName T.e_BadRow (nodup_ne T.ne (i := 0) (j := 2) rfl rfl (by decide)) (fun z => (nodup_ne T.ne (i := 10) (j := 2) rfl rfl (by decide) z).elim) (fun _ => ?_))
    refine ds_seq (ds_isE (a0 := a0) (C := a.c_TakenName) (d0 := d0) (l0 := kF one two three 9) rfl hpn T.e_TakenName T.e_BadTable (nodup_ne T.ne (i := 0) (j := 3) rfl rfl (by decide)) (fun z => (nodup_ne T.ne (i := 10) (j := 3) rfl rfl (by decide) z).elim) (fun _ => ?_))
    refine ds_seq (ds_isE (a0 := a0) (C := a.c_TakenName) (d0 := d0) (l0 := kF one two three 9) rfl hpn T.e_TakenName T.e_BadForm (nodup_ne T.ne (i := 0) (j := 4) rfl rfl (by decide)) (fun z => (nodup_ne T.ne (i := 10) (j := 4) rfl rfl (by decide) z).elim) (fun _ => ?_))
    refine ds_seq (ds_isE (a0 := a0) (C := a.c_TakenName) (d0 := d0) (l0 := kF one two three 9) rfl hpn T.e_TakenName T.e_BadBook (nodup_ne T.ne (i := 0) (j := 5) rfl rfl (by decide)) (fun z => (nodup_ne T.ne (i := 10) (j := 5) rfl rfl (by decide) z).elim) (fun _ => ?_))
    refine ds_seq (ds_isE (a0 := a0) (C := a.c_TakenName) (d0 := d0) (l0 := kF one two three 9) rfl hpn T.e_TakenName T.e_BadName (nodup_ne T.ne (i := 0) (j := 6) rfl rfl (by decide)) (fun z => (nodup_ne T.ne (i := 10) (j := 6) rfl rfl (by decide) z).elim) (fun _ => ?_))
    refine ds_seq (ds_isE (a0 := a0) (C := a.c_TakenName) (d0 := d0) (l0 := kF one two three 9) rfl hpn T.e_TakenName T.e_BadText (nodup_ne T.ne (i := 0) (j := 7) rfl rfl (by decide)) (fun z => (nodup_ne T.ne (i := 10) (j := 7) rfl rfl (by decide) z).elim) (fun _ => ?_))
    refine ds_seq (ds_isE (a0 := a0) (C := a.c_TakenName) (d0 := d0) (l0 := kF one two three 9) rfl hpn T.e_TakenName T.e_NoPlace (nodup_ne T.ne (i := 0) (j := 8) rfl rfl (by decide)) (fun z => (nodup_ne T.ne (i := 10) (j := 8) rfl rfl (by decide) z).elim) (fun _ => ?_))
    exact ds_ret (de_new (dn_addL_own rfl (de_callP EL.no trivial (dc_cons (de_var rfl (dc_nil ⟨9, a0, d0, one, two, three, by decide, hpn, rfl, h1, h2, h3, _, rfl, (show 1 ≤ 16000 by decide), hR⟩))))))
  · have hR : R (.lst [kT one two three 10]) := hR
    refine ds_seq (ds_isE (a0 := a0) (C := a.c_Unlike) (d0 := d0) (l0 := kF one two three 10) rfl hpn T.e_Unlike T.e_BadNumber (nodup_ne T.ne (i := 0) (j := 1) rfl rfl (by decide)) (fun z => (nodup_ne T.ne (i := 11) (j := 1) rfl rfl (by decide) z).elim) (fun _ => ?_))
    refine ds_seq (ds_isE (a0 := a0) (C := a.c_Unlike) (d0 := d0) (l0 := kF one two three 10) rfl hpn T.e_Unlike T.e_BadRow (nodup_ne T.ne (i := 0) (j := 2) rfl rfl (by decide)) (fun z => (nodup_ne T.ne (i := 11) (j := 2) rfl rfl (by decide) z).elim) (fun _ => ?_))
    refine ds_seq (ds_isE (a0 := a0) (C := a.c_Unlike) (d0 := d0) (l0 := kF one two three 10) rfl hpn T.e_Unlike T.e_BadTable (nodup_ne T.ne (i := 0) (j := 3) rfl rfl (by decide)) (fun z => (nodup_ne T.ne (i := 11) (j := 3) rfl rfl (by decide) z).elim) (fun _ => ?_))
    refine ds_seq (ds_isE (a0 := a0) (C := a.c_Unlike) (d0 := d0) (l0 := kF one two three 10) rfl hpn T.e_Unlike T.e_BadForm (nodup_ne T.ne (i := 0) (j := 4) rfl rfl (by decide)) (fun z => (nodup_ne T.ne (i := 11) (j := 4) rfl rfl (by decide) z).elim) (fun _ => ?_))
    refine ds_seq (ds_isE (a0 := a0) (C := a.c_Unlike) (d0 := d0) (l0 := kF one two three 10) rfl hpn T.e_Unlike T.e_BadBook (nodup_ne T.ne (i := 0) (j := 5) rfl rfl (by decide)) (fun z => (nodup_ne T.ne (i := 11) (j := 5) rfl rfl (by decide) z).elim) (fun _ => ?_))
    refine ds_seq (ds_isE (a0 := a0) (C := a.c_Unlike) (d0 := d0) (l0 := kF one two three 10) rfl hpn T.e_Unlike T.e_BadName (nodup_ne T.ne (i := 0) (j := 6) rfl rfl (by decide)) (fun z => (nodup_ne T.ne (i := 11) (j := 6) rfl rfl (by decide) z).elim) (fun _ => ?_))
    refine ds_seq (ds_isE (a0 := a0) (C := a.c_Unlike) (d0 := d0) (l0 := kF one two three 10) rfl hpn T.e_Unlike T.e_BadText (nodup_ne T.ne (i := 0) (j := 7) rfl rfl (by decide)) (fun z => (nodup_ne T.ne (i := 11) (j := 7) rfl rfl (by decide) z).elim) (fun _ => ?_))
    refine ds_seq (ds_isE (a0 := a0) (C := a.c_Unlike) (d0 := d0) (l0 := kF one two three 10) rfl hpn T.e_Unlike T.e_NoPlace (nodup_ne T.ne (i := 0) (j := 8) rfl rfl (by decide)) (fun z => (nodup_ne T.ne (i := 11) (j := 8) rfl rfl (by decide) z).elim) (fun _ => ?_))
    exact ds_ret (de_new (dn_addL_own rfl (de_callP EL.no trivial (dc_cons (de_var rfl (dc_nil ⟨10, a0, d0, one, two, three, by decide, hpn, rfl, h1, h2, h3, _, rfl, (show 1 ≤ 16000 by decide), hR⟩))))))
  · have hR : R (.lst [kT one two three 11]) := hR
    refine ds_seq (ds_isE (a0 := a0) (C := a.c_NotThere) (d0 := d0) (l0 := kF one two three 11) rfl hpn T.e_NotThere T.e_BadNumber (nodup_ne T.ne (i := 0) (j := 1) rfl rfl (by decide)) (fun z => (nodup_ne T.ne (i := 12) (j := 1) rfl rfl (by decide) z).elim) (fun _ => ?_))
    refine ds_seq (ds_isE (a0 := a0) (C := a.c_NotThere) (d0 := d0) (l0 := kF one two three 11) rfl hpn T.e_NotThere T.e_BadRow (nodup_ne T.ne (i := 0) (j := 2) rfl rfl (by decide)) (fun z => (nodup_ne T.ne (i := 12) (j := 2) rfl rfl (by decide) z).elim) (fun _ => ?_))
    refine ds_seq (ds_isE (a0 := a0) (C := a.c_NotThere) (d0 := d0) (l0 := kF one two three 11) rfl hpn T.e_NotThere T.e_BadTable (nodup_ne T.ne (i := 0) (j := 3) rfl rfl (by decide)) (fun z => (nodup_ne T.ne (i := 12) (j := 3) rfl rfl (by decide) z).elim) (fun _ => ?_))
    refine ds_seq (ds_isE (a0 := a0) (C := a.c_NotThere) (d0 := d0) (l0 := kF one two three 11) rfl hpn T.e_NotThere T.e_BadForm (nodup_ne T.ne (i := 0) (j := 4) rfl rfl (by decide)) (fun z => (nodup_ne T.ne (i := 12) (j := 4) rfl rfl (by decide) z).elim) (fun _ => ?_))
    refine ds_seq (ds_isE (a0 := a0) (C := a.c_NotThere) (d0 := d0) (l0 := kF one two three 11) rfl hpn T.e_NotThere T.e_BadBook (nodup_ne T.ne (i := 0) (j := 5) rfl rfl (by decide)) (fun z => (nodup_ne T.ne (i := 12) (j := 5) rfl rfl (by decide) z).elim) (fun _ => ?_))
    refine ds_seq (ds_isE (a0 := a0) (C := a.c_NotThere) (d0 := d0) (l0 := kF one two three 11) rfl hpn T.e_NotThere T.e_BadName (nodup_ne T.ne (i := 0) (j := 6) rfl rfl (by decide)) (fun z => (nodup_ne T.ne (i := 12) (j := 6) rfl rfl (by decide) z).elim) (fun _ => ?_))
    refine ds_seq (ds_isE (a0 := a0) (C := a.c_NotThere) (d0 := d0) (l0 := kF one two three 11) rfl hpn T.e_NotThere T.e_BadText (nodup_ne T.ne (i := 0) (j := 7) rfl rfl (by decide)) (fun z => (nodup_ne T.ne (i := 12) (j := 7) rfl rfl (by decide) z).elim) (fun _ => ?_))
    refine ds_seq (ds_isE (a0 := a0) (C := a.c_NotThere) (d0 := d0) (l0 := kF one two three 11) rfl hpn T.e_NotThere T.e_NoPlace (nodup_ne T.ne (i := 0) (j := 8) rfl rfl (by decide)) (fun z => (nodup_ne T.ne (i := 12) (j := 8) rfl rfl (by decide) z).elim) (fun _ => ?_))
    exact ds_ret (de_new (dn_addL_own rfl (de_callP EL.no trivial (dc_cons (de_var rfl (dc_nil ⟨11, a0, d0, one, two, three, by decide, hpn, rfl, h1, h2, h3, _, rfl, (show 1 ≤ 16000 by decide), hR⟩))))))
  · have hR : R (.lst [kT one two three 12]) := hR
    refine ds_seq (ds_isE (a0 := a0) (C := a.c_TooMany) (d0 := d0) (l0 := kF one two three 12) rfl hpn T.e_TooMany T.e_BadNumber (nodup_ne T.ne (i := 0) (j := 1) rfl rfl (by decide)) (fun z => (nodup_ne T.ne (i := 13) (j := 1) rfl rfl (by decide) z).elim) (fun _ => ?_))
    refine ds_seq (ds_isE (a0 := a0) (C := a.c_TooMany) (d0 := d0) (l0 := kF one two three 12) rfl hpn T.e_TooMany T.e_BadRow (nodup_ne T.ne (i := 0) (j := 2) rfl rfl (by decide)) (fun z => (nodup_ne T.ne (i := 13) (j := 2) rfl rfl (by decide) z).elim) (fun _ => ?_))
    refine ds_seq (ds_isE (a0 := a0) (C := a.c_TooMany) (d0 := d0) (l0 := kF one two three 12) rfl hpn T.e_TooMany T.e_BadTable (nodup_ne T.ne (i := 0) (j := 3) rfl rfl (by decide)) (fun z => (nodup_ne T.ne (i := 13) (j := 3) rfl rfl (by decide) z).elim) (fun _ => ?_))
    refine ds_seq (ds_isE (a0 := a0) (C := a.c_TooMany) (d0 := d0) (l0 := kF one two three 12) rfl hpn T.e_TooMany T.e_BadForm (nodup_ne T.ne (i := 0) (j := 4) rfl rfl (by decide)) (fun z => (nodup_ne T.ne (i := 13) (j := 4) rfl rfl (by decide) z).elim) (fun _ => ?_))
    refine ds_seq (ds_isE (a0 := a0) (C := a.c_TooMany) (d0 := d0) (l0 := kF one two three 12) rfl hpn T.e_TooMany T.e_BadBook (nodup_ne T.ne (i := 0) (j := 5) rfl rfl (by decide)) (fun z => (nodup_ne T.ne (i := 13) (j := 5) rfl rfl (by decide) z).elim) (fun _ => ?_))
    refine ds_seq (ds_isE (a0 := a0) (C := a.c_TooMany) (d0 := d0) (l0 := kF one two three 12) rfl hpn T.e_TooMany T.e_BadName (nodup_ne T.ne (i := 0) (j := 6) rfl rfl (by decide)) (fun z => (nodup_ne T.ne (i := 13) (j := 6) rfl rfl (by decide) z).elim) (fun _ => ?_))
    refine ds_seq (ds_isE (a0 := a0) (C := a.c_TooMany) (d0 := d0) (l0 := kF one two three 12) rfl hpn T.e_TooMany T.e_BadText (nodup_ne T.ne (i := 0) (j := 7) rfl rfl (by decide)) (fun z => (nodup_ne T.ne (i := 13) (j := 7) rfl rfl (by decide) z).elim) (fun _ => ?_))
    refine ds_seq (ds_isE (a0 := a0) (C := a.c_TooMany) (d0 := d0) (l0 := kF one two three 12) rfl hpn T.e_TooMany T.e_NoPlace (nodup_ne T.ne (i := 0) (j := 8) rfl rfl (by decide)) (fun z => (nodup_ne T.ne (i := 13) (j := 8) rfl rfl (by decide) z).elim) (fun _ => ?_))
    exact ds_ret (de_new (dn_addL_own rfl (de_callP EL.no trivial (dc_cons (de_var rfl (dc_nil ⟨12, a0, d0, one, two, three, by decide, hpn, rfl, h1, h2, h3, _, rfl, (show 1 ≤ 16000 by decide), hR⟩))))))
  · have hR : R (.lst [kT one two three 13]) := hR
    refine ds_seq (ds_isE (a0 := a0) (C := a.c_NotKept) (d0 := d0) (l0 := kF one two three 13) rfl hpn T.e_NotKept T.e_BadNumber (nodup_ne T.ne (i := 0) (j := 1) rfl rfl (by decide)) (fun z => (nodup_ne T.ne (i := 14) (j := 1) rfl rfl (by decide) z).elim) (fun _ => ?_))
    refine ds_seq (ds_isE (a0 := a0) (C := a.c_NotKept) (d0 := d0) (l0 := kF one two three 13) rfl hpn T.e_NotKept T.e_BadRow (nodup_ne T.ne (i := 0) (j := 2) rfl rfl (by decide)) (fun z => (nodup_ne T.ne (i := 14) (j := 2) rfl rfl (by decide) z).elim) (fun _ => ?_))
    refine ds_seq (ds_isE (a0 := a0) (C := a.c_NotKept) (d0 := d0) (l0 := kF one two three 13) rfl hpn T.e_NotKept T.e_BadTable (nodup_ne T.ne (i := 0) (j := 3) rfl rfl (by decide)) (fun z => (nodup_ne T.ne (i := 14) (j := 3) rfl rfl (by decide) z).elim) (fun _ => ?_))
    refine ds_seq (ds_isE (a0 := a0) (C := a.c_NotKept) (d0 := d0) (l0 := kF one two three 13) rfl hpn T.e_NotKept T.e_BadForm (nodup_ne T.ne (i := 0) (j := 4) rfl rfl (by decide)) (fun z => (nodup_ne T.ne (i := 14) (j := 4) rfl rfl (by decide) z).elim) (fun _ => ?_))
    refine ds_seq (ds_isE (a0 := a0) (C := a.c_NotKept) (d0 := d0) (l0 := kF one two three 13) rfl hpn T.e_NotKept T.e_BadBook (nodup_ne T.ne (i := 0) (j := 5) rfl rfl (by decide)) (fun z => (nodup_ne T.ne (i := 14) (j := 5) rfl rfl (by decide) z).elim) (fun _ => ?_))
    refine ds_seq (ds_isE (a0 := a0) (C := a.c_NotKept) (d0 := d0) (l0 := kF one two three 13) rfl hpn T.e_NotKept T.e_BadName (nodup_ne T.ne (i := 0) (j := 6) rfl rfl (by decide)) (fun z => (nodup_ne T.ne (i := 14) (j := 6) rfl rfl (by decide) z).elim) (fun _ => ?_))
    refine ds_seq (ds_isE (a0 := a0) (C := a.c_NotKept) (d0 := d0) (l0 := kF one two three 13) rfl hpn T.e_NotKept T.e_BadText (nodup_ne T.ne (i := 0) (j := 7) rfl rfl (by decide)) (fun z => (nodup_ne T.ne (i := 14) (j := 7) rfl rfl (by decide) z).elim) (fun _ => ?_))
    refine ds_seq (ds_isE (a0 := a0) (C := a.c_NotKept) (d0 := d0) (l0 := kF one two three 13) rfl hpn T.e_NotKept T.e_NoPlace (nodup_ne T.ne (i := 0) (j := 8) rfl rfl (by decide)) (fun z => (nodup_ne T.ne (i := 14) (j := 8) rfl rfl (by decide) z).elim) (fun _ => ?_))
    exact ds_ret (de_new (dn_addL_own rfl (de_callP EL.no trivial (dc_cons (de_var rfl (dc_nil ⟨13, a0, d0, one, two, three, by decide, hpn, rfl, h1, h2, h3, _, rfl, (show 1 ≤ 16000 by decide), hR⟩))))))
  · have hR : R (.lst [kT one two three 14]) := hR
    refine ds_seq (ds_isE (a0 := a0) (C := a.c_NothingToUndo) (d0 := d0) (l0 := kF one two three 14) rfl hpn T.e_NothingToUndo T.e_BadNumber (nodup_ne T.ne (i := 0) (j := 1) rfl rfl (by decide)) (fun z => (nodup_ne T.ne (i := 15) (j := 1) rfl rfl (by decide) z).elim) (fun _ => ?_))
    refine ds_seq (ds_isE (a0 := a0) (C := a.c_NothingToUndo) (d0 := d0) (l0 := kF one two three 14) rfl hpn T.e_NothingToUndo T.e_BadRow (nodup_ne T.ne (i := 0) (j := 2) rfl rfl (by decide)) (fun z => (nodup_ne T.ne (i := 15) (j := 2) rfl rfl (by decide) z).elim) (fun _ => ?_))
    refine ds_seq (ds_isE (a0 := a0) (C := a.c_NothingToUndo) (d0 := d0) (l0 := kF one two three 14) rfl hpn T.e_NothingToUndo T.e_BadTable (nodup_ne T.ne (i := 0) (j := 3) rfl rfl (by decide)) (fun z => (nodup_ne T.ne (i := 15) (j := 3) rfl rfl (by decide) z).elim) (fun _ => ?_))
    refine ds_seq (ds_isE (a0 := a0) (C := a.c_NothingToUndo) (d0 := d0) (l0 := kF one two three 14) rfl hpn T.e_NothingToUndo T.e_BadForm (nodup_ne T.ne (i := 0) (j := 4) rfl rfl (by decide)) (fun z => (nodup_ne T.ne (i := 15) (j := 4) rfl rfl (by decide) z).elim) (fun _ => ?_))
    refine ds_seq (ds_isE (a0 := a0) (C := a.c_NothingToUndo) (d0 := d0) (l0 := kF one two three 14) rfl hpn T.e_NothingToUndo T.e_BadBook (nodup_ne T.ne (i := 0) (j := 5) rfl rfl (by decide)) (fun z => (nodup_ne T.ne (i := 15) (j := 5) rfl rfl (by decide) z).elim) (fun _ => ?_))
    refine ds_seq (ds_isE (a0 := a0) (C := a.c_NothingToUndo) (d0 := d0) (l0 := kF one two three 14) rfl hpn T.e_NothingToUndo T.e_BadName (nodup_ne T.ne (i := 0) (j := 6) rfl rfl (by decide)) (fun z => (nodup_ne T.ne (i := 15) (j := 6) rfl rfl (by decide) z).elim) (fun _ => ?_))
    refine ds_seq (ds_isE (a0 := a0) (C := a.c_NothingToUndo) (d0 := d0) (l0 := kF one two three 14) rfl hpn T.e_NothingToUndo T.e_BadText (nodup_ne T.ne (i := 0) (j := 7) rfl rfl (by decide)) (fun z => (nodup_ne T.ne (i := 15) (j := 7) rfl rfl (by decide) z).elim) (fun _ => ?_))
    refine ds_seq (ds_isE (a0 := a0) (C := a.c_NothingToUndo) (d0 := d0) (l0 := kF one two three 14) rfl hpn T.e_NothingToUndo T.e_NoPlace (nodup_ne T.ne (i := 0) (j := 8) rfl rfl (by decide)) (fun z => (nodup_ne T.ne (i := 15) (j := 8) rfl rfl (by decide) z).elim) (fun _ => ?_))
    exact ds_ret (de_new (dn_addL_own rfl (de_callP EL.no trivial (dc_cons (de_var rfl (dc_nil ⟨14, a0, d0, one, two, three, by decide, hpn, rfl, h1, h2, h3, _, rfl, (show 1 ≤ 16000 by decide), hR⟩))))))
  · have hR : R (.lst [kT one two three 15]) := hR
    refine ds_seq (ds_isE (a0 := a0) (C := a.c_NothingToRedo) (d0 := d0) (l0 := kF one two three 15) rfl hpn T.e_NothingToRedo T.e_BadNumber (nodup_ne T.ne (i := 0) (j := 1) rfl rfl (by decide)) (fun z => (nodup_ne T.ne (i := 16) (j := 1) rfl rfl (by decide) z).elim) (fun _ => ?_))
    refine ds_seq (ds_isE (a0 := a0) (C := a.c_NothingToRedo) (d0 := d0) (l0 := kF one two three 15) rfl hpn T.e_NothingToRedo T.e_BadRow (nodup_ne T.ne (i := 0) (j := 2) rfl rfl (by decide)) (fun z => (nodup_ne T.ne (i := 16) (j := 2) rfl rfl (by decide) z).elim) (fun _ => ?_))
    refine ds_seq (ds_isE (a0 := a0) (C := a.c_NothingToRedo) (d0 := d0) (l0 := kF one two three 15) rfl hpn T.e_NothingToRedo T.e_BadTable (nodup_ne T.ne (i := 0) (j := 3) rfl rfl (by decide)) (fun z => (nodup_ne T.ne (i := 16) (j := 3) rfl rfl (by decide) z).elim) (fun _ => ?_))
    refine ds_seq (ds_isE (a0 := a0) (C := a.c_NothingToRedo) (d0 := d0) (l0 := kF one two three 15) rfl hpn T.e_NothingToRedo T.e_BadForm (nodup_ne T.ne (i := 0) (j := 4) rfl rfl (by decide)) (fun z => (nodup_ne T.ne (i := 16) (j := 4) rfl rfl (by decide) z).elim) (fun _ => ?_))
    refine ds_seq (ds_isE (a0 := a0) (C := a.c_NothingToRedo) (d0 := d0) (l0 := kF one two three 15) rfl hpn T.e_NothingToRedo T.e_BadBook (nodup_ne T.ne (i := 0) (j := 5) rfl rfl (by decide)) (fun z => (nodup_ne T.ne (i := 16) (j := 5) rfl rfl (by decide) z).elim) (fun _ => ?_))
    refine ds_seq (ds_isE (a0 := a0) (C := a.c_NothingToRedo) (d0 := d0) (l0 := kF one two three 15) rfl hpn T.e_NothingToRedo T.e_BadName (nodup_ne T.ne (i := 0) (j := 6) rfl rfl (by decide)) (fun z => (nodup_ne T.ne (i := 16) (j := 6) rfl rfl (by decide) z).elim) (fun _ => ?_))
    refine ds_seq (ds_isE (a0 := a0) (C := a.c_NothingToRedo) (d0 := d0) (l0 := kF one two three 15) rfl hpn T.e_NothingToRedo T.e_BadText (nodup_ne T.ne (i := 0) (j := 7) rfl rfl (by decide)) (fun z => (nodup_ne T.ne (i := 16) (j := 7) rfl rfl (by decide) z).elim) (fun _ => ?_))
    refine ds_seq (ds_isE (a0 := a0) (C := a.c_NothingToRedo) (d0 := d0) (l0 := kF one two three 15) rfl hpn T.e_NothingToRedo T.e_NoPlace (nodup_ne T.ne (i := 0) (j := 8) rfl rfl (by decide)) (fun z => (nodup_ne T.ne (i := 16) (j := 8) rfl rfl (by decide) z).elim) (fun _ => ?_))
    exact ds_ret (de_new (dn_addL_own rfl (de_callP EL.no trivial (dc_cons (de_var rfl (dc_nil ⟨15, a0, d0, one, two, three, by decide, hpn, rfl, h1, h2, h3, _, rfl, (show 1 ≤ 16000 by decide), hR⟩))))))
end
end Law

set_option Elab.async false
set_option linter.all false
set_option maxRecDepth 100000
set_option maxHeartbeats 4000000
namespace Law
open PySem PySem.Spec PyProof.Rows L2 G
section
variable {P : Program} {w : World} {K : PySem.W.Frag} {mg : Str → Option Value} {base : Heap} {a : Ad}
def sD (k : Nat) (one two three : D) : List Sl := [.sh (.int k), .sh one, .sh two, .sh three]
def F_law_raised (a : Ad) : DF := fun ss R X => ∃ (k : Nat) (one two three : D), ss = sD k one two three ∧ k < 16 ∧ if k < 8 then X (kC a k) (kF one two three k) else R .non
theorem ok__law_raised (T : Tx K mg a) (hS : SysD base) : FnG P w K mg base true 3 a.f__law_raised a.d__law_raised (["kind", "one", "two", "three"] : List Str) (fun _ => spD K (F_law_raised a)) := by
  refine fn_data T.F__law_raised sc__law_raised (fun ss R X z => by obtain ⟨_, _, _, _, h, _⟩ := z; rw [h] <;> rfl) fun cdv A outer s H E pl hr => ⟨_, (pss_cons (ps_if (pt_cmpR (op_eqG hr.hu) (pv 0) pe_int (nomark _)) (pss_one (ps_raiseN rfl (takes_of rfl rfl rfl rfl) (pmk_oex (dvs := []) (ds := []) T.O_BadNumber T.i_BadNumber T.ti_BadNumber (in_BadNumber T) hr.room T.bi_BadNumber .nil pass0 (by rfl) T.g_BadNumber (pa_cons (pv 1) (pa_cons (pv 2) pa_nil))))) pss_nil)
      (pss_cons (ps_if (pt_cmpR (op_eqG hr.hu) (pv 0) pe_int (nomark _)) (pss_one (ps_raiseN rfl (takes_of rfl rfl rfl rfl) (pmk_oex (dvs := []) (ds := []) T.O_BadRow T.i_BadRow T.ti_BadRow (in_BadRow T) hr.room T.bi_BadRow .nil pass0 (by rfl) T.g_BadRow (pa_cons (pv 1) (pa_cons (pv 2) pa_nil))))) pss_nil)
      (pss_cons (ps_if (pt_cmpR (op_eqG hr.hu) (pv 0) pe_int (nomark _)) (pss_one (ps_raiseN rfl (takes_of rfl rfl rfl rfl) (pmk_oex (dvs := []) (ds := []) T.O_BadTable T.i_BadTable T.ti_BadTable (in_BadTable T) hr.room T.bi_BadTable .nil pass0 (by rfl) T.g_BadTable (pa_cons (pv 1) pa_nil)))) pss_nil)
      (pss_cons (ps_if (pt_cmpR (op_eqG hr.hu) (pv 0) pe_int (nomark _)) (pss_one (ps_raiseN rfl (takes_of rfl rfl rfl rfl) (pmk_oex (dvs := []) (ds := []) T.O_BadForm T.i_BadForm T.ti_BadForm (in_BadForm T) hr.room T.bi_BadForm .nil pass0 (by rfl) T.g_BadForm (pa_cons (pv 1) pa_nil)))) pss_nil)
      (pss_cons (ps_if (pt_cmpR (op_eqG hr.hu) (pv 0) pe_int (nomark _)) (pss_one (ps_raiseN rfl (takes_of rfl rfl rfl rfl) (pmk_oex (dvs := []) (ds := []) T.O_BadBook T.i_BadBook T.ti_BadBook (in_BadBook T) hr.room T.bi_BadBook .nil pass0 (by rfl) T.g_BadBook (pa_cons (pv 1) pa_nil)))) pss_nil)
      (pss_cons (ps_if (pt_cmpR (op_eqG hr.hu) (pv 0) pe_int (nomark _)) (pss_one (ps_raiseN rfl (takes_of rfl rfl rfl rfl) (pmk_oex (dvs := []) (ds := []) T.O_BadName T.i_BadName T.ti_BadName (in_BadName T) hr.room T.bi_BadName .nil pass0 (by rfl) T.g_BadName (pa_cons (pv 1) pa_nil)))) pss_nil)
      (pss_cons (ps_if (pt_cmpR (op_eqG hr.hu) (pv 0) pe_int (nomark _)) (pss_one (ps_raiseN rfl (takes_of rfl rfl rfl rfl) (pmk_oex (dvs := []) (ds := []) T.O_BadText T.i_BadText T.ti_BadText (in_BadText T) hr.room T.bi_BadText .nil pass0 (by rfl) T.g_BadText (pa_cons (pv 1) (pa_cons (pv 2) pa_nil))))) pss_nil)
      (pss_one (ps_if (pt_cmpR (op_eqG hr.hu) (pv 0) pe_int (nomark _)) (pss_one (ps_raiseN rfl (takes_of rfl rfl rfl rfl) (pmk_oex (dvs := []) (ds := []) T.O_NoPlace T.i_NoPlace T.ti_NoPlace (in_NoPlace T) hr.room T.bi_NoPlace .nil pass0 (by rfl) T.g_NoPlace (pa_cons (pv 1) (pa_cons (pv 2) pa_nil))))) pss_nil))))))))), fun b ss R X h hX => ?_⟩
  obtain ⟨k, one, two, three, rfl, hk, hq⟩ := h
  have hk' : k = 0 ∨ k = 1 ∨ k = 2 ∨ k = 3 ∨ k = 4 ∨ k = 5 ∨ k = 6 ∨ k = 7 ∨ k = 8 ∨ k = 9 ∨ k = 10 ∨ k = 11 ∨ k = 12 ∨ k = 13 ∨ k = 14 ∨ k = 15 := by omega
  rcases hk' with rfl | rfl | rfl | rfl | rfl | rfl | rfl | rfl | rfl | rfl | rfl | rfl | rfl | rfl | rfl | rfl
  · have hq : X a.c_BadNumber (kF one two three 0) := hq
    exact ds_seq (ds_if (dt_test (de_eqI (de_var rfl (de_int ⟨0, 0, rfl, rfl, true, rfl, iteT (ds_raise (hX _) (da_cons (de_var rfl (da_cons (de_var rfl (da_nil ⟨rfl, by decide, hq⟩))))))⟩)))))
  · have hq : X a.c_BadRow (kF one two three 1) := hq
    refine ds_seq (ds_if (dt_test (de_eqI (de_var rfl (de_int ⟨1, 0, rfl, rfl, false, rfl, iteF (ds_next ?_)⟩)))))
    exact ds_seq (ds_if (dt_test (de_eqI (de_var rfl (de_int ⟨1, 1, rfl, rfl, true, rfl, iteT (ds_raise (hX _) (da_cons (de_var rfl (da_cons (de_var rfl (da_nil ⟨rfl, by decide, hq⟩))))))⟩)))))
  · have hq : X a.c_BadTable (kF one two three 2) := hq
    refine ds_seq (ds_if (dt_test (de_eqI (de_var rfl (de_int ⟨2, 0, rfl, rfl, false, rfl, iteF (ds_next ?_)⟩)))))
    refine ds_seq (ds_if (dt_test (de_eqI (de_var rfl (de_int ⟨2, 1, rfl, rfl, false, rfl, iteF (ds_next ?_)⟩)))))
    exact ds_seq (ds_if (dt_test (de_eqI (de_var rfl (de_int ⟨2, 2, rfl, rfl, true, rfl, iteT (ds_raise (hX _) (da_cons (de_var rfl (da_nil ⟨rfl, by decide, hq⟩))))⟩)))))
  · have hq : X a.c_BadForm (kF one two three 3) := hq
    refine ds_seq (ds_if (dt_test (de_eqI (de_var rfl (de_int ⟨3, 0, rfl, rfl, false, rfl, iteF (ds_next ?_)⟩)))))
    refine ds_seq (ds_if (dt_test (de_eqI (de_var rfl (de_int ⟨3, 1, rfl, rfl, false, rfl, iteF (ds_next ?_)⟩)))))
    refine ds_seq (ds_if (dt_test (de_eqI (de_var rfl (de_int ⟨3, 2, rfl, rfl, false, rfl, iteF (ds_next ?_)⟩)))))
    exact ds_seq (ds_if (dt_test (de_eqI (de_var rfl (de_int ⟨3, 3, rfl, rfl, true, rfl, iteT (ds_raise (hX _) (da_cons (de_var rfl (da_nil ⟨rfl, by decide, hq⟩))))⟩)))))
  · have hq : X a.c_BadBook (kF one two three 4) := hq
    refine ds_seq (ds_if (dt_test (de_eqI (de_var rfl (de_int ⟨4, 0, rfl, rfl, false, rfl, iteF (ds_next ?_)⟩)))))
    refine ds_seq (ds_if (dt_test (de_eqI (de_var rfl (de_int ⟨4, 1, rfl, rfl, false, rfl, iteF (ds_next ?_)⟩)))))
    refine ds_seq (ds_if (dt_test (de_eqI (de_var rfl (de_int ⟨4, 2, rfl, rfl, false, rfl, iteF (ds_next ?_)⟩)))))
    refine ds_seq (ds_if (dt_test (de_eqI (de_var rfl (de_int ⟨4, 3, rfl, rfl, false, rfl, iteF (ds_next ?_)⟩)))))
    exact ds_seq (ds_if (dt_test (de_eqI (de_var rfl (de_int ⟨4, 4, rfl, rfl, true, rfl, iteT (ds_raise (hX _) (da_cons (de_var rfl (da_nil ⟨rfl, by decide, hq⟩))))⟩)))))
  · have hq : X a.c_BadName (kF one two three 5) := hq
    refine ds_seq (ds_if (dt_test (de_eqI (de_var rfl (de_int ⟨5, 0, rfl, rfl, false, rfl, iteF (ds_next ?_)⟩)))))
    refine ds_seq (ds_if (dt_test (de_eqI (de_var rfl (de_int ⟨5, 1, rfl, rfl, false, rfl, iteF (ds_next ?_)⟩)))))
    refine ds_seq (ds_if (dt_test (de_eqI (de_var rfl (de_int ⟨5, 2, rfl, rfl, false, rfl, iteF (ds_next ?_)⟩)))))
    refine ds_seq (ds_if (dt_test (de_eqI (de_var rfl (de_int ⟨5, 3, rfl, rfl, false, rfl, iteF (ds_next ?_)⟩)))))
    refine ds_seq (ds_if (dt_test (de_eqI (de_var rfl (de_int ⟨5, 4, rfl, rfl, false, rfl, iteF (ds_next ?_)⟩)))))
    exact ds_seq (ds_if (dt_test (de_eqI (de_var rfl (de_int ⟨5, 5, rfl, rfl, true, rfl, iteT (ds_raise (hX _) (da_cons (de_var rfl (da_nil ⟨rfl, by decide, hq⟩))))⟩)))))
  · have hq : X a.c_BadText (kF one two three 6) := hq
    refine ds_seq (ds_if (dt_test (de_eqI (de_var rfl (de_int ⟨6, 0, rfl, rfl, false, rfl, iteF (ds_next ?_)⟩)))))
    refine ds_seq (ds_if (dt_test (de_eqI (de_var rfl (de_int ⟨6, 1, rfl, rfl, false, rfl, iteF (ds_next ?_)⟩)))))
    refine ds_seq (ds_if (dt_test (de_eqI (de_var rfl (de_int ⟨6, 2, rfl, rfl, false, rfl, iteF (ds_next ?_)⟩)))))
    refine ds_seq (ds_if (dt_test (de_eqI (de_var rfl (de_int ⟨6, 3, rfl, rfl, false, rfl, iteF (ds_next ?_)⟩)))))
    refine ds_seq (ds_if (dt_test (de_eqI (de_var rfl (de_int ⟨6, 4, rfl, rfl, false, rfl, iteF (ds_next ?_)⟩)))))
    refine ds_seq (ds_if (dt_test (de_eqI (de_var rfl (de_int ⟨6, 5, rfl, rfl, false, rfl, iteF (ds_next ?_)⟩)))))
    exact ds_seq (ds_if (dt_test (de_eqI (de_var rfl (de_int ⟨6, 6, rfl, rfl, true, rfl, iteT (ds_raise (hX _) (da_cons (de_var rfl (da_cons (de_var rfl (da_nil ⟨rfl, by decide, hq⟩))))))⟩)))))
  · have hq : X a.c_NoPlace (kF one two three 7) := hq
    refine ds_seq (ds_if (dt_test (de_eqI (de_var rfl (de_int ⟨7, 0, rfl, rfl, false, rfl, iteF (ds_next ?_)⟩)))))
    refine ds_seq (ds_if (dt_test (de_eqI (de_var rfl (de_int ⟨7, 1, rfl, rfl, false, rfl, iteF (ds_next ?_)⟩)))))
    refine ds_seq (ds_if (dt_test (de_eqI (de_var rfl (de_int ⟨7, 2, rfl, rfl, false, rfl, iteF (ds_next ?_)⟩)))))
    refine ds_seq (ds_if (dt_test (de_eqI (de_var rfl (de_int ⟨7, 3, rfl, rfl, false, rfl, iteF (ds_next ?_)⟩)))))
    refine ds_seq (ds_if (dt_test (de_eqI (de_var rfl (de_int ⟨7, 4, rfl, rfl, false, rfl, iteF (ds_next ?_)⟩)))))
    refine ds_seq (ds_if (dt_test (de_eqI (de_var rfl (de_int ⟨7, 5, rfl, rfl, false, rfl, iteF (ds_next ?_)⟩)))))
    refine ds_seq (ds_if (dt_test (de_eqI (de_var rfl (de_int ⟨7, 6, rfl, rfl, false, rfl, iteF (ds_next ?_)⟩)))))
    exact ds_if (dt_test (de_eqI (de_var rfl (de_int ⟨7, 7, rfl, rfl, true, rfl, iteT (ds_raise (hX _) (da_cons (de_var rfl (da_cons (de_var rfl (da_nil ⟨rfl, by decide, hq⟩))))))⟩))))
  · have hq : R .non := hq
    refine ds_seq (ds_if (dt_test (de_eqI (de_var rfl (de_int ⟨8, 0, rfl, rfl, false, rfl, iteF (ds_next ?_)⟩)))))
    refine ds_seq (ds_if (dt_test (de_eqI (de_var rfl (de_int ⟨8, 1, rfl, rfl, false, rfl, iteF (ds_next ?_)⟩)))))
    refine ds_seq (ds_if (dt_test (de_eqI (de_var rfl (de_int ⟨8, 2, rfl, rfl, false, rfl, iteF (ds_next ?_)⟩)))))
    refine ds_seq (ds_if (dt_test (de_eqI (de_var rfl (de_int ⟨8, 3, rfl, rfl, false, rfl, iteF (ds_next ?_)⟩)))))
    refine ds_seq (ds_if (dt_test (de_eqI (de_var rfl (de_int ⟨8, 4, rfl, rfl, false, rfl, iteF (ds_next ?_)⟩)))))
    refine ds_seq (ds_if (dt_test (de_eqI (de_var rfl (de_int ⟨8, 5, rfl, rfl, false, rfl, iteF (ds_next ?_)⟩)))))
    refine ds_seq (ds_if (dt_test (de_eqI (de_var rfl (de_int ⟨8, 6, rfl, rfl, false, rfl, iteF (ds_next ?_)⟩)))))
    exact ds_if (dt_test (de_eqI (de_var rfl (de_int ⟨8, 7, rfl, rfl, false, rfl, iteF (ds_next hq)⟩))))
  · have hq : R .non := hq
    refine ds_seq (ds_if (dt_test (de_eqI (de_var rfl (de_int ⟨9, 0, rfl, rfl, false, rfl, iteF (ds_next ?_)⟩)))))
    refine ds_seq (ds_if (dt_test (de_eqI (de_var rfl (de_int ⟨9, 1, rfl, rfl, false, rfl, iteF (ds_next ?_)⟩)))))
    refine ds_seq (ds_if (dt_test (de_eqI (de_var rfl (de_int ⟨9, 2, rfl, rfl, false, rfl, iteF (ds_next ?_)⟩)))))
    refine ds_seq (ds_if (dt_test (de_eqI (de_var rfl (de_int ⟨9, 3, rfl, rfl, false, rfl, iteF (ds_next ?_)⟩)))))
    refine ds_seq (ds_if (dt_test (de_eqI (de_var rfl (de_int ⟨9, 4, rfl, rfl, false, rfl, iteF (ds_next ?_)⟩)))))
    refine ds_seq (ds_if (dt_test (de_eqI (de_var rfl (de_int ⟨9, 5, rfl, rfl, false, rfl, iteF (ds_next ?_)⟩)))))
    refine ds_seq (ds_if (dt_test (de_eqI (de_var rfl (de_int ⟨9, 6, rfl, rfl, false, rfl, iteF (ds_next ?_)⟩)))))
    exact ds_if (dt_test (de_eqI (de_var rfl (de_int ⟨9, 7, rfl, rfl, false, rfl, iteF (ds_next hq)⟩))))
  · have hq : R .non := hq
    refine ds_seq (ds_if (dt_test (de_eqI (de_var rfl (de_int ⟨10, 0, rfl, rfl, false, rfl, iteF (ds_next ?_)⟩)))))
    refine ds_seq (ds_if (dt_test (de_eqI (de_var rfl (de_int ⟨10, 1, rfl, rfl, false, rfl, iteF (ds_next ?_)⟩)))))
    refine ds_seq (ds_if (dt_test (de_eqI (de_var rfl (de_int ⟨10, 2, rfl, rfl, false, rfl, iteF (ds_next ?_)⟩)))))
    refine ds_seq (ds_if (dt_test (de_eqI (de_var rfl (de_int ⟨10, 3, rfl, rfl, false, rfl, iteF (ds_next ?_)⟩)))))
    refine ds_seq (ds_if (dt_test (de_eqI (de_var rfl (de_int ⟨10, 4, rfl, rfl, false, rfl, iteF (ds_next ?_)⟩)))))
    refine ds_seq (ds_if (dt_test (de_eqI (de_var rfl (de_int ⟨10, 5, rfl, rfl, false, rfl, iteF (ds_next ?_)⟩)))))
    refine ds_seq (ds_if (dt_test (de_eqI (de_var rfl (de_int ⟨10, 6, rfl, rfl, false, rfl, iteF (ds_next ?_)⟩)))))
    exact ds_if (dt_test (de_eqI (de_var rfl (de_int ⟨10, 7, rfl, rfl, false, rfl, iteF (ds_next hq)⟩))))
  · have hq : R .non := hq
    refine ds_seq (ds_if (dt_test (de_eqI (de_var rfl (de_int ⟨11, 0, rfl, rfl, false, rfl, iteF (ds_next ?_)⟩)))))
    refine ds_seq (ds_if (dt_test (de_eqI (de_var rfl (de_int ⟨11, 1, rfl, rfl, false, rfl, iteF (ds_next ?_)⟩)))))
    refine ds_seq (ds_if (dt_test (de_eqI (de_var rfl (de_int ⟨11, 2, rfl, rfl, false, rfl, iteF (ds_next ?_)⟩)))))
    refine ds_seq (ds_if (dt_test (de_eqI (de_var rfl (de_int ⟨11, 3, rfl, rfl, false, rfl, iteF (ds_next ?_)⟩)))))
    refine ds_seq (ds_if (dt_test (de_eqI (de_var rfl (de_int ⟨11, 4, rfl, rfl, false, rfl, iteF (ds_next ?_)⟩)))))
    refine ds_seq (ds_if (dt_test (de_eqI (de_var rfl (de_int ⟨11, 5, rfl, rfl, false, rfl, iteF (ds_next ?_)⟩)))))
    refine ds_seq (ds_if (dt_test (de_eqI (de_var rfl (de_int ⟨11, 6, rfl, rfl, false, rfl, iteF (ds_next ?_)⟩)))))
    exact ds_if (dt_test (de_eqI (de_var rfl (de_int ⟨11, 7, rfl, rfl, false, rfl, iteF (ds_next hq)⟩))))
  · have hq : R .non := hq
    refine ds_seq (ds_if (dt_test (de_eqI (de_var rfl (de_int ⟨12, 0, rfl, rfl, false, rfl, iteF (ds_next ?_)⟩)))))
    refine ds_seq (ds_if (dt_test (de_eqI (de_var rfl (de_int ⟨12, 1, rfl, rfl, false, rfl, iteF (ds_next ?_)⟩)))))
    refine ds_seq (ds_if (dt_test (de_eqI (de_var rfl (de_int ⟨12, 2, rfl, rfl, false, rfl, iteF (ds_next ?_)⟩)))))
    refine ds_seq (ds_if (dt_test (de_eqI (de_var rfl (de_int ⟨12, 3, rfl, rfl, false, rfl, iteF (ds_next ?_)⟩)))))
    refine ds_seq (ds_if (dt_test (de_eqI (de_var rfl (de_int ⟨12, 4, rfl, rfl, false, rfl, iteF (ds_next ?_)⟩)))))
    refine ds_seq (ds_if (dt_test (de_eqI (de_var rfl (de_int ⟨12, 5, rfl, rfl, false, rfl, iteF (ds_next ?_)⟩)))))
    refine ds_seq (ds_if (dt_test (de_eqI (de_var rfl (de_int ⟨12, 6, rfl, rfl, false, rfl, iteF (ds_next ?_)⟩)))))
    exact ds_if (dt_test (de_eqI (de_var rfl (de_int ⟨12, 7, rfl, rfl, false, rfl, iteF (ds_next hq)⟩))))
  · have hq : R .non := hq
    refine ds_seq (ds_if (dt_test (de_eqI (de_var rfl (de_int ⟨13, 0, rfl, rfl, false, rfl, iteF (ds_next ?_)⟩)))))
    refine ds_seq (ds_if (dt_test (de_eqI (de_var rfl (de_int ⟨13, 1, rfl, rfl, false, rfl, iteF (ds_next ?_)⟩)))))
    refine ds_seq (ds_if (dt_test (de_eqI (de_var rfl (de_int ⟨13, 2, rfl, rfl, false, rfl, iteF (ds_next ?_)⟩)))))
    refine ds_seq (ds_if (dt_test (de_eqI (de_var rfl (de_int ⟨13, 3, rfl, rfl, false, rfl, iteF (ds_next ?_)⟩)))))
    refine ds_seq (ds_if (dt_test (de_eqI (de_var rfl (de_int ⟨13, 4, rfl, rfl, false, rfl, iteF (ds_next ?_)⟩)))))
    refine ds_seq (ds_if (dt_test (de_eqI (de_var rfl (de_int ⟨13, 5, rfl, rfl, false, rfl, iteF (ds_next ?_)⟩)))))
    refine ds_seq (ds_if (dt_test (de_eqI (de_var rfl (de_int ⟨13, 6, rfl, rfl, false, rfl, iteF (ds_next ?_)⟩)))))
    exact ds_if (dt_test (de_eqI (de_var rfl (de_int ⟨13, 7, rfl, rfl, false, rfl, iteF (ds_next hq)⟩))))
  · have hq : R .non := hq
    refine ds_seq (ds_if (dt_test (de_eqI (de_var rfl (de_int ⟨14, 0, rfl, rfl, false, rfl, iteF (ds_next ?_)⟩)))))
    refine ds_seq (ds_if (dt_test (de_eqI (de_var rfl (de_int ⟨14, 1, rfl, rfl, false, rfl, iteF (ds_next ?_)⟩)))))
    refine ds_seq (ds_if (dt_test (de_eqI (de_var rfl (de_int ⟨14, 2, rfl, rfl, false, rfl, iteF (ds_next ?_)⟩)))))
    refine ds_seq (ds_if (dt_test (de_eqI (de_var rfl (de_int ⟨14, 3, rfl, rfl, false, rfl, iteF (ds_next ?_)⟩)))))
    refine ds_seq (ds_if (dt_test (de_eqI (de_var rfl (de_int ⟨14, 4, rfl, rfl, false, rfl, iteF (ds_next ?_)⟩)))))
    refine ds_seq (ds_if (dt_test (de_eqI (de_var rfl (de_int ⟨14, 5, rfl, rfl, false, rfl, iteF (ds_next ?_)⟩)))))
    refine ds_seq (ds_if (dt_test (de_eqI (de_var rfl (de_int ⟨14, 6, rfl, rfl, false, rfl, iteF (ds_next ?_)⟩)))))
    exact ds_if (dt_test (de_eqI (de_var rfl (de_int ⟨14, 7, rfl, rfl, false, rfl, iteF (ds_next hq)⟩))))
  · have hq : R .non := hq
    refine ds_seq (ds_if (dt_test (de_eqI (de_var rfl (de_int ⟨15, 0, rfl, rfl, false, rfl, iteF (ds_next ?_)⟩)))))
    refine ds_seq (ds_if (dt_test (de_eqI (de_var rfl (de_int ⟨15, 1, rfl, rfl, false, rfl, iteF (ds_next ?_)⟩)))))
    refine ds_seq (ds_if (dt_test (de_eqI (de_var rfl (de_int ⟨15, 2, rfl, rfl, false, rfl, iteF (ds_next ?_)⟩)))))
    refine ds_seq (ds_if (dt_test (de_eqI (de_var rfl (de_int ⟨15, 3, rfl, rfl, false, rfl, iteF (ds_next ?_)⟩)))))
    refine ds_seq (ds_if (dt_test (de_eqI (de_var rfl (de_int ⟨15, 4, rfl, rfl, false, rfl, iteF (ds_next ?_)⟩)))))
    refine ds_seq (ds_if (dt_test (de_eqI (de_var rfl (de_int ⟨15, 5, rfl, rfl, false, rfl, iteF (ds_next ?_)⟩)))))
    refine ds_seq (ds_if (dt_test (de_eqI (de_var rfl (de_int ⟨15, 6, rfl, rfl, false, rfl, iteF (ds_next ?_)⟩)))))
    exact ds_if (dt_test (de_eqI (de_var rfl (de_int ⟨15, 7, rfl, rfl, false, rfl, iteF (ds_next hq)⟩))))
def F_law_raised_too (a : Ad) : DF := fun ss R X => ∃ (k : Nat) (one two three : D), ss = sD k one two three ∧ k < 16 ∧ if 8 ≤ k then X (kC a k) (kF one two three k) else R .non
theorem ok__law_raised_too (T : Tx K mg a) (hS : SysD base) : FnG P w K mg base true 3 a.f__law_raised_too a.d__law_raised_too (["kind", "one", "two", "three"] : List Str) (fun _ => spD K (F_law_raised_too a)) := by
  refine fn_data T.F__law_raised_too sc__law_raised_too (fun ss R X z => by obtain ⟨_, _, _, _, h, _⟩ := z; rw [h] <;> rfl) fun cdv A outer s H E pl hr => ⟨_, (pss_cons (ps_if (pt_cmpR (op_eqG hr.hu) (pv 0) pe_int (nomark _)) (pss_one (ps_raiseN rfl (takes_of rfl rfl rfl rfl) (pmk_oex (dvs := []) (ds := []) T.O_NoName T.i_NoName T.ti_NoName (in_NoName T) hr.room T.bi_NoName .nil pass0 (by rfl) T.g_NoName (pa_cons (pv 1) pa_nil)))) pss_nil)
      (pss_cons (ps_if (pt_cmpR (op_eqG hr.hu) (pv 0) pe_int (nomark _)) (pss_one (ps_raiseN rfl (takes_of rfl rfl rfl rfl) (pmk_oex (dvs := []) (ds := []) T.O_TakenName T.i_TakenName T.ti_TakenName (in_TakenName T) hr.room T.bi_TakenName .nil pass0 (by rfl) T.g_TakenName (pa_cons (pv 1) pa_nil)))) pss_nil)
      (pss_cons (ps_if (pt_cmpR (op_eqG hr.hu) (pv 0) pe_int (nomark _)) (pss_one (ps_raiseN rfl (takes_of rfl rfl rfl rfl) (pmk_oex (dvs := []) (ds := []) T.O_Unlike T.i_Unlike T.ti_Unlike (in_Unlike T) hr.room T.bi_Unlike .nil pass0 (by rfl) T.g_Unlike (pa_cons (pv 1) pa_nil)))) pss_nil)
      (pss_cons (ps_if (pt_cmpR (op_eqG hr.hu) (pv 0) pe_int (nomark _)) (pss_one (ps_raiseN rfl (takes_of rfl rfl rfl rfl) (pmk_oex (dvs := []) (ds := []) T.O_NotThere T.i_NotThere T.ti_NotThere (in_NotThere T) hr.room T.bi_NotThere .nil pass0 (by rfl) T.g_NotThere (pa_cons (pv 1) pa_nil)))) pss_nil)
      (pss_cons (ps_if (pt_cmpR (op_eqG hr.hu) (pv 0) pe_int (nomark _)) (pss_one (ps_raiseN rfl (takes_of rfl rfl rfl rfl) (pmk_oex (dvs := []) (ds := []) T.O_TooMany T.i_TooMany T.ti_TooMany (in_TooMany T) hr.room T.bi_TooMany .nil pass0 (by rfl) T.g_TooMany (pa_cons (pv 1) (pa_cons (pv 2) (pa_cons (pv 3) pa_nil)))))) pss_nil)
      (pss_cons (ps_if (pt_cmpR (op_eqG hr.hu) (pv 0) pe_int (nomark _)) (pss_one (ps_raiseN rfl (takes_of rfl rfl rfl rfl) (pmk_oex (dvs := []) (ds := []) T.O_NotKept T.i_NotKept T.ti_NotKept (in_NotKept T) hr.room T.bi_NotKept .nil pass0 (by rfl) T.g_NotKept (pa_cons (pv 1) (pa_cons (pv 2) pa_nil))))) pss_nil)
      (pss_cons (ps_if (pt_cmpR (op_eqG hr.hu) (pv 0) pe_int (nomark _)) (pss_one (ps_raiseN rfl (takes_of rfl rfl rfl rfl) (pmk_none T.x_NothingToUndo T.g_NothingToUndo T.y_NothingToUndo (raises_own T.o_NothingToUndo T.t_NothingToUndo) (by rfl)))) pss_nil)
      (pss_one (ps_if (pt_cmpR (op_eqG hr.hu) (pv 0) pe_int (nomark _)) (pss_one (ps_raiseN rfl (takes_of rfl rfl rfl rfl) (pmk_none T.x_NothingToRedo T.g_NothingToRedo T.y_NothingToRedo (raises_own T.o_NothingToRedo T.t_NothingToRedo) (by rfl)))) pss_nil))))))))), fun b ss R X h hX => ?_⟩
  obtain ⟨k, one, two, three, rfl, hk, hq⟩ := h
  have hk' : k = 0 ∨ k = 1 ∨ k = 2 ∨ k = 3 ∨ k = 4 ∨ k = 5 ∨ k = 6 ∨ k = 7 ∨ k = 8 ∨ k = 9 ∨ k = 10 ∨ k = 11 ∨ k = 12 ∨ k = 13 ∨ k = 14 ∨ k = 15 := by omega
  rcases hk' with rfl | rfl | rfl | rfl | rfl | rfl | rfl | rfl | rfl | rfl | rfl | rfl | rfl | rfl | rfl | rfl
  · have hq : R .non := hq
    refine ds_seq (ds_if (dt_test (de_eqI (de_var rfl (de_int ⟨0, 8, rfl, rfl, false, rfl, iteF (ds_next ?_)⟩)))))
    refine ds_seq (ds_if (dt_test (de_eqI (de_var rfl (de_int ⟨0, 9, rfl, rfl, false, rfl, iteF (ds_next ?_)⟩)))))
    refine ds_seq (ds_if (dt_test (de_eqI (de_var rfl (de_int ⟨0, 10, rfl, rfl, false, rfl, iteF (ds_next ?_)⟩)))))
    refine ds_seq (ds_if (dt_test (de_eqI (de_var rfl (de_int ⟨0, 11, rfl, rfl, false, rfl, iteF (ds_next ?_)⟩)))))
    refine ds_seq (ds_if (dt_test (de_eqI (de_var rfl (de_int ⟨0, 12, rfl, rfl, false, rfl, iteF (ds_next ?_)⟩)))))
    refine ds_seq (ds_if (dt_test (de_eqI (de_var rfl (de_int ⟨0, 13, rfl, rfl, false, rfl, iteF (ds_next ?_)⟩)))))
    refine ds_seq (ds_if (dt_test (de_eqI (de_var rfl (de_int ⟨0, 14, rfl, rfl, false, rfl, iteF (ds_next ?_)⟩)))))
    exact ds_if (dt_test (de_eqI (de_var rfl (de_int ⟨0, 15, rfl, rfl, false, rfl, iteF (ds_next hq)⟩))))
  · have hq : R .non := hq
    refine ds_seq (ds_if (dt_test (de_eqI (de_var rfl (de_int ⟨1, 8, rfl, rfl, false, rfl, iteF (ds_next ?_)⟩)))))
    refine ds_seq (ds_if (dt_test (de_eqI (de_var rfl (de_int ⟨1, 9, rfl, rfl, false, rfl, iteF (ds_next ?_)⟩)))))
    refine ds_seq (ds_if (dt_test (de_eqI (de_var rfl (de_int ⟨1, 10, rfl, rfl, false, rfl, iteF (ds_next ?_)⟩)))))
    refine ds_seq (ds_if (dt_test (de_eqI (de_var rfl (de_int ⟨1, 11, rfl, rfl, false, rfl, iteF (ds_next ?_)⟩)))))
    refine ds_seq (ds_if (dt_test (de_eqI (de_var rfl (de_int ⟨1, 12, rfl, rfl, false, rfl, iteF (ds_next ?_)⟩)))))
    refine ds_seq (ds_if (dt_test (de_eqI (de_var rfl (de_int ⟨1, 13, rfl, rfl, false, rfl, iteF (ds_next ?_)⟩)))))
    refine ds_seq (ds_if (dt_test (de_eqI (de_var rfl (de_int ⟨1, 14, rfl, rfl, false, rfl, iteF (ds_next ?_)⟩)))))
    exact ds_if (dt_test (de_eqI (de_var rfl (de_int ⟨1, 15, rfl, rfl, false, rfl, iteF (ds_next hq)⟩))))
  · have hq : R .non := hq
    refine ds_seq (ds_if (dt_test (de_eqI (de_var rfl (de_int ⟨2, 8, rfl, rfl, false, rfl, iteF (ds_next ?_)⟩)))))
    refine ds_seq (ds_if (dt_test (de_eqI (de_var rfl (de_int ⟨2, 9, rfl, rfl, false, rfl, iteF (ds_next ?_)⟩)))))
    refine ds_seq (ds_if (dt_test (de_eqI (de_var rfl (de_int ⟨2, 10, rfl, rfl, false, rfl, iteF (ds_next ?_)⟩)))))
    refine ds_seq (ds_if (dt_test (de_eqI (de_var rfl (de_int ⟨2, 11, rfl, rfl, false, rfl, iteF (ds_next ?_)⟩)))))
    refine ds_seq (ds_if (dt_test (de_eqI (de_var rfl (de_int ⟨2, 12, rfl, rfl, false, rfl, iteF (ds_next ?_)⟩)))))
    refine ds_seq (ds_if (dt_test (de_eqI (de_var rfl (de_int ⟨2, 13, rfl, rfl, false, rfl, iteF (ds_next ?_)⟩)))))
    refine ds_seq (ds_if (dt_test (de_eqI (de_var rfl (de_int ⟨2, 14, rfl, rfl, false, rfl, iteF (ds_next ?_)⟩)))))
    exact ds_if (dt_test (de_eqI (de_var rfl (de_int ⟨2, 15, rfl, rfl, false, rfl, iteF (ds_next hq)⟩))))
  · have hq : R .non := hq
    refine ds_seq (ds_if (dt_test (de_eqI (de_var rfl (de_int ⟨3, 8, rfl, rfl, false, rfl, iteF (ds_next ?_)⟩)))))
    refine ds_seq (ds_if (dt_test (de_eqI (de_var rfl (de_int ⟨3, 9, rfl, rfl, false, rfl, iteF (ds_next ?_)⟩)))))
    refine ds_seq (ds_if (dt_test (de_eqI (de_var rfl (de_int ⟨3, 10, rfl, rfl, false, rfl, iteF (ds_next ?_)⟩)))))
    refine ds_seq (ds_if (dt_test (de_eqI (de_var rfl (de_int ⟨3, 11, rfl, rfl, false, rfl, iteF (ds_next ?_)⟩)))))
    refine ds_seq (ds_if (dt_test (de_eqI (de_var rfl (de_int ⟨3, 12, rfl, rfl, false, rfl, iteF (ds_next ?_)⟩)))))
    refine ds_seq (ds_if (dt_test (de_eqI (de_var rfl (de_int ⟨3, 13, rfl, rfl, false, rfl, iteF (ds_next ?_)⟩)))))
    refine ds_seq (ds_if (dt_test (de_eqI (de_var rfl (de_int ⟨3, 14, rfl, rfl, false, rfl, iteF (ds_next ?_)⟩)))))
    exact ds_if (dt_test (de_eqI (de_var rfl (de_int ⟨3, 15, rfl, rfl, false, rfl, iteF (ds_next hq)⟩))))
  · have hq : R .non := hq
    refine ds_seq (ds_if (dt_test (de_eqI (de_var rfl (de_int ⟨4, 8, rfl, rfl, false, rfl, iteF (ds_next ?_)⟩)))))
    refine ds_seq (ds_if (dt_test (de_eqI (de_var rfl (de_int ⟨4, 9, rfl, rfl, false, rfl, iteF (ds_next ?_)⟩)))))
    refine ds_seq (ds_if (dt_test (de_eqI (de_var rfl (de_int ⟨4, 10, rfl, rfl, false, rfl, iteF (ds_next ?_)⟩)))))
    refine ds_seq (ds_if (dt_test (de_eqI (de_var rfl (de_int ⟨4, 11, rfl, rfl, false, rfl, iteF (ds_next ?_)⟩)))))
    refine ds_seq (ds_if (dt_test (de_eqI (de_var rfl (de_int ⟨4, 12, rfl, rfl, false, rfl, iteF (ds_next ?_)⟩)))))
    refine ds_seq (ds_if (dt_test (de_eqI (de_var rfl (de_int ⟨4, 13, rfl, rfl, false, rfl, iteF (ds_next ?_)⟩)))))
    refine ds_seq (ds_if (dt_test (de_eqI (de_var rfl (de_int ⟨4, 14, rfl, rfl, false, rfl, iteF (ds_next ?_)⟩)))))
    exact ds_if (dt_test (de_eqI (de_var rfl (de_int ⟨4, 15, rfl, rfl, false, rfl, iteF (ds_next hq)⟩))))
  · have hq : R .non := hq
    refine ds_seq (ds_if (dt_test (de_eqI (de_var rfl (de_int ⟨5, 8, rfl, rfl, false, rfl, iteF (ds_next ?_)⟩)))))
    refine ds_seq (ds_if (dt_test (de_eqI (de_var rfl (de_int ⟨5, 9, rfl, rfl, false, rfl, iteF (ds_next ?_)⟩)))))
    refine ds_seq (ds_if (dt_test (de_eqI (de_var rfl (de_int ⟨5, 10, rfl, rfl, false, rfl, iteF (ds_next ?_)⟩)))))
    refine ds_seq (ds_if (dt_test (de_eqI (de_var rfl (de_int ⟨5, 11, rfl, rfl, false, rfl, iteF (ds_next ?_)⟩)))))
    refine ds_seq (ds_if (dt_test (de_eqI (de_var rfl (de_int ⟨5, 12, rfl, rfl, false, rfl, iteF (ds_next ?_)⟩)))))
    refine ds_seq (ds_if (dt_test (de_eqI (de_var rfl (de_int ⟨5, 13, rfl, rfl, false, rfl, iteF (ds_next ?_)⟩)))))
    refine ds_seq (ds_if (dt_test (de_eqI (de_var rfl (de_int ⟨5, 14, rfl, rfl, false, rfl, iteF (ds_next ?_)⟩)))))
    exact ds_if (dt_test (de_eqI (de_var rfl (de_int ⟨5, 15, rfl, rfl, false, rfl, iteF (ds_next hq)⟩))))
  · have hq : R .non := hq
    refine ds_seq (ds_if (dt_test (de_eqI (de_var rfl (de_int ⟨6, 8, rfl, rfl, false, rfl, iteF (ds_next ?_)⟩)))))
    refine ds_seq (ds_if (dt_test (de_eqI (de_var rfl (de_int ⟨6, 9, rfl, rfl, false, rfl, iteF (ds_next ?_)⟩)))))
    refine ds_seq (ds_if (dt_test (de_eqI (de_var rfl (de_int ⟨6, 10, rfl, rfl, false, rfl, iteF (ds_next ?_)⟩)))))
    refine ds_seq (ds_if (dt_test (de_eqI (de_var rfl (de_int ⟨6, 11, rfl, rfl, false, rfl, iteF (ds_next ?_)⟩)))))
    refine ds_seq (ds_if (dt_test (de_eqI (de_var rfl (de_int ⟨6, 12, rfl, rfl, false, rfl, iteF (ds_next ?_)⟩)))))
    refine ds_seq (ds_if (dt_test (de_eqI (de_var rfl (de_int ⟨6, 13, rfl, rfl, false, rfl, iteF (ds_next ?_)⟩)))))
    refine ds_seq (ds_if (dt_test (de_eqI (de_var rfl (de_int ⟨6, 14, rfl, rfl, false, rfl, iteF (ds_next ?_)⟩)))))
    exact ds_if (dt_test (de_eqI (de_var rfl (de_int ⟨6, 15, rfl, rfl, false, rfl, iteF (ds_next hq)⟩))))
  · have hq : R .non := hq
    refine ds_seq (ds_if (dt_test (de_eqI (de_var rfl (de_int ⟨7, 8, rfl, rfl, false, rfl, iteF (ds_next ?_)⟩)))))
    refine ds_seq (ds_if (dt_test (de_eqI (de_var rfl (de_int ⟨7, 9, rfl, rfl, false, rfl, iteF (ds_next ?_)⟩)))))
    refine ds_seq (ds_if (dt_test (de_eqI (de_var rfl (de_int ⟨7, 10, rfl, rfl, false, rfl, iteF (ds_next ?_)⟩)))))
    refine ds_seq (ds_if (dt_test (de_eqI (de_var rfl (de_int ⟨7, 11, rfl, rfl, false, rfl, iteF (ds_next ?_)⟩)))))
    refine ds_seq (ds_if (dt_test (de_eqI (de_var rfl (de_int ⟨7, 12, rfl, rfl, false, rfl, iteF (ds_next ?_)⟩)))))
    refine ds_seq (ds_if (dt_test (de_eqI (de_var rfl (de_int ⟨7, 13, rfl, rfl, false, rfl, iteF (ds_next ?_)⟩)))))
    refine ds_seq (ds_if (dt_test (de_eqI (de_var rfl (de_int ⟨7, 14, rfl, rfl, false, rfl, iteF (ds_next ?_)⟩)))))
    exact ds_if (dt_test (de_eqI (de_var rfl (de_int ⟨7, 15, rfl, rfl, false, rfl, iteF (ds_next hq)⟩))))
  · have hq : X a.c_NoName (kF one two three 8) := hq
    exact ds_seq (ds_if (dt_test (de_eqI (de_var rfl (de_int ⟨8, 8, rfl, rfl, true, rfl, iteT (ds_raise (hX _) (da_cons (de_var rfl (da_nil ⟨rfl, by decide, hq⟩))))⟩)))))
  · have hq : X a.c_TakenName (kF one two three 9) := hq
    refine ds_seq (ds_if (dt_test (de_eqI (de_var rfl (de_int ⟨9, 8, rfl, rfl, false, rfl, iteF (ds_next ?_)⟩)))))
    exact ds_seq (ds_if (dt_test (de_eqI (de_var rfl (de_int ⟨9, 9, rfl, rfl, true, rfl, iteT (ds_raise (hX _) (da_cons (de_var rfl (da_nil ⟨rfl, by decide, hq⟩))))⟩)))))
  · have hq : X a.c_Unlike (kF one two three 10) := hq
    refine ds_seq (ds_if (dt_test (de_eqI (de_var rfl (de_int ⟨10, 8, rfl, rfl, false, rfl, iteF (ds_next ?_)⟩)))))
    refine ds_seq (ds_if (dt_test (de_eqI (de_var rfl (de_int ⟨10, 9, rfl, rfl, false, rfl, iteF (ds_next ?_)⟩)))))
    exact ds_seq (ds_if (dt_test (de_eqI (de_var rfl (de_int ⟨10, 10, rfl, rfl, true, rfl, iteT (ds_raise (hX _) (da_cons (de_var rfl (da_nil ⟨rfl, by decide, hq⟩))))⟩)))))
  · have hq : X a.c_NotThere (kF one two three 11) := hq
    refine ds_seq (ds_if (dt_test (de_eqI (de_var rfl (de_int ⟨11, 8, rfl, rfl, false, rfl, iteF (ds_next ?_)⟩)))))
    refine ds_seq (ds_if (dt_test (de_eqI (de_var rfl (de_int ⟨11, 9, rfl, rfl, false, rfl, iteF (ds_next ?_)⟩)))))
    refine ds_seq (ds_if (dt_test (de_eqI (de_var rfl (de_int ⟨11, 10, rfl, rfl, false, rfl, iteF (ds_next ?_)⟩)))))
    exact ds_seq (ds_if (dt_test (de_eqI (de_var rfl (de_int ⟨11, 11, rfl, rfl, true, rfl, iteT (ds_raise (hX _) (da_cons (de_var rfl (da_nil ⟨rfl, by decide, hq⟩))))⟩)))))
  · have hq : X a.c_TooMany (kF one two three 12) := hq
    refine ds_seq (ds_if (dt_test (de_eqI (de_var rfl (de_int ⟨12, 8, rfl, rfl, false, rfl, iteF (ds_next ?_)⟩)))))
    refine ds_seq (ds_if (dt_test (de_eqI (de_var rfl (de_int ⟨12, 9, rfl, rfl, false, rfl, iteF (ds_next ?_)⟩)))))
    refine ds_seq (ds_if (dt_test (de_eqI (de_var rfl (de_int ⟨12, 10, rfl, rfl, false, rfl, iteF (ds_next ?_)⟩)))))
    refine ds_seq (ds_if (dt_test (de_eqI (de_var rfl (de_int ⟨12, 11, rfl, rfl, false, rfl, iteF (ds_next ?_)⟩)))))
    exact ds_seq (ds_if (dt_test (de_eqI (de_var rfl (de_int ⟨12, 12, rfl, rfl, true, rfl, iteT (ds_raise (hX _) (da_cons (de_var rfl (da_cons (de_var rfl (da_cons (de_var rfl (da_nil ⟨rfl, by decide, hq⟩))))))))⟩)))))
  · have hq : X a.c_NotKept (kF one two three 13) := hq
    refine ds_seq (ds_if (dt_test (de_eqI (de_var rfl (de_int ⟨13, 8, rfl, rfl, false, rfl, iteF (ds_next ?_)⟩)))))
    refine ds_seq (ds_if (dt_test (de_eqI (de_var rfl (de_int ⟨13, 9, rfl, rfl, false, rfl, iteF (ds_next ?_)⟩)))))
    refine ds_seq (ds_if (dt_test (de_eqI (de_var rfl (de_int ⟨13, 10, rfl, rfl, false, rfl, iteF (ds_next ?_)⟩)))))
    refine ds_seq (ds_if (dt_test (de_eqI (de_var rfl (de_int ⟨13, 11, rfl, rfl, false, rfl, iteF (ds_next ?_)⟩)))))
    refine ds_seq (ds_if (dt_test (de_eqI (de_var rfl (de_int ⟨13, 12, rfl, rfl, false, rfl, iteF (ds_next ?_)⟩)))))
    exact ds_seq (ds_if (dt_test (de_eqI (de_var rfl (de_int ⟨13, 13, rfl, rfl, true, rfl, iteT (ds_raise (hX _) (da_cons (de_var rfl (da_cons (de_var rfl (da_nil ⟨rfl, by decide, hq⟩))))))⟩)))))
  · have hq : X a.c_NothingToUndo (kF one two three 14) := hq
    refine ds_seq (ds_if (dt_test (de_eqI (de_var rfl (de_int ⟨14, 8, rfl, rfl, false, rfl, iteF (ds_next ?_)⟩)))))
    refine ds_seq (ds_if (dt_test (de_eqI (de_var rfl (de_int ⟨14, 9, rfl, rfl, false, rfl, iteF (ds_next ?_)⟩)))))
    refine ds_seq (ds_if (dt_test (de_eqI (de_var rfl (de_int ⟨14, 10, rfl, rfl, false, rfl, iteF (ds_next ?_)⟩)))))
    refine ds_seq (ds_if (dt_test (de_eqI (de_var rfl (de_int ⟨14, 11, rfl, rfl, false, rfl, iteF (ds_next ?_)⟩)))))
    refine ds_seq (ds_if (dt_test (de_eqI (de_var rfl (de_int ⟨14, 12, rfl, rfl, false, rfl, iteF (ds_next ?_)⟩)))))
    refine ds_seq (ds_if (dt_test (de_eqI (de_var rfl (de_int ⟨14, 13, rfl, rfl, false, rfl, iteF (ds_next ?_)⟩)))))
    exact ds_seq (ds_if (dt_test (de_eqI (de_var rfl (de_int ⟨14, 14, rfl, rfl, true, rfl, iteT (ds_raise0 (hX _) hq)⟩)))))
  · have hq : X a.c_NothingToRedo (kF one two three 15) := hq
    refine ds_seq (ds_if (dt_test (de_eqI (de_var rfl (de_int ⟨15, 8, rfl, rfl, false, rfl, iteF (ds_next ?_)⟩)))))
    refine ds_seq (ds_if (dt_test (de_eqI (de_var rfl (de_int ⟨15, 9, rfl, rfl, false, rfl, iteF (ds_next ?_)⟩)))))
    refine ds_seq (ds_if (dt_test (de_eqI (de_var rfl (de_int ⟨15, 10, rfl, rfl, false, rfl, iteF (ds_next ?_)⟩)))))
    refine ds_seq (ds_if (dt_test (de_eqI (de_var rfl (de_int ⟨15, 11, rfl, rfl, false, rfl, iteF (ds_next ?_)⟩)))))
    refine ds_seq (ds_if (dt_test (de_eqI (de_var rfl (de_int ⟨15, 12, rfl, rfl, false, rfl, iteF (ds_next ?_)⟩)))))
    refine ds_seq (ds_if (dt_test (de_eqI (de_var rfl (de_int ⟨15, 13, rfl, rfl, false, rfl, iteF (ds_next ?_)⟩)))))
    refine ds_seq (ds_if (dt_test (de_eqI (de_var rfl (de_int ⟨15, 14, rfl, rfl, false, rfl, iteF (ds_next ?_)⟩)))))
    exact ds_if (dt_test (de_eqI (de_var rfl (de_int ⟨15, 15, rfl, rfl, true, rfl, iteT (ds_raise0 (hX _) hq)⟩))))
theorem kE (T : Tx K mg a) {k : Nat} (hk : k < 16) : ErrK K (kC a k) (.ref a.c_GenusError :: veT) := by
  have hk' : k = 0 ∨ k = 1 ∨ k = 2 ∨ k = 3 ∨ k = 4 ∨ k = 5 ∨ k = 6 ∨ k = 7 ∨ k = 8 ∨ k = 9 ∨ k = 10 ∨ k = 11 ∨ k = 12 ∨ k = 13 ∨ k = 14 ∨ k = 15 := by omega
  rcases hk' with rfl | rfl | rfl | rfl | rfl | rfl | rfl | rfl | rfl | rfl | rfl | rfl | rfl | rfl | rfl | rfl
  · exact T.e_BadNumber
  · exact T.e_BadRow
  · exact T.e_BadTable
  · exact T.e_BadForm
  · exact T.e_BadBook
  · exact T.e_BadName
  · exact T.e_BadText
  · exact T.e_NoPlace
  · exact T.e_NoName
  · exact T.e_TakenName
  · exact T.e_Unlike
  · exact T.e_NotThere
  · exact T.e_TooMany
  · exact T.e_NotKept
  · exact T.e_NothingToUndo
  · exact T.e_NothingToRedo
def F_told : DF := fun ss R _ => ∃ (k : Nat) (one two three : D), ss = sD k one two three ∧ k < 16 ∧ Fd one ∧ Fd two ∧ Fd three ∧ R (.lst [kT one two three k])
theorem ok__law_told (T : Tx K mg a) (hS : SysD base) : FnG P w K mg base true 4 a.f__law_told a.d__law_told (["kind", "one", "two", "three"] : List Str) (fun _ => spD K F_told) := by
  refine fn_data T.F__law_told sc__law_told (fun ss R X z => by obtain ⟨_, _, _, _, h, _⟩ := z; rw [h] <;> rfl) fun cdv A outer s H E pl hr => ⟨_, (pss_cons (ps_set (i := 4) sc__law_told.nd rfl (Or.inl rfl) pe_non)
      (pss_cons (ps_tryD (i := 5) rfl rfl sc__law_told.nd rfl rfl ⟨by rfl, by decide, Or.inl T.g_GenusError⟩ (takes_of rfl rfl rfl rfl) (fun W pn xe tkW pO => (pss_cons (ps_expr (pe_go (ok__law_raised T hS) (hr.mono (by decide)) (pl := []) (fun _ h => nomatch h) (by rfl) T.g__law_raised T.F__law_raised.kp T.b__law_raised (passAt tkW) (pa_cons (pv 0) (pa_cons (pv 1) (pa_cons (pv 2) (pa_cons (pv 3) pa_nil))))))
      (pss_one (ps_expr (pe_go (ok__law_raised_too T hS) (hr.mono (by decide)) (pl := []) (fun _ h => nomatch h) (by rfl) T.g__law_raised_too T.F__law_raised_too.kp T.b__law_raised_too (passAt tkW) (pa_cons (pv 0) (pa_cons (pv 1) (pa_cons (pv 2) (pa_cons (pv 3) pa_nil))))))))) (fun a0 oe cls d0 pn hz hf => (pss_one (ps_if (pt_val (pe_callB (show CallR _ _ (rIsG K (fun a' d' C' => a' = a0 ∧ d' = d0 ∧ Value.ref C' = cls ∧ XcC K C')) from call_isG (fun a' d' C' z => pnp_of (pn := pn) hz hf z)) (by rfl) T.n_isinstance PyProof.Rows.boot_isinstance (pa_cons (pv 5) (pa_cons (pe_bltn (v := .ty "ValueError") (by rfl) T.n_ValueError (by decide +kernel) rfl) pa_nil)))) (pss_one (ps_set (i := 4) sc__law_told.nd rfl (Or.inl rfl) (pe_goX (ok__law_kinds T hS) hz hf ((hr.mark (some (.ref a0))).mono (by decide)) List.mem_cons_self (by rfl) T.g__law_kinds T.F__law_kinds.kp T.b__law_kinds lets0 (pa_cons (pv 5) pa_nil)))) pss_nil))))
      (pss_one (ps_ret (pv 4))))), fun b ss R X h hX => ?_⟩
  obtain ⟨k, one, two, three, rfl, hk, h1, h2, h3, hR⟩ := h
  refine ds_seq (ds_asg (de_non ?_))
  refine ds_seq (ds_try (fun C fs => C = kC a k ∧ fs = kF one two three k) (fun d z => nomatch z) (fun b' W sub hE => ?_) (fun b' C fs sub hx => ?_))
  · refine ds_seq (ds_drop (de_call hE (dc_cons (de_var rfl (dc_cons (de_var rfl (dc_cons (de_var rfl (dc_cons (de_var rfl (dc_nil ⟨k, one, two, three, rfl, hk, ?_⟩)))))))))))
    refine ite2 (fun z => ⟨rfl, rfl⟩) (fun z => ?_)
    refine ds_drop (de_call hE (dc_cons (de_var rfl (dc_cons (de_var rfl (dc_cons (de_var rfl (dc_cons (de_var rfl (dc_nil ⟨k, one, two, three, rfl, hk, ?_⟩))))))))))
    exact ite2 (fun z => ⟨rfl, rfl⟩) (fun z => by omega)
  · obtain ⟨rfl, rfl⟩ := hx
    have e := kE T hk
    refine ⟨(e.exm T.e_GenusError vees0).trans (by rw [contains_base]), fun a0 d0 => ?_⟩
    have xc := e.xc T.eb vees
    refine ds_if (dt_test (de_isX (.ty "ValueError") (de_var rfl ⟨a0, d0, kC a k, kF one two three k, true, rfl, ⟨rfl, rfl, rfl, xc⟩, e.kitT vees, true, rfl, iteT ?_⟩)))
    refine ds_asg (de_callX EL.no (dc_cons (de_var rfl (dc_nil fun oe hz hf => ⟨trivial, k, a0, d0, one, two, three, hk, ⟨oe, List.mem_singleton.mpr rfl, hz, hf, xc⟩, rfl, h1, h2, h3, ?_⟩))))
    exact ds_ret (de_var rfl hR)
def F_due : DF := fun ss R _ => ∃ (k : Nat) (one two three : D), ss = sD k one two three ∧ k < 16 ∧ Fd one ∧ Fd two ∧ Fd three ∧ R (kT one two three k)
theorem ok__law_due (T : Tx K mg a) (hS : SysD base) : FnG P w K mg base true 1 a.f__law_due a.d__law_due (["kind", "one", "two", "three"] : List Str) (fun _ => spD K F_due) := by
  refine fn_data T.F__law_due sc__law_due (fun ss R X z => by obtain ⟨_, _, _, _, h, _⟩ := z; rw [h] <;> rfl) fun cdv A outer s H E pl hr => ⟨_, (pss_cons (ps_set (i := 4) sc__law_due.nd rfl (Or.inl rfl) (pe_lst (pa_cons pe_str (pa_cons pe_str (pa_cons pe_str (pa_cons pe_str (pa_cons pe_str (pa_cons pe_str (pa_cons pe_str (pa_cons pe_str (pa_cons pe_str (pa_cons pe_str (pa_cons pe_str (pa_cons pe_str pa_nil))))))))))))))
      (pss_cons (ps_set (i := 4) sc__law_due.nd rfl (Or.inl rfl) (pe_op op_addG (pv 4) (pe_lst (pa_cons pe_str (pa_cons pe_str (pa_cons pe_str (pa_cons pe_str pa_nil)))))))
      (pss_cons (ps_if (pt_cmpR op_in_seq (pv 0) (pe_tup (pa_cons pe_int (pa_cons pe_int (pa_cons pe_int pa_nil)))) (by rfl)) (pss_one (ps_ret (pe_tup (pa_cons (pe_ix ix_seq (pv 4) (pv 0) (fun _ _ => rfl)) (pa_cons (pv 1) (pa_cons (pe_callB (call_repr hS (hr.gd) hr.hu) (by rfl) T.n_repr PyProof.Rows.boot_repr (pa_cons (pv 2) pa_nil)) pa_nil)))))) pss_nil)
      (pss_cons (ps_if (pt_cmpR op_in_seq (pv 0) (pe_tup (pa_cons pe_int (pa_cons pe_int (pa_cons pe_int (pa_cons pe_int (pa_cons pe_int pa_nil)))))) (by rfl)) (pss_one (ps_ret (pe_tup (pa_cons (pe_ix ix_seq (pv 4) (pv 0) (fun _ _ => rfl)) (pa_cons (pv 1) pa_nil))))) pss_nil)
      (pss_cons (ps_if (pt_cmpR op_in_seq (pv 0) (pe_tup (pa_cons pe_int (pa_cons pe_int (pa_cons pe_int pa_nil)))) (by rfl)) (pss_one (ps_ret (pe_tup (pa_cons (pe_ix ix_seq (pv 4) (pv 0) (fun _ _ => rfl)) (pa_cons (pe_callB (call_repr hS (hr.gd) hr.hu) (by rfl) T.n_repr PyProof.Rows.boot_repr (pa_cons (pv 1) pa_nil)) pa_nil))))) pss_nil)
      (pss_cons (ps_if (pt_cmpR op_in_seq (pv 0) (pe_tup (pa_cons pe_int (pa_cons pe_int pa_nil))) (by rfl)) (pss_one (ps_ret (pe_tup (pa_cons (pe_ix ix_seq (pv 4) (pv 0) (fun _ _ => rfl)) (pa_cons (pv 1) (pa_cons (pv 2) pa_nil)))))) pss_nil)
      (pss_one (ps_ret (pe_ifExp (pt_cmpR (op_eqG hr.hu) (pv 0) pe_int (nomark _)) (pe_tup (pa_cons (pe_ix ix_seq (pv 4) (pv 0) (fun _ _ => rfl)) (pa_cons (pv 1) (pa_cons (pv 2) (pa_cons (pv 3) pa_nil))))) (pe_tup (pa_cons (pe_ix ix_seq (pv 4) (pv 0) (fun _ _ => rfl)) pa_nil))))))))))), fun b ss R X h hX => ?_⟩
  obtain ⟨k, one, two, three, rfl, hk, h1, h2, h3, hR⟩ := h
  have ok1 := h1.ok (by decide) (by decide)
  have ok2 := h2.ok (by decide) (by decide)
  refine ds_seq (ds_own (dn_lst (da_cons (de_str (da_cons (de_str (da_cons (de_str (da_cons (de_str (da_cons (de_str (da_cons (de_str (da_cons (de_str (da_cons (de_str (da_cons (de_str (da_cons (de_str (da_cons (de_str (da_cons (de_str (da_nil ⟨by decide, ?_⟩)))))))))))))))))))))))))))
  refine ds_seq (ds_own (dn_addL_own rfl (de_lst (da_cons (de_str (da_cons (de_str (da_cons (de_str (da_cons (de_str (da_nil ⟨by decide, _, rfl, by decide, ?_⟩))))))))))))
  refine ds_share (i := 4) rfl ?_
  have hk' : k = 0 ∨ k = 1 ∨ k = 2 ∨ k = 3 ∨ k = 4 ∨ k = 5 ∨ k = 6 ∨ k = 7 ∨ k = 8 ∨ k = 9 ∨ k = 10 ∨ k = 11 ∨ k = 12 ∨ k = 13 ∨ k = 14 ∨ k = 15 := by omega
  rcases hk' with rfl | rfl | rfl | rfl | rfl | rfl | rfl | rfl | rfl | rfl | rfl | rfl | rfl | rfl | rfl | rfl
  · have hR : R (kT one two three 0) := hR
    exact ds_seq (ds_if (dt_test (de_in (de_var rfl (de_tup (da_cons (de_int (da_cons (de_int (da_cons (de_int (da_nil ⟨by decide, .int 0, _, _, rfl, rfl, rfl, true, rfl, iteT (ds_ret (de_tup (da_cons (de_ix (de_var rfl (de_var rfl ⟨0, .str "number", rfl, rfl, da_cons (de_var rfl (da_cons (de_repr (de_var rfl ⟨ok2, da_nil ⟨by simp, hR⟩⟩))))⟩))))))⟩))))))))))))
  · have hR : R (kT one two three 1) := hR
    exact ds_seq (ds_if (dt_test (de_in (de_var rfl (de_tup (da_cons (de_int (da_cons (de_int (da_cons (de_int (da_nil ⟨by decide, .int 1, _, _, rfl, rfl, rfl, true, rfl, iteT (ds_ret (de_tup (da_cons (de_ix (de_var rfl (de_var rfl ⟨1, .str "row", rfl, rfl, da_cons (de_var rfl (da_cons (de_repr (de_var rfl ⟨ok2, da_nil ⟨by simp, hR⟩⟩))))⟩))))))⟩))))))))))))
  · have hR : R (kT one two three 2) := hR
    refine ds_seq (ds_if (dt_test (de_in (de_var rfl (de_tup (da_cons (de_int (da_cons (de_int (da_cons (de_int (da_nil ⟨by decide, .int 2, _, _, rfl, rfl, rfl, false, rfl, iteF (ds_next ?_)⟩))))))))))))
    exact ds_seq (ds_if (dt_test (de_in (de_var rfl (de_tup (da_cons (de_int (da_cons (de_int (da_cons (de_int (da_cons (de_int (da_cons (de_int (da_nil ⟨by decide, .int 2, _, _, rfl, rfl, rfl, true, rfl, iteT (ds_ret (de_tup (da_cons (de_ix (de_var rfl (de_var rfl ⟨2, .str "table", rfl, rfl, da_cons (de_var rfl (da_nil ⟨by simp, hR⟩))⟩))))))⟩))))))))))))))))
  · have hR : R (kT one two three 3) := hR
    refine ds_seq (ds_if (dt_test (de_in (de_var rfl (de_tup (da_cons (de_int (da_cons (de_int (da_cons (de_int (da_nil ⟨by decide, .int 3, _, _, rfl, rfl, rfl, false, rfl, iteF (ds_next ?_)⟩))))))))))))
    exact ds_seq (ds_if (dt_test (de_in (de_var rfl (de_tup (da_cons (de_int (da_cons (de_int (da_cons (de_int (da_cons (de_int (da_cons (de_int (da_nil ⟨by decide, .int 3, _, _, rfl, rfl, rfl, true, rfl, iteT (ds_ret (de_tup (da_cons (de_ix (de_var rfl (de_var rfl ⟨3, .str "form", rfl, rfl, da_cons (de_var rfl (da_nil ⟨by simp, hR⟩))⟩))))))⟩))))))))))))))))
  · have hR : R (kT one two three 4) := hR
    refine ds_seq (ds_if (dt_test (de_in (de_var rfl (de_tup (da_cons (de_int (da_cons (de_int (da_cons (de_int (da_nil ⟨by decide, .int 4, _, _, rfl, rfl, rfl, false, rfl, iteF (ds_next ?_)⟩))))))))))))
    exact ds_seq (ds_if (dt_test (de_in (de_var rfl (de_tup (da_cons (de_int (da_cons (de_int (da_cons (de_int (da_cons (de_int (da_cons (de_int (da_nil ⟨by decide, .int 4, _, _, rfl, rfl, rfl, true, rfl, iteT (ds_ret (de_tup (da_cons (de_ix (de_var rfl (de_var rfl ⟨4, .str "book", rfl, rfl, da_cons (de_var rfl (da_nil ⟨by simp, hR⟩))⟩))))))⟩))))))))))))))))
  · have hR : R (kT one two three 5) := hR
    refine ds_seq (ds_if (dt_test (de_in (de_var rfl (de_tup (da_cons (de_int (da_cons (de_int (da_cons (de_int (da_nil ⟨by decide, .int 5, _, _, rfl, rfl, rfl, false, rfl, iteF (ds_next ?_)⟩))))))))))))
    refine ds_seq (ds_if (dt_test (de_in (de_var rfl (de_tup (da_cons (de_int (da_cons (de_int (da_cons (de_int (da_cons (de_int (da_cons (de_int (da_nil ⟨by decide, .int 5, _, _, rfl, rfl, rfl, false, rfl, iteF (ds_next ?_)⟩))))))))))))))))
    exact ds_seq (ds_if (dt_test (de_in (de_var rfl (de_tup (da_cons (de_int (da_cons (de_int (da_cons (de_int (da_nil ⟨by decide, .int 5, _, _, rfl, rfl, rfl, true, rfl, iteT (ds_ret (de_tup (da_cons (de_ix (de_var rfl (de_var rfl ⟨5, .str "badname", rfl, rfl, da_cons (de_repr (de_var rfl ⟨ok1, da_nil ⟨by simp, hR⟩⟩))⟩))))))⟩))))))))))))
  · have hR : R (kT one two three 6) := hR
    refine ds_seq (ds_if (dt_test (de_in (de_var rfl (de_tup (da_cons (de_int (da_cons (de_int (da_cons (de_int (da_nil ⟨by decide, .int 6, _, _, rfl, rfl, rfl, false, rfl, iteF (ds_next ?_)⟩))))))))))))
    refine ds_seq (ds_if (dt_test (de_in (de_var rfl (de_tup (da_cons (de_int (da_cons (de_int (da_cons (de_int (da_cons (de_int (da_cons (de_int (da_nil ⟨by decide, .int 6, _, _, rfl, rfl, rfl, false, rfl, iteF (ds_next ?_)⟩))))))))))))))))
    refine ds_seq (ds_if (dt_test (de_in (de_var rfl (de_tup (da_cons (de_int (da_cons (de_int (da_cons (de_int (da_nil ⟨by decide, .int 6, _, _, rfl, rfl, rfl, false, rfl, iteF (ds_next ?_)⟩))))))))))))
    exact ds_seq (ds_if (dt_test (de_in (de_var rfl (de_tup (da_cons (de_int (da_cons (de_int (da_nil ⟨by decide, .int 6, _, _, rfl, rfl, rfl, true, rfl, iteT (ds_ret (de_tup (da_cons (de_ix (de_var rfl (de_var rfl ⟨6, .str "text", rfl, rfl, da_cons (de_var rfl (da_cons (de_var rfl (da_nil ⟨by simp, hR⟩))))⟩))))))⟩))))))))))
  · have hR : R (kT one two three 7) := hR
    exact ds_seq (ds_if (dt_test (de_in (de_var rfl (de_tup (da_cons (de_int (da_cons (de_int (da_cons (de_int (da_nil ⟨by decide, .int 7, _, _, rfl, rfl, rfl, true, rfl, iteT (ds_ret (de_tup (da_cons (de_ix (de_var rfl (de_var rfl ⟨7, .str "place", rfl, rfl, da_cons (de_var rfl (da_cons (de_repr (de_var rfl ⟨ok2, da_nil ⟨by simp, hR⟩⟩))))⟩))))))⟩))))))))))))
  · have hR : R (kT one two three 8) := hR
    refine ds_seq (ds_if (dt_test (de_in (de_var rfl (de_tup (da_cons (de_int (da_cons (de_int (da_cons (de_int (da_nil ⟨by decide, .int 8, _, _, rfl, rfl, rfl, false, rfl, iteF (ds_next ?_)⟩))))))))))))
    refine ds_seq (ds_if (dt_test (de_in (de_var rfl (de_tup (da_cons (de_int (da_cons (de_int (da_cons (de_int (da_cons (de_int (da_cons (de_int (da_nil ⟨by decide, .int 8, _, _, rfl, rfl, rfl, false, rfl, iteF (ds_next ?_)⟩))))))))))))))))
    exact ds_seq (ds_if (dt_test (de_in (de_var rfl (de_tup (da_cons (de_int (da_cons (de_int (da_cons (de_int (da_nil ⟨by decide, .int 8, _, _, rfl, rfl, rfl, true, rfl, iteT (ds_ret (de_tup (da_cons (de_ix (de_var rfl (de_var rfl ⟨8, .str "noname", rfl, rfl, da_cons (de_repr (de_var rfl ⟨ok1, da_nil ⟨by simp, hR⟩⟩))⟩))))))⟩))))))))))))
  · have hR : R (kT one two three 9) := hR
    refine ds_seq (ds_if (dt_test (de_in (de_var rfl (de_tup (da_cons (de_int (da_cons (de_int (da_cons (de_int (da_nil ⟨by decide, .int 9, _, _, rfl, rfl, rfl, false, rfl, iteF (ds_next ?_)⟩))))))))))))
    refine ds_seq (ds_if (dt_test (de_in (de_var rfl (de_tup (da_cons (de_int (da_cons (de_int (da_cons (de_int (da_cons (de_int (da_cons (de_int (da_nil ⟨by decide, .int 9, _, _, rfl, rfl, rfl, false, rfl, iteF (ds_next ?_)⟩))))))))))))))))
    exact ds_seq (ds_if (dt_test (de_in (de_var rfl (de_tup (da_cons (de_int (da_cons (de_int (da_cons (de_int (da_nil ⟨by decide, .int 9, _, _, rfl, rfl, rfl, true, rfl, iteT (ds_ret (de_tup (da_cons (de_ix (de_var rfl (de_var rfl ⟨9, .str "taken", rfl, rfl, da_cons (de_repr (de_var rfl ⟨ok1, da_nil ⟨by simp, hR⟩⟩))⟩))))))⟩))))))))))))
  · have hR : R (kT one two three 10) := hR
    refine ds_seq (ds_if (dt_test (de_in (de_var rfl (de_tup (da_cons (de_int (da_cons (de_int (da_cons (de_int (da_nil ⟨by decide, .int 10, _, _, rfl, rfl, rfl, false, rfl, iteF (ds_next ?_)⟩))))))))))))
    exact ds_seq (ds_if (dt_test (de_in (de_var rfl (de_tup (da_cons (de_int (da_cons (de_int (da_cons (de_int (da_cons (de_int (da_cons (de_int (da_nil ⟨by decide, .int 10, _, _, rfl, rfl, rfl, true, rfl, iteT (ds_ret (de_tup (da_cons (de_ix (de_var rfl (de_var rfl ⟨10, .str "unlike", rfl, rfl, da_cons (de_var rfl (da_nil ⟨by simp, hR⟩))⟩))))))⟩))))))))))))))))
  · have hR : R (kT one two three 11) := hR
    refine ds_seq (ds_if (dt_test (de_in (de_var rfl (de_tup (da_cons (de_int (da_cons (de_int (da_cons (de_int (da_nil ⟨by decide, .int 11, _, _, rfl, rfl, rfl, false, rfl, iteF (ds_next ?_)⟩))))))))))))
    exact ds_seq (ds_if (dt_test (de_in (de_var rfl (de_tup (da_cons (de_int (da_cons (de_int (da_cons (de_int (da_cons (de_int (da_cons (de_int (da_nil ⟨by decide, .int 11, _, _, rfl, rfl, rfl, true, rfl, iteT (ds_ret (de_tup (da_cons (de_ix (de_var rfl (de_var rfl ⟨11, .str "notthere", rfl, rfl, da_cons (de_var rfl (da_nil ⟨by simp, hR⟩))⟩))))))⟩))))))))))))))))
  · have hR : R (kT one two three 12) := hR
    refine ds_seq (ds_if (dt_test (de_in (de_var rfl (de_tup (da_cons (de_int (da_cons (de_int (da_cons (de_int (da_nil ⟨by decide, .int 12, _, _, rfl, rfl, rfl, false, rfl, iteF (ds_next ?_)⟩))))))))))))
    refine ds_seq (ds_if (dt_test (de_in (de_var rfl (de_tup (da_cons (de_int (da_cons (de_int (da_cons (de_int (da_cons (de_int (da_cons (de_int (da_nil ⟨by decide, .int 12, _, _, rfl, rfl, rfl, false, rfl, iteF (ds_next ?_)⟩))))))))))))))))
    refine ds_seq (ds_if (dt_test (de_in (de_var rfl (de_tup (da_cons (de_int (da_cons (de_int (da_cons (de_int (da_nil ⟨by decide, .int 12, _, _, rfl, rfl, rfl, false, rfl, iteF (ds_next ?_)⟩))))))))))))
    refine ds_seq (ds_if (dt_test (de_in (de_var rfl (de_tup (da_cons (de_int (da_cons (de_int (da_nil ⟨by decide, .int 12, _, _, rfl, rfl, rfl, false, rfl, iteF (ds_next ?_)⟩))))))))))
    exact ds_ret (de_ite (dt_test (de_eqI (de_var rfl (de_int ⟨12, 12, rfl, rfl, true, rfl, iteT (de_tup (da_cons (de_ix (de_var rfl (de_var rfl ⟨12, .str "many", rfl, rfl, da_cons (de_var rfl (da_cons (de_var rfl (da_cons (de_var rfl (da_nil ⟨by simp, hR⟩))))))⟩)))))⟩)))))
  · have hR : R (kT one two three 13) := hR
    refine ds_seq (ds_if (dt_test (de_in (de_var rfl (de_tup (da_cons (de_int (da_cons (de_int (da_cons (de_int (da_nil ⟨by decide, .int 13, _, _, rfl, rfl, rfl, false, rfl, iteF (ds_next ?_)⟩))))))))))))
    refine ds_seq (ds_if (dt_test (de_in (de_var rfl (de_tup (da_cons (de_int (da_cons (de_int (da_cons (de_int (da_cons (de_int (da_cons (de_int (da_nil ⟨by decide, .int 13, _, _, rfl, rfl, rfl, false, rfl, iteF (ds_next ?_)⟩))))))))))))))))
    refine ds_seq (ds_if (dt_test (de_in (de_var rfl (de_tup (da_cons (de_int (da_cons (de_int (da_cons (de_int (da_nil ⟨by decide, .int 13, _, _, rfl, rfl, rfl, false, rfl, iteF (ds_next ?_)⟩))))))))))))
    exact ds_seq (ds_if (dt_test (de_in (de_var rfl (de_tup (da_cons (de_int (da_cons (de_int (da_nil ⟨by decide, .int 13, _, _, rfl, rfl, rfl, true, rfl, iteT (ds_ret (de_tup (da_cons (de_ix (de_var rfl (de_var rfl ⟨13, .str "kept", rfl, rfl, da_cons (de_var rfl (da_cons (de_var rfl (da_nil ⟨by simp, hR⟩))))⟩))))))⟩))))))))))
  · have hR : R (kT one two three 14) := hR
    refine ds_seq (ds_if (dt_test (de_in (de_var rfl (de_tup (da_cons (de_int (da_cons (de_int (da_cons (de_int (da_nil ⟨by decide, .int 14, _, _, rfl, rfl, rfl, false, rfl, iteF (ds_next ?_)⟩))))))))))))
    refine ds_seq (ds_if (dt_test (de_in (de_var rfl (de_tup (da_cons (de_int (da_cons (de_int (da_cons (de_int (da_cons (de_int (da_cons (de_int (da_nil ⟨by decide, .int 14, _, _, rfl, rfl, rfl, false, rfl, iteF (ds_next ?_)⟩))))))))))))))))
    refine ds_seq (ds_if (dt_test (de_in (de_var rfl (de_tup (da_cons (de_int (da_cons (de_int (da_cons (de_int (da_nil ⟨by decide, .int 14, _, _, rfl, rfl, rfl, false, rfl, iteF (ds_next ?_)⟩))))))))))))
    refine ds_seq (ds_if (dt_test (de_in (de_var rfl (de_tup (da_cons (de_int (da_cons (de_int (da_nil ⟨by decide, .int 14, _, _, rfl, rfl, rfl, false, rfl, iteF (ds_next ?_)⟩))))))))))
    exact ds_ret (de_ite (dt_test (de_eqI (de_var rfl (de_int ⟨14, 12, rfl, rfl, false, rfl, iteF (de_tup (da_cons (de_ix (de_var rfl (de_var rfl ⟨14, .str "undo", rfl, rfl, da_nil ⟨by simp, hR⟩⟩)))))⟩)))))
  · have hR : R (kT one two three 15) := hR
    refine ds_seq (ds_if (dt_test (de_in (de_var rfl (de_tup (da_cons (de_int (da_cons (de_int (da_cons (de_int (da_nil ⟨by decide, .int 15, _, _, rfl, rfl, rfl, false, rfl, iteF (ds_next ?_)⟩))))))))))))
    refine ds_seq (ds_if (dt_test (de_in (de_var rfl (de_tup (da_cons (de_int (da_cons (de_int (da_cons (de_int (da_cons (de_int (da_cons (de_int (da_nil ⟨by decide, .int 15, _, _, rfl, rfl, rfl, false, rfl, iteF (ds_next ?_)⟩))))))))))))))))
    refine ds_seq (ds_if (dt_test (de_in (de_var rfl (de_tup (da_cons (de_int (da_cons (de_int (da_cons (de_int (da_nil ⟨by decide, .int 15, _, _, rfl, rfl, rfl, false, rfl, iteF (ds_next ?_)⟩))))))))))))
    refine ds_seq (ds_if (dt_test (de_in (de_var rfl (de_tup (da_cons (de_int (da_cons (de_int (da_nil ⟨by decide, .int 15, _, _, rfl, rfl, rfl, false, rfl, iteF (ds_next ?_)⟩))))))))))
    exact ds_ret (de_ite (dt_test (de_eqI (de_var rfl (de_int ⟨15, 12, rfl, rfl, false, rfl, iteF (de_tup (da_cons (de_ix (de_var rfl (de_var rfl ⟨15, .str "redo", rfl, rfl, da_nil ⟨by simp, hR⟩⟩)))))⟩)))))
end
end Law

set_option Elab.async false
set_option linter.all false
set_option maxRecDepth 100000
set_option maxHeartbeats 4000000
namespace Law
open PySem PySem.Spec PyProof.Rows L2 G
theorem kT_ok {one two three : D} (h1 : Fd one) (h2 : Fd two) (h3 : Fd three) {k : Nat} (hk : k < 16) : okR (kT one two three k) := by
  have z : SmL 3 0 [] := SmL.nil
  have st : ∀ {s : Str}, (s.cps.toList.all fun c => decide (c < 16 ^ 8)) = true → s.length ≤ 10 → Sm 3 10 (.str s) := fun a b => Sm.str (ok8_dec a) b
  have ta : ∀ {s : Str}, Sm 3 10 (.str s) → okR (.tup [.str s, one, .str two.py.shown]) := fun h => (SmL.cons h (SmL.cons h1 (SmL.cons (h2.shown (m := 3)) z))).tup.ok (by decide) (by decide)
  have tb : ∀ {s : Str}, Sm 3 10 (.str s) → okR (.tup [.str s, one]) := fun h => (SmL.cons h (SmL.cons h1 z)).tup.ok (by decide) (by decide)
  have tc : ∀ {s : Str}, Sm 3 10 (.str s) → okR (.tup [.str s, .str one.py.shown]) := fun h => (SmL.cons h (SmL.cons (h1.shown (m := 3)) z)).tup.ok (by decide) (by decide)
  have td : ∀ {s : Str}, Sm 3 10 (.str s) → okR (.tup [.str s, one, two]) := fun h => (SmL.cons h (SmL.cons h1 (SmL.cons h2 z))).tup.ok (by decide) (by decide)
  have te : ∀ {s : Str}, Sm 3 10 (.str s) → okR (.tup [.str s, one, two, three]) := fun h => (SmL.cons h (SmL.cons h1 (SmL.cons h2 (SmL.cons h3 z)))).tup.ok (by decide) (by decide)
  have tf : ∀ {s : Str}, Sm 3 10 (.str s) → okR (.tup [.str s]) := fun h => (SmL.cons h z).tup.ok (by decide) (by decide)
  have hk' : k = 0 ∨ k = 1 ∨ k = 2 ∨ k = 3 ∨ k = 4 ∨ k = 5 ∨ k = 6 ∨ k = 7 ∨ k = 8 ∨ k = 9 ∨ k = 10 ∨ k = 11 ∨ k = 12 ∨ k = 13 ∨ k = 14 ∨ k = 15 := by omega
  rcases hk' with rfl | rfl | rfl | rfl | rfl | rfl | rfl | rfl | rfl | rfl | rfl | rfl | rfl | rfl | rfl | rfl
  · exact ta (s := "number") (st (by decide +kernel) (by decide +kernel))
  · exact ta (s := "row") (st (by decide +kernel) (by decide +kernel))
  · exact tb (s := "table") (st (by decide +kernel) (by decide +kernel))
  · exact tb (s := "form") (st (by decide +kernel) (by decide +kernel))
  · exact tb (s := "book") (st (by decide +kernel) (by decide +kernel))
  · exact tc (s := "badname") (st (by decide +kernel) (by decide +kernel))
  · exact td (s := "text") (st (by decide +kernel) (by decide +kernel))
  · exact ta (s := "place") (st (by decide +kernel) (by decide +kernel))
  · exact tc (s := "noname") (st (by decide +kernel) (by decide +kernel))
  · exact tc (s := "taken") (st (by decide +kernel) (by decide +kernel))
  · exact tb (s := "unlike") (st (by decide +kernel) (by decide +kernel))
  · exact tb (s := "notthere") (st (by decide +kernel) (by decide +kernel))
  · exact te (s := "many") (st (by decide +kernel) (by decide +kernel))
  · exact td (s := "kept") (st (by decide +kernel) (by decide +kernel))
  · exact tf (s := "undo") (st (by decide +kernel) (by decide +kernel))
  · exact tf (s := "redo") (st (by decide +kernel) (by decide +kernel))
section
variable {P : Program} {w : World} {K : PySem.W.Frag} {mg : Str → Option Value} {base : Heap} {a : Ad}
theorem ok_law (T : Tx K mg a) (hS : SysD base) : FnG P w K mg base true 5 a.f_law a.d_law (["script"] : List Str) (fun _ => spLaw K) := by
  refine fn_go T.F_law sc_law (fun pl vs H Q E h => by obtain ⟨_, _, rfl, _⟩ := h; rfl) (fun cdv A outer s H vs Q E pl hr h => ?_)
  obtain ⟨sa, ns, rfl, hs, hl, hb, q⟩ := h
  refine ⟨_, (pss_cons (ps_set (i := 1) sc_law.nd rfl (Or.inl rfl) (pe_go (ok__law_pen T hS) (hr.mono (by decide)) (pl := []) (fun _ h => nomatch h) (by rfl) T.g__law_pen T.F__law_pen.kp T.b__law_pen lets0 (pa_cons (pv 0) pa_nil)))
      (pss_cons (ps_for (passes_of rfl) rfl (pi_range1 rfl T.n_range (pa_cons pe_int pa_nil)) (pg_name (i := 2) sc_law.nd rfl (Or.inl rfl)) (pss_cons (ps_par3 (i := 3) (j := 4) (l := 5) rfl sc_law.nd rfl rfl rfl (by decide) (by decide) (by decide) rfl rfl rfl (pa_cons (pe_go (ok__law_any_field T hS) (hr.mono (by decide)) (pl := []) (fun _ h => nomatch h) (by rfl) T.g__law_any_field T.F__law_any_field.kp T.b__law_any_field lets0 (pa_cons (pv 1) pa_nil)) (pa_cons (pe_go (ok__law_any_field T hS) (hr.mono (by decide)) (pl := []) (fun _ h => nomatch h) (by rfl) T.g__law_any_field T.F__law_any_field.kp T.b__law_any_field lets0 (pa_cons (pv 1) pa_nil)) (pa_cons (pe_go (ok__law_any_field T hS) (hr.mono (by decide)) (pl := []) (fun _ h => nomatch h) (by rfl) T.g__law_any_field T.F__law_any_field.kp T.b__law_any_field lets0 (pa_cons (pv 1) pa_nil)) pa_nil))) rfl)
      (pss_cons (ps_set (i := 6) sc_law.nd rfl (Or.inl rfl) (pe_go (ok__law_told T hS) (hr.mono (by decide)) (pl := []) (fun _ h => nomatch h) (by rfl) T.g__law_told T.F__law_told.kp T.b__law_told lets0 (pa_cons (pv 2) (pa_cons (pv 3) (pa_cons (pv 4) (pa_cons (pv 5) pa_nil))))))
      (pss_one (ps_if (PW.pt (pw_or (pt_cmp (pc_isN (pv 6))) (pw_or (pt_cmpR (op_neG hr.hu) (pe_callB call_lenV (by rfl) T.n_len PySem.boot_len (pa_cons (pv 6) pa_nil)) pe_int (nomark _)) (pw_or1 (pt_cmpR (op_neG hr.hu) (pe_callB (call_repr hS (hr.gd) hr.hu) (by rfl) T.n_repr PyProof.Rows.boot_repr (pa_cons (pe_ix ix_seq (pv 6) pe_int (fun _ _ => rfl)) pa_nil)) (pe_callB (call_repr hS (hr.gd) hr.hu) (by rfl) T.n_repr PyProof.Rows.boot_repr (pa_cons (pe_go (ok__law_due T hS) (hr.mono (by decide)) (pl := []) (fun _ h => nomatch h) (by rfl) T.g__law_due T.F__law_due.kp T.b__law_due lets0 (pa_cons (pv 2) (pa_cons (pv 3) (pa_cons (pv 4) (pa_cons (pv 5) pa_nil))))) pa_nil)) (nomark _)))))) (pss_one (ps_ret pe_bl)) pss_nil)))))
      (pss_one (ps_ret pe_bl)))), ?_⟩
  refine law_start (n := 5) rfl hs hl hb (fun b => ?_) q
  refine ds_seq (ds_forR1 (da_cons (de_int (da_nil ⟨16, rfl, by decide, by decide, fun i ρ => ∃ s2 s3 s4 s5 s6, ρ = [.no, .pen, s2, s3, s4, s5, s6], ⟨_, _, _, _, _, rfl⟩, fun i ρ hi h => ?_, fun ρ h => ds_ret (de_bl rfl)⟩))))
  obtain ⟨s2, s3, s4, s5, s6, rfl⟩ := h
  have hi : i < 16 := hi
  refine dg_name (ds_seq (ds_par3 (da_cons (de_call EL.no (dc_pen rfl (dc_nil ⟨rfl, fun one h1 => ?_⟩))))))
  refine da_cons (de_call EL.no (dc_pen rfl (dc_nil ⟨rfl, fun two h2 => ?_⟩)))
  refine da_cons (de_call EL.no (dc_pen rfl (dc_nil ⟨rfl, fun three h3 => ?_⟩)))
  refine da_nil ⟨one, two, three, rfl, ?_⟩
  refine ds_seq (ds_asg (de_call EL.no (dc_cons (de_var rfl (dc_cons (de_var rfl (dc_cons (de_var rfl (dc_cons (de_var rfl (dc_nil ⟨i, one, two, three, rfl, hi, h1, h2, h3, ?_⟩)))))))))))
  refine ds_if (dt_or (dt_test (de_isN (de_var rfl ⟨false, rfl, iteF ?_⟩))))
  refine dt_or (dt_test (de_neI (de_len (de_var rfl ⟨1, rfl, de_int ⟨1, 1, rfl, rfl, false, rfl, iteF ?_⟩⟩))))
  have ok := kT_ok h1 h2 h3 hi
  refine dt_test (de_neS (de_repr (de_ix (de_var rfl (de_int ⟨0, kT one two three i, rfl, rfl, ok, ?_⟩)))))
  refine de_repr (de_call EL.no (dc_cons (de_var rfl (dc_cons (de_var rfl (dc_cons (de_var rfl (dc_cons (de_var rfl (dc_nil ⟨i, one, two, three, rfl, hi, h1, h2, h3, ok, ?_⟩))))))))))
  exact ⟨_, _, rfl, rfl, false, by simp, iteF (ds_next ⟨_, _, _, _, _, rfl⟩)⟩
end
theorem all_mk {K : PySem.W.Frag} {h : Heap} {mg : Str → Option Value} {fa : Addr} (X : K.In h) (G : h.Ns mainGlobals mg) (hfa : mg "law" = some (.ref fa))
    {f0 : Addr} {od0 an0 : Option Addr} {sl0 : Array (Option Value)} {oc0 kV0 dc0 pm0 cd0 ct0 : Value}
    {f1 : Addr} {od1 an1 : Option Addr} {sl1 : Array (Option Value)} {oc1 kV1 dc1 pm1 cd1 ct1 : Value}
    {f2 : Addr} {od2 an2 : Option Addr} {sl2 : Array (Option Value)} {oc2 kV2 dc2 pm2 cd2 ct2 : Value}
    {f3 : Addr} {od3 an3 : Option Addr} {sl3 : Array (Option Value)} {oc3 kV3 dc3 pm3 cd3 ct3 : Value}
    {f4 : Addr} {od4 an4 : Option Addr} {sl4 : Array (Option Value)} {oc4 kV4 dc4 pm4 cd4 ct4 : Value}
    {f5 : Addr} {od5 an5 : Option Addr} {sl5 : Array (Option Value)} {oc5 kV5 dc5 pm5 cd5 ct5 : Value}
    {f6 : Addr} {od6 an6 : Option Addr} {sl6 : Array (Option Value)} {oc6 kV6 dc6 pm6 cd6 ct6 : Value}
    {f7 : Addr} {od7 an7 : Option Addr} {sl7 : Array (Option Value)} {oc7 kV7 dc7 pm7 cd7 ct7 : Value}
    {f8 : Addr} {od8 an8 : Option Addr} {sl8 : Array (Option Value)} {oc8 kV8 dc8 pm8 cd8 ct8 : Value}
    {f9 : Addr} {od9 an9 : Option Addr} {sl9 : Array (Option Value)} {oc9 kV9 dc9 pm9 cd9 ct9 : Value}
    {f10 : Addr} {od10 an10 : Option Addr} {sl10 : Array (Option Value)} {oc10 kV10 dc10 pm10 cd10 ct10 : Value}
    {C_GenusError N_GenusError : Addr} {nm_GenusError q_GenusError : Str} {bs_GenusError sub_GenusError : List Value} {sn_GenusError : List Str} {ab_GenusError : Bool} {col_GenusError : Option Bool} {dd_GenusError : Option Addr} {m0_GenusError m1_GenusError m2_GenusError m3_GenusError m5_GenusError : Option Value}
    {C_BadNumber N_BadNumber : Addr} {nm_BadNumber q_BadNumber : Str} {bs_BadNumber sub_BadNumber : List Value} {sn_BadNumber : List Str} {ab_BadNumber : Bool} {col_BadNumber : Option Bool} {dd_BadNumber : Option Addr} {m0_BadNumber m1_BadNumber m2_BadNumber m3_BadNumber m5_BadNumber : Option Value}
    {I_BadNumber : Addr} {iod_BadNumber ian_BadNumber : Option Addr} {isl_BadNumber : Array (Option Value)} {ioc_BadNumber ikV_BadNumber idc_BadNumber ipm_BadNumber icd_BadNumber ict_BadNumber : Value}
    {C_BadRow N_BadRow : Addr} {nm_BadRow q_BadRow : Str} {bs_BadRow sub_BadRow : List Value} {sn_BadRow : List Str} {ab_BadRow : Bool} {col_BadRow : Option Bool} {dd_BadRow : Option Addr} {m0_BadRow m1_BadRow m2_BadRow m3_BadRow m5_BadRow : Option Value}
    {I_BadRow : Addr} {iod_BadRow ian_BadRow : Option Addr} {isl_BadRow : Array (Option Value)} {ioc_BadRow ikV_BadRow idc_BadRow ipm_BadRow icd_BadRow ict_BadRow : Value}
    {C_BadTable N_BadTable : Addr} {nm_BadTable q_BadTable : Str} {bs_BadTable sub_BadTable : List Value} {sn_BadTable : List Str} {ab_BadTable : Bool} {col_BadTable : Option Bool} {dd_BadTable : Option Addr} {m0_BadTable m1_BadTable m2_BadTable m3_BadTable m5_BadTable : Option Value}
    {I_BadTable : Addr} {iod_BadTable ian_BadTable : Option Addr} {isl_BadTable : Array (Option Value)} {ioc_BadTable ikV_BadTable idc_BadTable ipm_BadTable icd_BadTable ict_BadTable : Value}
    {C_BadForm N_BadForm : Addr} {nm_BadForm q_BadForm : Str} {bs_BadForm sub_BadForm : List Value} {sn_BadForm : List Str} {ab_BadForm : Bool} {col_BadForm : Option Bool} {dd_BadForm : Option Addr} {m0_BadForm m1_BadForm m2_BadForm m3_BadForm m5_BadForm : Option Value}
    {I_BadForm : Addr} {iod_BadForm ian_BadForm : Option Addr} {isl_BadForm : Array (Option Value)} {ioc_BadForm ikV_BadForm idc_BadForm ipm_BadForm icd_BadForm ict_BadForm : Value}
    {C_BadBook N_BadBook : Addr} {nm_BadBook q_BadBook : Str} {bs_BadBook sub_BadBook : List Value} {sn_BadBook : List Str} {ab_BadBook : Bool} {col_BadBook : Option Bool} {dd_BadBook : Option Addr} {m0_BadBook m1_BadBook m2_BadBook m3_BadBook m5_BadBook : Option Value}
    {I_BadBook : Addr} {iod_BadBook ian_BadBook : Option Addr} {isl_BadBook : Array (Option Value)} {ioc_BadBook ikV_BadBook idc_BadBook ipm_BadBook icd_BadBook ict_BadBook : Value}
    {C_BadName N_BadName : Addr} {nm_BadName q_BadName : Str} {bs_BadName sub_BadName : List Value} {sn_BadName : List Str} {ab_BadName : Bool} {col_BadName : Option Bool} {dd_BadName : Option Addr} {m0_BadName m1_BadName m2_BadName m3_BadName m5_BadName : Option Value}
    {I_BadName : Addr} {iod_BadName ian_BadName : Option Addr} {isl_BadName : Array (Option Value)} {ioc_BadName ikV_BadName idc_BadName ipm_BadName icd_BadName ict_BadName : Value}
    {C_BadText N_BadText : Addr} {nm_BadText q_BadText : Str} {bs_BadText sub_BadText : List Value} {sn_BadText : List Str} {ab_BadText : Bool} {col_BadText : Option Bool} {dd_BadText : Option Addr} {m0_BadText m1_BadText m2_BadText m3_BadText m5_BadText : Option Value}
    {I_BadText : Addr} {iod_BadText ian_BadText : Option Addr} {isl_BadText : Array (Option Value)} {ioc_BadText ikV_BadText idc_BadText ipm_BadText icd_BadText ict_BadText : Value}
    {C_NoPlace N_NoPlace : Addr} {nm_NoPlace q_NoPlace : Str} {bs_NoPlace sub_NoPlace : List Value} {sn_NoPlace : List Str} {ab_NoPlace : Bool} {col_NoPlace : Option Bool} {dd_NoPlace : Option Addr} {m0_NoPlace m1_NoPlace m2_NoPlace m3_NoPlace m5_NoPlace : Option Value}
    {I_NoPlace : Addr} {iod_NoPlace ian_NoPlace : Option Addr} {isl_NoPlace : Array (Option Value)} {ioc_NoPlace ikV_NoPlace idc_NoPlace ipm_NoPlace icd_NoPlace ict_NoPlace : Value}
    {C_NoName N_NoName : Addr} {nm_NoName q_NoName : Str} {bs_NoName sub_NoName : List Value} {sn_NoName : List Str} {ab_NoName : Bool} {col_NoName : Option Bool} {dd_NoName : Option Addr} {m0_NoName m1_NoName m2_NoName m3_NoName m5_NoName : Option Value}
    {I_NoName : Addr} {iod_NoName ian_NoName : Option Addr} {isl_NoName : Array (Option Value)} {ioc_NoName ikV_NoName idc_NoName ipm_NoName icd_NoName ict_NoName : Value}
    {C_TakenName N_TakenName : Addr} {nm_TakenName q_TakenName : Str} {bs_TakenName sub_TakenName : List Value} {sn_TakenName : List Str} {ab_TakenName : Bool} {col_TakenName : Option Bool} {dd_TakenName : Option Addr} {m0_TakenName m1_TakenName m2_TakenName m3_TakenName m5_TakenName : Option Value}
    {I_TakenName : Addr} {iod_TakenName ian_TakenName : Option Addr} {isl_TakenName : Array (Option Value)} {ioc_TakenName ikV_TakenName idc_TakenName ipm_TakenName icd_TakenName ict_TakenName : Value}
    {C_Unlike N_Unlike : Addr} {nm_Unlike q_Unlike : Str} {bs_Unlike sub_Unlike : List Value} {sn_Unlike : List Str} {ab_Unlike : Bool} {col_Unlike : Option Bool} {dd_Unlike : Option Addr} {m0_Unlike m1_Unlike m2_Unlike m3_Unlike m5_Unlike : Option Value}
    {I_Unlike : Addr} {iod_Unlike ian_Unlike : Option Addr} {isl_Unlike : Array (Option Value)} {ioc_Unlike ikV_Unlike idc_Unlike ipm_Unlike icd_Unlike ict_Unlike : Value}
    {C_NotThere N_NotThere : Addr} {nm_NotThere q_NotThere : Str} {bs_NotThere sub_NotThere : List Value} {sn_NotThere : List Str} {ab_NotThere : Bool} {col_NotThere : Option Bool} {dd_NotThere : Option Addr} {m0_NotThere m1_NotThere m2_NotThere m3_NotThere m5_NotThere : Option Value}
    {I_NotThere : Addr} {iod_NotThere ian_NotThere : Option Addr} {isl_NotThere : Array (Option Value)} {ioc_NotThere ikV_NotThere idc_NotThere ipm_NotThere icd_NotThere ict_NotThere : Value}
    {C_TooMany N_TooMany : Addr} {nm_TooMany q_TooMany : Str} {bs_TooMany sub_TooMany : List Value} {sn_TooMany : List Str} {ab_TooMany : Bool} {col_TooMany : Option Bool} {dd_TooMany : Option Addr} {m0_TooMany m1_TooMany m2_TooMany m3_TooMany m5_TooMany : Option Value}
    {I_TooMany : Addr} {iod_TooMany ian_TooMany : Option Addr} {isl_TooMany : Array (Option Value)} {ioc_TooMany ikV_TooMany idc_TooMany ipm_TooMany icd_TooMany ict_TooMany : Value}
    {C_NotKept N_NotKept : Addr} {nm_NotKept q_NotKept : Str} {bs_NotKept sub_NotKept : List Value} {sn_NotKept : List Str} {ab_NotKept : Bool} {col_NotKept : Option Bool} {dd_NotKept : Option Addr} {m0_NotKept m1_NotKept m2_NotKept m3_NotKept m5_NotKept : Option Value}
    {I_NotKept : Addr} {iod_NotKept ian_NotKept : Option Addr} {isl_NotKept : Array (Option Value)} {ioc_NotKept ikV_NotKept idc_NotKept ipm_NotKept icd_NotKept ict_NotKept : Value}
    {C_NothingToUndo N_NothingToUndo : Addr} {nm_NothingToUndo q_NothingToUndo : Str} {bs_NothingToUndo sub_NothingToUndo : List Value} {sn_NothingToUndo : List Str} {ab_NothingToUndo : Bool} {col_NothingToUndo : Option Bool} {dd_NothingToUndo : Option Addr} {m0_NothingToUndo m1_NothingToUndo m2_NothingToUndo m3_NothingToUndo m5_NothingToUndo : Option Value}
    {C_NothingToRedo N_NothingToRedo : Addr} {nm_NothingToRedo q_NothingToRedo : Str} {bs_NothingToRedo sub_NothingToRedo : List Value} {sn_NothingToRedo : List Str} {ab_NothingToRedo : Bool} {col_NothingToRedo : Option Bool} {dd_NothingToRedo : Option Addr} {m0_NothingToRedo m1_NothingToRedo m2_NothingToRedo m3_NothingToRedo m5_NothingToRedo : Option Value}
    (a0 : PySem.W.nsIn K mainGlobals "_law_pen" = some (some (.ref f0)))
    (l0 : K.lookup f0 = some ⟨oc0, od0, .func (PySem.W.fnOf "_law_pen" "_law_pen" (defArgs s__law_pen) (defBody s__law_pen) (defScope s__law_pen) .none kV0 dc0 pm0 an0 cd0 ct0), sl0⟩)
    (c0 : PySem.W.codeIn K cd0 "_law_pen" = true)
    (k0 : PySem.W.keepIn K (.ref f0) = true)
    (a1 : PySem.W.nsIn K mainGlobals "_law_draw" = some (some (.ref f1)))
    (l1 : K.lookup f1 = some ⟨oc1, od1, .func (PySem.W.fnOf "_law_draw" "_law_draw" (defArgs s__law_draw) (defBody s__law_draw) (defScope s__law_draw) .none kV1 dc1 pm1 an1 cd1 ct1), sl1⟩)
    (c1 : PySem.W.codeIn K cd1 "_law_draw" = true)
    (k1 : PySem.W.keepIn K (.ref f1) = true)
    (a2 : PySem.W.nsIn K mainGlobals "_law_pick" = some (some (.ref f2)))
    (l2 : K.lookup f2 = some ⟨oc2, od2, .func (PySem.W.fnOf "_law_pick" "_law_pick" (defArgs s__law_pick) (defBody s__law_pick) (defScope s__law_pick) .none kV2 dc2 pm2 an2 cd2 ct2), sl2⟩)
    (c2 : PySem.W.codeIn K cd2 "_law_pick" = true)
    (k2 : PySem.W.keepIn K (.ref f2) = true)
    (a3 : PySem.W.nsIn K mainGlobals "_law_kinds" = some (some (.ref f3)))
    (l3 : K.lookup f3 = some ⟨oc3, od3, .func (PySem.W.fnOf "_law_kinds" "_law_kinds" (defArgs s__law_kinds) (defBody s__law_kinds) (defScope s__law_kinds) .none kV3 dc3 pm3 an3 cd3 ct3), sl3⟩)
    (c3 : PySem.W.codeIn K cd3 "_law_kinds" = true)
    (k3 : PySem.W.keepIn K (.ref f3) = true)
    (a4 : PySem.W.nsIn K mainGlobals "_law_more_kinds" = some (some (.ref f4)))
    (l4 : K.lookup f4 = some ⟨oc4, od4, .func (PySem.W.fnOf "_law_more_kinds" "_law_more_kinds" (defArgs s__law_more_kinds) (defBody s__law_more_kinds) (defScope s__law_more_kinds) .none kV4 dc4 pm4 an4 cd4 ct4), sl4⟩)
    (c4 : PySem.W.codeIn K cd4 "_law_more_kinds" = true)
    (k4 : PySem.W.keepIn K (.ref f4) = true)
    (a5 : PySem.W.nsIn K mainGlobals "_law_any_field" = some (some (.ref f5)))
    (l5 : K.lookup f5 = some ⟨oc5, od5, .func (PySem.W.fnOf "_law_any_field" "_law_any_field" (defArgs s__law_any_field) (defBody s__law_any_field) (defScope s__law_any_field) .none kV5 dc5 pm5 an5 cd5 ct5), sl5⟩)
    (c5 : PySem.W.codeIn K cd5 "_law_any_field" = true)
    (k5 : PySem.W.keepIn K (.ref f5) = true)
    (a6 : PySem.W.nsIn K mainGlobals "_law_raised" = some (some (.ref f6)))
    (l6 : K.lookup f6 = some ⟨oc6, od6, .func (PySem.W.fnOf "_law_raised" "_law_raised" (defArgs s__law_raised) (defBody s__law_raised) (defScope s__law_raised) .none kV6 dc6 pm6 an6 cd6 ct6), sl6⟩)
    (c6 : PySem.W.codeIn K cd6 "_law_raised" = true)
    (k6 : PySem.W.keepIn K (.ref f6) = true)
    (a7 : PySem.W.nsIn K mainGlobals "_law_raised_too" = some (some (.ref f7)))
    (l7 : K.lookup f7 = some ⟨oc7, od7, .func (PySem.W.fnOf "_law_raised_too" "_law_raised_too" (defArgs s__law_raised_too) (defBody s__law_raised_too) (defScope s__law_raised_too) .none kV7 dc7 pm7 an7 cd7 ct7), sl7⟩)
    (c7 : PySem.W.codeIn K cd7 "_law_raised_too" = true)
    (k7 : PySem.W.keepIn K (.ref f7) = true)
    (a8 : PySem.W.nsIn K mainGlobals "_law_told" = some (some (.ref f8)))
    (l8 : K.lookup f8 = some ⟨oc8, od8, .func (PySem.W.fnOf "_law_told" "_law_told" (defArgs s__law_told) (defBody s__law_told) (defScope s__law_told) .none kV8 dc8 pm8 an8 cd8 ct8), sl8⟩)
    (c8 : PySem.W.codeIn K cd8 "_law_told" = true)
    (k8 : PySem.W.keepIn K (.ref f8) = true)
    (a9 : PySem.W.nsIn K mainGlobals "_law_due" = some (some (.ref f9)))
    (l9 : K.lookup f9 = some ⟨oc9, od9, .func (PySem.W.fnOf "_law_due" "_law_due" (defArgs s__law_due) (defBody s__law_due) (defScope s__law_due) .none kV9 dc9 pm9 an9 cd9 ct9), sl9⟩)
    (c9 : PySem.W.codeIn K cd9 "_law_due" = true)
    (k9 : PySem.W.keepIn K (.ref f9) = true)
    (a10 : PySem.W.nsIn K mainGlobals "law" = some (some (.ref f10)))
    (l10 : K.lookup f10 = some ⟨oc10, od10, .func (PySem.W.fnOf "law" "law" (defArgs s_law) (defBody s_law) (defScope s_law) .none kV10 dc10 pm10 an10 cd10 ct10), sl10⟩)
    (c10 : PySem.W.codeIn K cd10 "law" = true)
    (k10 : PySem.W.keepIn K (.ref f10) = true)
    (z_ValueError : PySem.W.nsIn K mainGlobals "ValueError" = some none)
    (z_int : PySem.W.nsIn K mainGlobals "int" = some none)
    (z_isinstance : PySem.W.nsIn K mainGlobals "isinstance" = some none)
    (z_len : PySem.W.nsIn K mainGlobals "len" = some none)
    (z_list : PySem.W.nsIn K mainGlobals "list" = some none)
    (z_range : PySem.W.nsIn K mainGlobals "range" = some none)
    (z_repr : PySem.W.nsIn K mainGlobals "repr" = some none)
    (ekn : PySem.W.specialIn K (.builtin "object.__class__") "__get__" = some (some (.builtin "getset_descriptor.__get__")))
    (ekt : PySem.W.takesIn K (.builtin "object.__class__") = some true)
    (ca_GenusError : PySem.W.nsIn K mainGlobals "GenusError" = some (some (.ref C_GenusError)))
    (cl_GenusError : K.lookup C_GenusError = some (excClassObj nm_GenusError q_GenusError C_GenusError N_GenusError bs_GenusError [.type "ValueError", .type "Exception", .type "BaseException", .type "object"] true sn_GenusError sub_GenusError ab_GenusError col_GenusError dd_GenusError m0_GenusError m1_GenusError m2_GenusError m3_GenusError m5_GenusError "ValueError.__new__"))
    (cs_GenusError : PySem.W.findIn K (.ref C_GenusError) "__setattr__" = some (some (.builtin "object.__setattr__")))
    (cg_GenusError : PySem.W.findIn K (.ref C_GenusError) "__getattribute__" = some (some (.builtin "BaseException.__getattribute__")))
    (ch_GenusError : PySem.W.findIn K (.ref C_GenusError) "__getattr__" = some none)
    (cc_GenusError : PySem.W.findIn K (.ref C_GenusError) "__class__" = some (some (.builtin "object.__class__")))
    (ck_GenusError : PySem.W.keepIn K (.ref C_GenusError) = true)
    (ca_BadNumber : PySem.W.nsIn K mainGlobals "BadNumber" = some (some (.ref C_BadNumber)))
    (cl_BadNumber : K.lookup C_BadNumber = some (excClassObj nm_BadNumber q_BadNumber C_BadNumber N_BadNumber bs_BadNumber (.ref C_GenusError :: [.type "ValueError", .type "Exception", .type "BaseException", .type "object"]) true sn_BadNumber sub_BadNumber ab_BadNumber col_BadNumber dd_BadNumber m0_BadNumber m1_BadNumber m2_BadNumber m3_BadNumber m5_BadNumber "ValueError.__new__"))
    (cs_BadNumber : PySem.W.findIn K (.ref C_BadNumber) "__setattr__" = some (some (.builtin "object.__setattr__")))
    (cg_BadNumber : PySem.W.findIn K (.ref C_BadNumber) "__getattribute__" = some (some (.builtin "BaseException.__getattribute__")))
    (ch_BadNumber : PySem.W.findIn K (.ref C_BadNumber) "__getattr__" = some none)
    (cc_BadNumber : PySem.W.findIn K (.ref C_BadNumber) "__class__" = some (some (.builtin "object.__class__")))
    (ck_BadNumber : PySem.W.keepIn K (.ref C_BadNumber) = true)
    (ia_BadNumber : PySem.W.findIn K (.ref C_BadNumber) "__init__" = some (some (.ref I_BadNumber)))
    (it_BadNumber : PySem.W.typeIn K (.ref I_BadNumber) = some (.type "function"))
    (il_BadNumber : K.lookup I_BadNumber = some ⟨ioc_BadNumber, iod_BadNumber, .func (PySem.W.fnOf "__init__" "BadNumber.__init__" (defArgs s_BadNumber_init) (defBody s_BadNumber_init) (defScope s_BadNumber_init) .none ikV_BadNumber idc_BadNumber ipm_BadNumber ian_BadNumber icd_BadNumber ict_BadNumber), isl_BadNumber⟩)
    (ic_BadNumber : PySem.W.codeIn K icd_BadNumber "BadNumber.__init__" = true)
    (ik_BadNumber : PySem.W.keepIn K (.ref I_BadNumber) = true)
    (in_BadNumber_what : PySem.W.findIn K (.ref C_BadNumber) "what" = some none)
    (in_BadNumber_number : PySem.W.findIn K (.ref C_BadNumber) "number" = some none)
    (ca_BadRow : PySem.W.nsIn K mainGlobals "BadRow" = some (some (.ref C_BadRow)))
    (cl_BadRow : K.lookup C_BadRow = some (excClassObj nm_BadRow q_BadRow C_BadRow N_BadRow bs_BadRow (.ref C_GenusError :: [.type "ValueError", .type "Exception", .type "BaseException", .type "object"]) true sn_BadRow sub_BadRow ab_BadRow col_BadRow dd_BadRow m0_BadRow m1_BadRow m2_BadRow m3_BadRow m5_BadRow "ValueError.__new__"))
    (cs_BadRow : PySem.W.findIn K (.ref C_BadRow) "__setattr__" = some (some (.builtin "object.__setattr__")))
    (cg_BadRow : PySem.W.findIn K (.ref C_BadRow) "__getattribute__" = some (some (.builtin "BaseException.__getattribute__")))
    (ch_BadRow : PySem.W.findIn K (.ref C_BadRow) "__getattr__" = some none)
    (cc_BadRow : PySem.W.findIn K (.ref C_BadRow) "__class__" = some (some (.builtin "object.__class__")))
    (ck_BadRow : PySem.W.keepIn K (.ref C_BadRow) = true)
    (ia_BadRow : PySem.W.findIn K (.ref C_BadRow) "__init__" = some (some (.ref I_BadRow)))
    (it_BadRow : PySem.W.typeIn K (.ref I_BadRow) = some (.type "function"))
    (il_BadRow : K.lookup I_BadRow = some ⟨ioc_BadRow, iod_BadRow, .func (PySem.W.fnOf "__init__" "BadRow.__init__" (defArgs s_BadRow_init) (defBody s_BadRow_init) (defScope s_BadRow_init) .none ikV_BadRow idc_BadRow ipm_BadRow ian_BadRow icd_BadRow ict_BadRow), isl_BadRow⟩)
    (ic_BadRow : PySem.W.codeIn K icd_BadRow "BadRow.__init__" = true)
    (ik_BadRow : PySem.W.keepIn K (.ref I_BadRow) = true)
    (in_BadRow_what : PySem.W.findIn K (.ref C_BadRow) "what" = some none)
    (in_BadRow_row : PySem.W.findIn K (.ref C_BadRow) "row" = some none)
    (ca_BadTable : PySem.W.nsIn K mainGlobals "BadTable" = some (some (.ref C_BadTable)))
    (cl_BadTable : K.lookup C_BadTable = some (excClassObj nm_BadTable q_BadTable C_BadTable N_BadTable bs_BadTable (.ref C_GenusError :: [.type "ValueError", .type "Exception", .type "BaseException", .type "object"]) true sn_BadTable sub_BadTable ab_BadTable col_BadTable dd_BadTable m0_BadTable m1_BadTable m2_BadTable m3_BadTable m5_BadTable "ValueError.__new__"))
    (cs_BadTable : PySem.W.findIn K (.ref C_BadTable) "__setattr__" = some (some (.builtin "object.__setattr__")))
    (cg_BadTable : PySem.W.findIn K (.ref C_BadTable) "__getattribute__" = some (some (.builtin "BaseException.__getattribute__")))
    (ch_BadTable : PySem.W.findIn K (.ref C_BadTable) "__getattr__" = some none)
    (cc_BadTable : PySem.W.findIn K (.ref C_BadTable) "__class__" = some (some (.builtin "object.__class__")))
    (ck_BadTable : PySem.W.keepIn K (.ref C_BadTable) = true)
    (ia_BadTable : PySem.W.findIn K (.ref C_BadTable) "__init__" = some (some (.ref I_BadTable)))
    (it_BadTable : PySem.W.typeIn K (.ref I_BadTable) = some (.type "function"))
    (il_BadTable : K.lookup I_BadTable = some ⟨ioc_BadTable, iod_BadTable, .func (PySem.W.fnOf "__init__" "BadTable.__init__" (defArgs s_BadTable_init) (defBody s_BadTable_init) (defScope s_BadTable_init) .none ikV_BadTable idc_BadTable ipm_BadTable ian_BadTable icd_BadTable ict_BadTable), isl_BadTable⟩)
    (ic_BadTable : PySem.W.codeIn K icd_BadTable "BadTable.__init__" = true)
    (ik_BadTable : PySem.W.keepIn K (.ref I_BadTable) = true)
    (in_BadTable_what : PySem.W.findIn K (.ref C_BadTable) "what" = some none)
    (ca_BadForm : PySem.W.nsIn K mainGlobals "BadForm" = some (some (.ref C_BadForm)))
    (cl_BadForm : K.lookup C_BadForm = some (excClassObj nm_BadForm q_BadForm C_BadForm N_BadForm bs_BadForm (.ref C_GenusError :: [.type "ValueError", .type "Exception", .type "BaseException", .type "object"]) true sn_BadForm sub_BadForm ab_BadForm col_BadForm dd_BadForm m0_BadForm m1_BadForm m2_BadForm m3_BadForm m5_BadForm "ValueError.__new__"))
    (cs_BadForm : PySem.W.findIn K (.ref C_BadForm) "__setattr__" = some (some (.builtin "object.__setattr__")))
    (cg_BadForm : PySem.W.findIn K (.ref C_BadForm) "__getattribute__" = some (some (.builtin "BaseException.__getattribute__")))
    (ch_BadForm : PySem.W.findIn K (.ref C_BadForm) "__getattr__" = some none)
    (cc_BadForm : PySem.W.findIn K (.ref C_BadForm) "__class__" = some (some (.builtin "object.__class__")))
    (ck_BadForm : PySem.W.keepIn K (.ref C_BadForm) = true)
    (ia_BadForm : PySem.W.findIn K (.ref C_BadForm) "__init__" = some (some (.ref I_BadForm)))
    (it_BadForm : PySem.W.typeIn K (.ref I_BadForm) = some (.type "function"))
    (il_BadForm : K.lookup I_BadForm = some ⟨ioc_BadForm, iod_BadForm, .func (PySem.W.fnOf "__init__" "BadForm.__init__" (defArgs s_BadForm_init) (defBody s_BadForm_init) (defScope s_BadForm_init) .none ikV_BadForm idc_BadForm ipm_BadForm ian_BadForm icd_BadForm ict_BadForm), isl_BadForm⟩)
    (ic_BadForm : PySem.W.codeIn K icd_BadForm "BadForm.__init__" = true)
    (ik_BadForm : PySem.W.keepIn K (.ref I_BadForm) = true)
    (in_BadForm_what : PySem.W.findIn K (.ref C_BadForm) "what" = some none)
    (ca_BadBook : PySem.W.nsIn K mainGlobals "BadBook" = some (some (.ref C_BadBook)))
    (cl_BadBook : K.lookup C_BadBook = some (excClassObj nm_BadBook q_BadBook C_BadBook N_BadBook bs_BadBook (.ref C_GenusError :: [.type "ValueError", .type "Exception", .type "BaseException", .type "object"]) true sn_BadBook sub_BadBook ab_BadBook col_BadBook dd_BadBook m0_BadBook m1_BadBook m2_BadBook m3_BadBook m5_BadBook "ValueError.__new__"))
    (cs_BadBook : PySem.W.findIn K (.ref C_BadBook) "__setattr__" = some (some (.builtin "object.__setattr__")))
    (cg_BadBook : PySem.W.findIn K (.ref C_BadBook) "__getattribute__" = some (some (.builtin "BaseException.__getattribute__")))
    (ch_BadBook : PySem.W.findIn K (.ref C_BadBook) "__getattr__" = some none)
    (cc_BadBook : PySem.W.findIn K (.ref C_BadBook) "__class__" = some (some (.builtin "object.__class__")))
    (ck_BadBook : PySem.W.keepIn K (.ref C_BadBook) = true)
    (ia_BadBook : PySem.W.findIn K (.ref C_BadBook) "__init__" = some (some (.ref I_BadBook)))
    (it_BadBook : PySem.W.typeIn K (.ref I_BadBook) = some (.type "function"))
    (il_BadBook : K.lookup I_BadBook = some ⟨ioc_BadBook, iod_BadBook, .func (PySem.W.fnOf "__init__" "BadBook.__init__" (defArgs s_BadBook_init) (defBody s_BadBook_init) (defScope s_BadBook_init) .none ikV_BadBook idc_BadBook ipm_BadBook ian_BadBook icd_BadBook ict_BadBook), isl_BadBook⟩)
    (ic_BadBook : PySem.W.codeIn K icd_BadBook "BadBook.__init__" = true)
    (ik_BadBook : PySem.W.keepIn K (.ref I_BadBook) = true)
    (in_BadBook_what : PySem.W.findIn K (.ref C_BadBook) "what" = some none)
    (ca_BadName : PySem.W.nsIn K mainGlobals "BadName" = some (some (.ref C_BadName)))
    (cl_BadName : K.lookup C_BadName = some (excClassObj nm_BadName q_BadName C_BadName N_BadName bs_BadName (.ref C_GenusError :: [.type "ValueError", .type "Exception", .type "BaseException", .type "object"]) true sn_BadName sub_BadName ab_BadName col_BadName dd_BadName m0_BadName m1_BadName m2_BadName m3_BadName m5_BadName "ValueError.__new__"))
    (cs_BadName : PySem.W.findIn K (.ref C_BadName) "__setattr__" = some (some (.builtin "object.__setattr__")))
    (cg_BadName : PySem.W.findIn K (.ref C_BadName) "__getattribute__" = some (some (.builtin "BaseException.__getattribute__")))
    (ch_BadName : PySem.W.findIn K (.ref C_BadName) "__getattr__" = some none)
    (cc_BadName : PySem.W.findIn K (.ref C_BadName) "__class__" = some (some (.builtin "object.__class__")))
    (ck_BadName : PySem.W.keepIn K (.ref C_BadName) = true)
    (ia_BadName : PySem.W.findIn K (.ref C_BadName) "__init__" = some (some (.ref I_BadName)))
    (it_BadName : PySem.W.typeIn K (.ref I_BadName) = some (.type "function"))
    (il_BadName : K.lookup I_BadName = some ⟨ioc_BadName, iod_BadName, .func (PySem.W.fnOf "__init__" "BadName.__init__" (defArgs s_BadName_init) (defBody s_BadName_init) (defScope s_BadName_init) .none ikV_BadName idc_BadName ipm_BadName ian_BadName icd_BadName ict_BadName), isl_BadName⟩)
    (ic_BadName : PySem.W.codeIn K icd_BadName "BadName.__init__" = true)
    (ik_BadName : PySem.W.keepIn K (.ref I_BadName) = true)
    (in_BadName_name : PySem.W.findIn K (.ref C_BadName) "name" = some none)
    (ca_BadText : PySem.W.nsIn K mainGlobals "BadText" = some (some (.ref C_BadText)))
    (cl_BadText : K.lookup C_BadText = some (excClassObj nm_BadText q_BadText C_BadText N_BadText bs_BadText (.ref C_GenusError :: [.type "ValueError", .type "Exception", .type "BaseException", .type "object"]) true sn_BadText sub_BadText ab_BadText col_BadText dd_BadText m0_BadText m1_BadText m2_BadText m3_BadText m5_BadText "ValueError.__new__"))
    (cs_BadText : PySem.W.findIn K (.ref C_BadText) "__setattr__" = some (some (.builtin "object.__setattr__")))
    (cg_BadText : PySem.W.findIn K (.ref C_BadText) "__getattribute__" = some (some (.builtin "BaseException.__getattribute__")))
    (ch_BadText : PySem.W.findIn K (.ref C_BadText) "__getattr__" = some none)
    (cc_BadText : PySem.W.findIn K (.ref C_BadText) "__class__" = some (some (.builtin "object.__class__")))
    (ck_BadText : PySem.W.keepIn K (.ref C_BadText) = true)
    (ia_BadText : PySem.W.findIn K (.ref C_BadText) "__init__" = some (some (.ref I_BadText)))
    (it_BadText : PySem.W.typeIn K (.ref I_BadText) = some (.type "function"))
    (il_BadText : K.lookup I_BadText = some ⟨ioc_BadText, iod_BadText, .func (PySem.W.fnOf "__init__" "BadText.__init__" (defArgs s_BadText_init) (defBody s_BadText_init) (defScope s_BadText_init) .none ikV_BadText idc_BadText ipm_BadText ian_BadText icd_BadText ict_BadText), isl_BadText⟩)
    (ic_BadText : PySem.W.codeIn K icd_BadText "BadText.__init__" = true)
    (ik_BadText : PySem.W.keepIn K (.ref I_BadText) = true)
    (in_BadText_line : PySem.W.findIn K (.ref C_BadText) "line" = some none)
    (in_BadText_word : PySem.W.findIn K (.ref C_BadText) "word" = some none)
    (ca_NoPlace : PySem.W.nsIn K mainGlobals "NoPlace" = some (some (.ref C_NoPlace)))
    (cl_NoPlace : K.lookup C_NoPlace = some (excClassObj nm_NoPlace q_NoPlace C_NoPlace N_NoPlace bs_NoPlace (.ref C_GenusError :: [.type "ValueError", .type "Exception", .type "BaseException", .type "object"]) true sn_NoPlace sub_NoPlace ab_NoPlace col_NoPlace dd_NoPlace m0_NoPlace m1_NoPlace m2_NoPlace m3_NoPlace m5_NoPlace "ValueError.__new__"))
    (cs_NoPlace : PySem.W.findIn K (.ref C_NoPlace) "__setattr__" = some (some (.builtin "object.__setattr__")))
    (cg_NoPlace : PySem.W.findIn K (.ref C_NoPlace) "__getattribute__" = some (some (.builtin "BaseException.__getattribute__")))
    (ch_NoPlace : PySem.W.findIn K (.ref C_NoPlace) "__getattr__" = some none)
    (cc_NoPlace : PySem.W.findIn K (.ref C_NoPlace) "__class__" = some (some (.builtin "object.__class__")))
    (ck_NoPlace : PySem.W.keepIn K (.ref C_NoPlace) = true)
    (ia_NoPlace : PySem.W.findIn K (.ref C_NoPlace) "__init__" = some (some (.ref I_NoPlace)))
    (it_NoPlace : PySem.W.typeIn K (.ref I_NoPlace) = some (.type "function"))
    (il_NoPlace : K.lookup I_NoPlace = some ⟨ioc_NoPlace, iod_NoPlace, .func (PySem.W.fnOf "__init__" "NoPlace.__init__" (defArgs s_NoPlace_init) (defBody s_NoPlace_init) (defScope s_NoPlace_init) .none ikV_NoPlace idc_NoPlace ipm_NoPlace ian_NoPlace icd_NoPlace ict_NoPlace), isl_NoPlace⟩)
    (ic_NoPlace : PySem.W.codeIn K icd_NoPlace "NoPlace.__init__" = true)
    (ik_NoPlace : PySem.W.keepIn K (.ref I_NoPlace) = true)
    (in_NoPlace_what : PySem.W.findIn K (.ref C_NoPlace) "what" = some none)
    (in_NoPlace_index : PySem.W.findIn K (.ref C_NoPlace) "index" = some none)
    (ca_NoName : PySem.W.nsIn K mainGlobals "NoName" = some (some (.ref C_NoName)))
    (cl_NoName : K.lookup C_NoName = some (excClassObj nm_NoName q_NoName C_NoName N_NoName bs_NoName (.ref C_GenusError :: [.type "ValueError", .type "Exception", .type "BaseException", .type "object"]) true sn_NoName sub_NoName ab_NoName col_NoName dd_NoName m0_NoName m1_NoName m2_NoName m3_NoName m5_NoName "ValueError.__new__"))
    (cs_NoName : PySem.W.findIn K (.ref C_NoName) "__setattr__" = some (some (.builtin "object.__setattr__")))
    (cg_NoName : PySem.W.findIn K (.ref C_NoName) "__getattribute__" = some (some (.builtin "BaseException.__getattribute__")))
    (ch_NoName : PySem.W.findIn K (.ref C_NoName) "__getattr__" = some none)
    (cc_NoName : PySem.W.findIn K (.ref C_NoName) "__class__" = some (some (.builtin "object.__class__")))
    (ck_NoName : PySem.W.keepIn K (.ref C_NoName) = true)
    (ia_NoName : PySem.W.findIn K (.ref C_NoName) "__init__" = some (some (.ref I_NoName)))
    (it_NoName : PySem.W.typeIn K (.ref I_NoName) = some (.type "function"))
    (il_NoName : K.lookup I_NoName = some ⟨ioc_NoName, iod_NoName, .func (PySem.W.fnOf "__init__" "NoName.__init__" (defArgs s_NoName_init) (defBody s_NoName_init) (defScope s_NoName_init) .none ikV_NoName idc_NoName ipm_NoName ian_NoName icd_NoName ict_NoName), isl_NoName⟩)
    (ic_NoName : PySem.W.codeIn K icd_NoName "NoName.__init__" = true)
    (ik_NoName : PySem.W.keepIn K (.ref I_NoName) = true)
    (in_NoName_name : PySem.W.findIn K (.ref C_NoName) "name" = some none)
    (ca_TakenName : PySem.W.nsIn K mainGlobals "TakenName" = some (some (.ref C_TakenName)))
    (cl_TakenName : K.lookup C_TakenName = some (excClassObj nm_TakenName q_TakenName C_TakenName N_TakenName bs_TakenName (.ref C_GenusError :: [.type "ValueError", .type "Exception", .type "BaseException", .type "object"]) true sn_TakenName sub_TakenName ab_TakenName col_TakenName dd_TakenName m0_TakenName m1_TakenName m2_TakenName m3_TakenName m5_TakenName "ValueError.__new__"))
    (cs_TakenName : PySem.W.findIn K (.ref C_TakenName) "__setattr__" = some (some (.builtin "object.__setattr__")))
    (cg_TakenName : PySem.W.findIn K (.ref C_TakenName) "__getattribute__" = some (some (.builtin "BaseException.__getattribute__")))
    (ch_TakenName : PySem.W.findIn K (.ref C_TakenName) "__getattr__" = some none)
    (cc_TakenName : PySem.W.findIn K (.ref C_TakenName) "__class__" = some (some (.builtin "object.__class__")))
    (ck_TakenName : PySem.W.keepIn K (.ref C_TakenName) = true)
    (ia_TakenName : PySem.W.findIn K (.ref C_TakenName) "__init__" = some (some (.ref I_TakenName)))
    (it_TakenName : PySem.W.typeIn K (.ref I_TakenName) = some (.type "function"))
    (il_TakenName : K.lookup I_TakenName = some ⟨ioc_TakenName, iod_TakenName, .func (PySem.W.fnOf "__init__" "TakenName.__init__" (defArgs s_TakenName_init) (defBody s_TakenName_init) (defScope s_TakenName_init) .none ikV_TakenName idc_TakenName ipm_TakenName ian_TakenName icd_TakenName ict_TakenName), isl_TakenName⟩)
    (ic_TakenName : PySem.W.codeIn K icd_TakenName "TakenName.__init__" = true)
    (ik_TakenName : PySem.W.keepIn K (.ref I_TakenName) = true)
    (in_TakenName_name : PySem.W.findIn K (.ref C_TakenName) "name" = some none)
    (ca_Unlike : PySem.W.nsIn K mainGlobals "Unlike" = some (some (.ref C_Unlike)))
    (cl_Unlike : K.lookup C_Unlike = some (excClassObj nm_Unlike q_Unlike C_Unlike N_Unlike bs_Unlike (.ref C_GenusError :: [.type "ValueError", .type "Exception", .type "BaseException", .type "object"]) true sn_Unlike sub_Unlike ab_Unlike col_Unlike dd_Unlike m0_Unlike m1_Unlike m2_Unlike m3_Unlike m5_Unlike "ValueError.__new__"))
    (cs_Unlike : PySem.W.findIn K (.ref C_Unlike) "__setattr__" = some (some (.builtin "object.__setattr__")))
    (cg_Unlike : PySem.W.findIn K (.ref C_Unlike) "__getattribute__" = some (some (.builtin "BaseException.__getattribute__")))
    (ch_Unlike : PySem.W.findIn K (.ref C_Unlike) "__getattr__" = some none)
    (cc_Unlike : PySem.W.findIn K (.ref C_Unlike) "__class__" = some (some (.builtin "object.__class__")))
    (ck_Unlike : PySem.W.keepIn K (.ref C_Unlike) = true)
    (ia_Unlike : PySem.W.findIn K (.ref C_Unlike) "__init__" = some (some (.ref I_Unlike)))
    (it_Unlike : PySem.W.typeIn K (.ref I_Unlike) = some (.type "function"))
    (il_Unlike : K.lookup I_Unlike = some ⟨ioc_Unlike, iod_Unlike, .func (PySem.W.fnOf "__init__" "Unlike.__init__" (defArgs s_Unlike_init) (defBody s_Unlike_init) (defScope s_Unlike_init) .none ikV_Unlike idc_Unlike ipm_Unlike ian_Unlike icd_Unlike ict_Unlike), isl_Unlike⟩)
    (ic_Unlike : PySem.W.codeIn K icd_Unlike "Unlike.__init__" = true)
    (ik_Unlike : PySem.W.keepIn K (.ref I_Unlike) = true)
    (in_Unlike_what : PySem.W.findIn K (.ref C_Unlike) "what" = some none)
    (ca_NotThere : PySem.W.nsIn K mainGlobals "NotThere" = some (some (.ref C_NotThere)))
    (cl_NotThere : K.lookup C_NotThere = some (excClassObj nm_NotThere q_NotThere C_NotThere N_NotThere bs_NotThere (.ref C_GenusError :: [.type "ValueError", .type "Exception", .type "BaseException", .type "object"]) true sn_NotThere sub_NotThere ab_NotThere col_NotThere dd_NotThere m0_NotThere m1_NotThere m2_NotThere m3_NotThere m5_NotThere "ValueError.__new__"))
    (cs_NotThere : PySem.W.findIn K (.ref C_NotThere) "__setattr__" = some (some (.builtin "object.__setattr__")))
    (cg_NotThere : PySem.W.findIn K (.ref C_NotThere) "__getattribute__" = some (some (.builtin "BaseException.__getattribute__")))
    (ch_NotThere : PySem.W.findIn K (.ref C_NotThere) "__getattr__" = some none)
    (cc_NotThere : PySem.W.findIn K (.ref C_NotThere) "__class__" = some (some (.builtin "object.__class__")))
    (ck_NotThere : PySem.W.keepIn K (.ref C_NotThere) = true)
    (ia_NotThere : PySem.W.findIn K (.ref C_NotThere) "__init__" = some (some (.ref I_NotThere)))
    (it_NotThere : PySem.W.typeIn K (.ref I_NotThere) = some (.type "function"))
    (il_NotThere : K.lookup I_NotThere = some ⟨ioc_NotThere, iod_NotThere, .func (PySem.W.fnOf "__init__" "NotThere.__init__" (defArgs s_NotThere_init) (defBody s_NotThere_init) (defScope s_NotThere_init) .none ikV_NotThere idc_NotThere ipm_NotThere ian_NotThere icd_NotThere ict_NotThere), isl_NotThere⟩)
    (ic_NotThere : PySem.W.codeIn K icd_NotThere "NotThere.__init__" = true)
    (ik_NotThere : PySem.W.keepIn K (.ref I_NotThere) = true)
    (in_NotThere_paper : PySem.W.findIn K (.ref C_NotThere) "paper" = some none)
    (ca_TooMany : PySem.W.nsIn K mainGlobals "TooMany" = some (some (.ref C_TooMany)))
    (cl_TooMany : K.lookup C_TooMany = some (excClassObj nm_TooMany q_TooMany C_TooMany N_TooMany bs_TooMany (.ref C_GenusError :: [.type "ValueError", .type "Exception", .type "BaseException", .type "object"]) true sn_TooMany sub_TooMany ab_TooMany col_TooMany dd_TooMany m0_TooMany m1_TooMany m2_TooMany m3_TooMany m5_TooMany "ValueError.__new__"))
    (cs_TooMany : PySem.W.findIn K (.ref C_TooMany) "__setattr__" = some (some (.builtin "object.__setattr__")))
    (cg_TooMany : PySem.W.findIn K (.ref C_TooMany) "__getattribute__" = some (some (.builtin "BaseException.__getattribute__")))
    (ch_TooMany : PySem.W.findIn K (.ref C_TooMany) "__getattr__" = some none)
    (cc_TooMany : PySem.W.findIn K (.ref C_TooMany) "__class__" = some (some (.builtin "object.__class__")))
    (ck_TooMany : PySem.W.keepIn K (.ref C_TooMany) = true)
    (ia_TooMany : PySem.W.findIn K (.ref C_TooMany) "__init__" = some (some (.ref I_TooMany)))
    (it_TooMany : PySem.W.typeIn K (.ref I_TooMany) = some (.type "function"))
    (il_TooMany : K.lookup I_TooMany = some ⟨ioc_TooMany, iod_TooMany, .func (PySem.W.fnOf "__init__" "TooMany.__init__" (defArgs s_TooMany_init) (defBody s_TooMany_init) (defScope s_TooMany_init) .none ikV_TooMany idc_TooMany ipm_TooMany ian_TooMany icd_TooMany ict_TooMany), isl_TooMany⟩)
    (ic_TooMany : PySem.W.codeIn K icd_TooMany "TooMany.__init__" = true)
    (ik_TooMany : PySem.W.keepIn K (.ref I_TooMany) = true)
    (in_TooMany_what : PySem.W.findIn K (.ref C_TooMany) "what" = some none)
    (in_TooMany_many : PySem.W.findIn K (.ref C_TooMany) "many" = some none)
    (in_TooMany_limit : PySem.W.findIn K (.ref C_TooMany) "limit" = some none)
    (ca_NotKept : PySem.W.nsIn K mainGlobals "NotKept" = some (some (.ref C_NotKept)))
    (cl_NotKept : K.lookup C_NotKept = some (excClassObj nm_NotKept q_NotKept C_NotKept N_NotKept bs_NotKept (.ref C_GenusError :: [.type "ValueError", .type "Exception", .type "BaseException", .type "object"]) true sn_NotKept sub_NotKept ab_NotKept col_NotKept dd_NotKept m0_NotKept m1_NotKept m2_NotKept m3_NotKept m5_NotKept "ValueError.__new__"))
    (cs_NotKept : PySem.W.findIn K (.ref C_NotKept) "__setattr__" = some (some (.builtin "object.__setattr__")))
    (cg_NotKept : PySem.W.findIn K (.ref C_NotKept) "__getattribute__" = some (some (.builtin "BaseException.__getattribute__")))
    (ch_NotKept : PySem.W.findIn K (.ref C_NotKept) "__getattr__" = some none)
    (cc_NotKept : PySem.W.findIn K (.ref C_NotKept) "__class__" = some (some (.builtin "object.__class__")))
    (ck_NotKept : PySem.W.keepIn K (.ref C_NotKept) = true)
    (ia_NotKept : PySem.W.findIn K (.ref C_NotKept) "__init__" = some (some (.ref I_NotKept)))
    (it_NotKept : PySem.W.typeIn K (.ref I_NotKept) = some (.type "function"))
    (il_NotKept : K.lookup I_NotKept = some ⟨ioc_NotKept, iod_NotKept, .func (PySem.W.fnOf "__init__" "NotKept.__init__" (defArgs s_NotKept_init) (defBody s_NotKept_init) (defScope s_NotKept_init) .none ikV_NotKept idc_NotKept ipm_NotKept ian_NotKept icd_NotKept ict_NotKept), isl_NotKept⟩)
    (ic_NotKept : PySem.W.codeIn K icd_NotKept "NotKept.__init__" = true)
    (ik_NotKept : PySem.W.keepIn K (.ref I_NotKept) = true)
    (in_NotKept_promise : PySem.W.findIn K (.ref C_NotKept) "promise" = some none)
    (in_NotKept_witness : PySem.W.findIn K (.ref C_NotKept) "witness" = some none)
    (ca_NothingToUndo : PySem.W.nsIn K mainGlobals "NothingToUndo" = some (some (.ref C_NothingToUndo)))
    (cl_NothingToUndo : K.lookup C_NothingToUndo = some (excClassObj nm_NothingToUndo q_NothingToUndo C_NothingToUndo N_NothingToUndo bs_NothingToUndo (.ref C_GenusError :: [.type "ValueError", .type "Exception", .type "BaseException", .type "object"]) true sn_NothingToUndo sub_NothingToUndo ab_NothingToUndo col_NothingToUndo dd_NothingToUndo m0_NothingToUndo m1_NothingToUndo m2_NothingToUndo m3_NothingToUndo m5_NothingToUndo "ValueError.__new__"))
    (cs_NothingToUndo : PySem.W.findIn K (.ref C_NothingToUndo) "__setattr__" = some (some (.builtin "object.__setattr__")))
    (cg_NothingToUndo : PySem.W.findIn K (.ref C_NothingToUndo) "__getattribute__" = some (some (.builtin "BaseException.__getattribute__")))
    (ch_NothingToUndo : PySem.W.findIn K (.ref C_NothingToUndo) "__getattr__" = some none)
    (cc_NothingToUndo : PySem.W.findIn K (.ref C_NothingToUndo) "__class__" = some (some (.builtin "object.__class__")))
    (ck_NothingToUndo : PySem.W.keepIn K (.ref C_NothingToUndo) = true)
    (cx_NothingToUndo : PySem.W.excIn K C_NothingToUndo [.type "ValueError", .type "Exception", .type "BaseException", .type "object"] "ValueError.__new__" = true)
    (ca_NothingToRedo : PySem.W.nsIn K mainGlobals "NothingToRedo" = some (some (.ref C_NothingToRedo)))
    (cl_NothingToRedo : K.lookup C_NothingToRedo = some (excClassObj nm_NothingToRedo q_NothingToRedo C_NothingToRedo N_NothingToRedo bs_NothingToRedo (.ref C_GenusError :: [.type "ValueError", .type "Exception", .type "BaseException", .type "object"]) true sn_NothingToRedo sub_NothingToRedo ab_NothingToRedo col_NothingToRedo dd_NothingToRedo m0_NothingToRedo m1_NothingToRedo m2_NothingToRedo m3_NothingToRedo m5_NothingToRedo "ValueError.__new__"))
    (cs_NothingToRedo : PySem.W.findIn K (.ref C_NothingToRedo) "__setattr__" = some (some (.builtin "object.__setattr__")))
    (cg_NothingToRedo : PySem.W.findIn K (.ref C_NothingToRedo) "__getattribute__" = some (some (.builtin "BaseException.__getattribute__")))
    (ch_NothingToRedo : PySem.W.findIn K (.ref C_NothingToRedo) "__getattr__" = some none)
    (cc_NothingToRedo : PySem.W.findIn K (.ref C_NothingToRedo) "__class__" = some (some (.builtin "object.__class__")))
    (ck_NothingToRedo : PySem.W.keepIn K (.ref C_NothingToRedo) = true)
    (cx_NothingToRedo : PySem.W.excIn K C_NothingToRedo [.type "ValueError", .type "Exception", .type "BaseException", .type "object"] "ValueError.__new__" = true)
    (nod : [C_GenusError, C_BadNumber, C_BadRow, C_BadTable, C_BadForm, C_BadBook, C_BadName, C_BadText, C_NoPlace, C_NoName, C_TakenName, C_Unlike, C_NotThere, C_TooMany, C_NotKept, C_NothingToUndo, C_NothingToRedo].Nodup)
    : ∃ a : Ad, Tx K mg a ∧ a.f_law = fa ∧ ∀ (s : Shared) (v : Value), BindsTo s a.d_law ⟨[v], []⟩ [("script", v)] := by
  have e := hfa.symm.trans (PySem.W.mg_of X G a10)
  cases e
  have F0 := fun_mk (st := s__law_pen) l0 c0 k0
  have F1 := fun_mk (st := s__law_draw) l1 c1 k1
  have F2 := fun_mk (st := s__law_pick) l2 c2 k2
  have F3 := fun_mk (st := s__law_kinds) l3 c3 k3
  have F4 := fun_mk (st := s__law_more_kinds) l4 c4 k4
  have F5 := fun_mk (st := s__law_any_field) l5 c5 k5
  have F6 := fun_mk (st := s__law_raised) l6 c6 k6
  have F7 := fun_mk (st := s__law_raised_too) l7 c7 k7
  have F8 := fun_mk (st := s__law_told) l8 c8 k8
  have F9 := fun_mk (st := s__law_due) l9 c9 k9
  have F10 := fun_mk (st := s_law) l10 c10 k10
  have Fi_BadNumber := fun_mk (st := s_BadNumber_init) il_BadNumber ic_BadNumber ik_BadNumber
  have Fi_BadRow := fun_mk (st := s_BadRow_init) il_BadRow ic_BadRow ik_BadRow
  have Fi_BadTable := fun_mk (st := s_BadTable_init) il_BadTable ic_BadTable ik_BadTable
  have Fi_BadForm := fun_mk (st := s_BadForm_init) il_BadForm ic_BadForm ik_BadForm
  have Fi_BadBook := fun_mk (st := s_BadBook_init) il_BadBook ic_BadBook ik_BadBook
  have Fi_BadName := fun_mk (st := s_BadName_init) il_BadName ic_BadName ik_BadName
  have Fi_BadText := fun_mk (st := s_BadText_init) il_BadText ic_BadText ik_BadText
  have Fi_NoPlace := fun_mk (st := s_NoPlace_init) il_NoPlace ic_NoPlace ik_NoPlace
  have Fi_NoName := fun_mk (st := s_NoName_init) il_NoName ic_NoName ik_NoName
  have Fi_TakenName := fun_mk (st := s_TakenName_init) il_TakenName ic_TakenName ik_TakenName
  have Fi_Unlike := fun_mk (st := s_Unlike_init) il_Unlike ic_Unlike ik_Unlike
  have Fi_NotThere := fun_mk (st := s_NotThere_init) il_NotThere ic_NotThere ik_NotThere
  have Fi_TooMany := fun_mk (st := s_TooMany_init) il_TooMany ic_TooMany ik_TooMany
  have Fi_NotKept := fun_mk (st := s_NotKept_init) il_NotKept ic_NotKept ik_NotKept
  refine ⟨{ f__law_pen := f0, d__law_pen := PySem.W.fnOf "_law_pen" "_law_pen" (defArgs s__law_pen) (defBody s__law_pen) (defScope s__law_pen) .none kV0 dc0 pm0 an0 cd0 ct0, f__law_draw := f1, d__law_draw := PySem.W.fnOf "_law_draw" "_law_draw" (defArgs s__law_draw) (defBody s__law_draw) (defScope s__law_draw) .none kV1 dc1 pm1 an1 cd1 ct1, f__law_pick := f2, d__law_pick := PySem.W.fnOf "_law_pick" "_law_pick" (defArgs s__law_pick) (defBody s__law_pick) (defScope s__law_pick) .none kV2 dc2 pm2 an2 cd2 ct2, f__law_kinds := f3, d__law_kinds := PySem.W.fnOf "_law_kinds" "_law_kinds" (defArgs s__law_kinds) (defBody s__law_kinds) (defScope s__law_kinds) .none kV3 dc3 pm3 an3 cd3 ct3, f__law_more_kinds := f4, d__law_more_kinds := PySem.W.fnOf "_law_more_kinds" "_law_more_kinds" (defArgs s__law_more_kinds) (defBody s__law_more_kinds) (defScope s__law_more_kinds) .none kV4 dc4 pm4 an4 cd4 ct4, f__law_any_field := f5, d__law_any_field := PySem.W.fnOf "_law_any_field" "_law_any_field" (defArgs s__law_any_field) (defBody s__law_any_field) (defScope s__law_any_field) .none kV5 dc5 pm5 an5 cd5 ct5, f__law_raised := f6, d__law_raised := PySem.W.fnOf "_law_raised" "_law_raised" (defArgs s__law_raised) (defBody s__law_raised) (defScope s__law_raised) .none kV6 dc6 pm6 an6 cd6 ct6, f__law_raised_too := f7, d__law_raised_too := PySem.W.fnOf "_law_raised_too" "_law_raised_too" (defArgs s__law_raised_too) (defBody s__law_raised_too) (defScope s__law_raised_too) .none kV7 dc7 pm7 an7 cd7 ct7, f__law_told := f8, d__law_told := PySem.W.fnOf "_law_told" "_law_told" (defArgs s__law_told) (defBody s__law_told) (defScope s__law_told) .none kV8 dc8 pm8 an8 cd8 ct8, f__law_due := f9, d__law_due := PySem.W.fnOf "_law_due" "_law_due" (defArgs s__law_due) (defBody s__law_due) (defScope s__law_due) .none kV9 dc9 pm9 an9 cd9 ct9, f_law := fa, d_law := PySem.W.fnOf "law" "law" (defArgs s_law) (defBody s_law) (defScope s_law) .none kV10 dc10 pm10 an10 cd10 ct10, c_GenusError := C_GenusError, c_BadNumber := C_BadNumber, i_BadNumber := I_BadNumber, di_BadNumber := PySem.W.fnOf "__init__" "BadNumber.__init__" (defArgs s_BadNumber_init) (defBody s_BadNumber_init) (defScope s_BadNumber_init) .none ikV_BadNumber idc_BadNumber ipm_BadNumber ian_BadNumber icd_BadNumber ict_BadNumber, c_BadRow := C_BadRow, i_BadRow := I_BadRow, di_BadRow := PySem.W.fnOf "__init__" "BadRow.__init__" (defArgs s_BadRow_init) (defBody s_BadRow_init) (defScope s_BadRow_init) .none ikV_BadRow idc_BadRow ipm_BadRow ian_BadRow icd_BadRow ict_BadRow, c_BadTable := C_BadTable, i_BadTable := I_BadTable, di_BadTable := PySem.W.fnOf "__init__" "BadTable.__init__" (defArgs s_BadTable_init) (defBody s_BadTable_init) (defScope s_BadTable_init) .none ikV_BadTable idc_BadTable ipm_BadTable ian_BadTable icd_BadTable ict_BadTable, c_BadForm := C_BadForm, i_BadForm := I_BadForm, di_BadForm := PySem.W.fnOf "__init__" "BadForm.__init__" (defArgs s_BadForm_init) (defBody s_BadForm_init) (defScope s_BadForm_init) .none ikV_BadForm idc_BadForm ipm_BadForm ian_BadForm icd_BadForm ict_BadForm, c_BadBook := C_BadBook, i_BadBook := I_BadBook, di_BadBook := PySem.W.fnOf "__init__" "BadBook.__init__" (defArgs s_BadBook_init) (defBody s_BadBook_init) (defScope s_BadBook_init) .none ikV_BadBook idc_BadBook ipm_BadBook ian_BadBook icd_BadBook ict_BadBook, c_BadName := C_BadName, i_BadName := I_BadName, di_BadName := PySem.W.fnOf "__init__" "BadName.__init__" (defArgs s_BadName_init) (defBody s_BadName_init) (defScope s_BadName_init) .none ikV_BadName idc_BadName ipm_BadName ian_BadName icd_BadName ict_BadName, c_BadText := C_BadText, i_BadText := I_BadText, di_BadText := PySem.W.fnOf "__init__" "BadText.__init__" (defArgs s_BadText_init) (defBody s_BadText_init) (defScope s_BadText_init) .none ikV_BadText idc_BadText ipm_BadText ian_BadText icd_BadText ict_BadText, c_NoPlace := C_NoPlace, i_NoPlace := I_NoPlace, di_NoPlace := PySem.W.fnOf "__init__" "NoPlace.__init__" (defArgs s_NoPlace_init) (defBody s_NoPlace_init) (defScope s_NoPlace_init) .none ikV_NoPlace idc_NoPlace ipm_NoPlace ian_NoPlace icd_NoPlace ict_NoPlace, c_NoName := C_NoName, i_NoName := I_NoName, di_NoName := PySem.W.fnOf "__init__" "NoName.__init__" (defArgs s_NoName_init) (defBody s_NoName_init) (defScope s_NoName_init) .none ikV_NoName idc_NoName ipm_NoName ian_NoName icd_NoName ict_NoName, c_TakenName := C_TakenName, i_TakenName := I_TakenName, di_TakenName := PySem.W.fnOf "__init__" "TakenName.__init__" (defArgs s_TakenName_init) (defBody s_TakenName_init) (defScope s_TakenName_init) .none ikV_TakenName idc_TakenName ipm_TakenName ian_TakenName icd_TakenName ict_TakenName, c_Unlike := C_Unlike, i_Unlike := I_Unlike, di_Unlike := PySem.W.fnOf "__init__" "Unlike.__init__" (defArgs s_Unlike_init) (defBody s_Unlike_init) (defScope s_Unlike_init) .none ikV_Unlike idc_Unlike ipm_Unlike ian_Unlike icd_Unlike ict_Unlike, c_NotThere := C_NotThere, i_NotThere := I_NotThere, di_NotThere := PySem.W.fnOf "__init__" "NotThere.__init__" (defArgs s_NotThere_init) (defBody s_NotThere_init) (defScope s_NotThere_init) .none ikV_NotThere idc_NotThere ipm_NotThere ian_NotThere icd_NotThere ict_NotThere, c_TooMany := C_TooMany, i_TooMany := I_TooMany, di_TooMany := PySem.W.fnOf "__init__" "TooMany.__init__" (defArgs s_TooMany_init) (defBody s_TooMany_init) (defScope s_TooMany_init) .none ikV_TooMany idc_TooMany ipm_TooMany ian_TooMany icd_TooMany ict_TooMany, c_NotKept := C_NotKept, i_NotKept := I_NotKept, di_NotKept := PySem.W.fnOf "__init__" "NotKept.__init__" (defArgs s_NotKept_init) (defBody s_NotKept_init) (defScope s_NotKept_init) .none ikV_NotKept idc_NotKept ipm_NotKept ian_NotKept icd_NotKept ict_NotKept, c_NothingToUndo := C_NothingToUndo, c_NothingToRedo := C_NothingToRedo }, ?_, rfl, fun s v => .of_eq rfl⟩
  exact { F__law_pen := F0, g__law_pen := PySem.W.mg_of X G a0, b__law_pen := F0.binds (fun _ _ _ _ _ _ us hl => match us, hl with | [_], _ => rfl), F__law_draw := F1, g__law_draw := PySem.W.mg_of X G a1, b__law_draw := F1.binds (fun _ _ _ _ _ _ us hl => match us, hl with | [_, _], _ => rfl), F__law_pick := F2, g__law_pick := PySem.W.mg_of X G a2, b__law_pick := F2.binds (fun _ _ _ _ _ _ us hl => match us, hl with | [_, _], _ => rfl), F__law_kinds := F3, g__law_kinds := PySem.W.mg_of X G a3, b__law_kinds := F3.binds (fun _ _ _ _ _ _ us hl => match us, hl with | [_], _ => rfl), F__law_more_kinds := F4, g__law_more_kinds := PySem.W.mg_of X G a4, b__law_more_kinds := F4.binds (fun _ _ _ _ _ _ us hl => match us, hl with | [_], _ => rfl), F__law_any_field := F5, g__law_any_field := PySem.W.mg_of X G a5, b__law_any_field := F5.binds (fun _ _ _ _ _ _ us hl => match us, hl with | [_], _ => rfl), F__law_raised := F6, g__law_raised := PySem.W.mg_of X G a6, b__law_raised := F6.binds (fun _ _ _ _ _ _ us hl => match us, hl with | [_, _, _, _], _ => rfl), F__law_raised_too := F7, g__law_raised_too := PySem.W.mg_of X G a7, b__law_raised_too := F7.binds (fun _ _ _ _ _ _ us hl => match us, hl with | [_, _, _, _], _ => rfl), F__law_told := F8, g__law_told := PySem.W.mg_of X G a8, b__law_told := F8.binds (fun _ _ _ _ _ _ us hl => match us, hl with | [_, _, _, _], _ => rfl), F__law_due := F9, g__law_due := PySem.W.mg_of X G a9, b__law_due := F9.binds (fun _ _ _ _ _ _ us hl => match us, hl with | [_, _, _, _], _ => rfl), F_law := F10, g_law := PySem.W.mg_of X G a10, b_law := F10.binds (fun _ _ _ _ _ _ us hl => match us, hl with | [_], _ => rfl), n_ValueError := PySem.W.mg_none_of X G z_ValueError, n_int := PySem.W.mg_none_of X G z_int, n_isinstance := PySem.W.mg_none_of X G z_isinstance, n_len := PySem.W.mg_none_of X G z_len, n_list := PySem.W.mg_none_of X G z_list, n_range := PySem.W.mg_none_of X G z_range, n_repr := PySem.W.mg_none_of X G z_repr, eb := { kn := ekn, kt := ekt }, e_GenusError := { cls := ⟨_, _, _, _, _, _, _, _, _, _, _, _, _, _, cl_GenusError⟩, sa := cs_GenusError, ga := cg_GenusError, gg := ch_GenusError, ka := cc_GenusError, kp := ck_GenusError }, g_GenusError := PySem.W.mg_of X G ca_GenusError, e_BadNumber := { cls := ⟨_, _, _, _, _, _, _, _, _, _, _, _, _, _, cl_BadNumber⟩, sa := cs_BadNumber, ga := cg_BadNumber, gg := ch_BadNumber, ka := cc_BadNumber, kp := ck_BadNumber }, g_BadNumber := PySem.W.mg_of X G ca_BadNumber, i_BadNumber := ia_BadNumber, ti_BadNumber := it_BadNumber, Fi_BadNumber := Fi_BadNumber, bi_BadNumber := Fi_BadNumber.binds (fun _ _ _ _ _ _ us hl => match us, hl with | [_, _, _], _ => rfl), no_BadNumber_what := in_BadNumber_what, no_BadNumber_number := in_BadNumber_number, e_BadRow := { cls := ⟨_, _, _, _, _, _, _, _, _, _, _, _, _, _, cl_BadRow⟩, sa := cs_BadRow, ga := cg_BadRow, gg := ch_BadRow, ka := cc_BadRow, kp := ck_BadRow }, g_BadRow := PySem.W.mg_of X G ca_BadRow, i_BadRow := ia_BadRow, ti_BadRow := it_BadRow, Fi_BadRow := Fi_BadRow, bi_BadRow := Fi_BadRow.binds (fun _ _ _ _ _ _ us hl => match us, hl with | [_, _, _], _ => rfl), no_BadRow_what := in_BadRow_what, no_BadRow_row := in_BadRow_row, e_BadTable := { cls := ⟨_, _, _, _, _, _, _, _, _, _, _, _, _, _, cl_BadTable⟩, sa := cs_BadTable, ga := cg_BadTable, gg := ch_BadTable, ka := cc_BadTable, kp := ck_BadTable }, g_BadTable := PySem.W.mg_of X G ca_BadTable, i_BadTable := ia_BadTable, ti_BadTable := it_BadTable, Fi_BadTable := Fi_BadTable, bi_BadTable := Fi_BadTable.binds (fun _ _ _ _ _ _ us hl => match us, hl with | [_, _], _ => rfl), no_BadTable_what := in_BadTable_what, e_BadForm := { cls := ⟨_, _, _, _, _, _, _, _, _, _, _, _, _, _, cl_BadForm⟩, sa := cs_BadForm, ga := cg_BadForm, gg := ch_BadForm, ka := cc_BadForm, kp := ck_BadForm }, g_BadForm := PySem.W.mg_of X G ca_BadForm, i_BadForm := ia_BadForm, ti_BadForm := it_BadForm, Fi_BadForm := Fi_BadForm, bi_BadForm := Fi_BadForm.binds (fun _ _ _ _ _ _ us hl => match us, hl with | [_, _], _ => rfl), no_BadForm_what := in_BadForm_what, e_BadBook := { cls := ⟨_, _, _, _, _, _, _, _, _, _, _, _, _, _, cl_BadBook⟩, sa := cs_BadBook, ga := cg_BadBook, gg := ch_BadBook, ka := cc_BadBook, kp := ck_BadBook }, g_BadBook := PySem.W.mg_of X G ca_BadBook, i_BadBook := ia_BadBook, ti_BadBook := it_BadBook, Fi_BadBook := Fi_BadBook, bi_BadBook := Fi_BadBook.binds (fun _ _ _ _ _ _ us hl => match us, hl with | [_, _], _ => rfl), no_BadBook_what := in_BadBook_what, e_BadName := { cls := ⟨_, _, _, _, _, _, _, _, _, _, _, _, _, _, cl_BadName⟩, sa := cs_BadName, ga := cg_BadName, gg := ch_BadName, ka := cc_BadName, kp := ck_BadName }, g_BadName := PySem.W.mg_of X G ca_BadName, i_BadName := ia_BadName, ti_BadName := it_BadName, Fi_BadName := Fi_BadName, bi_BadName := Fi_BadName.binds (fun _ _ _ _ _ _ us hl => match us, hl with | [_, _], _ => rfl), no_BadName_name := in_BadName_name, e_BadText := { cls := ⟨_, _, _, _, _, _, _, _, _, _, _, _, _, _, cl_BadText⟩, sa := cs_BadText, ga := cg_BadText, gg := ch_BadText, ka := cc_BadText, kp := ck_BadText }, g_BadText := PySem.W.mg_of X G ca_BadText, i_BadText := ia_BadText, ti_BadText := it_BadText, Fi_BadText := Fi_BadText, bi_BadText := Fi_BadText.binds (fun _ _ _ _ _ _ us hl => match us, hl with | [_, _, _], _ => rfl), no_BadText_line := in_BadText_line, no_BadText_word := in_BadText_word, e_NoPlace := { cls := ⟨_, _, _, _, _, _, _, _, _, _, _, _, _, _, cl_NoPlace⟩, sa := cs_NoPlace, ga := cg_NoPlace, gg := ch_NoPlace, ka := cc_NoPlace, kp := ck_NoPlace }, g_NoPlace := PySem.W.mg_of X G ca_NoPlace, i_NoPlace := ia_NoPlace, ti_NoPlace := it_NoPlace, Fi_NoPlace := Fi_NoPlace, bi_NoPlace := Fi_NoPlace.binds (fun _ _ _ _ _ _ us hl => match us, hl with | [_, _, _], _ => rfl), no_NoPlace_what := in_NoPlace_what, no_NoPlace_index := in_NoPlace_index, e_NoName := { cls := ⟨_, _, _, _, _, _, _, _, _, _, _, _, _, _, cl_NoName⟩, sa := cs_NoName, ga := cg_NoName, gg := ch_NoName, ka := cc_NoName, kp := ck_NoName }, g_NoName := PySem.W.mg_of X G ca_NoName, i_NoName := ia_NoName, ti_NoName := it_NoName, Fi_NoName := Fi_NoName, bi_NoName := Fi_NoName.binds (fun _ _ _ _ _ _ us hl => match us, hl with | [_, _], _ => rfl), no_NoName_name := in_NoName_name, e_TakenName := { cls := ⟨_, _, _, _, _, _, _, _, _, _, _, _, _, _, cl_TakenName⟩, sa := cs_TakenName, ga := cg_TakenName, gg := ch_TakenName, ka := cc_TakenName, kp := ck_TakenName }, g_TakenName := PySem.W.mg_of X G ca_TakenName, i_TakenName := ia_TakenName, ti_TakenName := it_TakenName, Fi_TakenName := Fi_TakenName, bi_TakenName := Fi_TakenName.binds (fun _ _ _ _ _ _ us hl => match us, hl with | [_, _], _ => rfl), no_TakenName_name := in_TakenName_name, e_Unlike := { cls := ⟨_, _, _, _, _, _, _, _, _, _, _, _, _, _, cl_Unlike⟩, sa := cs_Unlike, ga := cg_Unlike, gg := ch_Unlike, ka := cc_Unlike, kp := ck_Unlike }, g_Unlike := PySem.W.mg_of X G ca_Unlike, i_Unlike := ia_Unlike, ti_Unlike := it_Unlike, Fi_Unlike := Fi_Unlike, bi_Unlike := Fi_Unlike.binds (fun _ _ _ _ _ _ us hl => match us, hl with | [_, _], _ => rfl), no_Unlike_what := in_Unlike_what, e_NotThere := { cls := ⟨_, _, _, _, _, _, _, _, _, _, _, _, _, _, cl_NotThere⟩, sa := cs_NotThere, ga := cg_NotThere, gg := ch_NotThere, ka := cc_NotThere, kp := ck_NotThere }, g_NotThere := PySem.W.mg_of X G ca_NotThere, i_NotThere := ia_NotThere, ti_NotThere := it_NotThere, Fi_NotThere := Fi_NotThere, bi_NotThere := Fi_NotThere.binds (fun _ _ _ _ _ _ us hl => match us, hl with | [_, _], _ => rfl), no_NotThere_paper := in_NotThere_paper, e_TooMany := { cls := ⟨_, _, _, _, _, _, _, _, _, _, _, _, _, _, cl_TooMany⟩, sa := cs_TooMany, ga := cg_TooMany, gg := ch_TooMany, ka := cc_TooMany, kp := ck_TooMany }, g_TooMany := PySem.W.mg_of X G ca_TooMany, i_TooMany := ia_TooMany, ti_TooMany := it_TooMany, Fi_TooMany := Fi_TooMany, bi_TooMany := Fi_TooMany.binds (fun _ _ _ _ _ _ us hl => match us, hl with | [_, _, _, _], _ => rfl), no_TooMany_what := in_TooMany_what, no_TooMany_many := in_TooMany_many, no_TooMany_limit := in_TooMany_limit, e_NotKept := { cls := ⟨_, _, _, _, _, _, _, _, _, _, _, _, _, _, cl_NotKept⟩, sa := cs_NotKept, ga := cg_NotKept, gg := ch_NotKept, ka := cc_NotKept, kp := ck_NotKept }, g_NotKept := PySem.W.mg_of X G ca_NotKept, i_NotKept := ia_NotKept, ti_NotKept := it_NotKept, Fi_NotKept := Fi_NotKept, bi_NotKept := Fi_NotKept.binds (fun _ _ _ _ _ _ us hl => match us, hl with | [_, _, _], _ => rfl), no_NotKept_promise := in_NotKept_promise, no_NotKept_witness := in_NotKept_witness, e_NothingToUndo := { cls := ⟨_, _, _, _, _, _, _, _, _, _, _, _, _, _, cl_NothingToUndo⟩, sa := cs_NothingToUndo, ga := cg_NothingToUndo, gg := ch_NothingToUndo, ka := cc_NothingToUndo, kp := ck_NothingToUndo }, g_NothingToUndo := PySem.W.mg_of X G ca_NothingToUndo, x_NothingToUndo := cx_NothingToUndo, e_NothingToRedo := { cls := ⟨_, _, _, _, _, _, _, _, _, _, _, _, _, _, cl_NothingToRedo⟩, sa := cs_NothingToRedo, ga := cg_NothingToRedo, gg := ch_NothingToRedo, ka := cc_NothingToRedo, kp := ck_NothingToRedo }, g_NothingToRedo := PySem.W.mg_of X G ca_NothingToRedo, x_NothingToRedo := cx_NothingToRedo, ne := nod }
end Law

set_option Elab.async false
set_option linter.all false
open PySem PySem.W PyProof.Rows
set_option maxRecDepth 100000 in
set_option maxHeartbeats 0 in
theorem PySem.Challenge.cw_genuspapers_k01_errors_as_told_holds : PySem.Challenge.rw_genuspapers_k01_errors_as_told.Holds := by
  w_on; o_law; k_head; (case hw => w_witness2)
  k_fill
  refine G.walkG (l := PySem.Challenge.rw_genuspapers_k01_errors_as_told) (k := 5) rfl rfl (by decide +kernel) ⟨by decide, by decide, rfl, fun _ => rfl⟩ (fun w h y => PySem.W.kIn_of y) ?F
  case F =>
    intro w mg fa h KX G hmg
    refine Exists.elim (?a : ∃ a : Law.Ad, Law.Tx _ mg a ∧ a.f_law = fa ∧ ∀ (s : Shared) (v : Value), BindsTo s a.d_law ⟨[v], []⟩ [("script", v)]) fun a q => ⟨a.d_law, q.2.2, fun base M hS => q.2.1 ▸ Law.ok_law q.1 hS⟩
    case a =>
    refine' Law.all_mk KX G hmg ?a0 ?l0 ?c0 ?k0 ?a1 ?l1 ?c1 ?k1 ?a2 ?l2 ?c2 ?k2 ?a3 ?l3 ?c3 ?k3 ?a4 ?l4 ?c4 ?k4 ?a5 ?l5 ?c5 ?k5 ?a6 ?l6 ?c6 ?k6 ?a7 ?l7 ?c7 ?k7 ?a8 ?l8 ?c8 ?k8 ?a9 ?l9 ?c9 ?k9 ?a10 ?l10 ?c10 ?k10 ?z_ValueError ?z_int ?z_isinstance ?z_len ?z_list ?z_range ?z_repr ?ekn ?ekt ?ca_GenusError ?cl_GenusError ?cs_GenusError ?cg_GenusError ?ch_GenusError ?cc_GenusError ?ck_GenusError ?ca_BadNumber ?cl_BadNumber ?cs_BadNumber ?cg_BadNumber ?ch_BadNumber ?cc_BadNumber ?ck_BadNumber ?ia_BadNumber ?it_BadNumber ?il_BadNumber ?ic_BadNumber ?ik_BadNumber ?in_BadNumber_what ?in_BadNumber_number ?ca_BadRow ?cl_BadRow ?cs_BadRow ?cg_BadRow ?ch_BadRow ?cc_BadRow ?ck_BadRow ?ia_BadRow ?it_BadRow ?il_BadRow ?ic_BadRow ?ik_BadRow ?in_BadRow_what ?in_BadRow_row ?ca_BadTable ?cl_BadTable ?cs_BadTable ?cg_BadTable ?ch_BadTable ?cc_BadTable ?ck_BadTable ?ia_BadTable ?it_BadTable ?il_BadTable ?ic_BadTable ?ik_BadTable ?in_BadTable_what ?ca_BadForm ?cl_BadForm ?cs_BadForm ?cg_BadForm ?ch_BadForm ?cc_BadForm ?ck_BadForm ?ia_BadForm ?it_BadForm ?il_BadForm ?ic_BadForm ?ik_BadForm ?in_BadForm_what ?ca_BadBook ?cl_BadBook ?cs_BadBook ?cg_BadBook ?ch_BadBook ?cc_BadBook ?ck_BadBook ?ia_BadBook ?it_BadBook ?il_BadBook ?ic_BadBook ?ik_BadBook ?in_BadBook_what ?ca_BadName ?cl_BadName ?cs_BadName ?cg_BadName ?ch_BadName ?cc_BadName ?ck_BadName ?ia_BadName ?it_BadName ?il_BadName ?ic_BadName ?ik_BadName ?in_BadName_name ?ca_BadText ?cl_BadText ?cs_BadText ?cg_BadText ?ch_BadText ?cc_BadText ?ck_BadText ?ia_BadText ?it_BadText ?il_BadText ?ic_BadText ?ik_BadText ?in_BadText_line ?in_BadText_word ?ca_NoPlace ?cl_NoPlace ?cs_NoPlace ?cg_NoPlace ?ch_NoPlace ?cc_NoPlace ?ck_NoPlace ?ia_NoPlace ?it_NoPlace ?il_NoPlace ?ic_NoPlace ?ik_NoPlace ?in_NoPlace_what ?in_NoPlace_index ?ca_NoName ?cl_NoName ?cs_NoName ?cg_NoName ?ch_NoName ?cc_NoName ?ck_NoName ?ia_NoName ?it_NoName ?il_NoName ?ic_NoName ?ik_NoName ?in_NoName_name ?ca_TakenName ?cl_TakenName ?cs_TakenName ?cg_TakenName ?ch_TakenName ?cc_TakenName ?ck_TakenName ?ia_TakenName ?it_TakenName ?il_TakenName ?ic_TakenName ?ik_TakenName ?in_TakenName_name ?ca_Unlike ?cl_Unlike ?cs_Unlike ?cg_Unlike ?ch_Unlike ?cc_Unlike ?ck_Unlike ?ia_Unlike ?it_Unlike ?il_Unlike ?ic_Unlike ?ik_Unlike ?in_Unlike_what ?ca_NotThere ?cl_NotThere ?cs_NotThere ?cg_NotThere ?ch_NotThere ?cc_NotThere ?ck_NotThere ?ia_NotThere ?it_NotThere ?il_NotThere ?ic_NotThere ?ik_NotThere ?in_NotThere_paper ?ca_TooMany ?cl_TooMany ?cs_TooMany ?cg_TooMany ?ch_TooMany ?cc_TooMany ?ck_TooMany ?ia_TooMany ?it_TooMany ?il_TooMany ?ic_TooMany ?ik_TooMany ?in_TooMany_what ?in_TooMany_many ?in_TooMany_limit ?ca_NotKept ?cl_NotKept ?cs_NotKept ?cg_NotKept ?ch_NotKept ?cc_NotKept ?ck_NotKept ?ia_NotKept ?it_NotKept ?il_NotKept ?ic_NotKept ?ik_NotKept ?in_NotKept_promise ?in_NotKept_witness ?ca_NothingToUndo ?cl_NothingToUndo ?cs_NothingToUndo ?cg_NothingToUndo ?ch_NothingToUndo ?cc_NothingToUndo ?ck_NothingToUndo ?cx_NothingToUndo ?ca_NothingToRedo ?cl_NothingToRedo ?cs_NothingToRedo ?cg_NothingToRedo ?ch_NothingToRedo ?cc_NothingToRedo ?ck_NothingToRedo ?cx_NothingToRedo ?nod
    (case a0 => k_is)
    (case l0 => k_is)
    (case c0 => k_is)
    (case k0 => k_is)
    (case a1 => k_is)
    (case l1 => k_is)
    (case c1 => k_is)
    (case k1 => k_is)
    (case a2 => k_is)
    (case l2 => k_is)
    (case c2 => k_is)
    (case k2 => k_is)
    (case a3 => k_is)
    (case l3 => k_is)
    (case c3 => k_is)
    (case k3 => k_is)
    (case a4 => k_is)
    (case l4 => k_is)
    (case c4 => k_is)
    (case k4 => k_is)
    (case a5 => k_is)
    (case l5 => k_is)
    (case c5 => k_is)
    (case k5 => k_is)
    (case a6 => k_is)
    (case l6 => k_is)
    (case c6 => k_is)
    (case k6 => k_is)
    (case a7 => k_is)
    (case l7 => k_is)
    (case c7 => k_is)
    (case k7 => k_is)
    (case a8 => k_is)
    (case l8 => k_is)
    (case c8 => k_is)
    (case k8 => k_is)
    (case a9 => k_is)
    (case l9 => k_is)
    (case c9 => k_is)
    (case k9 => k_is)
    (case a10 => k_is)
    (case l10 => k_is)
    (case c10 => k_is)
    (case k10 => k_is)
    (case z_ValueError => k_is)
    (case z_int => k_is)
    (case z_isinstance => k_is)
    (case z_len => k_is)
    (case z_list => k_is)
    (case z_range => k_is)
    (case z_repr => k_is)
    (case ekn => k_is)
    (case ekt => k_is)
    (case ca_GenusError => k_is)
    (case cl_GenusError => k_is)
    (case cs_GenusError => k_is)
    (case cg_GenusError => k_is)
    (case ch_GenusError => k_is)
    (case cc_GenusError => k_is)
    (case ck_GenusError => k_is)
    (case ca_BadNumber => k_is)
    (case cl_BadNumber => k_is)
    (case cs_BadNumber => k_is)
    (case cg_BadNumber => k_is)
    (case ch_BadNumber => k_is)
    (case cc_BadNumber => k_is)
    (case ck_BadNumber => k_is)
    (case ia_BadNumber => k_is)
    (case it_BadNumber => k_is)
    (case il_BadNumber => k_is)
    (case ic_BadNumber => k_is)
    (case ik_BadNumber => k_is)
    (case in_BadNumber_what => k_is)
    (case in_BadNumber_number => k_is)
    (case ca_BadRow => k_is)
    (case cl_BadRow => k_is)
    (case cs_BadRow => k_is)
    (case cg_BadRow => k_is)
    (case ch_BadRow => k_is)
    (case cc_BadRow => k_is)
    (case ck_BadRow => k_is)
    (case ia_BadRow => k_is)
    (case it_BadRow => k_is)
    (case il_BadRow => k_is)
    (case ic_BadRow => k_is)
    (case ik_BadRow => k_is)
    (case in_BadRow_what => k_is)
    (case in_BadRow_row => k_is)
    (case ca_BadTable => k_is)
    (case cl_BadTable => k_is)
    (case cs_BadTable => k_is)
    (case cg_BadTable => k_is)
    (case ch_BadTable => k_is)
    (case cc_BadTable => k_is)
    (case ck_BadTable => k_is)
    (case ia_BadTable => k_is)
    (case it_BadTable => k_is)
    (case il_BadTable => k_is)
    (case ic_BadTable => k_is)
    (case ik_BadTable => k_is)
    (case in_BadTable_what => k_is)
    (case ca_BadForm => k_is)
    (case cl_BadForm => k_is)
    (case cs_BadForm => k_is)
    (case cg_BadForm => k_is)
    (case ch_BadForm => k_is)
    (case cc_BadForm => k_is)
    (case ck_BadForm => k_is)
    (case ia_BadForm => k_is)
    (case it_BadForm => k_is)
    (case il_BadForm => k_is)
    (case ic_BadForm => k_is)
    (case ik_BadForm => k_is)
    (case in_BadForm_what => k_is)
    (case ca_BadBook => k_is)
    (case cl_BadBook => k_is)
    (case cs_BadBook => k_is)
    (case cg_BadBook => k_is)
    (case ch_BadBook => k_is)
    (case cc_BadBook => k_is)
    (case ck_BadBook => k_is)
    (case ia_BadBook => k_is)
    (case it_BadBook => k_is)
    (case il_BadBook => k_is)
    (case ic_BadBook => k_is)
    (case ik_BadBook => k_is)
    (case in_BadBook_what => k_is)
    (case ca_BadName => k_is)
    (case cl_BadName => k_is)
    (case cs_BadName => k_is)
    (case cg_BadName => k_is)
    (case ch_BadName => k_is)
    (case cc_BadName => k_is)
    (case ck_BadName => k_is)
    (case ia_BadName => k_is)
    (case it_BadName => k_is)
    (case il_BadName => k_is)
    (case ic_BadName => k_is)
    (case ik_BadName => k_is)
    (case in_BadName_name => k_is)
    (case ca_BadText => k_is)
    (case cl_BadText => k_is)
    (case cs_BadText => k_is)
    (case cg_BadText => k_is)
    (case ch_BadText => k_is)
    (case cc_BadText => k_is)
    (case ck_BadText => k_is)
    (case ia_BadText => k_is)
    (case it_BadText => k_is)
    (case il_BadText => k_is)
    (case ic_BadText => k_is)
    (case ik_BadText => k_is)
    (case in_BadText_line => k_is)
    (case in_BadText_word => k_is)
    (case ca_NoPlace => k_is)
    (case cl_NoPlace => k_is)
    (case cs_NoPlace => k_is)
    (case cg_NoPlace => k_is)
    (case ch_NoPlace => k_is)
    (case cc_NoPlace => k_is)
    (case ck_NoPlace => k_is)
    (case ia_NoPlace => k_is)
    (case it_NoPlace => k_is)
    (case il_NoPlace => k_is)
    (case ic_NoPlace => k_is)
    (case ik_NoPlace => k_is)
    (case in_NoPlace_what => k_is)
    (case in_NoPlace_index => k_is)
    (case ca_NoName => k_is)
    (case cl_NoName => k_is)
    (case cs_NoName => k_is)
    (case cg_NoName => k_is)
    (case ch_NoName => k_is)
    (case cc_NoName => k_is)
    (case ck_NoName => k_is)
    (case ia_NoName => k_is)
    (case it_NoName => k_is)
    (case il_NoName => k_is)
    (case ic_NoName => k_is)
    (case ik_NoName => k_is)
    (case in_NoName_name => k_is)
    (case ca_TakenName => k_is)
    (case cl_TakenName => k_is)
    (case cs_TakenName => k_is)
    (case cg_TakenName => k_is)
    (case ch_TakenName => k_is)
    (case cc_TakenName => k_is)
    (case ck_TakenName => k_is)
    (case ia_TakenName => k_is)
    (case it_TakenName => k_is)
    (case il_TakenName => k_is)
    (case ic_TakenName => k_is)
    (case ik_TakenName => k_is)
    (case in_TakenName_name => k_is)
    (case ca_Unlike => k_is)
    (case cl_Unlike => k_is)
    (case cs_Unlike => k_is)
    (case cg_Unlike => k_is)
    (case ch_Unlike => k_is)
    (case cc_Unlike => k_is)
    (case ck_Unlike => k_is)
    (case ia_Unlike => k_is)
    (case it_Unlike => k_is)
    (case il_Unlike => k_is)
    (case ic_Unlike => k_is)
    (case ik_Unlike => k_is)
    (case in_Unlike_what => k_is)
    (case ca_NotThere => k_is)
    (case cl_NotThere => k_is)
    (case cs_NotThere => k_is)
    (case cg_NotThere => k_is)
    (case ch_NotThere => k_is)
    (case cc_NotThere => k_is)
    (case ck_NotThere => k_is)
    (case ia_NotThere => k_is)
    (case it_NotThere => k_is)
    (case il_NotThere => k_is)
    (case ic_NotThere => k_is)
    (case ik_NotThere => k_is)
    (case in_NotThere_paper => k_is)
    (case ca_TooMany => k_is)
    (case cl_TooMany => k_is)
    (case cs_TooMany => k_is)
    (case cg_TooMany => k_is)
    (case ch_TooMany => k_is)
    (case cc_TooMany => k_is)
    (case ck_TooMany => k_is)
    (case ia_TooMany => k_is)
    (case it_TooMany => k_is)
    (case il_TooMany => k_is)
    (case ic_TooMany => k_is)
    (case ik_TooMany => k_is)
    (case in_TooMany_what => k_is)
    (case in_TooMany_many => k_is)
    (case in_TooMany_limit => k_is)
    (case ca_NotKept => k_is)
    (case cl_NotKept => k_is)
    (case cs_NotKept => k_is)
    (case cg_NotKept => k_is)
    (case ch_NotKept => k_is)
    (case cc_NotKept => k_is)
    (case ck_NotKept => k_is)
    (case ia_NotKept => k_is)
    (case it_NotKept => k_is)
    (case il_NotKept => k_is)
    (case ic_NotKept => k_is)
    (case ik_NotKept => k_is)
    (case in_NotKept_promise => k_is)
    (case in_NotKept_witness => k_is)
    (case ca_NothingToUndo => k_is)
    (case cl_NothingToUndo => k_is)
    (case cs_NothingToUndo => k_is)
    (case cg_NothingToUndo => k_is)
    (case ch_NothingToUndo => k_is)
    (case cc_NothingToUndo => k_is)
    (case ck_NothingToUndo => k_is)
    (case cx_NothingToUndo => k_exc)
    (case ca_NothingToRedo => k_is)
    (case cl_NothingToRedo => k_is)
    (case cs_NothingToRedo => k_is)
    (case cg_NothingToRedo => k_is)
    (case ch_NothingToRedo => k_is)
    (case cc_NothingToRedo => k_is)
    (case ck_NothingToRedo => k_is)
    (case cx_NothingToRedo => k_exc)
    (case nod => decide)

