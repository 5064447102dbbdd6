import PyProof.Rows.All
import Wide.All
import OpenK.AllK
import Wide.FinOn
import HandS.ForMost
import HandS.Exc
import HandS.ExcOwn
import HandS.WordsExc
import HandS.EndBits
import HandS.Lambda
import HandS.IsInst
import HandS.ExcInit
import HandS.ExcField
import KE.KExcIs
import HandS.Wide
import HandS.TupAny
import HandS.Style
import HandS.Gcd
import HandS.EndTab
import PyProof.P3Eq
import HandS.Iter
import HandS.Zip
import KE.GoesMore
import PySem.Challenge.RW_genuspapers_k02_ratios
set_option Elab.async false
set_option linter.all false
set_option maxRecDepth 100000
set_option maxHeartbeats 4000000
/-! GBase: defs whose promise knows more of what runs around them: no repr is open (guards), objects that are pinned (a caught error). -/
namespace G
open PySem PySem.Spec PyProof.Rows L2
abbrev Pins := List (Addr × Obj)
abbrev Sq := Pins → Sp
/-- room around: c tells that nothing is being handled -/
structure Rm (c : Bool) (k : Nat) (A : Around) : Prop where
  dp : A.depth + 3 * k + 5 < recursionLimit
  un : A.units + 16 * k + 200 < cLine
  gd : A.guards = some []
  hd : c = true → A.handled = none
theorem Rm.mono {c : Bool} {j k : Nat} {A : Around} (r : Rm c k A) (h : j ≤ k) : Rm c j A :=
  { dp := by have q := r.dp; omega, un := by have q := r.un; omega, gd := r.gd, hd := r.hd }
theorem Rm.any {c : Bool} {k : Nat} {A : Around} (r : Rm c k A) : Rm false k A := { dp := r.dp, un := r.un, gd := r.gd, hd := fun z => nomatch z }
theorem Rm.deeper {c : Bool} {k : Nat} {A : Around} (r : Rm c (k + 1) A) (env : Env) : Rm c k (A.deeper env) :=
  { dp := by have q := r.dp; show A.depth + 1 + 3 * k + 5 < _; omega, un := by have q := r.un; show A.units + 3 + 16 * k + 200 < _; omega, gd := r.gd, hd := r.hd }
theorem Rm.mark {c : Bool} {k : Nat} {A : Around} (r : Rm c k A) (h : Option Value) : Rm false k (A.mark h) :=
  { dp := r.dp, un := r.un, gd := r.gd, hd := fun z => nomatch z }
theorem Rm.room {k : Nat} {A : Around} (r : Rm true k A) : Room k A := { hd := r.hd rfl, dp := r.dp, un := r.un }
theorem Rm.hu {c : Bool} {k : Nat} {A : Around} (r : Rm c k A) : A.units + 64 < cLine := by have q := r.un; omega
theorem Rm.hu1 {c : Bool} {k : Nat} {A : Around} (r : Rm c k A) : A.units + 1 < cLine := by have q := r.un; omega
theorem Rm.deep {c : Bool} {k : Nat} {A : Around} (r : Rm c k A) : A.depth < recursionLimit := by have q := r.dp; omega

/-- a pinned object stands in the state, untracked -/
structure PinAt (outer : List Env) (H : Hp) (s : Shared) (p : Addr × Obj) : Prop where
  get : s.heap.get? p.1 = some p.2
  free : H p.1 = none
  nofs : p.1 ∉ frs outer
  nocell : ∀ v, p.2.data ≠ .cell v

structure FnG (P : Program) (w : World) (K : PySem.W.Frag) (mg : Str → Option Value) (base : Heap) (c : Bool) (k : Nat) (f : Addr) (fd : FuncData) (ps : List Str) (sp : Sq) : Prop where
  len : ∀ pl vs H Q E, sp pl vs H Q E → vs.length = ps.length
  run : ∀ (A : Around) (outer : List Env) (s : Shared) (H : Hp) (args : Args) (us : List Value) (vs : List V) (Q : VK) (E : XK) (pl : Pins), Rm c k A → (∀ p ∈ pl, PinAt outer H s p) →
    Env0 P w K mg base A outer s H → BindsTo s fd args (ps.zip us) → Vals vs us → sp pl vs H Q E →
    codeAny (model P w) A (.call (.ref f) args) (CR (L2.CX P w) outer P w H s Q E) s
theorem FnG.up {P : Program} {w : World} {K : PySem.W.Frag} {mg : Str → Option Value} {base : Heap} {c : Bool} {j k : Nat} {f : Addr} {fd : FuncData} {ps : List Str} {sp : Sq} (F : FnG P w K mg base c j f fd ps sp) (h : j ≤ k) : FnG P w K mg base c k f fd ps sp :=
  { len := F.len, run := fun A o s H a us vs Q E pl hr => F.run A o s H a us vs Q E pl (hr.mono h) }
theorem FnG.of {P : Program} {w : World} {K : PySem.W.Frag} {mg : Str → Option Value} {base : Heap} {k : Nat} {f : Addr} {fd : FuncData} {ps : List Str} {sp : Sp} (F : FnOk P w K mg base (L2.CX P w) k f fd ps sp) : FnG P w K mg base true k f fd ps (fun _ => sp) :=
  { len := fun _ => F.len, run := fun A o s H a us vs Q E _ hr _ => F.run A o s H a us vs Q E hr.room }

/-- the context of a body -/
abbrev cxG (P : Program) (w : World) (K : PySem.W.Frag) (mg : Str → Option Value) (base : Heap) (N : List Str) (qual : Str) (scope : Scope) (f : Addr) (cd : Value) (A : Around) (outer : List Env) (s : Shared) (H : Hp) (E : XK) (c : Bool) (pl : Pins) : Cx :=
  { cxOf (L2.CX P w) P w K mg base N qual scope f cd A outer s H E with calm := c, pn := pl }

section
variable {P : Program} {w : World} {K : PySem.W.Frag} {mg : Str → Option Value} {base : Heap} {N ps : List Str} {qual : Str} {scope : Scope} {f : Addr} {cd : Value} {A : Around} {outer : List Env} {s s1 : Shared} {H : Hp} {E : XK} {us : List Value} {vs : List V} {c : Bool} {pl : Pins}
theorem inv_go (S : FnScope N ps scope) (hd : c = true → A.handled = none) (hp : ∀ p ∈ pl, PinAt outer H s p) (e0 : Env0 P w K mg base A outer s H) (hl : vs.length = ps.length) (r : Vals vs us)
    (x : InCallC s s.heap.objs.size (bindL (envOfC qual scope s.heap.objs.size f cd).kindOf (ps.zip us) fun _ => none) (cellsFrom (s.heap.objs.size + 1) scope.names []) (bindC (envOfC qual scope s.heap.objs.size f cd).kindOf (ps.zip us) fun _ => none) s1) :
    Inv (cxG P w K mg base N qual scope f cd A outer s H E c pl) [] (start N vs) H s1 := by
  have e1 : Env0 P w K mg base { A with handled := none } outer s H := { frames := e0.frames, mod := e0.mod, bs := e0.bs, bsz := e0.bsz, funs := e0.funs, frf := e0.frf, hok := e0.hok, bare := e0.bare }
  have I : Inv (cxOf (L2.CX P w) P w K mg base N qual scope f cd { A with handled := none } outer s H E) [] (start N vs) H s1 := inv_start S rfl e1 hl r x
  have o := I.ok
  obtain ⟨h1, tk, rfl, hk⟩ := x.done
  refine { ok := { mod := o.mod, kind := o.kind, glob := o.glob, blt := o.blt, above := o.above, inj := o.inj, has := o.has, cab := o.cab, hd := fun z => hd z, frames := o.frames, stk := o.stk, exf := o.exf, bs := o.bs, bsz := o.bsz, noex := o.noex, exfs := o.exfs, funs := o.funs, frf := o.frf }
           os := I.os, bare := I.bare, base := I.base, loc := I.loc, cell := I.cell, free := I.free, freeC := I.freeC, pin := ?_, hok := I.hok, len := I.len }
  intro p hq
  have hq' : p ∈ pl := by simpa using (show p ∈ pl ++ ([] : Pins) from hq)
  have z := hp p hq'
  exact ⟨hk p.1 p.2 z.get, z.free, Nat.ne_of_lt (Heap.lt_size z.get), z.nofs, z.nocell⟩

/-- THE RULE of a def, its code known -/
theorem fn_goC {x : Str} {st : Stmt} {fd : FuncData} {k : Nat} {sp : Sq} (F : Fun K x qual st f fd) (S : FnScope N ps (defScope st)) (len : ∀ pl vs H Q E, sp pl vs H Q E → vs.length = ps.length)
    (body : ∀ (cdv : Value) (A : Around) (outer : List Env) (s : Shared) (H : Hp) (vs : List V) (Q : VK) (E : XK) (pl : Pins), fd.code = cdv → Rm c k (A.deeper (envOfC qual (defScope st) s.heap.objs.size f cdv)) → sp pl vs H Q E →
      ∃ t, PSs (cxG P w K mg base N qual (defScope st) f cdv A outer s H E c pl) (defBody st) t ∧ t { nx := fun _ H' => Q .non H', rt := Q } (start N vs) H) :
    FnG P w K mg base c (k + 1) f fd ps sp := by
  obtain ⟨oc, od, kV, doc, pm, an, cdv, ct, osl, rfl, lk, hcd⟩ := F.ex
  refine ⟨len, ?_⟩
  intro A outer s H args us vs Q E pl hr hp e0 hb r hsp
  have up : ∀ b o, base.get? b = some o → s.heap.get? b = some o := fun b o e => (e0.bs b o e).1
  have KX : K.In s.heap := e0.mod.kin.keeps up
  refine codeAny_call_function hr.deep (KX _ _ lk) rfl S.co S.gen rfl (PySem.W.codeRec_of KX hcd) (hb _ _ _ _ ?_)
  refine wpAny_newFunctionEnv_cells S.kind (fun y hy => ?_) fun env he s1 x => ?_
  · obtain ⟨n, v⟩ := y
    cases S.par n (List.of_mem_zip hy).1 with
    | inl q => exact Or.inl q
    | inr q => exact Or.inr ⟨q, PySem.W.cellsFrom_some _ _ _ (Or.inl q)⟩
  · subst he
    refine ⟨(e0.mod.nolimit.keeps up).keeps x.toInCall.keep, codeAny_func ?_⟩
    obtain ⟨t, ht, hq⟩ := body cdv A outer s H vs Q E pl rfl (hr.deeper _) hsp
    have I := inv_go (E := E) (c := c) (pl := pl) S hr.hd hp e0 (len _ _ _ _ _ hsp) r x
    refine wpAny_mono (ht.run [] s1 (start N vs) H _ I hq) (fun fl s' hs => ?_) (fun e s' hs => hs)
    cases fl with
    | brk => obtain ⟨_, _, _, q⟩ := hs; exact q.elim
    | cont => obtain ⟨_, _, _, q⟩ := hs; exact q.elim
    | ret u => obtain ⟨v, σ', H', J, rv, q⟩ := hs; exact ⟨v, H', J.os, J.bare, J.base, J.hok, rv, q⟩
    | next => obtain ⟨σ', H', J, q⟩ := hs; exact ⟨.non, H', J.os, J.bare, J.base, J.hok, rfl, q⟩
/-- THE RULE of a def -/
theorem fn_go {x : Str} {st : Stmt} {fd : FuncData} {k : Nat} {sp : Sq} (F : Fun K x qual st f fd) (S : FnScope N ps (defScope st)) (len : ∀ pl vs H Q E, sp pl vs H Q E → vs.length = ps.length)
    (body : ∀ (cdv : Value) (A : Around) (outer : List Env) (s : Shared) (H : Hp) (vs : List V) (Q : VK) (E : XK) (pl : Pins), Rm c k (A.deeper (envOfC qual (defScope st) s.heap.objs.size f cdv)) → sp pl vs H Q E →
      ∃ t, PSs (cxG P w K mg base N qual (defScope st) f cdv A outer s H E c pl) (defBody st) t ∧ t { nx := fun _ H' => Q .non H', rt := Q } (start N vs) H) :
    FnG P w K mg base c (k + 1) f fd ps sp := fn_goC F S len fun cdv A outer s H vs Q E pl _ hr h => body cdv A outer s H vs Q E pl hr h
end

section
variable {X : Cx} {c : Bool} {k : Nat} {f : Addr} {fd : FuncData} {ps : List Str} {sp : Sq} {E : L2.St → XK} {x : Str} {q pos : Pos} {e : Expr} {es : List Expr} {t : TA} {pl : Pins}
/-- what a call may let out -/
abbrev Lets (X : Cx) (E : L2.St → XK) : Prop := ∀ σ, PassesAt (L2.CX X.prog X.w) X σ (E σ)
theorem run_go {pins : Pins} {σ : L2.St} {H : Hp} {s : Shared} {Q : VK} {us : List Value} {vs : List V} (F : FnG X.prog X.w X.K X.mg X.base c k f fd ps sp) (hr : Rm c k X.A) (hp : ∀ p ∈ pl, p ∈ X.pn) (hb : Binds X.K fd ps []) (hx : Lets X E)
    (I : Inv X pins σ H s) (r : Vals vs us) (h : sp pl vs H Q (E σ)) : wpAny (model X.prog X.w) X.A (call (.ref f) us) (EP X pins σ Q) X.xe s := by
  have hl : (us ++ ([] : List Value)).length = ps.length := by rw [List.append_nil, ← r.length]; exact F.len _ _ _ _ _ h
  have b := hb s us I.kIn hl
  rw [List.append_nil] at b
  have pin : ∀ p ∈ pl, PinAt X.stack H s p := fun p hm => by
    have z := I.pin p (List.mem_append_left _ (hp p hm))
    refine { get := z.1, free := z.2.1, nofs := fun hf => ?_, nocell := z.2.2.2.2 }
    cases List.mem_cons.mp (I.stkSub p.1 hf) with
    | inl y => exact z.2.2.1 y
    | inr y => exact z.2.2.2.1 y
  refine wpAny_call (codeAny_mono (F.run X.A X.stack s H ⟨us, []⟩ us vs Q (E σ) pl hr pin I.env0 b r h) (fun r s' hq => ?_))
  match r, hq with
  | .error e, hq => exact hx σ pins H s e s' I hq
  | .ok (.ret u), hq => exact I.after hq
  | .ok .next, hq => exact hq.elim
  | .ok .brk, hq => exact hq.elim
  | .ok .cont, hq => exact hq.elim
/-- f(e, ..) -/
def tCallG (sp : Sq) (pl : Pins) (E : L2.St → XK) (t : TA) : TE := fun σ H Q => t σ H fun vs H1 => sp pl vs H1 Q (E σ)
theorem pe_go (F : FnG X.prog X.w X.K X.mg X.base c k f fd ps sp) (hr : Rm c k X.A) (hp : ∀ p ∈ pl, p ∈ X.pn) (hg : Gl X x) (hm : X.mg x = some (.ref f)) (hk : PySem.W.keepIn X.K (.ref f) = true) (hb : Binds X.K fd ps []) (hx : Lets X E)
    (ha : PA X (e :: es) t) (hdb : (x == ("__debug__" : Str)) = false := by decide) (he : starEach (e :: es) X.env = (false, eval e X.env) :: starEach es X.env := by rfl) (hpl : (backTo pos (starEach es X.env)).any (·.1) = false := by rfl) :
    PE X (.Call (.Name x q) (e :: es) [] pos) (tCallG sp pl E t) := by
  refine ⟨fun pins s σ H Q I h => ?_⟩
  refine wpAny_Call_Name_kw (ld_glob I hg hm ?_ hdb)
  refine PySem.W.callWith_K (h₀ := X.base) I.ok.mod.kin hk (thn (ha.run pos pins s σ H _ I h) ?_) he hpl
  intro us s1 z
  obtain ⟨vs, H1, I1, r, q⟩ := z
  exact ⟨I1.kIn, run_go F hr hp hb hx I1 r q⟩
/-- f() -/
theorem pe_go0 (F : FnG X.prog X.w X.K X.mg X.base c k f fd ps sp) (hr : Rm c k X.A) (hp : ∀ p ∈ pl, p ∈ X.pn) (hg : Gl X x) (hm : X.mg x = some (.ref f)) (hk : PySem.W.keepIn X.K (.ref f) = true) (hb : Binds X.K fd ps []) (hx : Lets X E)
    (hdb : (x == ("__debug__" : Str)) = false := by decide) : PE X (.Call (.Name x q) [] [] pos) (tCallG sp pl E tNil) := by
  refine ⟨fun pins s σ H Q I h => ?_⟩
  refine wpAny_Call_Name_kw (ld_glob I hg hm ?_ hdb)
  exact PySem.W.callWith_K0 I.kIn hk (run_go (us := []) F hr hp hb hx I .nil h)
/-- nothing is let out -/
theorem lets0 : Lets X (fun _ => E0) := fun _ pins H s e s' I z => by
  obtain ⟨_, _, _, _, _, _, _, _, _, _, _, _, q⟩ := z
  exact q.elim
end
end G

set_option Elab.async false
set_option linter.all false
set_option maxRecDepth 100000
set_option maxHeartbeats 4000000
/-! DBase: data (trees of plain values) in place of values and heaps; what a body does, told over data alone. -/
namespace G
open PySem PySem.Spec PyProof.Rows L2
/-! ### data -/
inductive D where
  | non | bl (b : Bool) | int (i : Int) | str (s : Str) | ty (n : String) | fn (a : Addr)
  | tup (l : List D) | lst (l : List D) | dic (l : List (Key × D)) | obj (C : Addr) (l : List (Str × D)) | exc (a : Addr) (dd : Option Addr) (C : Addr) (l : List (Str × D))
mutual
inductive Rp (K : PySem.W.Frag) (H : Hp) : V → D → Prop
  | non : Rp K H .non .non
  | bl (b : Bool) : Rp K H (.bl b) (.bl b)
  | int (i : Int) : Rp K H (.int i) (.int i)
  | str (s : Str) : Rp K H (.str s) (.str s)
  | ty (n : String) : Rp K H (.ty n) (.ty n)
  | fn (a : Addr) : Rp K H (.ref a) (.fn a)
  | tup {a : Addr} {xs : List V} {ds : List D} : SqT K H a xs → RpA K H xs ds → Rp K H (.ref a) (.tup ds)
  | lst {a : Addr} {xs : List V} {ds : List D} : H a = some (.lst xs) → RpA K H xs ds → Rp K H (.ref a) (.lst ds)
  | dic {a : Addr} {xs : List (Key × V)} {ds : List (Key × D)} : H a = some (.dK xs) → xs.map (·.1) = ds.map (·.1) → RpA K H (xs.map (·.2)) (ds.map (·.2)) → Rp K H (.ref a) (.dic ds)
  | obj {a C dx : Addr} {xs : List (Str × V)} {ds : List (Str × D)} : H a = some (.ins C dx xs) → xs.map (·.1) = ds.map (·.1) → RpA K H (xs.map (·.2)) (ds.map (·.2)) → Rp K H (.ref a) (.obj C ds)
  | exc {a dd C : Addr} {xs : List (Str × V)} {ds : List (Str × D)} : H dd = some (.xd xs) → xs.map (·.1) = ds.map (·.1) → RpA K H (xs.map (·.2)) (ds.map (·.2)) → Rp K H (.ref a) (.exc a (some dd) C ds)
  | exc0 (a C : Addr) : Rp K H (.ref a) (.exc a none C [])
inductive RpA (K : PySem.W.Frag) (H : Hp) : List V → List D → Prop
  | nil : RpA K H [] []
  | cons {v : V} {vs : List V} {d : D} {ds : List D} : Rp K H v d → RpA K H vs ds → RpA K H (v :: vs) (d :: ds)
end
def Ex (H H' : Hp) : Prop := ∀ a o, H a = some o → H' a = some o
theorem Ex.refl (H : Hp) : Ex H H := fun _ _ h => h
theorem Ex.trans {H H1 H2 : Hp} (a : Ex H H1) (b : Ex H1 H2) : Ex H H2 := fun x o h => b x o (a x o h)
theorem Ex.new {H : Hp} {p : Addr} {o : HO} (h : H p = none) : Ex H (upd H p o) := fun a u e => by rw [upd_ne (ne_of_none e h)]; exact e
theorem Ex.no {H H' : Hp} {p : Addr} (e : Ex H H') (h : H' p = none) : H p = none := by
  cases q : H p with
  | none => rfl
  | some o => rw [e p o q] at h; cases h
theorem Ex.up {H H' : Hp} {p : Addr} {o : HO} (e : Ex H H') : Ex (upd H p o) (upd H' p o) := fun a u h => by
  by_cases z : a = p
  · subst z; rw [upd_same] at h ⊢; exact h
  · rw [upd_ne z] at h ⊢; exact e a u h
theorem Ex.rd {H H' : Hp} {a : Addr} {u : HO} (e : Ex H H') (h : Rd H a u) : Rd H' a u := by
  cases h with
  | inl h => exact Or.inl (e _ _ h)
  | inr h => obtain ⟨o, h⟩ := h; exact Or.inr ⟨o, e _ _ h⟩
theorem Ex.sl {K : PySem.W.Frag} {H H' : Hp} {a : Addr} {xs : List V} (e : Ex H H') (h : SqL K H a xs) : SqL K H' a xs := h.elim (fun h => Or.inl (e.rd h)) Or.inr
theorem Ex.st {K : PySem.W.Frag} {H H' : Hp} {a : Addr} {xs : List V} (e : Ex H H') (h : SqT K H a xs) : SqT K H' a xs := h.elim (fun h => Or.inl (e.rd h)) Or.inr
section
variable {K : PySem.W.Frag} {H H' : Hp}
mutual
theorem Rp.up (e : Ex H H') : ∀ {v : V} {d : D}, Rp K H v d → Rp K H' v d
  | _, _, .non => .non
  | _, _, .bl b => .bl b
  | _, _, .int i => .int i
  | _, _, .str s => .str s
  | _, _, .ty n => .ty n
  | _, _, .fn a => .fn a
  | _, _, .tup h r => .tup (e.st h) (RpA.up e r)
  | _, _, .lst h r => .lst (e _ _ h) (RpA.up e r)
  | _, _, .dic h k r => .dic (e _ _ h) k (RpA.up e r)
  | _, _, .obj h k r => .obj (e _ _ h) k (RpA.up e r)
  | _, _, .exc h k r => .exc (e _ _ h) k (RpA.up e r)
  | _, _, .exc0 a C => .exc0 a C
theorem RpA.up (e : Ex H H') : ∀ {vs : List V} {ds : List D}, RpA K H vs ds → RpA K H' vs ds
  | _, _, .nil => .nil
  | _, _, .cons h r => .cons (Rp.up e h) (RpA.up e r)
end
theorem RpA.len : ∀ {vs : List V} {ds : List D}, RpA K H vs ds → vs.length = ds.length
  | _, _, .nil => rfl
  | _, _, .cons _ r => congrArg (· + 1) r.len
theorem RpA.at : ∀ {vs : List V} {ds : List D} {i : Nat} {d : D}, RpA K H vs ds → ds[i]? = some d → ∃ v, vs[i]? = some v ∧ Rp K H v d
  | _, _, _, _, .nil, h => by simp at h
  | _, _, 0, _, .cons (v := v) q _, h => by simp at h; subst h; exact ⟨v, rfl, q⟩
  | _, _, i + 1, _, .cons _ r, h => by
    obtain ⟨v, e, q⟩ := r.at (i := i) (by simpa using h)
    exact ⟨v, by simpa using e, q⟩
theorem RpA.at' : ∀ {vs : List V} {ds : List D} {i : Nat} {v : V}, RpA K H vs ds → vs[i]? = some v → ∃ d, ds[i]? = some d ∧ Rp K H v d
  | _, _, _, _, .nil, h => by simp at h
  | _, _, 0, _, .cons (d := d) q _, h => by simp at h; subst h; exact ⟨d, rfl, q⟩
  | _, _, i + 1, _, .cons _ r, h => by
    obtain ⟨v, e, q⟩ := r.at' (i := i) (by simpa using h)
    exact ⟨v, by simpa using e, q⟩
theorem RpA.app : ∀ {vs ws : List V} {ds es : List D}, RpA K H vs ds → RpA K H ws es → RpA K H (vs ++ ws) (ds ++ es)
  | _, _, _, _, .nil, r => r
  | _, _, _, _, .cons q r, s => .cons q (r.app s)
theorem RpA.ints : ∀ {ns : List Int}, RpA K H (ns.map V.int) (ns.map D.int)
  | [] => .nil
  | n :: r => .cons (.int n) RpA.ints
end

/-! ### the pen of the laws: the dict from which all is drawn -/
def PenO (K : PySem.W.Frag) (Hf : Hp) (o : HO) : Prop :=
  ∃ (c : Addr) (ns : List Int) (at' dg cn fo : Int), o = .dK [(Sum.inr "cells", .ref c), (Sum.inr "at", .int at'), (Sum.inr "digits", .int dg), (Sum.inr "count", .int cn), (Sum.inr "fold", .int fo)] ∧
    SqL K Hf c (ns.map V.int) ∧ 0 ≤ at' ∧ 0 ≤ dg ∧ dg.natAbs < 2 ^ 1048577 ∧ 0 ≤ fo ∧ fo < 2 ^ 31 ∧ (∀ n ∈ ns, Builtin.Int.intBits n ≤ 1048576)
theorem PenO.up {K : PySem.W.Frag} {H H' : Hp} {o : HO} (e : Ex H H') (h : PenO K H o) : PenO K H' o := by
  obtain ⟨c, ns, a, d, n, f, q, s, r⟩ := h
  exact ⟨c, ns, a, d, n, f, q, e.sl s, r⟩

/-! ### what stands ahead of a body: B what may not be touched, F what may be read for good, M the pens -/
structure Bs where
  B : Hp
  F : Hp
  M : List Addr
  T : List (Addr × Str)
/-- what may change under a body: pens, tables of code -/
def Bs.mt (b : Bs) (a : Addr) : Prop := a ∈ b.M ∨ a ∈ b.T.map (·.1)
theorem Bs.mtM {b : Bs} {a : Addr} (h : a ∈ b.M) : b.mt a := Or.inl h
theorem Bs.mtT {b : Bs} {p : Addr × Str} (h : p ∈ b.T) : b.mt p.1 := Or.inr (List.mem_map.mpr ⟨p, h, rfl⟩)
theorem Bs.mt0 {B F : Hp} {M : List Addr} {a : Addr} (h : a ∉ M) : ¬ (Bs.mt ⟨B, F, M, []⟩ a) := fun z => z.elim h (fun z => by cases z)
/-- the table at P: what it tells are known code objects of the name q -/
def TabOk (Hf H : Hp) (P : Addr) (q : Str) : Prop := ∃ ps : Array Value, H P = some (.tbl ps) ∧ TriplesOk ps.toList ∧ ∀ (pos : Pos) (cv : Value), codeAmong pos ps.toList = some cv → ∃ c, cv = .ref c ∧ Hf c = some (LamX.CodeO c q)
theorem TabOk.up {Hf H Hf' H' : Hp} {P : Addr} {q : Str} (t : TabOk Hf H P q) (e : Ex Hf Hf') (h : H' P = H P) : TabOk Hf' H' P q := by
  obtain ⟨ps, h1, h2, h3⟩ := t
  refine ⟨ps, h.trans h1, h2, fun pos cv hc => ?_⟩
  obtain ⟨c, e1, e2⟩ := h3 pos cv hc
  exact ⟨c, e1, e _ _ e2⟩
theorem TabOk.ne {Hf H : Hp} {P p : Addr} {q : Str} (t : TabOk Hf H P q) (h : H p = none ∨ ∃ xs, H p = some (.lst xs)) : P ≠ p := fun z => by
  obtain ⟨ps, h1, _⟩ := t
  rw [z] at h1
  rcases h with h | ⟨xs, h⟩
  · rw [h] at h1; cases h1
  · rw [h] at h1; cases h1
structure Exit (K : PySem.W.Frag) (b : Bs) (Hf H : Hp) : Prop where
  exF : Ex Hf H
  ex0 : Ex b.F Hf
  exB : Ex b.B H
  frz : ∀ a, b.B a ≠ none → b.F a = none → Hf a = none
  pens : ∀ p ∈ b.M, Hf p = none ∧ b.B p = none ∧ ∃ o, H p = some o ∧ PenO K Hf o
  tabs : ∀ p ∈ b.T, Hf p.1 = none ∧ b.B p.1 = none ∧ p.1 ∉ b.M ∧ TabOk Hf H p.1 p.2
/-- what a slot holds: nothing told | data, shared | a list of one's own | the pen -/
inductive Sl where
  | no | sh (d : D) | ow (ds : List D) | pen
def SlOk (K : PySem.W.Frag) (M : List Addr) (Hf H : Hp) : Option V → Sl → Prop
  | _, .no => True
  | some v, .sh d => Rp K Hf v d
  | some v, .ow ds => ∃ a xs, v = .ref a ∧ Hf a = none ∧ H a = some (.lst xs) ∧ RpA K Hf xs ds ∧ a ∉ M
  | some v, .pen => ∃ p ∈ M, v = .ref p
  | none, _ => False
def Own (σ : L2.St) (ρ : List Sl) (i : Nat) (a : Addr) : Prop := (∃ ds, ρ[i]? = some (.ow ds)) ∧ σ[i]? = some (some (.ref a))
structure Fm (K : PySem.W.Frag) (b : Bs) (Hf H : Hp) (σ : L2.St) (ρ : List Sl) : Prop where
  ex : Exit K b Hf H
  len : σ.length = ρ.length
  sl : ∀ (i : Nat) (o : Option V) (s : Sl), σ[i]? = some o → ρ[i]? = some s → SlOk K b.M Hf H o s
  mine : ∀ i a, Own σ ρ i a → b.B a = none
  sep : ∀ i j a, Own σ ρ i a → Own σ ρ j a → i = j

section
variable {K : PySem.W.Frag} {b : Bs} {Hf H Hf' H' : Hp} {σ : L2.St} {ρ : List Sl}
/-- nothing of one's own is touched -/
theorem Fm.step (fr : Fm K b Hf H σ ρ) (x : Exit K b Hf' H') (e : Ex Hf Hf') (k : ∀ a xs, H a = some (.lst xs) → Hf a = none → b.B a = none → a ∉ b.M → Hf' a = none ∧ H' a = some (.lst xs)) : Fm K b Hf' H' σ ρ := by
  refine { ex := x, len := fr.len, sl := fun i o s h1 h2 => ?_, mine := fr.mine, sep := fr.sep }
  have q := fr.sl i o s h1 h2
  match o, s, q with
  | _, .no, _ => trivial
  | some v, .sh d, q => exact Rp.up e q
  | some v, .pen, q => exact q
  | some v, .ow ds, q =>
    obtain ⟨a, xs, rfl, h3, h4, r, nm⟩ := q
    obtain ⟨z1, z2⟩ := k a xs h4 h3 (fr.mine i a ⟨⟨ds, h2⟩, h1⟩) nm
    exact ⟨a, xs, rfl, z1, z2, RpA.up e r, nm⟩
theorem Exit.put (x : Exit K b Hf H) {p : Addr} {o : HO} (hp : H p = none) : Exit K b (upd Hf p o) (upd H p o) := by
  have np := x.exF.no hp
  have nb := x.exB.no hp
  refine { exF := x.exF.up, ex0 := x.ex0.trans (Ex.new np), exB := x.exB.trans (Ex.new hp), frz := fun a h1 h2 => ?_, pens := fun q hq => ?_, tabs := fun q hq => ?_ }
  · rw [upd_ne (fun z => h1 (by rw [z]; exact nb))]
    exact x.frz a h1 h2
  · obtain ⟨h1, h2, ob, h3, h4⟩ := x.pens q hq
    have n : q ≠ p := ne_of_none h3 hp
    exact ⟨by rw [upd_ne n]; exact h1, h2, ob, by rw [upd_ne n]; exact h3, h4.up (Ex.new np)⟩
  · obtain ⟨h1, h2, h3, h4⟩ := x.tabs q hq
    have n := h4.ne (Or.inl hp)
    exact ⟨by rw [upd_ne n]; exact h1, h2, h3, h4.up (Ex.new np) (upd_ne n)⟩
/-- a new object is laid -/
theorem Fm.put (fr : Fm K b Hf H σ ρ) {p : Addr} {o : HO} (hp : H p = none) : Fm K b (upd Hf p o) (upd H p o) σ ρ :=
  fr.step (fr.ex.put hp) (Ex.new (fr.ex.exF.no hp)) fun a xs h1 h2 _ _ => by
    have n : a ≠ p := ne_of_none h1 hp
    rw [upd_ne n, upd_ne n]
    exact ⟨h2, h1⟩
/-- a slot is set to shared data -/
theorem Fm.set (fr : Fm K b Hf H σ ρ) {i : Nat} {v : V} {d : D} (r : Rp K Hf v d) : Fm K b Hf H (σ.set i (some v)) (ρ.set i (.sh d)) := by
  have own : ∀ j a, Own (σ.set i (some v)) (ρ.set i (.sh d)) j a → Own σ ρ j a := fun j a ⟨⟨ds, h1⟩, h2⟩ => by
    by_cases z : j = i
    · subst z
      rw [List.getElem?_set] at h1
      simp at h1
    · rw [List.getElem?_set_ne (Ne.symm z)] at h1 h2
      exact ⟨⟨ds, h1⟩, h2⟩
  refine { ex := fr.ex, len := by rw [List.length_set, List.length_set]; exact fr.len, sl := fun j o s h1 h2 => ?_, mine := fun j a h => fr.mine j a (own j a h), sep := fun j k a h1 h2 => fr.sep j k a (own j a h1) (own k a h2) }
  by_cases z : j = i
  · subst z
    rw [List.getElem?_set] at h1 h2
    simp at h1 h2
    obtain ⟨_, rfl⟩ := h1
    obtain ⟨_, rfl⟩ := h2
    exact r
  · rw [List.getElem?_set_ne (Ne.symm z)] at h1 h2
    exact fr.sl j o s h1 h2
/-- a slot is forgotten -/
theorem Fm.drop (fr : Fm K b Hf H σ ρ) {i : Nat} {o' : Option V} : Fm K b Hf H (σ.set i o') (ρ.set i .no) := by
  have own : ∀ j a, Own (σ.set i o') (ρ.set i .no) j a → Own σ ρ j a := fun j a ⟨⟨ds, h1⟩, h2⟩ => by
    by_cases z : j = i
    · subst z
      rw [List.getElem?_set] at h1
      simp at h1
    · rw [List.getElem?_set_ne (Ne.symm z)] at h1 h2
      exact ⟨⟨ds, h1⟩, h2⟩
  refine { ex := fr.ex, len := by rw [List.length_set, List.length_set]; exact fr.len, sl := fun j o s h1 h2 => ?_, mine := fun j a h => fr.mine j a (own j a h), sep := fun j k a h1 h2 => fr.sep j k a (own j a h1) (own k a h2) }
  by_cases z : j = i
  · subst z
    rw [List.getElem?_set] at h2
    simp at h2
    obtain ⟨_, rfl⟩ := h2
    match o with
    | none => trivial
    | some _ => trivial
  · rw [List.getElem?_set_ne (Ne.symm z)] at h1 h2
    exact fr.sl j o s h1 h2
/-- a new list becomes one's own -/
theorem Fm.own (fr : Fm K b Hf H σ ρ) {i : Nat} {p : Addr} {xs : List V} {ds : List D} (hp : H p = none) (r : RpA K Hf xs ds) : Fm K b Hf (upd H p (.lst xs)) (σ.set i (some (.ref p))) (ρ.set i (.ow ds)) := by
  have np := fr.ex.exF.no hp
  have nm : p ∉ b.M := fun z => by
    obtain ⟨_, _, o, h3, _⟩ := fr.ex.pens p z
    rw [hp] at h3; cases h3
  have old : ∀ j a, j ≠ i → Own (σ.set i (some (.ref p))) (ρ.set i (.ow ds)) j a → Own σ ρ j a ∧ a ≠ p := fun j a z ⟨⟨es, h1⟩, h2⟩ => by
    rw [List.getElem?_set_ne (Ne.symm z)] at h1 h2
    refine ⟨⟨⟨es, h1⟩, h2⟩, fun e => ?_⟩
    obtain ⟨a', ys, e1, _, h3, _⟩ := fr.sl j _ _ h2 h1
    cases e1
    rw [e, hp] at h3; cases h3
  have at_i : ∀ a, Own (σ.set i (some (.ref p))) (ρ.set i (.ow ds)) i a → a = p := fun a ⟨_, h2⟩ => by
    rw [List.getElem?_set] at h2
    simp at h2
    exact h2.2.symm
  refine { ex := ?_, len := by rw [List.length_set, List.length_set]; exact fr.len, sl := fun j o s h1 h2 => ?_, mine := fun j a h => ?_, sep := fun j k a h1 h2 => ?_ }
  · refine { exF := fr.ex.exF.trans (Ex.new hp), ex0 := fr.ex.ex0, exB := fr.ex.exB.trans (Ex.new hp), frz := fr.ex.frz, pens := fun q hq => ?_, tabs := fun q hq => ?_ }
    · obtain ⟨h1, h2, ob, h3, h4⟩ := fr.ex.pens q hq
      exact ⟨h1, h2, ob, by rw [upd_ne (ne_of_none h3 hp)]; exact h3, h4⟩
    · obtain ⟨h1, h2, h3, h4⟩ := fr.ex.tabs q hq
      exact ⟨h1, h2, h3, h4.up (Ex.refl _) (upd_ne (h4.ne (Or.inl hp)))⟩
  · by_cases z : j = i
    · subst z
      rw [List.getElem?_set] at h1 h2
      simp at h1 h2
      obtain ⟨_, rfl⟩ := h1
      obtain ⟨_, rfl⟩ := h2
      exact ⟨p, xs, rfl, np, upd_same, r, nm⟩
    · rw [List.getElem?_set_ne (Ne.symm z)] at h1 h2
      have q := fr.sl j o s h1 h2
      match o, s, q with
      | none, .no, _ => trivial
      | some _, .no, _ => trivial
      | some v, .sh d, q => exact q
      | some v, .pen, q => exact q
      | some v, .ow es, q =>
        obtain ⟨a, ys, rfl, h3, h4, r', nm'⟩ := q
        exact ⟨a, ys, rfl, h3, by rw [upd_ne (ne_of_none h4 hp)]; exact h4, r', nm'⟩
  · by_cases z : j = i
    · subst z
      rw [at_i a h]
      exact fr.ex.exB.no hp
    · exact fr.mine j a (old j a z h).1
  · by_cases z : j = i
    · by_cases y : k = i
      · rw [z, y]
      · subst z
        exact ((old k a y h2).2 (at_i a h1)).elim
    · by_cases y : k = i
      · subst y
        exact ((old j a z h1).2 (at_i a h2)).elim
      · exact fr.sep j k a (old j a z h1).1 (old k a y h2).1
/-- one's own list is changed -/
theorem Fm.chg (fr : Fm K b Hf H σ ρ) {i : Nat} {p : Addr} {xs : List V} {ds es : List D} (hi : ρ[i]? = some (.ow ds)) (hs : σ[i]? = some (some (.ref p))) (r : RpA K Hf xs es) : Fm K b Hf (upd H p (.lst xs)) σ (ρ.set i (.ow es)) := by
  obtain ⟨p', ys, e0, np, hp, _, nm⟩ := fr.sl i _ _ hs hi
  cases e0
  have nb := fr.mine i p ⟨⟨ds, hi⟩, hs⟩
  have own : ∀ j a, Own σ (ρ.set i (.ow es)) j a → Own σ ρ j a := fun j a ⟨⟨fs, h1⟩, h2⟩ => by
    by_cases z : j = i
    · subst z
      exact ⟨⟨ds, hi⟩, h2⟩
    · rw [List.getElem?_set_ne (Ne.symm z)] at h1
      exact ⟨⟨fs, h1⟩, h2⟩
  refine { ex := ?_, len := by rw [List.length_set]; exact fr.len, sl := fun j o s h1 h2 => ?_, mine := fun j a h => fr.mine j a (own j a h), sep := fun j k a h1 h2 => fr.sep j k a (own j a h1) (own k a h2) }
  · refine { exF := fun a o e => ?_, ex0 := fr.ex.ex0, exB := fun a o e => ?_, frz := fr.ex.frz, pens := fun q hq => ?_, tabs := fun q hq => ?_ }
    · rw [upd_ne (ne_of_none e np)]; exact fr.ex.exF a o e
    · rw [upd_ne (ne_of_none e nb)]; exact fr.ex.exB a o e
    · obtain ⟨h1, h2, ob, h3, h4⟩ := fr.ex.pens q hq
      exact ⟨h1, h2, ob, by rw [upd_ne (fun z => nm (by rw [← z]; exact hq))]; exact h3, h4⟩
    · obtain ⟨h1, h2, h3, h4⟩ := fr.ex.tabs q hq
      exact ⟨h1, h2, h3, h4.up (Ex.refl _) (upd_ne (h4.ne (Or.inr ⟨_, hp⟩)))⟩
  · by_cases z : j = i
    · subst z
      rw [h1] at hs
      cases hs
      rw [List.getElem?_set] at h2
      simp at h2
      obtain ⟨_, rfl⟩ := h2
      exact ⟨p, xs, rfl, np, upd_same, r, nm⟩
    · rw [List.getElem?_set_ne (Ne.symm z)] at h2
      have q := fr.sl j o s h1 h2
      match o, s, q, h1, h2 with
      | none, .no, _, _, _ => trivial
      | some _, .no, _, _, _ => trivial
      | some v, .sh d, q, _, _ => exact q
      | some v, .pen, q, _, _ => exact q
      | some v, .ow fs, q, h1, h2 =>
        obtain ⟨a, zs, rfl, h3, h4, r', nm'⟩ := q
        have n : a ≠ p := fun e => z (fr.sep j i a ⟨⟨fs, h2⟩, h1⟩ ⟨⟨ds, hi⟩, by rw [e]; exact hs⟩)
        exact ⟨a, zs, rfl, h3, by rw [upd_ne n]; exact h4, r', nm'⟩
/-- one's own list is shared from now on -/
theorem Fm.share (fr : Fm K b Hf H σ ρ) {i : Nat} {ds : List D} (hi : ρ[i]? = some (.ow ds)) : ∃ Hf', Ex Hf Hf' ∧ Fm K b Hf' H σ (ρ.set i (.sh (.lst ds))) := by
  have hl : i < σ.length := by rw [fr.len]; exact (List.getElem?_eq_some_iff.mp hi).1
  obtain ⟨o, ho⟩ : ∃ o, σ[i]? = some o := ⟨_, List.getElem?_eq_getElem hl⟩
  have q := fr.sl i o _ ho hi
  match o, q, ho with
  | none, q, _ => exact q.elim
  | some v, q, ho =>
    obtain ⟨p, xs, rfl, np, hp, r, nm⟩ := q
    have e := Ex.new (o := .lst xs) np
    have nb := fr.mine i p ⟨⟨ds, hi⟩, ho⟩
    have own : ∀ j a, Own σ (ρ.set i (.sh (.lst ds))) j a → Own σ ρ j a ∧ j ≠ i := fun j a ⟨⟨fs, h1⟩, h2⟩ => by
      by_cases z : j = i
      · subst z
        rw [List.getElem?_set] at h1
        simp at h1
      · rw [List.getElem?_set_ne (Ne.symm z)] at h1
        exact ⟨⟨⟨fs, h1⟩, h2⟩, z⟩
    refine ⟨upd Hf p (.lst xs), e, { ex := ?_, len := by rw [List.length_set]; exact fr.len, sl := fun j o s h1 h2 => ?_, mine := fun j a h => fr.mine j a (own j a h).1, sep := fun j k a h1 h2 => fr.sep j k a (own j a h1).1 (own k a h2).1 }⟩
    · refine { exF := fun a o h => ?_, ex0 := fr.ex.ex0.trans e, exB := fr.ex.exB, frz := fun a h1 h2 => ?_, pens := fun q hq => ?_, tabs := fun q hq => ?_ }
      · by_cases z : a = p
        · subst z; rw [upd_same] at h; cases h; exact hp
        · rw [upd_ne z] at h; exact fr.ex.exF a o h
      · rw [upd_ne (fun z => h1 (by rw [z]; exact nb))]; exact fr.ex.frz a h1 h2
      · obtain ⟨h1, h2, ob, h3, h4⟩ := fr.ex.pens q hq
        exact ⟨by rw [upd_ne (fun z => nm (by rw [← z]; exact hq))]; exact h1, h2, ob, h3, h4.up e⟩
      · obtain ⟨h1, h2, h3, h4⟩ := fr.ex.tabs q hq
        exact ⟨by rw [upd_ne (h4.ne (Or.inr ⟨_, hp⟩))]; exact h1, h2, h3, h4.up e rfl⟩
    · by_cases z : j = i
      · subst z
        rw [ho] at h1
        cases h1
        rw [List.getElem?_set] at h2
        simp at h2
        obtain ⟨_, rfl⟩ := h2
        exact Rp.lst upd_same (RpA.up e r)
      · rw [List.getElem?_set_ne (Ne.symm z)] at h2
        have q := fr.sl j o s h1 h2
        match o, s, q, h1, h2 with
        | none, .no, _, _, _ => trivial
        | some _, .no, _, _, _ => trivial
        | some v, .sh d, q, _, _ => exact Rp.up e q
        | some v, .pen, q, _, _ => exact q
        | some v, .ow fs, q, h1, h2 =>
          obtain ⟨a, zs, rfl, h3, h4, r', nm'⟩ := q
          have n : a ≠ p := fun y => z (fr.sep j i a ⟨⟨fs, h2⟩, h1⟩ ⟨⟨ds, hi⟩, by rw [y]; exact ho⟩)
          exact ⟨a, zs, rfl, by rw [upd_ne n]; exact h3, h4, RpA.up e r', nm'⟩
end
end G

set_option Elab.async false
set_option linter.all false
set_option maxRecDepth 100000
set_option maxHeartbeats 4000000
/-! DRules: readings over data: expressions (DE), arguments (DA, DC), tests (DT), statements (DS). -/
namespace G
open PySem PySem.Spec PyProof.Rows L2
/-! ### data as plain data of the library -/
def keyPy : Key → PyData
  | .inl i => .int i
  | .inr x => .str x
mutual
def D.py : D → PyData
  | .non => .none
  | .bl b => .bool b
  | .int i => .int i
  | .str s => .str s
  | .ty _ => .none
  | .fn _ => .none
  | .tup l => .tuple (D.pyL l)
  | .lst l => .list (D.pyL l)
  | .dic l => .dict (D.pyK l)
  | .obj _ _ => .none
  | .exc _ _ _ _ => .none
def D.pyL : List D → List PyData
  | [] => []
  | d :: r => d.py :: D.pyL r
def D.pyK : List (Key × D) → List (PyData × PyData)
  | [] => []
  | (k, d) :: r => (keyPy k, d.py) :: D.pyK r
end
/-! plain: no classes, defs, objects -/
mutual
def D.pl : D → Bool
  | .non => true
  | .bl _ => true
  | .int _ => true
  | .str _ => true
  | .ty _ => false
  | .fn _ => false
  | .tup l => D.plL l
  | .lst l => D.plL l
  | .dic l => D.plK l
  | .obj _ _ => false
  | .exc _ _ _ _ => false
def D.plL : List D → Bool
  | [] => true
  | d :: r => d.pl && D.plL r
def D.plK : List (Key × D) → Bool
  | [] => true
  | (_, d) :: r => d.pl && D.plK r
end
/-! no dict within -/
mutual
def D.nd : D → Bool
  | .tup l => D.ndL l
  | .lst l => D.ndL l
  | .dic _ => false
  | _ => true
def D.ndL : List D → Bool
  | [] => true
  | d :: r => d.nd && D.ndL r
end
section
variable {K : PySem.W.Frag} {H : Hp}
mutual
theorem Rp.dp : ∀ {v : V} {d : D}, Rp K H v d → d.pl = true → d.nd = true → Dp K H v d.py
  | _, .non, .non, _, _ => Dp.non
  | _, .bl b, .bl _, _, _ => Dp.bl b
  | _, .int i, .int _, _, _ => Dp.int i
  | _, .str s, .str _, _, _ => Dp.str s
  | _, .ty _, _, h, _ => by simp [D.pl] at h
  | _, .fn _, _, h, _ => by simp [D.pl] at h
  | _, .tup l, .tup h r, hp, hn => by
    simp only [D.py]
    exact Dp.tup h (RpA.dp r (by simpa [D.pl] using hp) (by simpa [D.nd] using hn))
  | _, .lst l, .lst h r, hp, hn => by
    simp only [D.py]
    exact Dp.lst (SqL.of h) (RpA.dp r (by simpa [D.pl] using hp) (by simpa [D.nd] using hn))
  | _, .dic _, _, _, h => by simp [D.nd] at h
  | _, .obj _ _, _, h, _ => by simp [D.pl] at h
  | _, .exc _ _ _ _, _, h, _ => by simp [D.pl] at h
theorem RpA.dp : ∀ {vs : List V} {ds : List D}, RpA K H vs ds → D.plL ds = true → D.ndL ds = true → DpAll K H vs (D.pyL ds)
  | _, [], .nil, _, _ => by simp only [D.pyL]; exact DpAll.nil
  | _, d :: r, .cons q t, hp, hn => by
    simp only [D.plL, Bool.and_eq_true] at hp
    simp only [D.ndL, Bool.and_eq_true] at hn
    simp only [D.pyL]
    exact DpAll.cons (Rp.dp q hp.1 hn.1) (RpA.dp t hp.2 hn.2)
end
theorem Rp.int_inv {v : V} {i : Int} (h : Rp K H v (.int i)) : v = .int i := by cases h; rfl
theorem Rp.bl_inv {v : V} {i : Bool} (h : Rp K H v (.bl i)) : v = .bl i := by cases h; rfl
theorem Rp.str_inv {v : V} {i : Str} (h : Rp K H v (.str i)) : v = .str i := by cases h; rfl
theorem Rp.non_inv {v : V} (h : Rp K H v .non) : v = .non := by cases h; rfl
end

/-! ### readings over data -/
/-- nothing but the pens is changed -/
def Up (b : Bs) (Hf H Hf' H' : Hp) : Prop := Ex Hf Hf' ∧ ∀ a o, H a = some o → ¬ b.mt a → H' a = some o ∧ (Hf a = none → Hf' a = none)
theorem Up.refl {b : Bs} {Hf H : Hp} : Up b Hf H Hf H := ⟨Ex.refl _, fun _ _ h _ => ⟨h, fun z => z⟩⟩
theorem Up.trans {b : Bs} {Hf H Hf1 H1 Hf2 H2 : Hp} (x : Up b Hf H Hf1 H1) (y : Up b Hf1 H1 Hf2 H2) : Up b Hf H Hf2 H2 := ⟨x.1.trans y.1, fun a o h n => by
  obtain ⟨h1, h2⟩ := x.2 a o h n
  obtain ⟨h3, h4⟩ := y.2 a o h1 n
  exact ⟨h3, fun z => h4 (h2 z)⟩⟩
theorem Up.new {b : Bs} {Hf H : Hp} {p : Addr} {o : HO} (hp : H p = none) (hf : Hf p = none) : Up b Hf H (upd Hf p o) (upd H p o) := ⟨Ex.new hf, fun a u h _ => by
  have n := ne_of_none h hp
  rw [upd_ne n, upd_ne n]
  exact ⟨h, fun z => z⟩⟩
def DE (K : PySem.W.Frag) (b : Bs) (ρ : List Sl) (t : TE) (Q : D → Prop) : Prop := ∀ (Hf H : Hp) (σ : L2.St) (k : VK), Fm K b Hf H σ ρ →
  (∀ v d Hf' H', Up b Hf H Hf' H' → Fm K b Hf' H' σ ρ → Rp K Hf' v d → Q d → k v H') → t σ H k
/-- a new list, not shared yet -/
def DN (K : PySem.W.Frag) (b : Bs) (ρ : List Sl) (t : TE) (Q : List D → Prop) : Prop := ∀ (Hf H : Hp) (σ : L2.St) (k : VK), Fm K b Hf H σ ρ →
  (∀ p xs ds Hf' H', Up b Hf H Hf' H' → Fm K b Hf' H' σ ρ → H' p = none → RpA K Hf' xs ds → Q ds → k (.ref p) (upd H' p (.lst xs))) → t σ H k
def DT (K : PySem.W.Frag) (b : Bs) (ρ : List Sl) (t : TT) (Q : Bool → Prop) : Prop := ∀ (Hf H : Hp) (σ : L2.St) (k : Bool → Hp → Prop), Fm K b Hf H σ ρ →
  (∀ c Hf' H', Up b Hf H Hf' H' → Fm K b Hf' H' σ ρ → Q c → k c H') → t σ H k
def DA (K : PySem.W.Frag) (b : Bs) (ρ : List Sl) (t : TA) (Q : List D → Prop) : Prop := ∀ (Hf H : Hp) (σ : L2.St) (k : List V → Hp → Prop), Fm K b Hf H σ ρ →
  (∀ vs ds Hf' H', Up b Hf H Hf' H' → Fm K b Hf' H' σ ρ → RpA K Hf' vs ds → Q ds → k vs H') → t σ H k
/-- arguments of a def: data, or the pen -/
def ArgOk (K : PySem.W.Frag) (M : List Addr) (Hf : Hp) : V → Sl → Prop
  | v, .sh d => Rp K Hf v d
  | v, .pen => ∃ p ∈ M, v = .ref p
  | _, _ => False
theorem ArgOk.up {K : PySem.W.Frag} {M : List Addr} {Hf Hf' : Hp} {v : V} {s : Sl} (e : Ex Hf Hf') (h : ArgOk K M Hf v s) : ArgOk K M Hf' v s := by
  match s, h with
  | .sh d, h => exact Rp.up e h
  | .pen, h => exact h
def DC (K : PySem.W.Frag) (b : Bs) (ρ : List Sl) (t : TA) (Q : List Sl → Prop) : Prop := ∀ (Hf H : Hp) (σ : L2.St) (k : List V → Hp → Prop), Fm K b Hf H σ ρ →
  (∀ vs ss Hf' H', Up b Hf H Hf' H' → Fm K b Hf' H' σ ρ → Paired (ArgOk K b.M Hf') vs ss → Q ss → k vs H') → t σ H k
def DS (K : PySem.W.Frag) (b : Bs) (ρ : List Sl) (t : TS) (nx : List Sl → Prop) (rt : D → Prop) (bk ct : List Sl → Prop) : Prop := ∀ (Hf H : Hp) (σ : L2.St) (D : Ends), Fm K b Hf H σ ρ →
  (∀ ρ' σ' Hf' H', Ex Hf Hf' → Fm K b Hf' H' σ' ρ' → nx ρ' → D.nx σ' H') → (∀ v d Hf' H', Ex Hf Hf' → Exit K b Hf' H' → Rp K Hf' v d → rt d → D.rt v H') →
  (∀ ρ' σ' Hf' H', Ex Hf Hf' → Fm K b Hf' H' σ' ρ' → bk ρ' → D.bk σ' H') → (∀ ρ' σ' Hf' H', Ex Hf Hf' → Fm K b Hf' H' σ' ρ' → ct ρ' → D.ct σ' H') → t D σ H

/-- the fields of an error, at its own dict (none: it has none) -/
def ExD (K : PySem.W.Frag) (Hf : Hp) : Option Addr → List (Str × D) → Prop
  | some dx, fs => ∃ fv, Hf dx = some (.xd fv) ∧ fv.map (·.1) = fs.map (·.1) ∧ RpA K Hf (fv.map (·.2)) (fs.map (·.2))
  | none, fs => fs = []
theorem ExD.up {K : PySem.W.Frag} {Hf Hf' : Hp} {d : Option Addr} {fs : List (Str × D)} (e : Ex Hf Hf') (h : ExD K Hf d fs) : ExD K Hf' d fs := by
  match d, h with
  | none, h => exact h
  | some dx, h =>
    obtain ⟨fv, h1, h2, h3⟩ := h
    exact ⟨fv, e _ _ h1, h2, h3.up e⟩
theorem ExD.rp {K : PySem.W.Frag} {Hf : Hp} {d : Option Addr} {fs : List (Str × D)} (a C : Addr) (h : ExD K Hf d fs) : Rp K Hf (.ref a) (.exc a d C fs) := by
  match d, h with
  | none, h =>
    have h' : fs = [] := h
    subst h'
    exact .exc0 a C
  | some dx, h =>
    obtain ⟨fv, h1, h2, h3⟩ := h
    exact .exc h1 h2 h3
/-- what a def over data promises: F tells, for arguments, what is enough that the result is as wished (R), an exception too (X: its class, its fields) -/
abbrev DF := List Sl → (D → Prop) → (Addr → List (Str × D) → Prop) → Prop
def spD (K : PySem.W.Frag) (F : DF) : Sp := fun vs H Q E => ∃ (Hf : Hp) (M : List Addr) (ss : List Sl) (R : D → Prop) (X : Addr → List (Str × D) → Prop),
  Ex Hf H ∧ (∀ p ∈ M, Hf p = none ∧ ∃ o, H p = some o ∧ PenO K Hf o) ∧ Paired (ArgOk K M Hf) vs ss ∧ F ss R X ∧
  (∀ v d Hf' H', Exit K ⟨fun a => if a ∈ M then none else H a, Hf, M, []⟩ Hf' H' → Rp K Hf' v d → R d → Q v H') ∧
  (∀ C fs d Hf' H', Exit K ⟨fun a => if a ∈ M then none else H a, Hf, M, []⟩ Hf' H' → ExD K Hf' d fs → X C fs → E (.ref C) d H')
/-- exceptions as told over data reach the wish E -/
def EL (K : PySem.W.Frag) (b : Bs) (ρ : List Sl) (E : L2.St → XK) (X : Addr → List (Str × D) → Prop) : Prop := ∀ (Hf H : Hp) (σ : L2.St), Fm K b Hf H σ ρ →
  ∀ C fs d, ExD K Hf d fs → X C fs → E σ (.ref C) d H
theorem EL.no {K : PySem.W.Frag} {b : Bs} {ρ : List Sl} {E : L2.St → XK} : EL K b ρ E (fun _ _ => False) := fun _ _ _ _ _ _ _ _ z => False.elim z

section
variable {K : PySem.W.Frag} {b : Bs} {ρ : List Sl} {ta tb te : TE} {tt tu : TT} {tr : TA} {Q : D → Prop}
theorem DE.imp {Q' : D → Prop} (h : DE K b ρ te Q) (i : ∀ d, Q d → Q' d) : DE K b ρ te Q' := fun Hf H σ k fr q => h Hf H σ k fr fun v d Hf' H' e f r z => q v d Hf' H' e f r (i d z)
theorem DT.imp {R R' : Bool → Prop} (h : DT K b ρ tt R) (i : ∀ c, R c → R' c) : DT K b ρ tt R' := fun Hf H σ k fr q => h Hf H σ k fr fun c Hf' H' e f z => q c Hf' H' e f (i c z)
/-! names and constants -/
theorem de_var {i : Nat} {d : D} (h : ρ[i]? = some (.sh d)) (q : Q d) : DE K b ρ (tVar i) Q := fun Hf H σ k fr c => by
  have hl : i < σ.length := by rw [fr.len]; exact (List.getElem?_eq_some_iff.mp h).1
  have ho : σ[i]? = some σ[i] := List.getElem?_eq_getElem hl
  have z := fr.sl i _ _ ho h
  generalize σ[i] = o at ho z
  match o, z with
  | none, z => exact z.elim
  | some v, z => exact ⟨v, ho, c v d Hf H Up.refl fr z q⟩
theorem de_int {i : Int} (q : Q (.int i)) : DE K b ρ (tC (.int i)) Q := fun Hf H σ k fr c => c _ _ Hf H Up.refl fr (.int i) q
theorem de_bl {i : Bool} (q : Q (.bl i)) : DE K b ρ (tC (.bl i)) Q := fun Hf H σ k fr c => c _ _ Hf H Up.refl fr (.bl i) q
theorem de_str {i : Str} (q : Q (.str i)) : DE K b ρ (tC (.str i)) Q := fun Hf H σ k fr c => c _ _ Hf H Up.refl fr (.str i) q
theorem de_non (q : Q .non) : DE K b ρ (tC .non) Q := fun Hf H σ k fr c => c _ _ Hf H Up.refl fr .non q
theorem de_ty {n : String} (q : Q (.ty n)) : DE K b ρ (tC (.ty n)) Q := fun Hf H σ k fr c => c _ _ Hf H Up.refl fr (.ty n) q
theorem de_fn {a : Addr} (q : Q (.fn a)) : DE K b ρ (tC (.ref a)) Q := fun Hf H σ k fr c => c _ _ Hf H Up.refl fr (.fn a) q
/-! operators: what the rule asks of the values is told by data -/
theorem de_op {r : R2} (h : DE K b ρ ta fun x => DE K b ρ tb fun y => ∀ (Hf H : Hp) (σ : L2.St) (k : VK) (v u : V), Fm K b Hf H σ ρ → Rp K Hf v x → Rp K Hf u y →
    (∀ w d Hf' H', Up b Hf H Hf' H' → Fm K b Hf' H' σ ρ → Rp K Hf' w d → Q d → k w H') → r v u H k) : DE K b ρ (tOp r ta tb) Q := fun Hf H σ k fr c => by
  refine h Hf H σ _ fr fun v x Hf1 H1 e1 f1 r1 q1 => ?_
  refine q1 Hf1 H1 σ _ f1 fun u y Hf2 H2 e2 f2 r2 q2 => ?_
  exact q2 Hf2 H2 σ k v u f2 (r1.up e2.1) r2 fun w d Hf' H' e f r q => c w d Hf' H' ((e1.trans e2).trans e) f r q
theorem de_II {C : Int → Int → Prop} {g : Int → Int → Int} (h : DE K b ρ ta fun x => DE K b ρ tb fun y => ∃ i j, x = .int i ∧ y = .int j ∧ C i j ∧ Q (.int (g i j))) : DE K b ρ (tOp (rI C fun i j => .int (g i j)) ta tb) Q :=
  de_op (h.imp fun x hx => hx.imp fun y ⟨i, j, e1, e2, hc, q⟩ Hf H σ k v u f rv ru c => by
    subst e1; subst e2
    exact ⟨i, j, rv.int_inv, ru.int_inv, hc, c _ _ Hf H Up.refl f (.int _) q⟩)
theorem de_I0 {g : Int → Int → Int} (h : DE K b ρ ta fun x => DE K b ρ tb fun y => ∃ i j, x = .int i ∧ y = .int j ∧ Q (.int (g i j))) : DE K b ρ (tOp (rI0 fun i j => .int (g i j)) ta tb) Q :=
  de_op (h.imp fun x hx => hx.imp fun y ⟨i, j, e1, e2, q⟩ Hf H σ k v u f rv ru c => by
    subst e1; subst e2
    exact ⟨i, j, rv.int_inv, ru.int_inv, c _ _ Hf H Up.refl f (.int _) q⟩)
theorem de_B0 {g : Int → Int → Bool} (h : DE K b ρ ta fun x => DE K b ρ tb fun y => ∃ i j, x = .int i ∧ y = .int j ∧ Q (.bl (g i j))) : DE K b ρ (tOp (rI0 fun i j => .bl (g i j)) ta tb) Q :=
  de_op (h.imp fun x hx => hx.imp fun y ⟨i, j, e1, e2, q⟩ Hf H σ k v u f rv ru c => by
    subst e1; subst e2
    exact ⟨i, j, rv.int_inv, ru.int_inv, c _ _ Hf H Up.refl f (.bl _) q⟩)
theorem de_un {g : Int → Int} (h : DE K b ρ ta fun x => ∃ i, x = .int i ∧ Q (.int (g i))) : DE K b ρ (tUn (rU fun i => .int (g i)) ta) Q := fun Hf H σ k fr c => by
  refine h Hf H σ _ fr fun v x Hf1 H1 e1 f1 r1 ⟨i, e, q⟩ => ?_
  subst e
  exact ⟨i, r1.int_inv, c _ _ Hf1 H1 e1 f1 (.int _) q⟩
/-- == and != of any plain data -/
def eqD (x y : D) : Bool := PyData.eqv x.py y.py
def okD (x : D) : Bool := x.pl && x.nd && SeqAt.shaped x.py
theorem okD_un {x : D} (h : okD x = true) : x.pl = true ∧ x.nd = true ∧ SeqAt.shaped x.py = true := by
  unfold okD at h
  simp only [Bool.and_eq_true] at h
  exact ⟨h.1.1, h.1.2, h.2⟩
theorem de_eqD (h : DE K b ρ ta fun x => DE K b ρ tb fun y => okD x = true ∧ okD y = true ∧ Q (.bl (eqD x y))) : DE K b ρ (tOp (rEqD K) ta tb) Q :=
  de_op (h.imp fun x hx => hx.imp fun y ⟨o1, o2, q⟩ Hf H σ k v u f rv ru c => by
    obtain ⟨a1, a2, a3⟩ := okD_un o1
    obtain ⟨b1, b2, b3⟩ := okD_un o2
    exact ⟨x.py, y.py, (rv.up f.ex.exF).dp a1 a2, (ru.up f.ex.exF).dp b1 b2, a3, b3, c _ _ Hf H Up.refl f (.bl _) q⟩)
theorem de_neD (h : DE K b ρ ta fun x => DE K b ρ tb fun y => okD x = true ∧ okD y = true ∧ Q (.bl (!eqD x y))) : DE K b ρ (tOp (rNeD K) ta tb) Q :=
  de_op (h.imp fun x hx => hx.imp fun y ⟨o1, o2, q⟩ Hf H σ k v u f rv ru c => by
    obtain ⟨a1, a2, a3⟩ := okD_un o1
    obtain ⟨b1, b2, b3⟩ := okD_un o2
    exact ⟨x.py, y.py, (rv.up f.ex.exF).dp a1 a2, (ru.up f.ex.exF).dp b1 b2, a3, b3, c _ _ Hf H Up.refl f (.bl _) q⟩)
/-- x is None -/
def isN : D → Bool
  | .non => true
  | _ => false
theorem Rp.isN {H : Hp} {v : V} {d : D} (h : Rp K H v d) : decide (v = .non) = isN d := by cases h <;> rfl
theorem de_isN (h : DE K b ρ ta fun x => Q (.bl (isN x))) : DE K b ρ (tIsN ta) Q := fun Hf H σ k fr c => by
  refine h Hf H σ _ fr fun v x Hf1 H1 e1 f1 r1 q => ?_
  show k (.bl (decide (v = .non))) H1
  rw [r1.isN]
  exact c _ _ Hf1 H1 e1 f1 (.bl _) q
theorem de_notN (h : DE K b ρ ta fun x => Q (.bl (!isN x))) : DE K b ρ (tNotN ta) Q := fun Hf H σ k fr c => by
  refine h Hf H σ _ fr fun v x Hf1 H1 e1 f1 r1 q => ?_
  show k (.bl (!decide (v = .non))) H1
  rw [r1.isN]
  exact c _ _ Hf1 H1 e1 f1 (.bl _) q
/-! tests -/
theorem dt_test {R : Bool → Prop} (h : DE K b ρ te fun x => ∃ c, x = .bl c ∧ R c) : DT K b ρ (tTest te) R := fun Hf H σ k fr c => by
  refine h Hf H σ _ fr fun v x Hf1 H1 e1 f1 r1 ⟨c', e, q⟩ => ?_
  subst e
  exact ⟨c', r1.bl_inv, c c' Hf1 H1 e1 f1 q⟩
theorem dt_B {R : Bool → Prop} (h : DE K b ρ te fun x => ∃ c, x = .bl c ∧ R c) : DT K b ρ (tB te) R := dt_test h
theorem dt_and {R : Bool → Prop} (h : DT K b ρ tt fun c => if c = true then DT K b ρ tu R else R false) : DT K b ρ (tAnd tt tu) R := fun Hf H σ k fr c => by
  refine h Hf H σ _ fr fun c' Hf1 H1 e1 f1 q => ?_
  cases c' with
  | true => exact (iteT ((show DT K b ρ tu R from q) Hf1 H1 σ k f1 fun c2 Hf' H' e f z => c c2 Hf' H' (e1.trans e) f z))
  | false => exact iteF (c false Hf1 H1 e1 f1 q)
theorem dt_or {R : Bool → Prop} (h : DT K b ρ tt fun c => if c = true then R true else DT K b ρ tu R) : DT K b ρ (tOr tt tu) R := fun Hf H σ k fr c => by
  refine h Hf H σ _ fr fun c' Hf1 H1 e1 f1 q => ?_
  cases c' with
  | true => exact iteT (c true Hf1 H1 e1 f1 q)
  | false => exact iteF ((show DT K b ρ tu R from q) Hf1 H1 σ k f1 fun c2 Hf' H' e f z => c c2 Hf' H' (e1.trans e) f z)
theorem dt_not {R : Bool → Prop} (h : DT K b ρ tt fun c => R (!c)) : DT K b ρ (tNot tt) R := fun Hf H σ k fr c =>
  h Hf H σ _ fr fun c' Hf1 H1 e1 f1 q => c (!c') Hf1 H1 e1 f1 q
theorem de_andV (h : DE K b ρ ta fun x => ∃ c, x = .bl c ∧ if c = true then DE K b ρ tb Q else Q (.bl false)) : DE K b ρ (tAndV ta tb) Q := fun Hf H σ k fr c => by
  refine h Hf H σ _ fr fun v x Hf1 H1 e1 f1 r1 ⟨c', e, q⟩ => ?_
  subst e
  refine ⟨c', r1.bl_inv, ?_⟩
  cases c' with
  | true => exact iteT ((show DE K b ρ tb Q from q) Hf1 H1 σ k f1 fun v d Hf' H' e f r z => c v d Hf' H' (e1.trans e) f r z)
  | false => exact iteF (c _ _ Hf1 H1 e1 f1 (.bl _) q)
theorem de_orV (h : DE K b ρ ta fun x => ∃ c, x = .bl c ∧ if c = true then Q (.bl true) else DE K b ρ tb Q) : DE K b ρ (tOrV ta tb) Q := fun Hf H σ k fr c => by
  refine h Hf H σ _ fr fun v x Hf1 H1 e1 f1 r1 ⟨c', e, q⟩ => ?_
  subst e
  refine ⟨c', r1.bl_inv, ?_⟩
  cases c' with
  | true => exact iteT (c _ _ Hf1 H1 e1 f1 (.bl _) q)
  | false => exact iteF ((show DE K b ρ tb Q from q) Hf1 H1 σ k f1 fun v d Hf' H' e f r z => c v d Hf' H' (e1.trans e) f r z)
theorem de_notV (h : DE K b ρ ta fun x => ∃ c, x = .bl c ∧ Q (.bl (!c))) : DE K b ρ (tNotV ta) Q := fun Hf H σ k fr c => by
  refine h Hf H σ _ fr fun v x Hf1 H1 e1 f1 r1 ⟨c', e, q⟩ => ?_
  subst e
  exact ⟨c', r1.bl_inv, c _ _ Hf1 H1 e1 f1 (.bl _) q⟩
theorem de_ite (h : DT K b ρ tt fun c => if c = true then DE K b ρ ta Q else DE K b ρ tb Q) : DE K b ρ (tIf tt ta tb) Q := fun Hf H σ k fr c => by
  refine h Hf H σ _ fr fun c' Hf1 H1 e1 f1 q => ?_
  cases c' with
  | true => exact iteT ((show DE K b ρ ta Q from q) Hf1 H1 σ k f1 fun v d Hf' H' e f r z => c v d Hf' H' (e1.trans e) f r z)
  | false => exact iteF ((show DE K b ρ tb Q from q) Hf1 H1 σ k f1 fun v d Hf' H' e f r z => c v d Hf' H' (e1.trans e) f r z)
/-! arguments, displays -/
theorem da_nil {R : List D → Prop} (q : R []) : DA K b ρ tNil R := fun Hf H σ k fr c => c _ _ Hf H Up.refl fr .nil q
theorem da_cons {R : List D → Prop} (h : DE K b ρ te fun x => DA K b ρ tr fun l => R (x :: l)) : DA K b ρ (tCons te tr) R := fun Hf H σ k fr c => by
  refine h Hf H σ _ fr fun v x Hf1 H1 e1 f1 r1 q => ?_
  exact q Hf1 H1 σ _ f1 fun vs ds Hf2 H2 e2 f2 r2 z => c _ _ Hf2 H2 (e1.trans e2) f2 (.cons (r1.up e2.1) r2) z
theorem dc_nil {R : List Sl → Prop} (q : R []) : DC K b ρ tNil R := fun Hf H σ k fr c => c _ _ Hf H Up.refl fr .nil q
theorem dc_cons {R : List Sl → Prop} (h : DE K b ρ te fun x => DC K b ρ tr fun l => R (.sh x :: l)) : DC K b ρ (tCons te tr) R := fun Hf H σ k fr c => by
  refine h Hf H σ _ fr fun v x Hf1 H1 e1 f1 r1 q => ?_
  exact q Hf1 H1 σ _ f1 fun vs ds Hf2 H2 e2 f2 r2 z => c _ _ Hf2 H2 (e1.trans e2) f2 (.cons (show ArgOk K b.M Hf2 v (.sh x) from r1.up e2.1) r2) z
theorem dc_pen {R : List Sl → Prop} {i : Nat} (hi : ρ[i]? = some .pen) (h : DC K b ρ tr fun l => R (.pen :: l)) : DC K b ρ (tCons (tVar i) tr) R := fun Hf H σ k fr c => by
  have hl : i < σ.length := by rw [fr.len]; exact (List.getElem?_eq_some_iff.mp hi).1
  have ho : σ[i]? = some σ[i] := List.getElem?_eq_getElem hl
  have z := fr.sl i _ _ ho hi
  generalize σ[i] = o at ho z
  match o, z with
  | none, z => exact z.elim
  | some v, z =>
    refine ⟨v, ho, ?_⟩
    exact h Hf H σ _ fr fun vs ds Hf2 H2 e2 f2 r2 q => c _ _ Hf2 H2 e2 f2 (.cons (show ArgOk K b.M Hf2 v .pen from z) r2) q
theorem de_tup (h : DA K b ρ tr fun l => l.length ≤ 1000 ∧ Q (.tup l)) : DE K b ρ (tTup tr) Q := fun Hf H σ k fr c => by
  refine h Hf H σ _ fr fun vs ds Hf1 H1 e1 f1 r1 ⟨hz, q⟩ => ?_
  refine ⟨Nat.le_of_lt (small1000 (by rw [r1.len]; exact hz)), fun p hp => ?_⟩
  have n := f1.ex.exF.no hp
  exact c _ _ _ _ (e1.trans (Up.new hp n)) (f1.put hp) (Rp.tup (SqT.of upd_same) (RpA.up (Ex.new n) r1)) q
theorem dn_lst {R : List D → Prop} (h : DA K b ρ tr fun l => l.length ≤ 1000 ∧ R l) : DN K b ρ (tLst tr) R := fun Hf H σ k fr c => by
  refine h Hf H σ _ fr fun vs ds Hf1 H1 e1 f1 r1 ⟨hz, q⟩ => ?_
  exact ⟨Nat.le_of_lt (small1000 (by rw [r1.len]; exact hz)), fun p hp => c _ _ _ _ _ e1 f1 hp r1 q⟩
/-- a new list that is shared at once -/
theorem de_new (h : DN K b ρ te fun l => Q (.lst l)) : DE K b ρ te Q := fun Hf H σ k fr c => by
  refine h Hf H σ _ fr fun p xs ds Hf1 H1 e1 f1 hp r1 q => ?_
  have n := f1.ex.exF.no hp
  exact c _ _ _ _ (e1.trans (Up.new hp n)) (f1.put hp) (Rp.lst upd_same (RpA.up (Ex.new n) r1)) q
theorem de_lst (h : DA K b ρ tr fun l => l.length ≤ 1000 ∧ Q (.lst l)) : DE K b ρ (tLst tr) Q := de_new (dn_lst h)
/-! calls -/
theorem call_core {F : DF} {E : L2.St → XK} {X : Addr → List (Str × D) → Prop} {Hf1 H1 : Hp} {σ : L2.St} {vs : List V} {ss : List Sl} {k : VK} (hE : EL K b ρ E X) (f1 : Fm K b Hf1 H1 σ ρ) (r1 : Paired (ArgOk K b.M Hf1) vs ss) (q : F ss Q X)
    (c : ∀ v d Hf' H', Up b Hf1 H1 Hf' H' → Fm K b Hf' H' σ ρ → Rp K Hf' v d → Q d → k v H') : spD K F vs H1 k (E σ) := by
  have x1 := f1.ex
  have back : ∀ Hf' H', Exit K ⟨fun a => if a ∈ b.M then none else H1 a, Hf1, b.M, []⟩ Hf' H' → Fm K b Hf' H' σ ρ := fun Hf' H' y => by
    have out : ∀ a o, b.B a = some o → a ∉ b.M := fun a o e z => by
      obtain ⟨_, z2, _⟩ := x1.pens a z
      rw [z2] at e; cases e
    refine f1.step { exF := y.exF, ex0 := x1.ex0.trans y.ex0, exB := fun a o e => y.exB a o (by show (if a ∈ b.M then none else H1 a) = some o; rw [if_neg (out a o e)]; exact x1.exB a o e), frz := fun a h1 h2 => ?_, pens := fun p hp => ?_, tabs := fun p hp => ?_ } y.ex0 fun a xs h1 h2 h3 h4 => ?_
    · have h3 := x1.frz a h1 h2
      cases hb : b.B a with
      | none => exact (h1 hb).elim
      | some o =>
        refine y.frz a ?_ h3
        show (if a ∈ b.M then none else H1 a) ≠ none
        rw [if_neg (out a o hb), x1.exB a o hb]
        exact fun z => nomatch z
    · obtain ⟨z1, z2, z3⟩ := y.pens p hp
      exact ⟨z1, (x1.pens p hp).2.1, z3⟩
    · obtain ⟨z1, z2, z3, z4⟩ := x1.tabs p hp
      have z4' := z4
      obtain ⟨ps, z5, _⟩ := z4
      have e : (if p.1 ∈ b.M then none else H1 p.1) = some (.tbl ps) := by rw [if_neg z3]; exact z5
      exact ⟨y.frz p.1 (by show (if p.1 ∈ b.M then none else H1 p.1) ≠ none; rw [e]; exact fun z => nomatch z) z1, z2, z3, z4'.up y.ex0 ((y.exB p.1 _ e).trans z5.symm)⟩
    · have e : (if a ∈ b.M then none else H1 a) = some (.lst xs) := by rw [if_neg h4]; exact h1
      exact ⟨y.frz a (by show (if a ∈ b.M then none else H1 a) ≠ none; rw [e]; exact fun z => nomatch z) h2, y.exB a _ e⟩
  refine ⟨Hf1, b.M, ss, Q, X, x1.exF, fun p hp => ⟨(x1.pens p hp).1, (x1.pens p hp).2.2⟩, r1, q, fun v d Hf' H' y r z => ?_, fun C fs d Hf' H' y hx z => ?_⟩
  · refine c v d Hf' H' ⟨y.ex0, fun a o h n => ?_⟩ (back Hf' H' y) r z
    have e : (if a ∈ b.M then none else H1 a) = some o := by rw [if_neg (fun z => n (Bs.mtM z))]; exact h
    exact ⟨y.exB a o e, y.frz a (by show (if a ∈ b.M then none else H1 a) ≠ none; rw [e]; exact fun z => nomatch z)⟩
  · exact hE Hf' H' σ (back Hf' H' y) C fs d hx z
theorem de_call {F : DF} {E : L2.St → XK} {X : Addr → List (Str × D) → Prop} (hE : EL K b ρ E X) (h : DC K b ρ tr fun ss => F ss Q X) : DE K b ρ (tCallG (fun _ => spD K F) [] E tr) Q := fun Hf H σ k fr c => by
  refine h Hf H σ _ fr fun vs ss Hf1 H1 e1 f1 r1 q => ?_
  exact call_core hE f1 r1 q fun v d Hf' H' e f r z => c v d Hf' H' (e1.trans e) f r z
/-- a built-in that is a function of data -/
theorem de_cb {r : List V → Hp → VK → Prop} (h : DA K b ρ tr fun ds => ∀ (Hf H : Hp) (σ : L2.St) (k : VK) (vs : List V), Fm K b Hf H σ ρ → RpA K Hf vs ds →
    (∀ w d Hf' H', Up b Hf H Hf' H' → Fm K b Hf' H' σ ρ → Rp K Hf' w d → Q d → k w H') → r vs H k) : DE K b ρ (tCB r tr) Q := fun Hf H σ k fr c => by
  refine h Hf H σ _ fr fun vs ds Hf1 H1 e1 f1 r1 q => ?_
  exact q Hf1 H1 σ k vs f1 r1 fun w d Hf' H' e f r z => c w d Hf' H' (e1.trans e) f r z
theorem de_cb1 {r : List V → Hp → VK → Prop} (h : DE K b ρ ta fun x => ∀ (Hf H : Hp) (σ : L2.St) (k : VK) (v : V), Fm K b Hf H σ ρ → Rp K Hf v x →
    (∀ w d Hf' H', Up b Hf H Hf' H' → Fm K b Hf' H' σ ρ → Rp K Hf' w d → Q d → k w H') → r [v] H k) : DE K b ρ (tCB r (tCons ta tNil)) Q :=
  de_cb (da_cons (h.imp fun x hx => da_nil fun Hf H σ k vs f r c => by
    cases r with
    | cons r1 r2 =>
      cases r2
      exact hx Hf H σ k _ f r1 c))

/-! ### statements -/
variable {nx bk ct : List Sl → Prop} {rt : D → Prop} {ts tw : TS}
theorem ds_next (q : nx ρ) : DS K b ρ tNext nx rt bk ct := fun Hf H σ D fr n r bk ct => n ρ σ Hf H (Ex.refl _) fr q
theorem ds_break (q : bk ρ) : DS K b ρ tBreak nx rt bk ct := fun Hf H σ D fr n r bk ct => bk ρ σ Hf H (Ex.refl _) fr q
theorem ds_cont (q : ct ρ) : DS K b ρ tCont nx rt bk ct := fun Hf H σ D fr n r bk ct => ct ρ σ Hf H (Ex.refl _) fr q
theorem ds_seq (h : DS K b ρ ts (fun ρ' => DS K b ρ' tw nx rt bk ct) rt bk ct) : DS K b ρ (tSeq ts tw) nx rt bk ct := fun Hf H σ D fr n r bk ct =>
  h Hf H σ { D with nx := tw D } fr (fun ρ' σ' Hf' H' e f q => q Hf' H' σ' D f (fun ρ2 σ2 Hf2 H2 e2 f2 q2 => n ρ2 σ2 Hf2 H2 (e.trans e2) f2 q2) (fun v d Hf2 H2 e2 x2 r2 q2 => r v d Hf2 H2 (e.trans e2) x2 r2 q2)
    (fun ρ2 σ2 Hf2 H2 e2 f2 q2 => bk ρ2 σ2 Hf2 H2 (e.trans e2) f2 q2) (fun ρ2 σ2 Hf2 H2 e2 f2 q2 => ct ρ2 σ2 Hf2 H2 (e.trans e2) f2 q2)) r bk ct
theorem ds_asg {i : Nat} (h : DE K b ρ te fun d => nx (ρ.set i (.sh d))) : DS K b ρ (tAsg te (gName i)) nx rt bk ct := fun Hf H σ D fr n r bk ct =>
  h Hf H σ _ fr fun v d Hf' H' e f rp q => n _ _ Hf' H' e.1 (f.set rp) q
/-- the name keeps a list of its own -/
theorem ds_own {i : Nat} (h : DN K b ρ te fun l => nx (ρ.set i (.ow l))) : DS K b ρ (tAsg te (gName i)) nx rt bk ct := fun Hf H σ D fr n r bk ct =>
  h Hf H σ _ fr fun p xs ds Hf' H' e f hp rp q => n _ _ Hf' _ e.1 (f.own hp rp) q
theorem ds_share {i : Nat} {l : List D} (hi : ρ[i]? = some (.ow l)) (h : DS K b (ρ.set i (.sh (.lst l))) ts nx rt bk ct) : DS K b ρ ts nx rt bk ct := fun Hf H σ D fr n r bk ct => by
  obtain ⟨Hf1, e1, f1⟩ := fr.share hi
  exact h Hf1 H σ D f1 (fun ρ2 σ2 Hf2 H2 e2 f2 q2 => n ρ2 σ2 Hf2 H2 (e1.trans e2) f2 q2) (fun v d Hf2 H2 e2 x2 r2 q2 => r v d Hf2 H2 (e1.trans e2) x2 r2 q2)
    (fun ρ2 σ2 Hf2 H2 e2 f2 q2 => bk ρ2 σ2 Hf2 H2 (e1.trans e2) f2 q2) (fun ρ2 σ2 Hf2 H2 e2 f2 q2 => ct ρ2 σ2 Hf2 H2 (e1.trans e2) f2 q2)
theorem ds_if (h : DT K b ρ tt fun c => if c = true then DS K b ρ ts nx rt bk ct else DS K b ρ tw nx rt bk ct) : DS K b ρ (tIfS tt ts tw) nx rt bk ct := fun Hf H σ D fr n r bk ct => by
  refine h Hf H σ _ fr fun c Hf1 H1 e1 f1 q => ?_
  have go : ∀ t, DS K b ρ t nx rt _ _ → t D σ H1 := fun t ht => ht Hf1 H1 σ D f1 (fun ρ2 σ2 Hf2 H2 e2 f2 q2 => n ρ2 σ2 Hf2 H2 (e1.1.trans e2) f2 q2) (fun v d Hf2 H2 e2 x2 r2 q2 => r v d Hf2 H2 (e1.1.trans e2) x2 r2 q2)
    (fun ρ2 σ2 Hf2 H2 e2 f2 q2 => bk ρ2 σ2 Hf2 H2 (e1.1.trans e2) f2 q2) (fun ρ2 σ2 Hf2 H2 e2 f2 q2 => ct ρ2 σ2 Hf2 H2 (e1.1.trans e2) f2 q2)
  cases c with
  | true => exact iteT (go ts q)
  | false => exact iteF (go tw q)
theorem ds_ret (h : DE K b ρ te rt) : DS K b ρ (tRet te) nx rt bk ct := fun Hf H σ D fr n r bk ct => h Hf H σ _ fr fun v d Hf' H' e f rp q => r v d Hf' H' e.1 f.ex rp q
theorem ds_retN (q : rt .non) : DS K b ρ tRetN nx rt bk ct := fun Hf H σ D fr n r bk ct => r _ _ Hf H (Ex.refl _) fr.ex .non q
theorem ds_drop (h : DE K b ρ te fun _ => nx ρ) : DS K b ρ (tDrop te) nx rt bk ct := fun Hf H σ D fr n r bk ct => h Hf H σ _ fr fun v d Hf' H' e f rp q => n ρ σ Hf' H' e.1 f q
theorem own_at {Hf H : Hp} {σ : L2.St} (fr : Fm K b Hf H σ ρ) {i : Nat} {l : List D} (hi : ρ[i]? = some (.ow l)) : ∃ a xs, σ[i]? = some (some (.ref a)) ∧ Hf a = none ∧ H a = some (.lst xs) ∧ RpA K Hf xs l := by
  have hl : i < σ.length := by rw [fr.len]; exact (List.getElem?_eq_some_iff.mp hi).1
  have ho : σ[i]? = some σ[i] := List.getElem?_eq_getElem hl
  have z := fr.sl i _ _ ho hi
  generalize σ[i] = o at ho z
  match o, z with
  | none, z => exact z.elim
  | some v, z =>
    obtain ⟨a, xs, rfl, h1, h2, h3, _⟩ := z
    exact ⟨a, xs, ho, h1, h2, h3⟩
/-- found.append(e), found a list of one's own -/
theorem ds_app {i : Nat} {l : List D} (hi : ρ[i]? = some (.ow l)) (h : DE K b ρ te fun d => l.length < 16000 ∧ nx (ρ.set i (.ow (l ++ [d])))) : DS K b ρ (tDrop (tBM K "list" rAppend (tVar i) (tCons te tNil))) nx rt bk ct := fun Hf H σ D fr n r bk ct => by
  obtain ⟨a, xs, ho, h1, h2, h3⟩ := own_at fr hi
  refine ⟨_, ho, Or.inl ⟨rfl, xs, SqL.of h2⟩, ?_⟩
  refine h Hf H σ _ fr fun v d Hf' H' e f rp q => ?_
  obtain ⟨a', ys, ho', k1, k2, k3⟩ := own_at f hi
  rw [ho] at ho'
  cases ho'
  refine ⟨a, ys, v, rfl, rfl, k2, Nat.lt_of_lt_of_le (by rw [k3.len]; exact q.1) (by decide), ?_⟩
  exact n _ σ Hf' _ e.1 (f.chg hi ho (k3.app (.cons rp .nil))) q.2
/-- a list of one's own, read: its length -/
theorem de_var_own {i : Nat} {l : List D} (hi : ρ[i]? = some (.ow l)) {r : List V → Hp → VK → Prop} (h : ∀ (Hf H : Hp) (σ : L2.St) (k : VK) (a : Addr) (xs : List V), Fm K b Hf H σ ρ → H a = some (.lst xs) → RpA K Hf xs l →
    (∀ w d Hf' H', Up b Hf H Hf' H' → Fm K b Hf' H' σ ρ → Rp K Hf' w d → Q d → k w H') → r [.ref a] H k) : DE K b ρ (tCB r (tCons (tVar i) tNil)) Q := fun Hf H σ k fr c => by
  obtain ⟨a, xs, ho, h1, h2, h3⟩ := own_at fr hi
  exact ⟨_, ho, h Hf H σ k a xs fr h2 h3 c⟩
end
end G

set_option Elab.async false
set_option linter.all false
set_option maxRecDepth 100000
set_option maxHeartbeats 4000000
/-! DMore: a def by its body over data; repr, isinstance, fields of errors, places, lengths, loops. -/
namespace G
open PySem PySem.Spec PyProof.Rows L2
theorem paired_at {α β : Type} {F : α → β → Prop} : ∀ {xs : List α} {ys : List β} {i : Nat} {x : α} {y : β}, Paired F xs ys → xs[i]? = some x → ys[i]? = some y → F x y
  | _, _, _, _, _, .nil, h, _ => by simp at h
  | _, _, 0, _, _, .cons q _, h, h' => by simp at h h'; subst h; subst h'; exact q
  | _, _, i + 1, _, _, .cons _ r, h, h' => paired_at (i := i) r (by simpa using h) (by simpa using h')
/-! ### a def by its body -/
/-- pins that are as told, then the promise over data that hangs on them -/
def spP (K : PySem.W.Frag) (Pp : Pins → Prop) (F : Pins → DF) : Sq := fun pl vs H Q E => Pp pl ∧ spD K (F pl) vs H Q E
section
variable {P : Program} {w : World} {K : PySem.W.Frag} {mg : Str → Option Value} {base : Heap} {N ps : List Str} {x qual : Str} {st : Stmt} {f : Addr} {fd : FuncData} {k : Nat} {c : Bool}
theorem start_ok {Hf H : Hp} {M : List Addr} {vs : List V} {ss : List Sl} {n : Nat} (hl : vs.length = ps.length) (hn : N.length = n) (hx : Ex Hf H) (hp : ∀ p ∈ M, Hf p = none ∧ ∃ o, H p = some o ∧ PenO K Hf o) (ha : Paired (ArgOk K M Hf) vs ss) :
    Fm K ⟨fun a => if a ∈ M then none else H a, Hf, M, []⟩ Hf H (start N vs) (ss ++ List.replicate (N.length - ps.length) .no) := by
  have hvs := ha.length
  have own : ∀ i a, ¬ Own (start N vs) (ss ++ List.replicate (N.length - ps.length) .no) i a := fun i a ⟨⟨ds, h1⟩, h2⟩ => by
    by_cases z : i < ss.length
    · rw [List.getElem?_append_left z] at h1
      have hv : i < vs.length := by omega
      have q := paired_at ha (List.getElem?_eq_getElem hv) h1
      exact q
    · rw [List.getElem?_append_right (by omega), List.getElem?_replicate] at h1
      split at h1 <;> cases h1
  refine { ex := { exF := hx, ex0 := Ex.refl _, exB := fun a o e => ?_, frz := fun a _ h => h, pens := fun p hm => ⟨(hp p hm).1, if_pos hm, (hp p hm).2⟩, tabs := fun p hm => (List.not_mem_nil hm).elim }, len := ?_, sl := fun i o s h1 h2 => ?_, mine := fun i a z => (own i a z).elim, sep := fun i j a z _ => (own i a z).elim }
  · have e' : (if a ∈ M then none else H a) = some o := e
    by_cases z : a ∈ M
    · rw [if_pos z] at e'; cases e'
    · rw [if_neg z] at e'; exact e'
  · unfold L2.start
    simp
    omega
  · unfold L2.start at h1
    by_cases z : i < vs.length
    · rw [List.getElem?_append_left (by simpa using z), List.getElem?_map, List.getElem?_eq_getElem z] at h1
      simp at h1
      subst h1
      rw [List.getElem?_append_left (by omega)] at h2
      have q := paired_at ha (List.getElem?_eq_getElem z) h2
      match s, q with
      | .sh d, q => exact q
      | .pen, q => exact q
    · rw [List.getElem?_append_right (by omega), List.getElem?_replicate] at h2
      split at h2
      · cases h2
        match o with
        | none => trivial
        | some _ => trivial
      · cases h2
theorem fn_dataP {Pp : Pins → Prop} {Fd : Pins → DF} (F : Fun K x qual st f fd) (S : FnScope N ps (defScope st)) (len : ∀ pl ss R X, Fd pl ss R X → ss.length = ps.length)
    (body : ∀ (cdv : Value) (A : Around) (outer : List Env) (s : Shared) (H : Hp) (E : XK) (pl : Pins), Rm c k (A.deeper (envOfC qual (defScope st) s.heap.objs.size f cdv)) → Pp pl →
      ∃ t, PSs (cxG P w K mg base N qual (defScope st) f cdv A outer s H E c pl) (defBody st) t ∧ ∀ b ss R X, Fd pl ss R X → (∀ ρ, EL K b ρ (fun _ => E) X) →
        DS K b (ss ++ List.replicate (N.length - ps.length) .no) t (fun _ => R .non) R (fun _ => False) (fun _ => False)) :
    FnG P w K mg base c (k + 1) f fd ps (spP K Pp Fd) := by
  have hlen : ∀ pl vs H Q E, spP K Pp Fd pl vs H Q E → vs.length = ps.length := fun pl vs H Q E h => by
    obtain ⟨_, Hf, M, ss, R, X, h1, h2, h3, h4, _⟩ := h
    rw [h3.length]
    exact len pl ss R X h4
  refine fn_go F S hlen fun cdv A outer s H vs Q E pl hr hsp => ?_
  have hl := hlen _ _ _ _ _ hsp
  obtain ⟨hpp, Hf, M, ss, R, X, h1, h2, h3, h4, h5, h6⟩ := hsp
  obtain ⟨t, ht, hd⟩ := body cdv A outer s H E pl hr hpp
  refine ⟨t, ht, ?_⟩
  refine hd ⟨fun a => if a ∈ M then none else H a, Hf, M, []⟩ ss R X h4 (fun ρ Hf' H' σ' fr C fs d e1 e2 => h6 C fs d Hf' H' fr.ex e1 e2) Hf H (start N vs) _ (start_ok hl rfl h1 h2 h3)
    (fun ρ' σ' Hf' H' e fr q => h5 .non .non Hf' H' fr.ex .non q) (fun v d Hf' H' e x r q => h5 v d Hf' H' x r q) (fun _ _ _ _ _ _ z => z.elim) (fun _ _ _ _ _ _ z => z.elim)
theorem fn_data {Fd : DF} (F : Fun K x qual st f fd) (S : FnScope N ps (defScope st)) (len : ∀ ss R X, Fd ss R X → ss.length = ps.length)
    (body : ∀ (cdv : Value) (A : Around) (outer : List Env) (s : Shared) (H : Hp) (E : XK) (pl : Pins), Rm c k (A.deeper (envOfC qual (defScope st) s.heap.objs.size f cdv)) →
      ∃ t, PSs (cxG P w K mg base N qual (defScope st) f cdv A outer s H E c pl) (defBody st) t ∧ ∀ b ss R X, Fd ss R X → (∀ ρ, EL K b ρ (fun _ => E) X) →
        DS K b (ss ++ List.replicate (N.length - ps.length) .no) t (fun _ => R .non) R (fun _ => False) (fun _ => False)) :
    FnG P w K mg base c (k + 1) f fd ps (fun _ => spD K Fd) := by
  have G : FnG P w K mg base c (k + 1) f fd ps (spP K (fun _ => True) (fun _ => Fd)) := fn_dataP F S (fun _ => len) fun cdv A outer s H E pl hr _ => body cdv A outer s H E pl hr
  exact { len := fun pl vs H Q E h => G.len pl vs H Q E ⟨trivial, h⟩, run := fun A o s H a us vs Q E pl hr hp e0 hb r h => G.run A o s H a us vs Q E pl hr hp e0 hb r ⟨trivial, h⟩ }
end
/-- a call with pins -/
theorem de_callP {K : PySem.W.Frag} {b : Bs} {ρ : List Sl} {tr : TA} {Q : D → Prop} {Pp : Pins → Prop} {F : Pins → DF} {pl : Pins} {E : L2.St → XK} {X : Addr → List (Str × D) → Prop} (hE : EL K b ρ E X) (hp : Pp pl) (h : DC K b ρ tr fun ss => F pl ss Q X) : DE K b ρ (tCallG (spP K Pp F) pl E tr) Q :=
  fun Hf H σ k fr c => by
    refine h Hf H σ _ fr fun vs ss Hf1 H1 e1 f1 r1 q => ?_
    exact (show spP K Pp F pl vs H1 k (E σ) from ⟨hp, call_core hE f1 r1 q fun v d Hf' H' e f r z => c v d Hf' H' (e1.trans e) f r z⟩)
/-- a def that is handed the error which a suite holds -/
def spX (sp : Sq) (a : Addr) (cls : Value) (d : Option Addr) : Sp := fun vs H Q E => ∀ oe : Obj, Zc cls d oe → (∃ fs, oe.data = .fields fs) → sp [(a, oe)] vs H Q E
section
variable {X : Cx} {c : Bool} {k : Nat} {f a : Addr} {fd : FuncData} {ps : List Str} {sp : Sq} {E : L2.St → XK} {x : Str} {q pos : Pos} {e : Expr} {es : List Expr} {t : TA} {oe : Obj} {cls : Value} {d : Option Addr}
theorem pe_goX (F : FnG X.prog X.w X.K X.mg X.base c k f fd ps sp) (hz : Zc cls d oe) (hf : ∃ fs, oe.data = .fields fs) (hr : Rm c k X.A) (hp : (a, oe) ∈ X.pn) (hg : Gl X x) (hm : X.mg x = some (.ref f)) (hk : PySem.W.keepIn X.K (.ref f) = true) (hb : Binds X.K fd ps []) (hx : Lets X E)
    (ha : PA X (e :: es) t) (hdb : (x == ("__debug__" : Str)) = false := by decide) (he : starEach (e :: es) X.env = (false, eval e X.env) :: starEach es X.env := by rfl) (hpl : (backTo pos (starEach es X.env)).any (·.1) = false := by rfl) :
    PE X (.Call (.Name x q) (e :: es) [] pos) (tCallG (fun _ => spX sp a cls d) [] E t) := by
  refine ⟨fun pins s σ H Q I h => ?_⟩
  refine wpAny_Call_Name_kw (ld_glob I hg hm ?_ hdb)
  refine PySem.W.callWith_K (h₀ := X.base) I.ok.mod.kin hk (thn (ha.run pos pins s σ H _ I h) ?_) he hpl
  intro us s1 z
  obtain ⟨vs, H1, I1, r, q⟩ := z
  exact ⟨I1.kIn, run_go (pl := [(a, oe)]) F hr (fun p h => by rw [List.mem_singleton.mp h]; exact hp) hb hx I1 r (q oe hz hf)⟩
end
theorem de_callX {K : PySem.W.Frag} {b : Bs} {ρ : List Sl} {tr : TA} {Q : D → Prop} {Pp : Pins → Prop} {F : Pins → DF} {a : Addr} {cls : Value} {d : Option Addr} {E : L2.St → XK} {X : Addr → List (Str × D) → Prop} (hE : EL K b ρ E X)
    (h : DC K b ρ tr fun ss => ∀ oe : Obj, Zc cls d oe → (∃ fs, oe.data = .fields fs) → Pp [(a, oe)] ∧ F [(a, oe)] ss Q X) : DE K b ρ (tCallG (fun _ => spX (spP K Pp F) a cls d) [] E tr) Q :=
  fun Hf H σ k fr c => by
    refine h Hf H σ _ fr fun vs ss Hf1 H1 e1 f1 r1 q => ?_
    refine (show spX (spP K Pp F) a cls d vs H1 k (E σ) from fun oe hz hf => ?_)
    obtain ⟨hp, q⟩ := q oe hz hf
    exact ⟨hp, call_core hE f1 r1 q fun v d Hf' H' e f r z => c v d Hf' H' (e1.trans e) f r z⟩
end G

set_option Elab.async false
set_option linter.all false
set_option maxRecDepth 100000
set_option maxHeartbeats 4000000
/-! DOps: operators and built-ins over data; loops. -/
namespace G
open PySem PySem.Spec PyProof.Rows L2
section
variable {K : PySem.W.Frag} {b : Bs} {ρ : List Sl} {ta tb te tc : TE} {tt tu : TT} {tr : TA} {Q : D → Prop} {H Hf : Hp}
theorem small_line {n : Nat} (h : n ≤ 100000) : n ≤ sizeLine := Nat.le_trans h (by decide)
/-! ### places -/
theorem RpA.atI {vs : List V} {ds : List D} {i : Int} {d : D} (r : RpA K H vs ds) (h : L2.atI ds i = some d) : ∃ v, L2.atI vs i = some v ∧ Rp K H v d := by
  unfold L2.atI at h ⊢
  rw [r.len]
  cases e : ixN ds.length i with
  | none => rw [e] at h; cases h
  | some j =>
    rw [e] at h
    exact r.at (i := j) h
def atD : D → Int → Option D
  | .tup l, i => L2.atI l i
  | .lst l, i => L2.atI l i
  | .str z, i => if z.length ≤ 100000 then (L2.atI z.cps.toList i).map fun c => .str ⟨#[c]⟩ else none
  | _, _ => none
theorem de_ix (h : DE K b ρ ta fun x => DE K b ρ tb fun y => ∃ i d, y = .int i ∧ atD x i = some d ∧ Q d) : DE K b ρ (tOp (rIx K) ta tb) Q :=
  de_op (h.imp fun x hx => hx.imp fun y ⟨i, d, e, ha, q⟩ Hf H σ k v u f rv ru c => by
    subst e
    have eu := ru.int_inv
    subst eu
    cases rv with
    | tup h1 h2 =>
      obtain ⟨v', e1, r1⟩ := h2.atI (i := i) ha
      exact Or.inr (Or.inl ⟨_, _, i, v', rfl, rfl, f.ex.exF.st h1, e1, c _ _ Hf H Up.refl f r1 q⟩)
    | lst h1 h2 =>
      obtain ⟨v', e1, r1⟩ := h2.atI (i := i) ha
      exact Or.inl ⟨_, _, i, v', rfl, rfl, SqL.of (f.ex.exF _ _ h1), e1, c _ _ Hf H Up.refl f r1 q⟩
    | str z =>
      have ha' : (if z.length ≤ 100000 then (L2.atI z.cps.toList i).map fun c => D.str ⟨#[c]⟩ else none) = some d := ha
      by_cases hz : z.length ≤ 100000
      · rw [if_pos hz] at ha'
        cases e2 : L2.atI z.cps.toList i with
        | none => rw [e2] at ha'; cases ha'
        | some c' =>
          rw [e2] at ha'
          cases ha'
          exact Or.inr (Or.inr ⟨z, i, c', rfl, rfl, small_line hz, e2, c _ _ Hf H Up.refl f (.str _) q⟩)
      · rw [if_neg hz] at ha'; cases ha'
    | non => cases ha
    | bl _ => cases ha
    | int _ => cases ha
    | ty _ => cases ha
    | fn _ => cases ha
    | dic _ _ _ => cases ha
    | obj _ _ _ => cases ha
    | exc _ _ _ => cases ha
    | exc0 _ _ => cases ha)
/-! ### len -/
def lenD : D → Option Nat
  | .tup l => some l.length
  | .lst l => some l.length
  | .str z => if z.length ≤ 100000 then some z.length else none
  | _ => none
def rLenV (K : PySem.W.Frag) : List V → Hp → VK → Prop := fun xs H Q => ∃ x n, xs = [x] ∧ LenV K x H n ∧ Q (.int n) H
theorem call_lenV {X : Cx} : CallR X (.builtin "len") (rLenV X.K) := call_len
theorem de_len (h : DE K b ρ ta fun x => ∃ n : Nat, lenD x = some n ∧ Q (.int n)) : DE K b ρ (tCB (rLenV K) (tCons ta tNil)) Q :=
  de_cb1 (h.imp fun x ⟨n, ha, q⟩ Hf H σ k v f rv c => by
    cases rv with
    | tup h1 h2 =>
      cases ha
      refine ⟨_, _, rfl, Or.inr ⟨_, f.ex.exF.st h1, rfl⟩, ?_⟩
      rw [h2.len]
      exact c _ _ Hf H Up.refl f (.int _) q
    | lst h1 h2 =>
      cases ha
      refine ⟨_, _, rfl, Or.inl ⟨_, SqL.of (f.ex.exF _ _ h1), rfl⟩, ?_⟩
      rw [h2.len]
      exact c _ _ Hf H Up.refl f (.int _) q
    | str z =>
      have ha' : (if z.length ≤ 100000 then some z.length else none) = some n := ha
      by_cases hz : z.length ≤ 100000
      · rw [if_pos hz] at ha'
        cases ha'
        exact ⟨_, _, rfl, ⟨small_line hz, rfl⟩, c _ _ Hf H Up.refl f (.int _) q⟩
      · rw [if_neg hz] at ha'; cases ha'
    | non => cases ha
    | bl _ => cases ha
    | int _ => cases ha
    | ty _ => cases ha
    | fn _ => cases ha
    | dic _ _ _ => cases ha
    | obj _ _ _ => cases ha
    | exc _ _ _ => cases ha
    | exc0 _ _ => cases ha)
theorem de_len_own {i : Nat} {l : List D} (hi : ρ[i]? = some (.ow l)) (q : Q (.int l.length)) : DE K b ρ (tCB (rLenV K) (tCons (tVar i) tNil)) Q :=
  de_var_own hi fun Hf H σ k a xs f h1 h2 c => by
    refine ⟨_, _, rfl, Or.inl ⟨_, SqL.of h1, rfl⟩, ?_⟩
    rw [h2.len]
    exact c _ _ Hf H Up.refl f (.int _) q
/-! ### int, abs, max, min -/
def rInt1 : List V → Hp → VK → Prop := fun xs H Q => (∃ i, xs = [.int i] ∧ Q (.int i) H) ∨ ∃ k, xs = [.bl k] ∧ Q (.int (if k then 1 else 0)) H
theorem call_intV {X : Cx} : CallR X (.type "int") rInt1 := call_int1
theorem de_intc (h : DE K b ρ ta fun x => (∃ i, x = .int i ∧ Q (.int i)) ∨ ∃ c : Bool, x = .bl c ∧ Q (.int (if c then 1 else 0))) : DE K b ρ (tCB rInt1 (tCons ta tNil)) Q :=
  de_cb1 (h.imp fun x hx Hf H σ k v f rv c => by
    cases hx with
    | inl hx =>
      obtain ⟨i, e, q⟩ := hx
      subst e
      have e := rv.int_inv
      subst e
      exact Or.inl ⟨i, rfl, c _ _ Hf H Up.refl f (.int _) q⟩
    | inr hx =>
      obtain ⟨i, e, q⟩ := hx
      subst e
      have e := rv.bl_inv
      subst e
      exact Or.inr ⟨i, rfl, c _ _ Hf H Up.refl f (.int _) q⟩)
def rAbs : List V → Hp → VK → Prop := fun xs H Q => ∃ i, xs = [.int i] ∧ Q (.int (if i < 0 then -i else i)) H
theorem call_absV {X : Cx} : CallR X (.builtin "abs") rAbs := call_abs
theorem de_abs (h : DE K b ρ ta fun x => ∃ i, x = .int i ∧ Q (.int (if i < 0 then -i else i))) : DE K b ρ (tCB rAbs (tCons ta tNil)) Q :=
  de_cb1 (h.imp fun x ⟨i, e, q⟩ Hf H σ k v f rv c => by
    subst e
    have e := rv.int_inv
    subst e
    exact ⟨i, rfl, c _ _ Hf H Up.refl f (.int _) q⟩)
/-! ### lists put together -/
theorem dn_cat {R : List D → Prop} (h : DE K b ρ ta fun x => DE K b ρ tb fun y => ∃ l m, x = .lst l ∧ y = .lst m ∧ l.length + m.length ≤ 16000 ∧ R (l ++ m)) : DN K b ρ (tOp rCat ta tb) R := fun Hf H σ k fr c => by
  refine h Hf H σ _ fr fun v x Hf1 H1 e1 f1 r1 q1 => ?_
  refine q1 Hf1 H1 σ _ f1 fun u y Hf2 H2 e2 f2 r2 ⟨l, m, ex, ey, hz, q⟩ => ?_
  subst ex
  subst ey
  cases r1 with
  | lst h1 a1 =>
    cases r2 with
    | lst h2 a2 =>
      refine ⟨_, _, _, _, rfl, rfl, f2.ex.exF _ _ (e2.1 _ _ h1), f2.ex.exF _ _ h2, small_line (by rw [a1.len, a2.len]; omega), fun p hp => ?_⟩
      exact c p _ _ Hf2 H2 (e1.trans e2) f2 hp ((a1.up e2.1).app a2) q
/-- the first one one's own -/
theorem dn_cat_own {R : List D → Prop} {i : Nat} {l : List D} (hi : ρ[i]? = some (.ow l)) (h : DE K b ρ tb fun y => ∃ m, y = .lst m ∧ l.length + m.length ≤ 16000 ∧ R (l ++ m)) : DN K b ρ (tOp rCat (tVar i) tb) R := fun Hf H σ k fr c => by
  obtain ⟨a, xs, ho, h1, h2, h3⟩ := own_at fr hi
  refine ⟨_, ho, ?_⟩
  refine h Hf H σ _ fr fun u y Hf2 H2 e2 f2 r2 ⟨m, ey, hz, q⟩ => ?_
  subst ey
  obtain ⟨a', ys, ho', k1, k2, k3⟩ := own_at f2 hi
  rw [ho] at ho'
  cases ho'
  cases r2 with
  | lst h4 a4 =>
    refine ⟨_, _, _, _, rfl, rfl, k2, f2.ex.exF _ _ h4, small_line (by rw [k3.len, a4.len]; omega), fun p hp => ?_⟩
    exact c p _ _ Hf2 H2 e2 f2 hp (k3.app a4) q
/-! ### in, not in, of flat things -/
def flD : D → Option V
  | .non => some .non
  | .bl c => some (.bl c)
  | .int i => some (.int i)
  | .str s => some (.str s)
  | _ => none
def flL : List D → Option (List V)
  | [] => some []
  | d :: r => match flD d, flL r with
    | some v, some vs => some (v :: vs)
    | _, _ => none
theorem Rp.fl {v u : V} {d : D} (r : Rp K H v d) (h : flD d = some u) : v = u ∧ flatV v = true := by
  cases r <;> first | (cases h; exact ⟨rfl, rfl⟩) | cases h
theorem RpA.fl : ∀ {vs us : List V} {ds : List D}, RpA K H vs ds → flL ds = some us → vs = us ∧ vs.all flatV = true
  | _, _, _, .nil, h => by cases h; exact ⟨rfl, rfl⟩
  | _, us, d :: ds, .cons q r, h => by
    have h' : (match flD d, flL ds with | some v, some vs => some (v :: vs) | _, _ => none) = some us := h
    split at h'
    · rename_i v vs e1 e2
      cases h'
      obtain ⟨a1, a2⟩ := q.fl e1
      obtain ⟨b1, b2⟩ := r.fl e2
      subst a1
      subst b1
      exact ⟨rfl, by rw [List.all_cons, a2, b2] <;> rfl⟩
    · cases h'
def seqD : D → Option (List D)
  | .tup l => some l
  | .lst l => some l
  | _ => none
theorem de_in {neg : Bool} (h : DE K b ρ ta fun x => DE K b ρ tb fun y => ∃ v l us, flD x = some v ∧ seqD y = some l ∧ flL l = some us ∧ Q (.bl (if neg then !inV v us else inV v us))) : DE K b ρ (tOp (rIn K neg) ta tb) Q :=
  de_op (h.imp fun x hx => hx.imp fun y ⟨v', l, us, e1, e2, e3, q⟩ Hf H σ k v u f rv ru c => by
    obtain ⟨a1, a2⟩ := rv.fl e1
    subst a1
    cases ru with
    | tup h1 h2 =>
      cases e2
      obtain ⟨b1, b2⟩ := h2.fl e3
      subst b1
      exact ⟨_, _, rfl, Or.inr (f.ex.exF.st h1), a2, b2, c _ _ Hf H Up.refl f (.bl _) q⟩
    | lst h1 h2 =>
      cases e2
      obtain ⟨b1, b2⟩ := h2.fl e3
      subst b1
      exact ⟨_, _, rfl, Or.inl (SqL.of (f.ex.exF _ _ h1)), a2, b2, c _ _ Hf H Up.refl f (.bl _) q⟩
    | non => cases e2
    | bl _ => cases e2
    | int _ => cases e2
    | str _ => cases e2
    | ty _ => cases e2
    | fn _ => cases e2
    | dic _ _ _ => cases e2
    | obj _ _ _ => cases e2
    | exc _ _ _ => cases e2
    | exc0 _ _ => cases e2)
/-! ### isinstance -/
def tyD : D → Option String
  | .non => some "NoneType"
  | .bl _ => some "bool"
  | .int _ => some "int"
  | .str _ => some "str"
  | .tup _ => some "tuple"
  | .lst _ => some "list"
  | .dic _ => some "dict"
  | _ => none
theorem Rp.tyX {v : V} {d : D} {t : String} (r : Rp K Hf v d) (e : Ex Hf H) (h : tyD d = some t) : TyX K H v (.type t) := by
  cases r with
  | non => cases h; exact .base .non
  | bl _ => cases h; exact .base (.bl _)
  | int _ => cases h; exact .base (.int _)
  | str _ => cases h; exact .base (.str _)
  | tup h1 _ =>
    cases h
    match e.st h1 with
    | .inl (.inl h2) => exact .base (.tup h2)
    | .inl (.inr ⟨o, h2⟩) => exact .fTuple h2
    | .inr ⟨o, its, n, h2, h3, _⟩ => exact .kTuple h2 h3
  | lst h1 _ => cases h; exact .base (.lst (e _ _ h1))
  | dic h1 _ _ => cases h; exact .base (.dK (e _ _ h1))
  | ty _ => cases h
  | fn _ => cases h
  | obj _ _ _ => cases h
  | exc _ _ _ => cases h
  | exc0 _ _ => cases h
/-- what the class of an error must say so that its fields are read, its class asked -/
structure XcC (K : PySem.W.Frag) (C : Addr) : Prop where
  cl : (PySem.W.clsIn K C).isSome = true
  ga : PySem.W.findIn K (.ref C) "__getattribute__" = some (some (.builtin "BaseException.__getattribute__"))
  gg : PySem.W.findIn K (.ref C) "__getattr__" = some none
  sb : PySem.W.subIn K (.ref C) (.type "BaseException") = some true
  hd : PySem.W.hasDictIn K C = true
  ka : PySem.W.findIn K (.ref C) "__class__" = some (some (.builtin "object.__class__"))
  kn : PySem.W.specialIn K (.builtin "object.__class__") "__get__" = some (some (.builtin "getset_descriptor.__get__"))
  kt : PySem.W.takesIn K (.builtin "object.__class__") = some true
  km : PySem.W.mroIn K C (.type "object") = some true
/-- the error at a, of the class at C, its own dict at d, is pinned -/
def PnOk (K : PySem.W.Frag) (pn : Pins) (a : Addr) (d : Option Addr) (C : Addr) : Prop := ∃ oe, (a, oe) ∈ pn ∧ Zc (.ref C) d oe ∧ (∃ vs, oe.data = .fields vs) ∧ XcC K C
/-- which errors are pinned -/
abbrev PinP := Addr → Option Addr → Addr → Prop
def rIsX (K : PySem.W.Frag) (pn : PinP) : List V → Hp → VK → Prop := fun xs H Q => ∃ (a : Addr) (d : Option Addr) (C : Addr) (c : V) (cv : Value) (r : Bool), xs = [.ref a, c] ∧ pn a d C ∧ (∀ dx, d = some dx → ∃ fs, H dx = some (.xd fs)) ∧ ClsV c cv ∧ PySem.W.kitOne K (.ref C) cv = some r ∧ Q (.bl r) H
theorem call_isX {X : Cx} {pn : PinP} (hp : ∀ a d C, pn a d C → PnOk X.K X.pn a d C) : CallR X (.builtin "isinstance") (rIsX X.K pn) := by
  intro pins s σ H xs us Q I r h
  obtain ⟨a, d, C, c, cv, r0, rfl, hpn, hd, hcv, e, q⟩ := h
  obtain ⟨oe, hm, hz, ⟨vs, hv⟩, hC⟩ := hp a d C hpn
  obtain ⟨u1, u2, rfl, rx, rt⟩ := vals2 r
  have ec := hcv.eq rt
  subst ec
  cases rx
  obtain ⟨hget, _⟩ := I.pin (a, oe) (List.mem_append_left _ hm)
  have J : ∃ od, PySem.W.InstAt s.heap a oe C od := by
    obtain ⟨oc, od, oda, osl⟩ := oe
    obtain ⟨h1, h2⟩ := hz
    dsimp only at h1 h2 hv
    subst h1 h2 hv
    match od, hd with
    | none, _ => exact ⟨none, hget, rfl, rfl, trivial⟩
    | some dx, hd =>
      obtain ⟨fs, hd⟩ := hd dx rfl
      have hx : ObjOk X.prog X.w H s.heap dx (.xd fs) := I.hok dx _ hd
      obtain ⟨mA, ⟨o, es, ep, ho, _⟩, _⟩ := hx
      exact ⟨some o, hget, rfl, rfl, ho⟩
  obtain ⟨od, J⟩ := J
  refine PySem.W.kia_one (PySem.W.kitx_exc hC.cl hC.ga hC.gg hC.sb hC.ka hC.kn hC.kt hC.km) I.kIn J e (fun z => nomatch z) fun tk => ?_
  exact ⟨.bl r0, H, I.kept (t' := tk) fun _ _ z => z, rfl, q⟩
def rIsG (K : PySem.W.Frag) (pn : PinP) : List V → Hp → VK → Prop := fun xs H Q => rIsi K xs H Q ∨ rIsX K pn xs H Q
theorem call_isG {X : Cx} {pn : PinP} (hp : ∀ a d C, pn a d C → PnOk X.K X.pn a d C) : CallR X (.builtin "isinstance") (rIsG X.K pn) := fun pins s σ H xs us Q I r h => h.elim (call_isi pins s σ H xs us Q I r) (call_isX hp pins s σ H xs us Q I r)
/-- isinstance(x, T), T a built-in class: plain data -/
theorem de_isT {pn : PinP} {n : String} (h : DE K b ρ ta fun x => ∃ t r, tyD x = some t ∧ kitB t n = some r ∧ Q (.bl r)) : DE K b ρ (tCB (rIsG K pn) (tCons ta (tCons (tC (.ty n)) tNil))) Q :=
  de_cb (da_cons (h.imp fun x ⟨t, r, e1, e2, q⟩ => da_cons (de_ty (da_nil fun Hf H σ k vs f rr c => by
    cases rr with
    | cons r1 rr =>
      cases rr with
      | cons r2 rr =>
        cases rr
        cases r2
        exact Or.inl ⟨_, _, _, _, r, rfl, .ty n, r1.tyX f.ex.exF e1, kit_ty e2, c _ _ Hf H Up.refl f (.bl _) q⟩))))
/-- isinstance(e, C), e a caught error -/
theorem de_isX {pn : PinP} {u : V} {cv : Value} (hu : ClsV u cv) (h : DE K b ρ ta fun x => ∃ a d C l r, x = .exc a d C l ∧ pn a d C ∧ PySem.W.kitOne K (.ref C) cv = some r ∧ Q (.bl r)) : DE K b ρ (tCB (rIsG K pn) (tCons ta (tCons (tC u) tNil))) Q := fun Hf H σ k fr c => by
  refine h Hf H σ _ fr fun v x Hf1 H1 e1 f1 r1 ⟨a, d, C, l, r, ex, hp, hk, q⟩ => ?_
  subst ex
  cases r1 with
  | exc h1 h2 h3 => exact Or.inr ⟨a, _, C, u, cv, r, rfl, hp, (fun dx e => by cases e; exact ⟨_, f1.ex.exF _ _ h1⟩), hu, hk, c _ _ Hf1 H1 e1 f1 (.bl _) q⟩
  | exc0 _ _ => exact Or.inr ⟨a, _, C, u, cv, r, rfl, hp, (fun dx e => nomatch e), hu, hk, c _ _ Hf1 H1 e1 f1 (.bl _) q⟩
/-- isinstance(x, (T1, T2)) -/
theorem de_isT2 {n m : String} (h : DE K b ρ ta fun x => ∃ t r1 r2, tyD x = some t ∧ kitB t n = some r1 ∧ kitB t m = some r2 ∧ Q (.bl (r1 || r2))) : DE K b ρ (tCB (rIsiT K) (tCons ta (tCons (tTup (tCons (tC (.ty n)) (tCons (tC (.ty m)) tNil))) tNil))) Q := fun Hf H σ k fr c => by
  refine h Hf H σ _ fr fun v x Hf1 H1 e1 f1 r1 ⟨t, a, d, g1, g2, g3, q⟩ => ?_
  refine ⟨by show 2 ≤ sizeLine; decide, fun p hp => ?_⟩
  have n' := f1.ex.exF.no hp
  refine ⟨v, p, [.ty n, .ty m], .type t, [.type n, .type m], (a || d), rfl, upd_same, .cons (.ty n) (.cons (.ty m) .nil), r1.tyX (f1.ex.exF.trans (Ex.new hp)) g1, ?_, c _ _ (upd Hf1 p (.tup [.ty n, .ty m])) _ (e1.trans (Up.new hp n')) (f1.put hp) (.bl _) q⟩
  refine kitAny_cons (kit_ty g2) (fun z => ?_) (fun z => by rw [z] <;> rfl)
  refine kitAny_cons (kit_ty g3) (fun y => ?_) (fun y => by rw [y, Bool.or_true])
  rw [z, y]
  exact kitAny_nil
/-! ### the field of a caught error -/
def tXe (K : PySem.W.Frag) (pn : PinP) (f : Str) (te : TE) : TE := fun σ H Q => te σ H fun x H1 => ∃ (a d C : Addr) (fs : List (Str × V)) (v : V), x = .ref a ∧ pn a (some d) C ∧ PySem.W.findIn K (.ref C) f = some none ∧ H1 d = some (.xd fs) ∧ fs.lookup f = some v ∧ Q v H1
theorem pe_xe {X : Cx} {pn : PinP} (hp : ∀ a d C, pn a d C → PnOk X.K X.pn a d C) {e : Expr} {f : Str} {pos : Pos} {te : TE} (he : PE X e te) (hb : attributeBase e f X.env (eval e X.env) = eval e X.env := by rfl) : PE X (.Attribute e f pos) (tXe X.K pn f te) := by
  refine ⟨fun pins s σ H Q I h => ?_⟩
  refine attr_of hb (thn (he.run pins s σ H _ I h) fun u s1 hh => ?_)
  obtain ⟨x, H1, I1, rx, a, d, C, fs, v, ex, hpn, hno, ed, l, q⟩ := hh
  obtain ⟨oe, hm, hz, ⟨vs, hv⟩, hC⟩ := hp a (some d) C hpn
  subst ex
  obtain rfl : u = Value.ref a := rx
  obtain ⟨hget, _⟩ := I1.pin (a, oe) (List.mem_append_left _ hm)
  have hx : ObjOk X.prog X.w H1 s1.heap d (.xd fs) := I1.hok d _ ed
  obtain ⟨mA, hns, hr⟩ := hx
  obtain ⟨o, ho, hl⟩ := lookIn_ns hns
  obtain ⟨u, hu, ru⟩ := RelO.some_of (v := v) (o := mA f) (by rw [← l]; exact hr f)
  have J : PySem.W.InstAt s1.heap a oe C (some o) := ⟨hget, hz.1, by unfold PySem.W.notCls; rw [hv] <;> rfl, by rw [hz.2]; exact ho⟩
  exact HandSPX.exc_get I1.kIn J hC.ga hC.gg hC.sb (PySem.W.findObj_own hC.hd hno rfl (by rw [hl, hu])) (handed_of ru) ⟨v, H1, I1.tok _, ru, q⟩
theorem lookup_rel : ∀ {xs : List (Str × V)} {ds : List (Str × D)} {f : Str} {d : D}, xs.map (·.1) = ds.map (·.1) → RpA K H (xs.map (·.2)) (ds.map (·.2)) → ds.lookup f = some d → ∃ v, xs.lookup f = some v ∧ Rp K H v d
  | [], [], _, _, _, _, h => by cases h
  | [], _ :: _, _, _, h, _, _ => by cases h
  | _ :: _, [], _, _, h, _, _ => by cases h
  | (k, v) :: xs, (k', d') :: ds, f, d, hk, r, h => by
    have hk' : k :: xs.map (·.1) = k' :: ds.map (·.1) := hk
    injection hk' with e1 e2
    subst e1
    have r' : RpA K H (v :: xs.map (·.2)) (d' :: ds.map (·.2)) := r
    cases r' with
    | cons q r =>
      rw [List.lookup_cons] at h ⊢
      by_cases e : (f == k) = true
      · rw [e] at h ⊢
        cases h
        exact ⟨v, rfl, q⟩
      · have e' : (f == k) = false := by simpa using e
        rw [e'] at h ⊢
        exact lookup_rel e2 r h
theorem de_xe {pn : PinP} {f : Str} (h : DE K b ρ te fun x => ∃ a d C l y, x = .exc a d C l ∧ pn a d C ∧ PySem.W.findIn K (.ref C) f = some none ∧ l.lookup f = some y ∧ Q y) : DE K b ρ (tXe K pn f te) Q := fun Hf H σ k fr c => by
  refine h Hf H σ _ fr fun v x Hf1 H1 e1 f1 r1 ⟨a, d, C, l, y, ex, hp, hn, hl, q⟩ => ?_
  subst ex
  cases r1 with
  | exc0 _ _ => cases hl
  | exc h1 h2 h3 =>
    obtain ⟨v', l', r'⟩ := lookup_rel h2 h3 hl
    exact ⟨a, _, C, _, v', rfl, hp, hn, f1.ex.exF _ _ h1, l', c _ _ Hf1 H1 e1 f1 r' q⟩
end
end G

set_option Elab.async false
set_option linter.all false
set_option maxRecDepth 100000
set_option maxHeartbeats 4000000
/-! DLoop: repr, is with truth values, targets, loops, comprehensions. -/
namespace G
open PySem PySem.Spec PyProof.Rows L2
/-! ### repr -/
def SysD (base : Heap) : Prop := ∃ o es ep, base.get? sysModules = some o ∧ o.data = .dict es ep
section
variable {X : Cx} {pins : Pins} {σ : L2.St} {H : Hp} {s : Shared}
theorem not_sys (hS : SysD X.base) (I : Inv X pins σ H s) {a : Addr} {o : HO} (h : H a = some o) : a ≠ sysModules := fun z => by
  obtain ⟨o', es, ep, e, _⟩ := hS
  have q := (I.bs sysModules o' e).2
  rw [← z, h] at q
  cases q
theorem pairs_read (I : Inv X pins σ H s) : ∀ {es : List DictEntry} {kvs : List (Key × Value)}, Pairs (mixKind X.prog X.w) es kvs → ∃ as, ReadsAll s.heap (es.map (·.key)) (kvs.map fun p => keyPy p.1) as ∧ as = []
  | _, _, .nil => ⟨[], .nil, rfl⟩
  | _, _, .cons (e := e) (kv := kv) h1 h2 h3 => by
    obtain ⟨as, r, ea⟩ := pairs_read I h3
    subst ea
    have h1' : keyIs kv.1 e.key = true := h1
    obtain ⟨k, v⟩ := kv
    rcases keyIs_shape h1' with ⟨i, t, e1, e2⟩ | ⟨x, t, e1, e2⟩
    · have e1' : k = Sum.inl i := e1
      subst e1'
      refine ⟨[] ++ [], ?_, rfl⟩
      show ReadsAll s.heap (e.key :: _) (PyData.int i :: _) _
      rw [e2]
      exact .cons (.int i t) r
    · have e1' : k = Sum.inr x := e1
      subst e1'
      refine ⟨[] ++ [], ?_, rfl⟩
      show ReadsAll s.heap (e.key :: _) (PyData.str x :: _) _
      rw [e2]
      exact .cons (.str x t) r
theorem pairs_val : ∀ {es : List DictEntry} {kvs : List (Key × Value)}, Pairs (mixKind X.prog X.w) es kvs → es.map (·.val) = kvs.map (·.2)
  | _, _, .nil => rfl
  | _, _, .cons h1 h2 h3 => by
    rw [List.map_cons, List.map_cons, pairs_val h3, h2]
theorem kv_split : ∀ {xs : List (Key × V)} {vs : List (Key × Value)}, KV xs vs → xs.map (·.1) = vs.map (·.1) ∧ Vals (xs.map (·.2)) (vs.map (·.2))
  | _, _, .nil => ⟨rfl, .nil⟩
  | _, _, .cons ⟨e, r⟩ t => by
    obtain ⟨a, b⟩ := kv_split t
    exact ⟨by rw [List.map_cons, List.map_cons, e, a], .cons r b⟩
theorem pyK_split : ∀ (l : List (Key × D)), (D.pyK l).map (·.1) = l.map (fun p => keyPy p.1) ∧ (D.pyK l).map (·.2) = D.pyL (l.map (·.2))
  | [] => ⟨by simp [D.pyK], by simp [D.pyK, D.pyL]⟩
  | (k, d) :: r => by
    obtain ⟨a, b⟩ := pyK_split r
    constructor
    · simp only [D.pyK, List.map_cons, a]
    · simp only [D.pyK, List.map_cons, b, D.pyL]
theorem plK_vals : ∀ (l : List (Key × D)), D.plK l = D.plL (l.map (·.2))
  | [] => by simp [D.plK, D.plL]
  | (k, d) :: r => by simp only [D.plK, D.plL, List.map_cons, plK_vals r]
mutual
theorem Rp.reads (hS : SysD X.base) (I : Inv X pins σ H s) : ∀ (d : D) (v : V) (u : Value), Rp X.K H v d → d.pl = true → RelV v u → ∃ as, Reads s.heap u d.py as ∧ sysModules ∉ as
  | .non, _, _, .non, _, r => by
    cases r
    exact ⟨[], by simpa only [D.py] using Reads.none, by simp⟩
  | .bl c, _, _, .bl _, _, r => by
    cases r
    exact ⟨[], by simpa only [D.py] using Reads.bool c, by simp⟩
  | .int i, _, _, .int _, _, r => by
    obtain ⟨t, rfl⟩ := r
    exact ⟨[], by simpa only [D.py] using Reads.int i t, by simp⟩
  | .str x, _, _, .str _, _, r => by
    obtain ⟨t, rfl⟩ := r
    exact ⟨[], by simpa only [D.py] using Reads.str x t, by simp⟩
  | .ty _, _, _, _, h, _ => by simp [D.pl] at h
  | .fn _, _, _, _, h, _ => by simp [D.pl] at h
  | .tup l, _, _, .tup h1 h2, h, r => by
    cases r
    obtain ⟨its, rv, ⟨o, ho, hc, n, hd⟩, _⟩ := I.tuple h1
    obtain ⟨as, hr, hn⟩ := RpA.reads hS I l _ its h2 (by simpa [D.pl] using h) rv
    exact ⟨as, by simp only [D.py]; exact Reads.tuple ho hc hd hr, hn⟩
  | .lst l, _, _, .lst h1 h2, h, r => by
    cases r
    have ne := not_sys hS I h1
    obtain ⟨its, rv, ⟨o, n, ho, hc, _, hd⟩, _⟩ := I.list (SqL.of h1)
    obtain ⟨as, hr, hn⟩ := RpA.reads hS I l _ its h2 (by simpa [D.pl] using h) rv
    exact ⟨_ :: as, by simp only [D.py]; exact Reads.list ho hc hd hr, fun z => (List.mem_cons.mp z).elim (fun y => ne y.symm) hn⟩
  | .dic l, _, _, .dic h1 h2 h3, h, r => by
    cases r
    have ne := not_sys hS I h1
    obtain ⟨_, _, vs, kv, o, es, ep, ho, hx, hd, _, hp, _⟩ := I.hok _ _ h1
    obtain ⟨k1, k2⟩ := kv_split kv
    obtain ⟨bs, hb, eb⟩ := pairs_read I hp
    subst eb
    obtain ⟨as, hr, hn⟩ := RpA.reads hS I (l.map (·.2)) _ (vs.map (·.2)) h3 (by rw [← plK_vals]; simpa [D.pl] using h) k2
    obtain ⟨p1, p2⟩ := pyK_split l
    refine ⟨_ :: [] ++ as, ?_, fun z => (List.mem_cons.mp z).elim (fun y => ne y.symm) fun y => hn (by simpa using y)⟩
    simp only [D.py]
    refine Reads.dict ho hx.1 hd ?_ ?_
    · rw [p1]
      have e : l.map (fun p => keyPy p.1) = vs.map (fun p => keyPy p.1) := by
        have q : ∀ (f : Key → PyData) (a : List (Key × D)) (b : List (Key × Value)), a.map (·.1) = b.map (·.1) → a.map (fun p => f p.1) = b.map (fun p => f p.1) := fun f a b e => by
          have e' := congrArg (List.map f) e
          rw [List.map_map, List.map_map] at e'
          exact e'
        exact q keyPy l vs (h2.symm.trans k1)
      rw [e]
      exact hb
    · rw [p2, pairs_val hp]
      exact hr
  | .obj _ _, _, _, _, h, _ => by simp [D.pl] at h
  | .exc _ _ _ _, _, _, _, h, _ => by simp [D.pl] at h
theorem RpA.reads (hS : SysD X.base) (I : Inv X pins σ H s) : ∀ (ds : List D) (vs : List V) (us : List Value), RpA X.K H vs ds → D.plL ds = true → Vals vs us → ∃ as, ReadsAll s.heap us (D.pyL ds) as ∧ sysModules ∉ as
  | [], _, _, .nil, _, r => by
    cases r
    exact ⟨[], by simp only [D.pyL]; exact ReadsAll.nil, by simp⟩
  | d :: ds, _, _, .cons h1 h2, h, r => by
    cases r with
    | cons r1 r2 =>
      simp only [D.plL, Bool.and_eq_true] at h
      obtain ⟨as, q1, n1⟩ := Rp.reads hS I d _ _ h1 h.1 r1
      obtain ⟨bs, q2, n2⟩ := RpA.reads hS I ds _ _ h2 h.2 r2
      exact ⟨as ++ bs, by simp only [D.pyL]; exact ReadsAll.cons q1 q2, fun z => (List.mem_append.mp z).elim n1 n2⟩
end
end
end G

set_option Elab.async false
set_option linter.all false
set_option maxRecDepth 100000
set_option maxHeartbeats 4000000
/-! DFlow: repr over data, is with truth values, targets, loops, try, raise. -/
namespace G
open PySem PySem.Spec PyProof.Rows L2
section
variable {K : PySem.W.Frag} {b : Bs} {ρ : List Sl} {ta tb te tc : TE} {tt tu : TT} {tr : TA} {Q : D → Prop} {H Hf : Hp}
/-! ### repr -/
def rRepr (K : PySem.W.Frag) : List V → Hp → VK → Prop := fun xs H Q => ∃ x d, xs = [x] ∧ Rp K H x d ∧ d.pl = true ∧ d.py.showable = true ∧ d.py.depth ≤ 60 ∧ d.py.shown.length ≤ sizeLine ∧ Q (.str d.py.shown) H
theorem call_repr {X : Cx} (hS : SysD X.base) (hg : X.A.guards = some []) (hu : X.A.units + 64 < cLine) : CallR X (.builtin "repr") (rRepr X.K) := by
  intro pins s σ H xs us Q I r h
  obtain ⟨x, d, rfl, rp, hp, hs, hd, hz, q⟩ := h
  obtain ⟨u, rfl, rx⟩ := vals1 r
  have byRef : ∀ a, u = Value.ref a → wpAny (model X.prog X.w) X.A (call (.builtin "repr") [u]) (EP X pins σ Q) X.xe s := fun a e => by
    obtain ⟨as, hr, hn⟩ := Rp.reads hS I d x u rp hp rx
    subst e
    refine repr_of_reads' hr hs (fun _ => hn) hg (by omega) (fun _ _ e => e) (fun h' u' tk hk => ?_) hz
    exact ⟨.str _, H, I.kept (t' := tk) hk, ⟨_, rfl⟩, q⟩
  cases rp with
  | non =>
    cases rx
    exact PySem.P.repr_of_none ⟨.str _, H, I.tok _, ⟨_, rfl⟩, by simpa [D.py, PyData.shown] using q⟩
  | bl c =>
    cases rx
    exact PySem.P.repr_of_bool ⟨.str _, H, I.tok _, ⟨_, rfl⟩, by simpa [D.py, PyData.shown] using q⟩
  | int i =>
    obtain ⟨t, rfl⟩ := rx
    exact PySem.P.repr_of_int (by simpa [D.py, PyData.showable] using hs) ⟨.str _, H, I.tok _, ⟨_, rfl⟩, by simpa [D.py, PyData.shown] using q⟩
  | str z =>
    obtain ⟨t, rfl⟩ := rx
    exact PySem.P.repr_of_str ⟨.str _, H, I.tok _, ⟨_, rfl⟩, by simpa [D.py, PyData.shown] using q⟩ (by simpa [D.py, PyData.shown] using hz)
  | ty _ => simp [D.pl] at hp
  | fn _ => simp [D.pl] at hp
  | tup _ _ => exact byRef _ rx
  | lst _ _ => exact byRef _ rx
  | dic _ _ _ => exact byRef _ rx
  | obj _ _ _ => simp [D.pl] at hp
  | exc _ _ _ => simp [D.pl] at hp
  | exc0 _ _ => simp [D.pl] at hp
def okR (d : D) : Prop := d.pl = true ∧ d.py.showable = true ∧ d.py.depth ≤ 60 ∧ d.py.shown.length ≤ 100000
theorem de_repr (h : DE K b ρ ta fun x => okR x ∧ Q (.str x.py.shown)) : DE K b ρ (tCB (rRepr K) (tCons ta tNil)) Q :=
  de_cb1 (h.imp fun x ⟨⟨h1, h2, h3, h4⟩, q⟩ Hf H σ k v f rv c => ⟨v, x, rfl, rv.up f.ex.exF, h1, h2, h3, small_line h4, c _ _ Hf H Up.refl f (.str _) q⟩)
/-! ### is True, is False -/
def rIsBl : R2 := fun x y H Q => ∃ c, y = .bl c ∧ Q (.bl (decide (x = .bl c))) H
theorem op_isBlV {X : Cx} : OpR X (compareOp .Is) rIsBl := by
  intro pins s σ H x y v u Q I rx ry h
  obtain ⟨c, rfl, q⟩ := h
  cases (show u = Value.bool c from ry)
  have e : (v == Value.bool c) = decide (x = V.bl c) := by
    cases x with
    | non => cases rx; rfl
    | bl d =>
      cases (show v = Value.bool d from rx)
      cases c <;> cases d <;> rfl
    | int _ => obtain ⟨t, rfl⟩ := rx; rfl
    | str _ => obtain ⟨t, rfl⟩ := rx; rfl
    | byt _ => obtain ⟨t, rfl⟩ := rx; rfl
    | flt _ => obtain ⟨t, rfl⟩ := rx; rfl
    | ref _ => cases rx; rfl
    | ty _ => cases rx; rfl
  have go : wpAny (model X.prog X.w) X.A (pure (Value.bool (v == Value.bool c))) (EP X pins σ Q) X.xe s := wpAny_pure ⟨.bl _, H, I, by rw [e]; rfl, q⟩
  cases x with
  | non => cases rx; exact go
  | bl d => cases (show v = Value.bool d from rx); exact go
  | int _ => obtain ⟨t, rfl⟩ := rx; exact go
  | str _ => obtain ⟨t, rfl⟩ := rx; exact go
  | byt _ => obtain ⟨t, rfl⟩ := rx; exact go
  | flt _ => obtain ⟨t, rfl⟩ := rx; exact go
  | ref _ => cases rx; exact go
  | ty _ => cases rx; exact go
def isB (x : D) (c : Bool) : Bool := match x with
  | .bl d => d == c
  | _ => false
theorem de_isBl {c : Bool} (h : DE K b ρ ta fun x => Q (.bl (isB x c))) : DE K b ρ (tOp rIsBl ta (tC (.bl c))) Q := fun Hf H σ k fr cc => by
  refine h Hf H σ _ fr fun v x Hf1 H1 e1 f1 r1 q => ?_
  refine ⟨c, rfl, ?_⟩
  have e : decide (v = V.bl c) = isB x c := by
    cases r1 <;> first | rfl | skip
    rename_i d
    cases c <;> cases d <;> rfl
  rw [e]
  exact cc _ _ Hf1 H1 e1 f1 (.bl _) q
/-! ### targets -/
def DG (K : PySem.W.Frag) (b : Bs) (ρ : List Sl) (g : TG) (x : D) (Q : List Sl → Prop) : Prop := ∀ (Hf H : Hp) (σ : L2.St) (v : V) (k : L2.St → Hp → Prop), Fm K b Hf H σ ρ → Rp K Hf v x →
  (∀ ρ' σ' Hf' H', Ex Hf Hf' → Fm K b Hf' H' σ' ρ' → Q ρ' → k σ' H') → g v σ H k
def DGs (K : PySem.W.Frag) (b : Bs) (ρ : List Sl) (g : TGs) (xs : List D) (Q : List Sl → Prop) : Prop := ∀ (Hf H : Hp) (σ : L2.St) (vs : List V) (k : L2.St → Hp → Prop), Fm K b Hf H σ ρ → RpA K Hf vs xs →
  (∀ ρ' σ' Hf' H', Ex Hf Hf' → Fm K b Hf' H' σ' ρ' → Q ρ' → k σ' H') → g vs σ H k
variable {x : D} {xs : List D} {R : List Sl → Prop} {g : TG} {gs : TGs}
theorem dg_name {i : Nat} (q : R (ρ.set i (.sh x))) : DG K b ρ (gName i) x R := fun Hf H σ v k fr r c => c _ _ Hf H (Ex.refl _) (fr.set r) q
theorem dgs_nil (q : R ρ) : DGs K b ρ gNil [] R := fun Hf H σ vs k fr r c => by
  cases r
  exact ⟨rfl, c _ _ Hf H (Ex.refl _) fr q⟩
theorem dgs_cons (h : DG K b ρ g x fun ρ' => DGs K b ρ' gs xs R) : DGs K b ρ (gCons g gs) (x :: xs) R := fun Hf H σ vs k fr r c => by
  cases r with
  | cons r1 r2 =>
    refine ⟨_, _, rfl, ?_⟩
    refine h Hf H σ _ _ fr r1 fun ρ' σ' Hf' H' e f q => ?_
    exact q Hf' H' σ' _ _ f (r2.up e) fun ρ2 σ2 Hf2 H2 e2 f2 q2 => c ρ2 σ2 Hf2 H2 (e.trans e2) f2 q2
theorem dg_tup {n : Nat} {l : List D} (hx : x = .tup l) (hn : l.length = n) (h : DGs K b ρ gs l R) : DG K b ρ (gTup K n gs) x R := fun Hf H σ v k fr r c => by
  subst hx
  cases r with
  | tup h1 h2 => exact ⟨_, _, rfl, fr.ex.exF.st h1, by rw [h2.len]; exact hn, h Hf H σ _ k fr h2 c⟩
variable {nx bk ct : List Sl → Prop} {rt : D → Prop} {ts tw tb' : TS}
theorem ds_asgG (h : DE K b ρ te fun d => DG K b ρ g d nx) : DS K b ρ (tAsg te g) nx rt bk ct := fun Hf H σ D fr n r bk ct =>
  h Hf H σ _ fr fun v d Hf' H' e f rp q => q Hf' H' σ v _ f rp fun ρ2 σ2 Hf2 H2 e2 f2 q2 => n ρ2 σ2 Hf2 H2 (e.1.trans e2) f2 q2
/-- a, b = x, y -/
theorem ds_par {i j : Nat} (h : DA K b ρ tr fun l => ∃ x y, l = [x, y] ∧ nx ((ρ.set i (.sh x)).set j (.sh y))) : DS K b ρ (tPar i j tr) nx rt bk ct := fun Hf H σ D fr n r bk ct => by
  refine h Hf H σ _ fr fun vs ds Hf1 H1 e1 f1 r1 ⟨x, y, e, q⟩ => ?_
  subst e
  cases r1 with
  | cons q1 r1 =>
    cases r1 with
    | cons q2 r1 =>
      cases r1
      exact ⟨_, _, rfl, n _ _ Hf1 H1 e1.1 ((f1.set q1).set q2) q⟩
/-- x op= e of ints -/
theorem ds_aug {i : Nat} {f : Int → Int → Int} {a : Int} (hi : ρ[i]? = some (.sh (.int a))) (h : DE K b ρ te fun y => ∃ j, y = .int j ∧ nx (ρ.set i (.sh (.int (f a j))))) : DS K b ρ (tAug i te (ipI f)) nx rt bk ct := fun Hf H σ D fr n r bk ct => by
  have hl : i < σ.length := by rw [fr.len]; exact (List.getElem?_eq_some_iff.mp hi).1
  have ho : σ[i]? = some σ[i] := List.getElem?_eq_getElem hl
  have z := fr.sl i _ _ ho hi
  generalize σ[i] = o at ho z
  match o, z with
  | none, z => exact z.elim
  | some v, z =>
    have ev := Rp.int_inv z
    subst ev
    refine ⟨.int a, ho, ?_⟩
    refine h Hf H σ _ fr fun v d Hf1 H1 e1 f1 r1 ⟨j, e, q⟩ => ?_
    subst e
    exact ⟨a, j, rfl, r1.int_inv, n _ _ Hf1 H1 e1.1 (f1.set (.int _)) q⟩
/-! ### loops -/
theorem ds_while (I : Nat → List Sl → Prop) (m : Nat) (h0 : I m ρ) (hs : ∀ m ρ', I m ρ' → DT K b ρ' tt fun c => if c = true then DS K b ρ' tb' (fun ρ2 => ∃ m', m' < m ∧ I m' ρ2) rt nx (fun ρ2 => ∃ m', m' < m ∧ I m' ρ2) else nx ρ') :
    DS K b ρ (tWhile tt tb') nx rt bk ct := fun Hf H σ D fr n r bk ct => by
  refine ⟨fun m σ' H' => ∃ ρ' Hf', Ex Hf Hf' ∧ Fm K b Hf' H' σ' ρ' ∧ I m ρ', ⟨m, ρ, Hf, Ex.refl _, fr, h0⟩, fun m σ' H' ⟨ρ', Hf', e, f, hI⟩ => ?_⟩
  refine hs m ρ' hI Hf' H' σ' _ f fun c Hf1 H1 e1 f1 q => ?_
  cases c with
  | true =>
    refine iteT ⟨fun σ2 H2 => ∃ m', m' < m ∧ ∃ ρ2 Hf2, Ex Hf Hf2 ∧ Fm K b Hf2 H2 σ2 ρ2 ∧ I m' ρ2, fun σ2 H2 z => z, ?_⟩
    refine (show DS K b ρ' tb' _ _ _ _ from q) Hf1 H1 σ' _ f1 (fun ρ2 σ2 Hf2 H2 e2 f2 ⟨m', hm, q2⟩ => ⟨m', hm, ρ2, Hf2, e.trans (e1.1.trans e2), f2, q2⟩) (fun v d Hf2 H2 e2 x2 r2 q2 => r v d Hf2 H2 (e.trans (e1.1.trans e2)) x2 r2 q2)
      (fun ρ2 σ2 Hf2 H2 e2 f2 q2 => n ρ2 σ2 Hf2 H2 (e.trans (e1.1.trans e2)) f2 q2) (fun ρ2 σ2 Hf2 H2 e2 f2 ⟨m', hm, q2⟩ => ⟨m', hm, ρ2, Hf2, e.trans (e1.1.trans e2), f2, q2⟩)
  | false => exact iteF (n ρ' σ' Hf1 H1 (e.trans e1.1) f1 q)
theorem ds_forN {lo : Int} {m : Nat} {wi : TI} {Hf1 H1 : Hp} {σ1 : L2.St} {D : Ends} (I : Nat → List Sl → Prop) (f1 : Fm K b Hf1 H1 σ1 ρ) (h0 : I 0 ρ) (hs : ∀ (i : Nat) ρ', i < m → I i ρ' → DG K b ρ' g (.int (lo + i)) fun ρ2 => DS K b ρ2 tb' (I (i + 1)) rt nx (I (i + 1))) (hd : ∀ ρ', I m ρ' → nx ρ')
    (n : ∀ ρ' σ' Hf' H', Ex Hf1 Hf' → Fm K b Hf' H' σ' ρ' → nx ρ' → D.nx σ' H') (r : ∀ v d Hf' H', Ex Hf1 Hf' → Exit K b Hf' H' → Rp K Hf' v d → rt d → D.rt v H') :
    ∃ W : Nat → Nat → L2.St → Hp → Prop, (∃ m, W 0 m σ1 H1) ∧ ∀ i m' σ H, W i m' σ H →
      ((Itr lo m).stop i H ∧ D.nx σ H) ∨ ((Itr lo m).go i H ∧ ∃ N : L2.St → Hp → Prop, (∀ σ' H', N σ' H' → ∃ m2, m2 < m' ∧ W (i + 1) m2 σ' H') ∧ ∀ x H', (Itr lo m).yld i H x H' → g x σ H' fun σ2 H2 => tb' { D with nx := N, ct := N, bk := D.nx } σ2 H2) := by
  refine for_range (fun i σ' H' => ∃ ρ' Hf', Ex Hf1 Hf' ∧ Fm K b Hf' H' σ' ρ' ∧ I i ρ') ⟨ρ, Hf1, Ex.refl _, f1, h0⟩ (fun i σ' H' hi ⟨ρ', Hf', e, f, hI⟩ => ?_) (fun σ' H' ⟨ρ', Hf', e, f, hI⟩ => n ρ' σ' Hf' H' e f (hd ρ' hI))
  refine hs i ρ' hi hI Hf' H' σ' _ _ f (.int _) fun ρ2 σ2 Hf2 H2 e2 f2 q => ?_
  exact q Hf2 H2 σ2 _ f2 (fun ρ3 σ3 Hf3 H3 e3 f3 q3 => ⟨ρ3, Hf3, e.trans (e2.trans e3), f3, q3⟩) (fun v d Hf3 H3 e3 x3 r3 q3 => r v d Hf3 H3 (e.trans (e2.trans e3)) x3 r3 q3)
    (fun ρ3 σ3 Hf3 H3 e3 f3 q3 => n ρ3 σ3 Hf3 H3 (e.trans (e2.trans e3)) f3 q3) (fun ρ3 σ3 Hf3 H3 e3 f3 q3 => ⟨ρ3, Hf3, e.trans (e2.trans e3), f3, q3⟩)
theorem ds_forR1 (h : DA K b ρ tr fun l => ∃ j : Int, l = [.int j] ∧ -(2 ^ 60) ≤ j ∧ j ≤ 2 ^ 60 ∧ ∃ I : Nat → List Sl → Prop, I 0 ρ ∧ (∀ (i : Nat) ρ', i < j.toNat → I i ρ' → DG K b ρ' g (.int i) fun ρ2 => DS K b ρ2 tb' (I (i + 1)) rt nx (I (i + 1))) ∧ ∀ ρ', I j.toNat ρ' → nx ρ') :
    DS K b ρ (tFor (iRng1 tr) g tb') nx rt bk ct := fun Hf H σ D fr n r bk ct => by
  refine h Hf H σ _ fr fun vs ds Hf1 H1 e1 f1 r1 ⟨j, e, l1, l2, I, h0, hs, hd⟩ => ?_
  subst e
  cases r1 with
  | cons q1 r1 =>
    cases r1
    have e := q1.int_inv
    subst e
    refine ⟨j, rfl, by omega, by omega, ?_⟩
    exact ds_forN (wi := iRng1 tr) (nx := nx) (rt := rt) I f1 h0 (fun i ρ' hi hI => by rw [Int.zero_add]; exact hs i ρ' hi hI) hd (fun ρ' σ' Hf' H' e f q => n ρ' σ' Hf' H' (e1.1.trans e) f q) (fun v d Hf' H' e x r' q => r v d Hf' H' (e1.1.trans e) x r' q)
theorem ds_forR2 (h : DA K b ρ tr fun l => ∃ i0 j : Int, l = [.int i0, .int j] ∧ -(2 ^ 60) ≤ i0 ∧ i0 ≤ 2 ^ 60 ∧ -(2 ^ 60) ≤ j ∧ j ≤ 2 ^ 60 ∧ ∃ I : Nat → List Sl → Prop, I 0 ρ ∧ (∀ (i : Nat) ρ', i < (j - i0).toNat → I i ρ' → DG K b ρ' g (.int (i0 + i)) fun ρ2 => DS K b ρ2 tb' (I (i + 1)) rt nx (I (i + 1))) ∧ ∀ ρ', I (j - i0).toNat ρ' → nx ρ') :
    DS K b ρ (tFor (iRng2 tr) g tb') nx rt bk ct := fun Hf H σ D fr n r bk ct => by
  refine h Hf H σ _ fr fun vs ds Hf1 H1 e1 f1 r1 ⟨i0, j, e, l1, l2, l3, l4, I, h0, hs, hd⟩ => ?_
  subst e
  cases r1 with
  | cons q1 r1 =>
    cases r1 with
    | cons q2 r1 =>
      cases r1
      have e := q1.int_inv
      subst e
      have e := q2.int_inv
      subst e
      refine ⟨i0, j, rfl, by omega, ?_⟩
      exact ds_forN (wi := iRng2 tr) (nx := nx) (rt := rt) I f1 h0 hs hd (fun ρ' σ' Hf' H' e f q => n ρ' σ' Hf' H' (e1.1.trans e) f q) (fun v d Hf' H' e x r' q => r v d Hf' H' (e1.1.trans e) x r' q)
/-- a list or a tuple, walked -/
def iSeq (K : PySem.W.Frag) (tl : TE) : TI := fun σ H R => tl σ H fun x H1 => ∃ a, x = .ref a ∧ (((∃ xs, SqL K H1 a xs) ∧ R (Itl K a) H1) ∨ ((∃ xs, SqT K H1 a xs) ∧ R (Itt K a) H1))
theorem pi_seq {X : Cx} {tg l : Expr} {tl : TE} (hl : PE X l tl) : PI X tg l (iSeq X.K tl) := by
  refine ⟨fun pins s σ H R I h => ?_⟩
  refine thn (hl.run pins s σ H _ I h) ?_
  intro v s1 z
  obtain ⟨x, H1, I1, r1, a, ex, q1⟩ := z
  subst ex
  cases r1
  have I2 : Inv X pins σ H1 { s1 with heap := s1.heap } := I1
  have fresh := I1.hok.fresh (Nat.le_refl s1.heap.objs.size)
  cases q1 with
  | inl q1 =>
    obtain ⟨⟨xs, hq⟩, q⟩ := q1
    obtain ⟨its, rv, p, _⟩ := I1.list hq
    refine wpAny_pyIter_list p.isList ?_
    refine ⟨_, [s1.heap.objs.size], _, _, H1, rfl, ?_, turn_list a _, ?_, ?_, q⟩
    · exact I1.kept (t' := s1.toks) fun b o e => Heap.get?_push_of_some _ e
    · exact ⟨_, Heap.get?_push_size _ rfl, rfl, rfl⟩
    · intro c hc
      rw [List.mem_singleton.mp hc]
      exact I1.fpOk (Nat.le_refl _) fresh
  | inr q1 =>
    obtain ⟨⟨xs, hq⟩, q⟩ := q1
    obtain ⟨its, rv, p, _⟩ := I1.tuple hq
    refine wpAny_pyIter_tuple (show s1.heap.IsTuple a its.toArray from p) ?_
    refine ⟨_, [s1.heap.objs.size], _, _, H1, rfl, ?_, turn_tuple a _, ?_, ?_, q⟩
    · exact I1.kept (t' := s1.toks) fun b o e => Heap.get?_push_of_some _ e
    · exact ⟨_, Heap.get?_push_size _ rfl, rfl, rfl⟩
    · intro c hc
      rw [List.mem_singleton.mp hc]
      exact I1.fpOk (Nat.le_refl _) fresh
theorem ds_forS (h : DE K b ρ ta fun x => ∃ l, seqD x = some l ∧ ∃ I : Nat → List Sl → Prop, I 0 ρ ∧ (∀ (i : Nat) d ρ', l[i]? = some d → I i ρ' → DG K b ρ' g d fun ρ2 => DS K b ρ2 tb' (I (i + 1)) rt nx (I (i + 1))) ∧ ∀ ρ', I l.length ρ' → nx ρ') :
    DS K b ρ (tFor (iSeq K ta) g tb') nx rt bk ct := fun Hf H σ D fr n r bk ct => by
  refine h Hf H σ _ fr fun v x Hf1 H1 e1 f1 r1 ⟨l, el, I, h0, hs, hd⟩ => ?_
  have turn : ∀ {xs : List V} (rx : RpA K Hf1 xs l) (i : Nat) (y : V) (σ' : L2.St) (H' : Hp), xs[i]? = some y → (∃ ρ' Hf', Ex Hf1 Hf' ∧ Fm K b Hf' H' σ' ρ' ∧ I i ρ') →
      g y σ' H' fun σ2 H2 => tb' { D with nx := fun σ3 H3 => ∃ ρ' Hf', Ex Hf1 Hf' ∧ Fm K b Hf' H3 σ3 ρ' ∧ I (i + 1) ρ', ct := fun σ3 H3 => ∃ ρ' Hf', Ex Hf1 Hf' ∧ Fm K b Hf' H3 σ3 ρ' ∧ I (i + 1) ρ', bk := D.nx } σ2 H2 := fun rx i y σ' H' hi ⟨ρ', Hf', e, f, hI⟩ => by
    obtain ⟨d, hd', rd⟩ := rx.at' hi
    refine hs i d ρ' hd' hI Hf' H' σ' _ _ f (rd.up e) fun ρ2 σ2 Hf2 H2 e2 f2 q => ?_
    exact q Hf2 H2 σ2 _ f2 (fun ρ3 σ3 Hf3 H3 e3 f3 q3 => ⟨ρ3, Hf3, e.trans (e2.trans e3), f3, q3⟩) (fun v d Hf3 H3 e3 x3 r3 q3 => r v d Hf3 H3 (e1.1.trans (e.trans (e2.trans e3))) x3 r3 q3)
      (fun ρ3 σ3 Hf3 H3 e3 f3 q3 => n ρ3 σ3 Hf3 H3 (e1.1.trans (e.trans (e2.trans e3))) f3 q3) (fun ρ3 σ3 Hf3 H3 e3 f3 q3 => ⟨ρ3, Hf3, e.trans (e2.trans e3), f3, q3⟩)
  have fin : ∀ σ' H', (∃ ρ' Hf', Ex Hf1 Hf' ∧ Fm K b Hf' H' σ' ρ' ∧ I l.length ρ') → D.nx σ' H' := fun σ' H' ⟨ρ', Hf', e, f, hI⟩ => n ρ' σ' Hf' H' (e1.1.trans e) f (hd ρ' hI)
  cases r1 with
  | tup h1 h2 =>
    cases el
    refine ⟨_, rfl, Or.inr ⟨⟨_, f1.ex.exF.st h1⟩, ?_⟩⟩
    exact for_tup (fun i σ' H' => ∃ ρ' Hf', Ex Hf1 Hf' ∧ Fm K b Hf' H' σ' ρ' ∧ I i ρ') ⟨ρ, Hf1, Ex.refl _, f1, h0⟩ (fun i σ' H' _ ⟨ρ', Hf', e, f, _⟩ => f.ex.exF.st (e.st h1)) (fun i y σ' H' hi p => turn h2 i y σ' H' hi p) (fun σ' H' p => fin σ' H' (by rw [← h2.len]; exact p))
  | lst h1 h2 =>
    cases el
    refine ⟨_, rfl, Or.inl ⟨⟨_, SqL.of (f1.ex.exF _ _ h1)⟩, ?_⟩⟩
    exact for_list (fun i σ' H' => ∃ ρ' Hf', Ex Hf1 Hf' ∧ Fm K b Hf' H' σ' ρ' ∧ I i ρ') ⟨ρ, Hf1, Ex.refl _, f1, h0⟩ (fun i σ' H' _ ⟨ρ', Hf', e, f, _⟩ => SqL.of (f.ex.exF _ _ (e _ _ h1))) (fun i y σ' H' hi p => turn h2 i y σ' H' hi p) (fun σ' H' p => fin σ' H' (by rw [← h2.len]; exact p))
  | non => cases el
  | bl _ => cases el
  | int _ => cases el
  | str _ => cases el
  | ty _ => cases el
  | fn _ => cases el
  | dic _ _ _ => cases el
  | obj _ _ _ => cases el
  | exc _ _ _ => cases el
  | exc0 _ _ => cases el
end
end G

set_option Elab.async false
set_option linter.all false
set_option maxRecDepth 100000
set_option maxHeartbeats 4000000
/-! DErr: own errors made, raised, caught, over data. -/
namespace G
open PySem PySem.Spec PyProof.Rows L2
/-! ### __init__ of an error that keeps its arguments -/
structure Inited (H H2 : Hp) (a C d : Addr) (fs : List (Str × V)) : Prop where
  obj : H2 a = some (exo a C (some d))
  dct : H2 d = some (exd d fs)
  new : H d = none
  ne : d ≠ a
  old : ∀ b, b ≠ a → b ≠ d → H2 b = H b
def spInit (C : Addr) (names : List Str) : Sp := fun vs H Q _ => ∃ (a : Addr) (ys : List V), vs = .ref a :: ys ∧ ys.length = names.length ∧ H a = some (exo a C none) ∧ ∀ d H2, Inited H H2 a C d (names.zip ys).reverse → Q .non H2
section
variable {K : PySem.W.Frag} {f : Str} {i : Nat} {y : V} {a C d : Addr} {σ : L2.St} {H H0 : Hp} {D : Ends} {fs : List (Str × V)} {ts : TS}
theorem ost_first (h0 : σ[0]? = some (some (.ref a))) (hi : σ[i]? = some (some y)) (T : OexC K C) (n : PySem.W.findIn K (.ref C) f = some none) (hH : H a = some (exo a C none)) (k : ∀ d H2, Inited H H2 a C d [(f, y)] → D.nx σ H2) :
    tOst K f (tVar 0) (tVar i) D σ H := by
  refine ⟨y, hi, _, h0, a, C, rfl, T, n, Or.inl ⟨hH, fun d hd ne => ?_⟩⟩
  refine k d _ { obj := upd_same, dct := ?_, new := hd, ne := ne, old := fun b h1 h2 => ?_ }
  · rw [upd_ne ne, upd_same]
  · rw [upd_ne h1, upd_ne h2]
theorem ost_next (h0 : σ[0]? = some (some (.ref a))) (hi : σ[i]? = some (some y)) (T : OexC K C) (n : PySem.W.findIn K (.ref C) f = some none) (J : Inited H0 H a C d fs) (hl : fs.length ≤ 900) (k : ∀ H2, Inited H0 H2 a C d ((f, y) :: fs) → D.nx σ H2) :
    tOst K f (tVar 0) (tVar i) D σ H := by
  refine ⟨y, hi, _, h0, a, C, rfl, T, n, Or.inr ⟨d, fs, J.obj, J.dct, hl, ?_⟩⟩
  refine k _ { obj := ?_, dct := upd_same, new := J.new, ne := J.ne, old := fun b h1 h2 => ?_ }
  · rw [upd_ne J.ne.symm]; exact J.obj
  · rw [upd_ne h2]; exact J.old b h1 h2
end
section
variable {P : Program} {w : World} {K : PySem.W.Frag} {mg : Str → Option Value} {base : Heap} {C fI : Addr} {fd : FuncData} {qual a1 a2 a3 f1 f2 f3 : Str} {st : Stmt}
/-- self.f1 = a1 -/
theorem init1 (F : Fun K "__init__" qual st fI fd) (S : FnScope (["self", a1] : List Str) (["self", a1] : List Str) (defScope st)) (T : OexC K C) (n1 : PySem.W.findIn K (.ref C) f1 = some none)
    (body : ∀ (cdv : Value) (A : Around) (outer : List Env) (s : Shared) (H : Hp) (E : XK), PSs (cxOf CX0 P w K mg base (["self", a1] : List Str) qual (defScope st) fI cdv A outer s H E).nox (defBody st) (tOst K f1 (tVar 0) (tVar 1))) : FnOk P w K mg base CX0 1 fI fd ["self", a1] (spInit C [f1]) := by
  refine F.ok S (fun vs H Q E h => ?_) (fun cdv A outer s H vs Q E hr h => ?_)
  · obtain ⟨a, ys, rfl, hl, _⟩ := h
    simpa using hl
  · obtain ⟨a, ys, rfl, hl, hH, k⟩ := h
    match ys, hl with
    | [y], _ =>
      refine ⟨_, body cdv A outer s H E, ?_⟩
      exact ost_first (C := C) rfl rfl T n1 hH fun d H2 J => k d H2 J
theorem init2 (F : Fun K "__init__" qual st fI fd) (S : FnScope (["self", a1, a2] : List Str) (["self", a1, a2] : List Str) (defScope st)) (T : OexC K C) (n1 : PySem.W.findIn K (.ref C) f1 = some none) (n2 : PySem.W.findIn K (.ref C) f2 = some none)
    (body : ∀ (cdv : Value) (A : Around) (outer : List Env) (s : Shared) (H : Hp) (E : XK), PSs (cxOf CX0 P w K mg base (["self", a1, a2] : List Str) qual (defScope st) fI cdv A outer s H E).nox (defBody st) (tSeq (tOst K f1 (tVar 0) (tVar 1)) (tOst K f2 (tVar 0) (tVar 2)))) : FnOk P w K mg base CX0 1 fI fd ["self", a1, a2] (spInit C [f1, f2]) := by
  refine F.ok S (fun vs H Q E h => ?_) (fun cdv A outer s H vs Q E hr h => ?_)
  · obtain ⟨a, ys, rfl, hl, _⟩ := h
    simpa using hl
  · obtain ⟨a, ys, rfl, hl, hH, k⟩ := h
    match ys, hl with
    | [y, z], _ =>
      refine ⟨_, body cdv A outer s H E, ?_⟩
      exact ost_first (C := C) rfl rfl T n1 hH fun d H2 J => ost_next (C := C) rfl rfl T n2 J (by show 1 ≤ 900; decide) fun H3 J3 => k d H3 J3
theorem init3 (F : Fun K "__init__" qual st fI fd) (S : FnScope (["self", a1, a2, a3] : List Str) (["self", a1, a2, a3] : List Str) (defScope st)) (T : OexC K C) (n1 : PySem.W.findIn K (.ref C) f1 = some none) (n2 : PySem.W.findIn K (.ref C) f2 = some none) (n3 : PySem.W.findIn K (.ref C) f3 = some none)
    (body : ∀ (cdv : Value) (A : Around) (outer : List Env) (s : Shared) (H : Hp) (E : XK), PSs (cxOf CX0 P w K mg base (["self", a1, a2, a3] : List Str) qual (defScope st) fI cdv A outer s H E).nox (defBody st) (tSeq (tOst K f1 (tVar 0) (tVar 1)) (tSeq (tOst K f2 (tVar 0) (tVar 2)) (tOst K f3 (tVar 0) (tVar 3))))) : FnOk P w K mg base CX0 1 fI fd ["self", a1, a2, a3] (spInit C [f1, f2, f3]) := by
  refine F.ok S (fun vs H Q E h => ?_) (fun cdv A outer s H vs Q E hr h => ?_)
  · obtain ⟨a, ys, rfl, hl, _⟩ := h
    simpa using hl
  · obtain ⟨a, ys, rfl, hl, hH, k⟩ := h
    match ys, hl with
    | [y, z, u], _ =>
      refine ⟨_, body cdv A outer s H E, ?_⟩
      exact ost_first (C := C) rfl rfl T n1 hH fun d H2 J => ost_next (C := C) rfl rfl T n2 J (by show 1 ≤ 900; decide) fun H3 J3 => ost_next (C := C) rfl rfl T n3 J3 (by show 2 ≤ 900; decide) fun H4 J4 => k d H4 J4
end

/-! ### raise -/
def tRaise (t : L2.St → Hp → XK → Prop) (W : WX) : TS := fun _ σ H => t σ H fun cls d H' => W cls d σ H'
theorem ps_raiseN {X : Cx} {W : WX} {e : Expr} {t : L2.St → Hp → XK → Prop} {pos : Pos} (hc : X.calm = true) (tk : Takes X W) (he : PMk X e t) : PS X (.Raise (some e) none pos) (tRaise t W) := ps_raise hc tk he
/-- C(), C a class without an __init__ of its own -/
def tMk0 (C : Addr) : L2.St → Hp → XK → Prop := fun _ H Q => Q (.ref C) none H
theorem pmk_none {X : Cx} {C : Addr} {x : Str} {p pos : Pos} (q : PySem.W.excIn X.K C [.type "ValueError", .type "Exception", .type "BaseException", .type "object"] "ValueError.__new__" = true) (gC : X.mg x = some (.ref C)) (kC : PySem.W.keepIn X.K (.ref C) = true) (r : Raises X (.ref C)) (hg : Gl X x)
    (hdb : (x == ("__debug__" : Str)) = false := by decide) : PMk X (.Call (.Name x p) [] [] pos) (tMk0 C) := by
  intro pins s σ H Q I h
  refine wpAny_Call_Name_kw (ld_glob I hg gC ?_ hdb)
  refine PySem.W.callWith_K0 I.kIn kC ?_
  obtain ⟨bm, N, nm, qn, bs, hdct, sn, sub, ab, col, dd, k0, k1, k2, k3, k5, mN, hC, hN, hni, T⟩ := exc_obj I.kIn q
  refine wpAny_call_exc_subT PySem.F.excBase_ValueError T hC hN hni (fun h' e hm => ?_) (by show 0 ≤ sizeLine; exact Nat.zero_le _)
  exact mk_of I hm r h (I.hok.gone hm.new)
section
variable {K : PySem.W.Frag} {b : Bs} {ρ : List Sl} {ta : TA} {nx bk ct : List Sl → Prop} {rt : D → Prop} {E : XK} {X : Addr → List (Str × D) → Prop} {C : Addr}
theorem RpA.rev {H : Hp} : ∀ {vs : List V} {ds : List D}, RpA K H vs ds → RpA K H vs.reverse ds.reverse
  | _, _, .nil => .nil
  | _, _, .cons q r => by
    rw [List.reverse_cons, List.reverse_cons]
    exact r.rev.app (.cons q .nil)
theorem zip_keys {α : Type} : ∀ (ns : List Str) (xs : List α), xs.length = ns.length → (ns.zip xs).map (·.1) = ns ∧ (ns.zip xs).map (·.2) = xs
  | [], [], _ => ⟨rfl, rfl⟩
  | n :: ns, x :: xs, h => by
    obtain ⟨h1, h2⟩ := zip_keys ns xs (by simpa using h)
    exact ⟨by rw [List.zip_cons_cons, List.map_cons, h1], by rw [List.zip_cons_cons, List.map_cons, h2]⟩
  | [], _ :: _, h => by simp at h
  | _ :: _, [], h => by simp at h
theorem ds_raise {names : List Str} (hE : EL K b ρ (fun _ => E) X) (h : DA K b ρ ta fun ds => ds.length = names.length ∧ names.length ≤ 10 ∧ X C (names.zip ds).reverse) : DS K b ρ (tRaise (tMkO C (spInit C names) [] ta) (fun cls d _ H => E cls d H)) nx rt bk ct := fun Hf H σ D fr n r bk ct => by
  refine h Hf H σ _ fr fun vs ds Hf1 H1 e1 f1 r1 ⟨hl, hz, q⟩ => ?_
  have hv : vs.length = names.length := by rw [r1.len]; exact hl
  refine ⟨by omega, fun a ha => ?_⟩
  refine ⟨a, vs, by rw [List.append_nil], hv, upd_same, fun d H2 J => ⟨rfl, d, _, J.obj, J.dct, ?_, ?_⟩⟩
  · have q := J.new
    rw [upd_ne J.ne] at q
    exact q
  · have hd : H1 d = none := by
      have q := J.new
      rw [upd_ne J.ne] at q
      exact q
    have eq : upd (del H2 a) d (.xd (names.zip vs).reverse) = upd H1 d (.xd (names.zip vs).reverse) := by
      funext x
      by_cases z : x = d
      · subst z; rw [upd_same, upd_same]
      · rw [upd_ne z, upd_ne z]
        by_cases y : x = a
        · subst y; rw [del_same]; exact ha.symm
        · rw [del_ne y, J.old x y z, upd_ne y]
    rw [eq]
    refine hE _ _ σ (f1.put hd) C (names.zip ds).reverse (some d) ⟨_, upd_same, ?_, ?_⟩ q
    · rw [List.map_reverse, List.map_reverse, (zip_keys names vs hv).1, (zip_keys names ds hl).1]
    · rw [List.map_reverse, List.map_reverse, (zip_keys names vs hv).2, (zip_keys names ds hl).2]
      exact (r1.up (Ex.new (f1.ex.exF.no hd))).rev
theorem ds_raise0 (hE : EL K b ρ (fun _ => E) X) (h : X C []) : DS K b ρ (tRaise (tMk0 C) (fun cls d _ H => E cls d H)) nx rt bk ct := fun Hf H σ D fr n r bk ct =>
  hE Hf H σ fr C [] none rfl h
end

/-! ### try .. except C as n -/
/-- b' is b, what stands now readable for good -/
structure Sub (K : PySem.W.Frag) (b b' : Bs) : Prop where
  fm : ∀ Hf H σ ρ, Fm K b' Hf H σ ρ → Fm K b Hf H σ ρ
  ex : ∀ Hf H, Exit K b' Hf H → Exit K b Hf H
  M : b'.M = b.M
  T : b'.T = b.T
theorem Sub.refl {K : PySem.W.Frag} {b : Bs} : Sub K b b := ⟨fun _ _ _ _ h => h, fun _ _ h => h, rfl, rfl⟩
theorem EL.sub {K : PySem.W.Frag} {b b' : Bs} {ρ : List Sl} {E : L2.St → XK} {X : Addr → List (Str × D) → Prop} (s : Sub K b b') (h : EL K b ρ E X) : EL K b' ρ E X := fun Hf H σ fr => h Hf H σ (s.1 _ _ _ _ fr)
theorem Fm.rebase {K : PySem.W.Frag} {b : Bs} {Hf H : Hp} {σ : L2.St} {ρ : List Sl} (fr : Fm K b Hf H σ ρ) : Fm K { b with F := Hf } Hf H σ ρ ∧ Sub K b { b with F := Hf } ∧ (∀ Hf' H', Exit K { b with F := Hf } Hf' H' → Ex Hf Hf') := by
  have back : ∀ Hf' H', Exit K { b with F := Hf } Hf' H' → Exit K b Hf' H' := fun Hf' H' x => { exF := x.exF, ex0 := fr.ex.ex0.trans x.ex0, exB := x.exB, frz := fun a h1 h2 => x.frz a h1 (fr.ex.frz a h1 h2), pens := x.pens, tabs := x.tabs }
  refine ⟨{ ex := { exF := fr.ex.exF, ex0 := Ex.refl _, exB := fr.ex.exB, frz := fun a _ h => h, pens := fr.ex.pens, tabs := fr.ex.tabs }, len := fr.len, sl := fr.sl, mine := fr.mine, sep := fr.sep }, ⟨fun Hf' H' σ' ρ' f => ?_, back, rfl, rfl⟩, fun Hf' H' x => x.ex0⟩
  exact { ex := back _ _ f.ex, len := f.len, sl := f.sl, mine := f.mine, sep := f.sep }
def tTryAs (K : PySem.W.Frag) (c : Value) (i : Nat) (tb : WX → TS) (ts : Addr → Value → Option Addr → TS) (Wout : WX) : TS := fun D σ H => tb (wAs K c i ts Wout D) D σ H
theorem ds_try {K : PySem.W.Frag} {b : Bs} {ρ : List Sl} {nx bk ct : List Sl → Prop} {rt : D → Prop} {c : Value} {i : Nat} {tb : WX → TS} {ts : Addr → Value → Option Addr → TS} {Wout : WX} (Xb : Addr → List (Str × D) → Prop) (hi : ∀ d, ρ[i]? ≠ some (.ow d))
    (hb : ∀ (b' : Bs) (W : WX), Sub K b b' → EL K b' ρ (fun σ => WE W σ) Xb → DS K b' ρ (tb W) nx rt bk ct)
    (hs : ∀ (b' : Bs) (C : Addr) (fs : List (Str × D)), Sub K b b' → Xb C fs → PySem.W.exmOne K (.ref C) c = some true ∧ ∀ (a : Addr) (d : Option Addr), DS K b' (ρ.set i (.sh (.exc a d C fs))) (ts a (.ref C) d) (fun ρ2 => nx (ρ2.set i .no)) rt (fun ρ2 => bk (ρ2.set i .no)) (fun ρ2 => ct (ρ2.set i .no))) :
    DS K b ρ (tTryAs K c i tb ts Wout) nx rt bk ct := fun Hf H σ D fr n r bk ct => by
  obtain ⟨fr', sub, lo⟩ := fr.rebase
  refine hb { b with F := Hf } (wAs K c i ts Wout D) sub (fun Hf1 H1 σ1 f1 C fs d hx q => ?_) Hf H σ D fr' (fun ρ2 σ2 Hf2 H2 e2 f2 q2 => n ρ2 σ2 Hf2 H2 e2 (sub.1 _ _ _ _ f2) q2) (fun v d Hf2 H2 e2 x2 r2 q2 => r v d Hf2 H2 e2 (sub.2 _ _ x2) r2 q2)
    (fun ρ2 σ2 Hf2 H2 e2 f2 q2 => bk ρ2 σ2 Hf2 H2 e2 (sub.1 _ _ _ _ f2) q2) (fun ρ2 σ2 Hf2 H2 e2 f2 q2 => ct ρ2 σ2 Hf2 H2 e2 (sub.1 _ _ _ _ f2) q2)
  obtain ⟨hm, hs⟩ := hs { b with F := Hf } C fs sub q
  have e1 := lo _ _ f1.ex
  refine ⟨true, hm, fun _ a ha => ?_, fun z => nomatch z⟩
  refine hs a d Hf1 H1 _ _ (f1.set (hx.rp a C)) (fun ρ2 σ2 Hf2 H2 e2 f2 q2 => ?_) (fun v d' Hf2 H2 e2 x2 r2 q2 => r v d' Hf2 H2 (e1.trans e2) (sub.2 _ _ x2) r2 q2) (fun ρ2 σ2 Hf2 H2 e2 f2 q2 => ?_) (fun ρ2 σ2 Hf2 H2 e2 f2 q2 => ?_)
  · exact n _ _ Hf2 H2 (e1.trans e2) (sub.1 _ _ _ _ f2).drop q2
  · exact bk _ _ Hf2 H2 (e1.trans e2) (sub.1 _ _ _ _ f2).drop q2
  · exact ct _ _ Hf2 H2 (e1.trans e2) (sub.1 _ _ _ _ f2).drop q2
end G

set_option Elab.async false
set_option linter.all false
set_option maxRecDepth 100000
set_option maxHeartbeats 4000000
/-! DFacts: what the written part says of the package's error classes, and what follows. -/
namespace G
open PySem PySem.Spec PyProof.Rows L2
abbrev veT : List Value := [.type "ValueError", .type "Exception", .type "BaseException", .type "object"]
/-- an error class at C with the chain bm behind it -/
structure ErrK (K : PySem.W.Frag) (C : Addr) (bm : List Value) : Prop where
  cls : ∃ nm q N bs sn sub ab col dd k0 k1 k2 k3 k5, K.lookup C = some (excClassObj nm q C N bs bm true sn sub ab col dd k0 k1 k2 k3 k5 "ValueError.__new__")
  sa : PySem.W.findIn K (.ref C) "__setattr__" = some (some (.builtin "object.__setattr__"))
  ga : PySem.W.findIn K (.ref C) "__getattribute__" = some (some (.builtin "BaseException.__getattribute__"))
  gg : PySem.W.findIn K (.ref C) "__getattr__" = some none
  ka : PySem.W.findIn K (.ref C) "__class__" = some (some (.builtin "object.__class__"))
  kp : PySem.W.keepIn K (.ref C) = true
structure ErrB (K : PySem.W.Frag) : Prop where
  kn : PySem.W.specialIn K (.builtin "object.__class__") "__get__" = some (some (.builtin "getset_descriptor.__get__"))
  kt : PySem.W.takesIn K (.builtin "object.__class__") = some true
section
variable {K : PySem.W.Frag} {C G C' : Addr} {bm bm' : List Value}
theorem ErrK.data (h : ErrK K C bm) : ∃ cd, PySem.W.clsIn K C = some cd ∧ cd.mro = .ref C :: bm ∧ cd.hasDict = true := by
  obtain ⟨nm, q, N, bs, sn, sub, ab, col, dd, k0, k1, k2, k3, k5, e⟩ := h.cls
  refine ⟨{ name := nm, bases := bs, mro := .ref C :: bm, ns := N, qualname := q, hasDict := true, slotNames := sn, subclasses := sub, abstract := ab, collection := col, hasDel := false }, ?_, rfl, rfl⟩
  unfold PySem.W.clsIn
  rw [e]
theorem ErrK.ty (h : ErrK K C bm) : PySem.W.typeIn K (.ref C) = some (.type "type") := by
  obtain ⟨nm, q, N, bs, sn, sub, ab, col, dd, k0, k1, k2, k3, k5, e⟩ := h.cls
  show (K.lookup C).map (·.cls) = _
  rw [e]
  rfl
theorem ErrK.sub (h : ErrK K C bm) (c : Value) : PySem.W.subIn K (.ref C) c = some ((Value.ref C :: bm).contains c) := by
  obtain ⟨cd, e, m, _⟩ := h.data
  show PySem.W.mroIn K C c = _
  unfold PySem.W.mroIn
  rw [e]
  show (if cd.mro.isEmpty = true then none else some (cd.mro.contains c)) = _
  rw [m]
  rfl
theorem ErrK.dict (h : ErrK K C bm) : PySem.W.hasDictIn K C = true := by
  obtain ⟨cd, e, _, d⟩ := h.data
  unfold PySem.W.hasDictIn
  rw [e]
  simp [d]
theorem ErrK.xc (h : ErrK K C bm) (hb : ErrB K) (hv : PySem.HandSPX.refsVE bm = true) : XcC K C := by
  obtain ⟨cd, e, m, d⟩ := h.data
  have c1 : (Value.ref C :: bm).contains (.type "BaseException") = true := (PySem.HandSPX.refsVE_contains "BaseException" (.ref C :: bm) hv).trans (by decide +kernel)
  have c2 : (Value.ref C :: bm).contains (.type "object") = true := (PySem.HandSPX.refsVE_contains "object" (.ref C :: bm) hv).trans (by decide +kernel)
  refine { cl := by rw [e]; rfl, ga := h.ga, gg := h.gg, sb := by rw [h.sub, c1], hd := h.dict, ka := h.ka, kn := hb.kn, kt := hb.kt, km := ?_ }
  have := h.sub (.type "object")
  rw [c2] at this
  exact this
theorem ErrK.oex (h : ErrK K C bm) (hv : PySem.HandSPX.refsVE bm = true) : OexC K C := by
  have c1 : (Value.ref C :: bm).contains (.type "BaseException") = true := (PySem.HandSPX.refsVE_contains "BaseException" (.ref C :: bm) hv).trans (by decide +kernel)
  obtain ⟨nm, q, N, bs, sn, sub, ab, col, dd, k0, k1, k2, k3, k5, e⟩ := h.cls
  exact { cls := ⟨nm, q, N, bs, bm, sn, sub, ab, col, dd, k0, k1, k2, k3, k5, e, hv⟩, sa := h.sa, exC := by rw [h.sub, c1], tyC := h.ty, kC := h.kp }
theorem ErrK.raises (h : ErrK K C bm) (hv : PySem.HandSPX.refsVE bm = true) : PySem.W.subIn K (.ref C) (.type "BaseException") = some true := (h.oex hv).exC
/-- isinstance of an error of the class at C -/
theorem ErrK.kit (h : ErrK K C bm) (h' : ErrK K C' bm') : PySem.W.kitOne K (.ref C) (.ref C') = some ((Value.ref C :: bm).contains (.ref C')) := by
  unfold PySem.W.kitOne
  by_cases e : (Value.ref C == Value.ref C') = true
  · rw [if_pos e]
    have z : Value.ref C = Value.ref C' := beq_iff_eq.mp e
    rw [← z]
    simp
  · rw [if_neg e]
    obtain ⟨cd, e', _, _⟩ := h'.data
    show (if ((PySem.W.clsIn K C').isSome && PySem.W.typeIn K (.ref C') == some (.type "type")) = true then PySem.W.subIn K (.ref C) (.ref C') else none) = _
    rw [if_pos (by rw [e', h'.ty] <;> rfl), h.sub]
theorem ErrK.kitT (h : ErrK K C bm) (hv : PySem.HandSPX.refsVE bm = true) : PySem.W.kitOne K (.ref C) (.type "ValueError") = some true := by
  have c1 : (Value.ref C :: bm).contains (.type "ValueError") = true := (PySem.HandSPX.refsVE_contains "ValueError" (.ref C :: bm) hv).trans (by decide +kernel)
  unfold PySem.W.kitOne
  rw [if_neg (by simp)]
  show (if PySem.W.kitMeta "ValueError" = true then PySem.W.subIn K (.ref C) (.type "ValueError") else none) = _
  rw [if_pos (by decide +kernel), h.sub, c1]
theorem ErrK.exm (h : ErrK K C bm) (h' : ErrK K C' bm') (hv : PySem.HandSPX.refsVE bm' = true) : PySem.W.exmOne K (.ref C) (.ref C') = some ((Value.ref C :: bm).contains (.ref C')) := by
  obtain ⟨cd, e', _, _⟩ := h'.data
  show (if (PySem.W.subIn K (.ref C') (.type "BaseException") == some true) = true then (if ((PySem.W.clsIn K C').isSome && PySem.W.typeIn K (.ref C') == some (.type "type")) = true then PySem.W.subIn K (.ref C) (.ref C') else none) else none) = _
  rw [if_pos (by rw [h'.raises hv] <;> rfl), if_pos (by rw [e', h'.ty] <;> rfl), h.sub]
theorem contains_other (hne : C ≠ C') (hg : G ≠ C') : (Value.ref C :: .ref G :: veT).contains (.ref C') = false := by
  rw [List.contains_cons, List.contains_cons]
  have e1 : (Value.ref C' == Value.ref C) = false := by
    rw [beq_eq_false_iff_ne]
    exact fun z => hne (Value.ref.inj z).symm
  have e2 : (Value.ref C' == Value.ref G) = false := by
    rw [beq_eq_false_iff_ne]
    exact fun z => hg (Value.ref.inj z).symm
  rw [e1, e2]
  rfl
theorem contains_self : (Value.ref C :: .ref G :: veT).contains (.ref C) = true := by simp
theorem contains_base : (Value.ref C :: .ref G :: veT).contains (.ref G) = true := by simp
theorem vees : PySem.HandSPX.refsVE (.ref G :: veT) = true := by show PySem.HandSPX.refsVE veT = true; decide +kernel
theorem vees0 : PySem.HandSPX.refsVE veT = true := by decide +kernel
end
end G

set_option Elab.async false
set_option linter.all false
set_option maxRecDepth 100000
set_option maxHeartbeats 4000000
/-! DOps2: + of any kind, // and % of great ints, list(..), tuple(..), small dicts; the pen. -/
namespace G
open PySem PySem.Spec PyProof.Rows L2
def rAddS : R2 := fun x y H Q => ∃ i j, x = .str i ∧ y = .str j ∧ i.length + j.length ≤ sizeLine ∧ Q (.str (i ++ j)) H
def rAddG (K : PySem.W.Frag) : R2 := fun x y H Q => rI0 (fun i j => .int (i + j)) x y H Q ∨ rAddS x y H Q ∨ rCat x y H Q ∨ rCatA K x y H Q
theorem op_addG {X : Cx} : OpR X (binaryOp .Add) (rAddG X.K) := op_add.or ((show OpR X (binaryOp .Add) rAddS from op_add_str).or (op_cat.or op_catA))
def CDivA (_ j : Int) : Prop := j ≠ 0 ∧ j.natAbs.log2 < 9000
theorem op_fdivG {X : Cx} : OpR X (binaryOp .FloorDiv) (rI CDivA fun i j => .int (i.fdiv j)) := opI fun _ _ _ _ _ _ _ hc q => floordiv_int hc.1 q (.inl (PyProof.noPylong_of_log2 hc.2))
theorem op_mulG {X : Cx} : OpR X (binaryOp .Mult) (rI IntMulOk fun i j => .int (i * j)) := opI fun _ _ _ _ _ _ _ hc q => mul_int q hc
theorem mul_small {i j : Int} (h : CMul i j) : IntMulOk i j := h.ok
theorem mul_wide {i j : Int} (h : CMulW i j) : IntMulOk i j := h.ok
section
variable {K : PySem.W.Frag} {b : Bs} {ρ : List Sl} {ta tb te tc : TE} {tr : TA} {Q : D → Prop}
theorem DE.orL {r r' : R2} (h : DE K b ρ (tOp r ta tb) Q) : DE K b ρ (tOp (fun x y H Q => r x y H Q ∨ r' x y H Q) ta tb) Q → True := fun _ => trivial
theorem de_addI (h : DE K b ρ ta fun x => DE K b ρ tb fun y => ∃ i j, x = .int i ∧ y = .int j ∧ Q (.int (i + j))) : DE K b ρ (tOp (rAddG K) ta tb) Q :=
  de_op (h.imp fun x hx => hx.imp fun y ⟨i, j, e1, e2, q⟩ Hf H σ k v u f rv ru c => by
    subst e1; subst e2
    exact Or.inl ⟨i, j, rv.int_inv, ru.int_inv, c _ _ Hf H Up.refl f (.int _) q⟩)
theorem de_addS (h : DE K b ρ ta fun x => DE K b ρ tb fun y => ∃ i j, x = .str i ∧ y = .str j ∧ i.length + j.length ≤ 100000 ∧ Q (.str (i ++ j))) : DE K b ρ (tOp (rAddG K) ta tb) Q :=
  de_op (h.imp fun x hx => hx.imp fun y ⟨i, j, e1, e2, hz, q⟩ Hf H σ k v u f rv ru c => by
    subst e1; subst e2
    exact Or.inr (Or.inl ⟨i, j, rv.str_inv, ru.str_inv, small_line hz, c _ _ Hf H Up.refl f (.str _) q⟩))
theorem dn_addL {R : List D → Prop} (h : DE K b ρ ta fun x => DE K b ρ tb fun y => ∃ l m, x = .lst l ∧ y = .lst m ∧ l.length + m.length ≤ 16000 ∧ R (l ++ m)) : DN K b ρ (tOp (rAddG K) ta tb) R := fun Hf H σ k fr c => by
  refine h Hf H σ _ fr fun v x Hf1 H1 e1 f1 r1 q1 => ?_
  refine q1 Hf1 H1 σ _ f1 fun u y Hf2 H2 e2 f2 r2 ⟨l, m, ex, ey, hz, q⟩ => ?_
  subst ex
  subst ey
  cases r1 with
  | lst h1 a1 =>
    cases r2 with
    | lst h2 a2 =>
      refine Or.inr (Or.inr (Or.inl ⟨_, _, _, _, rfl, rfl, f2.ex.exF _ _ (e2.1 _ _ h1), f2.ex.exF _ _ h2, small_line (by rw [a1.len, a2.len]; omega), fun p hp => ?_⟩))
      exact c p _ _ Hf2 H2 (e1.trans e2) f2 hp ((a1.up e2.1).app a2) q
theorem dn_addL_own {R : List D → Prop} {i : Nat} {l : List D} (hi : ρ[i]? = some (.ow l)) (h : DE K b ρ tb fun y => ∃ m, y = .lst m ∧ l.length + m.length ≤ 16000 ∧ R (l ++ m)) : DN K b ρ (tOp (rAddG K) (tVar i) tb) R := fun Hf H σ k fr c => by
  obtain ⟨a, xs, ho, h1, h2, h3⟩ := own_at fr hi
  refine ⟨_, ho, ?_⟩
  refine h Hf H σ _ fr fun u y Hf2 H2 e2 f2 r2 ⟨m, ey, hz, q⟩ => ?_
  subst ey
  obtain ⟨a', ys, ho', k1, k2, k3⟩ := own_at f2 hi
  rw [ho] at ho'
  cases ho'
  cases r2 with
  | lst h4 a4 =>
    refine Or.inr (Or.inr (Or.inl ⟨_, _, _, _, rfl, rfl, k2, f2.ex.exF _ _ h4, small_line (by rw [k3.len, a4.len]; omega), fun p hp => ?_⟩))
    exact c p _ _ Hf2 H2 e2 f2 hp (k3.app a4) q
theorem de_addA (h : DE K b ρ ta fun x => DE K b ρ tb fun y => ∃ l m, x = .tup l ∧ y = .tup m ∧ l.length + m.length ≤ 16000 ∧ Q (.tup (l ++ m))) : DE K b ρ (tOp (rAddG K) ta tb) Q := fun Hf H σ k fr c => by
  refine h Hf H σ _ fr fun v x Hf1 H1 e1 f1 r1 q1 => ?_
  refine q1 Hf1 H1 σ _ f1 fun u y Hf2 H2 e2 f2 r2 ⟨l, m, ex, ey, hz, q⟩ => ?_
  subst ex
  subst ey
  cases r1 with
  | tup h1 a1 =>
    cases r2 with
    | tup h2 a2 =>
      refine Or.inr (Or.inr (Or.inr ⟨_, _, _, _, rfl, rfl, f2.ex.exF.st (e2.1.st h1), f2.ex.exF.st h2, small_line (by rw [a1.len, a2.len]; omega), fun z => ?_, fun _ z => ?_, fun _ z p hp => ?_⟩))
      · subst z
        cases a1
        exact c _ _ Hf2 H2 (e1.trans e2) f2 (.tup h2 a2) q
      · subst z
        cases a2
        rw [List.append_nil] at q
        exact c _ _ Hf2 H2 (e1.trans e2) f2 (.tup (e2.1.st h1) (a1.up e2.1)) q
      · have n := f2.ex.exF.no hp
        exact c _ _ _ _ ((e1.trans e2).trans (Up.new hp n)) (f2.put hp) (Rp.tup (SqT.of upd_same) (RpA.up (Ex.new n) ((a1.up e2.1).app a2))) q
theorem de_addT (h : DE K b ρ ta fun x => DE K b ρ tb fun y => ∃ l m, x = .tup l ∧ y = .tup m ∧ l ≠ [] ∧ l.length + m.length ≤ 16000 ∧ Q (.tup (l ++ m))) : DE K b ρ (tOp (rAddG K) ta tb) Q :=
  de_addA (h.imp fun x hx => hx.imp fun y ⟨l, m, e1, e2, _, hz, q⟩ => ⟨l, m, e1, e2, hz, q⟩)
/-! ### list(x), tuple(x) -/
def rListV (K : PySem.W.Frag) : List V → Hp → VK → Prop := fun xs H Q => ∃ p ys, xs = [.ref p] ∧ (SqL K H p ys ∨ SqT K H p ys) ∧ ∀ l, H l = none → Q (.ref l) (upd H l (.lst ys))
theorem call_listV {X : Cx} : CallR X (.type "list") (rListV X.K) := call_list_of
def rTupV (K : PySem.W.Frag) : List V → Hp → VK → Prop := fun xs H Q => ∃ p ys, xs = [.ref p] ∧ ((SqL K H p ys ∧ ∀ l, H l = none → Q (.ref l) (upd H l (.tup ys))) ∨ (SqT K H p ys ∧ Q (.ref p) H))
theorem call_tupleV {X : Cx} : CallR X (.type "tuple") (rTupV X.K) := call_tuple_of
theorem dn_list {R : List D → Prop} (h : DE K b ρ ta fun x => ∃ l, seqD x = some l ∧ R l) : DN K b ρ (tCB (rListV K) (tCons ta tNil)) R := fun Hf H σ k fr c => by
  refine h Hf H σ _ fr fun v x Hf1 H1 e1 f1 r1 ⟨l, el, q⟩ => ?_
  cases r1 with
  | tup h1 a1 =>
    cases el
    exact ⟨_, _, rfl, Or.inr (f1.ex.exF.st h1), fun p hp => c p _ _ Hf1 H1 e1 f1 hp a1 q⟩
  | lst h1 a1 =>
    cases el
    exact ⟨_, _, rfl, Or.inl (SqL.of (f1.ex.exF _ _ h1)), fun p hp => c p _ _ Hf1 H1 e1 f1 hp a1 q⟩
  | non => cases el
  | bl _ => cases el
  | int _ => cases el
  | str _ => cases el
  | ty _ => cases el
  | fn _ => cases el
  | dic _ _ _ => cases el
  | obj _ _ _ => cases el
  | exc _ _ _ => cases el
  | exc0 _ _ => cases el
theorem de_tuple (h : DE K b ρ ta fun x => ∃ l, seqD x = some l ∧ Q (.tup l)) : DE K b ρ (tCB (rTupV K) (tCons ta tNil)) Q := fun Hf H σ k fr c => by
  refine h Hf H σ _ fr fun v x Hf1 H1 e1 f1 r1 ⟨l, el, q⟩ => ?_
  cases r1 with
  | tup h1 a1 =>
    cases el
    exact ⟨_, _, rfl, Or.inr ⟨f1.ex.exF.st h1, c _ _ Hf1 H1 e1 f1 (.tup h1 a1) q⟩⟩
  | lst h1 a1 =>
    cases el
    refine ⟨_, _, rfl, Or.inl ⟨SqL.of (f1.ex.exF _ _ h1), fun p hp => ?_⟩⟩
    have n := f1.ex.exF.no hp
    exact c _ _ _ _ (e1.trans (Up.new hp n)) (f1.put hp) (Rp.tup (SqT.of upd_same) (RpA.up (Ex.new n) a1)) q
  | non => cases el
  | bl _ => cases el
  | int _ => cases el
  | str _ => cases el
  | ty _ => cases el
  | fn _ => cases el
  | dic _ _ _ => cases el
  | obj _ _ _ => cases el
  | exc _ _ _ => cases el
  | exc0 _ _ => cases el
/-- tuple of a list that is made for it -/
theorem de_tupN {l : List D → Prop} (h : DN K b ρ ta fun l => Q (.tup l)) : DE K b ρ (tCB (rTupV K) (tCons ta tNil)) Q :=
  de_tuple (de_new (by
    intro Hf H σ k fr c
    refine h Hf H σ k fr fun p xs ds Hf' H' e f hp r q => ?_
    exact c p xs ds Hf' H' e f hp r ⟨ds, rfl, q⟩))
/-- an object that is being filled -/
theorem Fm.lay {Hf H : Hp} {σ : L2.St} (fr : Fm K b Hf H σ ρ) {p : Addr} {o : HO} (hp : H p = none) : Fm K b Hf (upd H p o) σ ρ := by
  refine fr.step { exF := fr.ex.exF.trans (Ex.new hp), ex0 := fr.ex.ex0, exB := fr.ex.exB.trans (Ex.new hp), frz := fr.ex.frz, pens := fun q hq => ?_, tabs := fun q hq => ?_ } (Ex.refl _) fun a xs h1 h2 _ _ => ⟨h2, ?_⟩
  · obtain ⟨h1, h2, ob, h3, h4⟩ := fr.ex.pens q hq
    exact ⟨h1, h2, ob, (upd_ne (ne_of_none h3 hp)).trans h3, h4⟩
  · obtain ⟨h1, h2, h3, h4⟩ := fr.ex.tabs q hq
    exact ⟨h1, h2, h3, h4.up (Ex.refl _) (upd_ne (h4.ne (Or.inl hp)))⟩
  · exact (upd_ne (ne_of_none h1 hp)).trans h1
theorem Fm.fill {Hf H : Hp} {σ : L2.St} (fr : Fm K b Hf H σ ρ) {p : Addr} {o1 o : HO} (hp : H p = some o1) (hn : ∀ xs, o1 ≠ .lst xs) (hn2 : ∀ ps, o1 ≠ .tbl ps) (hf : Hf p = none) (hb : b.B p = none) (hm : p ∉ b.M) : Fm K b (upd Hf p o) (upd H p o) σ ρ := by
  have e := Ex.new (o := o) hf
  refine fr.step { exF := fr.ex.exF.up, ex0 := fr.ex.ex0.trans e, exB := fun a u h => ?_, frz := fun a h1 h2 => ?_, pens := fun q hq => ?_, tabs := fun q hq => ?_ } e fun a xs h1 h2 _ _ => ?_
  · rw [upd_ne (ne_of_none h hb)]; exact fr.ex.exB a u h
  · rw [upd_ne (fun z => h1 (by rw [z]; exact hb))]; exact fr.ex.frz a h1 h2
  · obtain ⟨h1, h2, ob, h3, h4⟩ := fr.ex.pens q hq
    have n : q ≠ p := fun z => hm (by rw [← z]; exact hq)
    exact ⟨by rw [upd_ne n]; exact h1, h2, ob, by rw [upd_ne n]; exact h3, h4.up e⟩
  · obtain ⟨h1, h2, h3, h4⟩ := fr.ex.tabs q hq
    have n : q.1 ≠ p := fun z => by
      obtain ⟨ps, h5, _⟩ := h4
      rw [z, hp] at h5
      exact hn2 ps (Option.some.inj h5)
    exact ⟨by rw [upd_ne n]; exact h1, h2, h3, h4.up e (upd_ne n)⟩
  · have n : a ≠ p := fun z => by
      rw [z, hp] at h1
      exact hn xs (Option.some.inj h1)
    rw [upd_ne n, upd_ne n]
    exact ⟨h2, h1⟩
/-- {'k': v} -/
theorem de_disp1 {x : Str} (h : DE K b ρ ta fun d => Q (.dic [(Sum.inr x, d)])) : DE K b ρ (tDisp [(tC (.str x), ta)]) Q := fun Hf H σ k fr c => by
  intro p hp
  have np := fr.ex.exF.no hp
  have nb := fr.ex.exB.no hp
  have nm : p ∉ b.M := fun z => by
    obtain ⟨_, _, o, h3, _⟩ := fr.ex.pens p z
    rw [hp] at h3; cases h3
  show ta σ (upd H p (.dK [])) _
  refine h Hf _ σ _ (fr.lay hp) fun v d Hf1 H1 e1 f1 r1 q => ?_
  have nt : ¬ b.mt p := fun z => z.elim nm fun z => by
    obtain ⟨q, hq, e⟩ := List.mem_map.mp z
    obtain ⟨_, _, _, h4⟩ := fr.ex.tabs q hq
    exact h4.ne (Or.inl hp) e
  obtain ⟨k1, k2⟩ := e1.2 p _ upd_same nt
  refine ⟨k1, [(Sum.inr x, v)], rfl, by show 1 ≤ 15; decide, ?_⟩
  have m : mergeK [] [((Sum.inr x : Key), v)] = [((Sum.inr x : Key), v)] := rfl
  rw [m]
  have n1 := k2 np
  refine c _ _ (upd Hf1 p (.dK [(Sum.inr x, v)])) _ ⟨e1.1.trans (Ex.new n1), fun a o ha hm => ?_⟩ (f1.fill k1 (fun xs z => by cases z) (fun xs z => by cases z) n1 nb nm) (Rp.dic upd_same rfl (.cons (r1.up (Ex.new n1)) .nil)) q
  have n : a ≠ p := ne_of_none ha hp
  obtain ⟨z1, z2⟩ := e1.2 a o (by rw [upd_ne n]; exact ha) hm
  rw [upd_ne n, upd_ne n]
  exact ⟨z1, z2⟩
end
end G

set_option Elab.async false
set_option linter.all false
set_option maxRecDepth 100000
set_option maxHeartbeats 4000000
/-! DPen: == and != of any kind; the pen: made, drawn from. -/
namespace G
open PySem PySem.Spec PyProof.Rows L2
/-- two lists of unlike lengths -/
def rEqLen (K : PySem.W.Frag) : R2 := fun x y H Q => ∃ a b xs ys, x = .ref a ∧ y = .ref b ∧ SqL K H a xs ∧ SqL K H b ys ∧ xs.length ≠ ys.length ∧ Q (.bl false) H
theorem op_eqLen {X : Cx} (hu : X.A.units < cLine) : OpR X (compareOp .Eq) (rEqLen X.K) := by
  intro pins s σ H x y v u Q I rx ry h
  obtain ⟨a, b, xs, ys, rfl, rfl, ha, hb, hn, q⟩ := h
  cases rx
  cases ry
  obtain ⟨its, r1, p1, _⟩ := I.list ha
  obtain ⟨its2, r2, p2, _⟩ := I.list hb
  have l1 := r1.length
  have l2 := r2.length
  exact PySem.SeqAt.eq_list_lengthsAt p1.isList p2.isList (by simp; omega) hu ⟨.bl false, H, I, rfl, q⟩
def rEqG (K : PySem.W.Frag) : R2 := fun x y H Q => rEq x y H Q ∨ rEqD K x y H Q ∨ rEqLen K x y H Q
def rNeG (K : PySem.W.Frag) : R2 := fun x y H Q => rNe x y H Q ∨ rNeD K x y H Q
theorem op_eqG {X : Cx} (hu : X.A.units + 64 < cLine) : OpR X (compareOp .Eq) (rEqG X.K) := op_eq.or ((op_eqD hu).or (op_eqLen (by omega)))
theorem op_neG {X : Cx} (hu : X.A.units + 64 < cLine) : OpR X (compareOp .NotEq) (rNeG X.K) := op_ne.or (op_neD hu)
section
variable {K : PySem.W.Frag} {b : Bs} {ρ : List Sl} {ta tb te tc : TE} {tr : TA} {Q : D → Prop}
theorem de_eqI (h : DE K b ρ ta fun x => DE K b ρ tb fun y => ∃ i j, x = .int i ∧ y = .int j ∧ Q (.bl (decide (i = j)))) : DE K b ρ (tOp (rEqG K) ta tb) Q :=
  de_op (h.imp fun x hx => hx.imp fun y ⟨i, j, e1, e2, q⟩ Hf H σ k v u f rv ru c => by
    subst e1; subst e2
    have a := rv.int_inv; subst a
    have a := ru.int_inv; subst a
    refine Or.inl ⟨rfl, ?_⟩
    have e : decide (V.int i = V.int j) = decide (i = j) := by rw [dec_int]; exact (Bool.beq_eq_decide_eq i j)
    rw [e]
    exact c _ _ Hf H Up.refl f (.bl _) q)
theorem de_neI (h : DE K b ρ ta fun x => DE K b ρ tb fun y => ∃ i j, x = .int i ∧ y = .int j ∧ Q (.bl (!decide (i = j)))) : DE K b ρ (tOp (rNeG K) ta tb) Q :=
  de_op (h.imp fun x hx => hx.imp fun y ⟨i, j, e1, e2, q⟩ Hf H σ k v u f rv ru c => by
    subst e1; subst e2
    have a := rv.int_inv; subst a
    have a := ru.int_inv; subst a
    refine Or.inl ⟨rfl, ?_⟩
    have e : decide (V.int i = V.int j) = decide (i = j) := by rw [dec_int]; exact (Bool.beq_eq_decide_eq i j)
    rw [e]
    exact c _ _ Hf H Up.refl f (.bl _) q)
theorem dec_strV (i j : Str) : decide (V.str i = V.str j) = decide (i = j) := by
  by_cases e : i = j
  · subst e; simp
  · rw [decide_eq_false e, decide_eq_false (fun z => e (V.str.inj z))]
theorem de_eqS (h : DE K b ρ ta fun x => DE K b ρ tb fun y => ∃ i j, x = .str i ∧ y = .str j ∧ Q (.bl (decide (i = j)))) : DE K b ρ (tOp (rEqG K) ta tb) Q :=
  de_op (h.imp fun x hx => hx.imp fun y ⟨i, j, e1, e2, q⟩ Hf H σ k v u f rv ru c => by
    subst e1; subst e2
    have a := rv.str_inv; subst a
    have a := ru.str_inv; subst a
    refine Or.inl ⟨rfl, ?_⟩
    rw [dec_strV]
    exact c _ _ Hf H Up.refl f (.bl _) q)
theorem de_neS (h : DE K b ρ ta fun x => DE K b ρ tb fun y => ∃ i j, x = .str i ∧ y = .str j ∧ Q (.bl (!decide (i = j)))) : DE K b ρ (tOp (rNeG K) ta tb) Q :=
  de_op (h.imp fun x hx => hx.imp fun y ⟨i, j, e1, e2, q⟩ Hf H σ k v u f rv ru c => by
    subst e1; subst e2
    have a := rv.str_inv; subst a
    have a := ru.str_inv; subst a
    refine Or.inl ⟨rfl, ?_⟩
    rw [dec_strV]
    exact c _ _ Hf H Up.refl f (.bl _) q)
theorem de_eqA (h : DE K b ρ ta fun x => DE K b ρ tb fun y => okD x = true ∧ okD y = true ∧ Q (.bl (eqD x y))) : DE K b ρ (tOp (rEqG K) ta tb) Q :=
  de_op (h.imp fun x hx => hx.imp fun y ⟨o1, o2, q⟩ Hf H σ k v u f rv ru c => by
    obtain ⟨a1, a2, a3⟩ := okD_un o1
    obtain ⟨b1, b2, b3⟩ := okD_un o2
    exact Or.inr (Or.inl ⟨x.py, y.py, (rv.up f.ex.exF).dp a1 a2, (ru.up f.ex.exF).dp b1 b2, a3, b3, c _ _ Hf H Up.refl f (.bl _) q⟩))
theorem de_eqLen (h : DE K b ρ ta fun x => DE K b ρ tb fun y => ∃ l m, x = .lst l ∧ y = .lst m ∧ l.length ≠ m.length ∧ Q (.bl false)) : DE K b ρ (tOp (rEqG K) ta tb) Q :=
  de_op (h.imp fun x hx => hx.imp fun y ⟨l, m, e1, e2, hn, q⟩ Hf H σ k v u f rv ru c => by
    subst e1; subst e2
    cases rv with
    | lst h1 a1 =>
      cases ru with
      | lst h2 a2 => exact Or.inr (Or.inr ⟨_, _, _, _, rfl, rfl, SqL.of (f.ex.exF _ _ h1), SqL.of (f.ex.exF _ _ h2), by rw [a1.len, a2.len]; exact hn, c _ _ Hf H Up.refl f (.bl _) q⟩))
theorem de_neA (h : DE K b ρ ta fun x => DE K b ρ tb fun y => okD x = true ∧ okD y = true ∧ Q (.bl (!eqD x y))) : DE K b ρ (tOp (rNeG K) ta tb) Q :=
  de_op (h.imp fun x hx => hx.imp fun y ⟨o1, o2, q⟩ Hf H σ k v u f rv ru c => by
    obtain ⟨a1, a2, a3⟩ := okD_un o1
    obtain ⟨b1, b2, b3⟩ := okD_un o2
    exact Or.inr ⟨x.py, y.py, (rv.up f.ex.exF).dp a1 a2, (ru.up f.ex.exF).dp b1 b2, a3, b3, c _ _ Hf H Up.refl f (.bl _) q⟩)
end
/-! ### the pen -/
def penL (c : Addr) (a d n f : Int) : List (Key × V) := [(Sum.inr "cells", .ref c), (Sum.inr "at", .int a), (Sum.inr "digits", .int d), (Sum.inr "count", .int n), (Sum.inr "fold", .int f)]
section
variable {c p : Addr} {a d n f : Int} {H Hf : Hp} {K : PySem.W.Frag} {σ : L2.St} {Q : VK} {D : Ends}
theorem v_cells : valV (penL c a d n f) (Sum.inr "cells") = some (.ref c) := rfl
theorem v_at : valV (penL c a d n f) (Sum.inr "at") = some (.int a) := rfl
theorem v_digits : valV (penL c a d n f) (Sum.inr "digits") = some (.int d) := rfl
theorem v_count : valV (penL c a d n f) (Sum.inr "count") = some (.int n) := rfl
theorem v_fold : valV (penL c a d n f) (Sum.inr "fold") = some (.int f) := rfl
theorem p_at (x : Int) : putK (penL c a d n f) (Sum.inr "at") (.int x) = penL c x d n f := rfl
theorem p_digits (x : Int) : putK (penL c a d n f) (Sum.inr "digits") (.int x) = penL c a x n f := rfl
theorem p_count (x : Int) : putK (penL c a d n f) (Sum.inr "count") (.int x) = penL c a d x f := rfl
theorem p_fold (x : Int) : putK (penL c a d n f) (Sum.inr "fold") (.int x) = penL c a d n x := rfl
theorem pen_get {x : Str} {v : V} (h0 : σ[0]? = some (some (.ref p))) (hv : valV (penL c a d n f) (Sum.inr x) = some v) (q : Q v (upd H p (.dK (penL c a d n f)))) : tDGet (tVar 0) (tC (.str x)) σ (upd H p (.dK (penL c a d n f))) Q :=
  ⟨_, h0, p, v, rfl, .inl ⟨_, Sum.inr x, .inl upd_same, rfl, hv.symm⟩, q⟩
theorem pen_put {x : Str} {te : TE} {v : V} {kvs : List (Key × V)} (h0 : σ[0]? = some (some (.ref p))) (hp : putK (penL c a d n f) (Sum.inr x) v = kvs)
    (h : ∀ R : VK, R v (upd H p (.dK (penL c a d n f))) → te σ (upd H p (.dK (penL c a d n f))) R) (k : D.nx σ (upd H p (.dK kvs))) : sDPut (tVar 0) (tC (.str x)) te D σ (upd H p (.dK (penL c a d n f))) := by
  refine h _ ⟨_, h0, p, _, rfl, .inl ⟨_, Sum.inr x, upd_same, rfl, by show 5 < sizeLine; decide, rfl⟩, ?_⟩
  rw [upd_upd, hp]
  exact k
end
end G
namespace G
open PySem PySem.Spec PyProof.Rows L2
/-- behind a store into the pen -/
theorem pen_exit {K : PySem.W.Frag} {Hf H : Hp} {M : List Addr} {p : Addr} {o : HO} (h1 : Ex Hf H) (h2 : ∀ p ∈ M, Hf p = none ∧ ∃ o, H p = some o ∧ PenO K Hf o) (hp : p ∈ M) (ho : PenO K Hf o) : Exit K ⟨fun a => if a ∈ M then none else H a, Hf, M, []⟩ Hf (upd H p o) := by
  refine { exF := fun a u e => ?_, ex0 := Ex.refl _, exB := fun a u e => ?_, frz := fun a _ h => h, pens := fun q hq => ⟨(h2 q hq).1, if_pos hq, ?_⟩, tabs := fun q hq => (List.not_mem_nil hq).elim }
  · have n : a ≠ p := ne_of_none e (h2 p hp).1
    rw [upd_ne n]
    exact h1 a u e
  · have e' : (if a ∈ M then none else H a) = some u := e
    by_cases z : a ∈ M
    · rw [if_pos z] at e'; cases e'
    · rw [if_neg z] at e'
      rw [upd_ne (fun y => z (by rw [y]; exact hp))]
      exact e'
  · by_cases z : q = p
    · subst z
      exact ⟨o, upd_same, ho⟩
    · rw [upd_ne z]
      exact (h2 q hq).2
theorem penO_of {K : PySem.W.Frag} {Hf : Hp} {c : Addr} {ns : List Int} {a d n f : Int} (hs : SqL K Hf c (ns.map V.int)) (ha : 0 ≤ a) (hd : 0 ≤ d) (hd2 : d.natAbs < 2 ^ 1048577) (hf : 0 ≤ f) (hf2 : f < 2 ^ 31) (hn : ∀ n ∈ ns, Builtin.Int.intBits n ≤ 1048576) : PenO K Hf (.dK (penL c a d n f)) :=
  ⟨c, ns, a, d, n, f, rfl, hs, ha, hd, hd2, hf, hf2, hn⟩
theorem same_upd {H : Hp} {p : Addr} {o : HO} (h : H p = some o) : H = upd H p o := by
  funext a
  by_cases z : a = p
  · subst z; rw [upd_same, h]
  · rw [upd_ne z]
end G
namespace G
open PySem PySem.Spec PyProof.Rows L2
/-- an if whose ways meet -/
theorem if_cut {c : TT} {t u rest : TS} {D : Ends} {σ : L2.St} {H : Hp} (J : L2.St → Hp → Prop) (hj : ∀ σ' H', J σ' H' → rest D σ' H') (h : ∀ N : L2.St → Hp → Prop, (∀ σ' H', J σ' H' → N σ' H') → tIfS c t u { D with nx := N } σ H) : tSeq (tIfS c t u) rest D σ H := h (rest D) hj
theorem bits_lt {n : Int} {k : Nat} (h : Builtin.Int.intBits n ≤ k) : n.natAbs < 2 ^ k := by
  unfold Builtin.Int.intBits at h
  by_cases z : n = 0
  · subst z; exact Nat.two_pow_pos k
  · have e : (n == 0) = false := by simpa using z
    rw [e] at h
    have h' : n.natAbs.log2 + 1 ≤ k := h
    exact Nat.lt_of_lt_of_le Nat.lt_log2_self (Nat.pow_le_pow_right (by decide) h')
theorem fmod_lo (a : Int) {m : Int} (h : 0 < m) : 0 ≤ a.fmod m := by
  rw [Int.fmod_eq_emod_of_nonneg _ (Int.le_of_lt h)]
  exact Int.emod_nonneg _ (by omega)
theorem fmod_hi (a : Int) {m : Int} (h : 0 < m) : a.fmod m < m := by
  rw [Int.fmod_eq_emod_of_nonneg _ (Int.le_of_lt h)]
  exact Int.emod_lt_of_pos _ h
theorem fdiv_lo {a m : Int} (ha : 0 ≤ a) (h : 0 < m) : 0 ≤ a.fdiv m := by
  rw [Int.fdiv_eq_ediv_of_nonneg _ (Int.le_of_lt h)]
  exact Int.ediv_nonneg ha (Int.le_of_lt h)
theorem fdiv_abs {a m : Int} (ha : 0 ≤ a) (h : 0 < m) : (a.fdiv m).natAbs ≤ a.natAbs := by
  have h1 := fdiv_lo ha h
  have h2 : a.fdiv m ≤ a := by
    rw [Int.fdiv_eq_ediv_of_nonneg _ (Int.le_of_lt h)]
    exact Int.ediv_le_self _ ha
  omega
theorem atI_ints {ns : List Int} {i : Int} (h0 : 0 ≤ i) (h : i < ns.length) : ∃ n, n ∈ ns ∧ L2.atI (ns.map V.int) i = some (.int n) := by
  obtain ⟨k, rfl⟩ := Int.eq_ofNat_of_zero_le h0
  have hk : k < ns.length := by omega
  refine ⟨ns[k], List.getElem_mem hk, ?_⟩
  unfold L2.atI ixN
  rw [List.length_map, if_pos (by omega), if_pos (by omega)]
  show (ns.map V.int)[((k : Nat) : Int).toNat]? = _
  rw [Int.toNat_natCast, List.getElem?_map, List.getElem?_eq_getElem hk]
  rfl
end G

set_option Elab.async false
set_option linter.all false
set_option maxRecDepth 100000
set_option maxHeartbeats 4000000
/-! DLaw: a law's own end: from its promise to the row. -/
namespace G
open PySem PySem.Spec PyProof.Rows L2
/-- what a law promises: True, whatever the script -/
def spLaw (K : PySem.W.Frag) : Sp := fun vs H Q _ => ∃ (a : Addr) (ns : List Int), vs = [.ref a] ∧ SqL K H a (ns.map V.int) ∧ ns.length ≤ 63 ∧ (∀ z ∈ ns, Builtin.Int.intBits z ≤ 1048576) ∧ ∀ H', Q (.bl true) H'
theorem sys_of {h : Heap} (x : h.NoSeer) : SysD h := by
  obtain ⟨mm, ⟨o, es, ep, e, d, _⟩, _⟩ := x.mods
  exact ⟨o, es, ep, e, d⟩
section
variable {P : Program} {w : World} {K : PySem.W.Frag} {mg mb : Str → Option Value} {k : Nat} {fa a : Addr} {fd : FuncData} {s₁ : Shared} {vs : List Value} {ns : List Int}
/-- the law is called: the script alone may be tracked, and then it is known to its object -/
theorem law_in (KX : K.In s₁.heap) (hM : ∀ H : Hp, (∀ b, H b ≠ none → b = a) → (H a ≠ none → K.lookup a = none) → L2.Mod K mg (hidT s₁.heap H) ∧ SysD (hidT s₁.heap H)) (hg : s₁.gens = #[])
    (ha : s₁.heap.get? a = some { cls := .type "list", data := .seq vs.toArray }) (hi : IntsAre vs ns) (hl : ns.length ≤ 63) (hb : ∀ z ∈ ns, Builtin.Int.intBits z ≤ 1048576) (hr : Rm true k callerA)
    (F : ∀ base : Heap, L2.Mod K mg base → SysD base → FnG P w K mg base true k fa fd (["script"] : List Str) (fun _ => spLaw K)) (hbind : ∀ (s : Shared) (u : Value), BindsTo s fd ⟨[u], []⟩ [("script", u)]) :
    codeAny (model P w) callerA (.call (.ref fa) ⟨[.ref a], []⟩) (fun r s' => r = .ok (.ret (.bool true)) ∧ OldK s₁.heap s'.heap ∧ s'.os = s₁.os ∧ AllBare s'.gens) s₁ := by
  have rv := vals_ints hi
  have key : ∀ H : Hp, (∀ b, H b = none ∨ ∃ o xs, H b = some (.frz o (.lst xs))) → SqL K H a (ns.map V.int) → HOk P w H s₁.heap → (∀ b, H b ≠ none → b = a) → (H a ≠ none → K.lookup a = none) →
      codeAny (model P w) callerA (.call (.ref fa) ⟨[.ref a], []⟩) (fun r s' => r = .ok (.ret (.bool true)) ∧ OldK s₁.heap s'.heap ∧ s'.os = s₁.os ∧ AllBare s'.gens) s₁ := fun H hO hS hok hA hK => by
    obtain ⟨M, hsys⟩ := hM H hA hK
    have none_in : ∀ (b : Addr), b ∉ ([] : List Addr) := fun b h => nomatch h
    have e0 : Env0 P w K mg (hidT s₁.heap H) callerA [] s₁ H := { frames := rfl, mod := M, bs := fun b o e => of_hidT e, bsz := Nat.le_of_eq (hidT_size _ _), funs := trivial, frf := fun b h => (none_in b h).elim, hok := hok, bare := .of_eq hg }
    have go := (F _ M hsys).run callerA [] s₁ H ⟨[.ref a], []⟩ [.ref a] [.ref a] (fun v _ => v = .bl true) (fun _ _ _ => False) [] hr (fun p h => nomatch h) e0 (hbind s₁ (.ref a)) (.cons rfl .nil) ⟨a, ns, rfl, hS, hl, hb, fun _ => rfl⟩
    refine codeAny_mono go (fun r s' h => ?_)
    match r, h with
    | .error e, h =>
      obtain ⟨_, _, _, _, _, _, _, _, _, _, _, _, z⟩ := h
      exact z.elim
    | .ok .next, h => exact h.elim
    | .ok .brk, h => exact h.elim
    | .ok .cont, h => exact h.elim
    | .ok (.ret u), h =>
      obtain ⟨v, H', os, bare, un, hok', ru, q⟩ := h
      have q' : v = .bl true := q
      rw [q'] at ru
      have eu : u = Value.bool true := ru
      rw [eu]
      refine ⟨rfl, OldK.of_keep (fun b o e => ?_), os, bare⟩
      rcases hO b with z | ⟨ob, xs, z⟩
      · exact un.keep b o e z (none_in b) (none_in b)
      · obtain ⟨e1, _⟩ := hok b _ z
        obtain ⟨e2, _⟩ := hok' b _ (un.frzs b ob _ z)
        rw [e] at e1
        rw [Option.some.inj e1]
        exact e2
  cases hk : K.lookup a with
  | some o =>
    have e := KX a o hk
    rw [ha] at e
    have e' := Option.some.inj e
    subst e'
    refine key (fun _ => none) (fun _ => Or.inl rfl) (Or.inr ⟨_, vs.toArray, _, hk, rfl, rfl, rfl, ?_, ?_⟩) (fun _ _ z => nomatch z) (fun _ z => (z rfl).elim) (fun z => (z rfl).elim)
    · rw [List.size_toArray, hi.length]; exact Nat.le_trans hl (by decide)
    · rw [List.toList_toArray]; exact rv
  | none =>
    let ob : Obj := { cls := .type "list", data := .seq vs.toArray }
    have at_a : (fun b => if b = a then some (HO.frz ob (.lst (ns.map V.int))) else none : Hp) a = some (.frz ob (.lst (ns.map V.int))) := if_pos rfl
    have only : ∀ b, (fun b => if b = a then some (HO.frz ob (.lst (ns.map V.int))) else none : Hp) b ≠ none → b = a := fun b h => by
      by_cases z : b = a
      · exact z
      · exact (h (if_neg z)).elim
    refine key (fun b => if b = a then some (.frz ob (.lst (ns.map V.int))) else none) (fun b => ?_) (Or.inl (Or.inr ⟨ob, at_a⟩)) (fun b u e => ?_) only (fun _ => hk)
    · by_cases z : b = a
      · rw [z]; exact Or.inr ⟨_, _, at_a⟩
      · exact Or.inl (if_neg z)
    · have z := only b (by rw [e]; exact fun y => nomatch y)
      subst z
      rw [at_a] at e
      cases e
      exact ⟨ha, by rw [List.length_map]; exact Nat.le_trans hl (by decide), vs, _, rv, ha⟩
end
/-- the end of the row -/
theorem walkG {l : PySem.W.OpenLaw} {k : Nat} {q : Program} {loose : List Str} {XP : (Str → Option Value) → Heap → Prop} {YP : World → Heap → Prop} {d : DefRec} {K : Params → PySem.W.Frag}
    (hn : l.most = some 63) (hdf : d.params.defaults = []) (hi : importsNone q = true) (hr : Rm true k callerA) (hY : ∀ (w : World) (h : Heap), YP w h → (K w.params).In h)
    (F : ∀ (w : World) (mg : Str → Option Value) (fa : Addr) (h : Heap), (K w.params).In h → h.Ns mainGlobals mg → mg d.name = some (.ref fa) →
      ∃ fd : FuncData, (∀ (s : Shared) (u : Value), BindsTo s fd ⟨[u], []⟩ [("script", u)]) ∧ ∀ base : Heap, L2.Mod (K w.params) mg base → SysD base → FnG l.prog w (K w.params) mg base true k fa fd (["script"] : List Str) (fun _ => spLaw (K w.params))) :
    PySem.W.WalkO q loose XP YP l.row.toRowW d [] (fun f vs => PySem.call f vs) := by
  refine Att.attach_callB hn hdf fun w s₀ s₁ mg mb fa o pm cd doc a vs ns G Y ho hd hcd hmg hobj hints hlen hbits hg => ?_
  have KX := hY w _ Y
  obtain ⟨fd, hb, hF⟩ := F w mg fa _ KX G.T.g hmg
  have S := G.T.seer hi
  refine law_in KX (fun H hA hK => ?_) hg hobj hints hlen hbits hr hF hb
  have noA : ∀ {b : Addr} {o : Obj} {es : Array DictEntry} {ep : Nat}, s₁.heap.get? b = some o → o.data = .dict es ep → H b = none := fun {b o es ep} e dd => by
    cases z : H b with
    | none => rfl
    | some u =>
      have y := hA b (by rw [z]; exact fun y => nomatch y)
      rw [y, hobj] at e
      rw [← Option.some.inj e] at dd
      exact Data.noConfusion dd
  have nsK : ∀ {b : Addr} {m : Str → Option Value}, s₁.heap.Ns b m → (hidT s₁.heap H).Ns b m := fun {b m} x => by
    obtain ⟨o, es, ep, e, dd, r⟩ := x
    exact ⟨o, es, ep, hidT_get e (noA e dd), dd, r⟩
  have kin : (K w.params).In (hidT s₁.heap H) := fun b o e => by
    refine hidT_get (KX b o e) ?_
    cases z : H b with
    | none => rfl
    | some u =>
      have y := hA b (by rw [z]; exact fun y => nomatch y)
      rw [y] at e z
      rw [hK (by rw [z]; exact fun y => nomatch y)] at e
      cases e
  obtain ⟨mc, l1, l2⟩ := G.T.nolimit
  obtain ⟨so, ses, sep, se, sd⟩ := sys_of S
  exact ⟨{ kin := kin, glob := nsK G.T.g, blt := ⟨mb, nsK G.T.b, G.T.builtins⟩, nolimit := ⟨mc, nsK l1, l2⟩ }, so, ses, sep, hidT_get se (noA se sd), sd⟩
/-! ### a pen is made -/
def spPen (K : PySem.W.Frag) : Sp := fun vs H Q _ => ∃ (a : Addr) (ns : List Int), vs = [.ref a] ∧ SqL K H a (ns.map V.int) ∧ ns.length ≤ 63 ∧ (∀ z ∈ ns, Builtin.Int.intBits z ≤ 1048576) ∧
  ∀ p o Hf H', Ex H H' → (∀ a, H a ≠ none → Hf a = none) → Ex Hf H' → Hf p = none → H' p = some o → PenO K Hf o → Q (.ref p) H'
/-- the rest of a law behind its pen -/
theorem law_rest {K : PySem.W.Frag} {t : TS} {n : Nat} {Q : VK} {p sc : Addr} {o : HO} {Hf H : Hp} {T : List (Addr × Str)} (he : Ex Hf H) (hf : Hf p = none) (hp : H p = some o) (ho : PenO K Hf o) (hT : ∀ p ∈ T, H p.1 = some (.tbl #[]) ∧ Hf p.1 = none)
    (h : ∀ b, b.T = T → DS K b (.no :: .pen :: List.replicate n .no) t (fun _ => False) (fun d => d = .bl true) (fun _ => False) (fun _ => False)) (q : ∀ H', Q (.bl true) H') :
    t { nx := fun _ H' => Q .non H', rt := Q } (some (.ref sc) :: some (.ref p) :: List.replicate n none) H := by
  refine h ⟨fun _ => none, fun _ => none, [p], T⟩ rfl Hf H _ _ ?_ (fun _ _ _ _ _ _ z => z.elim) (fun v d Hf' H' e x r z => ?_) (fun _ _ _ _ _ _ z => z.elim) (fun _ _ _ _ _ _ z => z.elim)
  · refine { ex := { exF := he, ex0 := fun a u e => (nomatch e), exB := fun a u e => (nomatch e), frz := fun a h1 _ => (h1 rfl).elim, pens := fun q hq => ?_, tabs := fun q hq => ?_ }, len := by simp, sl := fun i x s h1 h2 => ?_, mine := fun i a z => rfl, sep := fun i j a z _ => ?_ }
    · rw [List.mem_singleton.mp hq]
      exact ⟨hf, rfl, o, hp, ho⟩
    · obtain ⟨t1, t2⟩ := hT q hq
      refine ⟨t2, rfl, fun z => ?_, #[], t1, trivial, fun pos cv hc => ?_⟩
      · rw [List.mem_singleton.mp z, hp] at t1
        obtain ⟨_, _, _, _, _, _, e, _⟩ := ho
        rw [e] at t1
        cases t1
      · have z : codeAmong pos [] = some cv := hc
        simp [codeAmong] at z
    · match i with
      | 0 =>
        simp at h1 h2
        subst h1; subst h2
        trivial
      | 1 =>
        simp at h1 h2
        subst h1; subst h2
        exact ⟨p, List.mem_singleton.mpr rfl, rfl⟩
      | i + 2 =>
        simp at h1 h2
        rw [List.getElem?_replicate] at h2
        split at h2
        · cases h2
          match x with
          | none => trivial
          | some _ => trivial
        · cases h2
    · obtain ⟨⟨ds, h1⟩, _⟩ := z
      match i with
      | 0 => simp at h1
      | 1 => simp at h1
      | i + 2 =>
        simp at h1
        rw [List.getElem?_replicate] at h1
        split at h1 <;> cases h1
  · subst z
    rw [r.bl_inv]
    exact q H'
end G

set_option Elab.async false
set_option linter.all false
set_option maxRecDepth 100000
set_option maxHeartbeats 4000000
/-! DShow: how long a repr is; data that repr may be asked of. -/
namespace G
open PySem PySem.Spec PyProof.Rows L2
/-- all its signs have few digits -/
def Ok8 (s : Str) : Prop := ∀ c ∈ s.cps.toList, c < 16 ^ 8
theorem Ok8.app {a b : Str} (x : Ok8 a) (y : Ok8 b) : Ok8 (a ++ b) := fun c h => (mem_cps_append.mp h).elim (x c) (y c)
theorem ok8_char (c : Char) : c.toNat < 16 ^ 8 := c.val.toNat_lt
theorem ok8_hex (n c : Nat) : ∀ x ∈ List.replicate n 48 ++ (Nat.toDigits 16 c).map Char.toNat, x < 16 ^ 8 := fun x h => by
  rcases List.mem_append.mp h with h | h
  · rw [(List.mem_replicate.mp h).2]; decide
  · obtain ⟨ch, _, rfl⟩ := List.mem_map.mp h
    exact ok8_char ch
theorem ok8_int0 (i : Int) : Ok8 (PyData.int i).shown := fun c hc => by
  by_cases h : c < 16 ^ 8
  · exact h
  · exact (shown_int_free' (k := c) ⟨by omega, Or.inr (by omega)⟩ i hc).elim
theorem ok8_rc (q c : Nat) (hc : c < 16 ^ 8) : ∀ x ∈ Builtin.Str.reprChar q c, x < 16 ^ 8 := by
  have two : ∀ a b : Nat, a < 16 ^ 8 → b < 16 ^ 8 → ∀ x ∈ [a, b], x < 16 ^ 8 := fun a b ha hb x h => by
    rcases List.mem_cons.mp h with rfl | h
    · exact ha
    · rw [List.mem_singleton.mp h]; exact hb
  have app : ∀ (l m : List Nat), (∀ x ∈ l, x < 16 ^ 8) → (∀ x ∈ m, x < 16 ^ 8) → ∀ x ∈ l ++ m, x < 16 ^ 8 := fun l m a b x h => (List.mem_append.mp h).elim (a x) (b x)
  unfold Builtin.Str.reprChar
  dsimp only
  by_cases h1 : (c == q || c == 92) = true
  · rw [if_pos h1]; exact two _ _ (by decide) hc
  rw [if_neg h1]
  by_cases h2 : (c == 10) = true
  · rw [if_pos h2]; exact two _ _ (by decide) (by decide)
  rw [if_neg h2]
  by_cases h3 : (c == 13) = true
  · rw [if_pos h3]; exact two _ _ (by decide) (by decide)
  rw [if_neg h3]
  by_cases h4 : (c == 9) = true
  · rw [if_pos h4]; exact two _ _ (by decide) (by decide)
  rw [if_neg h4]
  by_cases h5 : Unicode.isPrintable c = true
  · rw [if_pos h5]; intro x h; rw [List.mem_singleton.mp h]; exact hc
  rw [if_neg h5]
  by_cases h6 : c < 256
  · rw [if_pos h6]; exact app _ _ (two _ _ (by decide) (by decide)) (ok8_hex _ _)
  rw [if_neg h6]
  by_cases h7 : c < 65536
  · rw [if_pos h7]; exact app _ _ (two _ _ (by decide) (by decide)) (ok8_hex _ _)
  · rw [if_neg h7]; exact app _ _ (two _ _ (by decide) (by decide)) (ok8_hex _ _)
theorem ok8_fold (q : Nat) : ∀ (l : List Nat) (acc : Array Nat), (∀ c ∈ l, c < 16 ^ 8) → (∀ c ∈ acc.toList, c < 16 ^ 8) → ∀ c ∈ (l.foldl (fun out c => out ++ (Builtin.Str.reprChar q c).toArray) acc).toList, c < 16 ^ 8
  | [], acc, _, h => h
  | c :: r, acc, h, ha => ok8_fold q r _ (fun d hd => h d (List.mem_cons_of_mem _ hd)) fun d hd => by
    rw [Array.toList_append] at hd
    rcases List.mem_append.mp hd with z | z
    · exact ha d z
    · exact ok8_rc q c (h c List.mem_cons_self) d z
theorem ok8_reprText {x : Str} (h : Ok8 x) : Ok8 (reprText x) := by
  have hq : reprQuote x < 16 ^ 8 := by
    unfold reprQuote
    split <;> decide
  intro c hc
  unfold reprText at hc
  rw [Array.toList_push, ← Array.foldl_toList] at hc
  rcases List.mem_append.mp hc with z | z
  · exact ok8_fold _ _ _ h (fun d hd => by rw [List.mem_singleton.mp hd]; exact hq) c z
  · rw [List.mem_singleton.mp z]; exact hq
theorem ok8_dec {s : Str} (h : (s.cps.toList.all fun c => decide (c < 16 ^ 8)) = true) : Ok8 s := fun c hc => of_decide_eq_true (List.all_eq_true.mp h c hc)
theorem ok8_text : ∀ (ts : List Str) (k : Nat) (acc : Str), Ok8 acc → (∀ t ∈ ts, Ok8 t) → Ok8 (textFrom k acc ts)
  | [], _, _, h, _ => h
  | t :: r, k, acc, h, ht => ok8_text r (k + 1) _ ((h.app (by split <;> exact ok8_dec (by decide +kernel))).app (ht t List.mem_cons_self)) fun u hu => ht u (List.mem_cons_of_mem _ hu)
theorem ok8_list {ts : List Str} (h : ∀ t ∈ ts, Ok8 t) : Ok8 (listText ts) := (ok8_text ts 0 _ (ok8_dec (by decide +kernel)) h).app (ok8_dec (by decide +kernel))
theorem ok8_join {sep : Str} (hs : Ok8 sep) : ∀ ts : List Str, (∀ t ∈ ts, Ok8 t) → Ok8 (Str.join sep ts)
  | [], _ => fun c h => by
    have h' : c ∈ ([] : List Nat) := h
    cases h'
  | [x], h => h x (List.mem_singleton.mpr rfl)
  | x :: y :: r, h => ((h x List.mem_cons_self).app hs).app (ok8_join hs (y :: r) fun t ht => h t (List.mem_cons_of_mem _ ht))
theorem ok8_tuple {ts : List Str} (h : ∀ t ∈ ts, Ok8 t) : Ok8 (tupleText ts) := by
  unfold tupleText
  refine ((ok8_dec (by decide +kernel)).app (ok8_join (ok8_dec (by decide +kernel)) ts h)).app ?_
  split <;> exact ok8_dec (by decide +kernel)
theorem ok8_dict {ts : List Str} (h : ∀ t ∈ ts, Ok8 t) : Ok8 (dictText ts) := ((ok8_dec (by decide +kernel)).app (ok8_join (ok8_dec (by decide +kernel)) ts h)).app (ok8_dec (by decide +kernel))
mutual
theorem ok8_shown {B : Nat} : ∀ d : PyData, d.leavesShort B = true → Ok8 d.shown
  | .none, _ => ok8_dec (by decide +kernel)
  | .bool b, _ => by cases b <;> exact ok8_dec (by decide +kernel)
  | .int i, _ => ok8_int0 i
  | .str x, h => by
    simp only [PyData.shown]
    exact ok8_reprText (x := x) (ok8_dec (by simpa only [PyData.leavesShort] using h))
  | .list xs, h => by
    simp only [PyData.shown]
    exact ok8_list (ok8_shownAll xs (by simpa only [PyData.leavesShort] using h))
  | .tuple xs, h => by
    simp only [PyData.shown]
    exact ok8_tuple (ok8_shownAll xs (by simpa only [PyData.leavesShort] using h))
  | .dict xs, h => by
    simp only [PyData.shown]
    exact ok8_dict (ok8_shownKv xs (by simpa only [PyData.leavesShort] using h))
theorem ok8_shownAll {B : Nat} : ∀ ds : List PyData, PyData.leavesShortAll B ds = true → ∀ t ∈ PyData.shownAll ds, Ok8 t
  | [], _, t, ht => by simp [PyData.shownAll] at ht
  | d :: r, h, t, ht => by
    simp only [PyData.leavesShortAll, Bool.and_eq_true] at h
    simp only [PyData.shownAll] at ht
    rcases List.mem_cons.mp ht with rfl | ht
    · exact ok8_shown d h.1
    · exact ok8_shownAll r h.2 t ht
theorem ok8_shownKv {B : Nat} : ∀ ds : List (PyData × PyData), PyData.leavesShortKv B ds = true → ∀ t ∈ PyData.shownKv ds, Ok8 t
  | [], _, t, ht => by simp [PyData.shownKv] at ht
  | (k, v) :: r, h, t, ht => by
    simp only [PyData.leavesShortKv, Bool.and_eq_true] at h
    simp only [PyData.shownKv] at ht
    rcases List.mem_cons.mp ht with rfl | ht
    · exact ((ok8_shown k h.1.1).app (ok8_dec (by decide +kernel))).app (ok8_shown v h.1.2)
    · exact ok8_shownKv r h.2 t ht
end
/-- data of depth at most n, of bulk at most w, its ints of at most 50 digits -/
structure Sm (n w : Nat) (d : D) : Prop where
  pl : d.pl = true
  sh : d.py.showable = true
  dp : d.py.depth ≤ n
  lv : d.py.leavesShort 50 = true
  bk : d.py.bulk ≤ w
structure SmL (n w : Nat) (d : List D) : Prop where
  pl : D.plL d = true
  sh : PyData.showableAll (D.pyL d) = true
  dp : PyData.depthAll (D.pyL d) ≤ n
  lv : PyData.leavesShortAll 50 (D.pyL d) = true
  bk : PyData.bulkAll (D.pyL d) ≤ w
section
variable {n m w v : Nat} {d : D} {l : List D}
theorem Sm.mono (h : Sm n w d) (a : n ≤ m) (b : w ≤ v) : Sm m v d := { pl := h.pl, sh := h.sh, dp := Nat.le_trans h.dp a, lv := h.lv, bk := Nat.le_trans h.bk b }
theorem Sm.len (h : Sm n w d) : d.py.shown.length ≤ 52 * w + 50 := by
  have a := PyData.shown_le_bulk 50 (by decide) d.py h.lv
  have b := h.bk
  omega
theorem Sm.ok (h : Sm n w d) (a : n ≤ 60) (b : w ≤ 1900) : okR d := ⟨h.pl, h.sh, Nat.le_trans h.dp a, by have q := h.len; omega⟩
theorem Sm.ok8 (h : Sm n w d) : Ok8 d.py.shown := ok8_shown d.py h.lv
theorem Sm.str {s : Str} (h : Ok8 s) (hl : s.length ≤ w) : Sm n w (.str s) :=
  { pl := by simp [D.pl], sh := by simp [D.py, PyData.showable], dp := by simp [D.py, PyData.depth], lv := by simp only [D.py, PyData.leavesShort]; exact List.all_eq_true.mpr fun c hc => decide_eq_true (h c hc), bk := by simp only [D.py, PyData.bulk]; exact hl }
theorem Sm.shown (h : Sm n w d) : Sm m (52 * w + 50) (.str d.py.shown) := Sm.str h.ok8 h.len
theorem SmL.nil : SmL n w [] := { pl := by simp [D.plL], sh := by simp [D.pyL, PyData.showableAll], dp := by simp [D.pyL, PyData.depthAll], lv := by simp [D.pyL, PyData.leavesShortAll], bk := by simp [D.pyL, PyData.bulkAll] }
theorem SmL.cons (h : Sm n w d) (r : SmL n v l) : SmL n (w + 1 + v) (d :: l) :=
  { pl := by simp only [D.plL, h.pl, r.pl] <;> rfl, sh := by simp only [D.pyL, PyData.showableAll, h.sh, r.sh] <;> rfl
    dp := by simp only [D.pyL, PyData.depthAll]; exact Nat.max_le.mpr ⟨h.dp, r.dp⟩, lv := by simp only [D.pyL, PyData.leavesShortAll, h.lv, r.lv] <;> rfl
    bk := by simp only [D.pyL, PyData.bulkAll]; have a := h.bk; have b := r.bk; omega }
theorem SmL.tup (h : SmL n w l) : Sm (n + 1) w (.tup l) :=
  { pl := by simpa only [D.pl] using h.pl, sh := by simpa only [D.py, PyData.showable] using h.sh, dp := by simp only [D.py, PyData.depth]; exact Nat.succ_le_succ h.dp, lv := by simpa only [D.py, PyData.leavesShort] using h.lv, bk := by simpa only [D.py, PyData.bulk] using h.bk }
theorem SmL.lst (h : SmL n w l) : Sm (n + 1) w (.lst l) :=
  { pl := by simpa only [D.pl] using h.pl, sh := by simpa only [D.py, PyData.showable] using h.sh, dp := by simp only [D.py, PyData.depth]; exact Nat.succ_le_succ h.dp, lv := by simpa only [D.py, PyData.leavesShort] using h.lv, bk := by simpa only [D.py, PyData.bulk] using h.bk }
theorem lenD_seq {x : D} {l : List D} (h : seqD x = some l) : lenD x = some l.length := by
  cases x <;> first | (cases h; rfl) | cases h
theorem atD_seq {x : D} {l : List D} (h : seqD x = some l) (i : Int) : atD x i = L2.atI l i := by
  cases x <;> first | (cases h; rfl) | cases h
theorem atI_nat {l : List D} {i : Int} (h0 : 0 ≤ i) (h : i < l.length) : ∃ d, d ∈ l ∧ L2.atI l i = some d := by
  obtain ⟨k, rfl⟩ := Int.eq_ofNat_of_zero_le h0
  have hk : k < l.length := by omega
  refine ⟨l[k], List.getElem_mem hk, ?_⟩
  unfold L2.atI ixN
  rw [if_pos (by omega), if_pos (by omega)]
  show l[((k : Nat) : Int).toNat]? = _
  rw [Int.toNat_natCast]
  exact List.getElem?_eq_getElem hk
end
end G

set_option Elab.async false
set_option linter.all false
set_option maxRecDepth 100000
set_option maxHeartbeats 4000000
/-! DTry: try .. except C as n, as read by ds_try. -/
namespace G
open PySem PySem.Spec PyProof.Rows L2
theorem ps_tryD {X : Cx} {x n : Str} {c : Value} {i : Nat} {body suite : List Stmt} {b₀ : Stmt} {np pos pos' : Pos} {tb : WX → TS} {ts : Addr → Value → Option Addr → TS} {Wout : WX}
    (hs : X.stack = X.env :: X.outer) (hf : X.env.frame = some X.env.locals) (hN : X.N.Nodup) (hi : X.N[i]? = some n) (hln : X.env.kindOf n = some .local) (hc : Names X x c) (tk : Takes X Wout)
    (hb : ∀ (W : WX) (pn : List (Addr × Obj)) (xe : Value → Shared → Prop), Takes (X.tr pn xe) W → PassesOwn (model X.prog X.w) X.A X.env xe → PSs (X.tr pn xe) body (tb W))
    (hsu : ∀ (a : Addr) (oe : Obj) (cls : Value) (d : Option Addr) (pn : List (Addr × Obj)), Zc cls d oe → (∃ vs, oe.data = .fields vs) → PSs (X.suite a ((a, oe) :: pn)) (b₀ :: suite) (ts a cls d)) :
    PS X (.Try body [.ExceptHandler (some (.Name x np)) (some n) (b₀ :: suite) pos'] [] [] pos) (tTryAs X.K c i tb ts Wout) := ps_try_as hs hf hN hi hln hc tk hb hsu
theorem pnp_of {K : PySem.W.Frag} {a a' C' : Addr} {d d' : Option Addr} {oe : Obj} {cls : Value} {pn : Pins} (hz : Zc cls d oe) (hf : ∃ vs, oe.data = .fields vs) (z : a' = a ∧ d' = d ∧ Value.ref C' = cls ∧ XcC K C') : PnOk K ((a, oe) :: pn) a' d' C' := by
  obtain ⟨z1, z2, z3, z4⟩ := z
  subst z1; subst z2; subst z3
  exact ⟨oe, List.mem_cons_self, hz, hf, z4⟩
/-- a, b, c = x, y, z -/
theorem ds_par3 {K : PySem.W.Frag} {b : Bs} {ρ : List Sl} {tr : TA} {nx bk ct : List Sl → Prop} {rt : D → Prop} {i j m : Nat} (h : DA K b ρ tr fun l => ∃ x y z, l = [x, y, z] ∧ nx (((ρ.set i (.sh x)).set j (.sh y)).set m (.sh z))) : DS K b ρ (tPar3 i j m tr) nx rt bk ct := fun Hf H σ D fr n r bk ct => by
  refine h Hf H σ _ fr fun vs ds Hf1 H1 e1 f1 r1 ⟨x, y, z, e, q⟩ => ?_
  subst e
  cases r1 with
  | cons q1 r1 =>
    cases r1 with
    | cons q2 r1 =>
      cases r1 with
      | cons q3 r1 =>
        cases r1
        exact ⟨_, _, _, rfl, n _ _ Hf1 H1 e1.1 (((f1.set q1).set q2).set q3) q⟩
/-- a law begins: its pen -/
theorem law_startT {K : PySem.W.Frag} {t : TS} {n : Nat} {Q : VK} {sa : Addr} {ns : List Int} {H : Hp} {N : List Str} {E : L2.St → XK} {T : List (Addr × Str)} (hN : L2.start N [.ref sa] = some (.ref sa) :: none :: List.replicate n none)
    (hs : SqL K H sa (ns.map V.int)) (hl : ns.length ≤ 63) (hb : ∀ z ∈ ns, Builtin.Int.intBits z ≤ 1048576) (hT : ∀ p ∈ T, H p.1 = some (.tbl #[]))
    (h : ∀ b, b.T = T → DS K b (.no :: .pen :: List.replicate n .no) t (fun _ => False) (fun d => d = .bl true) (fun _ => False) (fun _ => False)) (q : ∀ H', Q (.bl true) H') :
    tSeq (tAsg (tCallG (fun _ => spPen K) [] E (tCons (tVar 0) tNil)) (gName 1)) t { nx := fun _ H' => Q .non H', rt := Q } (L2.start N [.ref sa]) H := by
  rw [hN]
  refine ⟨_, rfl, sa, ns, rfl, hs, hl, hb, fun p o Hf H' e0 ef e1 e2 e3 e4 => ?_⟩
  exact law_rest (t := t) (n := n) e1 e2 e3 e4 (fun p hp => ⟨e0 _ _ (hT p hp), ef _ (by rw [hT p hp]; exact fun z => nomatch z)⟩) h q
theorem law_start {K : PySem.W.Frag} {t : TS} {n : Nat} {Q : VK} {sa : Addr} {ns : List Int} {H : Hp} {N : List Str} {E : L2.St → XK} (hN : L2.start N [.ref sa] = some (.ref sa) :: none :: List.replicate n none)
    (hs : SqL K H sa (ns.map V.int)) (hl : ns.length ≤ 63) (hb : ∀ z ∈ ns, Builtin.Int.intBits z ≤ 1048576)
    (h : ∀ b, DS K b (.no :: .pen :: List.replicate n .no) t (fun _ => False) (fun d => d = .bl true) (fun _ => False) (fun _ => False)) (q : ∀ H', Q (.bl true) H') :
    tSeq (tAsg (tCallG (fun _ => spPen K) [] E (tCons (tVar 0) tNil)) (gName 1)) t { nx := fun _ H' => Q .non H', rt := Q } (L2.start N [.ref sa]) H :=
  law_startT (T := []) hN hs hl hb (fun p hp => (List.not_mem_nil hp).elim) (fun b _ => h b) q
end G

set_option Elab.async false
set_option linter.all false
set_option maxRecDepth 100000
set_option maxHeartbeats 4000000
/-! DLam: g(lambda: body), g a def that calls it once; told over data. -/
namespace G
open PySem PySem.Spec PyProof.Rows L2
section
variable {X : Cx} {pins : List (Addr × Obj)} {σ : L2.St} {H : Hp} {s : Shared}
/-- the context in which g runs -/
abbrev cxL (P : Program) (w : World) (K : PySem.W.Frag) (mg : Str → Option Value) (base : Heap) (A : Around) (st : List Env) (Ng : List Str) (qg : Str) (sg : Scope) (g : Addr) (cdg : Value) (s : Shared) (H : Hp) : Cx := cxOf (L2.CX P w) P w K mg base Ng qg sg g cdg A st s H E0
/-- what the lambda's object is -/
abbrev lamObj (X : Cx) (params : Arguments) (body : Expr) (scope : Scope) (pm : Value) (c' : Addr) (ctv : Value) : Obj := PySem.W.kla_obj "<lambda>" (X.env.qual ++ "<lambda>") params body scope (cloFrom X.env.cells scope.names []) pm c' ctv
/-- the call of what g was handed -/
theorem pe_actG {Ng : List Str} {qg : Str} {sg : Scope} {g f c' : Addr} {cdg pm ctv : Value} {params : Arguments} {body : Expr} {scope : Scope} {k i : Nat} {a : Str} {pn : List (Addr × Obj)} {xe : Value → Shared → Prop} {E : L2.St → XK} {tb : XK → TE} {p1 p2 : Pos}
    (I : Inv X pins σ H s) (L : LamX.LamS X.env.scope scope) (hf : s.heap.get? f = some (lamObj X params body scope pm c' ctv)) (hfn : H f = none) (hfr : f ∉ frs X.stack)
    (hbind : bindArgs (PySem.W.kla_fn "<lambda>" (X.env.qual ++ "<lambda>") params body scope (cloFrom X.env.cells scope.names []) pm (.ref c') ctv) ⟨[], []⟩ = pure [])
    (hx : ∀ σ', PassesAt (L2.CX X.prog X.w) ((cxL X.prog X.w X.K X.mg X.base X.A X.stack Ng qg sg g cdg s H).tr pn xe) σ' (E σ')) (hr : Rm true (k + 1) (X.A.deeper (envOfC qg sg s.heap.objs.size g cdg)))
    (hbody : ∀ (A : Around) (outer : List Env) (s : Shared) (H : Hp) (E : XK), Rm true k (A.deeper (LamX.lamEnv X scope s.heap.objs.size f c')) → PE (LamX.lamCx X A outer s H E scope f c') body (tb E))
    (hN : Ng[i]? = some a) (hv : Vis sg a) (hd : (a == ("__debug__" : Str)) = false) (hcd : (a == ("__classdict__" : Str)) = false) :
    PE ((cxL X.prog X.w X.K X.mg X.base X.A X.stack Ng qg sg g cdg s H).tr pn xe) (.Call (.Name a p1) [] [] p2) (fun σZ HZ Q => σZ[i]? = some (some (.ref f)) ∧ HZ c' = some (LamX.CodeO c' (X.env.qual ++ "<lambda>")) ∧ tb (E σZ) σ HZ Q) := by
  refine ⟨fun pz sz σz Hz Q Iz h => ?_⟩
  obtain ⟨hs, hc, ht⟩ := h
  refine wpAny_Call_Name_kw (thn ((pe_var (pos := p1) (i := i) hN hv hd hcd).run pz sz σz Hz (fun v H1 => v = .ref f ∧ H1 = Hz) Iz ⟨.ref f, hs, rfl, rfl⟩) fun u s1 z => ?_)
  obtain ⟨v, H1, I1, r1, ev, eH⟩ := z
  subst ev
  subst eH
  cases (show u = Value.ref f from r1)
  have at1 : s1.heap.get? f = some (lamObj X params body scope pm c' ctv) := I1.base.keep f _ hf hfn hfr (fun z => nomatch z)
  refine PySem.W.callWith_F0 ⟨_, _, _, _, at1⟩ ?_
  obtain ⟨⟨oc, vs, t, hoc, hdc, hvc⟩, _⟩ := I1.hok c' _ hc
  have rc : codeAny (model X.prog X.w) (X.A.deeper (envOfC qg sg s.heap.objs.size g cdg)) (.call (.ref f) ⟨[], []⟩) (CR (L2.CX X.prog X.w) (envOfC qg sg s.heap.objs.size g cdg :: X.stack) X.prog X.w H1 s1 Q (E σz)) s1 := by
    refine PySem.W.kla_callFunE hr.deep at1 rfl L.co L.gen rfl ⟨c', oc, vs, t, rfl, hoc, hdc, hvc⟩ ?_
    rw [hbind]
    refine wpAny_pure (wpAny_newFunctionEnv (fun y hy => (L.own y hy).2) (fun y hy => nomatch hy) (fun h₁ hns hsb => ⟨I1.nolimit.fresh _ hsb, ?_⟩) L.kind)
    show codeAny _ _ (.expr body (LamX.lamEnv X scope s1.heap.objs.size f c')) _ _
    have kp : ∀ b o, s1.heap.get? b = some o → h₁.get? b = some o := fun b o e => hsb.extBut b o (Nat.ne_of_lt (Heap.lt_size e)) (Heap.get?_push_of_some _ e)
    have J := LamX.lam_start2 (E := E σz) (f := f) (c' := c') (tk := s1.toks + ([] : List (Str × Value)).length) I L I1.env0 (hr.hd rfl) I1.base hns kp
    refine PySem.W.kla_codeExpr (wpAny_mono ((hbody _ _ s1 H1 (E σz) (hr.deeper _)).run [] _ _ H1 Q J ht) (fun v s' hq => ?_) fun e s' hq => hq)
    obtain ⟨w', H', J', rv, q⟩ := hq
    exact ⟨w', H', J'.os, J'.bare, J'.base, J'.hok, rv, q⟩
  refine wpAny_call (codeAny_mono rc fun r s' hq => ?_)
  · match r, hq with
    | .error e, hq => exact hx σz pz H1 s1 e s' I1 hq
    | .ok (.ret u), hq => exact I1.after hq
    | .ok .next, hq => exact hq.elim
    | .ok .brk, hq => exact hq.elim
    | .ok .cont, hq => exact hq.elim
/-- what the making of a lambda does to the table at P: nothing, or one more code object -/
def Grow (P : Addr) (q : Str) (H H1 : Hp) : Prop := H1 = H ∨ ∃ (ps more : Array Value) (c' : Addr), H P = some (.tbl ps) ∧ H c' = none ∧ H1 = upd (upd H P (.tbl (ps ++ more))) c' (LamX.CodeO c' q) ∧ TriplesOk (ps ++ more).toList ∧
  ∀ (pos : Pos) (cv : Value), codeAmong pos (ps ++ more).toList = some cv → codeAmong pos ps.toList = some cv ∨ cv = .ref c'
/-- the lambda's object is made -/
theorem lam_makeG {c P : Addr} {params : Arguments} {body : Expr} {scope : Scope} {pos : Pos} {E : Value → Shared → Prop} {Q : Value → Shared → Prop} {ps : Array Value} (I : Inv X pins σ H s) (TB : LamX.TabB X.base X.mg c P) (hcode : X.env.code = .ref c)
    (hP : H P = some (.tbl ps)) (ht : TriplesOk ps.toList) (ha : ∀ (pos : Pos) (cv : Value), codeAmong pos ps.toList = some cv → ∃ c, cv = .ref c ∧ H c = some (LamX.CodeO c (X.env.qual ++ "<lambda>")))
    (hdef : defaultsOf params X.env = ([], [])) (hfree : ∀ y ∈ scope.names, y.2 = .free → ∃ c, X.env.cells.lookup y.1 = some c)
    (h : ∀ (f c' : Addr) (pm ctv : Value) (H1 : Hp) (s' : Shared), Inv X pins σ H1 s' → Grow P (X.env.qual ++ "<lambda>") H H1 → s'.heap.get? f = some (lamObj X params body scope pm c' ctv) → H1 f = none → f ∉ frs X.stack → H1 c' = some (LamX.CodeO c' (X.env.qual ++ "<lambda>")) → Q (.ref f) s') :
    wpAny (model X.prog X.w) X.A (eval (.Lambda params body scope pos) X.env) Q E s := by
  refine PySem.W.kla_eval hdef ?_
  have bP : s.heap.BuiltinsAt X.mg P := TB.bm.keeps I.bk
  have atP : s.heap.get? P = some { cls := .none, data := .fields ps } := I.hok P _ hP
  have nofr : ∀ f, s.heap.objs.size ≤ f → f ∉ frs X.stack := fun f hf z => by
    rcases List.mem_cons.mp (I.stkSub _ z) with e | e
    · have h1 := I.lt
      rw [← e] at h1
      exact Nat.lt_irrefl _ (Nat.lt_of_lt_of_le h1 hf)
    · exact I.nofs hf e
  cases hc : codeAmong pos ps.toList with
  | some cv =>
    obtain ⟨c', e, hco⟩ := ha pos cv hc
    subst e
    refine PySem.W.kla_makeFunctionHit (mg := X.mg) (c := c) (P := P) (ps := ps) (closure_ok hfree) I.ok.glob (I.mod.glob.keeps I.bk) hcode (TB.code.keeps I.bk) atP ht hc bP fun ctv h' tk hx hsz => ?_
    have I1 : Inv X pins σ H { s with heap := h'.push (lamObj X params body scope ((X.mg "__name__").getD .none) c' ctv), toks := tk } := I.kept fun b o e => Heap.get?_push_of_some _ (hx b o e)
    exact h h'.objs.size c' ((X.mg "__name__").getD .none) ctv H _ I1 (Or.inl rfl) (Heap.get?_push_size _ rfl) (I.hok.fresh hsz) (nofr _ hsz) hco
  | none =>
    refine PySem.W.kla_makeFunction (mg := X.mg) (c := c) (P := P) (ps := ps) (closure_ok hfree) I.ok.glob (I.mod.glob.keeps I.bk) hcode (TB.code.keeps I.bk) atP ht hc TB.gP bP fun c' ctv h' tk hx hge hlt hrec htb => ?_
    obtain ⟨c2, oc, vs, t, e2, hoc, hd, hv⟩ := hrec
    cases e2
    have hsz : s.heap.objs.size ≤ h'.objs.size := Nat.le_trans hge (Nat.le_of_lt hlt)
    have nC : H c' = none := I.hok.fresh hge
    have I1 := LamX.inv_table (t' := tk) (more := #[rawInt pos.line, rawInt pos.col, .ref c']) (h' := h'.push (lamObj X params body scope ((X.mg "__name__").getD .none) c' ctv)) I hP (fun b o hb e => Heap.get?_push_of_some _ (hx b o hb e)) (Heap.get?_push_of_some _ htb) hge ⟨oc, vs, t, Heap.get?_push_of_some _ hoc, hd, hv⟩
    have eL : (ps ++ #[rawInt pos.line, rawInt pos.col, .ref c']).toList = ps.toList ++ [rawInt pos.line, rawInt pos.col, .ref c'] := by simp
    refine h h'.objs.size c' ((X.mg "__name__").getD .none) ctv _ _ I1 (Or.inr ⟨ps, _, c', hP, nC, rfl, by rw [eL]; exact PySem.TriplesOk_snoc _ _ _ _ ht, fun p' cv hcv => ?_⟩) (Heap.get?_push_size _ rfl) ?_ (nofr _ hsz) upd_same
    · rw [eL] at hcv
      exact LamX.among_app _ ht hcv
    · have n1 : h'.objs.size ≠ c' := by omega
      have n2 : h'.objs.size ≠ P := Nat.ne_of_gt (Nat.lt_of_lt_of_le (Heap.lt_size atP) hsz)
      rw [upd_ne n1, upd_ne n2]
      exact I.hok.fresh hsz
end
/-- g, which calls what it got by the name a; TT: what it makes of the lambda's reading -/
def GivesG (P : Program) (w : World) (K : PySem.W.Frag) (mg : Str → Option Value) (base : Heap) (A : Around) (st : List Env) (k : Nat) (Ng : List Str) (x : Str) (sg : Scope) (g : Addr) (cdg : Value) (bg : List Stmt) (a : Str) (q : Str) (TT : (XK → Hp → VK → Prop) → Hp → VK → Prop) : Prop :=
  ∀ (f c' : Addr) (s : Shared) (H : Hp) (Q : VK) (tl : XK → Hp → VK → Prop), Rm true (k + 1) (A.deeper (envOfC x sg s.heap.objs.size g cdg)) →
    (∀ (pn : List (Addr × Obj)) (xe : Value → Shared → Prop) (E : L2.St → XK) (p1 p2 : Pos), (∀ σ', PassesAt (L2.CX P w) ((cxL P w K mg base A st Ng x sg g cdg s H).tr pn xe) σ' (E σ')) →
      PE ((cxL P w K mg base A st Ng x sg g cdg s H).tr pn xe) (.Call (.Name a p1) [] [] p2) (fun σZ HZ Q => σZ[0]? = some (some (.ref f)) ∧ HZ c' = some (LamX.CodeO c' q) ∧ tl (E σZ) HZ Q)) →
    H c' = some (LamX.CodeO c' q) → TT tl H Q → ∃ t, PSs (cxL P w K mg base A st Ng x sg g cdg s H) bg t ∧ t { nx := fun _ H' => Q .non H', rt := Q } (L2.start Ng [.ref f]) H
def tLamG (P : Addr) (q : Str) (TT : (XK → Hp → VK → Prop) → Hp → VK → Prop) (t : XK → TE) : TE := fun σ H Q =>
  (∃ ps : Array Value, H P = some (.tbl ps) ∧ TriplesOk ps.toList ∧ ∀ (pos : Pos) (cv : Value), codeAmong pos ps.toList = some cv → ∃ c, cv = .ref c ∧ H c = some (LamX.CodeO c q)) ∧ ∀ H1, Grow P q H H1 → TT (fun E H' Q' => t E σ H' Q') H1 Q
theorem pe_lamG {X : Cx} {TT : (XK → Hp → VK → Prop) → Hp → VK → Prop} {x a : Str} {g c P : Addr} {k : Nat} {st : Stmt} {fd : FuncData} {Ng : List Str} {params : Arguments} {body : Expr} {scope : Scope} {t : XK → TE} {p lpos pos : Pos}
    (hg : Gl X x) (hm : X.mg x = some (.ref g)) (F : Fun X.K x x st g fd) (hb : L2.Binds X.K fd [a] []) (Sg : FnScope Ng [a] (defScope st)) (hNg : Ng[0]? = some a) (hva : Vis (defScope st) a)
    (hG : ∀ cdg, GivesG X.prog X.w X.K X.mg X.base X.A X.stack k Ng x (defScope st) g cdg (defBody st) a (X.env.qual ++ "<lambda>") TT) (TB : LamX.TabB X.base X.mg c P) (hcode : X.env.code = .ref c) (hr : Rm true (k + 2) X.A) (L : LamX.LamS X.env.scope scope) (hdef : defaultsOf params X.env = ([], []))
    (hbind : ∀ (q : Str) (cl : List (Str × Addr)) (pm cv ctv : Value), bindArgs (PySem.W.kla_fn "<lambda>" q params body scope cl pm cv ctv) ⟨[], []⟩ = pure [])
    (hbody : ∀ (A : Around) (outer : List Env) (s : Shared) (H : Hp) (E : XK) (f c' : Addr), Rm true k (A.deeper (LamX.lamEnv X scope s.heap.objs.size f c')) → PE (LamX.lamCx X A outer s H E scope f c') body (t E))
    (hdb : (x == ("__debug__" : Str)) = false := by decide) (hd : (a == ("__debug__" : Str)) = false := by decide) (hcd : (a == ("__classdict__" : Str)) = false := by decide) :
    PE X (.Call (.Name x p) [.Lambda params body scope lpos] [] pos) (tLamG P (X.env.qual ++ "<lambda>") TT t) := by
  have hk := F.kp
  obtain ⟨oc, od, kV, doc, pm, an, cdg, ct, osl, rfl, lk, hcg⟩ := F.ex
  refine ⟨fun pins s σ H Q I h => ?_⟩
  obtain ⟨⟨ps, hP, ht, ha⟩, h⟩ := h
  refine wpAny_Call_Name_kw (ld_glob I hg hm ?_ hdb)
  refine PySem.W.callWith_K (h₀ := X.base) I.ok.mod.kin hk ?_ (by rfl) (by rfl)
  show wpAny _ _ (spliced ((false, eval (.Lambda params body scope lpos) X.env) :: backTo pos (starEach [] X.env))) _ _ s
  refine Calls.spliced_cons (lam_makeG I TB hcode hP ht ha hdef (L.has I.ok) fun f c' pm' ctv H1 s' I1 gr hf hfn hfr hco => ?_)
  refine Calls.spliced_nil ⟨I1.kIn, ?_⟩
  have rc : codeAny (model X.prog X.w) X.A (.call (.ref g) ⟨[.ref f], []⟩) (CR (L2.CX X.prog X.w) X.stack X.prog X.w H1 s' Q E0) s' := by
    refine LamX.run_ofS (N := Ng) (ps := [a]) (us := [.ref f]) (vs := [.ref f]) lk hcg Sg (hr.mono (Nat.le_refl _)).room I1.env0 (hb s' [.ref f] I1.kIn rfl) (.cons rfl .nil) rfl fun _ => ?_
    have hr' : Rm true (k + 1) (X.A.deeper (envOfC x (defScope st) s'.heap.objs.size g cdg)) := hr.deeper _
    exact hG cdg f c' s' H1 Q (fun E H' Q' => t E σ H' Q') hr' (fun pn xe E p1 p2 hx => pe_actG (i := 0) I1 L hf hfn hfr (hbind _ _ _ _ _) hx hr' (fun A outer s H E hr2 => hbody A outer s H E f c' hr2) hNg hva hd hcd) hco (h H1 gr)
  refine wpAny_call (codeAny_mono rc fun r s2 hq => ?_)
  match r, hq with
  | .error e, hq =>
    obtain ⟨_, _, _, _, _, _, _, _, _, _, _, _, z⟩ := hq
    exact z.elim
  | .ok (.ret u), hq => exact I1.after hq
  | .ok .next, hq => exact hq.elim
  | .ok .brk, hq => exact hq.elim
  | .ok .cont, hq => exact hq.elim
end G

set_option Elab.async false
set_option linter.all false
set_option maxRecDepth 100000
set_option maxHeartbeats 4000000
/-! DFault: what a def makes of the lambda it is handed, told over data. -/
namespace G
open PySem PySem.Spec PyProof.Rows L2
/-- all that stands is fixed but for pens and tables -/
def Bs.cut (b : Bs) (Hf H : Hp) : Bs := ⟨fun a => if a ∈ b.M ∨ a ∈ b.T.map (·.1) then none else H a, Hf, b.M, b.T⟩
section
variable {K : PySem.W.Frag} {b : Bs} {Hf H Hf' H' : Hp} {σ : L2.St} {ρ : List Sl}
theorem Exit.cut (x : Exit K b Hf H) : Exit K (b.cut Hf H) Hf H :=
  { exF := x.exF, ex0 := Ex.refl _
    exB := fun a o e => by
      have e' : (if a ∈ b.M ∨ a ∈ b.T.map (·.1) then none else H a) = some o := e
      by_cases z : a ∈ b.M ∨ a ∈ b.T.map (·.1)
      · rw [if_pos z] at e'; cases e'
      · rw [if_neg z] at e'; exact e'
    frz := fun a _ h => h
    pens := fun p hp => ⟨(x.pens p hp).1, if_pos (Or.inl hp), (x.pens p hp).2.2⟩
    tabs := fun p hp => ⟨(x.tabs p hp).1, if_pos (Or.inr (List.mem_map.mpr ⟨p, hp, rfl⟩)), (x.tabs p hp).2.2⟩ }
theorem Fm.back (f : Fm K b Hf H σ ρ) (y : Exit K (b.cut Hf H) Hf' H') : Up b Hf H Hf' H' ∧ Fm K b Hf' H' σ ρ := by
  have x := f.ex
  have stay : ∀ a o, H a = some o → ¬ b.mt a → (b.cut Hf H).B a = some o := fun a o e n => by
    show (if a ∈ b.M ∨ a ∈ b.T.map (·.1) then none else H a) = some o
    rw [if_neg (show ¬ (a ∈ b.M ∨ a ∈ b.T.map (·.1)) from n)]
    exact e
  have up : Up b Hf H Hf' H' := ⟨y.ex0, fun a o e n => by
    have z := stay a o e n
    exact ⟨y.exB a o z, y.frz a (by rw [z]; exact fun q => nomatch q)⟩⟩
  have out : ∀ a o, b.B a = some o → ¬ b.mt a := fun a o e z => by
    rcases z with z | z
    · obtain ⟨_, z2, _⟩ := x.pens a z
      rw [z2] at e; cases e
    · obtain ⟨q, hq, eq⟩ := List.mem_map.mp z
      obtain ⟨_, z2, _⟩ := x.tabs q hq
      rw [eq, e] at z2; cases z2
  refine ⟨up, f.step { exF := y.exF, ex0 := x.ex0.trans y.ex0, exB := fun a o e => (up.2 a o (x.exB a o e) (out a o e)).1, frz := fun a h1 h2 => ?_, pens := fun p hp => ?_, tabs := fun p hp => ?_ } y.ex0 fun a xs h1 h2 h3 h4 => ?_⟩
  · cases hb : b.B a with
    | none => exact (h1 hb).elim
    | some o => exact (up.2 a o (x.exB a o hb) (out a o hb)).2 (x.frz a h1 h2)
  · obtain ⟨z1, z2, z3⟩ := y.pens p hp
    exact ⟨z1, (x.pens p hp).2.1, z3⟩
  · obtain ⟨z1, z2, z3, z4⟩ := y.tabs p hp
    exact ⟨z1, (x.tabs p hp).2.1, z3, z4⟩
  · have n : ¬ b.mt a := fun z => by
      rcases z with z | z
      · exact h4 z
      · obtain ⟨q, hq, eq⟩ := List.mem_map.mp z
        obtain ⟨_, _, _, t⟩ := x.tabs q hq
        exact t.ne (Or.inr ⟨xs, h1⟩) eq
    obtain ⟨k1, k2⟩ := up.2 a _ h1 n
    exact ⟨k2 h2, k1⟩
/-- one's own lists forgotten -/
def noOw : Sl → Sl
  | .ow _ => .no
  | s => s
theorem Fm.shut (f : Fm K b Hf H σ ρ) {b1 : Bs} {Hf1 H1 : Hp} (x : Exit K b1 Hf1 H1) (e : Ex Hf Hf1) (hm : ∀ p, p ∈ b.M → p ∈ b1.M) : Fm K b1 Hf1 H1 σ (ρ.map noOw) := by
  have own : ∀ i a, ¬ Own σ (ρ.map noOw) i a := fun i a ⟨⟨ds, h1⟩, _⟩ => by
    rw [List.getElem?_map] at h1
    cases q : ρ[i]? with
    | none => rw [q] at h1; cases h1
    | some s =>
      rw [q] at h1
      cases s <;> cases h1
  refine { ex := x, len := by rw [List.length_map]; exact f.len, sl := fun i o s h1 h2 => ?_, mine := fun i a z => (own i a z).elim, sep := fun i j a z => (own i a z).elim }
  rw [List.getElem?_map] at h2
  cases q : ρ[i]? with
  | none => rw [q] at h2; cases h2
  | some s0 =>
    rw [q] at h2
    have h2' : some (noOw s0) = some s := h2
    cases h2'
    have z := f.sl i o s0 h1 q
    match o, s0, z with
    | none, .no, _ => trivial
    | some _, .no, _ => trivial
    | none, .ow _, _ => trivial
    | some _, .ow _, _ => trivial
    | some v, .sh d, z => exact Rp.up e z
    | some v, .pen, z =>
      obtain ⟨p, hp, ev⟩ := z
      exact ⟨p, hm p hp, ev⟩
/-- the lambda's reading tl, over data -/
def TLd (K : PySem.W.Frag) (b : Bs) (Qb : D → Prop) (X : Addr → List (Str × D) → Prop) (tl : XK → Hp → VK → Prop) : Prop :=
  ∀ (b1 : Bs), Sub K b b1 → b1.M = b.M → b1.T = b.T → ∀ (Hf1 H1 : Hp) (k : VK) (E : XK), Exit K b1 Hf1 H1 → (∀ v d Hf' H', Up b1 Hf1 H1 Hf' H' → Exit K b1 Hf' H' → Rp K Hf' v d → Qb d → k v H') →
    (∀ C fs d Hf' H', Exit K b1 Hf' H' → ExD K Hf' d fs → X C fs → E (.ref C) d H') → tl E H1 k
/-- what the def that is handed the lambda makes of it: Fo tells, for what the lambda may give (Qb) and let out (X), what it gives -/
def TTd (K : PySem.W.Frag) (Fo : (D → Prop) → (Addr → List (Str × D) → Prop) → (D → Prop) → Prop) : (XK → Hp → VK → Prop) → Hp → VK → Prop := fun tl H Q =>
  ∃ (b0 : Bs) (Hf : Hp) (Qb : D → Prop) (X : Addr → List (Str × D) → Prop) (R : D → Prop), Exit K b0 Hf H ∧ TLd K (b0.cut Hf H) Qb X tl ∧ Fo Qb X R ∧ ∀ v d Hf' H', Exit K (b0.cut Hf H) Hf' H' → Rp K Hf' v d → R d → Q v H'
theorem TabOk.grow {P : Addr} {q : Str} {H1 : Hp} (x : Exit K b Hf H) (hT : (P, q) ∈ b.T) (hu : ∀ p ∈ b.T, p.1 = P → p.2 = q) (g : Grow P q H H1) (f : Fm K b Hf H σ ρ) : ∃ Hf1, Ex Hf Hf1 ∧ Fm K b Hf1 H1 σ ρ ∧ Up b Hf H Hf1 H1 := by
  rcases g with rfl | ⟨ps, more, c', hP, nC, rfl, ht, ha⟩
  · exact ⟨Hf, Ex.refl _, f, Up.refl⟩
  obtain ⟨t1, t2, t3, t4⟩ := x.tabs (P, q) hT
  have nCf := x.exF.no nC
  have nPc : P ≠ c' := ne_of_none hP nC
  have e := Ex.new (o := LamX.CodeO c' q) nCf
  have atb : ∀ a, a ≠ P → a ≠ c' → upd (upd H P (.tbl (ps ++ more))) c' (LamX.CodeO c' q) a = H a := fun a h1 h2 => by rw [upd_ne h2, upd_ne h1]
  have nP : ∀ a o, H a = some o → (∀ ps, o ≠ .tbl ps) → a ≠ P := fun a o h1 h2 z => by
    rw [z, hP] at h1
    exact h2 ps (Option.some.inj h1).symm
  have x' : Exit K b (upd Hf c' (LamX.CodeO c' q)) (upd (upd H P (.tbl (ps ++ more))) c' (LamX.CodeO c' q)) := by
    refine { exF := fun a o h => ?_, ex0 := x.ex0.trans e, exB := fun a o h => ?_, frz := fun a h1 h2 => ?_, pens := fun p hp => ?_, tabs := fun p hp => ?_ }
    · by_cases z : a = c'
      · subst z; rw [upd_same] at h ⊢; exact h
      · rw [upd_ne z] at h
        have n : a ≠ P := fun y => by rw [y, t1] at h; cases h
        rw [atb a n z]
        exact x.exF a o h
    · have h0 := x.exB a o h
      have n : a ≠ P := fun y => by rw [y, t2] at h; cases h
      rw [atb a n (ne_of_none h0 nC)]
      exact h0
    · have n : a ≠ c' := fun z => h1 (by rw [z]; exact x.exB.no nC)
      rw [upd_ne n]
      exact x.frz a h1 h2
    · obtain ⟨z1, z2, o, z3, z4⟩ := x.pens p hp
      have n1 : p ≠ c' := ne_of_none z3 nC
      have n2 : p ≠ P := fun y => t3 (by rw [← y]; exact hp)
      exact ⟨by rw [upd_ne n1]; exact z1, z2, o, by rw [atb p n2 n1]; exact z3, z4.up e⟩
    · obtain ⟨z1, z2, z3, ps', z4, z5, z6⟩ := x.tabs p hp
      have n1 : p.1 ≠ c' := ne_of_none z4 nC
      refine ⟨by rw [upd_ne n1]; exact z1, z2, z3, ?_⟩
      by_cases y : p.1 = P
      · rw [hu p hp y, y]
        refine ⟨ps ++ more, by rw [upd_ne nPc, upd_same], ht, fun pos cv hc => ?_⟩
        rcases ha pos cv hc with w | w
        · obtain ⟨ps2, w1, w2, w3⟩ := t4
          rw [hP] at w1
          cases w1
          obtain ⟨c0, e1, e2⟩ := w3 pos cv w
          exact ⟨c0, e1, e _ _ e2⟩
        · exact ⟨c', w, upd_same⟩
      · exact ⟨ps', by rw [atb p.1 y n1]; exact z4, z5, fun pos cv hc => by
          obtain ⟨c0, e1, e2⟩ := z6 pos cv hc
          exact ⟨c0, e1, e _ _ e2⟩⟩
  refine ⟨_, e, f.step x' e fun a xs h1 h2 _ _ => ?_, e, fun a o h n => ?_⟩
  · have n1 : a ≠ c' := ne_of_none h1 nC
    have n2 : a ≠ P := nP a _ h1 (fun ps z => by cases z)
    exact ⟨by rw [upd_ne n1]; exact h2, by rw [atb a n2 n1]; exact h1⟩
  · have n1 : a ≠ c' := ne_of_none h nC
    have n2 : a ≠ P := fun y => n (by rw [y]; exact Bs.mtT hT)
    exact ⟨by rw [atb a n2 n1]; exact h, fun z => by rw [upd_ne n1]; exact z⟩
/-- g(lambda: body), told over data -/
theorem de_lam {P : Addr} {q : Str} {Q Qb : D → Prop} {X : Addr → List (Str × D) → Prop} {Fo : (D → Prop) → (Addr → List (Str × D) → Prop) → (D → Prop) → Prop} {t : XK → TE} (hT : (P, q) ∈ b.T) (hu : ∀ p ∈ b.T, p.1 = P → p.2 = q)
    (h : ∀ (b1 : Bs) (E : XK), b1.M = b.M → b1.T = b.T → EL K b1 (ρ.map noOw) (fun _ => E) X → DE K b1 (ρ.map noOw) (t E) Qb) (hF : Fo Qb X Q) : DE K b ρ (tLamG P q (TTd K Fo) t) Q := fun Hf H σ k fr c => by
  obtain ⟨_, _, _, ps, h1, h2, h3⟩ := fr.ex.tabs (P, q) hT
  refine ⟨⟨ps, h1, h2, fun pos cv hc => ?_⟩, fun H1 g => ?_⟩
  · obtain ⟨c0, e1, e2⟩ := h3 pos cv hc
    exact ⟨c0, e1, fr.ex.exF _ _ e2⟩
  · obtain ⟨Hf1, e1, f1, up1⟩ := TabOk.grow fr.ex hT hu g fr
    refine ⟨b, Hf1, Qb, X, Q, f1.ex, fun b1 sub eM eT Hf2 H2 k2 E x2 hk hE => ?_, hF, fun v d Hf' H' x' r z => ?_⟩
    · have y2 := sub.2 _ _ x2
      have f2 := f1.shut x2 y2.ex0 (fun p hp => by rw [eM]; exact hp)
      refine h b1 E eM eT (fun Hf3 H3 σ3 f3 C fs d e z => hE C fs d Hf3 H3 f3.ex e z) Hf2 H2 σ k2 f2 fun v d Hf' H' u f r z => hk v d Hf' H' u f.ex r z
    · obtain ⟨u, f2⟩ := f1.back x'
      exact c v d Hf' H' (up1.trans u) f2 r z
end
end G

set_option Elab.async false
set_option linter.all false
set_option maxRecDepth 100000
set_option maxHeartbeats 4000000
/-! DMath: whole numbers: chains, *=, gcd, named constants; defs whose code is asked for. -/
namespace G
open PySem PySem.Spec PyProof.Rows L2
section
variable {K : PySem.W.Frag} {b : Bs} {ρ : List Sl} {ta tb te tc : TE} {tt tu : TT} {tr : TA} {Q : D → Prop} {H Hf : Hp}
theorem pe_globI {X : Cx} {x : Str} {i : Int} {pos : Pos} (hg : Gl X x) (hm : ∃ t, X.mg x = some (.int i t)) (hdb : (x == ("__debug__" : Str)) = false := by decide) : PE X (.Name x pos) (tC (.int i)) := by
  obtain ⟨t, hm⟩ := hm
  exact pe_glob (v := .int i) hg hm ⟨_, rfl⟩ hdb
/-- a < b < c of ints -/
theorem de_chainI {g g' : Int → Int → Bool} (h : DE K b ρ ta fun x => DE K b ρ tb fun y => ∃ i j, x = .int i ∧ y = .int j ∧ if g i j = true then DE K b ρ tc fun z => ∃ l, z = .int l ∧ Q (.bl (g' j l)) else Q (.bl false)) :
    DE K b ρ (tChain (rI0 fun i j => .bl (g i j)) (rI0 fun i j => .bl (g' i j)) ta tb tc) Q := fun Hf H σ k fr c => by
  refine h Hf H σ _ fr fun v x Hf1 H1 e1 f1 r1 q1 => ?_
  refine q1 Hf1 H1 σ _ f1 fun u y Hf2 H2 e2 f2 r2 ⟨i, j, ex, ey, q⟩ => ?_
  subst ex; subst ey
  refine ⟨i, j, r1.int_inv, r2.int_inv, g i j, rfl, ?_⟩
  by_cases z : g i j = true
  · rw [if_pos z] at q ⊢
    refine q Hf2 H2 σ _ f2 fun w z Hf3 H3 e3 f3 r3 ⟨l, ez, q3⟩ => ?_
    subst ez
    exact ⟨j, l, r2.int_inv, r3.int_inv, c _ _ Hf3 H3 ((e1.trans e2).trans e3) f3 (.bl _) q3⟩
  · rw [if_neg z] at q ⊢
    exact c _ _ Hf2 H2 (e1.trans e2) f2 (.bl _) q
/-- gcd(a, b) -/
theorem de_gcd (h : DE K b ρ ta fun x => DE K b ρ tb fun y => ∃ i j, x = .int i ∧ y = .int j ∧ Q (.int ((Nat.gcd i.natAbs j.natAbs : Nat) : Int))) : DE K b ρ (tCB rGcd (tCons ta (tCons tb tNil))) Q :=
  de_cb (da_cons (h.imp fun x hx => da_cons (hx.imp fun y ⟨i, j, e1, e2, q⟩ => da_nil fun Hf H σ k vs f rr c => by
    subst e1; subst e2
    cases rr with
    | cons r1 rr =>
      cases rr with
      | cons r2 rr =>
        cases rr
        have a := r1.int_inv; subst a
        have a := r2.int_inv; subst a
        exact ⟨i, j, rfl, c _ _ Hf H Up.refl f (.int _) q⟩)))
/-- x *= e -/
def ipM : TIp := fun x y H Q => ∃ i j, x = .int i ∧ y = .int j ∧ IntMulOk i j ∧ Q (.int (i * j)) H
theorem ip_mulG {X : Cx} : PIp X .Mult ipM := by
  intro pins s σ H x y v u Q I r1 r2 h
  obtain ⟨i, j, e1, e2, hm, q⟩ := h
  subst e1; subst e2
  obtain ⟨t, rfl⟩ := r1
  obtain ⟨t', rfl⟩ := r2
  exact imul_int ⟨.int _, H, I.tok _, ⟨_, rfl⟩, q⟩ hm
theorem ds_augM {nx bk ct : List Sl → Prop} {rt : D → Prop} {i : Nat} {a : Int} (hi : ρ[i]? = some (.sh (.int a))) (h : DE K b ρ te fun y => ∃ j, y = .int j ∧ IntMulOk a j ∧ nx (ρ.set i (.sh (.int (a * j))))) : DS K b ρ (tAug i te ipM) nx rt bk ct := fun Hf H σ D fr n r bk ct => by
  have hl : i < σ.length := by rw [fr.len]; exact (List.getElem?_eq_some_iff.mp hi).1
  have ho : σ[i]? = some σ[i] := List.getElem?_eq_getElem hl
  have z := fr.sl i _ _ ho hi
  generalize σ[i] = o at ho z
  match o, z with
  | none, z => exact z.elim
  | some v, z =>
    have ev := Rp.int_inv z
    subst ev
    refine ⟨.int a, ho, ?_⟩
    refine h Hf H σ _ fr fun v d Hf1 H1 e1 f1 r1 ⟨j, e, hm, q⟩ => ?_
    subst e
    exact ⟨a, j, rfl, r1.int_inv, hm, n _ _ Hf1 H1 e1.1 (f1.set (.int _)) q⟩
/-- what a lambda's call is, in the def that was handed it -/
theorem de_act {b0 : Bs} {tl : XK → Hp → VK → Prop} {Qb : D → Prop} {X : Addr → List (Str × D) → Prop} {f c' : Addr} {q : Str} {W : WX} {nx : List Sl} (htl : TLd K b0 Qb X tl) (sub : Sub K b0 b) (hM : b.M = b0.M) (hT : b.T = b0.T)
    (hc : b0.B c' = some (LamX.CodeO c' q)) (hE : EL K b ρ (fun σ => WE W σ) X) (hf : ρ[0]? = some (.sh (.fn f))) (hfree : ∀ (i : Nat) (s : Sl), ρ[i]? = some s → s = .no ∨ s = .sh .non ∨ s = .sh (.fn f)) :
    (∀ d, Qb d → Q d) → DE K b ρ (fun σZ HZ Q' => σZ[0]? = some (some (.ref f)) ∧ HZ c' = some (LamX.CodeO c' q) ∧ tl (WE W σZ) HZ Q') Q := fun hQ Hf H σ k fr c => by
  have hl : 0 < σ.length := by rw [fr.len]; exact (List.getElem?_eq_some_iff.mp hf).1
  have ho : σ[0]? = some σ[0] := List.getElem?_eq_getElem hl
  have z := fr.sl 0 _ _ ho hf
  generalize σ[0] = o at ho z
  have keep : ∀ Hf' H', Exit K b Hf' H' → Fm K b Hf' H' σ ρ := fun Hf' H' x => by
    have own : ∀ i a, ¬ Own σ ρ i a := fun i a ⟨⟨ds, h1⟩, _⟩ => by
      rcases hfree i _ h1 with h | h | h <;> cases h
    refine { ex := x, len := fr.len, sl := fun i o s h1 h2 => ?_, mine := fun i a z => (own i a z).elim, sep := fun i j a z => (own i a z).elim }
    have q := fr.sl i o s h1 h2
    rcases hfree i s h2 with h | h | h
    · subst h
      match o with
      | none => trivial
      | some _ => trivial
    · subst h
      match o, q with
      | some v, q =>
        have e := (show Rp K Hf v .non from q).non_inv
        subst e
        exact Rp.non
      | none, q => exact q.elim
    · subst h
      match o, q with
      | some v, q =>
        cases (show Rp K Hf v (.fn f) from q)
        exact Rp.fn f
      | none, q => exact q.elim
  match o, z with
  | none, z => exact z.elim
  | some v, z =>
    cases (show Rp K Hf v (.fn f) from z)
    refine ⟨ho, (sub.2 _ _ fr.ex).exB _ _ hc, ?_⟩
    exact htl b sub hM hT Hf H k (WE W σ) fr.ex (fun v d Hf' H' u x r z => c v d Hf' H' u (keep _ _ x) r (hQ d z)) (fun C fs d Hf' H' x e z => hE Hf' H' σ (keep _ _ x) C fs d e z)
end
end G

set_option Elab.async false
set_option linter.all false
set_option maxRecDepth 100000
set_option maxHeartbeats 4000000
/-! DEnd: the row's end for laws that make lambdas: the tables of their code. -/
namespace G
open PySem PySem.Spec PyProof.Rows L2
def spLawT (K : PySem.W.Frag) (cs : List (Addr × Addr)) : Sp := fun vs H Q _ => ∃ (a : Addr) (ns : List Int), vs = [.ref a] ∧ SqL K H a (ns.map V.int) ∧ ns.length ≤ 63 ∧ (∀ z ∈ ns, Builtin.Int.intBits z ≤ 1048576) ∧ (∀ p ∈ cs, H p.2 = some (.tbl #[])) ∧ ∀ H', Q (.bl true) H'
abbrev emptyTab : Obj := { cls := .none, data := .fields #[] }
section
variable {P : Program} {w : World} {K : PySem.W.Frag} {mg mb : Str → Option Value} {k : Nat} {fa a : Addr} {fd : FuncData} {s₁ : Shared} {vs : List Value} {ns : List Int} {cs : List (Addr × Addr)}
theorem law_inT (KX : K.In s₁.heap) (hT : ∀ p ∈ cs, s₁.heap.get? p.2 = some emptyTab) (nT : ∀ p ∈ cs, K.lookup p.2 = none) (hC : ∀ p ∈ cs, PySem.W.CodeHd s₁.heap p.1 p.2)
    (hM : ∀ H : Hp, (∀ b, H b ≠ none → b = a ∨ b ∈ cs.map (·.2)) → (∀ b, H b ≠ none → K.lookup b = none) → L2.Mod K mg (hidT s₁.heap H) ∧ SysD (hidT s₁.heap H) ∧ ∀ p ∈ cs, LamX.TabB (hidT s₁.heap H) mg p.1 p.2) (hg : s₁.gens = #[])
    (ha : s₁.heap.get? a = some { cls := .type "list", data := .seq vs.toArray }) (hi : IntsAre vs ns) (hl : ns.length ≤ 63) (hb : ∀ z ∈ ns, Builtin.Int.intBits z ≤ 1048576) (hr : Rm true k callerA)
    (F : ∀ base : Heap, L2.Mod K mg base → SysD base → (∀ p ∈ cs, LamX.TabB base mg p.1 p.2) → FnG P w K mg base true k fa fd (["script"] : List Str) (fun _ => spLawT K cs)) (hbind : ∀ (s : Shared) (u : Value), BindsTo s fd ⟨[u], []⟩ [("script", u)]) :
    codeAny (model P w) callerA (.call (.ref fa) ⟨[.ref a], []⟩) (fun r s' => r = .ok (.ret (.bool true)) ∧ OldK s₁.heap s'.heap ∧ s'.os = s₁.os ∧ AllBare s'.gens) s₁ := by
  have rv := vals_ints hi
  have isT : ∀ b : Addr, b ∈ cs.map (·.2) → s₁.heap.get? b = some emptyTab := fun b hb => by
    obtain ⟨p, hp, e⟩ := List.mem_map.mp hb
    rw [← e]
    exact hT p hp
  have aT : a ∉ cs.map (·.2) := fun z => by
    have q := isT a z
    rw [ha] at q
    cases congrArg Obj.data (Option.some.inj q)
  have none_in : ∀ (b : Addr), b ∉ ([] : List Addr) := fun b h => nomatch h
  have key : ∀ H : Hp, (∀ b, H b = none ∨ b ∈ cs.map (·.2) ∨ ∃ o xs, H b = some (.frz o (.lst xs))) → (∀ p ∈ cs, H p.2 = some (.tbl #[])) → SqL K H a (ns.map V.int) → HOk P w H s₁.heap → (∀ b, H b ≠ none → b = a ∨ b ∈ cs.map (·.2)) → (∀ b, H b ≠ none → K.lookup b = none) →
      codeAny (model P w) callerA (.call (.ref fa) ⟨[.ref a], []⟩) (fun r s' => r = .ok (.ret (.bool true)) ∧ OldK s₁.heap s'.heap ∧ s'.os = s₁.os ∧ AllBare s'.gens) s₁ := fun H hO hH hS hok hA hK => by
    obtain ⟨M, hsys, TB⟩ := hM H hA hK
    have e0 : Env0 P w K mg (hidT s₁.heap H) callerA [] s₁ H := { frames := rfl, mod := M, bs := fun b o e => of_hidT e, bsz := Nat.le_of_eq (hidT_size _ _), funs := trivial, frf := fun b h => (none_in b h).elim, hok := hok, bare := .of_eq hg }
    have go := (F _ M hsys TB).run callerA [] s₁ H ⟨[.ref a], []⟩ [.ref a] [.ref a] (fun v _ => v = .bl true) (fun _ _ _ => False) [] hr (fun p h => nomatch h) e0 (hbind s₁ (.ref a)) (.cons rfl .nil) ⟨a, ns, rfl, hS, hl, hb, hH, fun _ => rfl⟩
    refine codeAny_mono go (fun r s' h => ?_)
    match r, h with
    | .error e, h =>
      obtain ⟨_, _, _, _, _, _, _, _, _, _, _, _, z⟩ := h
      exact z.elim
    | .ok .next, h => exact h.elim
    | .ok .brk, h => exact h.elim
    | .ok .cont, h => exact h.elim
    | .ok (.ret u), h =>
      obtain ⟨v, H', os, bare, un, hok', ru, q⟩ := h
      have q' : v = .bl true := q
      rw [q'] at ru
      have eu : u = Value.bool true := ru
      rw [eu]
      have kept : ∀ b o, b ∉ cs.map (·.2) → s₁.heap.get? b = some o → s'.heap.get? b = some o := fun b o nb e => by
        rcases hO b with z | z | ⟨ob, xs, z⟩
        · exact un.keep b o e z (none_in b) (none_in b)
        · exact (nb z).elim
        · obtain ⟨e1, _⟩ := hok b _ z
          obtain ⟨e2, _⟩ := hok' b _ (un.frzs b ob _ z)
          rw [e] at e1
          rw [Option.some.inj e1]
          exact e2
      have grown : ∀ p ∈ cs, ∃ more : Array Value, s'.heap.get? p.2 = some { cls := .none, data := .fields more } := fun p hp => by
        obtain ⟨more, z⟩ := un.tbls p.2 #[] (hH p hp)
        exact ⟨_, hok' p.2 _ z⟩
      refine ⟨rfl, ⟨fun b o e => ?_, fun b o e => ?_⟩, os, bare⟩
      · by_cases hb : b ∈ cs.map (·.2)
        · obtain ⟨p, hp, ep⟩ := List.mem_map.mp hb
          obtain ⟨more, hm⟩ := grown p hp
          rw [← ep] at e ⊢
          rw [hT p hp] at e
          cases e
          exact .inr (.inl ⟨((hC p hp).tab (hT p hp)).isCodeTable, rfl, #[], more, rfl, by rw [Array.empty_append]; exact hm⟩)
        · exact .inl (kept b o hb e)
      · by_cases hb : b ∈ cs.map (·.2)
        · obtain ⟨p, hp, ep⟩ := List.mem_map.mp hb
          obtain ⟨more, hm⟩ := grown p hp
          rw [← ep]
          exact ⟨_, hm⟩
        · exact ⟨o, kept b o hb e⟩
  have memT : ∀ p ∈ cs, p.2 ∈ cs.map (·.2) := fun p hp => List.mem_map.mpr ⟨p, hp, rfl⟩
  have neA : ∀ b, b ∈ cs.map (·.2) → b ≠ a := fun b h z => aT (by rw [← z]; exact h)
  let ob : Obj := { cls := .type "list", data := .seq vs.toArray }
  have tabs : ∀ (X : Option HO), (∀ b : Addr, b ∈ cs.map (·.2) → (fun b => if b ∈ cs.map (·.2) then some (HO.tbl #[]) else if b = a then X else none : Hp) b = some (.tbl #[])) := fun X b h => if_pos h
  have atA : ∀ (X : Option HO), (fun b => if b ∈ cs.map (·.2) then some (HO.tbl #[]) else if b = a then X else none : Hp) a = X := fun X => (if_neg aT).trans (if_pos rfl)
  have oth : ∀ (X : Option HO) (b : Addr), b ∉ cs.map (·.2) → b ≠ a → (fun b => if b ∈ cs.map (·.2) then some (HO.tbl #[]) else if b = a then X else none : Hp) b = none := fun X b h1 h2 => (if_neg h1).trans (if_neg h2)
  have nK : ∀ b, b ∈ cs.map (·.2) → K.lookup b = none := fun b h => by
    obtain ⟨p, hp, e⟩ := List.mem_map.mp h
    rw [← e]
    exact nT p hp
  cases hk : K.lookup a with
  | some o =>
    have e := KX a o hk
    rw [ha] at e
    have e' := Option.some.inj e
    subst e'
    refine key (fun b => if b ∈ cs.map (·.2) then some (HO.tbl #[]) else if b = a then none else none) (fun b => ?_) (fun p hp => tabs none _ (memT p hp)) (Or.inr ⟨_, vs.toArray, _, hk, rfl, rfl, rfl, ?_, ?_⟩) (fun b u e => ?_) (fun b z => ?_) (fun b z => ?_)
    · by_cases h1 : b ∈ cs.map (·.2)
      · exact Or.inr (Or.inl h1)
      · by_cases h2 : b = a
        · subst h2; exact Or.inl (atA none)
        · exact Or.inl (oth none b h1 h2)
    · rw [List.size_toArray, hi.length]; exact Nat.le_trans hl (by decide)
    · rw [List.toList_toArray]; exact rv
    · by_cases h1 : b ∈ cs.map (·.2)
      · rw [tabs none b h1] at e
        cases e
        exact isT b h1
      · by_cases h2 : b = a
        · subst h2; rw [atA none] at e; cases e
        · rw [oth none b h1 h2] at e; cases e
    · by_cases h1 : b ∈ cs.map (·.2)
      · exact Or.inr h1
      · by_cases h2 : b = a
        · exact Or.inl h2
        · exact (z (oth none b h1 h2)).elim
    · by_cases h1 : b ∈ cs.map (·.2)
      · exact nK b h1
      · by_cases h2 : b = a
        · subst h2; exact (z (atA none)).elim
        · exact (z (oth none b h1 h2)).elim
  | none =>
    refine key (fun b => if b ∈ cs.map (·.2) then some (HO.tbl #[]) else if b = a then some (.frz ob (.lst (ns.map V.int))) else none) (fun b => ?_) (fun p hp => tabs (some (.frz ob (.lst (ns.map V.int)))) _ (memT p hp)) (Or.inl (Or.inr ⟨ob, atA (some (.frz ob (.lst (ns.map V.int))))⟩)) (fun b u e => ?_) (fun b z => ?_) (fun b z => ?_)
    · by_cases h1 : b ∈ cs.map (·.2)
      · exact Or.inr (Or.inl h1)
      · by_cases h2 : b = a
        · subst h2; exact Or.inr (Or.inr ⟨_, _, atA _⟩)
        · exact Or.inl (oth _ b h1 h2)
    · by_cases h1 : b ∈ cs.map (·.2)
      · rw [tabs _ b h1] at e
        cases e
        exact isT b h1
      · by_cases h2 : b = a
        · subst h2
          rw [atA] at e
          cases e
          exact ⟨ha, by rw [List.length_map]; exact Nat.le_trans hl (by decide), vs, _, rv, ha⟩
        · rw [oth _ b h1 h2] at e; cases e
    · by_cases h1 : b ∈ cs.map (·.2)
      · exact Or.inr h1
      · by_cases h2 : b = a
        · exact Or.inl h2
        · exact (z (oth _ b h1 h2)).elim
    · by_cases h1 : b ∈ cs.map (·.2)
      · exact nK b h1
      · by_cases h2 : b = a
        · subst h2; exact hk
        · exact (z (oth _ b h1 h2)).elim
end
/-- the end of the row -/
theorem walkGT {l : PySem.W.OpenLaw} {k : Nat} {q : Program} {loose : List Str} {XP : (Str → Option Value) → Heap → Prop} {YP : World → Heap → Prop} {d : DefRec} {K : Params → PySem.W.Frag} (xs : List Str)
    (hn : l.most = some 63) (hdf : d.params.defaults = []) (hi : importsNone q = true) (hx : (xs.all fun x => ((recsOf q).find? fun e => e.name == x).isSome) = true) (hr : Rm true k callerA) (hY : ∀ (w : World) (h : Heap), YP w h → (K w.params).In h)
    (F : ∀ (w : World) (mg : Str → Option Value) (fa : Addr) (h : Heap), (K w.params).In h → h.Ns mainGlobals mg → mg d.name = some (.ref fa) →
      ∃ (fd : FuncData) (cs : List (Addr × Addr)), (∀ p ∈ cs, (K w.params).lookup p.2 = none) ∧ (∀ p ∈ cs, ∃ x ∈ xs, PySem.W.tabIn (K w.params) x = some p) ∧ (∀ (s : Shared) (u : Value), BindsTo s fd ⟨[u], []⟩ [("script", u)]) ∧
        ∀ base : Heap, L2.Mod (K w.params) mg base → SysD base → (∀ p ∈ cs, LamX.TabB base mg p.1 p.2) → FnG l.prog w (K w.params) mg base true k fa fd (["script"] : List Str) (fun _ => spLawT (K w.params) cs)) :
    PySem.W.WalkO q loose XP YP l.row.toRowW d [] (fun f vs => PySem.call f vs) := by
  refine Att.attach_callB hn hdf fun w s₀ s₁ mg mb fa o pm cd doc a vs ns G Y ho hd hcd hmg hobj hints hlen hbits hg => ?_
  have KX := hY w _ Y
  obtain ⟨fd, cs, nT, ht, hb, hF⟩ := F w mg fa _ KX G.T.g hmg
  have S := G.T.seer hi
  have tb : ∀ p ∈ cs, PySem.W.CodeHd s₁.heap p.1 p.2 ∧ s₁.heap.get? p.2 = some emptyTab := fun p hp => by
    obtain ⟨x, hxm, e⟩ := ht p hp
    have z := List.all_eq_true.mp hx x hxm
    obtain ⟨d0, hd0⟩ := Option.isSome_iff_exists.mp z
    exact PySem.W.tab_of G.T KX hd0 e
  refine law_inT KX (fun p hp => (tb p hp).2) nT (fun p hp => (tb p hp).1) (fun H hA hK => ?_) hg hobj hints hlen hbits hr hF hb
  have tabAt : ∀ b, b ∈ cs.map (·.2) → s₁.heap.get? b = some emptyTab := fun b h => by
    obtain ⟨p, hp, e⟩ := List.mem_map.mp h
    rw [← e]
    exact (tb p hp).2
  have free : ∀ {b : Addr} {o : Obj}, s₁.heap.get? b = some o → (∀ vs n, o.data ≠ .seq vs n) → o.data ≠ .fields #[] → H b = none := fun {b o} e h1 h2 => by
    cases z : H b with
    | none => rfl
    | some u =>
      rcases hA b (by rw [z]; exact fun y => nomatch y) with y | y
      · rw [y, hobj] at e
        cases e
        exact (h1 _ _ rfl).elim
      · rw [tabAt b y] at e
        cases e
        exact (h2 rfl).elim
  have noA : ∀ {b : Addr} {o : Obj} {es : Array DictEntry} {ep : Nat}, s₁.heap.get? b = some o → o.data = .dict es ep → H b = none := fun {b o es ep} e dd => free e (fun vs n z => by rw [dd] at z; cases z) (fun z => by rw [dd] at z; cases z)
  have nsK : ∀ {b : Addr} {m : Str → Option Value}, s₁.heap.Ns b m → (hidT s₁.heap H).Ns b m := fun {b m} x => by
    obtain ⟨o, es, ep, e, dd, r⟩ := x
    exact ⟨o, es, ep, hidT_get e (noA e dd), dd, r⟩
  have kin : (K w.params).In (hidT s₁.heap H) := fun b o e => by
    refine hidT_get (KX b o e) ?_
    cases z : H b with
    | none => rfl
    | some u =>
      rw [hK b (by rw [z]; exact fun y => nomatch y)] at e
      cases e
  obtain ⟨mc, l1, l2⟩ := G.T.nolimit
  obtain ⟨so, ses, sep, se, sd⟩ := sys_of S
  refine ⟨{ kin := kin, glob := nsK G.T.g, blt := ⟨mb, nsK G.T.b, G.T.builtins⟩, nolimit := ⟨mc, nsK l1, l2⟩ }, ⟨so, ses, sep, hidT_get se (noA se sd), sd⟩, fun p hp => ?_⟩
  obtain ⟨C, hTp⟩ := tb p hp
  refine ⟨?_, ?_, fun z => ?_⟩
  · obtain ⟨o, us, file, tf, flags, tg, inF, text, tt, e1, r1, r2, r3, r⟩ := C
    refine ⟨o, us, file, tf, flags, tg, inF, text, tt, hidT_get e1 (free e1 (fun vs n z => ?_) fun z => ?_), r1, r2, r3, r⟩
    · rw [r2] at z; cases z
    · rw [r2] at z
      cases z
      simp at r3
  · obtain ⟨bm, ob, b1, b2, b3, b4, b5, b6⟩ := G.T.bmain
    have nG : bm ≠ mainGlobals := fun q => by
      obtain ⟨o, es, ep, e, hd, _⟩ := G.T.g
      rw [q, e] at b3
      cases b3
      rw [hd] at b6
      cases b6
    have nP : bm ≠ p.2 := fun q => by
      rw [q, hTp] at b3
      cases b3
      cases b6
    exact ⟨bm, ob, b1, b2, nG, nP, hidT_get b3 (free b3 (fun vs n z => by rw [b6] at z; cases z) fun z => by rw [b6] at z; cases z), b4, b5, b6⟩
  · obtain ⟨o, es, ep, e, hd, _⟩ := G.T.g
    rw [z, hTp] at e
    cases e
    cases hd
end G

set_option Elab.async false
set_option linter.all false
set_option maxRecDepth 100000
set_option maxHeartbeats 4000000
/-! DOk: data that == may be asked of; data equal to itself. -/
namespace G
open PySem PySem.Spec PyProof.Rows L2
structure Od (n : Nat) (d : D) : Prop where
  pl : d.pl = true
  nd : d.nd = true
  cl : d.py.canLay0 = true
  dp : d.py.depth ≤ n
structure OdL (n : Nat) (l : List D) : Prop where
  pl : D.plL l = true
  nd : D.ndL l = true
  cl : PyData.canLayAll0 (D.pyL l) = true
  dp : PyData.depthAll (D.pyL l) ≤ n
section
variable {n m : Nat} {d : D} {l : List D}
theorem Od.mono (h : Od n d) (a : n ≤ m) : Od m d := { pl := h.pl, nd := h.nd, cl := h.cl, dp := Nat.le_trans h.dp a }
theorem Od.ok (h : Od n d) (a : n ≤ 64) : okD d = true := by
  unfold okD SeqAt.shaped
  rw [h.pl, h.nd, h.cl, decide_eq_true (Nat.le_trans h.dp a)] <;> rfl
theorem Od.refl (h : Od n d) : eqD d d = true := SeqAt.eqv_refl d.py h.cl
theorem Od.str {s : Str} (h : PyData.strOk s = true) : Od n (.str s) := { pl := by simp [D.pl], nd := by simp [D.nd], cl := by simpa only [D.py, PyData.canLay0] using h, dp := by simp [D.py, PyData.depth] }
theorem Od.int {i : Int} : Od n (.int i) := { pl := by simp [D.pl], nd := by simp [D.nd], cl := by simp [D.py, PyData.canLay0], dp := by simp [D.py, PyData.depth] }
theorem OdL.nil : OdL n [] := { pl := by simp [D.plL], nd := by simp [D.ndL], cl := by simp [D.pyL, PyData.canLayAll0], dp := by simp [D.pyL, PyData.depthAll] }
theorem OdL.cons (h : Od n d) (r : OdL n l) : OdL n (d :: l) :=
  { pl := by simp only [D.plL, h.pl, r.pl] <;> rfl, nd := by simp only [D.ndL, h.nd, r.nd] <;> rfl, cl := by simp only [D.pyL, PyData.canLayAll0, h.cl, r.cl] <;> rfl
    dp := by simp only [D.pyL, PyData.depthAll]; exact Nat.max_le.mpr ⟨h.dp, r.dp⟩ }
theorem OdL.tup (h : OdL n l) : Od (n + 1) (.tup l) :=
  { pl := by simpa only [D.pl] using h.pl, nd := by simpa only [D.nd] using h.nd, cl := by simpa only [D.py, PyData.canLay0] using h.cl, dp := by simp only [D.py, PyData.depth]; exact Nat.succ_le_succ h.dp }
theorem OdL.lst (h : OdL n l) : Od (n + 1) (.lst l) :=
  { pl := by simpa only [D.pl] using h.pl, nd := by simpa only [D.nd] using h.nd, cl := by simpa only [D.py, PyData.canLay0] using h.cl, dp := by simp only [D.py, PyData.depth]; exact Nat.succ_le_succ h.dp }
theorem Od.dec (h1 : d.pl = true) (h2 : d.nd = true) (h3 : d.py.canLay0 = true) (h4 : d.py.depth ≤ n) : Od n d := ⟨h1, h2, h3, h4⟩
end
theorem DS.mid {K : PySem.W.Frag} {b : Bs} {ρ : List Sl} {ts : TS} {mid nx bk ct : List Sl → Prop} {rt : D → Prop} (h : DS K b ρ ts mid rt bk ct) (i : ∀ ρ, mid ρ → nx ρ) : DS K b ρ ts nx rt bk ct := fun Hf H σ D fr n r bk ct =>
  h Hf H σ D fr (fun ρ' σ' Hf' H' e f q => n ρ' σ' Hf' H' e f (i ρ' q)) r bk ct
end G

set_option Elab.async false
set_option linter.all false
set_option maxRecDepth 100000
set_option maxHeartbeats 4000000
/-! DComp: list comprehensions over data. -/
namespace G
open PySem PySem.Spec PyProof.Rows L2
/-- slots forgotten -/
def wipeR (ρ : List Sl) : List Nat → List Sl
  | [] => ρ
  | v :: vs => (wipeR ρ vs).set v .no
section
variable {K : PySem.W.Frag} {b : Bs} {ρ : List Sl} {Hf H Hf' H' : Hp} {σ : L2.St}
theorem wipe_at (σ : L2.St) (i : Nat) : ∀ vs : List Nat, (L2.wipe σ vs)[i]? = if i ∈ vs then σ[i]?.map (fun _ => none) else σ[i]?
  | [] => by simp [L2.wipe]
  | v :: vs => by
    show ((L2.wipe σ vs).set v none)[i]? = _
    have ih := wipe_at σ i vs
    by_cases z : v = i
    · subst z
      rw [List.getElem?_set]
      simp only [if_true, List.mem_cons, true_or, L2.wipe_length]
      by_cases h : v < σ.length
      · simp [h]
      · simp [h, List.getElem?_eq_none (Nat.not_lt.mp h)]
    · rw [List.getElem?_set_ne z, ih]
      have : i ≠ v := fun y => z y.symm
      simp [List.mem_cons, this]
theorem wipe_wipe (σ : L2.St) (vs : List Nat) : L2.wipe (L2.wipe σ vs) vs = L2.wipe σ vs := by
  apply List.ext_getElem?
  intro i
  rw [wipe_at, wipe_at]
  by_cases h : i ∈ vs
  · rw [if_pos h, if_pos h]
    cases σ[i]? <;> rfl
  · rw [if_neg h, if_neg h]
theorem Fm.wipe (f : Fm K b Hf H σ ρ) : ∀ vs : List Nat, Fm K b Hf H (L2.wipe σ vs) (wipeR ρ vs)
  | [] => f
  | _ :: vs => (f.wipe vs).drop
/-- what a walk yields: the data of l, one by one -/
def ItD (K : PySem.W.Frag) (b : Bs) (J : It) (l : List D) (Hf : Hp) : Prop := ∀ Hf2 H2, Ex Hf Hf2 → Ex Hf2 H2 → ∀ i : Nat, (i < l.length → J.go i H2 ∧ ∀ x H3, J.yld i H2 x H3 → ∃ Hf3 d, l[i]? = some d ∧ Rp K Hf3 x d ∧ (∀ σ ρ, Fm K b Hf2 H2 σ ρ → Fm K b Hf3 H3 σ ρ) ∧ Up b Hf2 H2 Hf3 H3) ∧ (l.length = i → J.stop i H2)
def DI (K : PySem.W.Frag) (b : Bs) (ρ : List Sl) (wi : TI) (Q : List D → Prop) : Prop := ∀ (Hf H : Hp) (σ : L2.St) (k : It → Hp → Prop), Fm K b Hf H σ ρ →
  (∀ J l Hf' H', Up b Hf H Hf' H' → Fm K b Hf' H' σ ρ → ItD K b J l Hf' → Q l → k J H') → wi σ H k
/-- targets of a comprehension -/
def DGw (K : PySem.W.Frag) (b : Bs) (ρ : List Sl) (g : TG) (x : D) (vs : List Nat) (Q : List Sl → Prop) : Prop := ∀ (Hf H : Hp) (σ : L2.St) (v : V) (k : L2.St → Hp → Prop), Fm K b Hf H σ ρ → Rp K Hf v x →
  (∀ ρ' σ', Fm K b Hf H σ' ρ' → L2.wipe σ' vs = L2.wipe σ vs → Q ρ' → k σ' H) → g v σ H k
theorem up_not {D : Addr} (x : Exit K b Hf H) (hD : H D = none) : ¬ b.mt D := fun z => z.elim (fun z => by
  obtain ⟨_, _, o, h3, _⟩ := x.pens D z
  rw [hD] at h3; cases h3) fun z => by
  obtain ⟨q, hq, e⟩ := List.mem_map.mp z
  obtain ⟨_, _, _, h4⟩ := x.tabs q hq
  exact h4.ne (Or.inl hD) e
theorem Fm.again (f : Fm K b Hf H σ ρ) (x : Exit K b Hf' H') (u : Up b Hf H Hf' H') : Fm K b Hf' H' σ ρ :=
  f.step x u.1 fun a xs h1 h2 h3 h4 => by
    have n : ¬ b.mt a := fun z => z.elim h4 fun z => by
      obtain ⟨q, hq, e⟩ := List.mem_map.mp z
      obtain ⟨_, _, _, t⟩ := f.ex.tabs q hq
      exact t.ne (Or.inr ⟨xs, h1⟩) e
    obtain ⟨k1, k2⟩ := u.2 a _ h1 n
    exact ⟨k2 h2, k1⟩
/-- a list that none but the body knows is written -/
theorem Exit.work (x : Exit K b Hf H) {D : Addr} {o : Option HO} (nf : Hf D = none) (nb : b.B D = none) (nm : ¬ b.mt D) (hH : ∀ a, a ≠ D → H' a = H a) : Exit K b Hf H' := by
  refine { exF := fun a u e => ?_, ex0 := x.ex0, exB := fun a u e => ?_, frz := x.frz, pens := fun p hp => ?_, tabs := fun p hp => ?_ }
  · rw [hH a (ne_of_none e nf)]; exact x.exF a u e
  · rw [hH a (ne_of_none e nb)]; exact x.exB a u e
  · obtain ⟨h1, h2, ob, h3, h4⟩ := x.pens p hp
    exact ⟨h1, h2, ob, by rw [hH p (fun z => nm (by rw [← z]; exact Bs.mtM hp))]; exact h3, h4⟩
  · obtain ⟨h1, h2, h3, h4⟩ := x.tabs p hp
    exact ⟨h1, h2, h3, h4.up (Ex.refl _) (hH p.1 fun z => nm (by rw [← z]; exact Bs.mtT hp))⟩
theorem dn_lc {wi : TI} {g : TG} {tt : TT} {te : TE} {vs : List Nat} {R : List D → Prop}
    (hi : DI K b ρ wi fun l => ∃ I : Nat → List D → Prop, I 0 [] ∧ (∀ i d acc, l[i]? = some d → I i acc → DGw K b (wipeR ρ vs) g d vs fun ρ2 => DT K b ρ2 tt fun c => if c = true then DE K b ρ2 te fun y => acc.length < 16000 ∧ I (i + 1) (acc ++ [y]) else I (i + 1) acc) ∧ ∀ acc, I l.length acc → R acc) :
    DN K b ρ (tLc wi g tt te vs) R := fun Hf H σ k fr c => by
  refine hi Hf H σ _ fr fun J l Hf1 H1 e1 f1 it ⟨I, h0, hs, hd⟩ => ?_
  intro D hD
  have nf := f1.ex.exF.no hD
  have nb := f1.ex.exB.no hD
  have nm := up_not f1.ex hD
  have upW : ∀ {Hf2 H2 H3 : Hp}, Up b Hf1 H1 Hf2 H2 → (∀ a, a ≠ D → H3 a = H2 a) → Up b Hf1 H1 Hf2 H3 := fun u hH => ⟨u.1, fun a o h n => by
    obtain ⟨k1, k2⟩ := u.2 a o h n
    exact ⟨by rw [hH a (ne_of_none h hD)]; exact k1, k2⟩⟩
  have updH : ∀ (H2 : Hp) (o : HO) (a : Addr), a ≠ D → upd H2 D o a = H2 a := fun H2 o a n => upd_ne n
  refine ⟨fun i m H2 => ∃ Hf2 acc ds, Exit K b Hf2 H2 ∧ Up b Hf1 H1 Hf2 H2 ∧ H2 D = some (.lst acc) ∧ Hf2 D = none ∧ RpA K Hf2 acc ds ∧ I i ds ∧ i ≤ l.length ∧ m = l.length - i,
    ⟨_, Hf1, [], [], f1.ex.work (o := none) nf nb nm (updH H1 _), upW Up.refl (updH H1 _), upd_same, nf, .nil, h0, Nat.zero_le _, rfl⟩, ?_⟩
  rintro i m H2 ⟨Hf2, acc, ds, x2, u2, hD2, nf2, ra, hI, hl, rfl⟩
  have it2 := it Hf2 H2 u2.1 x2.exF i
  by_cases hlt : i < l.length
  · right
    obtain ⟨go, y⟩ := it2.1 hlt
    refine ⟨go, fun H' => ∃ Hf2 acc ds, Exit K b Hf2 H' ∧ Up b Hf1 H1 Hf2 H' ∧ H' D = some (.lst acc) ∧ Hf2 D = none ∧ RpA K Hf2 acc ds ∧ I (i + 1) ds, fun H' z => ?_, fun x H3 hy => ?_⟩
    · obtain ⟨Hf', acc', ds', z1, z2, z3, z4, z5, z6⟩ := z
      exact ⟨l.length - (i + 1), by omega, Hf', acc', ds', z1, z2, z3, z4, z5, z6, hlt, rfl⟩
    · obtain ⟨Hf3, d, hd', rx, fm3, u3⟩ := y x H3 hy
      have F2 := f1.again x2 u2
      have F3 := fm3 _ _ F2
      refine hs i d ds hd' hI Hf3 H3 (L2.wipe σ vs) x _ (F3.wipe vs) rx fun ρ2 σ2 F4 hw q => ⟨hw.trans ?_, ?_⟩
      · exact wipe_wipe σ vs
      refine q Hf3 H3 σ2 _ F4 fun cc Hf4 H4 u4 F5 q2 => ?_
      obtain ⟨a3, b3⟩ := u3.2 D _ hD2 nm
      obtain ⟨a4, b4⟩ := u4.2 D _ a3 nm
      have n4 := b4 (b3 nf2)
      have ra4 := ra.up (u3.1.trans u4.1)
      have u04 := (u2.trans u3).trans u4
      cases cc with
      | true =>
        refine iteT ((show DE K b ρ2 te _ from q2) Hf4 H4 σ2 _ F5 fun v y Hf5 H5 u5 F6 ry ⟨hz, hI'⟩ => ?_)
        obtain ⟨a5, b5⟩ := u5.2 D _ a4 nm
        have n5 := b5 n4
        refine ⟨acc, a5, ?_, Hf5, acc ++ [v], ds ++ [y], F6.ex.work (o := none) n5 nb nm (updH H5 _), upW (u04.trans u5) (updH H5 _), upd_same, n5, (ra4.up u5.1).app (.cons ry .nil), hI'⟩
        exact Nat.lt_of_lt_of_le (show acc.length < 16000 by rw [ra.len]; exact hz) (by decide)
      | false => exact iteF ⟨Hf4, acc, ds, F5.ex, u04, a4, n4, ra4, q2⟩
  · left
    have e : i = l.length := by omega
    subst e
    refine ⟨it2.2 rfl, ?_⟩
    have dl : ∀ a, a ≠ D → del H2 D a = H2 a := fun a n => del_ne n
    have eq : upd (del H2 D) D (.lst acc) = H2 := by
      funext a
      by_cases z : a = D
      · subst z; rw [upd_same, hD2]
      · rw [upd_ne z, del_ne z]
    have uD := upW u2 dl
    have q := c D acc ds Hf2 (del H2 D) (e1.trans uD) (f1.again (x2.work (o := none) nf2 nb nm dl) uD) del_same ra (hd ds hI)
    rw [eq] at q
    exact q
theorem wipe_set (σ : L2.St) {i : Nat} {o : Option V} {vs : List Nat} (h : i ∈ vs) : L2.wipe (σ.set i o) vs = L2.wipe σ vs := by
  apply List.ext_getElem?
  intro j
  rw [wipe_at, wipe_at]
  by_cases z : i = j
  · subst z
    rw [if_pos h, if_pos h, List.getElem?_set]
    by_cases y : i < σ.length
    · simp [y]
    · simp [y, List.getElem?_eq_none (Nat.not_lt.mp y)]
  · rw [List.getElem?_set_ne z]
def DGws (K : PySem.W.Frag) (b : Bs) (ρ : List Sl) (g : TGs) (xs : List D) (ws : List Nat) (Q : List Sl → Prop) : Prop := ∀ (Hf H : Hp) (σ : L2.St) (vs : List V) (k : L2.St → Hp → Prop), Fm K b Hf H σ ρ → RpA K Hf vs xs →
  (∀ ρ' σ', Fm K b Hf H σ' ρ' → L2.wipe σ' ws = L2.wipe σ ws → Q ρ' → k σ' H) → g vs σ H k
variable {x : D} {xs : List D} {ws : List Nat} {Q : List Sl → Prop} {g : TG} {gs : TGs}
theorem dgw_name {i : Nat} (h : i ∈ ws) (q : Q (ρ.set i (.sh x))) : DGw K b ρ (gName i) x ws Q := fun Hf H σ v k fr r c => c _ _ (fr.set r) (wipe_set σ h) q
theorem dgws_nil (q : Q ρ) : DGws K b ρ gNil [] ws Q := fun Hf H σ vs k fr r c => by
  cases r
  exact ⟨rfl, c _ _ fr rfl q⟩
theorem dgws_cons (h : DGw K b ρ g x ws fun ρ' => DGws K b ρ' gs xs ws Q) : DGws K b ρ (gCons g gs) (x :: xs) ws Q := fun Hf H σ vs k fr r c => by
  cases r with
  | cons r1 r2 =>
    refine ⟨_, _, rfl, ?_⟩
    refine h Hf H σ _ _ fr r1 fun ρ' σ' f w q => ?_
    exact q Hf H σ' _ _ f r2 fun ρ2 σ2 f2 w2 q2 => c ρ2 σ2 f2 (w2.trans w) q2
theorem dgw_tup {n : Nat} {l : List D} (hx : x = .tup l) (hn : l.length = n) (h : DGws K b ρ gs l ws Q) : DGw K b ρ (gTup K n gs) x ws Q := fun Hf H σ v k fr r c => by
  subst hx
  cases r with
  | tup h1 h2 => exact ⟨_, _, rfl, fr.ex.exF.st h1, by rw [h2.len]; exact hn, h Hf H σ _ k fr h2 c⟩
/-! what is walked -/
variable {R : List D → Prop} {ta : TE} {tr : TA}
theorem itd_same {J : It} {l : List D} {Hf : Hp} (h : ∀ Hf2 H2, Ex Hf Hf2 → Ex Hf2 H2 → ∀ i : Nat, (i < l.length → J.go i H2 ∧ ∀ x H3, J.yld i H2 x H3 → H3 = H2 ∧ ∃ d, l[i]? = some d ∧ Rp K Hf2 x d) ∧ (l.length ≤ i → J.stop i H2)) : ItD K b J l Hf := fun Hf2 H2 e1 e2 i => by
  obtain ⟨h1, h2⟩ := h Hf2 H2 e1 e2 i
  refine ⟨fun hi => ⟨(h1 hi).1, fun x H3 y => ?_⟩, fun e => h2 (Nat.le_of_eq e)⟩
  obtain ⟨rfl, d, hd, r⟩ := (h1 hi).2 x H3 y
  exact ⟨Hf2, d, hd, r, fun _ _ f => f, Up.refl⟩
def rngD (lo : Int) (m : Nat) : List D := (List.range m).map fun (i : Nat) => D.int (lo + (i : Int))
theorem rngD_len {lo : Int} {m : Nat} : (rngD lo m).length = m := by unfold rngD; rw [List.length_map, List.length_range]
theorem rngD_at {lo : Int} {m i : Nat} (h : i < m) : (rngD lo m)[i]? = some (.int (lo + i)) := by
  unfold rngD
  rw [List.getElem?_map, List.getElem?_range h] <;> rfl
theorem itd_range {lo : Int} {m : Nat} {Hf : Hp} : ItD K b (Itr lo m) (rngD lo m) Hf := itd_same fun Hf2 H2 _ _ i => by
  rw [rngD_len]
  refine ⟨fun h => ⟨h, fun x H3 y => ?_⟩, fun h => h⟩
  obtain ⟨e1, e2⟩ := y
  exact ⟨e1, _, rngD_at h, by rw [e2]; exact .int _⟩
theorem di_range1 (h : DA K b ρ tr fun l => ∃ j : Int, l = [.int j] ∧ -(2 ^ 60) ≤ j ∧ j ≤ 2 ^ 60 ∧ R (rngD 0 j.toNat)) : DI K b ρ (iRng1 tr) R := fun Hf H σ k fr c => by
  refine h Hf H σ _ fr fun vs ds Hf1 H1 e1 f1 r1 ⟨j, e, l1, l2, q⟩ => ?_
  subst e
  cases r1 with
  | cons q1 r1 =>
    cases r1
    have e := q1.int_inv
    subst e
    exact ⟨j, rfl, by omega, by omega, c _ _ Hf1 H1 e1 f1 itd_range q⟩
theorem di_range2 (h : DA K b ρ tr fun l => ∃ i j : Int, l = [.int i, .int j] ∧ -(2 ^ 60) ≤ i ∧ i ≤ 2 ^ 60 ∧ -(2 ^ 60) ≤ j ∧ j ≤ 2 ^ 60 ∧ R (rngD i (j - i).toNat)) : DI K b ρ (iRng2 tr) R := fun Hf H σ k fr c => by
  refine h Hf H σ _ fr fun vs ds Hf1 H1 e1 f1 r1 ⟨i, j, e, l1, l2, l3, l4, q⟩ => ?_
  subst e
  cases r1 with
  | cons q1 r1 =>
    cases r1 with
    | cons q2 r1 =>
      cases r1
      have e := q1.int_inv
      subst e
      have e := q2.int_inv
      subst e
      exact ⟨i, j, rfl, by omega, c _ _ Hf1 H1 e1 f1 itd_range q⟩
theorem di_seq {Q : D → Prop} (h : DE K b ρ ta fun x => ∃ l, seqD x = some l ∧ R l) : DI K b ρ (iSeq K ta) R := fun Hf H σ k fr c => by
  refine h Hf H σ _ fr fun v x Hf1 H1 e1 f1 r1 ⟨l, el, q⟩ => ?_
  have ends : ∀ {xs : List V} {i : Nat}, RpA K Hf1 xs l → l.length ≤ i → xs.length ≤ i := fun {xs i} ra h => by rw [ra.len]; exact h
  have at_ : ∀ {xs : List V} {i : Nat}, RpA K Hf1 xs l → i < l.length → ∃ y, xs[i]? = some y := fun {xs i} ra h => ⟨xs[i]'(by rw [ra.len]; exact h), List.getElem?_eq_getElem _⟩
  cases r1 with
  | tup h1 a1 =>
    cases el
    refine ⟨_, rfl, Or.inr ⟨⟨_, f1.ex.exF.st h1⟩, c _ _ Hf1 H1 e1 f1 (itd_same fun Hf2 H2 x1 x2 i => ⟨fun hi => ?_, fun hi => ⟨_, x2.st (x1.st h1), ends a1 hi⟩⟩) q⟩⟩
    obtain ⟨y, hy⟩ := at_ a1 hi
    refine ⟨⟨_, y, x2.st (x1.st h1), hy⟩, fun z H3 w => ⟨w.1, ?_⟩⟩
    have e := w.2 _ (x2.st (x1.st h1))
    obtain ⟨d, hd, rd⟩ := a1.at' e
    exact ⟨d, hd, rd.up x1⟩
  | lst h1 a1 =>
    cases el
    refine ⟨_, rfl, Or.inl ⟨⟨_, SqL.of (f1.ex.exF _ _ h1)⟩, c _ _ Hf1 H1 e1 f1 (itd_same fun Hf2 H2 x1 x2 i => ⟨fun hi => ?_, fun hi => ⟨_, SqL.of (x2 _ _ (x1 _ _ h1)), ends a1 hi⟩⟩) q⟩⟩
    obtain ⟨y, hy⟩ := at_ a1 hi
    refine ⟨⟨_, y, SqL.of (x2 _ _ (x1 _ _ h1)), hy⟩, fun z H3 w => ⟨w.1, ?_⟩⟩
    have e := w.2 _ (SqL.of (x2 _ _ (x1 _ _ h1)))
    obtain ⟨d, hd, rd⟩ := a1.at' e
    exact ⟨d, hd, rd.up x1⟩
  | non => cases el
  | bl _ => cases el
  | int _ => cases el
  | str _ => cases el
  | ty _ => cases el
  | fn _ => cases el
  | dic _ _ _ => cases el
  | obj _ _ _ => cases el
  | exc _ _ _ => cases el
  | exc0 _ _ => cases el
/-- [f(x) for x in l], told by a function of data -/
theorem dn_map {wi : TI} {te : TE} {vs : List Nat} {i0 : Nat} (f : D → D) (h0 : i0 ∈ vs) (hi : DI K b ρ wi fun l => l.length ≤ 16000 ∧ (∀ d ∈ l, DE K b ((wipeR ρ vs).set i0 (.sh d)) te fun y => y = f d) ∧ R (l.map f)) : DN K b ρ (tLc wi (gName i0) tYes te vs) R := by
  refine dn_lc (fun Hf H σ k fr c => hi Hf H σ k fr fun J l Hf' H' u f' it ⟨hl, hd, hR⟩ => c J l Hf' H' u f' it ⟨fun i acc => acc = (l.take i).map f, by simp, fun i d acc hi hacc => ?_, fun acc hacc => ?_⟩)
  · refine dgw_name h0 fun Hf H σ k fr c => c true Hf H Up.refl fr (iteT ?_)
    have hm : d ∈ l := List.mem_of_getElem? hi
    refine (hd d hm).imp fun y hy => ?_
    have il : i < l.length := (List.getElem?_eq_some_iff.mp hi).1
    subst hacc
    refine ⟨?_, ?_⟩
    · rw [List.length_map, List.length_take]; omega
    · show List.map f (List.take i l) ++ [y] = List.map f (List.take (i + 1) l)
      rw [hy, List.take_succ, hi, List.map_append] <;> rfl
  · rw [hacc, List.take_length]
    exact hR
end
end G

set_option Elab.async false
set_option linter.all false
set_option maxRecDepth 100000
set_option maxHeartbeats 4000000
/-! DZip: loops over whatever is walked; zip, enumerate. -/
namespace G
open PySem PySem.Spec PyProof.Rows L2
section
variable {K : PySem.W.Frag} {b : Bs} {ρ : List Sl} {Hf H Hf' H' : Hp} {σ : L2.St} {R : List D → Prop} {ta : TE} {tr : TA} {wi : TI} {g : TG} {tb : TS} {nx bk ct : List Sl → Prop} {rt : D → Prop}
theorem ds_forI (h : DI K b ρ wi fun l => ∃ I : Nat → List Sl → Prop, I 0 ρ ∧ (∀ (i : Nat) d ρ', l[i]? = some d → I i ρ' → DG K b ρ' g d fun ρ2 => DS K b ρ2 tb (I (i + 1)) rt nx (I (i + 1))) ∧ ∀ ρ', I l.length ρ' → nx ρ') : DS K b ρ (tFor wi g tb) nx rt bk ct := fun Hf H σ D fr n r bk ct => by
  refine h Hf H σ _ fr fun J l Hf1 H1 e1 f1 it ⟨I, h0, hs, hd⟩ => ?_
  refine ⟨fun i m σ' H' => ∃ ρ' Hf', Ex Hf1 Hf' ∧ Fm K b Hf' H' σ' ρ' ∧ I i ρ' ∧ i ≤ l.length ∧ m = l.length - i, ⟨_, ρ, Hf1, Ex.refl _, f1, h0, Nat.zero_le _, rfl⟩, ?_⟩
  rintro i m σ' H' ⟨ρ', Hf', e, f, hI, hl, rfl⟩
  have it2 := it Hf' H' e f.ex.exF i
  by_cases hlt : i < l.length
  · right
    obtain ⟨go, y⟩ := it2.1 hlt
    refine ⟨go, fun σ3 H3 => ∃ ρ' Hf', Ex Hf1 Hf' ∧ Fm K b Hf' H3 σ3 ρ' ∧ I (i + 1) ρ', fun σ3 H3 z => ?_, fun x H3 hy => ?_⟩
    · obtain ⟨ρ3, Hf3, z1, z2, z3⟩ := z
      exact ⟨l.length - (i + 1), by omega, ρ3, Hf3, z1, z2, z3, hlt, rfl⟩
    · obtain ⟨Hf3, d, hd', rx, fm3, u3⟩ := y x H3 hy
      have e3 := e.trans u3.1
      refine hs i d ρ' hd' hI Hf3 H3 σ' x _ (fm3 _ _ f) rx fun ρ2 σ2 Hf2 H2 e2 f2 q => ?_
      exact q Hf2 H2 σ2 _ f2 (fun ρ4 σ4 Hf4 H4 e4 f4 q4 => ⟨ρ4, Hf4, e3.trans (e2.trans e4), f4, q4⟩) (fun v d Hf4 H4 e4 x4 r4 q4 => r v d Hf4 H4 (e1.1.trans (e3.trans (e2.trans e4))) x4 r4 q4)
        (fun ρ4 σ4 Hf4 H4 e4 f4 q4 => n ρ4 σ4 Hf4 H4 (e1.1.trans (e3.trans (e2.trans e4))) f4 q4) (fun ρ4 σ4 Hf4 H4 e4 f4 q4 => ⟨ρ4, Hf4, e3.trans (e2.trans e4), f4, q4⟩)
  · left
    have e' : i = l.length := by omega
    subst e'
    exact ⟨it2.2 rfl, n ρ' σ' H' |> fun _ => n ρ' σ' Hf' H' (e1.1.trans e) f (hd ρ' hI)⟩
/-- a pair is laid -/
theorem lay_pair {Hf2 H2 : Hp} {T : Addr} {x y : V} {d1 d2 : D} (e : Ex Hf2 H2) (hT : H2 T = none) (r1 : Rp K Hf2 x d1) (r2 : Rp K Hf2 y d2) :
    ∃ Hf3, Rp K Hf3 (.ref T) (.tup [d1, d2]) ∧ (∀ σ ρ, Fm K b Hf2 H2 σ ρ → Fm K b Hf3 (upd H2 T (.tup [x, y])) σ ρ) ∧ Up b Hf2 H2 Hf3 (upd H2 T (.tup [x, y])) := by
  have n := e.no hT
  refine ⟨upd Hf2 T (.tup [x, y]), Rp.tup (SqT.of upd_same) (.cons (r1.up (Ex.new n)) (.cons (r2.up (Ex.new n)) .nil)), fun σ ρ f => f.put hT, Up.new hT n⟩
def zipD (l m : List D) : List D := List.zipWith (fun x y => D.tup [x, y]) l m
theorem zipD_at {l m : List D} {i : Nat} {x y : D} (h1 : l[i]? = some x) (h2 : m[i]? = some y) : (zipD l m)[i]? = some (.tup [x, y]) := by
  unfold zipD
  rw [List.getElem?_zipWith, h1, h2]
theorem zipD_len {l m : List D} : (zipD l m).length = min l.length m.length := by unfold zipD; rw [List.length_zipWith]
theorem di_zip (h : DA K b ρ tr fun l => ∃ x y lx ly, l = [x, y] ∧ ((x = .lst lx ∧ y = .lst ly) ∨ (x = .tup lx ∧ y = .tup ly)) ∧ R (zipD lx ly)) : DI K b ρ (RZ.iZipA K tr) R := fun Hf H σ k fr c => by
  refine h Hf H σ _ fr fun vs ds Hf1 H1 e1 f1 r1 ⟨x, y, lx, ly, e, hk, q⟩ => ?_
  subst e
  cases r1 with
  | cons r1 rr =>
    cases rr with
    | cons r2 rr =>
      cases rr
      rcases hk with ⟨rfl, rfl⟩ | ⟨rfl, rfl⟩
      · cases r1 with
        | lst h1 a1 =>
          cases r2 with
          | lst h2 a2 =>
            refine ⟨_, _, _, _, rfl, Or.inl ⟨SqL.of (f1.ex.exF _ _ h1), SqL.of (f1.ex.exF _ _ h2), c _ _ Hf1 H1 e1 f1 (fun Hf2 H2 x1 x2 i => ⟨fun hi => ?_, fun hi => ?_⟩) q⟩⟩
            · rw [zipD_len] at hi
              have i1 : i < lx.length := by omega
              have i2 : i < ly.length := by omega
              have g1 := SqL.of (K := K) (x2 _ _ (x1 _ _ h1))
              have g2 := SqL.of (K := K) (x2 _ _ (x1 _ _ h2))
              obtain ⟨v1, w1, s1⟩ := a1.at (List.getElem?_eq_getElem i1)
              obtain ⟨v2, w2, s2⟩ := a2.at (List.getElem?_eq_getElem i2)
              refine ⟨⟨_, _, v1, v2, g1, g2, w1, w2⟩, fun v H3 z => ?_⟩
              obtain ⟨T, x', y', rfl, hT, rfl, z1, z2⟩ := z
              have y1 := z1 _ g1
              have y2 := z2 _ g2
              rw [w1] at y1
              rw [w2] at y2
              cases y1
              cases y2
              obtain ⟨Hf3, p1, p2, p3⟩ := lay_pair (b := b) x2 hT (s1.up x1) (s2.up x1)
              exact ⟨Hf3, _, zipD_at (List.getElem?_eq_getElem i1) (List.getElem?_eq_getElem i2), p1, p2, p3⟩
            · rw [zipD_len] at hi
              refine ⟨_, _, SqL.of (x2 _ _ (x1 _ _ h1)), SqL.of (x2 _ _ (x1 _ _ h2)), ?_⟩
              rw [a1.len, a2.len]
              omega
      · cases r1 with
        | tup h1 a1 =>
          cases r2 with
          | tup h2 a2 =>
            refine ⟨_, _, _, _, rfl, Or.inr ⟨f1.ex.exF.st h1, f1.ex.exF.st h2, c _ _ Hf1 H1 e1 f1 (fun Hf2 H2 x1 x2 i => ⟨fun hi => ?_, fun hi => ?_⟩) q⟩⟩
            · rw [zipD_len] at hi
              have i1 : i < lx.length := by omega
              have i2 : i < ly.length := by omega
              have g1 := x2.st (x1.st h1)
              have g2 := x2.st (x1.st h2)
              obtain ⟨v1, w1, s1⟩ := a1.at (List.getElem?_eq_getElem i1)
              obtain ⟨v2, w2, s2⟩ := a2.at (List.getElem?_eq_getElem i2)
              refine ⟨⟨_, _, v1, v2, g1, g2, w1, w2⟩, fun v H3 z => ?_⟩
              obtain ⟨T, x', y', rfl, hT, rfl, z1, z2⟩ := z
              have y1 := z1 _ g1
              have y2 := z2 _ g2
              rw [w1] at y1
              rw [w2] at y2
              cases y1
              cases y2
              obtain ⟨Hf3, p1, p2, p3⟩ := lay_pair (b := b) x2 hT (s1.up x1) (s2.up x1)
              exact ⟨Hf3, _, zipD_at (List.getElem?_eq_getElem i1) (List.getElem?_eq_getElem i2), p1, p2, p3⟩
            · rw [zipD_len] at hi
              refine ⟨_, _, x2.st (x1.st h1), x2.st (x1.st h2), ?_⟩
              rw [a1.len, a2.len]
              omega
/-- enumerate of a list -/
def enumD (l : List D) : List D := zipD (rngD 0 l.length) l
theorem di_enum (h : DE K b ρ ta fun x => ∃ l, x = .lst l ∧ R (enumD l)) : DI K b ρ (iEnum K (tCons ta tNil)) R := fun Hf H σ k fr c => by
  refine h Hf H σ _ fr fun v x Hf1 H1 e1 f1 r1 ⟨l, e, q⟩ => ?_
  subst e
  cases r1 with
  | lst h1 a1 =>
    have len : (enumD l).length = l.length := by unfold enumD; rw [zipD_len, rngD_len, Nat.min_self]
    refine ⟨_, _, rfl, SqL.of (f1.ex.exF _ _ h1), c _ _ Hf1 H1 e1 f1 (fun Hf2 H2 x1 x2 i => ⟨fun hi => ?_, fun hi => ?_⟩) q⟩
    · rw [len] at hi
      have g1 := SqL.of (K := K) (x2 _ _ (x1 _ _ h1))
      obtain ⟨v1, w1, s1⟩ := a1.at (List.getElem?_eq_getElem hi)
      refine ⟨⟨_, v1, g1, w1⟩, fun v H3 z => ?_⟩
      obtain ⟨T, x', rfl, hT, rfl, z1⟩ := z
      have y1 := z1 _ g1
      rw [w1] at y1
      cases y1
      obtain ⟨Hf3, p1, p2, p3⟩ := lay_pair (b := b) x2 hT (Rp.int (K := K) (i : Int)) (s1.up x1)
      refine ⟨Hf3, _, ?_, p1, p2, p3⟩
      unfold enumD
      have := rngD_at (lo := 0) hi
      rw [Int.zero_add] at this
      exact zipD_at this (List.getElem?_eq_getElem hi)
    · rw [len] at hi
      exact ⟨_, SqL.of (x2 _ _ (x1 _ _ h1)), by rw [a1.len]; exact Nat.le_of_eq hi⟩
end
end G

set_option Elab.async false
set_option linter.all false
set_option maxRecDepth 100000
set_option maxHeartbeats 4000000
/-! DTab: defs that make lambdas: they are handed the tables. -/
namespace G
open PySem PySem.Spec PyProof.Rows L2
/-- what a def that makes lambdas promises over data: the tables T stand, and stand again -/
def spT (K : PySem.W.Frag) (T : List (Addr × Str)) (F : DF) : Sp := fun vs H Q E => ∃ (b : Bs) (Hf : Hp) (ss : List Sl) (R : D → Prop) (X : Addr → List (Str × D) → Prop),
  b.T = T ∧ Exit K b Hf H ∧ Paired (ArgOk K b.M Hf) vs ss ∧ F ss R X ∧ (∀ v d Hf' H', Exit K (b.cut Hf H) Hf' H' → Rp K Hf' v d → R d → Q v H') ∧
  (∀ C fs d Hf' H', Exit K (b.cut Hf H) Hf' H' → ExD K Hf' d fs → X C fs → E (.ref C) d H')
section
variable {P : Program} {w : World} {K : PySem.W.Frag} {mg : Str → Option Value} {base : Heap} {N ps : List Str} {x qual : Str} {st : Stmt} {f : Addr} {fd : FuncData} {k : Nat} {c : Bool} {T : List (Addr × Str)}
theorem startT_ok {b : Bs} {Hf H : Hp} {vs : List V} {ss : List Sl} (hl : vs.length = ps.length) (x : Exit K b Hf H) (ha : Paired (ArgOk K b.M Hf) vs ss) :
    Fm K (b.cut Hf H) Hf H (L2.start N vs) (ss ++ List.replicate (N.length - ps.length) .no) := by
  have hvs := ha.length
  have own : ∀ i a, ¬ Own (L2.start N vs) (ss ++ List.replicate (N.length - ps.length) .no) i a := fun i a ⟨⟨ds, h1⟩, h2⟩ => by
    by_cases z : i < ss.length
    · rw [List.getElem?_append_left z] at h1
      have hv : i < vs.length := by omega
      exact paired_at ha (List.getElem?_eq_getElem hv) h1
    · rw [List.getElem?_append_right (by omega), List.getElem?_replicate] at h1
      split at h1 <;> cases h1
  refine { ex := x.cut, len := ?_, sl := fun i o s h1 h2 => ?_, mine := fun i a z => (own i a z).elim, sep := fun i j a z _ => (own i a z).elim }
  · unfold L2.start
    simp
    omega
  · unfold L2.start at h1
    by_cases z : i < vs.length
    · rw [List.getElem?_append_left (by simpa using z), List.getElem?_map, List.getElem?_eq_getElem z] at h1
      simp at h1
      subst h1
      rw [List.getElem?_append_left (by omega)] at h2
      have q := paired_at ha (List.getElem?_eq_getElem z) h2
      match s, q with
      | .sh d, q => exact q
      | .pen, q => exact q
    · rw [List.getElem?_append_right (by omega), List.getElem?_replicate] at h2
      split at h2
      · cases h2
        match o with
        | none => trivial
        | some _ => trivial
      · cases h2
theorem fn_dataT {Fd : DF} (F : Fun K x qual st f fd) (S : FnScope N ps (defScope st)) (len : ∀ ss R X, Fd ss R X → ss.length = ps.length)
    (body : ∀ (cdv : Value) (A : Around) (outer : List Env) (s : Shared) (H : Hp) (E : XK) (pl : Pins), fd.code = cdv → Rm c k (A.deeper (envOfC qual (defScope st) s.heap.objs.size f cdv)) →
      ∃ t, PSs (cxG P w K mg base N qual (defScope st) f cdv A outer s H E c pl) (defBody st) t ∧ ∀ (b : Bs) ss R X, b.T = T → Fd ss R X → (∀ ρ, EL K b ρ (fun _ => E) X) →
        DS K b (ss ++ List.replicate (N.length - ps.length) .no) t (fun _ => R .non) R (fun _ => False) (fun _ => False)) :
    FnG P w K mg base c (k + 1) f fd ps (fun _ => spT K T Fd) := by
  have hlen : ∀ (pl : Pins) vs H Q E, spT K T Fd vs H Q E → vs.length = ps.length := fun pl vs H Q E h => by
    obtain ⟨b, Hf, ss, R, X, h1, h2, h3, h4, _⟩ := h
    rw [h3.length]
    exact len ss R X h4
  refine fn_goC F S hlen fun cdv A outer s H vs Q E pl hc hr hsp => ?_
  have hl := hlen pl _ _ _ _ hsp
  obtain ⟨b, Hf, ss, R, X, h1, h2, h3, h4, h5, h6⟩ := hsp
  obtain ⟨t, ht, hd⟩ := body cdv A outer s H E pl hc hr
  refine ⟨t, ht, ?_⟩
  exact hd (b.cut Hf H) ss R X h1 h4 (fun ρ Hf' H' σ' fr C fs d e1 e2 => h6 C fs d Hf' H' fr.ex e1 e2) Hf H (L2.start N vs) _ (startT_ok hl h2 h3)
    (fun ρ' σ' Hf' H' e fr q => h5 .non .non Hf' H' fr.ex .non q) (fun v d Hf' H' e x r q => h5 v d Hf' H' x r q) (fun _ _ _ _ _ _ z => z.elim) (fun _ _ _ _ _ _ z => z.elim)
end
theorem de_callT {K : PySem.W.Frag} {b : Bs} {ρ : List Sl} {tr : TA} {Q : D → Prop} {T : List (Addr × Str)} {F : DF} {E : L2.St → XK} {X : Addr → List (Str × D) → Prop} (hT : b.T = T) (hE : EL K b ρ E X) (h : DC K b ρ tr fun ss => F ss Q X) : DE K b ρ (tCallG (fun _ => spT K T F) [] E tr) Q := fun Hf H σ k fr c => by
  refine h Hf H σ _ fr fun vs ss Hf1 H1 e1 f1 r1 q => ?_
  refine ⟨b, Hf1, ss, Q, X, hT, f1.ex, r1, q, fun v d Hf' H' x r z => ?_, fun C fs d Hf' H' x e z => ?_⟩
  · obtain ⟨u, f2⟩ := f1.back x
    exact c v d Hf' H' (e1.trans u) f2 r z
  · obtain ⟨u, f2⟩ := f1.back x
    exact hE Hf' H' σ f2 C fs d e z
/-! ### a def that stands in a name is called -/
section
variable {X : Cx} {E : L2.St → XK} {x : Str} {q pos : Pos} {e : Expr} {es : List Expr} {t : TA} {i k : Nat}
/-- call(e, ..), the name holding one of the defs of tab -/
def tCallV (tab : List (Addr × Sp)) (i : Nat) (E : L2.St → XK) (t : TA) : TE := fun σ H Q => ∃ f sp, (f, sp) ∈ tab ∧ σ[i]? = some (some (.ref f)) ∧ t σ H fun vs H1 => sp vs H1 Q (E σ)
theorem pe_goV {tab : List (Addr × Sp)} (F : ∀ f sp, (f, sp) ∈ tab → ∃ fd ps, FnG X.prog X.w X.K X.mg X.base true k f fd ps (fun _ => sp) ∧ PySem.W.keepIn X.K (.ref f) = true ∧ Binds X.K fd ps []) (hr : Rm true k X.A) (hx : Lets X E) (ha : PA X (e :: es) t)
    (hN : X.N[i]? = some x := by rfl) (hv : Vis X.env.scope x := by first | exact Or.inl rfl | exact Or.inr (Or.inl rfl) | exact Or.inr (Or.inr rfl)) (hd : (x == ("__debug__" : Str)) = false := by decide) (hcd : (x == ("__classdict__" : Str)) = false := by decide) (he : starEach (e :: es) X.env = (false, eval e X.env) :: starEach es X.env := by rfl) (hpl : (backTo pos (starEach es X.env)).any (·.1) = false := by rfl) :
    PE X (.Call (.Name x q) (e :: es) [] pos) (tCallV tab i E t) := by
  refine ⟨fun pins s σ H Q I h => ?_⟩
  obtain ⟨f, sp, hm, hs, h⟩ := h
  obtain ⟨fd, ps, G, hk, hb⟩ := F f sp hm
  refine wpAny_Call_Name_kw (thn ((pe_var (pos := q) (i := i) hN hv hd hcd).run pins s σ H (fun v H1 => v = .ref f ∧ H1 = H) I ⟨.ref f, hs, rfl, rfl⟩) fun u s0 z => ?_)
  obtain ⟨v, H0, I0, r0, ev, eH⟩ := z
  subst ev
  subst eH
  cases (show u = Value.ref f from r0)
  refine PySem.W.callWith_K (h₀ := X.base) I0.ok.mod.kin hk (thn (ha.run pos pins s0 σ H0 _ I0 h) ?_) he hpl
  intro us s1 z
  obtain ⟨vs, H1, I1, r, q⟩ := z
  exact ⟨I1.kIn, run_go (pl := []) G hr (fun p h => nomatch h) hb hx I1 r q⟩
end
theorem de_callV {K : PySem.W.Frag} {b : Bs} {ρ : List Sl} {tr : TA} {Q : D → Prop} {tab : List (Addr × Sp)} {i : Nat} {f : Addr} {F : DF} {E : L2.St → XK} {X : Addr → List (Str × D) → Prop} (hm : (f, spD K F) ∈ tab) (hi : ρ[i]? = some (.sh (.fn f))) (hE : EL K b ρ E X) (h : DC K b ρ tr fun ss => F ss Q X) : DE K b ρ (tCallV tab i E tr) Q := fun Hf H σ k fr c => by
  have hl : i < σ.length := by rw [fr.len]; exact (List.getElem?_eq_some_iff.mp hi).1
  have ho : σ[i]? = some σ[i] := List.getElem?_eq_getElem hl
  have z := fr.sl i _ _ ho hi
  generalize σ[i] = o at ho z
  match o, z with
  | none, z => exact z.elim
  | some v, z =>
    cases (show Rp K Hf v (.fn f) from z)
    exact ⟨f, _, hm, ho, (show tCallG (fun _ => spD K F) [] E tr σ H k from de_call hE h Hf H σ k fr c)⟩
theorem nodup_fst : ∀ {l : List (Addr × Str)}, (l.map (·.1)).Nodup → ∀ {p q : Addr × Str}, p ∈ l → q ∈ l → p.1 = q.1 → p = q
  | [], _, _, _, h, _, _ => by cases h
  | c :: r, hn, p, q, hp, hq, e => by
    have a := List.nodup_cons.mp (show (c.1 :: r.map (·.1)).Nodup from hn)
    rcases List.mem_cons.mp hp with e1 | h1
    · rcases List.mem_cons.mp hq with e2 | h2
      · rw [e1, e2]
      · exact (a.1 (List.mem_map.mpr ⟨q, h2, by rw [← e1, e]⟩)).elim
    · rcases List.mem_cons.mp hq with e2 | h2
      · exact (a.1 (List.mem_map.mpr ⟨p, h1, by rw [← e2, e]⟩)).elim
      · exact nodup_fst a.2 h1 h2 e
end G

set_option Elab.async false
set_option linter.all false
set_option maxRecDepth 100000
set_option maxHeartbeats 4000000
/-! DMix: zip of lists and tuples in any mix. -/
namespace G
open PySem PySem.Spec PyProof.Rows L2
/-- at a stands a tuple (true) or a list (false) -/
def SqB (K : PySem.W.Frag) : Bool → Hp → Addr → List V → Prop
  | true => SqT K
  | false => SqL K
def HSeq : Bool → Heap → Addr → Array Value → Prop
  | true => fun h a xs => h.IsTuple a xs
  | false => fun h a xs => h.IsList a xs
def HIt : Bool → Heap → Addr → Addr → Nat → Prop
  | true => fun h i a k => h.IsTupleIter i a k
  | false => fun h i a k => h.IsListIter i a k
def itObj (t : Bool) (a : Addr) : Obj := match t with
  | true => { cls := .type "tuple_iterator", data := .fields #[.ref a, .int 0 0] }
  | false => { cls := .type "list_iterator", data := .fields #[.ref a, .int 0 0] }
section
variable {prog : Program} {w : World} {A : Around} {t t1 t2 : Bool} {h h' : Heap} {i a b : Addr} {k : Nat}
theorem hit_at (x : HIt t h i a k) (q : ∀ o, h.get? i = some o → h'.get? i = some o) : HIt t h' i a k := by
  cases t with
  | true => exact Heap.IsTupleIter.at x q
  | false => exact Heap.IsListIter.at x q
theorem hit_obj (x : HIt t h i a k) : ∃ o, h.get? i = some o ∧ ∃ vs, o.data = .fields vs := by
  cases t with
  | true => obtain ⟨o, e, _, d⟩ := x; exact ⟨o, e, _, d⟩
  | false => obtain ⟨o, e, _, d⟩ := x; exact ⟨o, e, _, d⟩
theorem hit_new (e : h.get? i = some (itObj t a)) : HIt t h i a 0 := by
  cases t with
  | true => exact ⟨_, e, rfl, rfl⟩
  | false => exact ⟨_, e, rfl, rfl⟩
theorem drawsB (hh : A.handled = none) (i a : Addr) (hne : a ≠ i) (items : Array Value) :
    Draws prog w A i [i, a] items.size (fun j v => items[j]? = some v) (fun j h => HIt t h i a j ∧ HSeq t h a items) := by
  cases t with
  | true => exact Draws.tuple hh i a hne items
  | false => exact Draws.list hh i a hne items
theorem beginsB (a : Addr) (items : Array Value) : Begins (.ref a) (itObj t a) fun h => HSeq t h a items := by
  cases t with
  | true => exact begins_tuple a items
  | false => exact begins_list a items
theorem hseq_lt {items : Array Value} (x : HSeq t h a items) : a < h.objs.size := by
  cases t with
  | true => obtain ⟨o, e, _⟩ := x; exact Heap.lt_size e
  | false => obtain ⟨o, e, _⟩ := x; exact Heap.lt_size e
end
section
variable {X : Cx} {pins : List (Addr × Obj)} {σ : L2.St} {H : Hp} {s : Shared} {t : Bool} {a : Addr} {xs ys : List V}
theorem inv_seq (I : Inv X pins σ H s) (q : SqB X.K t H a xs) : ∃ its : List Value, Vals xs its ∧ HSeq t s.heap a its.toArray := by
  cases t with
  | true =>
    obtain ⟨its, rv, p, _⟩ := I.tuple q
    exact ⟨its, rv, p⟩
  | false =>
    obtain ⟨its, rv, p, _⟩ := I.list q
    exact ⟨its, rv, p.isList⟩
theorem inv_inj (I : Inv X pins σ H s) (q : SqB X.K t H a xs) (r : SqB X.K t H a ys) : xs = ys := by
  cases t with
  | true => exact I.tuple_inj q r
  | false => exact I.list_inj q r
end
/-- what stands at a and b, the items in new pairs -/
def ItzB (K : PySem.W.Frag) (t1 t2 : Bool) (a b : Addr) : It :=
  ⟨fun i H => ∃ (xs ys : List V) (x y : V), SqB K t1 H a xs ∧ SqB K t2 H b ys ∧ xs[i]? = some x ∧ ys[i]? = some y,
    fun i H v H' => ∃ T x y, v = .ref T ∧ H T = none ∧ H' = upd H T (.tup [x, y]) ∧ (∀ xs, SqB K t1 H a xs → xs[i]? = some x) ∧ ∀ ys, SqB K t2 H b ys → ys[i]? = some y,
    fun i H => ∃ xs ys : List V, SqB K t1 H a xs ∧ SqB K t2 H b ys ∧ i ≤ xs.length ∧ i ≤ ys.length ∧ (i = xs.length ∨ i = ys.length)⟩
theorem zip_sep {z TI TO i1 i2 a b : Addr} (D : ZipApart z TI TO i1 i2 a b) : ZipSep2 z TI TO i1 i2 [i1, a] [i2, b] where
  TIz := D.TIz
  TOz := D.TOz
  TITO := D.TITO
  TIi1 := D.TIi1
  mem1 := by simp
  zf1 := by simpa using ⟨D.i1z.symm, D.l1z.symm⟩
  Tf1 := by simpa using ⟨D.TOi1, D.l1TO.symm⟩
  TIi2 := D.TIi2
  mem2 := by simp
  zf2 := by simpa using ⟨D.i2z.symm, D.l2z.symm⟩
  Tf2 := by simpa using ⟨D.TOi2, D.l2TO.symm⟩
  sep1_2 := by simpa using ⟨D.i12, D.l2i1.symm⟩
  sep2_1 := by simpa using ⟨D.i12.symm, D.l1i2.symm⟩
theorem turn_zipB {P : Program} {w : World} {K : PySem.W.Frag} {elts : List Expr} {kk : Nat} {tpos : Pos} {t1 t2 : Bool} {a b z TI TO i1 i2 : Addr} (D : ZipApart z TI TO i1 i2 a b) :
    Turn P w K (.Tuple elts kk tpos) (ItzB K t1 t2 a b) [z, TI, TO, i1, i2] z (fun i h => IsZip h z TI TO .none ∧ IsTupOf2 h TI (.ref i1) (.ref i2) ∧ (∃ x y, IsTupOf2 h TO x y) ∧ HIt t1 h i1 a i ∧ HIt t2 h i2 b i) where
  mem := by simp
  obj := fun i h st c hc => by
    obtain ⟨hz, hTI, ⟨x, y, hTO⟩, s1, s2⟩ := st
    obtain ⟨o1, e1, _, d1⟩ := hit_obj s1
    obtain ⟨o2, e2, _, d2⟩ := hit_obj s2
    have e' : c = z ∨ c = TI ∨ c = TO ∨ c = i1 ∨ c = i2 := by simpa using hc
    rcases e' with q | q | q | q | q
    · rw [q]; exact ⟨_, hz, fun v q => nomatch q⟩
    · rw [q]; exact ⟨_, hTI, fun v q => nomatch q⟩
    · rw [q]; exact ⟨_, hTO, fun v q => nomatch q⟩
    · rw [q]; exact ⟨o1, e1, fun v q => by rw [d1] at q; cases q⟩
    · rw [q]; exact ⟨o2, e2, fun v q => by rw [d2] at q; cases q⟩
  keep := fun i h h' st k => by
    obtain ⟨hz, hTI, ⟨x, y, hTO⟩, h1, h2⟩ := st
    exact ⟨k z (by simp) _ hz, k TI (by simp) _ hTI, ⟨x, y, k TO (by simp) _ hTO⟩, hit_at h1 fun o q => k i1 (by simp) o q, hit_at h2 fun o q => k i2 (by simp) o q⟩
  item := by
    intro X hP hw hK hc i pins s σ H E I hf st hg
    subst hP hw hK
    obtain ⟨hz, hTI, ⟨x0, y0, hTO⟩, h1, h2⟩ := st
    obtain ⟨xs, ys, x, y, hqx, hqy, hx, hy⟩ := hg
    obtain ⟨its, rv, p⟩ := inv_seq I hqx
    obtain ⟨its2, rv2, p2⟩ := inv_seq I hqy
    obtain ⟨u, hu, ru⟩ := rv.get hx
    obtain ⟨u2, hu2, ru2⟩ := rv2.get hy
    have hzl : z < s.heap.objs.size := Heap.lt_size hz
    have hd : X.A.in1.handled = none := I.ok.hd hc
    have l1 : i < its.toArray.size := by
      obtain ⟨y, _⟩ := List.getElem?_eq_some_iff.mp hu
      simpa using y
    have l2 : i < its2.toArray.size := by
      obtain ⟨y, _⟩ := List.getElem?_eq_some_iff.mp hu2
      simpa using y
    refine wpAny_pyNext_zipD2_item (zip_sep D) (drawsB hd i1 a D.l1i1 its.toArray) (drawsB hd i2 b D.l2i2 its2.toArray) hz hTI hTO ⟨h1, p⟩ ⟨h2, p2⟩ l1 l2 fun w1 w2 h' tk e1 e2 z' TO' ⟨h1', _⟩ ⟨h2', _⟩ hT hsz hk => ?_
    have eu : w1 = u := by
      have : its.toArray[i]? = some u := by simpa using hu
      rw [this] at e1
      exact (Option.some.inj e1).symm
    have eu2 : w2 = u2 := by
      have : its2.toArray[i]? = some u2 := by simpa using hu2
      rw [this] at e2
      exact (Option.some.inj e2).symm
    subst eu eu2
    refine ⟨_, rfl, wpAny_letOwnedTupleGo_zip (s := { s with heap := h', toks := tk }) z' fun h'' z'' sb => ?_⟩
    have hT2 : h''.get? s.heap.objs.size = some { cls := .type "tuple", data := .seq #[w1, w2] } := (sb.2 _ (Nat.ne_of_gt hzl)).trans hT
    have new : ObjOk X.prog X.w (upd H s.heap.objs.size (.tup [x, y])) h'' s.heap.objs.size (.tup [x, y]) :=
      ⟨by show 2 ≤ sizeLine; decide, [w1, w2], .cons ru (.cons ru2 .nil), ⟨_, hT2, rfl, _, rfl⟩⟩
    have I1 : Inv X pins σ (upd H s.heap.objs.size (.tup [x, y])) { s with heap := h'', toks := tk } :=
      I.turnedNew (t' := tk) (ch := [z, TI, TO, i1, i2]) (fun c o hb q => (sb.2 c (fun q' => hb (by simp [q']))).trans (hk c o (fun q' => hb (by simp [q'])) (fun q' => hb (by simp [q'])) (fun q' => hb (by simp [q'])) (fun q' => hb (by simp [q'])) q)) hf (Nat.le_refl _) new
    refine ⟨.ref s.heap.objs.size, _, I1, rfl, ⟨_, x, y, rfl, I.hok.fresh (Nat.le_refl _), rfl, fun l hl => by rw [inv_inj I hl hqx]; exact hx, fun l hl => by rw [inv_inj I hl hqy]; exact hy⟩, ⟨z'', ?_, ⟨w1, w2, ?_⟩, ?_, ?_⟩, fun c hcm => ?_⟩
    · exact (sb.2 _ D.TIz).trans (hk _ _ D.TIz D.TITO D.TIi1 D.TIi2 hTI)
    · exact (sb.2 _ D.TOz).trans TO'
    · exact hit_at h1' fun o q => (sb.2 _ D.i1z).trans q
    · exact hit_at h2' fun o q => (sb.2 _ D.i2z).trans q
    · have hlt : c < s.heap.objs.size := by
        have e' : c = z ∨ c = TI ∨ c = TO ∨ c = i1 ∨ c = i2 := by simpa using hcm
        rcases e' with q | q | q | q | q
        · rw [q]; exact hzl
        · rw [q]; exact Heap.lt_size hTI
        · rw [q]; exact Heap.lt_size hTO
        · rw [q]; obtain ⟨_, e1, _⟩ := hit_obj h1; exact Heap.lt_size e1
        · rw [q]; obtain ⟨_, e2, _⟩ := hit_obj h2; exact Heap.lt_size e2
      rw [upd_ne (Nat.ne_of_lt hlt)]
      exact (hf c hcm).1
  done := by
    intro X hP hw hK hc i pins s σ H E I hf st hg
    subst hP hw hK
    obtain ⟨hz, hTI, ⟨x0, y0, hTO⟩, h1, h2⟩ := st
    obtain ⟨xs, ys, hqx, hqy, hl1, hl2, hend⟩ := hg
    obtain ⟨its, rv, p⟩ := inv_seq I hqx
    obtain ⟨its2, rv2, p2⟩ := inv_seq I hqy
    have l1 := rv.length
    have l2 := rv2.length
    have hd : X.A.in1.handled = none := I.ok.hd hc
    refine wpAny_pyNext_zipD2_end (zip_sep D) (drawsB hd i1 a D.l1i1 its.toArray) (drawsB hd i2 b D.l2i2 its2.toArray) hz hTI hTO ⟨h1, p⟩ ⟨h2, p2⟩ (by simp; omega) (by simp; omega) (by simp; omega) fun h' tk hk => ⟨rfl, I.turnedL (t' := tk) (ch := [z, TI, TO, i1, i2]) (fun c o hb q =>
      hk c o (fun q' => hb (by simp [q'])) (fun q' => hb (by simp [q'])) (fun q' => hb (by simp [q'])) (fun q' => hb (by simp [q'])) q) hf⟩
  self := fun A i s Q E st h => wpAny_pyIter_zip st.1 h
def iZipB (K : PySem.W.Frag) (ta : TA) : TI := fun σ H R => ta σ H fun vs H1 => ∃ t1 t2 a b xs ys, vs = [.ref a, .ref b] ∧ SqB K t1 H1 a xs ∧ SqB K t2 H1 b ys ∧ R (ItzB K t1 t2 a b) H1
theorem pi_zipB {X : Cx} {e e2 : Expr} {ta : TA} {p pos tpos : Pos} {elts : List Expr} {kk : Nat} (hg : Gl X "zip") (hm : X.mg "zip" = none) (ha : PA X [e, e2] ta)
    (hs : starEach [e, e2] X.env = (false, eval e X.env) :: starEach [e2] X.env := by rfl) (hpl : (backTo pos (starEach [e2] X.env)).any (·.1) = false := by rfl) :
    PI X (.Tuple elts kk tpos) (.Call (.Name "zip" p) [e, e2] [] pos) (iZipB X.K ta) := by
  refine ⟨fun pins s σ H R I h => ?_⟩
  refine Call_ (ld_blt I hg hm PyProof.Rows.boot_zip (PyProof.Rows.callWith_type1 (thn (ha.run pos pins s σ H _ I h) fun us s1 ⟨vs, H1, I1, r1, q1⟩ => ?_) hs hpl))
  obtain ⟨t1, t2, a, b, xs, ys, ex, hqx, hqy, q⟩ := q1
  subst ex
  cases r1 with
  | cons r rr =>
    cases rr with
    | cons r' rr =>
      cases rr
      cases r
      cases r'
      have fresh5 : ∀ c, c ∈ [s1.heap.objs.size + 4, s1.heap.objs.size + 2, s1.heap.objs.size + 3, s1.heap.objs.size, s1.heap.objs.size + 1] → FpOk X pins H1 c := fun c hcm => by
        have e' : c = s1.heap.objs.size + 4 ∨ c = s1.heap.objs.size + 2 ∨ c = s1.heap.objs.size + 3 ∨ c = s1.heap.objs.size ∨ c = s1.heap.objs.size + 1 := by simpa using hcm
        have hle : s1.heap.objs.size ≤ c := by
          rcases e' with z | z | z | z | z
          · rw [z]; exact Nat.le_add_right _ _
          · rw [z]; exact Nat.le_add_right _ _
          · rw [z]; exact Nat.le_add_right _ _
          · rw [z]; exact Nat.le_refl _
          · rw [z]; exact Nat.le_add_right _ _
        exact I1.fpOk hle (I1.hok.fresh hle)
      obtain ⟨its, rv, p1⟩ := inv_seq I1 hqx
      obtain ⟨its2, rv2, p2⟩ := inv_seq I1 hqy
      refine zip_begins2 (beginsB (t := t1) a its.toArray) (beginsB (t := t2) b its2.toArray) p1 p2 fun h' hz hTI hTO h1 h2 hsz hk => wpAny_pyIter_zip hz ?_
      have I2 : Inv X pins σ H1 { s1 with heap := h' } := I1.kept (t' := s1.toks) hk
      exact ⟨s1.heap.objs.size + 4, [s1.heap.objs.size + 4, s1.heap.objs.size + 2, s1.heap.objs.size + 3, s1.heap.objs.size, s1.heap.objs.size + 1], _, _, H1, rfl, I2, turn_zipB (PySem.W.ktu_apart s1.heap.objs.size a b (hseq_lt p1) (hseq_lt p2)), ⟨hz, hTI, ⟨_, _, hTO⟩, hit_new h1, hit_new h2⟩, fresh5, q⟩
section
variable {K : PySem.W.Frag} {b : Bs} {ρ : List Sl} {Hf H Hf' H' : Hp} {σ : L2.St} {R : List D → Prop} {tr : TA}
theorem rp_seq {v : V} {x : D} {l : List D} (r : Rp K Hf v x) (e : seqD x = some l) : ∃ t a vs, v = .ref a ∧ RpA K Hf vs l ∧ (∀ H2, Ex Hf H2 → SqB K t H2 a vs) := by
  cases r with
  | tup h1 a1 =>
    cases e
    exact ⟨true, _, _, rfl, a1, fun H2 x => x.st h1⟩
  | lst h1 a1 =>
    cases e
    exact ⟨false, _, _, rfl, a1, fun H2 x => SqL.of (x _ _ h1)⟩
  | non => cases e
  | bl _ => cases e
  | int _ => cases e
  | str _ => cases e
  | ty _ => cases e
  | fn _ => cases e
  | dic _ _ _ => cases e
  | obj _ _ _ => cases e
  | exc _ _ _ => cases e
  | exc0 _ _ => cases e
theorem di_zipB (h : DA K b ρ tr fun l => ∃ x y lx ly, l = [x, y] ∧ seqD x = some lx ∧ seqD y = some ly ∧ R (zipD lx ly)) : DI K b ρ (iZipB K tr) R := fun Hf H σ k fr c => by
  refine h Hf H σ _ fr fun vs ds Hf1 H1 e1 f1 r1 ⟨x, y, lx, ly, e, ex, ey, q⟩ => ?_
  subst e
  cases r1 with
  | cons r1 rr =>
    cases rr with
    | cons r2 rr =>
      cases rr
      obtain ⟨t1, a1, xs, rfl, ax, sx⟩ := rp_seq r1 ex
      obtain ⟨t2, a2, ys, rfl, ay, sy⟩ := rp_seq r2 ey
      refine ⟨t1, t2, a1, a2, xs, ys, rfl, sx _ f1.ex.exF, sy _ f1.ex.exF, c _ _ Hf1 H1 e1 f1 (fun Hf2 H2 x1 x2 i => ⟨fun hi => ?_, fun hi => ?_⟩) q⟩
      · rw [zipD_len] at hi
        have i1 : i < lx.length := by omega
        have i2 : i < ly.length := by omega
        have g1 := sx _ (x1.trans x2)
        have g2 := sy _ (x1.trans x2)
        obtain ⟨v1, w1, s1⟩ := ax.at (List.getElem?_eq_getElem i1)
        obtain ⟨v2, w2, s2⟩ := ay.at (List.getElem?_eq_getElem i2)
        refine ⟨⟨_, _, v1, v2, g1, g2, w1, w2⟩, fun v H3 z => ?_⟩
        obtain ⟨T, x', y', rfl, hT, rfl, z1, z2⟩ := z
        have y1 := z1 _ g1
        have y2 := z2 _ g2
        rw [w1] at y1
        rw [w2] at y2
        cases y1
        cases y2
        obtain ⟨Hf3, p1, p2, p3⟩ := lay_pair (b := b) x2 hT (s1.up x1) (s2.up x1)
        exact ⟨Hf3, _, zipD_at (List.getElem?_eq_getElem i1) (List.getElem?_eq_getElem i2), p1, p2, p3⟩
      · rw [zipD_len] at hi
        refine ⟨_, _, sx _ (x1.trans x2), sy _ (x1.trans x2), ?_, ?_, ?_⟩
        · rw [ax.len]; omega
        · rw [ay.len]; omega
        · rw [ax.len, ay.len]; omega
end
end G

set_option Elab.async false
set_option linter.all false
set_option maxRecDepth 100000
set_option maxHeartbeats 4000000
/-! DSeq: slices of tuples and lists; all, any of a list of truths; a list asked whether it is empty. -/
namespace G
open PySem PySem.Spec PyProof.Rows L2
section
variable {K : PySem.W.Frag} {b : Bs} {ρ : List Sl} {ta tb te tc : TE} {tr : TA} {Q : D → Prop} {Hf H : Hp}
/-! ### == [] -/
theorem okD_nil : okD (.lst []) = true := (Od.dec (n := 1) (by decide +kernel) (by decide +kernel) (by decide +kernel) (by decide +kernel)).ok (by decide)
theorem de_eqNil (h : DE K b ρ ta fun x => DE K b ρ tb fun y => ∃ l, x = .lst l ∧ y = .lst [] ∧ Q (.bl l.isEmpty)) : DE K b ρ (tOp (rEqG K) ta tb) Q :=
  de_op (h.imp fun x hx => hx.imp fun y ⟨l, e1, e2, q⟩ Hf H σ k v u f rv ru c => by
    subst e1; subst e2
    cases l with
    | nil =>
      obtain ⟨a1, a2, a3⟩ := okD_un okD_nil
      have e : PyData.eqv (D.lst []).py (D.lst []).py = true := (Od.dec (n := 1) (d := .lst []) (by decide +kernel) (by decide +kernel) (by decide +kernel) (by decide +kernel)).refl
      refine Or.inr (Or.inl ⟨(D.lst []).py, (D.lst []).py, (rv.up f.ex.exF).dp a1 a2, (ru.up f.ex.exF).dp a1 a2, a3, a3, ?_⟩)
      rw [e]
      exact c _ _ Hf H Up.refl f (.bl _) q
    | cons d l =>
      cases rv with
      | lst h1 a1 =>
        cases ru with
        | lst h2 a2 => exact Or.inr (Or.inr ⟨_, _, _, _, rfl, rfl, SqL.of (f.ex.exF _ _ h1), SqL.of (f.ex.exF _ _ h2), by rw [a1.len, a2.len]; simp, c _ _ Hf H Up.refl f (.bl _) q⟩))
/-- {} -/
theorem de_dnew (q : Q (.dic [])) : DE K b ρ tDNewK Q := fun Hf H σ k fr c p hp => by
  have n := fr.ex.exF.no hp
  exact c _ _ _ _ (Up.new hp n) (fr.put hp) (Rp.dic upd_same rfl .nil) q
/-! ### all, any -/
theorem bls_of : ∀ {bs : List Bool} {xs : List V}, RpA K Hf xs (bs.map D.bl) → xs = bs.map V.bl
  | [], _, r => by cases r; rfl
  | c :: bs, _, r => by
    cases r with
    | cons r1 r2 =>
      cases r1
      rw [bls_of r2] <;> rfl
theorem de_all (h : DE K b ρ ta fun x => ∃ bs : List Bool, x = .lst (bs.map D.bl) ∧ Q (.bl (bs.all id))) : DE K b ρ (tCB (rAll K) (tCons ta tNil)) Q :=
  de_cb1 (h.imp fun x ⟨bs, e, q⟩ Hf H σ k v f rv c => by
    subst e
    cases rv with
    | lst h1 a1 =>
      have e := bls_of a1
      subst e
      exact ⟨_, bs, rfl, SqL.of (f.ex.exF _ _ h1), c _ _ Hf H Up.refl f (.bl _) q⟩)
theorem de_any (h : DE K b ρ ta fun x => ∃ bs : List Bool, x = .lst (bs.map D.bl) ∧ Q (.bl (bs.any id))) : DE K b ρ (tCB (rAny K) (tCons ta tNil)) Q :=
  de_cb1 (h.imp fun x ⟨bs, e, q⟩ Hf H σ k v f rv c => by
    subst e
    cases rv with
    | lst h1 a1 =>
      have e := bls_of a1
      subst e
      exact ⟨_, bs, rfl, SqL.of (f.ex.exF _ _ h1), c _ _ Hf H Up.refl f (.bl _) q⟩)
/-! ### slices -/
def rSlG (K : PySem.W.Frag) : V → Option Int → Option Int → Hp → VK → Prop := fun x lo hi H Q => rSlA K x lo hi H Q ∨ rSlL K x lo hi H Q
theorem sl_seq {X : Cx} : SlR X (rSlG X.K) := sl_tupA.or sl_list
def DO (K : PySem.W.Frag) (b : Bs) (ρ : List Sl) (t : TO) (Q : Option Int → Prop) : Prop := ∀ (Hf H : Hp) (σ : L2.St) (k : Option Int → Hp → Prop), Fm K b Hf H σ ρ →
  (∀ o Hf' H', Up b Hf H Hf' H' → Fm K b Hf' H' σ ρ → Q o → k o H') → t σ H k
theorem do_none {Q : Option Int → Prop} (q : Q none) : DO K b ρ tNoPart Q := fun Hf H σ k fr c => c _ Hf H Up.refl fr q
theorem do_some {Q : Option Int → Prop} (h : DE K b ρ te fun x => ∃ i, x = .int i ∧ Q (some i)) : DO K b ρ (tPart te) Q := fun Hf H σ k fr c => by
  refine h Hf H σ _ fr fun v x Hf1 H1 e1 f1 r1 ⟨i, e, q⟩ => ?_
  subst e
  have e := r1.int_inv
  subst e
  exact ⟨i, rfl, c _ Hf1 H1 e1 f1 q⟩
/-- the items of l[lo:hi] -/
def cutD (l : List D) (lo hi : Option Int) : List D := (l.drop (HT.sIx l.length 0 lo)).take (HT.sIx l.length l.length hi - HT.sIx l.length 0 lo)
theorem RpA.drop : ∀ {vs : List V} {ds : List D} (n : Nat), RpA K Hf vs ds → RpA K Hf (vs.drop n) (ds.drop n)
  | _, _, 0, r => by simpa using r
  | _, _, n + 1, .nil => by simpa using RpA.nil
  | _, _, n + 1, .cons _ r => by simpa using r.drop n
theorem RpA.take : ∀ {vs : List V} {ds : List D} (n : Nat), RpA K Hf vs ds → RpA K Hf (vs.take n) (ds.take n)
  | _, _, 0, _ => by simpa using RpA.nil
  | _, _, n + 1, .nil => by simpa using RpA.nil
  | _, _, n + 1, .cons q r => by simpa using RpA.cons q (r.take n)
theorem RpA.cut {vs : List V} {ds : List D} (lo hi : Option Int) (r : RpA K Hf vs ds) : RpA K Hf (cutV vs lo hi) (cutD ds lo hi) := by
  unfold cutV cutD
  rw [r.len]
  exact (r.drop _).take _
theorem cutD_all {l : List D} {lo hi : Option Int} (h : HT.sIx l.length 0 lo = 0 ∧ HT.sIx l.length l.length hi = l.length) : cutD l lo hi = l := by
  unfold cutD
  rw [h.1, h.2]
  simp
theorem de_sliceT {tl th : TO} (h : DE K b ρ te fun x => DO K b ρ tl fun lo => DO K b ρ th fun hi => ∃ l, x = .tup l ∧ Q (.tup (cutD l lo hi))) : DE K b ρ (tSl (rSlG K) te tl th) Q := fun Hf H σ k fr c => by
  refine h Hf H σ _ fr fun v x Hf1 H1 e1 f1 r1 q1 => ?_
  refine q1 Hf1 H1 σ _ f1 fun lo Hf2 H2 e2 f2 q2 => ?_
  refine q2 Hf2 H2 σ _ f2 fun hi Hf3 H3 e3 f3 ⟨l, e, q⟩ => ?_
  subst e
  cases r1 with
  | tup h1 a1 =>
    have h3 := e3.1.st (e2.1.st h1)
    have a3 := (a1.up e2.1).up e3.1
    refine Or.inl ⟨_, _, rfl, f3.ex.exF.st h3, fun z => ?_, fun z p hp => ?_⟩
    · rw [a3.len] at z
      rw [cutD_all z] at q
      exact c _ _ Hf3 H3 ((e1.trans e2).trans e3) f3 (.tup h3 a3) q
    · have n := f3.ex.exF.no hp
      exact c _ _ _ _ (((e1.trans e2).trans e3).trans (Up.new hp n)) (f3.put hp) (Rp.tup (SqT.of upd_same) (RpA.up (Ex.new n) (a3.cut lo hi))) q
theorem dn_slice {tl th : TO} {R : List D → Prop} (h : DE K b ρ te fun x => DO K b ρ tl fun lo => DO K b ρ th fun hi => ∃ l, x = .lst l ∧ R (cutD l lo hi)) : DN K b ρ (tSl (rSlG K) te tl th) R := fun Hf H σ k fr c => by
  refine h Hf H σ _ fr fun v x Hf1 H1 e1 f1 r1 q1 => ?_
  refine q1 Hf1 H1 σ _ f1 fun lo Hf2 H2 e2 f2 q2 => ?_
  refine q2 Hf2 H2 σ _ f2 fun hi Hf3 H3 e3 f3 ⟨l, e, q⟩ => ?_
  subst e
  cases r1 with
  | lst h1 a1 =>
    have a3 := (a1.up e2.1).up e3.1
    exact Or.inr ⟨_, _, rfl, SqL.of (f3.ex.exF _ _ (e3.1 _ _ (e2.1 _ _ h1))), fun p hp => c p _ _ Hf3 H3 ((e1.trans e2).trans e3) f3 hp (a3.cut lo hi) q⟩
end
end G

set_option Elab.async false
set_option linter.all false
set_option maxRecDepth 100000
set_option maxHeartbeats 4000000
/-! DText: a repr is a text that == may be asked of; data that repr may be asked of, their ints of at most 70 digits; is not True. -/
namespace G
open PySem PySem.Spec PyProof.Rows L2
def Oc (s : Str) : Prop := ∀ c ∈ s.cps.toList, c < 0x110000
theorem Oc.app {a b : Str} (x : Oc a) (y : Oc b) : Oc (a ++ b) := fun c h => (mem_cps_append.mp h).elim (x c) (y c)
theorem oc_dec {s : Str} (h : (s.cps.toList.all fun c => decide (c < 0x110000)) = true) : Oc s := fun c hc => of_decide_eq_true (List.all_eq_true.mp h c hc)
theorem oc_int (i : Int) : Oc (PyData.int i).shown := fun c hc => by
  by_cases h : c < 0x110000
  · exact h
  · exact (shown_int_free' (k := c) ⟨by omega, Or.inr (by omega)⟩ i hc).elim
theorem oc_text : ∀ (ts : List Str) (k : Nat) (acc : Str), Oc acc → (∀ t ∈ ts, Oc t) → Oc (textFrom k acc ts)
  | [], _, _, h, _ => h
  | t :: r, k, acc, h, ht => oc_text r (k + 1) _ ((h.app (by split <;> exact oc_dec (by decide +kernel))).app (ht t List.mem_cons_self)) fun u hu => ht u (List.mem_cons_of_mem _ hu)
theorem oc_list {ts : List Str} (h : ∀ t ∈ ts, Oc t) : Oc (listText ts) := (oc_text ts 0 _ (oc_dec (by decide +kernel)) h).app (oc_dec (by decide +kernel))
theorem oc_join {sep : Str} (hs : Oc sep) : ∀ ts : List Str, (∀ t ∈ ts, Oc t) → Oc (Str.join sep ts)
  | [], _ => fun c h => by
    have h' : c ∈ ([] : List Nat) := h
    cases h'
  | [x], h => h x (List.mem_singleton.mpr rfl)
  | x :: y :: r, h => ((h x List.mem_cons_self).app hs).app (oc_join hs (y :: r) fun t ht => h t (List.mem_cons_of_mem _ ht))
theorem oc_tuple {ts : List Str} (h : ∀ t ∈ ts, Oc t) : Oc (tupleText ts) := by
  unfold tupleText
  refine ((oc_dec (by decide +kernel)).app (oc_join (oc_dec (by decide +kernel)) ts h)).app ?_
  split <;> exact oc_dec (by decide +kernel)
theorem oc_dict {ts : List Str} (h : ∀ t ∈ ts, Oc t) : Oc (dictText ts) := ((oc_dec (by decide +kernel)).app (oc_join (oc_dec (by decide +kernel)) ts h)).app (oc_dec (by decide +kernel))
def sOc (s : Str) : Bool := s.cps.toList.all fun c => decide (c < 0x110000)
mutual
/-- its texts' reprs are texts -/
def leafOc : PyData → Bool
  | .str x => sOc (PyData.shown (.str x))
  | .list xs => leafOcA xs
  | .tuple xs => leafOcA xs
  | .dict kvs => leafOcK kvs
  | _ => true
def leafOcA : List PyData → Bool
  | [] => true
  | d :: r => leafOc d && leafOcA r
def leafOcK : List (PyData × PyData) → Bool
  | [] => true
  | (k, v) :: r => leafOc k && leafOc v && leafOcK r
end
mutual
theorem oc_shown : ∀ d : PyData, leafOc d = true → Oc d.shown
  | .none, _ => oc_dec (by decide +kernel)
  | .bool b, _ => by cases b <;> exact oc_dec (by decide +kernel)
  | .int i, _ => oc_int i
  | .str x, h => oc_dec (by simpa only [leafOc, sOc] using h)
  | .list xs, h => by
    simp only [PyData.shown]
    exact oc_list (oc_shownAll xs (by simpa only [leafOc] using h))
  | .tuple xs, h => by
    simp only [PyData.shown]
    exact oc_tuple (oc_shownAll xs (by simpa only [leafOc] using h))
  | .dict xs, h => by
    simp only [PyData.shown]
    exact oc_dict (oc_shownKv xs (by simpa only [leafOc] using h))
theorem oc_shownAll : ∀ ds : List PyData, leafOcA ds = true → ∀ t ∈ PyData.shownAll ds, Oc t
  | [], _, t, ht => by simp [PyData.shownAll] at ht
  | d :: r, h, t, ht => by
    simp only [leafOcA, Bool.and_eq_true] at h
    simp only [PyData.shownAll] at ht
    rcases List.mem_cons.mp ht with rfl | ht
    · exact oc_shown d h.1
    · exact oc_shownAll r h.2 t ht
theorem oc_shownKv : ∀ ds : List (PyData × PyData), leafOcK ds = true → ∀ t ∈ PyData.shownKv ds, Oc t
  | [], _, t, ht => by simp [PyData.shownKv] at ht
  | (k, v) :: r, h, t, ht => by
    simp only [leafOcK, Bool.and_eq_true] at h
    simp only [PyData.shownKv] at ht
    rcases List.mem_cons.mp ht with rfl | ht
    · exact ((oc_shown k h.1.1).app (oc_dec (by decide +kernel))).app (oc_shown v h.1.2)
    · exact oc_shownKv r h.2 t ht
end
/-- data of depth at most n, of bulk at most w, its ints of at most 70 digits: repr may be asked -/
structure Tm (n w : Nat) (d : D) : Prop where
  pl : d.pl = true
  sh : d.py.showable = true
  dp : d.py.depth ≤ n
  lv : d.py.leavesShort 70 = true
  bk : d.py.bulk ≤ w
  oc : leafOc d.py = true
structure TmL (n w : Nat) (d : List D) : Prop where
  pl : D.plL d = true
  sh : PyData.showableAll (D.pyL d) = true
  dp : PyData.depthAll (D.pyL d) ≤ n
  lv : PyData.leavesShortAll 70 (D.pyL d) = true
  bk : PyData.bulkAll (D.pyL d) ≤ w
  oc : leafOcA (D.pyL d) = true
section
variable {n m w v : Nat} {d : D} {l : List D}
theorem Tm.mono (h : Tm n w d) (a : n ≤ m) (b : w ≤ v) : Tm m v d := { pl := h.pl, sh := h.sh, dp := Nat.le_trans h.dp a, lv := h.lv, bk := Nat.le_trans h.bk b, oc := h.oc }
theorem Tm.ok (h : Tm n w d) (a : n ≤ 60) (b : w ≤ 1300) : okR d := ⟨h.pl, h.sh, Nat.le_trans h.dp a, by
  have q := PyData.shown_le_bulk 70 (by decide) d.py h.lv
  have := h.bk
  omega⟩
theorem Tm.so (h : Tm n w d) : PyData.strOk d.py.shown = true := by
  have q := oc_shown d.py h.oc
  unfold PyData.strOk
  rw [← Array.all_toList]
  exact List.all_eq_true.mpr fun c hc => decide_eq_true (q c hc)
theorem Tm.dec (h1 : d.pl = true) (h2 : d.py.showable = true) (h3 : d.py.depth ≤ n) (h4 : d.py.leavesShort 70 = true) (h5 : d.py.bulk ≤ w) (h6 : leafOc d.py = true) : Tm n w d := ⟨h1, h2, h3, h4, h5, h6⟩
theorem Tm.int {i : Int} (h : i.natAbs < 2 ^ 200) : Tm n w (.int i) := by
  have hl : (PyData.int i).shown.length ≤ 70 := by
    rw [PyData.shown_int]
    have e := int_text_length_le10 (a := i) (k := 61) (by decide) (Nat.lt_trans h (by decide))
    rw [PySem.ofString_length]
    omega
  refine { pl := by simp [D.pl], sh := ?_, dp := by simp [D.py, PyData.depth], lv := ?_, bk := by simp [D.py, PyData.bulk], oc := by simp [D.py, leafOc] }
  · simp only [D.py, PyData.showable, decide_eq_true_eq]
    by_cases z : i.natAbs = 0
    · rw [z]; decide
    · exact Nat.lt_of_lt_of_le ((Nat.log2_lt z).mpr h) (by decide)
  · simp only [D.py, PyData.leavesShort, decide_eq_true_eq]
    exact hl
theorem TmL.nil : TmL n w [] := { pl := by simp [D.plL], sh := by simp [D.pyL, PyData.showableAll], dp := by simp [D.pyL, PyData.depthAll], lv := by simp [D.pyL, PyData.leavesShortAll], bk := by simp [D.pyL, PyData.bulkAll], oc := by simp [D.pyL, leafOcA] }
theorem TmL.cons (h : Tm n w d) (r : TmL n v l) : TmL n (w + 1 + v) (d :: l) :=
  { pl := by simp only [D.plL, h.pl, r.pl] <;> rfl, sh := by simp only [D.pyL, PyData.showableAll, h.sh, r.sh] <;> rfl
    dp := by simp only [D.pyL, PyData.depthAll]; exact Nat.max_le.mpr ⟨h.dp, r.dp⟩, lv := by simp only [D.pyL, PyData.leavesShortAll, h.lv, r.lv] <;> rfl
    bk := by simp only [D.pyL, PyData.bulkAll]; have a := h.bk; have b := r.bk; omega
    oc := by simp only [D.pyL, leafOcA, h.oc, r.oc] <;> rfl }
theorem TmL.tup (h : TmL n w l) : Tm (n + 1) w (.tup l) :=
  { pl := by simpa only [D.pl] using h.pl, sh := by simpa only [D.py, PyData.showable] using h.sh, dp := by simp only [D.py, PyData.depth]; exact Nat.succ_le_succ h.dp, lv := by simpa only [D.py, PyData.leavesShort] using h.lv, bk := by simpa only [D.py, PyData.bulk] using h.bk, oc := by simpa only [D.py, leafOc] using h.oc }
theorem TmL.lst (h : TmL n w l) : Tm (n + 1) w (.lst l) :=
  { pl := by simpa only [D.pl] using h.pl, sh := by simpa only [D.py, PyData.showable] using h.sh, dp := by simp only [D.py, PyData.depth]; exact Nat.succ_le_succ h.dp, lv := by simpa only [D.py, PyData.leavesShort] using h.lv, bk := by simpa only [D.py, PyData.bulk] using h.bk, oc := by simpa only [D.py, leafOc] using h.oc }
theorem TmL.mono (h : TmL n w l) (b : w ≤ v) : TmL n v l := { pl := h.pl, sh := h.sh, dp := h.dp, lv := h.lv, bk := Nat.le_trans h.bk b, oc := h.oc }
/-- each of l is so -/
theorem TmL.all : ∀ {l : List D}, (∀ d ∈ l, Tm n w d) → TmL n ((w + 1) * l.length) l
  | [], _ => TmL.nil
  | d :: l, h => (TmL.cons (h d List.mem_cons_self) (TmL.all fun x hx => h x (List.mem_cons_of_mem _ hx))).mono (by
      rw [List.length_cons, Nat.mul_succ]; omega)
end
/-! ### is not True -/
def rNotBl : R2 := fun x y H Q => ∃ c, y = .bl c ∧ Q (.bl (!decide (x = .bl c))) H
theorem op_notBlV {X : Cx} : OpR X (compareOp .IsNot) rNotBl := by
  intro pins s σ H x y v u Q I rx ry h
  obtain ⟨c, rfl, q⟩ := h
  cases (show u = Value.bool c from ry)
  have e : (v == Value.bool c) = decide (x = V.bl c) := by
    cases x with
    | non => cases rx; rfl
    | bl d =>
      cases (show v = Value.bool d from rx)
      cases c <;> cases d <;> rfl
    | int _ => obtain ⟨t, rfl⟩ := rx; rfl
    | str _ => obtain ⟨t, rfl⟩ := rx; rfl
    | byt _ => obtain ⟨t, rfl⟩ := rx; rfl
    | flt _ => obtain ⟨t, rfl⟩ := rx; rfl
    | ref _ => cases rx; rfl
    | ty _ => cases rx; rfl
  have go : wpAny (model X.prog X.w) X.A (pure (Value.bool (!(v == Value.bool c)))) (EP X pins σ Q) X.xe s := wpAny_pure ⟨.bl _, H, I, by rw [e]; rfl, q⟩
  cases x with
  | non => cases rx; exact go
  | bl d => cases (show v = Value.bool d from rx); exact go
  | int _ => obtain ⟨t, rfl⟩ := rx; exact go
  | str _ => obtain ⟨t, rfl⟩ := rx; exact go
  | byt _ => obtain ⟨t, rfl⟩ := rx; exact go
  | flt _ => obtain ⟨t, rfl⟩ := rx; exact go
  | ref _ => cases rx; exact go
  | ty _ => cases rx; exact go
theorem de_notBl {K : PySem.W.Frag} {b : Bs} {ρ : List Sl} {ta : TE} {Q : D → Prop} {c : Bool} (h : DE K b ρ ta fun x => Q (.bl (!isB x c))) : DE K b ρ (tOp rNotBl ta (tC (.bl c))) Q := fun Hf H σ k fr cc => by
  refine h Hf H σ _ fr fun v x Hf1 H1 e1 f1 r1 q => ?_
  refine ⟨c, rfl, ?_⟩
  have e : decide (v = V.bl c) = isB x c := by
    cases r1 <;> first | rfl | skip
    rename_i d
    cases c <;> cases d <;> rfl
  rw [e]
  exact cc _ _ Hf1 H1 e1 f1 (.bl _) q
end G

set_option Elab.async false
set_option linter.all false
set_option maxRecDepth 100000
set_option maxHeartbeats 4000000
namespace Law
open PySem PySem.Spec PyProof.Rows L2 G
def top (i : Nat) : Stmt := PySem.Challenge.pw_genuspapers_k02_ratios.main.body.getD i (.Pass ⟨0, 0, 0, 0⟩)
abbrev s_is_integer : Stmt := top 20
abbrev nm_is_integer : List Str := (["value"] : List Str)
theorem sc_is_integer : FnScope nm_is_integer (["value"] : List Str) (defScope s_is_integer) := ⟨rfl, rfl, rfl, by decide +kernel, rfl, by decide +kernel, by decide +kernel⟩
abbrev s_is_ratio : Stmt := top 21
abbrev nm_is_ratio : List Str := (["value"] : List Str)
theorem sc_is_ratio : FnScope nm_is_ratio (["value"] : List Str) (defScope s_is_ratio) := ⟨rfl, rfl, rfl, by decide +kernel, rfl, by decide +kernel, by decide +kernel⟩
abbrev s_pair : Stmt := top 22
abbrev nm_pair : List Str := (["number"] : List Str)
theorem sc_pair : FnScope nm_pair (["number"] : List Str) (defScope s_pair) := ⟨rfl, rfl, rfl, by decide +kernel, rfl, by decide +kernel, by decide +kernel⟩
abbrev s_in_lowest : Stmt := top 23
abbrev nm_in_lowest : List Str := (["top", "bottom", "by"] : List Str)
theorem sc_in_lowest : FnScope nm_in_lowest (["top", "bottom"] : List Str) (defScope s_in_lowest) := ⟨rfl, rfl, rfl, by decide +kernel, rfl, by decide +kernel, by decide +kernel⟩
abbrev s_ratio : Stmt := top 24
abbrev nm_ratio : List Str := (["top", "bottom"] : List Str)
theorem sc_ratio : FnScope nm_ratio (["top", "bottom"] : List Str) (defScope s_ratio) := ⟨rfl, rfl, rfl, by decide +kernel, rfl, by decide +kernel, by decide +kernel⟩
abbrev s_need_ratios : Stmt := top 25
abbrev nm_need_ratios : List Str := (["one", "other"] : List Str)
theorem sc_need_ratios : FnScope nm_need_ratios (["one", "other"] : List Str) (defScope s_need_ratios) := ⟨rfl, rfl, rfl, by decide +kernel, rfl, by decide +kernel, by decide +kernel⟩
abbrev s_plus : Stmt := top 26
abbrev nm_plus : List Str := (["one", "other"] : List Str)
theorem sc_plus : FnScope nm_plus (["one", "other"] : List Str) (defScope s_plus) := ⟨rfl, rfl, rfl, by decide +kernel, rfl, by decide +kernel, by decide +kernel⟩
abbrev s_added : Stmt := top 27
abbrev nm_added : List Str := (["one", "other", "top", "bottom", "high", "low"] : List Str)
theorem sc_added : FnScope nm_added (["one", "other"] : List Str) (defScope s_added) := ⟨rfl, rfl, rfl, by decide +kernel, rfl, by decide +kernel, by decide +kernel⟩
abbrev s_minus : Stmt := top 28
abbrev nm_minus : List Str := (["one", "other"] : List Str)
theorem sc_minus : FnScope nm_minus (["one", "other"] : List Str) (defScope s_minus) := ⟨rfl, rfl, rfl, by decide +kernel, rfl, by decide +kernel, by decide +kernel⟩
abbrev s_opposite : Stmt := top 29
abbrev nm_opposite : List Str := (["number"] : List Str)
theorem sc_opposite : FnScope nm_opposite (["number"] : List Str) (defScope s_opposite) := ⟨rfl, rfl, rfl, by decide +kernel, rfl, by decide +kernel, by decide +kernel⟩
abbrev s_times : Stmt := top 30
abbrev nm_times : List Str := (["one", "other"] : List Str)
theorem sc_times : FnScope nm_times (["one", "other"] : List Str) (defScope s_times) := ⟨rfl, rfl, rfl, by decide +kernel, rfl, by decide +kernel, by decide +kernel⟩
abbrev s_multiplied : Stmt := top 31
abbrev nm_multiplied : List Str := (["one", "other", "top", "bottom", "high", "low"] : List Str)
theorem sc_multiplied : FnScope nm_multiplied (["one", "other"] : List Str) (defScope s_multiplied) := ⟨rfl, rfl, rfl, by decide +kernel, rfl, by decide +kernel, by decide +kernel⟩
abbrev s_over : Stmt := top 32
abbrev nm_over : List Str := (["one", "other"] : List Str)
theorem sc_over : FnScope nm_over (["one", "other"] : List Str) (defScope s_over) := ⟨rfl, rfl, rfl, by decide +kernel, rfl, by decide +kernel, by decide +kernel⟩
abbrev s_divided : Stmt := top 33
abbrev nm_divided : List Str := (["one", "other", "top", "bottom", "high", "low"] : List Str)
theorem sc_divided : FnScope nm_divided (["one", "other"] : List Str) (defScope s_divided) := ⟨rfl, rfl, rfl, by decide +kernel, rfl, by decide +kernel, by decide +kernel⟩
abbrev s_sign : Stmt := top 34
abbrev nm_sign : List Str := (["one"] : List Str)
theorem sc_sign : FnScope nm_sign (["one"] : List Str) (defScope s_sign) := ⟨rfl, rfl, rfl, by decide +kernel, rfl, by decide +kernel, by decide +kernel⟩
abbrev s_sign_of : Stmt := top 35
abbrev nm_sign_of : List Str := (["number", "top"] : List Str)
theorem sc_sign_of : FnScope nm_sign_of (["number"] : List Str) (defScope s_sign_of) := ⟨rfl, rfl, rfl, by decide +kernel, rfl, by decide +kernel, by decide +kernel⟩
abbrev s_below : Stmt := top 36
abbrev nm_below : List Str := (["one", "other"] : List Str)
theorem sc_below : FnScope nm_below (["one", "other"] : List Str) (defScope s_below) := ⟨rfl, rfl, rfl, by decide +kernel, rfl, by decide +kernel, by decide +kernel⟩
abbrev s_is_below : Stmt := top 37
abbrev nm_is_below : List Str := (["one", "other", "top", "bottom", "high", "low"] : List Str)
theorem sc_is_below : FnScope nm_is_below (["one", "other"] : List Str) (defScope s_is_below) := ⟨rfl, rfl, rfl, by decide +kernel, rfl, by decide +kernel, by decide +kernel⟩
abbrev s_dot : Stmt := top 38
abbrev nm_dot : List Str := (["row", "other", "one"] : List Str)
theorem sc_dot : FnScope nm_dot (["row", "other"] : List Str) (defScope s_dot) := ⟨rfl, rfl, rfl, by decide +kernel, rfl, by decide +kernel, by decide +kernel⟩
abbrev s_summed : Stmt := top 39
abbrev nm_summed : List Str := (["row", "other", "top", "bottom", "one", "two", "high", "low", "up", "down"] : List Str)
theorem sc_summed : FnScope nm_summed (["row", "other"] : List Str) (defScope s_summed) := ⟨rfl, rfl, rfl, by decide +kernel, rfl, by decide +kernel, by decide +kernel⟩
abbrev s__law_pen : Stmt := top 41
abbrev nm__law_pen : List Str := (["script", "fold", "cell"] : List Str)
theorem sc__law_pen : FnScope nm__law_pen (["script"] : List Str) (defScope s__law_pen) := ⟨rfl, rfl, rfl, by decide +kernel, rfl, by decide +kernel, by decide +kernel⟩
abbrev s__law_draw : Stmt := top 42
abbrev nm__law_draw : List Str := (["pen", "many", "cell", "digit", "blend"] : List Str)
theorem sc__law_draw : FnScope nm__law_draw (["pen", "many"] : List Str) (defScope s__law_draw) := ⟨rfl, rfl, rfl, by decide +kernel, rfl, by decide +kernel, by decide +kernel⟩
abbrev s__law_pick : Stmt := top 43
abbrev nm__law_pick : List Str := (["pen", "some"] : List Str)
theorem sc__law_pick : FnScope nm__law_pick (["pen", "some"] : List Str) (defScope s__law_pick) := ⟨rfl, rfl, rfl, by decide +kernel, rfl, by decide +kernel, by decide +kernel⟩
abbrev s__law_is : Stmt := top 44
abbrev nm__law_is : List Str := (["told", "due", "at"] : List Str)
theorem sc__law_is : FnScope nm__law_is (["told", "due"] : List Str) (defScope s__law_is) := ⟨rfl, rfl, rfl, by decide +kernel, rfl, by decide +kernel, by decide +kernel⟩
abbrev s__law_says : Stmt := top 45
abbrev nm__law_says : List Str := (["told", "due"] : List Str)
theorem sc__law_says : FnScope nm__law_says (["told", "due"] : List Str) (defScope s__law_says) := ⟨rfl, rfl, rfl, by decide +kernel, rfl, by decide +kernel, by decide +kernel⟩
abbrev s__law_divisor : Stmt := top 46
abbrev nm__law_divisor : List Str := (["one", "other"] : List Str)
theorem sc__law_divisor : FnScope nm__law_divisor (["one", "other"] : List Str) (defScope s__law_divisor) := ⟨rfl, rfl, rfl, by decide +kernel, rfl, by decide +kernel, by decide +kernel⟩
abbrev s__law_low : Stmt := top 47
abbrev nm__law_low : List Str := (["top", "bottom", "by"] : List Str)
theorem sc__law_low : FnScope nm__law_low (["top", "bottom"] : List Str) (defScope s__law_low) := ⟨rfl, rfl, rfl, by decide +kernel, rfl, by decide +kernel, by decide +kernel⟩
abbrev s__law_pair : Stmt := top 48
abbrev nm__law_pair : List Str := (["number"] : List Str)
theorem sc__law_pair : FnScope nm__law_pair (["number"] : List Str) (defScope s__law_pair) := ⟨rfl, rfl, rfl, by decide +kernel, rfl, by decide +kernel, by decide +kernel⟩
abbrev s__law_plus : Stmt := top 49
abbrev nm__law_plus : List Str := (["one", "other", "first", "second"] : List Str)
theorem sc__law_plus : FnScope nm__law_plus (["one", "other"] : List Str) (defScope s__law_plus) := ⟨rfl, rfl, rfl, by decide +kernel, rfl, by decide +kernel, by decide +kernel⟩
abbrev s__law_opposite : Stmt := top 50
abbrev nm__law_opposite : List Str := (["number"] : List Str)
theorem sc__law_opposite : FnScope nm__law_opposite (["number"] : List Str) (defScope s__law_opposite) := ⟨rfl, rfl, rfl, by decide +kernel, rfl, by decide +kernel, by decide +kernel⟩
abbrev s__law_minus : Stmt := top 51
abbrev nm__law_minus : List Str := (["one", "other"] : List Str)
theorem sc__law_minus : FnScope nm__law_minus (["one", "other"] : List Str) (defScope s__law_minus) := ⟨rfl, rfl, rfl, by decide +kernel, rfl, by decide +kernel, by decide +kernel⟩
abbrev s__law_times : Stmt := top 52
abbrev nm__law_times : List Str := (["one", "other", "first", "second"] : List Str)
theorem sc__law_times : FnScope nm__law_times (["one", "other"] : List Str) (defScope s__law_times) := ⟨rfl, rfl, rfl, by decide +kernel, rfl, by decide +kernel, by decide +kernel⟩
abbrev s__law_over : Stmt := top 53
abbrev nm__law_over : List Str := (["one", "other", "first", "second"] : List Str)
theorem sc__law_over : FnScope nm__law_over (["one", "other"] : List Str) (defScope s__law_over) := ⟨rfl, rfl, rfl, by decide +kernel, rfl, by decide +kernel, by decide +kernel⟩
abbrev s__law_sign : Stmt := top 54
abbrev nm__law_sign : List Str := (["number", "top"] : List Str)
theorem sc__law_sign : FnScope nm__law_sign (["number"] : List Str) (defScope s__law_sign) := ⟨rfl, rfl, rfl, by decide +kernel, rfl, by decide +kernel, by decide +kernel⟩
abbrev s__law_less : Stmt := top 55
abbrev nm__law_less : List Str := (["one", "other", "first", "second"] : List Str)
theorem sc__law_less : FnScope nm__law_less (["one", "other"] : List Str) (defScope s__law_less) := ⟨rfl, rfl, rfl, by decide +kernel, rfl, by decide +kernel, by decide +kernel⟩
abbrev s__law_dot : Stmt := top 56
abbrev nm__law_dot : List Str := (["row", "other", "top", "bottom", "one", "two", "first", "second", "low"] : List Str)
theorem sc__law_dot : FnScope nm__law_dot (["row", "other"] : List Str) (defScope s__law_dot) := ⟨rfl, rfl, rfl, by decide +kernel, rfl, by decide +kernel, by decide +kernel⟩
abbrev s__law_is_list : Stmt := top 57
abbrev nm__law_is_list : List Str := (["value"] : List Str)
theorem sc__law_is_list : FnScope nm__law_is_list (["value"] : List Str) (defScope s__law_is_list) := ⟨rfl, rfl, rfl, by decide +kernel, rfl, by decide +kernel, by decide +kernel⟩
abbrev s__law_is_ratio : Stmt := top 58
abbrev nm__law_is_ratio : List Str := (["value"] : List Str)
theorem sc__law_is_ratio : FnScope nm__law_is_ratio (["value"] : List Str) (defScope s__law_is_ratio) := ⟨rfl, rfl, rfl, by decide +kernel, rfl, by decide +kernel, by decide +kernel⟩
abbrev s__law_is_whole : Stmt := top 59
abbrev nm__law_is_whole : List Str := (["value"] : List Str)
theorem sc__law_is_whole : FnScope nm__law_is_whole (["value"] : List Str) (defScope s__law_is_whole) := ⟨rfl, rfl, rfl, by decide +kernel, rfl, by decide +kernel, by decide +kernel⟩
abbrev s__law_is_any_row : Stmt := top 60
abbrev nm__law_is_any_row : List Str := (["value", "many", "one"] : List Str)
theorem sc__law_is_any_row : FnScope nm__law_is_any_row (["value", "many"] : List Str) (defScope s__law_is_any_row) := ⟨rfl, rfl, rfl, by decide +kernel, rfl, by decide +kernel, by decide +kernel⟩
abbrev s__law_number : Stmt := top 61
abbrev nm__law_number : List Str := (["pen", "size"] : List Str)
theorem sc__law_number : FnScope nm__law_number (["pen", "size"] : List Str) (defScope s__law_number) := ⟨rfl, rfl, rfl, by decide +kernel, rfl, by decide +kernel, by decide +kernel⟩
abbrev s__law_wide : Stmt := top 62
abbrev nm__law_wide : List Str := (["pen", "figures", "found", "top", "lap"] : List Str)
theorem sc__law_wide : FnScope nm__law_wide (["pen", "figures"] : List Str) (defScope s__law_wide) := ⟨rfl, rfl, rfl, by decide +kernel, rfl, by decide +kernel, by decide +kernel⟩
abbrev s__law_size : Stmt := top 63
abbrev nm__law_size : List Str := (["pen"] : List Str)
theorem sc__law_size : FnScope nm__law_size (["pen"] : List Str) (defScope s__law_size) := ⟨rfl, rfl, rfl, by decide +kernel, rfl, by decide +kernel, by decide +kernel⟩
abbrev s__law_row : Stmt := top 64
abbrev nm__law_row : List Str := (["pen", "many", "size", "at"] : List Str)
theorem sc__law_row : FnScope nm__law_row (["pen", "many", "size"] : List Str) (defScope s__law_row) := ⟨rfl, rfl, rfl, by decide +kernel, rfl, by decide +kernel, by decide +kernel⟩
abbrev s__law_odd : Stmt := top 65
abbrev nm__law_odd : List Str := (["pen"] : List Str)
theorem sc__law_odd : FnScope nm__law_odd (["pen"] : List Str) (defScope s__law_odd) := ⟨rfl, rfl, rfl, by decide +kernel, rfl, by decide +kernel, by decide +kernel⟩
abbrev s__law_bent_row : Stmt := top 66
abbrev nm__law_bent_row : List Str := (["pen", "row", "way", "at"] : List Str)
theorem sc__law_bent_row : FnScope nm__law_bent_row (["pen", "row"] : List Str) (defScope s__law_bent_row) := ⟨rfl, rfl, rfl, by decide +kernel, rfl, by decide +kernel, by decide +kernel⟩
abbrev s__law_fault : Stmt := top 67
abbrev nm__law_fault : List Str := (["call", "found", "e"] : List Str)
theorem sc__law_fault : FnScope nm__law_fault (["call"] : List Str) (defScope s__law_fault) := ⟨rfl, rfl, rfl, by decide +kernel, rfl, by decide +kernel, by decide +kernel⟩
abbrev s__law_kinds : Stmt := top 68
abbrev nm__law_kinds : List Str := (["e", "found"] : List Str)
theorem sc__law_kinds : FnScope nm__law_kinds (["e"] : List Str) (defScope s__law_kinds) := ⟨rfl, rfl, rfl, by decide +kernel, rfl, by decide +kernel, by decide +kernel⟩
abbrev s__law_more_kinds : Stmt := top 69
abbrev nm__law_more_kinds : List Str := (["e", "found"] : List Str)
theorem sc__law_more_kinds : FnScope nm__law_more_kinds (["e"] : List Str) (defScope s__law_more_kinds) := ⟨rfl, rfl, rfl, by decide +kernel, rfl, by decide +kernel, by decide +kernel⟩
abbrev s__law_made_right : Stmt := top 70
abbrev nm__law_made_right : List Str := (["pen", "by", "top", "bottom", "value", "odd"] : List Str)
theorem sc__law_made_right : FnScope nm__law_made_right (["pen"] : List Str) (defScope s__law_made_right) := ⟨rfl, rfl, rfl, by decide +kernel, rfl, by decide +kernel, by decide +kernel⟩
abbrev s__law_reckoned_right : Stmt := top 71
abbrev nm__law_reckoned_right : List Str := (["one", "other"] : List Str)
theorem sc__law_reckoned_right : FnScope nm__law_reckoned_right (["one", "other"] : List Str) (defScope s__law_reckoned_right) := ⟨rfl, rfl, rfl, by decide +kernel, rfl, by decide +kernel, by decide +kernel⟩
abbrev s__law_refused_right : Stmt := top 72
abbrev nm__law_refused_right : List Str := (["one", "odd", "call"] : List Str)
theorem sc__law_refused_right : FnScope nm__law_refused_right (["one", "odd"] : List Str) (defScope s__law_refused_right) := ⟨rfl, rfl, rfl, by decide +kernel, rfl, by decide +kernel, by decide +kernel⟩
abbrev s__law_rows_right : Stmt := top 73
abbrev nm__law_rows_right : List Str := (["pen", "many", "row", "other", "bent", "odd"] : List Str)
theorem sc__law_rows_right : FnScope nm__law_rows_right (["pen"] : List Str) (defScope s__law_rows_right) := ⟨rfl, rfl, rfl, by decide +kernel, rfl, by decide +kernel, by decide +kernel⟩
abbrev s_law : Stmt := top 74
abbrev nm_law : List Str := (["script", "pen", "lap", "one", "other"] : List Str)
theorem sc_law : FnScope nm_law (["script"] : List Str) (defScope s_law) := ⟨rfl, rfl, rfl, by decide +kernel, rfl, by decide +kernel, by decide +kernel⟩
abbrev s_BadNumber_init : Stmt := inClass (top 3) 0
abbrev nm_BadNumber_init : List Str := (["self", "what", "number"] : List Str)
theorem sc_BadNumber_init : FnScope nm_BadNumber_init (["self", "what", "number"] : List Str) (defScope s_BadNumber_init) := ⟨rfl, rfl, rfl, by decide +kernel, rfl, by decide +kernel, by decide +kernel⟩
abbrev s_BadRow_init : Stmt := inClass (top 4) 0
abbrev nm_BadRow_init : List Str := (["self", "what", "row"] : List Str)
theorem sc_BadRow_init : FnScope nm_BadRow_init (["self", "what", "row"] : List Str) (defScope s_BadRow_init) := ⟨rfl, rfl, rfl, by decide +kernel, rfl, by decide +kernel, by decide +kernel⟩
abbrev s_BadTable_init : Stmt := inClass (top 5) 0
abbrev nm_BadTable_init : List Str := (["self", "what"] : List Str)
theorem sc_BadTable_init : FnScope nm_BadTable_init (["self", "what"] : List Str) (defScope s_BadTable_init) := ⟨rfl, rfl, rfl, by decide +kernel, rfl, by decide +kernel, by decide +kernel⟩
abbrev s_BadForm_init : Stmt := inClass (top 6) 0
abbrev nm_BadForm_init : List Str := (["self", "what"] : List Str)
theorem sc_BadForm_init : FnScope nm_BadForm_init (["self", "what"] : List Str) (defScope s_BadForm_init) := ⟨rfl, rfl, rfl, by decide +kernel, rfl, by decide +kernel, by decide +kernel⟩
abbrev s_BadBook_init : Stmt := inClass (top 7) 0
abbrev nm_BadBook_init : List Str := (["self", "what"] : List Str)
theorem sc_BadBook_init : FnScope nm_BadBook_init (["self", "what"] : List Str) (defScope s_BadBook_init) := ⟨rfl, rfl, rfl, by decide +kernel, rfl, by decide +kernel, by decide +kernel⟩
abbrev s_BadName_init : Stmt := inClass (top 8) 0
abbrev nm_BadName_init : List Str := (["self", "name"] : List Str)
theorem sc_BadName_init : FnScope nm_BadName_init (["self", "name"] : List Str) (defScope s_BadName_init) := ⟨rfl, rfl, rfl, by decide +kernel, rfl, by decide +kernel, by decide +kernel⟩
abbrev s_BadText_init : Stmt := inClass (top 9) 0
abbrev nm_BadText_init : List Str := (["self", "line", "word"] : List Str)
theorem sc_BadText_init : FnScope nm_BadText_init (["self", "line", "word"] : List Str) (defScope s_BadText_init) := ⟨rfl, rfl, rfl, by decide +kernel, rfl, by decide +kernel, by decide +kernel⟩
abbrev s_NoPlace_init : Stmt := inClass (top 10) 0
abbrev nm_NoPlace_init : List Str := (["self", "what", "index"] : List Str)
theorem sc_NoPlace_init : FnScope nm_NoPlace_init (["self", "what", "index"] : List Str) (defScope s_NoPlace_init) := ⟨rfl, rfl, rfl, by decide +kernel, rfl, by decide +kernel, by decide +kernel⟩
abbrev s_NoName_init : Stmt := inClass (top 11) 0
abbrev nm_NoName_init : List Str := (["self", "name"] : List Str)
theorem sc_NoName_init : FnScope nm_NoName_init (["self", "name"] : List Str) (defScope s_NoName_init) := ⟨rfl, rfl, rfl, by decide +kernel, rfl, by decide +kernel, by decide +kernel⟩
abbrev s_TakenName_init : Stmt := inClass (top 12) 0
abbrev nm_TakenName_init : List Str := (["self", "name"] : List Str)
theorem sc_TakenName_init : FnScope nm_TakenName_init (["self", "name"] : List Str) (defScope s_TakenName_init) := ⟨rfl, rfl, rfl, by decide +kernel, rfl, by decide +kernel, by decide +kernel⟩
abbrev s_Unlike_init : Stmt := inClass (top 13) 0
abbrev nm_Unlike_init : List Str := (["self", "what"] : List Str)
theorem sc_Unlike_init : FnScope nm_Unlike_init (["self", "what"] : List Str) (defScope s_Unlike_init) := ⟨rfl, rfl, rfl, by decide +kernel, rfl, by decide +kernel, by decide +kernel⟩
abbrev s_NotThere_init : Stmt := inClass (top 14) 0
abbrev nm_NotThere_init : List Str := (["self", "paper"] : List Str)
theorem sc_NotThere_init : FnScope nm_NotThere_init (["self", "paper"] : List Str) (defScope s_NotThere_init) := ⟨rfl, rfl, rfl, by decide +kernel, rfl, by decide +kernel, by decide +kernel⟩
abbrev s_TooMany_init : Stmt := inClass (top 15) 0
abbrev nm_TooMany_init : List Str := (["self", "what", "many", "limit"] : List Str)
theorem sc_TooMany_init : FnScope nm_TooMany_init (["self", "what", "many", "limit"] : List Str) (defScope s_TooMany_init) := ⟨rfl, rfl, rfl, by decide +kernel, rfl, by decide +kernel, by decide +kernel⟩
abbrev s_NotKept_init : Stmt := inClass (top 16) 0
abbrev nm_NotKept_init : List Str := (["self", "promise", "witness"] : List Str)
theorem sc_NotKept_init : FnScope nm_NotKept_init (["self", "promise", "witness"] : List Str) (defScope s_NotKept_init) := ⟨rfl, rfl, rfl, by decide +kernel, rfl, by decide +kernel, by decide +kernel⟩
structure Ad where
  f_is_integer : Addr
  d_is_integer : FuncData
  f_is_ratio : Addr
  d_is_ratio : FuncData
  f_pair : Addr
  d_pair : FuncData
  f_in_lowest : Addr
  d_in_lowest : FuncData
  f_ratio : Addr
  d_ratio : FuncData
  f_need_ratios : Addr
  d_need_ratios : FuncData
  f_plus : Addr
  d_plus : FuncData
  f_added : Addr
  d_added : FuncData
  f_minus : Addr
  d_minus : FuncData
  f_opposite : Addr
  d_opposite : FuncData
  f_times : Addr
  d_times : FuncData
  f_multiplied : Addr
  d_multiplied : FuncData
  f_over : Addr
  d_over : FuncData
  f_divided : Addr
  d_divided : FuncData
  f_sign : Addr
  d_sign : FuncData
  f_sign_of : Addr
  d_sign_of : FuncData
  f_below : Addr
  d_below : FuncData
  f_is_below : Addr
  d_is_below : FuncData
  f_dot : Addr
  d_dot : FuncData
  f_summed : Addr
  d_summed : FuncData
  f__law_pen : Addr
  d__law_pen : FuncData
  f__law_draw : Addr
  d__law_draw : FuncData
  f__law_pick : Addr
  d__law_pick : FuncData
  f__law_is : Addr
  d__law_is : FuncData
  f__law_says : Addr
  d__law_says : FuncData
  f__law_divisor : Addr
  d__law_divisor : FuncData
  f__law_low : Addr
  d__law_low : FuncData
  f__law_pair : Addr
  d__law_pair : FuncData
  f__law_plus : Addr
  d__law_plus : FuncData
  f__law_opposite : Addr
  d__law_opposite : FuncData
  f__law_minus : Addr
  d__law_minus : FuncData
  f__law_times : Addr
  d__law_times : FuncData
  f__law_over : Addr
  d__law_over : FuncData
  f__law_sign : Addr
  d__law_sign : FuncData
  f__law_less : Addr
  d__law_less : FuncData
  f__law_dot : Addr
  d__law_dot : FuncData
  f__law_is_list : Addr
  d__law_is_list : FuncData
  f__law_is_ratio : Addr
  d__law_is_ratio : FuncData
  f__law_is_whole : Addr
  d__law_is_whole : FuncData
  f__law_is_any_row : Addr
  d__law_is_any_row : FuncData
  f__law_number : Addr
  d__law_number : FuncData
  f__law_wide : Addr
  d__law_wide : FuncData
  f__law_size : Addr
  d__law_size : FuncData
  f__law_row : Addr
  d__law_row : FuncData
  f__law_odd : Addr
  d__law_odd : FuncData
  f__law_bent_row : Addr
  d__law_bent_row : FuncData
  f__law_fault : Addr
  d__law_fault : FuncData
  f__law_kinds : Addr
  d__law_kinds : FuncData
  f__law_more_kinds : Addr
  d__law_more_kinds : FuncData
  f__law_made_right : Addr
  d__law_made_right : FuncData
  f__law_reckoned_right : Addr
  d__law_reckoned_right : FuncData
  f__law_refused_right : Addr
  d__law_refused_right : FuncData
  f__law_rows_right : Addr
  d__law_rows_right : FuncData
  f_law : Addr
  d_law : FuncData
  cc__law_made_right : Addr
  tb__law_made_right : Addr
  cc__law_reckoned_right : Addr
  tb__law_reckoned_right : Addr
  cc__law_refused_right : Addr
  tb__law_refused_right : Addr
  cc__law_rows_right : Addr
  tb__law_rows_right : Addr
  c_GenusError : Addr
  c_BadNumber : Addr
  i_BadNumber : Addr
  di_BadNumber : FuncData
  c_BadRow : Addr
  i_BadRow : Addr
  di_BadRow : FuncData
  c_BadTable : Addr
  i_BadTable : Addr
  di_BadTable : FuncData
  c_BadForm : Addr
  i_BadForm : Addr
  di_BadForm : FuncData
  c_BadBook : Addr
  i_BadBook : Addr
  di_BadBook : FuncData
  c_BadName : Addr
  i_BadName : Addr
  di_BadName : FuncData
  c_BadText : Addr
  i_BadText : Addr
  di_BadText : FuncData
  c_NoPlace : Addr
  i_NoPlace : Addr
  di_NoPlace : FuncData
  c_NoName : Addr
  i_NoName : Addr
  di_NoName : FuncData
  c_TakenName : Addr
  i_TakenName : Addr
  di_TakenName : FuncData
  c_Unlike : Addr
  i_Unlike : Addr
  di_Unlike : FuncData
  c_NotThere : Addr
  i_NotThere : Addr
  di_NotThere : FuncData
  c_TooMany : Addr
  i_TooMany : Addr
  di_TooMany : FuncData
  c_NotKept : Addr
  i_NotKept : Addr
  di_NotKept : FuncData
  c_NothingToUndo : Addr
  c_NothingToRedo : Addr
def tbs (a : Ad) : List (Addr × Addr) := [(a.cc__law_made_right, a.tb__law_made_right), (a.cc__law_reckoned_right, a.tb__law_reckoned_right), (a.cc__law_refused_right, a.tb__law_refused_right), (a.cc__law_rows_right, a.tb__law_rows_right)]
def tbq (a : Ad) : List (Addr × Str) := [(a.tb__law_made_right, ("_law_made_right" : Str) ++ ".<locals>." ++ "<lambda>"), (a.tb__law_reckoned_right, ("_law_reckoned_right" : Str) ++ ".<locals>." ++ "<lambda>"), (a.tb__law_refused_right, ("_law_refused_right" : Str) ++ ".<locals>." ++ "<lambda>"), (a.tb__law_rows_right, ("_law_rows_right" : Str) ++ ".<locals>." ++ "<lambda>")]
structure Tx (K : PySem.W.Frag) (mg : Str → Option Value) (a : Ad) : Prop where
  F_is_integer : Fun K "is_integer" "is_integer" s_is_integer a.f_is_integer a.d_is_integer
  g_is_integer : mg "is_integer" = some (.ref a.f_is_integer)
  b_is_integer : L2.Binds K a.d_is_integer (["value"] : List Str) []
  F_is_ratio : Fun K "is_ratio" "is_ratio" s_is_ratio a.f_is_ratio a.d_is_ratio
  g_is_ratio : mg "is_ratio" = some (.ref a.f_is_ratio)
  b_is_ratio : L2.Binds K a.d_is_ratio (["value"] : List Str) []
  F_pair : Fun K "pair" "pair" s_pair a.f_pair a.d_pair
  g_pair : mg "pair" = some (.ref a.f_pair)
  b_pair : L2.Binds K a.d_pair (["number"] : List Str) []
  F_in_lowest : Fun K "in_lowest" "in_lowest" s_in_lowest a.f_in_lowest a.d_in_lowest
  g_in_lowest : mg "in_lowest" = some (.ref a.f_in_lowest)
  b_in_lowest : L2.Binds K a.d_in_lowest (["top", "bottom"] : List Str) []
  F_ratio : Fun K "ratio" "ratio" s_ratio a.f_ratio a.d_ratio
  g_ratio : mg "ratio" = some (.ref a.f_ratio)
  b_ratio : L2.Binds K a.d_ratio (["top", "bottom"] : List Str) []
  F_need_ratios : Fun K "need_ratios" "need_ratios" s_need_ratios a.f_need_ratios a.d_need_ratios
  g_need_ratios : mg "need_ratios" = some (.ref a.f_need_ratios)
  b_need_ratios : L2.Binds K a.d_need_ratios (["one", "other"] : List Str) []
  F_plus : Fun K "plus" "plus" s_plus a.f_plus a.d_plus
  g_plus : mg "plus" = some (.ref a.f_plus)
  b_plus : L2.Binds K a.d_plus (["one", "other"] : List Str) []
  F_added : Fun K "added" "added" s_added a.f_added a.d_added
  g_added : mg "added" = some (.ref a.f_added)
  b_added : L2.Binds K a.d_added (["one", "other"] : List Str) []
  F_minus : Fun K "minus" "minus" s_minus a.f_minus a.d_minus
  g_minus : mg "minus" = some (.ref a.f_minus)
  b_minus : L2.Binds K a.d_minus (["one", "other"] : List Str) []
  F_opposite : Fun K "opposite" "opposite" s_opposite a.f_opposite a.d_opposite
  g_opposite : mg "opposite" = some (.ref a.f_opposite)
  b_opposite : L2.Binds K a.d_opposite (["number"] : List Str) []
  F_times : Fun K "times" "times" s_times a.f_times a.d_times
  g_times : mg "times" = some (.ref a.f_times)
  b_times : L2.Binds K a.d_times (["one", "other"] : List Str) []
  F_multiplied : Fun K "multiplied" "multiplied" s_multiplied a.f_multiplied a.d_multiplied
  g_multiplied : mg "multiplied" = some (.ref a.f_multiplied)
  b_multiplied : L2.Binds K a.d_multiplied (["one", "other"] : List Str) []
  F_over : Fun K "over" "over" s_over a.f_over a.d_over
  g_over : mg "over" = some (.ref a.f_over)
  b_over : L2.Binds K a.d_over (["one", "other"] : List Str) []
  F_divided : Fun K "divided" "divided" s_divided a.f_divided a.d_divided
  g_divided : mg "divided" = some (.ref a.f_divided)
  b_divided : L2.Binds K a.d_divided (["one", "other"] : List Str) []
  F_sign : Fun K "sign" "sign" s_sign a.f_sign a.d_sign
  g_sign : mg "sign" = some (.ref a.f_sign)
  b_sign : L2.Binds K a.d_sign (["one"] : List Str) []
  F_sign_of : Fun K "sign_of" "sign_of" s_sign_of a.f_sign_of a.d_sign_of
  g_sign_of : mg "sign_of" = some (.ref a.f_sign_of)
  b_sign_of : L2.Binds K a.d_sign_of (["number"] : List Str) []
  F_below : Fun K "below" "below" s_below a.f_below a.d_below
  g_below : mg "below" = some (.ref a.f_below)
  b_below : L2.Binds K a.d_below (["one", "other"] : List Str) []
  F_is_below : Fun K "is_below" "is_below" s_is_below a.f_is_below a.d_is_below
  g_is_below : mg "is_below" = some (.ref a.f_is_below)
  b_is_below : L2.Binds K a.d_is_below (["one", "other"] : List Str) []
  F_dot : Fun K "dot" "dot" s_dot a.f_dot a.d_dot
  g_dot : mg "dot" = some (.ref a.f_dot)
  b_dot : L2.Binds K a.d_dot (["row", "other"] : List Str) []
  F_summed : Fun K "summed" "summed" s_summed a.f_summed a.d_summed
  g_summed : mg "summed" = some (.ref a.f_summed)
  b_summed : L2.Binds K a.d_summed (["row", "other"] : List Str) []
  F__law_pen : Fun K "_law_pen" "_law_pen" s__law_pen a.f__law_pen a.d__law_pen
  g__law_pen : mg "_law_pen" = some (.ref a.f__law_pen)
  b__law_pen : L2.Binds K a.d__law_pen (["script"] : List Str) []
  F__law_draw : Fun K "_law_draw" "_law_draw" s__law_draw a.f__law_draw a.d__law_draw
  g__law_draw : mg "_law_draw" = some (.ref a.f__law_draw)
  b__law_draw : L2.Binds K a.d__law_draw (["pen", "many"] : List Str) []
  F__law_pick : Fun K "_law_pick" "_law_pick" s__law_pick a.f__law_pick a.d__law_pick
  g__law_pick : mg "_law_pick" = some (.ref a.f__law_pick)
  b__law_pick : L2.Binds K a.d__law_pick (["pen", "some"] : List Str) []
  F__law_is : Fun K "_law_is" "_law_is" s__law_is a.f__law_is a.d__law_is
  g__law_is : mg "_law_is" = some (.ref a.f__law_is)
  b__law_is : L2.Binds K a.d__law_is (["told", "due"] : List Str) []
  F__law_says : Fun K "_law_says" "_law_says" s__law_says a.f__law_says a.d__law_says
  g__law_says : mg "_law_says" = some (.ref a.f__law_says)
  b__law_says : L2.Binds K a.d__law_says (["told", "due"] : List Str) []
  F__law_divisor : Fun K "_law_divisor" "_law_divisor" s__law_divisor a.f__law_divisor a.d__law_divisor
  g__law_divisor : mg "_law_divisor" = some (.ref a.f__law_divisor)
  b__law_divisor : L2.Binds K a.d__law_divisor (["one", "other"] : List Str) []
  F__law_low : Fun K "_law_low" "_law_low" s__law_low a.f__law_low a.d__law_low
  g__law_low : mg "_law_low" = some (.ref a.f__law_low)
  b__law_low : L2.Binds K a.d__law_low (["top", "bottom"] : List Str) []
  F__law_pair : Fun K "_law_pair" "_law_pair" s__law_pair a.f__law_pair a.d__law_pair
  g__law_pair : mg "_law_pair" = some (.ref a.f__law_pair)
  b__law_pair : L2.Binds K a.d__law_pair (["number"] : List Str) []
  F__law_plus : Fun K "_law_plus" "_law_plus" s__law_plus a.f__law_plus a.d__law_plus
  g__law_plus : mg "_law_plus" = some (.ref a.f__law_plus)
  b__law_plus : L2.Binds K a.d__law_plus (["one", "other"] : List Str) []
  F__law_opposite : Fun K "_law_opposite" "_law_opposite" s__law_opposite a.f__law_opposite a.d__law_opposite
  g__law_opposite : mg "_law_opposite" = some (.ref a.f__law_opposite)
  b__law_opposite : L2.Binds K a.d__law_opposite (["number"] : List Str) []
  F__law_minus : Fun K "_law_minus" "_law_minus" s__law_minus a.f__law_minus a.d__law_minus
  g__law_minus : mg "_law_minus" = some (.ref a.f__law_minus)
  b__law_minus : L2.Binds K a.d__law_minus (["one", "other"] : List Str) []
  F__law_times : Fun K "_law_times" "_law_times" s__law_times a.f__law_times a.d__law_times
  g__law_times : mg "_law_times" = some (.ref a.f__law_times)
  b__law_times : L2.Binds K a.d__law_times (["one", "other"] : List Str) []
  F__law_over : Fun K "_law_over" "_law_over" s__law_over a.f__law_over a.d__law_over
  g__law_over : mg "_law_over" = some (.ref a.f__law_over)
  b__law_over : L2.Binds K a.d__law_over (["one", "other"] : List Str) []
  F__law_sign : Fun K "_law_sign" "_law_sign" s__law_sign a.f__law_sign a.d__law_sign
  g__law_sign : mg "_law_sign" = some (.ref a.f__law_sign)
  b__law_sign : L2.Binds K a.d__law_sign (["number"] : List Str) []
  F__law_less : Fun K "_law_less" "_law_less" s__law_less a.f__law_less a.d__law_less
  g__law_less : mg "_law_less" = some (.ref a.f__law_less)
  b__law_less : L2.Binds K a.d__law_less (["one", "other"] : List Str) []
  F__law_dot : Fun K "_law_dot" "_law_dot" s__law_dot a.f__law_dot a.d__law_dot
  g__law_dot : mg "_law_dot" = some (.ref a.f__law_dot)
  b__law_dot : L2.Binds K a.d__law_dot (["row", "other"] : List Str) []
  F__law_is_list : Fun K "_law_is_list" "_law_is_list" s__law_is_list a.f__law_is_list a.d__law_is_list
  g__law_is_list : mg "_law_is_list" = some (.ref a.f__law_is_list)
  b__law_is_list : L2.Binds K a.d__law_is_list (["value"] : List Str) []
  F__law_is_ratio : Fun K "_law_is_ratio" "_law_is_ratio" s__law_is_ratio a.f__law_is_ratio a.d__law_is_ratio
  g__law_is_ratio : mg "_law_is_ratio" = some (.ref a.f__law_is_ratio)
  b__law_is_ratio : L2.Binds K a.d__law_is_ratio (["value"] : List Str) []
  F__law_is_whole : Fun K "_law_is_whole" "_law_is_whole" s__law_is_whole a.f__law_is_whole a.d__law_is_whole
  g__law_is_whole : mg "_law_is_whole" = some (.ref a.f__law_is_whole)
  b__law_is_whole : L2.Binds K a.d__law_is_whole (["value"] : List Str) []
  F__law_is_any_row : Fun K "_law_is_any_row" "_law_is_any_row" s__law_is_any_row a.f__law_is_any_row a.d__law_is_any_row
  g__law_is_any_row : mg "_law_is_any_row" = some (.ref a.f__law_is_any_row)
  b__law_is_any_row : L2.Binds K a.d__law_is_any_row (["value", "many"] : List Str) []
  F__law_number : Fun K "_law_number" "_law_number" s__law_number a.f__law_number a.d__law_number
  g__law_number : mg "_law_number" = some (.ref a.f__law_number)
  b__law_number : L2.Binds K a.d__law_number (["pen", "size"] : List Str) []
  F__law_wide : Fun K "_law_wide" "_law_wide" s__law_wide a.f__law_wide a.d__law_wide
  g__law_wide : mg "_law_wide" = some (.ref a.f__law_wide)
  b__law_wide : L2.Binds K a.d__law_wide (["pen", "figures"] : List Str) []
  F__law_size : Fun K "_law_size" "_law_size" s__law_size a.f__law_size a.d__law_size
  g__law_size : mg "_law_size" = some (.ref a.f__law_size)
  b__law_size : L2.Binds K a.d__law_size (["pen"] : List Str) []
  F__law_row : Fun K "_law_row" "_law_row" s__law_row a.f__law_row a.d__law_row
  g__law_row : mg "_law_row" = some (.ref a.f__law_row)
  b__law_row : L2.Binds K a.d__law_row (["pen", "many", "size"] : List Str) []
  F__law_odd : Fun K "_law_odd" "_law_odd" s__law_odd a.f__law_odd a.d__law_odd
  g__law_odd : mg "_law_odd" = some (.ref a.f__law_odd)
  b__law_odd : L2.Binds K a.d__law_odd (["pen"] : List Str) []
  F__law_bent_row : Fun K "_law_bent_row" "_law_bent_row" s__law_bent_row a.f__law_bent_row a.d__law_bent_row
  g__law_bent_row : mg "_law_bent_row" = some (.ref a.f__law_bent_row)
  b__law_bent_row : L2.Binds K a.d__law_bent_row (["pen", "row"] : List Str) []
  F__law_fault : Fun K "_law_fault" "_law_fault" s__law_fault a.f__law_fault a.d__law_fault
  g__law_fault : mg "_law_fault" = some (.ref a.f__law_fault)
  b__law_fault : L2.Binds K a.d__law_fault (["call"] : List Str) []
  F__law_kinds : Fun K "_law_kinds" "_law_kinds" s__law_kinds a.f__law_kinds a.d__law_kinds
  g__law_kinds : mg "_law_kinds" = some (.ref a.f__law_kinds)
  b__law_kinds : L2.Binds K a.d__law_kinds (["e"] : List Str) []
  F__law_more_kinds : Fun K "_law_more_kinds" "_law_more_kinds" s__law_more_kinds a.f__law_more_kinds a.d__law_more_kinds
  g__law_more_kinds : mg "_law_more_kinds" = some (.ref a.f__law_more_kinds)
  b__law_more_kinds : L2.Binds K a.d__law_more_kinds (["e"] : List Str) []
  F__law_made_right : Fun K "_law_made_right" "_law_made_right" s__law_made_right a.f__law_made_right a.d__law_made_right
  g__law_made_right : mg "_law_made_right" = some (.ref a.f__law_made_right)
  b__law_made_right : L2.Binds K a.d__law_made_right (["pen"] : List Str) []
  F__law_reckoned_right : Fun K "_law_reckoned_right" "_law_reckoned_right" s__law_reckoned_right a.f__law_reckoned_right a.d__law_reckoned_right
  g__law_reckoned_right : mg "_law_reckoned_right" = some (.ref a.f__law_reckoned_right)
  b__law_reckoned_right : L2.Binds K a.d__law_reckoned_right (["one", "other"] : List Str) []
  F__law_refused_right : Fun K "_law_refused_right" "_law_refused_right" s__law_refused_right a.f__law_refused_right a.d__law_refused_right
  g__law_refused_right : mg "_law_refused_right" = some (.ref a.f__law_refused_right)
  b__law_refused_right : L2.Binds K a.d__law_refused_right (["one", "odd"] : List Str) []
  F__law_rows_right : Fun K "_law_rows_right" "_law_rows_right" s__law_rows_right a.f__law_rows_right a.d__law_rows_right
  g__law_rows_right : mg "_law_rows_right" = some (.ref a.f__law_rows_right)
  b__law_rows_right : L2.Binds K a.d__law_rows_right (["pen"] : List Str) []
  F_law : Fun K "law" "law" s_law a.f_law a.d_law
  g_law : mg "law" = some (.ref a.f_law)
  b_law : L2.Binds K a.d_law (["script"] : List Str) []
  n_ValueError : mg "ValueError" = none
  n_abs : mg "abs" = none
  n_all : mg "all" = none
  n_bool : mg "bool" = none
  n_int : mg "int" = none
  n_isinstance : mg "isinstance" = none
  n_len : mg "len" = none
  n_list : mg "list" = none
  n_range : mg "range" = none
  n_repr : mg "repr" = none
  n_str : mg "str" = none
  n_tuple : mg "tuple" = none
  n_zip : mg "zip" = none
  m_gcd : mg "gcd" = some (.builtin "math.gcd")
  cd__law_made_right : a.d__law_made_right.code = .ref a.cc__law_made_right
  cd__law_reckoned_right : a.d__law_reckoned_right.code = .ref a.cc__law_reckoned_right
  cd__law_refused_right : a.d__law_refused_right.code = .ref a.cc__law_refused_right
  cd__law_rows_right : a.d__law_rows_right.code = .ref a.cc__law_rows_right
  tn : ((tbq a).map (·.1)).Nodup
  eb : ErrB K
  e_GenusError : ErrK K a.c_GenusError veT
  g_GenusError : mg "GenusError" = some (.ref a.c_GenusError)
  ne : [a.c_GenusError, a.c_BadNumber, a.c_BadRow, a.c_BadTable, a.c_BadForm, a.c_BadBook, a.c_BadName, a.c_BadText, a.c_NoPlace, a.c_NoName, a.c_TakenName, a.c_Unlike, a.c_NotThere, a.c_TooMany, a.c_NotKept, a.c_NothingToUndo, a.c_NothingToRedo].Nodup
  e_BadNumber : ErrK K a.c_BadNumber (.ref a.c_GenusError :: veT)
  g_BadNumber : mg "BadNumber" = some (.ref a.c_BadNumber)
  i_BadNumber : PySem.W.findIn K (.ref a.c_BadNumber) "__init__" = some (some (.ref a.i_BadNumber))
  ti_BadNumber : PySem.W.typeIn K (.ref a.i_BadNumber) = some (.type "function")
  Fi_BadNumber : Fun K "__init__" "BadNumber.__init__" s_BadNumber_init a.i_BadNumber a.di_BadNumber
  bi_BadNumber : L2.Binds K a.di_BadNumber (["self", "what", "number"] : List Str) []
  no_BadNumber_what : PySem.W.findIn K (.ref a.c_BadNumber) "what" = some none
  no_BadNumber_number : PySem.W.findIn K (.ref a.c_BadNumber) "number" = some none
  e_BadRow : ErrK K a.c_BadRow (.ref a.c_GenusError :: veT)
  g_BadRow : mg "BadRow" = some (.ref a.c_BadRow)
  i_BadRow : PySem.W.findIn K (.ref a.c_BadRow) "__init__" = some (some (.ref a.i_BadRow))
  ti_BadRow : PySem.W.typeIn K (.ref a.i_BadRow) = some (.type "function")
  Fi_BadRow : Fun K "__init__" "BadRow.__init__" s_BadRow_init a.i_BadRow a.di_BadRow
  bi_BadRow : L2.Binds K a.di_BadRow (["self", "what", "row"] : List Str) []
  no_BadRow_what : PySem.W.findIn K (.ref a.c_BadRow) "what" = some none
  no_BadRow_row : PySem.W.findIn K (.ref a.c_BadRow) "row" = some none
  e_BadTable : ErrK K a.c_BadTable (.ref a.c_GenusError :: veT)
  g_BadTable : mg "BadTable" = some (.ref a.c_BadTable)
  i_BadTable : PySem.W.findIn K (.ref a.c_BadTable) "__init__" = some (some (.ref a.i_BadTable))
  ti_BadTable : PySem.W.typeIn K (.ref a.i_BadTable) = some (.type "function")
  Fi_BadTable : Fun K "__init__" "BadTable.__init__" s_BadTable_init a.i_BadTable a.di_BadTable
  bi_BadTable : L2.Binds K a.di_BadTable (["self", "what"] : List Str) []
  no_BadTable_what : PySem.W.findIn K (.ref a.c_BadTable) "what" = some none
  e_BadForm : ErrK K a.c_BadForm (.ref a.c_GenusError :: veT)
  g_BadForm : mg "BadForm" = some (.ref a.c_BadForm)
  i_BadForm : PySem.W.findIn K (.ref a.c_BadForm) "__init__" = some (some (.ref a.i_BadForm))
  ti_BadForm : PySem.W.typeIn K (.ref a.i_BadForm) = some (.type "function")
  Fi_BadForm : Fun K "__init__" "BadForm.__init__" s_BadForm_init a.i_BadForm a.di_BadForm
  bi_BadForm : L2.Binds K a.di_BadForm (["self", "what"] : List Str) []
  no_BadForm_what : PySem.W.findIn K (.ref a.c_BadForm) "what" = some none
  e_BadBook : ErrK K a.c_BadBook (.ref a.c_GenusError :: veT)
  g_BadBook : mg "BadBook" = some (.ref a.c_BadBook)
  i_BadBook : PySem.W.findIn K (.ref a.c_BadBook) "__init__" = some (some (.ref a.i_BadBook))
  ti_BadBook : PySem.W.typeIn K (.ref a.i_BadBook) = some (.type "function")
  Fi_BadBook : Fun K "__init__" "BadBook.__init__" s_BadBook_init a.i_BadBook a.di_BadBook
  bi_BadBook : L2.Binds K a.di_BadBook (["self", "what"] : List Str) []
  no_BadBook_what : PySem.W.findIn K (.ref a.c_BadBook) "what" = some none
  e_BadName : ErrK K a.c_BadName (.ref a.c_GenusError :: veT)
  g_BadName : mg "BadName" = some (.ref a.c_BadName)
  i_BadName : PySem.W.findIn K (.ref a.c_BadName) "__init__" = some (some (.ref a.i_BadName))
  ti_BadName : PySem.W.typeIn K (.ref a.i_BadName) = some (.type "function")
  Fi_BadName : Fun K "__init__" "BadName.__init__" s_BadName_init a.i_BadName a.di_BadName
  bi_BadName : L2.Binds K a.di_BadName (["self", "name"] : List Str) []
  no_BadName_name : PySem.W.findIn K (.ref a.c_BadName) "name" = some none
  e_BadText : ErrK K a.c_BadText (.ref a.c_GenusError :: veT)
  g_BadText : mg "BadText" = some (.ref a.c_BadText)
  i_BadText : PySem.W.findIn K (.ref a.c_BadText) "__init__" = some (some (.ref a.i_BadText))
  ti_BadText : PySem.W.typeIn K (.ref a.i_BadText) = some (.type "function")
  Fi_BadText : Fun K "__init__" "BadText.__init__" s_BadText_init a.i_BadText a.di_BadText
  bi_BadText : L2.Binds K a.di_BadText (["self", "line", "word"] : List Str) []
  no_BadText_line : PySem.W.findIn K (.ref a.c_BadText) "line" = some none
  no_BadText_word : PySem.W.findIn K (.ref a.c_BadText) "word" = some none
  e_NoPlace : ErrK K a.c_NoPlace (.ref a.c_GenusError :: veT)
  g_NoPlace : mg "NoPlace" = some (.ref a.c_NoPlace)
  i_NoPlace : PySem.W.findIn K (.ref a.c_NoPlace) "__init__" = some (some (.ref a.i_NoPlace))
  ti_NoPlace : PySem.W.typeIn K (.ref a.i_NoPlace) = some (.type "function")
  Fi_NoPlace : Fun K "__init__" "NoPlace.__init__" s_NoPlace_init a.i_NoPlace a.di_NoPlace
  bi_NoPlace : L2.Binds K a.di_NoPlace (["self", "what", "index"] : List Str) []
  no_NoPlace_what : PySem.W.findIn K (.ref a.c_NoPlace) "what" = some none
  no_NoPlace_index : PySem.W.findIn K (.ref a.c_NoPlace) "index" = some none
  e_NoName : ErrK K a.c_NoName (.ref a.c_GenusError :: veT)
  g_NoName : mg "NoName" = some (.ref a.c_NoName)
  i_NoName : PySem.W.findIn K (.ref a.c_NoName) "__init__" = some (some (.ref a.i_NoName))
  ti_NoName : PySem.W.typeIn K (.ref a.i_NoName) = some (.type "function")
  Fi_NoName : Fun K "__init__" "NoName.__init__" s_NoName_init a.i_NoName a.di_NoName
  bi_NoName : L2.Binds K a.di_NoName (["self", "name"] : List Str) []
  no_NoName_name : PySem.W.findIn K (.ref a.c_NoName) "name" = some none
  e_TakenName : ErrK K a.c_TakenName (.ref a.c_GenusError :: veT)
  g_TakenName : mg "TakenName" = some (.ref a.c_TakenName)
  i_TakenName : PySem.W.findIn K (.ref a.c_TakenName) "__init__" = some (some (.ref a.i_TakenName))
  ti_TakenName : PySem.W.typeIn K (.ref a.i_TakenName) = some (.type "function")
  Fi_TakenName : Fun K "__init__" "TakenName.__init__" s_TakenName_init a.i_TakenName a.di_TakenName
  bi_TakenName : L2.Binds K a.di_TakenName (["self", "name"] : List Str) []
  no_TakenName_name : PySem.W.findIn K (.ref a.c_TakenName) "name" = some none
  e_Unlike : ErrK K a.c_Unlike (.ref a.c_GenusError :: veT)
  g_Unlike : mg "Unlike" = some (.ref a.c_Unlike)
  i_Unlike : PySem.W.findIn K (.ref a.c_Unlike) "__init__" = some (some (.ref a.i_Unlike))
  ti_Unlike : PySem.W.typeIn K (.ref a.i_Unlike) = some (.type "function")
  Fi_Unlike : Fun K "__init__" "Unlike.__init__" s_Unlike_init a.i_Unlike a.di_Unlike
  bi_Unlike : L2.Binds K a.di_Unlike (["self", "what"] : List Str) []
  no_Unlike_what : PySem.W.findIn K (.ref a.c_Unlike) "what" = some none
  e_NotThere : ErrK K a.c_NotThere (.ref a.c_GenusError :: veT)
  g_NotThere : mg "NotThere" = some (.ref a.c_NotThere)
  i_NotThere : PySem.W.findIn K (.ref a.c_NotThere) "__init__" = some (some (.ref a.i_NotThere))
  ti_NotThere : PySem.W.typeIn K (.ref a.i_NotThere) = some (.type "function")
  Fi_NotThere : Fun K "__init__" "NotThere.__init__" s_NotThere_init a.i_NotThere a.di_NotThere
  bi_NotThere : L2.Binds K a.di_NotThere (["self", "paper"] : List Str) []
  no_NotThere_paper : PySem.W.findIn K (.ref a.c_NotThere) "paper" = some none
  e_TooMany : ErrK K a.c_TooMany (.ref a.c_GenusError :: veT)
  g_TooMany : mg "TooMany" = some (.ref a.c_TooMany)
  i_TooMany : PySem.W.findIn K (.ref a.c_TooMany) "__init__" = some (some (.ref a.i_TooMany))
  ti_TooMany : PySem.W.typeIn K (.ref a.i_TooMany) = some (.type "function")
  Fi_TooMany : Fun K "__init__" "TooMany.__init__" s_TooMany_init a.i_TooMany a.di_TooMany
  bi_TooMany : L2.Binds K a.di_TooMany (["self", "what", "many", "limit"] : List Str) []
  no_TooMany_what : PySem.W.findIn K (.ref a.c_TooMany) "what" = some none
  no_TooMany_many : PySem.W.findIn K (.ref a.c_TooMany) "many" = some none
  no_TooMany_limit : PySem.W.findIn K (.ref a.c_TooMany) "limit" = some none
  e_NotKept : ErrK K a.c_NotKept (.ref a.c_GenusError :: veT)
  g_NotKept : mg "NotKept" = some (.ref a.c_NotKept)
  i_NotKept : PySem.W.findIn K (.ref a.c_NotKept) "__init__" = some (some (.ref a.i_NotKept))
  ti_NotKept : PySem.W.typeIn K (.ref a.i_NotKept) = some (.type "function")
  Fi_NotKept : Fun K "__init__" "NotKept.__init__" s_NotKept_init a.i_NotKept a.di_NotKept
  bi_NotKept : L2.Binds K a.di_NotKept (["self", "promise", "witness"] : List Str) []
  no_NotKept_promise : PySem.W.findIn K (.ref a.c_NotKept) "promise" = some none
  no_NotKept_witness : PySem.W.findIn K (.ref a.c_NotKept) "witness" = some none
  e_NothingToUndo : ErrK K a.c_NothingToUndo (.ref a.c_GenusError :: veT)
  g_NothingToUndo : mg "NothingToUndo" = some (.ref a.c_NothingToUndo)
  x_NothingToUndo : PySem.W.excIn K a.c_NothingToUndo [.type "ValueError", .type "Exception", .type "BaseException", .type "object"] "ValueError.__new__" = true
  e_NothingToRedo : ErrK K a.c_NothingToRedo (.ref a.c_GenusError :: veT)
  g_NothingToRedo : mg "NothingToRedo" = some (.ref a.c_NothingToRedo)
  x_NothingToRedo : PySem.W.excIn K a.c_NothingToRedo [.type "ValueError", .type "Exception", .type "BaseException", .type "object"] "ValueError.__new__" = true
structure Sy (mg : Str → Option Value) (base : Heap) (a : Ad) : Prop where
  sys : SysD base
  tb : ∀ p ∈ tbs a, LamX.TabB base mg p.1 p.2
  tq : ∀ p q, p ∈ tbq a → q ∈ tbq a → p.1 = q.1 → p.2 = q.2
section
variable {P : Program} {w : World} {K : PySem.W.Frag} {mg : Str → Option Value} {base : Heap} {a : Ad}
theorem Tx.y_BadNumber (T : Tx K mg a) : PySem.W.keepIn K (.ref a.c_BadNumber) = true := T.e_BadNumber.kp
theorem Tx.o_BadNumber (T : Tx K mg a) : PySem.W.subIn K (.ref a.c_BadNumber) (.type "BaseException") = some true := T.e_BadNumber.raises vees
theorem Tx.t_BadNumber (T : Tx K mg a) : PySem.W.typeIn K (.ref a.c_BadNumber) = some (.type "type") := T.e_BadNumber.ty
theorem Tx.O_BadNumber (T : Tx K mg a) : OexC K a.c_BadNumber := T.e_BadNumber.oex vees
theorem in_BadNumber (T : Tx K mg a) : FnOk P w K mg base CX0 1 a.i_BadNumber a.di_BadNumber (["self", "what", "number"] : List Str) (spInit a.c_BadNumber (["what", "number"] : List Str)) := init2 T.Fi_BadNumber sc_BadNumber_init T.O_BadNumber T.no_BadNumber_what T.no_BadNumber_number (fun cdv A outer s H E => (pss_cons (ps_ost (pv 0) (pv 1)) (pss_one (ps_ost (pv 0) (pv 2)))))
theorem Tx.y_BadRow (T : Tx K mg a) : PySem.W.keepIn K (.ref a.c_BadRow) = true := T.e_BadRow.kp
theorem Tx.o_BadRow (T : Tx K mg a) : PySem.W.subIn K (.ref a.c_BadRow) (.type "BaseException") = some true := T.e_BadRow.raises vees
theorem Tx.t_BadRow (T : Tx K mg a) : PySem.W.typeIn K (.ref a.c_BadRow) = some (.type "type") := T.e_BadRow.ty
theorem Tx.O_BadRow (T : Tx K mg a) : OexC K a.c_BadRow := T.e_BadRow.oex vees
theorem in_BadRow (T : Tx K mg a) : FnOk P w K mg base CX0 1 a.i_BadRow a.di_BadRow (["self", "what", "row"] : List Str) (spInit a.c_BadRow (["what", "row"] : List Str)) := init2 T.Fi_BadRow sc_BadRow_init T.O_BadRow T.no_BadRow_what T.no_BadRow_row (fun cdv A outer s H E => (pss_cons (ps_ost (pv 0) (pv 1)) (pss_one (ps_ost (pv 0) (pv 2)))))
theorem Tx.y_BadTable (T : Tx K mg a) : PySem.W.keepIn K (.ref a.c_BadTable) = true := T.e_BadTable.kp
theorem Tx.o_BadTable (T : Tx K mg a) : PySem.W.subIn K (.ref a.c_BadTable) (.type "BaseException") = some true := T.e_BadTable.raises vees
theorem Tx.t_BadTable (T : Tx K mg a) : PySem.W.typeIn K (.ref a.c_BadTable) = some (.type "type") := T.e_BadTable.ty
theorem Tx.O_BadTable (T : Tx K mg a) : OexC K a.c_BadTable := T.e_BadTable.oex vees
theorem in_BadTable (T : Tx K mg a) : FnOk P w K mg base CX0 1 a.i_BadTable a.di_BadTable (["self", "what"] : List Str) (spInit a.c_BadTable (["what"] : List Str)) := init1 T.Fi_BadTable sc_BadTable_init T.O_BadTable T.no_BadTable_what (fun cdv A outer s H E => (pss_one (ps_ost (pv 0) (pv 1))))
theorem Tx.y_BadForm (T : Tx K mg a) : PySem.W.keepIn K (.ref a.c_BadForm) = true := T.e_BadForm.kp
theorem Tx.o_BadForm (T : Tx K mg a) : PySem.W.subIn K (.ref a.c_BadForm) (.type "BaseException") = some true := T.e_BadForm.raises vees
theorem Tx.t_BadForm (T : Tx K mg a) : PySem.W.typeIn K (.ref a.c_BadForm) = some (.type "type") := T.e_BadForm.ty
theorem Tx.O_BadForm (T : Tx K mg a) : OexC K a.c_BadForm := T.e_BadForm.oex vees
theorem in_BadForm (T : Tx K mg a) : FnOk P w K mg base CX0 1 a.i_BadForm a.di_BadForm (["self", "what"] : List Str) (spInit a.c_BadForm (["what"] : List Str)) := init1 T.Fi_BadForm sc_BadForm_init T.O_BadForm T.no_BadForm_what (fun cdv A outer s H E => (pss_one (ps_ost (pv 0) (pv 1))))
theorem Tx.y_BadBook (T : Tx K mg a) : PySem.W.keepIn K (.ref a.c_BadBook) = true := T.e_BadBook.kp
theorem Tx.o_BadBook (T : Tx K mg a) : PySem.W.subIn K (.ref a.c_BadBook) (.type "BaseException") = some true := T.e_BadBook.raises vees
theorem Tx.t_BadBook (T : Tx K mg a) : PySem.W.typeIn K (.ref a.c_BadBook) = some (.type "type") := T.e_BadBook.ty
theorem Tx.O_BadBook (T : Tx K mg a) : OexC K a.c_BadBook := T.e_BadBook.oex vees
theorem in_BadBook (T : Tx K mg a) : FnOk P w K mg base CX0 1 a.i_BadBook a.di_BadBook (["self", "what"] : List Str) (spInit a.c_BadBook (["what"] : List Str)) := init1 T.Fi_BadBook sc_BadBook_init T.O_BadBook T.no_BadBook_what (fun cdv A outer s H E => (pss_one (ps_ost (pv 0) (pv 1))))
theorem Tx.y_BadName (T : Tx K mg a) : PySem.W.keepIn K (.ref a.c_BadName) = true := T.e_BadName.kp
theorem Tx.o_BadName (T : Tx K mg a) : PySem.W.subIn K (.ref a.c_BadName) (.type "BaseException") = some true := T.e_BadName.raises vees
theorem Tx.t_BadName (T : Tx K mg a) : PySem.W.typeIn K (.ref a.c_BadName) = some (.type "type") := T.e_BadName.ty
theorem Tx.O_BadName (T : Tx K mg a) : OexC K a.c_BadName := T.e_BadName.oex vees
theorem in_BadName (T : Tx K mg a) : FnOk P w K mg base CX0 1 a.i_BadName a.di_BadName (["self", "name"] : List Str) (spInit a.c_BadName (["name"] : List Str)) := init1 T.Fi_BadName sc_BadName_init T.O_BadName T.no_BadName_name (fun cdv A outer s H E => (pss_one (ps_ost (pv 0) (pv 1))))
theorem Tx.y_BadText (T : Tx K mg a) : PySem.W.keepIn K (.ref a.c_BadText) = true := T.e_BadText.kp
theorem Tx.o_BadText (T : Tx K mg a) : PySem.W.subIn K (.ref a.c_BadText) (.type "BaseException") = some true := T.e_BadText.raises vees
theorem Tx.t_BadText (T : Tx K mg a) : PySem.W.typeIn K (.ref a.c_BadText) = some (.type "type") := T.e_BadText.ty
theorem Tx.O_BadText (T : Tx K mg a) : OexC K a.c_BadText := T.e_BadText.oex vees
theorem in_BadText (T : Tx K mg a) : FnOk P w K mg base CX0 1 a.i_BadText a.di_BadText (["self", "line", "word"] : List Str) (spInit a.c_BadText (["line", "word"] : List Str)) := init2 T.Fi_BadText sc_BadText_init T.O_BadText T.no_BadText_line T.no_BadText_word (fun cdv A outer s H E => (pss_cons (ps_ost (pv 0) (pv 1)) (pss_one (ps_ost (pv 0) (pv 2)))))
theorem Tx.y_NoPlace (T : Tx K mg a) : PySem.W.keepIn K (.ref a.c_NoPlace) = true := T.e_NoPlace.kp
theorem Tx.o_NoPlace (T : Tx K mg a) : PySem.W.subIn K (.ref a.c_NoPlace) (.type "BaseException") = some true := T.e_NoPlace.raises vees
theorem Tx.t_NoPlace (T : Tx K mg a) : PySem.W.typeIn K (.ref a.c_NoPlace) = some (.type "type") := T.e_NoPlace.ty
theorem Tx.O_NoPlace (T : Tx K mg a) : OexC K a.c_NoPlace := T.e_NoPlace.oex vees
theorem in_NoPlace (T : Tx K mg a) : FnOk P w K mg base CX0 1 a.i_NoPlace a.di_NoPlace (["self", "what", "index"] : List Str) (spInit a.c_NoPlace (["what", "index"] : List Str)) := init2 T.Fi_NoPlace sc_NoPlace_init T.O_NoPlace T.no_NoPlace_what T.no_NoPlace_index (fun cdv A outer s H E => (pss_cons (ps_ost (pv 0) (pv 1)) (pss_one (ps_ost (pv 0) (pv 2)))))
theorem Tx.y_NoName (T : Tx K mg a) : PySem.W.keepIn K (.ref a.c_NoName) = true := T.e_NoName.kp
theorem Tx.o_NoName (T : Tx K mg a) : PySem.W.subIn K (.ref a.c_NoName) (.type "BaseException") = some true := T.e_NoName.raises vees
theorem Tx.t_NoName (T : Tx K mg a) : PySem.W.typeIn K (.ref a.c_NoName) = some (.type "type") := T.e_NoName.ty
theorem Tx.O_NoName (T : Tx K mg a) : OexC K a.c_NoName := T.e_NoName.oex vees
theorem in_NoName (T : Tx K mg a) : FnOk P w K mg base CX0 1 a.i_NoName a.di_NoName (["self", "name"] : List Str) (spInit a.c_NoName (["name"] : List Str)) := init1 T.Fi_NoName sc_NoName_init T.O_NoName T.no_NoName_name (fun cdv A outer s H E => (pss_one (ps_ost (pv 0) (pv 1))))
theorem Tx.y_TakenName (T : Tx K mg a) : PySem.W.keepIn K (.ref a.c_TakenName) = true := T.e_TakenName.kp
theorem Tx.o_TakenName (T : Tx K mg a) : PySem.W.subIn K (.ref a.c_TakenName) (.type "BaseException") = some true := T.e_TakenName.raises vees
theorem Tx.t_TakenName (T : Tx K mg a) : PySem.W.typeIn K (.ref a.c_TakenName) = some (.type "type") := T.e_TakenName.ty
theorem Tx.O_TakenName (T : Tx K mg a) : OexC K a.c_TakenName := T.e_TakenName.oex vees
theorem in_TakenName (T : Tx K mg a) : FnOk P w K mg base CX0 1 a.i_TakenName a.di_TakenName (["self", "name"] : List Str) (spInit a.c_TakenName (["name"] : List Str)) := init1 T.Fi_TakenName sc_TakenName_init T.O_TakenName T.no_TakenName_name (fun cdv A outer s H E => (pss_one (ps_ost (pv 0) (pv 1))))
theorem Tx.y_Unlike (T : Tx K mg a) : PySem.W.keepIn K (.ref a.c_Unlike) = true := T.e_Unlike.kp
theorem Tx.o_Unlike (T : Tx K mg a) : PySem.W.subIn K (.ref a.c_Unlike) (.type "BaseException") = some true := T.e_Unlike.raises vees
theorem Tx.t_Unlike (T : Tx K mg a) : PySem.W.typeIn K (.ref a.c_Unlike) = some (.type "type") := T.e_Unlike.ty
theorem Tx.O_Unlike (T : Tx K mg a) : OexC K a.c_Unlike := T.e_Unlike.oex vees
theorem in_Unlike (T : Tx K mg a) : FnOk P w K mg base CX0 1 a.i_Unlike a.di_Unlike (["self", "what"] : List Str) (spInit a.c_Unlike (["what"] : List Str)) := init1 T.Fi_Unlike sc_Unlike_init T.O_Unlike T.no_Unlike_what (fun cdv A outer s H E => (pss_one (ps_ost (pv 0) (pv 1))))
theorem Tx.y_NotThere (T : Tx K mg a) : PySem.W.keepIn K (.ref a.c_NotThere) = true := T.e_NotThere.kp
theorem Tx.o_NotThere (T : Tx K mg a) : PySem.W.subIn K (.ref a.c_NotThere) (.type "BaseException") = some true := T.e_NotThere.raises vees
theorem Tx.t_NotThere (T : Tx K mg a) : PySem.W.typeIn K (.ref a.c_NotThere) = some (.type "type") := T.e_NotThere.ty
theorem Tx.O_NotThere (T : Tx K mg a) : OexC K a.c_NotThere := T.e_NotThere.oex vees
theorem in_NotThere (T : Tx K mg a) : FnOk P w K mg base CX0 1 a.i_NotThere a.di_NotThere (["self", "paper"] : List Str) (spInit a.c_NotThere (["paper"] : List Str)) := init1 T.Fi_NotThere sc_NotThere_init T.O_NotThere T.no_NotThere_paper (fun cdv A outer s H E => (pss_one (ps_ost (pv 0) (pv 1))))
theorem Tx.y_TooMany (T : Tx K mg a) : PySem.W.keepIn K (.ref a.c_TooMany) = true := T.e_TooMany.kp
theorem Tx.o_TooMany (T : Tx K mg a) : PySem.W.subIn K (.ref a.c_TooMany) (.type "BaseException") = some true := T.e_TooMany.raises vees
theorem Tx.t_TooMany (T : Tx K mg a) : PySem.W.typeIn K (.ref a.c_TooMany) = some (.type "type") := T.e_TooMany.ty
theorem Tx.O_TooMany (T : Tx K mg a) : OexC K a.c_TooMany := T.e_TooMany.oex vees
theorem in_TooMany (T : Tx K mg a) : FnOk P w K mg base CX0 1 a.i_TooMany a.di_TooMany (["self", "what", "many", "limit"] : List Str) (spInit a.c_TooMany (["what", "many", "limit"] : List Str)) := init3 T.Fi_TooMany sc_TooMany_init T.O_TooMany T.no_TooMany_what T.no_TooMany_many T.no_TooMany_limit (fun cdv A outer s H E => (pss_cons (ps_ost (pv 0) (pv 1)) (pss_cons (ps_ost (pv 0) (pv 2)) (pss_one (ps_ost (pv 0) (pv 3))))))
theorem Tx.y_NotKept (T : Tx K mg a) : PySem.W.keepIn K (.ref a.c_NotKept) = true := T.e_NotKept.kp
theorem Tx.o_NotKept (T : Tx K mg a) : PySem.W.subIn K (.ref a.c_NotKept) (.type "BaseException") = some true := T.e_NotKept.raises vees
theorem Tx.t_NotKept (T : Tx K mg a) : PySem.W.typeIn K (.ref a.c_NotKept) = some (.type "type") := T.e_NotKept.ty
theorem Tx.O_NotKept (T : Tx K mg a) : OexC K a.c_NotKept := T.e_NotKept.oex vees
theorem in_NotKept (T : Tx K mg a) : FnOk P w K mg base CX0 1 a.i_NotKept a.di_NotKept (["self", "promise", "witness"] : List Str) (spInit a.c_NotKept (["promise", "witness"] : List Str)) := init2 T.Fi_NotKept sc_NotKept_init T.O_NotKept T.no_NotKept_promise T.no_NotKept_witness (fun cdv A outer s H E => (pss_cons (ps_ost (pv 0) (pv 1)) (pss_one (ps_ost (pv 0) (pv 2)))))
theorem Tx.y_NothingToUndo (T : Tx K mg a) : PySem.W.keepIn K (.ref a.c_NothingToUndo) = true := T.e_NothingToUndo.kp
theorem Tx.o_NothingToUndo (T : Tx K mg a) : PySem.W.subIn K (.ref a.c_NothingToUndo) (.type "BaseException") = some true := T.e_NothingToUndo.raises vees
theorem Tx.t_NothingToUndo (T : Tx K mg a) : PySem.W.typeIn K (.ref a.c_NothingToUndo) = some (.type "type") := T.e_NothingToUndo.ty
theorem Tx.y_NothingToRedo (T : Tx K mg a) : PySem.W.keepIn K (.ref a.c_NothingToRedo) = true := T.e_NothingToRedo.kp
theorem Tx.o_NothingToRedo (T : Tx K mg a) : PySem.W.subIn K (.ref a.c_NothingToRedo) (.type "BaseException") = some true := T.e_NothingToRedo.raises vees
theorem Tx.t_NothingToRedo (T : Tx K mg a) : PySem.W.typeIn K (.ref a.c_NothingToRedo) = some (.type "type") := T.e_NothingToRedo.ty
theorem sy_mk (T : Tx K mg a) (h : SysD base) (tb : ∀ p ∈ tbs a, LamX.TabB base mg p.1 p.2) : Sy mg base a := ⟨h, tb, fun p q hp hq e => congrArg Prod.snd (nodup_fst T.tn hp hq e)⟩
end
section
variable {P : Program} {w : World} {K : PySem.W.Frag} {mg : Str → Option Value} {base : Heap} {a : Ad}
def F_draw : DF := fun ss R _ => ∃ m : Int, ss = [.pen, .sh (.int m)] ∧ 0 < m ∧ m.natAbs.log2 < 9000 ∧ ∀ k : Int, 0 ≤ k → k < m → R (.int k)
theorem ok__law_draw (T : Tx K mg a) (hS : Sy mg base a) : FnG P w K mg base true 1 a.f__law_draw a.d__law_draw (["pen", "many"] : List Str) (fun _ => spD K F_draw) := by
  refine fn_go T.F__law_draw sc__law_draw (fun pl vs H Q E h => ?_) (fun cdv A outer s H vs Q E pl hr h => ?_)
  · obtain ⟨Hf, M, ss, R, X, _, _, h3, ⟨m, rfl, _⟩, _⟩ := h
    exact h3.length
  obtain ⟨Hf, M, ss, R, X, h1, h2, h3, ⟨m, rfl, hm, hl, hR⟩, h5, h6⟩ := h
  obtain ⟨v1, v2, rfl, q1, q2⟩ : ∃ v1 v2, vs = [v1, v2] ∧ ArgOk K M Hf v1 .pen ∧ ArgOk K M Hf v2 (.sh (.int m)) := by
    cases h3 with
    | cons q1 h3 =>
      cases h3 with
      | cons q2 h3 =>
        cases h3
        exact ⟨_, _, rfl, q1, q2⟩
  obtain ⟨p, hpM, rfl⟩ := (show ∃ p ∈ M, v1 = .ref p from q1)
  have ev := Rp.int_inv (show Rp K Hf v2 (.int m) from q2)
  subst ev
  obtain ⟨hpf, o, hp, c, ns, at', dg, cn, fo, rfl, hs, b1, b2, b3, b4, b5, b6⟩ := h2 p hpM
  have hH : H = upd H p (.dK (penL c at' dg cn fo)) := same_upd hp
  have fin : ∀ (a' d' n' f' k : Int), 0 ≤ a' → 0 ≤ d' → d'.natAbs < 2 ^ 1048577 → 0 ≤ f' → f' < 2 ^ 31 → 0 ≤ k → k < m → Q (.int k) (upd H p (.dK (penL c a' d' n' f'))) := fun a' d' n' f' k g1 g2 g3 g4 g5 g6 g7 =>
    h5 (.int k) (.int k) Hf _ (pen_exit h1 h2 hpM (penO_of hs g1 g2 g3 g4 g5 b6)) (.int k) (hR k g6 g7)
  refine ⟨_, (pss_cons (ps_dput hr.hu1 (pv 0) pe_str (pe_op op_addG (pe_dget hr.hu1 (pv 0) pe_str (fun _ _ => rfl)) pe_int) rfl)
      (pss_cons (ps_if (PW.pt (pw_and (pt_cmpR (op_eqG hr.hu) (pe_dget hr.hu1 (pv 0) pe_str (fun _ _ => rfl)) pe_int (nomark _)) (pw_and1 (pt_cmpR op_lt (pe_dget hr.hu1 (pv 0) pe_str (fun _ _ => rfl)) (pe_callB call_lenV (by rfl) T.n_len PySem.boot_len (pa_cons (pe_dget hr.hu1 (pv 0) pe_str (fun _ _ => rfl)) pa_nil)) (nomark _))))) (pss_cons (ps_set (i := 2) sc__law_draw.nd rfl (Or.inl rfl) (pe_ix ix_seq (pe_dget hr.hu1 (pv 0) pe_str (fun _ _ => rfl)) (pe_dget hr.hu1 (pv 0) pe_str (fun _ _ => rfl)) (fun _ _ => rfl)))
      (pss_cons (ps_dput hr.hu1 (pv 0) pe_str (pe_op op_addG (pe_dget hr.hu1 (pv 0) pe_str (fun _ _ => rfl)) pe_int) rfl)
      (pss_one (ps_if (pt_cmpR op_ge (pv 2) (pe_op op_pow pe_int pe_int) (nomark _)) (pss_one (ps_dput hr.hu1 (pv 0) pe_str (pe_op op_sub (pv 2) (pe_op op_pow pe_int pe_int)) rfl)) (pss_one (ps_dput hr.hu1 (pv 0) pe_str (pe_op op_modN (pe_callTy call_intV (by rfl) T.n_int PyProof.Rows.boot_int (pa_cons (pe_op op_addG (pe_op op_mulG (pe_dget hr.hu1 (pv 0) pe_str (fun _ _ => rfl)) pe_int) (pv 2)) pa_nil)) pe_int) rfl)))))) pss_nil)
      (pss_cons (ps_if (pt_cmpR op_gt (pe_dget hr.hu1 (pv 0) pe_str (fun _ _ => rfl)) pe_int (nomark _)) (pss_cons (ps_set (i := 3) sc__law_draw.nd rfl (Or.inl rfl) (pe_op op_modN (pe_callTy call_intV (by rfl) T.n_int PyProof.Rows.boot_int (pa_cons (pe_dget hr.hu1 (pv 0) pe_str (fun _ _ => rfl)) pa_nil)) (pv 1)))
      (pss_cons (ps_dput hr.hu1 (pv 0) pe_str (pe_op op_fdivG (pe_dget hr.hu1 (pv 0) pe_str (fun _ _ => rfl)) (pv 1)) rfl)
      (pss_one (ps_ret (pv 3))))) pss_nil)
      (pss_cons (ps_set (i := 4) sc__law_draw.nd rfl (Or.inl rfl) (pe_op op_modN (pe_callTy call_intV (by rfl) T.n_int PyProof.Rows.boot_int (pa_cons (pe_op op_addG (pe_op op_addG (pe_op op_mulG (pe_dget hr.hu1 (pv 0) pe_str (fun _ _ => rfl)) pe_int) (pe_op op_mulG (pe_dget hr.hu1 (pv 0) pe_str (fun _ _ => rfl)) pe_int)) pe_int) pa_nil)) pe_int))
      (pss_cons (ps_set (i := 4) sc__law_draw.nd rfl (Or.inl rfl) (pe_op op_modN (pe_callTy call_intV (by rfl) T.n_int PyProof.Rows.boot_int (pa_cons (pe_op op_addG (pe_op op_addG (pe_op op_mulG (pv 4) (pv 4)) (pe_op op_mulG pe_int (pv 4))) (pe_dget hr.hu1 (pv 0) pe_str (fun _ _ => rfl))) pa_nil)) pe_int))
      (pss_cons (ps_dput hr.hu1 (pv 0) pe_str (pe_op op_modN (pe_callTy call_intV (by rfl) T.n_int PyProof.Rows.boot_int (pa_cons (pe_op op_addG (pe_op op_mulG (pv 4) pe_int) pe_int) pa_nil)) pe_int) rfl)
      (pss_one (ps_ret (pe_op op_modN (pe_callTy call_intV (by rfl) T.n_int PyProof.Rows.boot_int (pa_cons (pe_op op_fdivG (pv 4) pe_int) pa_nil)) (pv 1)))))))))), ?_⟩
  have h0 : ∀ (o2 o3 o4 : Option V), ([some (V.ref p), some (V.int m), o2, o3, o4] : L2.St)[0]? = some (some (.ref p)) := fun _ _ _ => rfl
  rw [hH]
  show tSeq _ _ _ ([some (V.ref p), some (V.int m), none, none, none] : L2.St) _
  refine pen_put (v := .int (cn + 1)) rfl (p_count _) (fun R q => pen_get rfl v_count (Or.inl ⟨cn, 1, rfl, rfl, q⟩)) ?_
  have hx : ∀ o', Ex Hf (upd H p o') := fun o' a u e => by
    rw [upd_ne (ne_of_none e hpf)]
    exact h1 a u e
  have pw : CPow 10 18 := ⟨by decide, by decide, by decide⟩
  dsimp only
  refine if_cut (fun σ' H' => ∃ (o2 : Option V) (a' d' n' f' : Int), σ' = [some (V.ref p), some (V.int m), o2, none, none] ∧ H' = upd H p (.dK (penL c a' d' n' f')) ∧ 0 ≤ a' ∧ 0 ≤ d' ∧ d'.natAbs < 2 ^ 1048577 ∧ 0 ≤ f' ∧ f' < 2 ^ 31) ?_ (fun N hN => ?_)
  · rintro _ _ ⟨o2, a', d', n', f', rfl, rfl, g1, g2, g3, g4, g5⟩
    refine pen_get rfl v_digits ⟨d', 0, rfl, rfl, _, rfl, ite2 (fun z => ?_) (fun z => ?_)⟩
    · refine pen_get rfl v_digits (Or.inl ⟨_, rfl, _, rfl, _, _, rfl, rfl, by omega, ?_⟩)
      dsimp only [gName]
      refine pen_put (v := .int (d'.fdiv m)) rfl (p_digits _) (fun R q => pen_get rfl v_digits ⟨_, rfl, _, _, rfl, rfl, ⟨by omega, hl⟩, q⟩) ?_
      refine ⟨_, rfl, ?_⟩
      exact fin _ _ _ _ _ g1 (fdiv_lo g2 hm) (Nat.lt_of_le_of_lt (fdiv_abs g2 hm) g3) g4 g5 (fmod_lo _ hm) (fmod_hi _ hm)
    · refine pen_get rfl v_fold ⟨f', _, rfl, rfl, mul_small (Or.inr ⟨by decide, by decide⟩), ?_⟩
      refine pen_get rfl v_count ⟨n', _, rfl, rfl, mul_small (Or.inr ⟨by decide, by decide⟩), ?_⟩
      refine Or.inl ⟨_, _, rfl, rfl, Or.inl ⟨_, _, rfl, rfl, Or.inl ⟨_, rfl, _, _, rfl, rfl, (show (2147483647 : Int) ≠ 0 by decide), ?_⟩⟩⟩
      dsimp only [gName]
      have w1 := fmod_lo (f' * 48271 + n' * 7919 + 13) (m := 2147483647) (by decide)
      have w2 := fmod_hi (f' * 48271 + n' * 7919 + 13) (m := 2147483647) (by decide)
      generalize (f' * 48271 + n' * 7919 + 13).fmod 2147483647 = e1 at w1 w2
      refine ⟨_, rfl, _, rfl, e1, e1, rfl, rfl, mul_small (Or.inl ⟨by omega, by omega⟩), ?_⟩
      refine ⟨_, rfl, _, e1, rfl, rfl, mul_small (Or.inl ⟨by decide, by decide⟩), Or.inl ⟨_, _, rfl, rfl, ?_⟩⟩
      refine pen_get rfl v_count (Or.inl ⟨_, _, rfl, rfl, Or.inl ⟨_, rfl, _, _, rfl, rfl, (show (2147483629 : Int) ≠ 0 by decide), ?_⟩⟩)
      dsimp only [gName]
      have w3 := fmod_lo (e1 * e1 + 31 * e1 + n') (m := 2147483629) (by decide)
      have w4 := fmod_hi (e1 * e1 + 31 * e1 + n') (m := 2147483629) (by decide)
      generalize (e1 * e1 + 31 * e1 + n').fmod 2147483629 = e2 at w3 w4
      refine pen_put (v := .int ((e2 * 16807 + 7).fmod 2147483647)) rfl (p_fold _) (fun R q => ⟨_, rfl, e2, _, rfl, rfl, mul_small (Or.inl ⟨by omega, by omega⟩), Or.inl ⟨_, _, rfl, rfl, Or.inl ⟨_, rfl, _, _, rfl, rfl, (show (2147483647 : Int) ≠ 0 by decide), q⟩⟩⟩) ?_
      refine ⟨_, rfl, e2, _, rfl, rfl, ⟨by decide, by decide⟩, Or.inl ⟨_, rfl, _, rfl, _, _, rfl, rfl, by omega, ?_⟩⟩
      exact fin _ _ _ _ _ g1 g2 g3 (fmod_lo _ (by decide)) (Int.lt_trans (fmod_hi _ (by decide)) (by decide)) (fmod_lo _ hm) (fmod_hi _ hm)
  · refine pen_get rfl v_digits (Or.inl ⟨rfl, _, rfl, ite2 (fun z => ?_) (fun z => ?_)⟩)
    · refine pen_get rfl v_at (pen_get rfl v_cells ⟨_, _, rfl, Or.inl ⟨_, (hx _).sl hs, rfl⟩, at', _, rfl, rfl, _, rfl, ite2 (fun y => ?_) (fun y => ?_)⟩)
      · have hlt : at' < ns.length := by
          have q := of_decide_eq_true y
          rw [List.length_map] at q
          exact q
        obtain ⟨cell, hmem, hat⟩ := atI_ints b1 hlt
        refine pen_get rfl v_cells (pen_get rfl v_at (Or.inl ⟨c, _, at', .int cell, rfl, rfl, (hx _).sl hs, hat, ?_⟩))
        dsimp only [gName]
        refine pen_put (v := .int (at' + 1)) rfl (p_at _) (fun R q => pen_get rfl v_at (Or.inl ⟨at', 1, rfl, rfl, q⟩)) ?_
        have hb := bits_lt (b6 cell hmem)
        refine ⟨_, rfl, _, _, rfl, rfl, pw, cell, _, rfl, rfl, _, rfl, ite2 (fun x => ?_) (fun x => ?_)⟩
        · refine pen_put (v := .int (cell - 10 ^ 18)) rfl (p_digits _) (fun R q => ⟨_, rfl, _, _, rfl, rfl, pw, cell, _, rfl, rfl, q⟩) ?_
          have x' : (10 : Int) ^ 18 ≤ cell := of_decide_eq_true x
          refine hN _ _ ⟨_, _, _, _, _, rfl, rfl, by omega, by omega, ?_, b4, b5⟩
          have e : (2 : Nat) ^ 1048577 = 2 ^ 1048576 * 2 := Nat.pow_succ ..
          rw [e]
          generalize (2 : Nat) ^ 1048576 = W at hb
          omega
        · refine pen_put (v := .int ((fo * 69069 + cell).fmod 2147483587)) rfl (p_fold _) (fun R q => pen_get rfl v_fold ⟨fo, _, rfl, rfl, mul_small (Or.inl ⟨by omega, by omega⟩), _, rfl, Or.inl ⟨_, _, rfl, rfl, Or.inl ⟨_, rfl, _, _, rfl, rfl, (show (2147483587 : Int) ≠ 0 by decide), q⟩⟩⟩) ?_
          exact hN _ _ ⟨_, _, _, _, _, rfl, rfl, by omega, b2, b3, fmod_lo _ (by decide), Int.lt_trans (fmod_hi _ (by decide)) (by decide)⟩
      · exact hN _ _ ⟨_, _, _, _, _, rfl, rfl, b1, b2, b3, b4, b5⟩
    · exact iteF (hN _ _ ⟨_, _, _, _, _, rfl, rfl, b1, b2, b3, b4, b5⟩)
theorem ok__law_pen (T : Tx K mg a) (hS : Sy mg base a) : FnG P w K mg base true 1 a.f__law_pen a.d__law_pen (["script"] : List Str) (fun _ => spPen K) := by
  refine fn_go T.F__law_pen sc__law_pen (fun pl vs H Q E h => ?_) (fun cdv A outer s H vs Q E pl hr h => ?_)
  · obtain ⟨sa, ns, rfl, _⟩ := h
    rfl
  obtain ⟨sa, ns, rfl, hs, hl, hb, k⟩ := h
  refine ⟨_, (pss_cons (ps_set (i := 1) sc__law_pen.nd rfl (Or.inl rfl) pe_int)
      (pss_cons (ps_for (passes_of rfl) rfl (pi_seq (pv 0)) (pg_name (i := 2) sc__law_pen.nd rfl (Or.inl rfl)) (pss_one (ps_set (i := 1) sc__law_pen.nd rfl (Or.inl rfl) (pe_op op_modN (pe_callTy call_intV (by rfl) T.n_int PyProof.Rows.boot_int (pa_cons (pe_op op_addG (pe_op op_mulG (pv 1) pe_int) (pv 2)) pa_nil)) pe_int))))
      (pss_one (ps_ret (pe_disp (pps_cons pe_str (pe_callTy call_listV (by rfl) T.n_list PyProof.Rows.boot_list (pa_cons (pv 0) pa_nil)) (pps_cons pe_str pe_int (pps_cons pe_str pe_int (pps_cons pe_str pe_int (pps_cons pe_str (pv 1) pps_nil))))) (by rfl) (by rfl) (fun z => by cases z) (by decide)))))), ?_⟩
  refine ⟨_, rfl, sa, rfl, Or.inl ⟨⟨_, hs⟩, ?_⟩⟩
  refine for_list (xs := ns.map V.int) (fun i σ' H' => ∃ (f : Int) (o : Option V), σ' = [some (.ref sa), some (.int f), o] ∧ H' = H ∧ 0 ≤ f ∧ f < 2 ^ 31) ⟨0, none, rfl, rfl, by decide, by decide⟩ (fun i σ' H' _ z => ?_) (fun i x σ' H' hx z => ?_) (fun σ' H' z => ?_)
  · obtain ⟨f, o, rfl, rfl, _⟩ := z
    exact hs
  · obtain ⟨f, o, rfl, rfl, g1, g2⟩ := z
    obtain ⟨n, rfl⟩ : ∃ n, x = V.int n := by
      rw [List.getElem?_map] at hx
      cases e : ns[i]? with
      | none => rw [e] at hx; cases hx
      | some n => rw [e] at hx; exact ⟨n, (Option.some.inj hx).symm⟩
    refine ⟨_, rfl, f, _, rfl, rfl, mul_small (Or.inl ⟨by omega, by omega⟩), _, rfl, Or.inl ⟨_, _, rfl, rfl, Or.inl ⟨_, rfl, _, _, rfl, rfl, (show (1000000007 : Int) ≠ 0 by decide), ?_⟩⟩⟩
    exact ⟨_, _, rfl, rfl, fmod_lo _ (by decide), Int.lt_trans (fmod_hi _ (by decide)) (by decide)⟩
  · obtain ⟨f, o, rfl, rfl, g1, g2⟩ := z
    intro p hp
    refine ⟨_, rfl, sa, _, rfl, Or.inl ((Ex.new hp).sl hs), fun l hlp => ?_⟩
    have nlp : l ≠ p := fun z => by rw [z, upd_same] at hlp; cases hlp
    have nl : H' l = none := by rw [← hlp, upd_ne nlp]
    refine ⟨_, rfl, ?_⟩
    refine ⟨by rw [upd_ne nlp.symm, upd_same], penL l 0 0 0 f, rfl, (show 5 ≤ 15 by decide), ?_⟩
    have nH : ∀ b, H' b ≠ none → b ≠ l ∧ b ≠ p := fun b hb => ⟨fun z => hb (by rw [z]; exact nl), fun z => hb (by rw [z]; exact hp)⟩
    refine k p (.dK (penL l 0 0 0 f)) (upd (fun _ => none) l (.lst (ns.map V.int))) _ (fun b u e => ?_) (fun b hb => ?_) (fun b u e => ?_) (by rw [upd_ne nlp.symm]) upd_same (penO_of (SqL.of upd_same) (Int.le_refl 0) (Int.le_refl 0) (Nat.two_pow_pos _) g1 (by omega) hb)
    · obtain ⟨n1, n2⟩ := nH b (by rw [e]; exact fun z => nomatch z)
      rw [upd_ne n2, upd_ne n1, upd_ne n2]
      exact e
    · rw [upd_ne (nH b hb).1]
    · by_cases y : b = l
      · subst y
        rw [upd_same] at e
        rw [upd_ne nlp, upd_same]
        exact e
      · rw [upd_ne y] at e
        cases e
end
end Law

set_option Elab.async false
set_option linter.all false
set_option maxRecDepth 100000
set_option maxHeartbeats 4000000
namespace Law
open PySem PySem.Spec PyProof.Rows L2 G
section
variable {P : Program} {w : World} {K : PySem.W.Frag} {mg : Str → Option Value} {base : Heap} {a : Ad}
def F_pick : DF := fun ss R _ => ∃ x l, ss = [.pen, .sh x] ∧ seqD x = some l ∧ l ≠ [] ∧ l.length ≤ 1000 ∧ ∀ d ∈ l, R d
theorem log_small {n : Nat} (h : n < 2 ^ 9000) (h0 : n ≠ 0) : n.log2 < 9000 := (Nat.log2_lt h0).mpr h
theorem draw_ok {m : Int} (h0 : 0 < m) (h : m ≤ 2 ^ 60) : m.natAbs.log2 < 9000 := by
  have e : m.natAbs < 2 ^ 61 := by
    have : (2 : Nat) ^ 61 = 2 ^ 60 * 2 := by decide
    omega
  exact Nat.lt_of_lt_of_le ((Nat.log2_lt (by omega)).mpr e) (by decide)
theorem ok__law_pick (T : Tx K mg a) (hS : Sy mg base a) : FnG P w K mg base true 2 a.f__law_pick a.d__law_pick (["pen", "some"] : List Str) (fun _ => spD K F_pick) := by
  refine fn_data T.F__law_pick sc__law_pick (fun ss R X z => by obtain ⟨x, l, h, _⟩ := z; rw [h] <;> rfl) fun cdv A outer s H E pl hr => ⟨_, (pss_one (ps_ret (pe_ix ix_seq (pv 1) (pe_go (ok__law_draw T hS) (hr.mono (by decide)) (pl := []) (fun _ h => nomatch h) (by rfl) T.g__law_draw T.F__law_draw.kp T.b__law_draw lets0 (pa_cons (pv 0) (pa_cons (pe_callB call_lenV (by rfl) T.n_len PySem.boot_len (pa_cons (pv 1) pa_nil)) pa_nil))) (fun _ _ => rfl)))), fun b ss R X h hX => ?_⟩
  obtain ⟨x, l, rfl, hs, hn, hl, hR⟩ := h
  have hp : 0 < l.length := List.length_pos_iff.mpr hn
  refine ds_ret (de_ix (de_var rfl (de_call EL.no (dc_pen rfl (dc_cons (de_len (de_var rfl ⟨l.length, lenD_seq hs, dc_nil ⟨l.length, rfl, by omega, draw_ok (by omega) (by omega), fun k h1 h2 => ?_⟩⟩)))))))
  obtain ⟨d, hd, e⟩ := atI_nat h1 h2
  exact ⟨k, d, rfl, by rw [atD_seq hs]; exact e, hR d hd⟩
theorem sm_int {n w : Nat} {k : Int} (h0 : 0 ≤ k) (h : k < 10 ^ 6) : Sm n w (.int k) := by
  obtain ⟨m, rfl⟩ := Int.eq_ofNat_of_zero_le h0
  have hm : m < 10 ^ 6 := by omega
  have hl : (PyData.int (m : Int)).shown.length ≤ 50 := by
    rw [PyData.shown_int]
    have e := int_text_length_le10 (a := (m : Int)) (k := 6) (by decide) (by omega)
    rw [PySem.ofString_length]
    omega
  refine { pl := by simp [D.pl], sh := ?_, dp := by simp [D.py, PyData.depth], lv := ?_, bk := by simp [D.py, PyData.bulk] }
  · simp only [D.py, PyData.showable, decide_eq_true_eq]
    by_cases z : m = 0
    · subst z; decide
    · have e : ((m : Int)).natAbs = m := by omega
      rw [e]
      exact Nat.lt_of_lt_of_le ((Nat.log2_lt z).mpr (show m < 2 ^ 20 by omega)) (by decide)
  · simp only [D.py, PyData.leavesShort, decide_eq_true_eq]
    exact hl
end
end Law

set_option Elab.async false
set_option linter.all false
set_option maxRecDepth 100000
set_option maxHeartbeats 4000000
namespace Law
open PySem PySem.Spec PyProof.Rows L2 G
def kC (a : Ad) : Nat → Addr
  | 0 => a.c_BadNumber
  | 1 => a.c_BadRow
  | 2 => a.c_BadTable
  | 3 => a.c_BadForm
  | 4 => a.c_BadBook
  | 5 => a.c_BadName
  | 6 => a.c_BadText
  | 7 => a.c_NoPlace
  | 8 => a.c_NoName
  | 9 => a.c_TakenName
  | 10 => a.c_Unlike
  | 11 => a.c_NotThere
  | 12 => a.c_TooMany
  | 13 => a.c_NotKept
  | 14 => a.c_NothingToUndo
  | 15 => a.c_NothingToRedo
  | _ => 0
def kF (one two three : D) : Nat → List (Str × D)
  | 0 => [("number", two), ("what", one)]
  | 1 => [("row", two), ("what", one)]
  | 2 => [("what", one)]
  | 3 => [("what", one)]
  | 4 => [("what", one)]
  | 5 => [("name", one)]
  | 6 => [("word", two), ("line", one)]
  | 7 => [("index", two), ("what", one)]
  | 8 => [("name", one)]
  | 9 => [("name", one)]
  | 10 => [("what", one)]
  | 11 => [("paper", one)]
  | 12 => [("limit", three), ("many", two), ("what", one)]
  | 13 => [("witness", two), ("promise", one)]
  | 14 => []
  | 15 => []
  | _ => []
def kT (one two three : D) : Nat → D
  | 0 => .tup [.str "number", one, .str (two).py.shown]
  | 1 => .tup [.str "row", one, .str (two).py.shown]
  | 2 => .tup [.str "table", one]
  | 3 => .tup [.str "form", one]
  | 4 => .tup [.str "book", one]
  | 5 => .tup [.str "badname", .str (one).py.shown]
  | 6 => .tup [.str "text", one, two]
  | 7 => .tup [.str "place", one, .str (two).py.shown]
  | 8 => .tup [.str "noname", .str (one).py.shown]
  | 9 => .tup [.str "taken", .str (one).py.shown]
  | 10 => .tup [.str "unlike", one]
  | 11 => .tup [.str "notthere", one]
  | 12 => .tup [.str "many", one, two, three]
  | 13 => .tup [.str "kept", one, two]
  | 14 => .tup [.str "undo"]
  | 15 => .tup [.str "redo"]
  | _ => .non
theorem nodup_lt : ∀ {l : List Addr}, l.Nodup → ∀ {i j : Nat} {x y : Addr}, l[i]? = some x → l[j]? = some y → i < j → x ≠ y
  | [], _, _, _, _, _, h, _, _ => by simp at h
  | c :: r, h, 0, j + 1, x, y, hi, hj, _ => fun e => by
    have a := List.nodup_cons.mp h
    simp at hi hj
    subst hi; subst e
    exact a.1 (List.mem_of_getElem? hj)
  | c :: r, h, i + 1, j + 1, x, y, hi, hj, hl => nodup_lt (List.nodup_cons.mp h).2 (i := i) (j := j) (by simpa using hi) (by simpa using hj) (by omega)
  | c :: r, h, i + 1, 0, x, y, _, _, hl => by omega
theorem nodup_ne {l : List Addr} (h : l.Nodup) {i j : Nat} {x y : Addr} (hi : l[i]? = some x) (hj : l[j]? = some y) (hij : i ≠ j) : x ≠ y := by
  by_cases z : i < j
  · exact nodup_lt h hi hj z
  · exact (nodup_lt h hj hi (by omega)).symm
section
variable {P : Program} {w : World} {K : PySem.W.Frag} {mg : Str → Option Value} {base : Heap} {a : Ad}
theorem ds_isE {b : Bs} {ρ : List Sl} {pn : PinP} {i : Nat} {a0 C C' G : Addr} {d0 : Option Addr} {l0 : List (Str × D)} {tb : TS} {nx bk ct : List Sl → Prop} {rt : D → Prop} (hi : ρ[i]? = some (.sh (.exc a0 d0 C l0))) (hp : pn a0 d0 C)
    (e : ErrK K C (.ref G :: veT)) (e' : ErrK K C' (.ref G :: veT)) (hg : G ≠ C') (h1 : C = C' → DS K b ρ tb nx rt bk ct) (h2 : C ≠ C' → nx ρ) :
    DS K b ρ (tIfS (tTest (tCB (rIsG K pn) (tCons (tVar i) (tCons (tC (.ref C')) tNil)))) tb tNext) nx rt bk ct := by
  refine ds_if (dt_test (de_isX (.own C') (de_var hi ⟨_, _, _, _, _, rfl, hp, e.kit e', _, rfl, ?_⟩)))
  by_cases z : C = C'
  · subst z
    rw [contains_self]
    exact iteT (h1 rfl)
  · rw [contains_other z hg]
    exact iteF (ds_next (h2 z))
def F_law_more_kinds (K : PySem.W.Frag) (a : Ad) (pl : Pins) : DF := fun ss R _ => ∃ (k : Nat) (a0 : Addr) (d0 : Option Addr) (one two three : D), k < 16 ∧ PnOk K pl a0 d0 (kC a k) ∧ ss = [.sh (.exc a0 d0 (kC a k) (kF one two three k))] ∧ ((k = 5 ∨ k = 8 ∨ k = 9) → okR one) ∧ ((k = 0 ∨ k = 1 ∨ k = 7) → okR two) ∧ R (.lst (if 8 ≤ k then [kT one two three k] else []))
theorem ok__law_more_kinds (T : Tx K mg a) (hS : Sy mg base a) : FnG P w K mg base false 1 a.f__law_more_kinds a.d__law_more_kinds (["e"] : List Str) (spP K (fun _ => True) (F_law_more_kinds K a)) := by
  refine fn_dataP T.F__law_more_kinds sc__law_more_kinds (fun pl ss R X z => by obtain ⟨_, _, _, _, _, _, _, _, h, _⟩ := z; rw [h] <;> rfl) fun cdv A outer s H E pl hr _ => ⟨_, (pss_cons (ps_set (i := 1) sc__law_more_kinds.nd rfl (Or.inl rfl) (pe_lst pa_nil))
      (pss_cons (ps_if (pt_val (pe_callB (call_isG (pn := (fun a d C => PnOk K pl a d C)) (fun _ _ _ z => z)) (by rfl) T.n_isinstance PyProof.Rows.boot_isinstance (pa_cons (pv 0) (pa_cons (pe_glob (v := .ref a.c_NoName) (by rfl) T.g_NoName rfl) pa_nil)))) (pss_one (ps_expr (pe_bm PySem.F.plainAttrs_list PySem.F.slot_list_append PySem.F.type_list_append mt_append (pv 1) (pa_cons (pe_tup (pa_cons pe_str (pa_cons (pe_callB (call_repr hS.sys (hr.gd) hr.hu) (by rfl) T.n_repr PyProof.Rows.boot_repr (pa_cons (pe_xe (pn := (fun a d C => PnOk K pl a d C)) (fun _ _ _ z => z) (pv 0)) pa_nil)) pa_nil))) pa_nil)))) pss_nil)
      (pss_cons (ps_if (pt_val (pe_callB (call_isG (pn := (fun a d C => PnOk K pl a d C)) (fun _ _ _ z => z)) (by rfl) T.n_isinstance PyProof.Rows.boot_isinstance (pa_cons (pv 0) (pa_cons (pe_glob (v := .ref a.c_TakenName) (by rfl) T.g_TakenName rfl) pa_nil)))) (pss_one (ps_expr (pe_bm PySem.F.plainAttrs_list PySem.F.slot_list_append PySem.F.type_list_append mt_append (pv 1) (pa_cons (pe_tup (pa_cons pe_str (pa_cons (pe_callB (call_repr hS.sys (hr.gd) hr.hu) (by rfl) T.n_repr PyProof.Rows.boot_repr (pa_cons (pe_xe (pn := (fun a d C => PnOk K pl a d C)) (fun _ _ _ z => z) (pv 0)) pa_nil)) pa_nil))) pa_nil)))) pss_nil)
      (pss_cons (ps_if (pt_val (pe_callB (call_isG (pn := (fun a d C => PnOk K pl a d C)) (fun _ _ _ z => z)) (by rfl) T.n_isinstance PyProof.Rows.boot_isinstance (pa_cons (pv 0) (pa_cons (pe_glob (v := .ref a.c_Unlike) (by rfl) T.g_Unlike rfl) pa_nil)))) (pss_one (ps_expr (pe_bm PySem.F.plainAttrs_list PySem.F.slot_list_append PySem.F.type_list_append mt_append (pv 1) (pa_cons (pe_tup (pa_cons pe_str (pa_cons (pe_xe (pn := (fun a d C => PnOk K pl a d C)) (fun _ _ _ z => z) (pv 0)) pa_nil))) pa_nil)))) pss_nil)
      (pss_cons (ps_if (pt_val (pe_callB (call_isG (pn := (fun a d C => PnOk K pl a d C)) (fun _ _ _ z => z)) (by rfl) T.n_isinstance PyProof.Rows.boot_isinstance (pa_cons (pv 0) (pa_cons (pe_glob (v := .ref a.c_NotThere) (by rfl) T.g_NotThere rfl) pa_nil)))) (pss_one (ps_expr (pe_bm PySem.F.plainAttrs_list PySem.F.slot_list_append PySem.F.type_list_append mt_append (pv 1) (pa_cons (pe_tup (pa_cons pe_str (pa_cons (pe_xe (pn := (fun a d C => PnOk K pl a d C)) (fun _ _ _ z => z) (pv 0)) pa_nil))) pa_nil)))) pss_nil)
      (pss_cons (ps_if (pt_val (pe_callB (call_isG (pn := (fun a d C => PnOk K pl a d C)) (fun _ _ _ z => z)) (by rfl) T.n_isinstance PyProof.Rows.boot_isinstance (pa_cons (pv 0) (pa_cons (pe_glob (v := .ref a.c_TooMany) (by rfl) T.g_TooMany rfl) pa_nil)))) (pss_one (ps_expr (pe_bm PySem.F.plainAttrs_list PySem.F.slot_list_append PySem.F.type_list_append mt_append (pv 1) (pa_cons (pe_tup (pa_cons pe_str (pa_cons (pe_xe (pn := (fun a d C => PnOk K pl a d C)) (fun _ _ _ z => z) (pv 0)) (pa_cons (pe_xe (pn := (fun a d C => PnOk K pl a d C)) (fun _ _ _ z => z) (pv 0)) (pa_cons (pe_xe (pn := (fun a d C => PnOk K pl a d C)) (fun _ _ _ z => z) (pv 0)) pa_nil))))) pa_nil)))) pss_nil)
      (pss_cons (ps_if (pt_val (pe_callB (call_isG (pn := (fun a d C => PnOk K pl a d C)) (fun _ _ _ z => z)) (by rfl) T.n_isinstance PyProof.Rows.boot_isinstance (pa_cons (pv 0) (pa_cons (pe_glob (v := .ref a.c_NotKept) (by rfl) T.g_NotKept rfl) pa_nil)))) (pss_one (ps_expr (pe_bm PySem.F.plainAttrs_list PySem.F.slot_list_append PySem.F.type_list_append mt_append (pv 1) (pa_cons (pe_tup (pa_cons pe_str (pa_cons (pe_xe (pn := (fun a d C => PnOk K pl a d C)) (fun _ _ _ z => z) (pv 0)) (pa_cons (pe_xe (pn := (fun a d C => PnOk K pl a d C)) (fun _ _ _ z => z) (pv 0)) pa_nil)))) pa_nil)))) pss_nil)
      (pss_cons (ps_if (pt_val (pe_callB (call_isG (pn := (fun a d C => PnOk K pl a d C)) (fun _ _ _ z => z)) (by rfl) T.n_isinstance PyProof.Rows.boot_isinstance (pa_cons (pv 0) (pa_cons (pe_glob (v := .ref a.c_NothingToUndo) (by rfl) T.g_NothingToUndo rfl) pa_nil)))) (pss_one (ps_expr (pe_bm PySem.F.plainAttrs_list PySem.F.slot_list_append PySem.F.type_list_append mt_append (pv 1) (pa_cons (pe_tup (pa_cons pe_str pa_nil)) pa_nil)))) pss_nil)
      (pss_cons (ps_if (pt_val (pe_callB (call_isG (pn := (fun a d C => PnOk K pl a d C)) (fun _ _ _ z => z)) (by rfl) T.n_isinstance PyProof.Rows.boot_isinstance (pa_cons (pv 0) (pa_cons (pe_glob (v := .ref a.c_NothingToRedo) (by rfl) T.g_NothingToRedo rfl) pa_nil)))) (pss_one (ps_expr (pe_bm PySem.F.plainAttrs_list PySem.F.slot_list_append PySem.F.type_list_append mt_append (pv 1) (pa_cons (pe_tup (pa_cons pe_str pa_nil)) pa_nil)))) pss_nil)
      (pss_one (ps_ret (pv 1)))))))))))), fun b ss R X h hX => ?_⟩
  obtain ⟨k, a0, d0, one, two, three, hk, hpn, rfl, h1, h2, hR⟩ := h
  refine ds_seq (ds_own (dn_lst (da_nil ⟨by decide, ?_⟩)))
  have hk' : k = 0 ∨ k = 1 ∨ k = 2 ∨ k = 3 ∨ k = 4 ∨ k = 5 ∨ k = 6 ∨ k = 7 ∨ k = 8 ∨ k = 9 ∨ k = 10 ∨ k = 11 ∨ k = 12 ∨ k = 13 ∨ k = 14 ∨ k = 15 := by omega
  rcases hk' with rfl | rfl | rfl | rfl | rfl | rfl | rfl | rfl | rfl | rfl | rfl | rfl | rfl | rfl | rfl | rfl
  · have hR : R (.lst []) := hR
    have ok2 := h2 (by decide)
    refine ds_seq (ds_isE (a0 := a0) (C := a.c_BadNumber) (d0 := d0) (l0 := kF one two three 0) rfl hpn T.e_BadNumber T.e_NoName (nodup_ne T.ne (i := 0) (j := 9) rfl rfl (by decide)) (fun z => (nodup_ne T.ne (i := 1) (j := 9) rfl rfl (by decide) z).elim) (fun _ => ?_))
    refine ds_seq (ds_isE (a0 := a0) (C := a.c_BadNumber) (d0 := d0) (l0 := kF one two three 0) rfl hpn T.e_BadNumber T.e_TakenName (nodup_ne T.ne (i := 0) (j := 10) rfl rfl (by decide)) (fun z => (nodup_ne T.ne (i := 1) (j := 10) rfl rfl (by decide) z).elim) (fun _ => ?_))
    refine ds_seq (ds_isE (a0 := a0) (C := a.c_BadNumber) (d0 := d0) (l0 := kF one two three 0) rfl hpn T.e_BadNumber T.e_Unlike (nodup_ne T.ne (i := 0) (j := 11) rfl rfl (by decide)) (fun z => (nodup_ne T.ne (i := 1) (j := 11) rfl rfl (by decide) z).elim) (fun _ => ?_))
    refine ds_seq (ds_isE (a0 := a0) (C := a.c_BadNumber) (d0 := d0) (l0 := kF one two three 0) rfl hpn T.e_BadNumber T.e_NotThere (nodup_ne T.ne (i := 0) (j := 12) rfl rfl (by decide)) (fun z => (nodup_ne T.ne (i := 1) (j := 12) rfl rfl (by decide) z).elim) (fun _ => ?_))
    refine ds_seq (ds_isE (a0 := a0) (C := a.c_BadNumber) (d0 := d0) (l0 := kF one two three 0) rfl hpn T.e_BadNumber T.e_TooMany (nodup_ne T.ne (i := 0) (j := 13) rfl rfl (by decide)) (fun z => (nodup_ne T.ne (i := 1) (j := 13) rfl rfl (by decide) z).elim) (fun _ => ?_))
    refine ds_seq (ds_isE (a0 := a0) (C := a.c_BadNumber) (d0 := d0) (l0 := kF one two three 0) rfl hpn T.e_BadNumber T.e_NotKept (nodup_ne T.ne (i := 0) (j := 14) rfl rfl (by decide)) (fun z => (nodup_ne T.ne (i := 1) (j := 14) rfl rfl (by decide) z).elim) (fun _ => ?_))
    refine ds_seq (ds_isE (a0 := a0) (C := a.c_BadNumber) (d0 := d0) (l0 := kF one two three 0) rfl hpn T.e_BadNumber T.e_NothingToUndo (nodup_ne T.ne (i := 0) (j := 15) rfl rfl (by decide)) (fun z => (nodup_ne T.ne (i := 1) (j := 15) rfl rfl (by decide) z).elim) (fun _ => ?_))
    refine ds_seq (ds_isE (a0 := a0) (C := a.c_BadNumber) (d0 := d0) (l0 := kF one two three 0) rfl hpn T.e_BadNumber T.e_NothingToRedo (nodup_ne T.ne (i := 0) (j := 16) rfl rfl (by decide)) (fun z => (nodup_ne T.ne (i := 1) (j := 16) rfl rfl (by decide) z).elim) (fun _ => ?_))
    exact ds_share (i := 1) rfl (ds_ret (de_var rfl hR))
  · have hR : R (.lst []) := hR
    have ok2 := h2 (by decide)
    refine ds_seq (ds_isE (a0 := a0) (C := a.c_BadRow) (d0 := d0) (l0 := kF one two three 1) rfl hpn T.e_BadRow T.e_NoName (nodup_ne T.ne (i := 0) (j := 9) rfl rfl (by decide)) (fun z => (nodup_ne T.ne (i := 2) (j := 9) rfl rfl (by decide) z).elim) (fun _ => ?_))
    refine ds_seq (ds_isE (a0 := a0) (C := a.c_BadRow) (d0 := d0) (l0 := kF one two three 1) rfl hpn T.e_BadRow T.e_TakenName (nodup_ne T.ne (i := 0) (j := 10) rfl rfl (by decide)) (fun z => (nodup_ne T.ne (i := 2) (j := 10) rfl rfl (by decide) z).elim) (fun _ => ?_))
    refine ds_seq (ds_isE (a0 := a0) (C := a.c_BadRow) (d0 := d0) (l0 := kF one two three 1) rfl hpn T.e_BadRow T.e_Unlike (nodup_ne T.ne (i := 0) (j := 11) rfl rfl (by decide)) (fun z => (nodup_ne T.ne (i := 2) (j := 11) rfl rfl (by decide) z).elim) (fun _ => ?_))
    refine ds_seq (ds_isE (a0 := a0) (C := a.c_BadRow) (d0 := d0) (l0 := kF one two three 1) rfl hpn T.e_BadRow T.e_NotThere (nodup_ne T.ne (i := 0) (j := 12) rfl rfl (by decide)) (fun z => (nodup_ne T.ne (i := 2) (j := 12) rfl rfl (by decide) z).elim) (fun _ => ?_))
    refine ds_seq (ds_isE (a0 := a0) (C := a.c_BadRow) (d0 := d0) (l0 := kF one two three 1) rfl hpn T.e_BadRow T.e_TooMany (nodup_ne T.ne (i := 0) (j := 13) rfl rfl (by decide)) (fun z => (nodup_ne T.ne (i := 2) (j := 13) rfl rfl (by decide) z).elim) (fun _ => ?_))
    refine ds_seq (ds_isE (a0 := a0) (C := a.c_BadRow) (d0 := d0) (l0 := kF one two three 1) rfl hpn T.e_BadRow T.e_NotKept (nodup_ne T.ne (i := 0) (j := 14) rfl rfl (by decide)) (fun z => (nodup_ne T.ne (i := 2) (j := 14) rfl rfl (by decide) z).elim) (fun _ => ?_))
    refine ds_seq (ds_isE (a0 := a0) (C := a.c_BadRow) (d0 := d0) (l0 := kF one two three 1) rfl hpn T.e_BadRow T.e_NothingToUndo (nodup_ne T.ne (i := 0) (j := 15) rfl rfl (by decide)) (fun z => (nodup_ne T.ne (i := 2) (j := 15) rfl rfl (by decide) z).elim) (fun _ => ?_))
    refine ds_seq (ds_isE (a0 := a0) (C := a.c_BadRow) (d0 := d0) (l0 := kF one two three 1) rfl hpn T.e_BadRow T.e_NothingToRedo (nodup_ne T.ne (i := 0) (j := 16) rfl rfl (by decide)) (fun z => (nodup_ne T.ne (i := 2) (j := 16) rfl rfl (by decide) z).elim) (fun _ => ?_))
    exact ds_share (i := 1) rfl (ds_ret (de_var rfl hR))
  · have hR : R (.lst []) := hR
    refine ds_seq (ds_isE (a0 := a0) (C := a.c_BadTable) (d0 := d0) (l0 := kF one two three 2) rfl hpn T.e_BadTable T.e_NoName (nodup_ne T.ne (i := 0) (j := 9) rfl rfl (by decide)) (fun z => (nodup_ne T.ne (i := 3) (j := 9) rfl rfl (by decide) z).elim) (fun _ => ?_))
    refine ds_seq (ds_isE (a0 := a0) (C := a.c_BadTable) (d0 := d0) (l0 := kF one two three 2) rfl hpn T.e_BadTable T.e_TakenName (nodup_ne T.ne (i := 0) (j := 10) rfl rfl (by decide)) (fun z => (nodup_ne T.ne (i := 3) (j := 10) rfl rfl (by decide) z).elim) (fun _ => ?_))
    refine ds_seq (ds_isE (a0 := a0) (C := a.c_BadTable) (d0 := d0) (l0 := kF one two three 2) rfl hpn T.e_BadTable T.e_Unlike (nodup_ne T.ne (i := 0) (j := 11) rfl rfl (by decide)) (fun z => (nodup_ne T.ne (i := 3) (j := 11) rfl rfl (by decide) z).elim) (fun _ => ?_))
    refine ds_seq (ds_isE (a0 := a0) (C := a.c_BadTable) (d0 := d0) (l0 := kF one two three 2) rfl hpn T.e_BadTable T.e_NotThere (nodup_ne T.ne (i := 0) (j := 12) rfl rfl (by decide)) (fun z => (nodup_ne T.ne (i := 3) (j := 12) rfl rfl (by decide) z).elim) (fun _ => ?_))
    refine ds_seq (ds_isE (a0 := a0) (C := a.c_BadTable) (d0 := d0) (l0 := kF one two three 2) rfl hpn T.e_BadTable T.e_TooMany (nodup_ne T.ne (i := 0) (j := 13) rfl rfl (by decide)) (fun z => (nodup_ne T.ne (i := 3) (j := 13) rfl rfl (by decide) z).elim) (fun _ => ?_))
    refine ds_seq (ds_isE (a0 := a0) (C := a.c_BadTable) (d0 := d0) (l0 := kF one two three 2) rfl hpn T.e_BadTable T.e_NotKept (nodup_ne T.ne (i := 0) (j := 14) rfl rfl (by decide)) (fun z => (nodup_ne T.ne (i := 3) (j := 14) rfl rfl (by decide) z).elim) (fun _ => ?_))
    refine ds_seq (ds_isE (a0 := a0) (C := a.c_BadTable) (d0 := d0) (l0 := kF one two three 2) rfl hpn T.e_BadTable T.e_NothingToUndo (nodup_ne T.ne (i := 0) (j := 15) rfl rfl (by decide)) (fun z => (nodup_ne T.ne (i := 3) (j := 15) rfl rfl (by decide) z).elim) (fun _ => ?_))
    refine ds_seq (ds_isE (a0 := a0) (C := a.c_BadTable) (d0 := d0) (l0 := kF one two three 2) rfl hpn T.e_BadTable T.e_NothingToRedo (nodup_ne T.ne (i := 0) (j := 16) rfl rfl (by decide)) (fun z => (nodup_ne T.ne (i := 3) (j := 16) rfl rfl (by decide) z).elim) (fun _ => ?_))
    exact ds_share (i := 1) rfl (ds_ret (de_var rfl hR))
  · have hR : R (.lst []) := hR
    refine ds_seq (ds_isE (a0 := a0) (C := a.c_BadForm) (d0 := d0) (l0 := kF one two three 3) rfl hpn T.e_BadForm T.e_NoName (nodup_ne T.ne (i := 0) (j := 9) rfl rfl (by decide)) (fun z => (nodup_ne T.ne (i := 4) (j := 9) rfl rfl (by decide) z).elim) (fun _ => ?_))
    refine ds_seq (ds_isE (a0 := a0) (C := a.c_BadForm) (d0 := d0) (l0 := kF one two three 3) rfl hpn T.e_BadForm T.e_TakenName (nodup_ne T.ne (i := 0) (j := 10) rfl rfl (by decide)) (fun z => (nodup_ne T.ne (i := 4) (j := 10) rfl rfl (by decide) z).elim) (fun _ => ?_))
    refine ds_seq (ds_isE (a0 := a0) (C := a.c_BadForm) (d0 := d0) (l0 := kF one two three 3) rfl hpn T.e_BadForm T.e_Unlike (nodup_ne T.ne (i := 0) (j := 11) rfl rfl (by decide)) (fun z => (nodup_ne T.ne (i := 4) (j := 11) rfl rfl (by decide) z).elim) (fun _ => ?_))
    refine ds_seq (ds_isE (a0 := a0) (C := a.c_BadForm) (d0 := d0) (l0 := kF one two three 3) rfl hpn T.e_BadForm T.e_NotThere (nodup_ne T.ne (i := 0) (j := 12) rfl rfl (by decide)) (fun z => (nodup_ne T.ne (i := 4) (j := 12) rfl rfl (by decide) z).elim) (fun _ => ?_))
    refine ds_seq (ds_isE (a0 := a0) (C := a.c_BadForm) (d0 := d0) (l0 := kF one two three 3) rfl hpn T.e_BadForm T.e_TooMany (nodup_ne T.ne (i := 0) (j := 13) rfl rfl (by decide)) (fun z => (nodup_ne T.ne (i := 4) (j := 13) rfl rfl (by decide) z).elim) (fun _ => ?_))
    refine ds_seq (ds_isE (a0 := a0) (C := a.c_BadForm) (d0 := d0) (l0 := kF one two three 3) rfl hpn T.e_BadForm T.e_NotKept (nodup_ne T.ne (i := 0) (j := 14) rfl rfl (by decide)) (fun z => (nodup_ne T.ne (i := 4) (j := 14) rfl rfl (by decide) z).elim) (fun _ => ?_))
    refine ds_seq (ds_isE (a0 := a0) (C := a.c_BadForm) (d0 := d0) (l0 := kF one two three 3) rfl hpn T.e_BadForm T.e_NothingToUndo (nodup_ne T.ne (i := 0) (j := 15) rfl rfl (by decide)) (fun z => (nodup_ne T.ne (i := 4) (j := 15) rfl rfl (by decide) z).elim) (fun _ => ?_))
    refine ds_seq (ds_isE (a0 := a0) (C := a.c_BadForm) (d0 := d0) (l0 := kF one two three 3) rfl hpn T.e_BadForm T.e_NothingToRedo (nodup_ne T.ne (i := 0) (j := 16) rfl rfl (by decide)) (fun z => (nodup_ne T.ne (i := 4) (j := 16) rfl rfl (by decide) z).elim) (fun _ => ?_))
    exact ds_share (i := 1) rfl (ds_ret (de_var rfl hR))
  · have hR : R (.lst []) := hR
    refine ds_seq (ds_isE (a0 := a0) (C := a.c_BadBook) (d0 := d0) (l0 := kF one two three 4) rfl hpn T.e_BadBook T.e_NoName (nodup_ne T.ne (i := 0) (j := 9) rfl rfl (by decide)) (fun z => (nodup_ne T.ne (i := 5) (j := 9) rfl rfl (by decide) z).elim) (fun _ => ?_))
    refine ds_seq (ds_isE (a0 := a0) (C := a.c_BadBook) (d0 := d0) (l0 := kF one two three 4) rfl hpn T.e_BadBook T.e_TakenName (nodup_ne T.ne (i := 0) (j := 10) rfl rfl (by decide)) (fun z => (nodup_ne T.ne (i := 5) (j := 10) rfl rfl (by decide) z).elim) (fun _ => ?_))
    refine ds_seq (ds_isE (a0 := a0) (C := a.c_BadBook) (d0 := d0) (l0 := kF one two three 4) rfl hpn T.e_BadBook T.e_Unlike (nodup_ne T.ne (i := 0) (j := 11) rfl rfl (by decide)) (fun z => (nodup_ne T.ne (i := 5) (j := 11) rfl rfl (by decide) z).elim) (fun _ => ?_))
    refine ds_seq (ds_isE (a0 := a0) (C := a.c_BadBook) (d0 := d0) (l0 := kF one two three 4) rfl hpn T.e_BadBook T.e_NotThere (nodup_ne T.ne (i := 0) (j := 12) rfl rfl (by decide)) (fun z => (nodup_ne T.ne (i := 5) (j := 12) rfl rfl (by decide) z).elim) (fun _ => ?_))
    refine ds_seq (ds_isE (a0 := a0) (C := a.c_BadBook) (d0 := d0) (l0 := kF one two three 4) rfl hpn T.e_BadBook T.e_TooMany (nodup_ne T.ne (i := 0) (j := 13) rfl rfl (by decide)) (fun z => (nodup_ne T.ne (i := 5) (j := 13) rfl rfl (by decide) z).elim) (fun _ => ?_))
    refine ds_seq (ds_isE (a0 := a0) (C := a.c_BadBook) (d0 := d0) (l0 := kF one two three 4) rfl hpn T.e_BadBook T.e_NotKept (nodup_ne T.ne (i := 0) (j := 14) rfl rfl (by decide)) (fun z => (nodup_ne T.ne (i := 5) (j := 14) rfl rfl (by decide) z).elim) (fun _ => ?_))
    refine ds_seq (ds_isE (a0 := a0) (C := a.c_BadBook) (d0 := d0) (l0 := kF one two three 4) rfl hpn T.e_BadBook T.e_NothingToUndo (nodup_ne T.ne (i := 0) (j := 15) rfl rfl (by decide)) (fun z => (nodup_ne T.ne (i := 5) (j := 15) rfl rfl (by decide) z).elim) (fun _ => ?_))
    refine ds_seq (ds_isE (a0 := a0) (C := a.c_BadBook) (d0 := d0) (l0 := kF one two three 4) rfl hpn T.e_BadBook T.e_NothingToRedo (nodup_ne T.ne (i := 0) (j := 16) rfl rfl (by decide)) (fun z => (nodup_ne T.ne (i := 5) (j := 16) rfl rfl (by decide) z).elim) (fun _ => ?_))
    exact ds_share (i := 1) rfl (ds_ret (de_var rfl hR))
  · have hR : R (.lst []) := hR
    have ok1 := h1 (by decide)
    refine ds_seq (ds_isE (a0 := a0) (C := a.c_BadName) (d0 := d0) (l0 := kF one two three 5) rfl hpn T.e_BadName T.e_NoName (nodup_ne T.ne (i := 0) (j := 9) rfl rfl (by decide)) (fun z => (nodup_ne T.ne (i := 6) (j := 9) rfl rfl (by decide) z).elim) (fun _ => ?_))
    refine ds_seq (ds_isE (a0 := a0) (C := a.c_BadName) (d0 := d0) (l0 := kF one two three 5) rfl hpn T.e_BadName T.e_TakenName (nodup_ne T.ne (i := 0) (j := 10) rfl rfl (by decide)) (fun z => (nodup_ne T.ne (i := 6) (j := 10) rfl rfl (by decide) z).elim) (fun _ => ?_))
    refine ds_seq (ds_isE (a0 := a0) (C := a.c_BadName) (d0 := d0) (l0 := kF one two three 5) rfl hpn T.e_BadName T.e_Unlike (nodup_ne T.ne (i := 0) (j := 11) rfl rfl (by decide)) (fun z => (nodup_ne T.ne (i := 6) (j := 11) rfl rfl (by decide) z).elim) (fun _ => ?_))
    refine ds_seq (ds_isE (a0 := a0) (C := a.c_BadName) (d0 := d0) (l0 := kF one two three 5) rfl hpn T.e_BadName T.e_NotThere (nodup_ne T.ne (i := 0) (j := 12) rfl rfl (by decide)) (fun z => (nodup_ne T.ne (i := 6) (j := 12) rfl rfl (by decide) z).elim) (fun _ => ?_))
    refine ds_seq (ds_isE (a0 := a0) (C := a.c_BadName) (d0 := d0) (l0 := kF one two three 5) rfl hpn T.e_BadName T.e_TooMany (nodup_ne T.ne (i := 0) (j := 13) rfl rfl (by decide)) (fun z => (nodup_ne T.ne (i := 6) (j := 13) rfl rfl (by decide) z).elim) (fun _ => ?_))
    refine ds_seq (ds_isE (a0 := a0) (C := a.c_BadName) (d0 := d0) (l0 := kF one two three 5) rfl hpn T.e_BadName T.e_NotKept (nodup_ne T.ne (i := 0) (j := 14) rfl rfl (by decide)) (fun z => (nodup_ne T.ne (i := 6) (j := 14) rfl rfl (by decide) z).elim) (fun _ => ?_))
    refine ds_seq (ds_isE (a0 := a0) (C := a.c_BadName) (d0 := d0) (l0 := kF one two three 5) rfl hpn T.e_BadName T.e_NothingToUndo (nodup_ne T.ne (i := 0) (j := 15) rfl rfl (by decide)) (fun z => (nodup_ne T.ne (i := 6) (j := 15) rfl rfl (by decide) z).elim) (fun _ => ?_))
    refine ds_seq (ds_isE (a0 := a0) (C := a.c_BadName) (d0 := d0) (l0 := kF one two three 5) rfl hpn T.e_BadName T.e_NothingToRedo (nodup_ne T.ne (i := 0) (j := 16) rfl rfl (by decide)) (fun z => (nodup_ne T.ne (i := 6) (j := 16) rfl rfl (by decide) z).elim) (fun _ => ?_))
    exact ds_share (i := 1) rfl (ds_ret (de_var rfl hR))
  · have hR : R (.lst []) := hR
    refine ds_seq (ds_isE (a0 := a0) (C := a.c_BadText) (d0 := d0) (l0 := kF one two three 6) rfl hpn T.e_BadText T.e_NoName (nodup_ne T.ne (i := 0) (j := 9) rfl rfl (by decide)) (fun z => (nodup_ne T.ne (i := 7) (j := 9) rfl rfl (by decide) z).elim) (fun _ => ?_))
    refine ds_seq (ds_isE (a0 := a0) (C := a.c_BadText) (d0 := d0) (l0 := kF one two three 6) rfl hpn T.e_BadText T.e_TakenName (nodup_ne T.ne (i := 0) (j := 10) rfl rfl (by decide)) (fun z => (nodup_ne T.ne (i := 7) (j := 10) rfl rfl (by decide) z).elim) (fun _ => ?_))
    refine ds_seq (ds_isE (a0 := a0) (C := a.c_BadText) (d0 := d0) (l0 := kF one two three 6) rfl hpn T.e_BadText T.e_Unlike (nodup_ne T.ne (i := 0) (j := 11) rfl rfl (by decide)) (fun z => (nodup_ne T.ne (i := 7) (j := 11) rfl rfl (by decide) z).elim) (fun _ => ?_))
    refine ds_seq (ds_isE (a0 := a0) (C := a.c_BadText) (d0 := d0) (l0 := kF one two three 6) rfl hpn T.e_BadText T.e_NotThere (nodup_ne T.ne (i := 0) (j := 12) rfl rfl (by decide)) (fun z => (nodup_ne T.ne (i := 7) (j := 12) rfl rfl (by decide) z).elim) (fun _ => ?_))
    refine ds_seq (ds_isE (a0 := a0) (C := a.c_BadText) (d0 := d0) (l0 := kF one two three 6) rfl hpn T.e_BadText T.e_TooMany (nodup_ne T.ne (i := 0) (j := 13) rfl rfl (by decide)) (fun z => (nodup_ne T.ne (i := 7) (j := 13) rfl rfl (by decide) z).elim) (fun _ => ?_))
    refine ds_seq (ds_isE (a0 := a0) (C := a.c_BadText) (d0 := d0) (l0 := kF one two three 6) rfl hpn T.e_BadText T.e_NotKept (nodup_ne T.ne (i := 0) (j := 14) rfl rfl (by decide)) (fun z => (nodup_ne T.ne (i := 7) (j := 14) rfl rfl (by decide) z).elim) (fun _ => ?_))
    refine ds_seq (ds_isE (a0 := a0) (C := a.c_BadText) (d0 := d0) (l0 := kF one two three 6) rfl hpn T.e_BadText T.e_NothingToUndo (nodup_ne T.ne (i := 0) (j := 15) rfl rfl (by decide)) (fun z => (nodup_ne T.ne (i := 7) (j := 15) rfl rfl (by decide) z).elim) (fun _ => ?_))
    refine ds_seq (ds_isE (a0 := a0) (C := a.c_BadText) (d0 := d0) (l0 := kF one two three 6) rfl hpn T.e_BadText T.e_NothingToRedo (nodup_ne T.ne (i := 0) (j := 16) rfl rfl (by decide)) (fun z => (nodup_ne T.ne (i := 7) (j := 16) rfl rfl (by decide) z).elim) (fun _ => ?_))
    exact ds_share (i := 1) rfl (ds_ret (de_var rfl hR))
  · have hR : R (.lst []) := hR
    have ok2 := h2 (by decide)
    refine ds_seq (ds_isE (a0 := a0) (C := a.c_NoPlace) (d0 := d0) (l0 := kF one two three 7) rfl hpn T.e_NoPlace T.e_NoName (nodup_ne T.ne (i := 0) (j := 9) rfl rfl (by decide)) (fun z => (nodup_ne T.ne (i := 8) (j := 9) rfl rfl (by decide) z).elim) (fun _ => ?_))
    refine ds_seq (ds_isE (a0 := a0) (C := a.c_NoPlace) (d0 := d0) (l0 := kF one two three 7) rfl hpn T.e_NoPlace T.e_TakenName (nodup_ne T.ne (i := 0) (j := 10) rfl rfl (by decide)) (fun z => (nodup_ne T.ne (i := 8) (j := 10) rfl rfl (by decide) z).elim) (fun _ => ?_))
    refine ds_seq (ds_isE (a0 := a0) (C := a.c_NoPlace) (d0 := d0) (l0 := kF one two three 7) rfl hpn T.e_NoPlace T.e_Unlike (nodup_ne T.ne (i := 0) (j := 11) rfl rfl (by decide)) (fun z => (nodup_ne T.ne (i := 8) (j := 11) rfl rfl (by decide) z).elim) (fun _ => ?_))
    refine ds_seq (ds_isE (a0 := a0) (C := a.c_NoPlace) (d0 := d0) (l0 := kF one two three 7) rfl hpn T.e_NoPlace T.e_NotThere (nodup_ne T.ne (i := 0) (j := 12) rfl rfl (by decide)) (fun z => (nodup_ne T.ne (i := 8) (j := 12) rfl rfl (by decide) z).elim) (fun _ => ?_))
    refine ds_seq (ds_isE (a0 := a0) (C := a.c_NoPlace) (d0 := d0) (l0 := kF one two three 7) rfl hpn T.e_NoPlace T.e_TooMany (nodup_ne T.ne (i := 0) (j := 13) rfl rfl (by decide)) (fun z => (nodup_ne T.ne (i := 8) (j := 13) rfl rfl (by decide) z).elim) (fun _ => ?_))
    refine ds_seq (ds_isE (a0 := a0) (C := a.c_NoPlace) (d0 := d0) (l0 := kF one two three 7) rfl hpn T.e_NoPlace T.e_NotKept (nodup_ne T.ne (i := 0) (j := 14) rfl rfl (by decide)) (fun z => (nodup_ne T.ne (i := 8) (j := 14) rfl rfl (by decide) z).elim) (fun _ => ?_))
    refine ds_seq (ds_isE (a0 := a0) (C := a.c_NoPlace) (d0 := d0) (l0 := kF one two three 7) rfl hpn T.e_NoPlace T.e_NothingToUndo (nodup_ne T.ne (i := 0) (j := 15) rfl rfl (by decide)) (fun z => (nodup_ne T.ne (i := 8) (j := 15) rfl rfl (by decide) z).elim) (fun _ => ?_))
    refine ds_seq (ds_isE (a0 := a0) (C := a.c_NoPlace) (d0 := d0) (l0 := kF one two three 7) rfl hpn T.e_NoPlace T.e_NothingToRedo (nodup_ne T.ne (i := 0) (j := 16) rfl rfl (by decide)) (fun z => (nodup_ne T.ne (i := 8) (j := 16) rfl rfl (by decide) z).elim) (fun _ => ?_))
    exact ds_share (i := 1) rfl (ds_ret (de_var rfl hR))
  · have hR : R (.lst [kT one two three 8]) := hR
    have ok1 := h1 (by decide)
    refine ds_seq (ds_isE (a0 := a0) (C := a.c_NoName) (d0 := d0) (l0 := kF one two three 8) rfl hpn T.e_NoName T.e_NoName (nodup_ne T.ne (i := 0) (j := 9) rfl rfl (by decide)) (fun _ => ds_app rfl (de_tup (da_cons (de_str (da_cons (de_repr (de_xe (de_var rfl ⟨a0, d0, a.c_NoName, kF one two three 8, one, rfl, hpn, T.no_NoName_name, rfl, ok1, da_nil ⟨by simp, (show 0 < 16000 by decide), ?_⟩⟩)))))))) (fun z => (z rfl).elim))
    refine ds_seq (ds_isE (a0 := a0) (C := a.c_NoName) (d0 := d0) (l0 := kF one two three 8) rfl hpn T.e_NoName T.e_TakenName (nodup_ne T.ne (i := 0) (j := 10) rfl rfl (by decide)) (fun z => (nodup_ne T.ne (i := 9) (j := 10) rfl rfl (by decide) z).elim) (fun _ => ?_))
    refine ds_seq (ds_isE (a0 := a0) (C := a.c_NoName) (d0 := d0) (l0 := kF one two three 8) rfl hpn T.e_NoName T.e_Unlike (nodup_ne T.ne (i := 0) (j := 11) rfl rfl (by decide)) (fun z => (nodup_ne T.ne (i := 9) (j := 11) rfl rfl (by decide) z).elim) (fun _ => ?_))
    refine ds_seq (ds_isE (a0 := a0) (C := a.c_NoName) (d0 := d0) (l0 := kF one two three 8) rfl hpn T.e_NoName T.e_NotThere (nodup_ne T.ne (i := 0) (j := 12) rfl rfl (by decide)) (fun z => (nodup_ne T.ne (i := 9) (j := 12) rfl rfl (by decide) z).elim) (fun _ => ?_))
    refine ds_seq (ds_isE (a0 := a0) (C := a.c_NoName) (d0 := d0) (l0 := kF one two three 8) rfl hpn T.e_NoName T.e_TooMany (nodup_ne T.ne (i := 0) (j := 13) rfl rfl (by decide)) (fun z => (nodup_ne T.ne (i := 9) (j := 13) rfl rfl (by decide) z).elim) (fun _ => ?_))
    refine ds_seq (ds_isE (a0 := a0) (C := a.c_NoName) (d0 := d0) (l0 := kF one two three 8) rfl hpn T.e_NoName T.e_NotKept (nodup_ne T.ne (i := 0) (j := 14) rfl rfl (by decide)) (fun z => (nodup_ne T.ne (i := 9) (j := 14) rfl rfl (by decide) z).elim) (fun _ => ?_))
    refine ds_seq (ds_isE (a0 := a0) (C := a.c_NoName) (d0 := d0) (l0 := kF one two three 8) rfl hpn T.e_NoName T.e_NothingToUndo (nodup_ne T.ne (i := 0) (j := 15) rfl rfl (by decide)) (fun z => (nodup_ne T.ne (i := 9) (j := 15) rfl rfl (by decide) z).elim) (fun _ => ?_))
    refine ds_seq (ds_isE (a0 := a0) (C := a.c_NoName) (d0 := d0) (l0 := kF one two three 8) rfl hpn T.e_NoName T.e_NothingToRedo (nodup_ne T.ne (i := 0) (j := 16) rfl rfl (by decide)) (fun z => (nodup_ne T.ne (i := 9) (j := 16) rfl rfl (by decide) z).elim) (fun _ => ?_))
    exact ds_share (i := 1) rfl (ds_ret (de_var rfl hR))
  · have hR : R (.lst [kT one two three 9]) := hR
    have ok1 := h1 (by decide)
    refine ds_seq (ds_isE (a0 := a0) (C := a.c_TakenName) (d0 := d0) (l0 := kF one two three 9) rfl hpn T.e_TakenName T.e_NoName (nodup_ne T.ne (i := 0) (j := 9) rfl rfl (by decide)) (fun z => (nodup_ne T.ne (i := 10) (j := 9) rfl rfl (by decide) z).elim) (fun _ => ?_))
    refine ds_seq (ds_isE (a0 := a0) (C := a.c_TakenName) (d0 := d0) (l0 := kF one two three 9) rfl hpn T.e_TakenName T.e_TakenName (nodup_ne T.ne (i := 0) (j := 10) rfl rfl (by decide)) (fun _ => ds_app rfl (de_tup (da_cons (de_str (da_cons (de_repr (de_xe (de_var rfl ⟨a0, d0, a.c_TakenName, kF one two three 9, one, rfl, hpn, T.no_TakenName_name, rfl, ok1, da_nil ⟨by simp, (show 0 < 16000 by decide), ?_⟩⟩)))))))) (fun z => (z rfl).elim))
    refine ds_seq (ds_isE (a0 := a0) (C := a.c_TakenName) (d0 := d0) (l0 := kF one two three 9) rfl hpn T.e_TakenName T.e_Unlike (nodup_ne T.ne (i := 0) (j := 11) rfl rfl (by decide)) (fun z => (nodup_ne T.ne (i := 10) (j := 11) rfl rfl (by decide) z).elim) (fun _ => ?_))
    refine ds_seq (ds_isE (a0 := a0) (C := a.c_TakenName) (d0 := d0) (l0 := kF one two three 9) rfl hpn T.e_TakenName T.e_NotThere (nodup_ne T.ne (i := 0) (j := 12) rfl rfl (by decide)) (fun z => (nodup_ne T.ne (i := 10) (j := 12) rfl rfl (by decide) z).elim) (fun _ => ?_))
    refine ds_seq (ds_isE (a0 := a0) (C := a.c_TakenName) (d0 := d0) (l0 := kF one two three 9) rfl hpn T.e_TakenName T.e_TooMany (nodup_ne T.ne (i := 0) (j := 13) rfl rfl (by decide)) (fun z => (nodup_ne T.ne (i := 10) (j := 13) rfl rfl (by decide) z).elim) (fun _ => ?_))
    refine ds_seq (ds_isE (a0 := a0) (C := a.c_TakenName) (d0 := d0) (l0 := kF one two three 9) rfl hpn T.e_TakenName T.e_NotKept (nodup_ne T.ne (i := 0) (j := 14) rfl rfl (by decide)) (fun z => (nodup_ne T.ne (i := 10) (j := 14) rfl rfl (by decide) z).elim) (fun _ => ?_))
    refine ds_seq (ds_isE (a0 := a0) (C := a.c_TakenName) (d0 := d0) (l0 := kF one two three 9) rfl hpn T.e_TakenName T.e_NothingToUndo (nodup_ne T.ne (i := 0) (j := 15) rfl rfl (by decide)) (fun z => (nodup_ne T.ne (i := 10) (j := 15) rfl rfl (by decide) z).elim) (fun _ => ?_))
    refine ds_seq (ds_isE (a0 := a0) (C := a.c_TakenName) (d0 := d0) (l0 := kF one two three 9) rfl hpn T.e_TakenName T.e_NothingToRedo (nodup_ne T.ne (i := 0) (j := 16) rfl rfl (by decide)) (fun z => (nodup_ne T.ne (i := 10) (j := 16) rfl rfl (by decide) z).elim) (fun _ => ?_))
    exact ds_share (i := 1) rfl (ds_ret (de_var rfl hR))
  · have hR : R (.lst [kT one two three 10]) := hR
    refine ds_seq (ds_isE (a0 := a0) (C := a.c_Unlike) (d0 := d0) (l0 := kF one two three 10) rfl hpn T.e_Unlike T.e_NoName (nodup_ne T.ne (i := 0) (j := 9) rfl rfl (by decide)) (fun z => (nodup_ne T.ne (i := 11) (j := 9) rfl rfl (by decide) z).elim) (fun _ => ?_))
    refine ds_seq (ds_isE (a0 := a0) (C := a.c_Unlike) (d0 := d0) (l0 := kF one two three 10) rfl hpn T.e_Unlike T.e_TakenName (nodup_ne T.ne (i := 0) (j := 10) rfl rfl (by decide)) (fun z => (nodup_ne T.ne (i := 11) (j := 10) rfl rfl (by decide) z).elim) (fun _ => ?_))
    refine ds_seq (ds_isE (a0 := a0) (C := a.c_Unlike) (d0 := d0) (l0 := kF one two three 10) rfl hpn T.e_Unlike T.e_Unlike (nodup_ne T.ne (i := 0) (j := 11) rfl rfl (by decide)) (fun _ => ds_app rfl (de_tup (da_cons (de_str (da_cons (de_xe (de_var rfl ⟨a0, d0, a.c_Unlike, kF one two three 10, one, rfl, hpn, T.no_Unlike_what, rfl, da_nil ⟨by simp, (show 0 < 16000 by decide), ?_⟩⟩))))))) (fun z => (z rfl).elim))
    refine ds_seq (ds_isE (a0 := a0) (C := a.c_Unlike) (d0 := d0) (l0 := kF one two three 10) rfl hpn T.e_Unlike T.e_NotThere (nodup_ne T.ne (i := 0) (j := 12) rfl rfl (by decide)) (fun z => (nodup_ne T.ne (i := 11) (j := 12) rfl rfl (by decide) z).elim) (fun _ => ?_))
    refine ds_seq (ds_isE (a0 := a0) (C := a.c_Unlike) (d0 := d0) (l0 := kF one two three 10) rfl hpn T.e_Unlike T.e_TooMany (nodup_ne T.ne (i := 0) (j := 13) rfl rfl (by decide)) (fun z => (nodup_ne T.ne (i := 11) (j := 13) rfl rfl (by decide) z).elim) (fun _ => ?_))
    refine ds_seq (ds_isE (a0 := a0) (C := a.c_Unlike) (d0 := d0) (l0 := kF one two three 10) rfl hpn T.e_Unlike T.e_NotKept (nodup_ne T.ne (i := 0) (j := 14) rfl rfl (by decide)) (fun z => (nodup_ne T.ne (i := 11) (j := 14) rfl rfl (by decide) z).elim) (fun _ => ?_))
    refine ds_seq (ds_isE (a0 := a0) (C := a.c_Unlike) (d0 := d0) (l0 := kF one two three 10) rfl hpn T.e_Unlike T.e_NothingToUndo (nodup_ne T.ne (i := 0) (j := 15) rfl rfl (by decide)) (fun z => (nodup_ne T.ne (i := 11) (j := 15) rfl rfl (by decide) z).elim) (fun _ => ?_))
    refine ds_seq (ds_isE (a0 := a0) (C := a.c_Unlike) (d0 := d0) (l0 := kF one two three 10) rfl hpn T.e_Unlike T.e_NothingToRedo (nodup_ne T.ne (i := 0) (j := 16) rfl rfl (by decide)) (fun z => (nodup_ne T.ne (i := 11) (j := 16) rfl rfl (by decide) z).elim) (fun _ => ?_))
    exact ds_share (i := 1) rfl (ds_ret (de_var rfl hR))
  · have hR : R (.lst [kT one two three 11]) := hR
    refine ds_seq (ds_isE (a0 := a0) (C := a.c_NotThere) (d0 := d0) (l0 := kF one two three 11) rfl hpn T.e_NotThere T.e_NoName (nodup_ne T.ne (i := 0) (j := 9) rfl rfl (by decide)) (fun z => (nodup_ne T.ne (i := 12) (j := 9) rfl rfl (by decide) z).elim) (fun _ => ?_))
    refine ds_seq (ds_isE (a0 := a0) (C := a.c_NotThere) (d0 := d0) (l0 := kF one two three 11) rfl hpn T.e_NotThere T.e_TakenName (nodup_ne T.ne (i := 0) (j := 10) rfl rfl (by decide)) (fun z => (nodup_ne T.ne (i := 12) (j := 10) rfl rfl (by decide) z).elim) (fun _ => ?_))
    refine ds_seq (ds_isE (a0 := a0) (C := a.c_NotThere) (d0 := d0) (l0 := kF one two three 11) rfl hpn T.e_NotThere T.e_Unlike (nodup_ne T.ne (i := 0) (j := 11) rfl rfl (by decide)) (fun z => (nodup_ne T.ne (i := 12) (j := 11) rfl rfl (by decide) z).elim) (fun _ => ?_))
    refine ds_seq (ds_isE (a0 := a0) (C := a.c_NotThere) (d0 := d0) (l0 := kF one two three 11) rfl hpn T.e_NotThere T.e_NotThere (nodup_ne T.ne (i := 0) (j := 12) rfl rfl (by decide)) (fun _ => ds_app rfl (de_tup (da_cons (de_str (da_cons (de_xe (de_var rfl ⟨a0, d0, a.c_NotThere, kF one two three 11, one, rfl, hpn, T.no_NotThere_paper, rfl, da_nil ⟨by simp, (show 0 < 16000 by decide), ?_⟩⟩))))))) (fun z => (z rfl).elim))
    refine ds_seq (ds_isE (a0 := a0) (C := a.c_NotThere) (d0 := d0) (l0 := kF one two three 11) rfl hpn T.e_NotThere T.e_TooMany (nodup_ne T.ne (i := 0) (j := 13) rfl rfl (by decide)) (fun z => (nodup_ne T.ne (i := 12) (j := 13) rfl rfl (by decide) z).elim) (fun _ => ?_))
    refine ds_seq (ds_isE (a0 := a0) (C := a.c_NotThere) (d0 := d0) (l0 := kF one two three 11) rfl hpn T.e_NotThere T.e_NotKept (nodup_ne T.ne (i := 0) (j := 14) rfl rfl (by decide)) (fun z => (nodup_ne T.ne (i := 12) (j := 14) rfl rfl (by decide) z).elim) (fun _ => ?_))
    refine ds_seq (ds_isE (a0 := a0) (C := a.c_NotThere) (d0 := d0) (l0 := kF one two three 11) rfl hpn T.e_NotThere T.e_NothingToUndo (nodup_ne T.ne (i := 0) (j := 15) rfl rfl (by decide)) (fun z => (nodup_ne T.ne (i := 12) (j := 15) rfl rfl (by decide) z).elim) (fun _ => ?_))
    refine ds_seq (ds_isE (a0 := a0) (C := a.c_NotThere) (d0 := d0) (l0 := kF one two three 11) rfl hpn T.e_NotThere T.e_NothingToRedo (nodup_ne T.ne (i := 0) (j := 16) rfl rfl (by decide)) (fun z => (nodup_ne T.ne (i := 12) (j := 16) rfl rfl (by decide) z).elim) (fun _ => ?_))
    exact ds_share (i := 1) rfl (ds_ret (de_var rfl hR))
  · have hR : R (.lst [kT one two three 12]) := hR
    refine ds_seq (ds_isE (a0 := a0) (C := a.c_TooMany) (d0 := d0) (l0 := kF one two three 12) rfl hpn T.e_TooMany T.e_NoName (nodup_ne T.ne (i := 0) (j := 9) rfl rfl (by decide)) (fun z => (nodup_ne T.ne (i := 13) (j := 9) rfl rfl (by decide) z).elim) (fun _ => ?_))
    refine ds_seq (ds_isE (a0 := a0) (C := a.c_TooMany) (d0 := d0) (l0 := kF one two three 12) rfl hpn T.e_TooMany T.e_TakenName (nodup_ne T.ne (i := 0) (j := 10) rfl rfl (by decide)) (fun z => (nodup_ne T.ne (i := 13) (j := 10) rfl rfl (by decide) z).elim) (fun _ => ?_))
    refine ds_seq (ds_isE (a0 := a0) (C := a.c_TooMany) (d0 := d0) (l0 := kF one two three 12) rfl hpn T.e_TooMany T.e_Unlike (nodup_ne T.ne (i := 0) (j := 11) rfl rfl (by decide)) (fun z => (nodup_ne T.ne (i := 13) (j := 11) rfl rfl (by decide) z).elim) (fun _ => ?_))
    refine ds_seq (ds_isE (a0 := a0) (C := a.c_TooMany) (d0 := d0) (l0 := kF one two three 12) rfl hpn T.e_TooMany T.e_NotThere (nodup_ne T.ne (i := 0) (j := 12) rfl rfl (by decide)) (fun z => (nodup_ne T.ne (i := 13) (j := 12) rfl rfl (by decide) z).elim) (fun _ => ?_))
    refine ds_seq (ds_isE (a0 := a0) (C := a.c_TooMany) (d0 := d0) (l0 := kF one two three 12) rfl hpn T.e_TooMany T.e_TooMany (nodup_ne T.ne (i := 0) (j := 13) rfl rfl (by decide)) (fun _ => ds_app rfl (de_tup (da_cons (de_str (da_cons (de_xe (de_var rfl ⟨a0, d0, a.c_TooMany, kF one two three 12, one, rfl, hpn, T.no_TooMany_what, rfl, da_cons (de_xe (de_var rfl ⟨a0, d0, a.c_TooMany, kF one two three 12, two, rfl, hpn, T.no_TooMany_many, rfl, da_cons (de_xe (de_var rfl ⟨a0, d0, a.c_TooMany, kF one two three 12, three, rfl, hpn, T.no_TooMany_limit, rfl, da_nil ⟨by simp, (show 0 < 16000 by decide), ?_⟩⟩))⟩))⟩))))))) (fun z => (z rfl).elim))
    refine ds_seq (ds_isE (a0 := a0) (C := a.c_TooMany) (d0 := d0) (l0 := kF one two three 12) rfl hpn T.e_TooMany T.e_NotKept (nodup_ne T.ne (i := 0) (j := 14) rfl rfl (by decide)) (fun z => (nodup_ne T.ne (i := 13) (j := 14) rfl rfl (by decide) z).elim) (fun _ => ?_))
    refine ds_seq (ds_isE (a0 := a0) (C := a.c_TooMany) (d0 := d0) (l0 := kF one two three 12) rfl hpn T.e_TooMany T.e_NothingToUndo (nodup_ne T.ne (i := 0) (j := 15) rfl rfl (by decide)) (fun z => (nodup_ne T.ne (i := 13) (j := 15) rfl rfl (by decide) z).elim) (fun _ => ?_))
    refine ds_seq (ds_isE (a0 := a0) (C := a.c_TooMany) (d0 := d0) (l0 := kF one two three 12) rfl hpn T.e_TooMany T.e_NothingToRedo (nodup_ne T.ne (i := 0) (j := 16) rfl rfl (by decide)) (fun z => (nodup_ne T.ne (i := 13) (j := 16) rfl rfl (by decide) z).elim) (fun _ => ?_))
    exact ds_share (i := 1) rfl (ds_ret (de_var rfl hR))
  · have hR : R (.lst [kT one two three 13]) := hR
    refine ds_seq (ds_isE (a0 := a0) (C := a.c_NotKept) (d0 := d0) (l0 := kF one two three 13) rfl hpn T.e_NotKept T.e_NoName (nodup_ne T.ne (i := 0) (j := 9) rfl rfl (by decide)) (fun z => (nodup_ne T.ne (i := 14) (j := 9) rfl rfl (by decide) z).elim) (fun _ => ?_))
    refine ds_seq (ds_isE (a0 := a0) (C := a.c_NotKept) (d0 := d0) (l0 := kF one two three 13) rfl hpn T.e_NotKept T.e_TakenName (nodup_ne T.ne (i := 0) (j := 10) rfl rfl (by decide)) (fun z => (nodup_ne T.ne (i := 14) (j := 10) rfl rfl (by decide) z).elim) (fun _ => ?_))
    refine ds_seq (ds_isE (a0 := a0) (C := a.c_NotKept) (d0 := d0) (l0 := kF one two three 13) rfl hpn T.e_NotKept T.e_Unlike (nodup_ne T.ne (i := 0) (j := 11) rfl rfl (by decide)) (fun z => (nodup_ne T.ne (i := 14) (j := 11) rfl rfl (by decide) z).elim) (fun _ => ?_))
    refine ds_seq (ds_isE (a0 := a0) (C := a.c_NotKept) (d0 := d0) (l0 := kF one two three 13) rfl hpn T.e_NotKept T.e_NotThere (nodup_ne T.ne (i := 0) (j := 12) rfl rfl (by decide)) (fun z => (nodup_ne T.ne (i := 14) (j := 12) rfl rfl (by decide) z).elim) (fun _ => ?_))
    refine ds_seq (ds_isE (a0 := a0) (C := a.c_NotKept) (d0 := d0) (l0 := kF one two three 13) rfl hpn T.e_NotKept T.e_TooMany (nodup_ne T.ne (i := 0) (j := 13) rfl rfl (by decide)) (fun z => (nodup_ne T.ne (i := 14) (j := 13) rfl rfl (by decide) z).elim) (fun _ => ?_))
    refine ds_seq (ds_isE (a0 := a0) (C := a.c_NotKept) (d0 := d0) (l0 := kF one two three 13) rfl hpn T.e_NotKept T.e_NotKept (nodup_ne T.ne (i := 0) (j := 14) rfl rfl (by decide)) (fun _ => ds_app rfl (de_tup (da_cons (de_str (da_cons (de_xe (de_var rfl ⟨a0, d0, a.c_NotKept, kF one two three 13, one, rfl, hpn, T.no_NotKept_promise, rfl, da_cons (de_xe (de_var rfl ⟨a0, d0, a.c_NotKept, kF one two three 13, two, rfl, hpn, T.no_NotKept_witness, rfl, da_nil ⟨by simp, (show 0 < 16000 by decide), ?_⟩⟩))⟩))))))) (fun z => (z rfl).elim))
    refine ds_seq (ds_isE (a0 := a0) (C := a.c_NotKept) (d0 := d0) (l0 := kF one two three 13) rfl hpn T.e_NotKept T.e_NothingToUndo (nodup_ne T.ne (i := 0) (j := 15) rfl rfl (by decide)) (fun z => (nodup_ne T.ne (i := 14) (j := 15) rfl rfl (by decide) z).elim) (fun _ => ?_))
    refine ds_seq (ds_isE (a0 := a0) (C := a.c_NotKept) (d0 := d0) (l0 := kF one two three 13) rfl hpn T.e_NotKept T.e_NothingToRedo (nodup_ne T.ne (i := 0) (j := 16) rfl rfl (by decide)) (fun z => (nodup_ne T.ne (i := 14) (j := 16) rfl rfl (by decide) z).elim) (fun _ => ?_))
    exact ds_share (i := 1) rfl (ds_ret (de_var rfl hR))
  · have hR : R (.lst [kT one two three 14]) := hR
    refine ds_seq (ds_isE (a0 := a0) (C := a.c_NothingToUndo) (d0 := d0) (l0 := kF one two three 14) rfl hpn T.e_NothingToUndo T.e_NoName (nodup_ne T.ne (i := 0) (j := 9) rfl rfl (by decide)) (fun z => (nodup_ne T.ne (i := 15) (j := 9) rfl rfl (by decide) z).elim) (fun _ => ?_))
    refine ds_seq (ds_isE (a0 := a0) (C := a.c_NothingToUndo) (d0 := d0) (l0 := kF one two three 14) rfl hpn T.e_NothingToUndo T.e_TakenName (nodup_ne T.ne (i := 0) (j := 10) rfl rfl (by decide)) (fun z => (nodup_ne T.ne (i := 15) (j := 10) rfl rfl (by decide) z).elim) (fun _ => ?_))
    refine ds_seq (ds_isE (a0 := a0) (C := a.c_NothingToUndo) (d0 := d0) (l0 := kF one two three 14) rfl hpn T.e_NothingToUndo T.e_Unlike (nodup_ne T.ne (i := 0) (j := 11) rfl rfl (by decide)) (fun z => (nodup_ne T.ne (i := 15) (j := 11) rfl rfl (by decide) z).elim) (fun _ => ?_))
    refine ds_seq (ds_isE (a0 := a0) (C := a.c_NothingToUndo) (d0 := d0) (l0 := kF one two three 14) rfl hpn T.e_NothingToUndo T.e_NotThere (nodup_ne T.ne (i := 0) (j := 12) rfl rfl (by decide)) (fun z => (nodup_ne T.ne (i := 15) (j := 12) rfl rfl (by decide) z).elim) (fun _ => ?_))
    refine ds_seq (ds_isE (a0 := a0) (C := a.c_NothingToUndo) (d0 := d0) (l0 := kF one two three 14) rfl hpn T.e_NothingToUndo T.e_TooMany (nodup_ne T.ne (i := 0) (j := 13) rfl rfl (by decide)) (fun z => (nodup_ne T.ne (i := 15) (j := 13) rfl rfl (by decide) z).elim) (fun _ => ?_))
    refine ds_seq (ds_isE (a0 := a0) (C := a.c_NothingToUndo) (d0 := d0) (l0 := kF one two three 14) rfl hpn T.e_NothingToUndo T.e_NotKept (nodup_ne T.ne (i := 0) (j := 14) rfl rfl (by decide)) (fun z => (nodup_ne T.ne (i := 15) (j := 14) rfl rfl (by decide) z).elim) (fun _ => ?_))
    refine ds_seq (ds_isE (a0 := a0) (C := a.c_NothingToUndo) (d0 := d0) (l0 := kF one two three 14) rfl hpn T.e_NothingToUndo T.e_NothingToUndo (nodup_ne T.ne (i := 0) (j := 15) rfl rfl (by decide)) (fun _ => ds_app rfl (de_tup (da_cons (de_str (da_nil ⟨by simp, (show 0 < 16000 by decide), ?_⟩))))) (fun z => (z rfl).elim))
    refine ds_seq (ds_isE (a0 := a0) (C := a.c_NothingToUndo) (d0 := d0) (l0 := kF one two three 14) rfl hpn T.e_NothingToUndo T.e_NothingToRedo (nodup_ne T.ne (i := 0) (j := 16) rfl rfl (by decide)) (fun z => (nodup_ne T.ne (i := 15) (j := 16) rfl rfl (by decide) z).elim) (fun _ => ?_))
    exact ds_share (i := 1) rfl (ds_ret (de_var rfl hR))
  · have hR : R (.lst [kT one two three 15]) := hR
    refine ds_seq (ds_isE (a0 := a0) (C := a.c_NothingToRedo) (d0 := d0) (l0 := kF one two three 15) rfl hpn T.e_NothingToRedo T.e_NoName (nodup_ne T.ne (i := 0) (j := 9) rfl rfl (by decide)) (fun z => (nodup_ne T.ne (i := 16) (j := 9) rfl rfl (by decide) z).elim) (fun _ => ?_))
    refine ds_seq (ds_isE (a0 := a0) (C := a.c_NothingToRedo) (d0 := d0) (l0 := kF one two three 15) rfl hpn T.e_NothingToRedo T.e_TakenName (nodup_ne T.ne (i := 0) (j := 10) rfl rfl (by decide)) (fun z => (nodup_ne T.ne (i := 16) (j := 10) rfl rfl (by decide) z).elim) (fun _ => ?_))
    refine ds_seq (ds_isE (a0 := a0) (C := a.c_NothingToRedo) (d0 := d0) (l0 := kF one two three 15) rfl hpn T.e_NothingToRedo T.e_Unlike (nodup_ne T.ne (i := 0) (j := 11) rfl rfl (by decide)) (fun z => (nodup_ne T.ne (i := 16) (j := 11) rfl rfl (by decide) z).elim) (fun _ => ?_))
    refine ds_seq (ds_isE (a0 := a0) (C := a.c_NothingToRedo) (d0 := d0) (l0 := kF one two three 15) rfl hpn T.e_NothingToRedo T.e_NotThere (nodup_ne T.ne (i := 0) (j := 12) rfl rfl (by decide)) (fun z => (nodup_ne T.ne (i := 16) (j := 12) rfl rfl (by decide) z).elim) (fun _ => ?_))
    refine ds_seq (ds_isE (a0 := a0) (C := a.c_NothingToRedo) (d0 := d0) (l0 := kF one two three 15) rfl hpn T.e_NothingToRedo T.e_TooMany (nodup_ne T.ne (i := 0) (j := 13) rfl rfl (by decide)) (fun z => (nodup_ne T.ne (i := 16) (j := 13) rfl rfl (by decide) z).elim) (fun _ => ?_))
    refine ds_seq (ds_isE (a0 := a0) (C := a.c_NothingToRedo) (d0 := d0) (l0 := kF one two three 15) rfl hpn T.e_NothingToRedo T.e_NotKept (nodup_ne T.ne (i := 0) (j := 14) rfl rfl (by decide)) (fun z => (nodup_ne T.ne (i := 16) (j := 14) rfl rfl (by decide) z).elim) (fun _ => ?_))
    refine ds_seq (ds_isE (a0 := a0) (C := a.c_NothingToRedo) (d0 := d0) (l0 := kF one two three 15) rfl hpn T.e_NothingToRedo T.e_NothingToUndo (nodup_ne T.ne (i := 0) (j := 15) rfl rfl (by decide)) (fun z => (nodup_ne T.ne (i := 16) (j := 15) rfl rfl (by decide) z).elim) (fun _ => ?_))
    refine ds_seq (ds_isE (a0 := a0) (C := a.c_NothingToRedo) (d0 := d0) (l0 := kF one two three 15) rfl hpn T.e_NothingToRedo T.e_NothingToRedo (nodup_ne T.ne (i := 0) (j := 16) rfl rfl (by decide)) (fun _ => ds_app rfl (de_tup (da_cons (de_str (da_nil ⟨by simp, (show 0 < 16000 by decide), ?_⟩))))) (fun z => (z rfl).elim))
    exact ds_share (i := 1) rfl (ds_ret (de_var rfl hR))
def F_law_kinds (K : PySem.W.Frag) (a : Ad) (pl : Pins) : DF := fun ss R _ => ∃ (k : Nat) (a0 : Addr) (d0 : Option Addr) (one two three : D), k < 16 ∧ PnOk K pl a0 d0 (kC a k) ∧ ss = [.sh (.exc a0 d0 (kC a k) (kF one two three k))] ∧ ((k = 5 ∨ k = 8 ∨ k = 9) → okR one) ∧ ((k = 0 ∨ k = 1 ∨ k = 7) → okR two) ∧ R (.lst ([kT one two three k]))
theorem ok__law_kinds (T : Tx K mg a) (hS : Sy mg base a) : FnG P w K mg base false 2 a.f__law_kinds a.d__law_kinds (["e"] : List Str) (spP K (fun _ => True) (F_law_kinds K a)) := by
  refine fn_dataP T.F__law_kinds sc__law_kinds (fun pl ss R X z => by obtain ⟨_, _, _, _, _, _, _, _, h, _⟩ := z; rw [h] <;> rfl) fun cdv A outer s H E pl hr _ => ⟨_, (pss_cons (ps_set (i := 1) sc__law_kinds.nd rfl (Or.inl rfl) (pe_lst pa_nil))
      (pss_cons (ps_if (pt_val (pe_callB (call_isG (pn := (fun a d C => PnOk K pl a d C)) (fun _ _ _ z => z)) (by rfl) T.n_isinstance PyProof.Rows.boot_isinstance (pa_cons (pv 0) (pa_cons (pe_glob (v := .ref a.c_BadNumber) (by rfl) T.g_BadNumber rfl) pa_nil)))) (pss_one (ps_expr (pe_bm PySem.F.plainAttrs_list PySem.F.slot_list_append PySem.F.type_list_append mt_append (pv 1) (pa_cons (pe_tup (pa_cons pe_str (pa_cons (pe_xe (pn := (fun a d C => PnOk K pl a d C)) (fun _ _ _ z => z) (pv 0)) (pa_cons (pe_callB (call_repr hS.sys (hr.gd) hr.hu) (by rfl) T.n_repr PyProof.Rows.boot_repr (pa_cons (pe_xe (pn := (fun a d C => PnOk K pl a d C)) (fun _ _ _ z => z) (pv 0)) pa_nil)) pa_nil)))) pa_nil)))) pss_nil)
      (pss_cons (ps_if (pt_val (pe_callB (call_isG (pn := (fun a d C => PnOk K pl a d C)) (fun _ _ _ z => z)) (by rfl) T.n_isinstance PyProof.Rows.boot_isinstance (pa_cons (pv 0) (pa_cons (pe_glob (v := .ref a.c_BadRow) (by rfl) T.g_BadRow rfl) pa_nil)))) (pss_one (ps_expr (pe_bm PySem.F.plainAttrs_list PySem.F.slot_list_append PySem.F.type_list_append mt_append (pv 1) (pa_cons (pe_tup (pa_cons pe_str (pa_cons (pe_xe (pn := (fun a d C => PnOk K pl a d C)) (fun _ _ _ z => z) (pv 0)) (pa_cons (pe_callB (call_repr hS.sys (hr.gd) hr.hu) (by rfl) T.n_repr PyProof.Rows.boot_repr (pa_cons (pe_xe (pn := (fun a d C => PnOk K pl a d C)) (fun _ _ _ z => z) (pv 0)) pa_nil)) pa_nil)))) pa_nil)))) pss_nil)
      (pss_cons (ps_if (pt_val (pe_callB (call_isG (pn := (fun a d C => PnOk K pl a d C)) (fun _ _ _ z => z)) (by rfl) T.n_isinstance PyProof.Rows.boot_isinstance (pa_cons (pv 0) (pa_cons (pe_glob (v := .ref a.c_BadTable) (by rfl) T.g_BadTable rfl) pa_nil)))) (pss_one (ps_expr (pe_bm PySem.F.plainAttrs_list PySem.F.slot_list_append PySem.F.type_list_append mt_append (pv 1) (pa_cons (pe_tup (pa_cons pe_str (pa_cons (pe_xe (pn := (fun a d C => PnOk K pl a d C)) (fun _ _ _ z => z) (pv 0)) pa_nil))) pa_nil)))) pss_nil)
      (pss_cons (ps_if (pt_val (pe_callB (call_isG (pn := (fun a d C => PnOk K pl a d C)) (fun _ _ _ z => z)) (by rfl) T.n_isinstance PyProof.Rows.boot_isinstance (pa_cons (pv 0) (pa_cons (pe_glob (v := .ref a.c_BadForm) (by rfl) T.g_BadForm rfl) pa_nil)))) (pss_one (ps_expr (pe_bm PySem.F.plainAttrs_list PySem.F.slot_list_append PySem.F.type_list_append mt_append (pv 1) (pa_cons (pe_tup (pa_cons pe_str (pa_cons (pe_xe (pn := (fun a d C => PnOk K pl a d C)) (fun _ _ _ z => z) (pv 0)) pa_nil))) pa_nil)))) pss_nil)
      (pss_cons (ps_if (pt_val (pe_callB (call_isG (pn := (fun a d C => PnOk K pl a d C)) (fun _ _ _ z => z)) (by rfl) T.n_isinstance PyProof.Rows.boot_isinstance (pa_cons (pv 0) (pa_cons (pe_glob (v := .ref a.c_BadBook) (by rfl) T.g_BadBook rfl) pa_nil)))) (pss_one (ps_expr (pe_bm PySem.F.plainAttrs_list PySem.F.slot_list_append PySem.F.type_list_append mt_append (pv 1) (pa_cons (pe_tup (pa_cons pe_str (pa_cons (pe_xe (pn := (fun a d C => PnOk K pl a d C)) (fun _ _ _ z => z) (pv 0)) pa_nil))) pa_nil)))) pss_nil)
      (pss_cons (ps_if (pt_val (pe_callB (call_isG (pn := (fun a d C => PnOk K pl a d C)) (fun _ _ _ z => z)) (by rfl) T.n_isinstance PyProof.Rows.boot_isinstance (pa_cons (pv 0) (pa_cons (pe_glob (v := .ref a.c_BadName) (by rfl) T.g_BadName rfl) pa_nil)))) (pss_one (ps_expr (pe_bm PySem.F.plainAttrs_list PySem.F.slot_list_append PySem.F.type_list_append mt_append (pv 1) (pa_cons (pe_tup (pa_cons pe_str (pa_cons (pe_callB (call_repr hS.sys (hr.gd) hr.hu) (by rfl) T.n_repr PyProof.Rows.boot_repr (pa_cons (pe_xe (pn := (fun a d C => PnOk K pl a d C)) (fun _ _ _ z => z) (pv 0)) pa_nil)) pa_nil))) pa_nil)))) pss_nil)
      (pss_cons (ps_if (pt_val (pe_callB (call_isG (pn := (fun a d C => PnOk K pl a d C)) (fun _ _ _ z => z)) (by rfl) T.n_isinstance PyProof.Rows.boot_isinstance (pa_cons (pv 0) (pa_cons (pe_glob (v := .ref a.c_BadText) (by rfl) T.g_BadText rfl) pa_nil)))) (pss_one (ps_expr (pe_bm PySem.F.plainAttrs_list PySem.F.slot_list_append PySem.F.type_list_append mt_append (pv 1) (pa_cons (pe_tup (pa_cons pe_str (pa_cons (pe_xe (pn := (fun a d C => PnOk K pl a d C)) (fun _ _ _ z => z) (pv 0)) (pa_cons (pe_xe (pn := (fun a d C => PnOk K pl a d C)) (fun _ _ _ z => z) (pv 0)) pa_nil)))) pa_nil)))) pss_nil)
      (pss_cons (ps_if (pt_val (pe_callB (call_isG (pn := (fun a d C => PnOk K pl a d C)) (fun _ _ _ z => z)) (by rfl) T.n_isinstance PyProof.Rows.boot_isinstance (pa_cons (pv 0) (pa_cons (pe_glob (v := .ref a.c_NoPlace) (by rfl) T.g_NoPlace rfl) pa_nil)))) (pss_one (ps_expr (pe_bm PySem.F.plainAttrs_list PySem.F.slot_list_append PySem.F.type_list_append mt_append (pv 1) (pa_cons (pe_tup (pa_cons pe_str (pa_cons (pe_xe (pn := (fun a d C => PnOk K pl a d C)) (fun _ _ _ z => z) (pv 0)) (pa_cons (pe_callB (call_repr hS.sys (hr.gd) hr.hu) (by rfl) T.n_repr PyProof.Rows.boot_repr (pa_cons (pe_xe (pn := (fun a d C => PnOk K pl a d C)) (fun _ _ _ z => z) (pv 0)) pa_nil)) pa_nil)))) pa_nil)))) pss_nil)
      (pss_one (ps_ret (pe_op op_addG (pv 1) (pe_go (ok__law_more_kinds T hS) (hr.mono (by decide)) (fun _ h => h) (by rfl) T.g__law_more_kinds T.F__law_more_kinds.kp T.b__law_more_kinds lets0 (pa_cons (pv 0) pa_nil)))))))))))))), fun b ss R X h hX => ?_⟩
  obtain ⟨k, a0, d0, one, two, three, hk, hpn, rfl, h1, h2, hR⟩ := h
  refine ds_seq (ds_own (dn_lst (da_nil ⟨by decide, ?_⟩)))
  have hk' : k = 0 ∨ k = 1 ∨ k = 2 ∨ k = 3 ∨ k = 4 ∨ k = 5 ∨ k = 6 ∨ k = 7 ∨ k = 8 ∨ k = 9 ∨ k = 10 ∨ k = 11 ∨ k = 12 ∨ k = 13 ∨ k = 14 ∨ k = 15 := by omega
  rcases hk' with rfl | rfl | rfl | rfl | rfl | rfl | rfl | rfl | rfl | rfl | rfl | rfl | rfl | rfl | rfl | rfl
  · have hR : R (.lst [kT one two three 0]) := hR
    have ok2 := h2 (by decide)
    refine ds_seq (ds_isE (a0 := a0) (C := a.c_BadNumber) (d0 := d0) (l0 := kF one two three 0) rfl hpn T.e_BadNumber T.e_BadNumber (nodup_ne T.ne (i := 0) (j := 1) rfl rfl (by decide)) (fun _ => ds_app rfl (de_tup (da_cons (de_str (da_cons (de_xe (de_var rfl ⟨a0, d0, a.c_BadNumber, kF one two three 0, one, rfl, hpn, T.no_BadNumber_what, rfl, da_cons (de_repr (de_xe (de_var rfl ⟨a0, d0, a.c_BadNumber, kF one two three 0, two, rfl, hpn, T.no_BadNumber_number, rfl, ok2, da_nil ⟨by simp, (show 0 < 16000 by decide), ?_⟩⟩)))⟩))))))) (fun z => (z rfl).elim))
    refine ds_seq (ds_isE (a0 := a0) (C := a.c_BadNumber) (d0 := d0) (l0 := kF one two three 0) rfl hpn T.e_BadNumber T.e_BadRow (nodup_ne T.ne (i := 0) (j := 2) rfl rfl (by decide)) (fun z => (nodup_ne T.ne (i := 1) (j := 2) rfl rfl (by decide) z).elim) (fun _ => ?_))
    refine ds_seq (ds_isE (a0 := a0) (C := a.c_BadNumber) (d0 := d0) (l0 := kF one two three 0) rfl hpn T.e_BadNumber T.e_BadTable (nodup_ne T.ne (i := 0) (j := 3) rfl rfl (by decide)) (fun z => (nodup_ne T.ne (i := 1) (j := 3) rfl rfl (by decide) z).elim) (fun _ => ?_))
    refine ds_seq (ds_isE (a0 := a0) (C := a.c_BadNumber) (d0 := d0) (l0 := kF one two three 0) rfl hpn T.e_BadNumber T.e_BadForm (nodup_ne T.ne (i := 0) (j := 4) rfl rfl (by decide)) (fun z => (nodup_ne T.ne (i := 1) (j := 4) rfl rfl (by decide) z).elim) (fun _ => ?_))
    refine ds_seq (ds_isE (a0 := a0) (C := a.c_BadNumber) (d0 := d0) (l0 := kF one two three 0) rfl hpn T.e_BadNumber T.e_BadBook (nodup_ne T.ne (i := 0) (j := 5) rfl rfl (by decide)) (fun z => (nodup_ne T.ne (i := 1) (j := 5) rfl rfl (by decide) z).elim) (fun _ => ?_))
    refine ds_seq (ds_isE (a0 := a0) (C := a.c_BadNumber) (d0 := d0) (l0 := kF one two three 0) rfl hpn T.e_BadNumber T.e_BadName (nodup_ne T.ne (i := 0) (j := 6) rfl rfl (by decide)) (fun z => (nodup_ne T.ne (i := 1) (j := 6) rfl rfl (by decide) z).elim) (fun _ => ?_))
    refine ds_seq (ds_isE (a0 := a0) (C := a.c_BadNumber) (d0 := d0) (l0 := kF one two three 0) rfl hpn T.e_BadNumber T.e_BadText (nodup_ne T.ne (i := 0) (j := 7) rfl rfl (by decide)) (fun z => (nodup_ne T.ne (i := 1) (j := 7) rfl rfl (by decide) z).elim) (fun _ => ?_))
    refine ds_seq (ds_isE (a0 := a0) (C := a.c_BadNumber) (d0 := d0) (l0 := kF one two three 0) rfl hpn T.e_BadNumber T.e_NoPlace (nodup_ne T.ne (i := 0) (j := 8) rfl rfl (by decide)) (fun z => (nodup_ne T.ne (i := 1) (j := 8) rfl rfl (by decide) z).elim) (fun _ => ?_))
    exact ds_ret (de_new (dn_addL_own rfl (de_callP EL.no trivial (dc_cons (de_var rfl (dc_nil ⟨0, a0, d0, one, two, three, by decide, hpn, rfl, h1, h2, _, rfl, (show 1 ≤ 16000 by decide), hR⟩))))))
  · have hR : R (.lst [kT one two three 1]) := hR
    have ok2 := h2 (by decide)
    refine ds_seq (ds_isE (a0 := a0) (C := a.c_BadRow) (d0 := d0) (l0 := kF one two three 1) rfl hpn T.e_BadRow T.e_BadNumber (nodup_ne T.ne (i := 0) (j := 1) rfl rfl (by decide)) (fun z => (nodup_ne T.ne (i := 2) (j := 1) rfl rfl (by decide) z).elim) (fun _ => ?_))
    refine ds_seq (ds_isE (a0 := a0) (C := a.c_BadRow) (d0 := d0) (l0 := kF one two three 1) rfl hpn T.e_BadRow T.e_BadRow (nodup_ne T.ne (i := 0) (j := 2) rfl rfl (by decide)) (fun _ => ds_app rfl (de_tup (da_cons (de_str (da_cons (de_xe (de_var rfl ⟨a0, d0, a.c_BadRow, kF one two three 1, one, rfl, hpn, T.no_BadRow_what, rfl, da_cons (de_repr (de_xe (de_var rfl ⟨a0, d0, a.c_BadRow, kF one two three 1, two, rfl, hpn, T.no_BadRow_row, rfl, ok2, da_nil ⟨by simp, (show 0 < 16000 by decide), ?_⟩⟩)))⟩))))))) (fun z => (z rfl).elim))
    refine ds_seq (ds_isE (a0 := a0) (C := a.c_BadRow) (d0 := d0) (l0 := kF one two three 1) rfl hpn T.e_BadRow T.e_BadTable (nodup_ne T.ne (i := 0) (j := 3) rfl rfl (by decide)) (fun z => (nodup_ne T.ne (i := 2) (j := 3) rfl rfl (by decide) z).elim) (fun _ => ?_))
    refine ds_seq (ds_isE (a0 := a0) (C := a.c_BadRow) (d0 := d0) (l0 := kF one two three 1) rfl hpn T.e_BadRow T.e_BadForm (nodup_ne T.ne (i := 0) (j := 4) rfl rfl (by decide)) (fun z => (nodup_ne T.ne (i := 2) (j := 4) rfl rfl (by decide) z).elim) (fun _ => ?_))
    refine ds_seq (ds_isE (a0 := a0) (C := a.c_BadRow) (d0 := d0) (l0 := kF one two three 1) rfl hpn T.e_BadRow T.e_BadBook (nodup_ne T.ne (i := 0) (j := 5) rfl rfl (by decide)) (fun z => (nodup_ne T.ne (i := 2) (j := 5) rfl rfl (by decide) z).elim) (fun _ => ?_))
    refine ds_seq (ds_isE (a0 := a0) (C := a.c_BadRow) (d0 := d0) (l0 := kF one two three 1) rfl hpn T.e_BadRow T.e_BadName (nodup_ne T.ne (i := 0) (j := 6) rfl rfl (by decide)) (fun z => (nodup_ne T.ne (i := 2) (j := 6) rfl rfl (by decide) z).elim) (fun _ => ?_))
    refine ds_seq (ds_isE (a0 := a0) (C := a.c_BadRow) (d0 := d0) (l0 := kF one two three 1) rfl hpn T.e_BadRow T.e_BadText (nodup_ne T.ne (i := 0) (j := 7) rfl rfl (by decide)) (fun z => (nodup_ne T.ne (i := 2) (j := 7) rfl rfl (by decide) z).elim) (fun _ => ?_))
    refine ds_seq (ds_isE (a0 := a0) (C := a.c_BadRow) (d0 := d0) (l0 := kF one two three 1) rfl hpn T.e_BadRow T.e_NoPlace (nodup_ne T.ne (i := 0) (j := 8) rfl rfl (by decide)) (fun z => (nodup_ne T.ne (i := 2) (j := 8) rfl rfl (by decide) z).elim) (fun _ => ?_))
    exact ds_ret (de_new (dn_addL_own rfl (de_callP EL.no trivial (dc_cons (de_var rfl (dc_nil ⟨1, a0, d0, one, two, three, by decide, hpn, rfl, h1, h2, _, rfl, (show 1 ≤ 16000 by decide), hR⟩))))))
  · have hR : R (.lst [kT one two three 2]) := hR
    refine ds_seq (ds_isE (a0 := a0) (C := a.c_BadTable) (d0 := d0) (l0 := kF one two three 2) rfl hpn T.e_BadTable T.e_BadNumber (nodup_ne T.ne (i := 0) (j := 1) rfl rfl (by decide)) (fun z => (nodup_ne T.ne (i := 3) (j := 1) rfl rfl (by decide) z).elim) (fun _ => ?_))
    refine ds_seq (ds_isE (a0 := a0) (C := a.c_BadTable) (d0 := d0) (l0 := kF one two three 2) rfl hpn T.e_BadTable T.e_BadRow (nodup_ne T.ne (i := 0) (j := 2) rfl rfl (by decide)) (fun z => (nodup_ne T.ne (i := 3) (j := 2) rfl rfl (by decide) z).elim) (fun _ => ?_))
    refine ds_seq (ds_isE (a0 := a0) (C := a.c_BadTable) (d0 := d0) (l0 := kF one two three 2) rfl hpn T.e_BadTable T.e_BadTable (nodup_ne T.ne (i := 0) (j := 3) rfl rfl (by decide)) (fun _ => ds_app rfl (de_tup (da_cons (de_str (da_cons (de_xe (de_var rfl ⟨a0, d0, a.c_BadTable, kF one two three 2, one, rfl, hpn, T.no_BadTable_what, rfl, da_nil ⟨by simp, (show 0 < 16000 by decide), ?_⟩⟩))))))) (fun z => (z rfl).elim))
    refine ds_seq (ds_isE (a0 := a0) (C := a.c_BadTable) (d0 := d0) (l0 := kF one two three 2) rfl hpn T.e_BadTable T.e_BadForm (nodup_ne T.ne (i := 0) (j := 4) rfl rfl (by decide)) (fun z => (nodup_ne T.ne (i := 3) (j := 4) rfl rfl (by decide) z).elim) (fun _ => ?_))
    refine ds_seq (ds_isE (a0 := a0) (C := a.c_BadTable) (d0 := d0) (l0 := kF one two three 2) rfl hpn T.e_BadTable T.e_BadBook (nodup_ne T.ne (i := 0) (j := 5) rfl rfl (by decide)) (fun z => (nodup_ne T.ne (i := 3) (j := 5) rfl rfl (by decide) z).elim) (fun _ => ?_))
    refine ds_seq (ds_isE (a0 := a0) (C := a.c_BadTable) (d0 := d0) (l0 := kF one two three 2) rfl hpn T.e_BadTable T.e_BadName (nodup_ne T.ne (i := 0) (j := 6) rfl rfl (by decide)) (fun z => (nodup_ne T.ne (i := 3) (j := 6) rfl rfl (by decide) z).elim) (fun _ => ?_))
    refine ds_seq (ds_isE (a0 := a0) (C := a.c_BadTable) (d0 := d0) (l0 := kF one two three 2) rfl hpn T.e_BadTable T.e_BadText (nodup_ne T.ne (i := 0) (j := 7) rfl rfl (by decide)) (fun z => (nodup_ne T.ne (i := 3) (j := 7) rfl rfl (by decide) z).elim) (fun _ => ?_))
    refine ds_seq (ds_isE (a0 := a0) (C := a.c_BadTable) (d0 := d0) (l0 := kF one two three 2) rfl hpn T.e_BadTable T.e_NoPlace (nodup_ne T.ne (i := 0) (j := 8) rfl rfl (by decide)) (fun z => (nodup_ne T.ne (i := 3) (j := 8) rfl rfl (by decide) z).elim) (fun _ => ?_))
    exact ds_ret (de_new (dn_addL_own rfl (de_callP EL.no trivial (dc_cons (de_var rfl (dc_nil ⟨2, a0, d0, one, two, three, by decide, hpn, rfl, h1, h2, _, rfl, (show 1 ≤ 16000 by decide), hR⟩))))))
  · have hR : R (.lst [kT one two three 3]) := hR
    refine ds_seq (ds_isE (a0 := a0) (C := a.c_BadForm) (d0 := d0) (l0 := kF one two three 3) rfl hpn T.e_BadForm T.e_BadNumber (nodup_ne T.ne (i := 0) (j := 1) rfl rfl (by decide)) (fun z => (nodup_ne T.ne (i := 4) (j := 1) rfl rfl (by decide) z).elim) (fun _ => ?_))
    refine ds_seq (ds_isE (a0 := a0) (C := a.c_BadForm) (d0 := d0) (l0 := kF one two three 3) rfl hpn T.e_BadForm T.e_BadRow (nodup_ne T.ne (i := 0) (j := 2) rfl rfl (by decide)) (fun z => (nodup_ne T.ne (i := 4) (j := 2) rfl rfl (by decide) z).elim) (fun _ => ?_))
    refine ds_seq (ds_isE (a0 := a0) (C := a.c_BadForm) (d0 := d0) (l0 := kF one two three 3) rfl hpn T.e_BadForm T.e_BadTable (nodup_ne T.ne (i := 0) (j := 3) rfl rfl (by decide)) (fun z => (nodup_ne T.ne (i := 4) (j := 3) rfl rfl (by decide) z).elim) (fun _ => ?_))
    refine ds_seq (ds_isE (a0 := a0) (C := a.c_BadForm) (d0 := d0) (l0 := kF one two three 3) rfl hpn T.e_BadForm T.e_BadForm (nodup_ne T.ne (i := 0) (j := 4) rfl rfl (by decide)) (fun _ => ds_app rfl (de_tup (da_cons (de_str (da_cons (de_xe (de_var rfl ⟨a0, d0, a.c_BadForm, kF one two three 3, one, rfl, hpn, T.no_BadForm_what, rfl, da_nil ⟨by simp, (show 0 < 16000 by decide), ?_⟩⟩))))))) (fun z => (z rfl).elim))
    refine ds_seq (ds_isE (a0 := a0) (C := a.c_BadForm) (d0 := d0) (l0 := kF one two three 3) rfl hpn T.e_BadForm T.e_BadBook (nodup_ne T.ne (i := 0) (j := 5) rfl rfl (by decide)) (fun z => (nodup_ne T.ne (i := 4) (j := 5) rfl rfl (by decide) z).elim) (fun _ => ?_))
    refine ds_seq (ds_isE (a0 := a0) (C := a.c_BadForm) (d0 := d0) (l0 := kF one two three 3) rfl hpn T.e_BadForm T.e_BadName (nodup_ne T.ne (i := 0) (j := 6) rfl rfl (by decide)) (fun z => (nodup_ne T.ne (i := 4) (j := 6) rfl rfl (by decide) z).elim) (fun _ => ?_))
    refine ds_seq (ds_isE (a0 := a0) (C := a.c_BadForm) (d0 := d0) (l0 := kF one two three 3) rfl hpn T.e_BadForm T.e_BadText (nodup_ne T.ne (i := 0) (j := 7) rfl rfl (by decide)) (fun z => (nodup_ne T.ne (i := 4) (j := 7) rfl rfl (by decide) z).elim) (fun _ => ?_))
    refine ds_seq (ds_isE (a0 := a0) (C := a.c_BadForm) (d0 := d0) (l0 := kF one two three 3) rfl hpn T.e_BadForm T.e_NoPlace (nodup_ne T.ne (i := 0) (j := 8) rfl rfl (by decide)) (fun z => (nodup_ne T.ne (i := 4) (j := 8) rfl rfl (by decide) z).elim) (fun _ => ?_))
    exact ds_ret (de_new (dn_addL_own rfl (de_callP EL.no trivial (dc_cons (de_var rfl (dc_nil ⟨3, a0, d0, one, two, three, by decide, hpn, rfl, h1, h2, _, rfl, (show 1 ≤ 16000 by decide), hR⟩))))))
  · have hR : R (.lst [kT one two three 4]) := hR
    refine ds_seq (ds_isE (a0 := a0) (C := a.c_BadBook) (d0 := d0) (l0 := kF one two three 4) rfl hpn T.e_BadBook T.e_BadNumber (nodup_ne T.ne (i := 0) (j := 1) rfl rfl (by decide)) (fun z => (nodup_ne T.ne (i := 5) (j := 1) rfl rfl (by decide) z).elim) (fun _ => ?_))
    refine ds_seq (ds_isE (a0 := a0) (C := a.c_BadBook) (d0 := d0) (l0 := kF one two three 4) rfl hpn T.e_BadBook T.e_BadRow (nodup_ne T.ne (i := 0) (j := 2) rfl rfl (by decide)) (fun z => (nodup_ne T.ne (i := 5) (j := 2) rfl rfl (by decide) z).elim) (fun _ => ?_))
    refine ds_seq (ds_isE (a0 := a0) (C := a.c_BadBook) (d0 := d0) (l0 := kF one two three 4) rfl hpn T.e_BadBook T.e_BadTable (nodup_ne T.ne (i := 0) (j := 3) rfl rfl (by decide)) (fun z => (nodup_ne T.ne (i := 5) (j := 3) rfl rfl (by decide) z).elim) (fun _ => ?_))
    refine ds_seq (ds_isE (a0 := a0) (C := a.c_BadBook) (d0 := d0) (l0 := kF one two three 4) rfl hpn T.e_BadBook T.e_BadForm (nodup_ne T.ne (i := 0) (j := 4) rfl rfl (by decide)) (fun z => (nodup_ne T.ne (i := 5) (j := 4) rfl rfl (by decide) z).elim) (fun _ => ?_))
    refine ds_seq (ds_isE (a0 := a0) (C := a.c_BadBook) (d0 := d0) (l0 := kF one two three 4) rfl hpn T.e_BadBook T.e_BadBook (nodup_ne T.ne (i := 0) (j := 5) rfl rfl (by decide)) (fun _ => ds_app rfl (de_tup (da_cons (de_str (da_cons (de_xe (de_var rfl ⟨a0, d0, a.c_BadBook, kF one two three 4, one, rfl, hpn, T.no_BadBook_what, rfl, da_nil ⟨by simp, (show 0 < 16000 by decide), ?_⟩⟩))))))) (fun z => (z rfl).elim))
    refine ds_seq (ds_isE (a0 := a0) (C := a.c_BadBook) (d0 := d0) (l0 := kF one two three 4) rfl hpn T.e_BadBook T.e_BadName (nodup_ne T.ne (i := 0) (j := 6) rfl rfl (by decide)) (fun z => (nodup_ne T.ne (i := 5) (j := 6) rfl rfl (by decide) z).elim) (fun _ => ?_))
    refine ds_seq (ds_isE (a0 := a0) (C := a.c_BadBook) (d0 := d0) (l0 := kF one two three 4) rfl hpn T.e_BadBook T.e_BadText (nodup_ne T.ne (i := 0) (j := 7) rfl rfl (by decide)) (fun z => (nodup_ne T.ne (i := 5) (j := 7) rfl rfl (by decide) z).elim) (fun _ => ?_))
    refine ds_seq (ds_isE (a0 := a0) (C := a.c_BadBook) (d0 := d0) (l0 := kF one two three 4) rfl hpn T.e_BadBook T.e_NoPlace (nodup_ne T.ne (i := 0) (j := 8) rfl rfl (by decide)) (fun z => (nodup_ne T.ne (i := 5) (j := 8) rfl rfl (by decide) z).elim) (fun _ => ?_))
    exact ds_ret (de_new (dn_addL_own rfl (de_callP EL.no trivial (dc_cons (de_var rfl (dc_nil ⟨4, a0, d0, one, two, three, by decide, hpn, rfl, h1, h2, _, rfl, (show 1 ≤ 16000 by decide), hR⟩))))))
  · have hR : R (.lst [kT one two three 5]) := hR
    have ok1 := h1 (by decide)
    refine ds_seq (ds_isE (a0 := a0) (C := a.c_BadName) (d0 := d0) (l0 := kF one two three 5) rfl hpn T.e_BadName T.e_BadNumber (nodup_ne T.ne (i := 0) (j := 1) rfl rfl (by decide)) (fun z => (nodup_ne T.ne (i := 6) (j := 1) rfl rfl (by decide) z).elim) (fun _ => ?_))
    refine ds_seq (ds_isE (a0 := a0) (C := a.c_BadName) (d0 := d0) (l0 := kF one two three 5) rfl hpn T.e_BadName T.e_BadRow (nodup_ne T.ne (i := 0) (j := 2) rfl rfl (by decide)) (fun z => (nodup_ne T.ne (i := 6) (j := 2) rfl rfl (by decide) z).elim) (fun _ => ?_))
    refine ds_seq (ds_isE (a0 := a0) (C := a.c_BadName) (d0 := d0) (l0 := kF one two three 5) rfl hpn T.e_BadName T.e_BadTable (nodup_ne T.ne (i := 0) (j := 3) rfl rfl (by decide)) (fun z => (nodup_ne T.ne (i := 6) (j := 3) rfl rfl (by decide) z).elim) (fun _ => ?_))
    refine ds_seq (ds_isE (a0 := a0) (C := a.c_BadName) (d0 := d0) (l0 := kF one two three 5) rfl hpn T.e_BadName T.e_BadForm (nodup_ne T.ne (i := 0) (j := 4) rfl rfl (by decide)) (fun z => (nodup_ne T.ne (i := 6) (j := 4) rfl rfl (by decide) z).elim) (fun _ => ?_))
    refine ds_seq (ds_isE (a0 := a0) (C := a.c_BadName) (d0 := d0) (l0 := kF one two three 5) rfl hpn T.e_BadName T.e_BadBook (nodup_ne T.ne (i := 0) (j := 5) rfl rfl (by decide)) (fun z => (nodup_ne T.ne (i := 6) (j := 5) rfl rfl (by decide) z).elim) (fun _ => ?_))
    refine ds_seq (ds_isE (a0 := a0) (C := a.c_BadName) (d0 := d0) (l0 := kF one two three 5) rfl hpn T.e_BadName T.e_BadName (nodup_ne T.ne (i := 0) (j := 6) rfl rfl (by decide)) (fun _ => ds_app rfl (de_tup (da_cons (de_str (da_cons (de_repr (de_xe (de_var rfl ⟨a0, d0, a.c_BadName, kF one two three 5, one, rfl, hpn, T.no_BadName_name, rfl, ok1, da_nil ⟨by simp, (show 0 < 16000 by decide), ?_⟩⟩)))))))) (fun z => (z rfl).elim))
    refine ds_seq (ds_isE (a0 := a0) (C := a.c_BadName) (d0 := d0) (l0 := kF one two three 5) rfl hpn T.e_BadName T.e_BadText (nodup_ne T.ne (i := 0) (j := 7) rfl rfl (by decide)) (fun z => (nodup_ne T.ne (i := 6) (j := 7) rfl rfl (by decide) z).elim) (fun _ => ?_))
    refine ds_seq (ds_isE (a0 := a0) (C := a.c_BadName) (d0 := d0) (l0 := kF one two three 5) rfl hpn T.e_BadName T.e_NoPlace (nodup_ne T.ne (i := 0) (j := 8) rfl rfl (by decide)) (fun z => (nodup_ne T.ne (i := 6) (j := 8) rfl rfl (by decide) z).elim) (fun _ => ?_))
    exact ds_ret (de_new (dn_addL_own rfl (de_callP EL.no trivial (dc_cons (de_var rfl (dc_nil ⟨5, a0, d0, one, two, three, by decide, hpn, rfl, h1, h2, _, rfl, (show 1 ≤ 16000 by decide), hR⟩))))))
  · have hR : R (.lst [kT one two three 6]) := hR
    refine ds_seq (ds_isE (a0 := a0) (C := a.c_BadText) (d0 := d0) (l0 := kF one two three 6) rfl hpn T.e_BadText T.e_BadNumber (nodup_ne T.ne (i := 0) (j := 1) rfl rfl (by decide)) (fun z => (nodup_ne T.ne (i := 7) (j := 1) rfl rfl (by decide) z).elim) (fun _ => ?_))
    refine ds_seq (ds_isE (a0 := a0) (C := a.c_BadText) (d0 := d0) (l0 := kF one two three 6) rfl hpn T.e_BadText T.e_BadRow (nodup_ne T.ne (i := 0) (j := 2) rfl rfl (by decide)) (fun z => (nodup_ne T.ne (i := 7) (j := 2) rfl rfl (by decide) z).elim) (fun _ => ?_))
    refine ds_seq (ds_isE (a0 := a0) (C := a.c_BadText) (d0 := d0) (l0 := kF one two three 6) rfl hpn T.e_BadText T.e_BadTable (nodup_ne T.ne (i := 0) (j := 3) rfl rfl (by decide)) (fun z => (nodup_ne T.ne (i := 7) (j := 3) rfl rfl (by decide) z).elim) (fun _ => ?_))
    refine ds_seq (ds_isE (a0 := a0) (C := a.c_BadText) (d0 := d0) (l0 := kF one two three 6) rfl hpn T.e_BadText T.e_BadForm (nodup_ne T.ne (i := 0) (j := 4) rfl rfl (by decide)) (fun z => (nodup_ne T.ne (i := 7) (j := 4) rfl rfl (by decide) z).elim) (fun _ => ?_))
    refine ds_seq (ds_isE (a0 := a0) (C := a.c_BadText) (d0 := d0) (l0 := kF one two three 6) rfl hpn T.e_BadText T.e_BadBook (nodup_ne T.ne (i := 0) (j := 5) rfl rfl (by decide)) (fun z => (nodup_ne T.ne (i := 7) (j := 5) rfl rfl (by decide) z).elim) (fun _ => ?_))
    refine ds_seq (ds_isE (a0 := a0) (C := a.c_BadText) (d0 := d0) (l0 := kF one two three 6) rfl hpn T.e_BadText T.e_BadName (nodup_ne T.ne (i := 0) (j := 6) rfl rfl (by decide)) (fun z => (nodup_ne T.ne (i := 7) (j := 6) rfl rfl (by decide) z).elim) (fun _ => ?_))
    refine ds_seq (ds_isE (a0 := a0) (C := a.c_BadText) (d0 := d0) (l0 := kF one two three 6) rfl hpn T.e_BadText T.e_BadText (nodup_ne T.ne (i := 0) (j := 7) rfl rfl (by decide)) (fun _ => ds_app rfl (de_tup (da_cons (de_str (da_cons (de_xe (de_var rfl ⟨a0, d0, a.c_BadText, kF one two three 6, one, rfl, hpn, T.no_BadText_line, rfl, da_cons (de_xe (de_var rfl ⟨a0, d0, a.c_BadText, kF one two three 6, two, rfl, hpn, T.no_BadText_word, rfl, da_nil ⟨by simp, (show 0 < 16000 by decide), ?_⟩⟩))⟩))))))) (fun z => (z rfl).elim))
    refine ds_seq (ds_isE (a0 := a0) (C := a.c_BadText) (d0 := d0) (l0 := kF one two three 6) rfl hpn T.e_BadText T.e_NoPlace (nodup_ne T.ne (i := 0) (j := 8) rfl rfl (by decide)) (fun z => (nodup_ne T.ne (i := 7) (j := 8) rfl rfl (by decide) z).elim) (fun _ => ?_))
    exact ds_ret (de_new (dn_addL_own rfl (de_callP EL.no trivial (dc_cons (de_var rfl (dc_nil ⟨6, a0, d0, one, two, three, by decide, hpn, rfl, h1, h2, _, rfl, (show 1 ≤ 16000 by decide), hR⟩))))))
  · have hR : R (.lst [kT one two three 7]) := hR
    have ok2 := h2 (by decide)
    refine ds_seq (ds_isE (a0 := a0) (C := a.c_NoPlace) (d0 := d0) (l0 := kF one two three 7) rfl hpn T.e_NoPlace T.e_BadNumber (nodup_ne T.ne (i := 0) (j := 1) rfl rfl (by decide)) (fun z => (nodup_ne T.ne (i := 8) (j := 1) rfl rfl (by decide) z).elim) (fun _ => ?_))
    refine ds_seq (ds_isE (a0 := a0) (C := a.c_NoPlace) (d0 := d0) (l0 := kF one two three 7) rfl hpn T.e_NoPlace T.e_BadRow (nodup_ne T.ne (i := 0) (j := 2) rfl rfl (by decide)) (fun z => (nodup_ne T.ne (i := 8) (j := 2) rfl rfl (by decide) z).elim) (fun _ => ?_))
    refine ds_seq (ds_isE (a0 := a0) (C := a.c_NoPlace) (d0 := d0) (l0 := kF one two three 7) rfl hpn T.e_NoPlace T.e_BadTable (nodup_ne T.ne (i := 0) (j := 3) rfl rfl (by decide)) (fun z => (nodup_ne T.ne (i := 8) (j := 3) rfl rfl (by decide) z).elim) (fun _ => ?_))
    refine ds_seq (ds_isE (a0 := a0) (C := a.c_NoPlace) (d0 := d0) (l0 := kF one two three 7) rfl hpn T.e_NoPlace T.e_BadForm (nodup_ne T.ne (i := 0) (j := 4) rfl rfl (by decide)) (fun z => (nodup_ne T.ne (i := 8) (j := 4) rfl rfl (by decide) z).elim) (fun _ => ?_))
    refine ds_seq (ds_isE (a0 := a0) (C := a.c_NoPlace) (d0 := d0) (l0 := kF one two three 7) rfl hpn T.e_NoPlace T.e_BadBook (nodup_ne T.ne (i := 0) (j := 5) rfl rfl (by decide)) (fun z => (nodup_ne T.ne (i := 8) (j := 5) rfl rfl (by decide) z).elim) (fun _ => ?_))
    refine ds_seq (ds_isE (a0 := a0) (C := a.c_NoPlace) (d0 := d0) (l0 := kF one two three 7) rfl hpn T.e_NoPlace T.e_BadName (nodup_ne T.ne (i := 0) (j := 6) rfl rfl (by decide)) (fun z => (nodup_ne T.ne (i := 8) (j := 6) rfl rfl (by decide) z).elim) (fun _ => ?_))
    refine ds_seq (ds_isE (a0 := a0) (C := a.c_NoPlace) (d0 := d0) (l0 := kF one two three 7) rfl hpn T.e_NoPlace T.e_BadText (nodup_ne T.ne (i := 0) (j := 7) rfl rfl (by decide)) (fun z => (nodup_ne T.ne (i := 8) (j := 7) rfl rfl (by decide) z).elim) (fun _ => ?_))
    refine ds_seq (ds_isE (a0 := a0) (C := a.c_NoPlace) (d0 := d0) (l0 := kF one two three 7) rfl hpn T.e_NoPlace T.e_NoPlace (nodup_ne T.ne (i := 0) (j := 8) rfl rfl (by decide)) (fun _ => ds_app rfl (de_tup (da_cons (de_str (da_cons (de_xe (de_var rfl ⟨a0, d0, a.c_NoPlace, kF one two three 7, one, rfl, hpn, T.no_NoPlace_what, rfl, da_cons (de_repr (de_xe (de_var rfl ⟨a0, d0, a.c_NoPlace, kF one two three 7, two, rfl, hpn, T.no_NoPlace_index, rfl, ok2, da_nil ⟨by simp, (show 0 < 16000 by decide), ?_⟩⟩)))⟩))))))) (fun z => (z rfl).elim))
    exact ds_ret (de_new (dn_addL_own rfl (de_callP EL.no trivial (dc_cons (de_var rfl (dc_nil ⟨7, a0, d0, one, two, three, by decide, hpn, rfl, h1, h2, _, rfl, (show 1 ≤ 16000 by decide), hR⟩))))))
  · have hR : R (.lst [kT one two three 8]) := hR
    have ok1 := h1 (by decide)
    refine ds_seq (ds_isE (a0 := a0) (C := a.c_NoName) (d0 := d0) (l0 := kF one two three 8) rfl hpn T.e_NoName T.e_BadNumber (nodup_ne T.ne (i := 0) (j := 1) rfl rfl (by decide)) (fun z => (nodup_ne T.ne (i := 9) (j := 1) rfl rfl (by decide) z).elim) (fun _ => ?_))
    refine ds_seq (ds_isE (a0 := a0) (C := a.c_NoName) (d0 := d0) (l0 := kF one two three 8) rfl hpn T.e_NoName T.e_BadRow (nodup_ne T.ne (i := 0) (j := 2) rfl rfl (by decide)) (fun z => (nodup_ne T.ne (i := 9) (j := 2) rfl rfl (by decide) z).elim) (fun _ => ?_))
    refine ds_seq (ds_isE (a0 := a0) (C := a.c_NoName) (d0 := d0) (l0 := kF one two three 8) rfl hpn T.e_NoName T.e_BadTable (nodup_ne T.ne (i := 0) (j := 3) rfl rfl (by decide)) (fun z => (nodup_ne T.ne (i := 9) (j := 3) rfl rfl (by decide) z).elim) (fun _ => ?_))
    refine ds_seq (ds_isE (a0 := a0) (C := a.c_NoName) (d0 := d0) (l0 := kF one two three 8) rfl hpn T.e_NoName T.e_BadForm (nodup_ne T.ne (i := 0) (j := 4) rfl rfl (by decide)) (fun z => (nodup_ne T.ne (i := 9) (j := 4) rfl rfl (by decide) z).elim) (fun _ => ?_))
    refine ds_seq (ds_isE (a0 := a0) (C := a.c_NoName) (d0 := d0) (l0 := kF one two three 8) rfl hpn T.e_NoName T.e_BadBook (nodup_ne T.ne (i := 0) (j := 5) rfl rfl (by decide)) (fun z => (nodup_ne T.ne (i := 9) (j := 5) rfl rfl (by decide) z).elim) (fun _ => ?_))
    refine ds_seq (ds_isE (a0 := a0) (C := a.c_NoName) (d0 := d0) (l0 := kF one two three 8) rfl hpn T.e_NoName T.e_BadName (nodup_ne T.ne (i := 0) (j := 6) rfl rfl (by decide)) (fun z => (nodup_ne T.ne (i := 9) (j := 6) rfl rfl (by decide) z).elim) (fun _ => ?_))
    refine ds_seq (ds_isE (a0 := a0) (C := a.c_NoName) (d0 := d0) (l0 := kF one two three 8) rfl hpn T.e_NoName T.e_BadText (nodup_ne T.ne (i := 0) (j := 7) rfl rfl (by decide)) (fun z => (nodup_ne T.ne (i := 9) (j := 7) rfl rfl (by decide) z).elim) (fun _ => ?_))
    refine ds_seq (ds_isE (a0 := a0) (C := a.c_NoName) (d0 := d0) (l0 := kF one two three 8) rfl hpn T.e_NoName T.e_NoPlace (nodup_ne T.ne (i := 0) (j := 8) rfl rfl (by decide)) (fun z => (nodup_ne T.ne (i := 9) (j := 8) rfl rfl (by decide) z).elim) (fun _ => ?_))
    exact ds_ret (de_new (dn_addL_own rfl (de_callP EL.no trivial (dc_cons (de_var rfl (dc_nil ⟨8, a0, d0, one, two, three, by decide, hpn, rfl, h1, h2, _, rfl, (show 1 ≤ 16000 by decide), hR⟩))))))
  · have hR : R (.lst [kT one two three 9]) := hR
    have ok1 := h1 (by decide)
    refine ds_seq (ds_isE (a0 := a0) (C := a.c_TakenName) (d0 := d0) (l0 := kF one two three 9) rfl hpn T.e_TakenName T.e_BadNumber (nodup_ne T.ne (i := 0) (j := 1) rfl rfl (by decide)) (fun z => (nodup_ne T.ne (i := 10) (j := 1) rfl rfl (by decide) z).elim) (fun _ => ?_))
    refine ds_seq (ds_isE (a0 := a0) (C := a.c_TakenName) (d0 := d0) (l0 := kF one two three 9) rfl hpn T.e_TakenName T.e_BadRow (nodup_ne T.ne (i := 0) (j := 2) rfl rfl (by decide)) (fun z => (nodup_ne T.ne (i := 10) (j := 2) rfl rfl (by decide) z).elim) (fun _ => ?_))
    refine ds_seq (ds_isE (a0 := a0) (C := a.c_TakenName) (d0 := d0) (l0 := kF one two three 9) rfl hpn T.e_TakenName T.e_BadTable (nodup_ne T.ne (i := 0) (j := 3) rfl rfl (by decide)) (fun z => (nodup_ne T.ne (i := 10) (j := 3) rfl rfl (by decide) z).elim) (fun _ => ?_))
    refine ds_seq (ds_isE (a0 := a0) (C := a.c_TakenName) (d0 := d0) (l0 := kF one two three 9) rfl hpn T.e_TakenName T.e_BadForm (nodup_ne T.ne (i := 0) (j := 4) rfl rfl (by decide)) (fun z => (nodup_ne T.ne (i := 10) (j := 4) rfl rfl (by decide) z).elim) (fun _ => ?_))
    refine ds_seq (ds_isE (a0 := a0) (C := a.c_TakenName) (d0 := d0) (l0 := kF one two three 9) rfl hpn T.e_TakenName T.e_BadBook (nodup_ne T.ne (i := 0) (j := 5) rfl rfl (by decide)) (fun z => (nodup_ne T.ne (i := 10) (j := 5) rfl rfl (by decide) z).elim) (fun _ => ?_))
    refine ds_seq (ds_isE (a0 := a0) (C := a.c_TakenName) (d0 := d0) (l0 := kF one two three 9) rfl hpn T.e_TakenName T.e_BadName (nodup_ne T.ne (i := 0) (j := 6) rfl rfl (by decide)) (fun z => (nodup_ne T.ne (i := 10) (j := 6) rfl rfl (by decide) z).elim) (fun _ => ?_))
    refine ds_seq (ds_isE (a0 := a0) (C := a.c_TakenName) (d0 := d0) (l0 := kF one two three 9) rfl hpn T.e_TakenName T.e_BadText (nodup_ne T.ne (i := 0) (j := 7) rfl rfl (by decide)) (fun z => (nodup_ne T.ne (i := 10) (j := 7) rfl rfl (by decide) z).elim) (fun _ => ?_))
    refine ds_seq (ds_isE (a0 := a0) (C := a.c_TakenName) (d0 := d0) (l0 := kF one two three 9) rfl hpn T.e_TakenName T.e_NoPlace (nodup_ne T.ne (i := 0) (j := 8) rfl rfl (by decide)) (fun z => (nodup_ne T.ne (i := 10) (j := 8) rfl rfl (by decide) z).elim) (fun _ => ?_))
    exact ds_ret (de_new (dn_addL_own rfl (de_callP EL.no trivial (dc_cons (de_var rfl (dc_nil ⟨9, a0, d0, one, two, three, by decide, hpn, rfl, h1, h2, _, rfl, (show 1 ≤ 16000 by decide), hR⟩))))))
  · have hR : R (.lst [kT one two three 10]) := hR
    refine ds_seq (ds_isE (a0 := a0) (C := a.c_Unlike) (d0 := d0) (l0 := kF one two three 10) rfl hpn T.e_Unlike T.e_BadNumber (nodup_ne T.ne (i := 0) (j := 1) rfl rfl (by decide)) (fun z => (nodup_ne T.ne (i := 11) (j := 1) rfl rfl (by decide) z).elim) (fun _ => ?_))
    refine ds_seq (ds_isE (a0 := a0) (C := a.c_Unlike) (d0 := d0) (l0 := kF one two three 10) rfl hpn T.e_Unlike T.e_BadRow (nodup_ne T.ne (i := 0) (j := 2) rfl rfl (by decide)) (fun z => (nodup_ne T.ne (i := 11) (j := 2) rfl rfl (by decide) z).elim) (fun _ => ?_))
    refine ds_seq (ds_isE (a0 := a0) (C := a.c_Unlike) (d0 := d0) (l0 := kF one two three 10) rfl hpn T.e_Unlike T.e_BadTable (nodup_ne T.ne (i := 0) (j := 3) rfl rfl (by decide)) (fun z => (nodup_ne T.ne (i := 11) (j := 3) rfl rfl (by decide) z).elim) (fun _ => ?_))
    refine ds_seq (ds_isE (a0 := a0) (C := a.c_Unlike) (d0 := d0) (l0 := kF one two three 10) rfl hpn T.e_Unlike T.e_BadForm (nodup_ne T.ne (i := 0) (j := 4) rfl rfl (by decide)) (fun z => (nodup_ne T.ne (i := 11) (j := 4) rfl rfl (by decide) z).elim) (fun _ => ?_))
    refine ds_seq (ds_isE (a0 := a0) (C := a.c_Unlike) (d0 := d0) (l0 := kF one two three 10) rfl hpn T.e_Unlike T.e_BadBook (nodup_ne T.ne (i := 0) (j := 5) rfl rfl (by decide)) (fun z => (nodup_ne T.ne (i := 11) (j := 5) rfl rfl (by decide) z).elim) (fun _ => ?_))
    refine ds_seq (ds_isE (a0 := a0) (C := a.c_Unlike) (d0 := d0) (l0 := kF one two three 10) rfl hpn T.e_Unlike T.e_BadName (nodup_ne T.ne (i := 0) (j := 6) rfl rfl (by decide)) (fun z => (nodup_ne T.ne (i := 11) (j := 6) rfl rfl (by decide) z).elim) (fun _ => ?_))
    refine ds_seq (ds_isE (a0 := a0) (C := a.c_Unlike) (d0 := d0) (l0 := kF one two three 10) rfl hpn T.e_Unlike T.e_BadText (nodup_ne T.ne (i := 0) (j := 7) rfl rfl (by decide)) (fun z => (nodup_ne T.ne (i := 11) (j := 7) rfl rfl (by decide) z).elim) (fun _ => ?_))
    refine ds_seq (ds_isE (a0 := a0) (C := a.c_Unlike) (d0 := d0) (l0 := kF one two three 10) rfl hpn T.e_Unlike T.e_NoPlace (nodup_ne T.ne (i := 0) (j := 8) rfl rfl (by decide)) (fun z => (nodup_ne T.ne (i := 11) (j := 8) rfl rfl (by decide) z).elim) (fun _ => ?_))
    exact ds_ret (de_new (dn_addL_own rfl (de_callP EL.no trivial (dc_cons (de_var rfl (dc_nil ⟨10, a0, d0, one, two, three, by decide, hpn, rfl, h1, h2, _, rfl, (show 1 ≤ 16000 by decide), hR⟩))))))
  · have hR : R (.lst [kT one two three 11]) := hR
    refine ds_seq (ds_isE (a0 := a0) (C := a.c_NotThere) (d0 := d0) (l0 := kF one two three 11) rfl hpn T.e_NotThere T.e_BadNumber (nodup_ne T.ne (i := 0) (j := 1) rfl rfl (by decide)) (fun z => (nodup_ne T.ne (i := 12) (j := 1) rfl rfl (by decide) z).elim) (fun _ => ?_))
    refine ds_seq (ds_isE (a0 := a0) (C := a.c_NotThere) (d0 := d0) (l0 := kF one two three 11) rfl hpn T.e_NotThere T.e_BadRow (nodup_ne T.ne (i := 0) (j := 2) rfl rfl (by decide)) (fun z => (nodup_ne T.ne (i := 12) (j := 2) rfl rfl (by decide) z).elim) (fun _ => ?_))
    refine ds_seq (ds_isE (a0 := a0) (C := a.c_NotThere) (d0 := d0) (l0 := kF one two three 11) rfl hpn T.e_NotThere T.e_BadTable (nodup_ne T.ne (i := 0) (j := 3) rfl rfl (by decide)) (fun z => (nodup_ne T.ne (i := 12) (j := 3) rfl rfl (by decide) z).elim) (fun _ => ?_))
    refine ds_seq (ds_isE (a0 := a0) (C := a.c_NotThere) (d0 := d0) (l0 := kF one two three 11) rfl hpn T.e_NotThere T.e_BadForm (nodup_ne T.ne (i := 0) (j := 4) rfl rfl (by decide)) (fun z => (nodup_ne T.ne (i := 12) (j := 4) rfl rfl (by decide) z).elim) (fun _ => ?_))
    refine ds_seq (ds_isE (a0 := a0) (C := a.c_NotThere) (d0 := d0) (l0 := kF one two three 11) rfl hpn T.e_NotThere T.e_BadBook (nodup_ne T.ne (i := 0) (j := 5) rfl rfl (by decide)) (fun z => (nodup_ne T.ne (i := 12) (j := 5) rfl rfl (by decide) z).elim) (fun _ => ?_))
    refine ds_seq (ds_isE (a0 := a0) (C := a.c_NotThere) (d0 := d0) (l0 := kF one two three 11) rfl hpn T.e_NotThere T.e_BadName (nodup_ne T.ne (i := 0) (j := 6) rfl rfl (by decide)) (fun z => (nodup_ne T.ne (i := 12) (j := 6) rfl rfl (by decide) z).elim) (fun _ => ?_))
    refine ds_seq (ds_isE (a0 := a0) (C := a.c_NotThere) (d0 := d0) (l0 := kF one two three 11) rfl hpn T.e_NotThere T.e_BadText (nodup_ne T.ne (i := 0) (j := 7) rfl rfl (by decide)) (fun z => (nodup_ne T.ne (i := 12) (j := 7) rfl rfl (by decide) z).elim) (fun _ => ?_))
    refine ds_seq (ds_isE (a0 := a0) (C := a.c_NotThere) (d0 := d0) (l0 := kF one two three 11) rfl hpn T.e_NotThere T.e_NoPlace (nodup_ne T.ne (i := 0) (j := 8) rfl rfl (by decide)) (fun z => (nodup_ne T.ne (i := 12) (j := 8) rfl rfl (by decide) z).elim) (fun _ => ?_))
    exact ds_ret (de_new (dn_addL_own rfl (de_callP EL.no trivial (dc_cons (de_var rfl (dc_nil ⟨11, a0, d0, one, two, three, by decide, hpn, rfl, h1, h2, _, rfl, (show 1 ≤ 16000 by decide), hR⟩))))))
  · have hR : R (.lst [kT one two three 12]) := hR
    refine ds_seq (ds_isE (a0 := a0) (C := a.c_TooMany) (d0 := d0) (l0 := kF one two three 12) rfl hpn T.e_TooMany T.e_BadNumber (nodup_ne T.ne (i := 0) (j := 1) rfl rfl (by decide)) (fun z => (nodup_ne T.ne (i := 13) (j := 1) rfl rfl (by decide) z).elim) (fun _ => ?_))
    refine ds_seq (ds_isE (a0 := a0) (C := a.c_TooMany) (d0 := d0) (l0 := kF one two three 12) rfl hpn T.e_TooMany T.e_BadRow (nodup_ne T.ne (i := 0) (j := 2) rfl rfl (by decide)) (fun z => (nodup_ne T.ne (i := 13) (j := 2) rfl rfl (by decide) z).elim) (fun _ => ?_))
    refine ds_seq (ds_isE (a0 := a0) (C := a.c_TooMany) (d0 := d0) (l0 := kF one two three 12) rfl hpn T.e_TooMany T.e_BadTable (nodup_ne T.ne (i := 0) (j := 3) rfl rfl (by decide)) (fun z => (nodup_ne T.ne (i := 13) (j := 3) rfl rfl (by decide) z).elim) (fun _ => ?_))
    refine ds_seq (ds_isE (a0 := a0) (C := a.c_TooMany) (d0 := d0) (l0 := kF one two three 12) rfl hpn T.e_TooMany T.e_BadForm (nodup_ne T.ne (i := 0) (j := 4) rfl rfl (by decide)) (fun z => (nodup_ne T.ne (i := 13) (j := 4) rfl rfl (by decide) z).elim) (fun _ => ?_))
    refine ds_seq (ds_isE (a0 := a0) (C := a.c_TooMany) (d0 := d0) (l0 := kF one two three 12) rfl hpn T.e_TooMany T.e_BadBook (nodup_ne T.ne (i := 0) (j := 5) rfl rfl (by decide)) (fun z => (nodup_ne T.ne (i := 13) (j := 5) rfl rfl (by decide) z).elim) (fun _ => ?_))
    refine ds_seq (ds_isE (a0 := a0) (C := a.c_TooMany) (d0 := d0) (l0 := kF one two three 12) rfl hpn T.e_TooMany T.e_BadName (nodup_ne T.ne (i := 0) (j := 6) rfl rfl (by decide)) (fun z => (nodup_ne T.ne (i := 13) (j := 6) rfl rfl (by decide) z).elim) (fun _ => ?_))
    refine ds_seq (ds_isE (a0 := a0) (C := a.c_TooMany) (d0 := d0) (l0 := kF one two three 12) rfl hpn T.e_TooMany T.e_BadText (nodup_ne T.ne (i := 0) (j := 7) rfl rfl (by decide)) (fun z => (nodup_ne T.ne (i := 13) (j := 7) rfl rfl (by decide) z).elim) (fun _ => ?_))
    refine ds_seq (ds_isE (a0 := a0) (C := a.c_TooMany) (d0 := d0) (l0 := kF one two three 12) rfl hpn T.e_TooMany T.e_NoPlace (nodup_ne T.ne (i := 0) (j := 8) rfl rfl (by decide)) (fun z => (nodup_ne T.ne (i := 13) (j := 8) rfl rfl (by decide) z).elim) (fun _ => ?_))
    exact ds_ret (de_new (dn_addL_own rfl (de_callP EL.no trivial (dc_cons (de_var rfl (dc_nil ⟨12, a0, d0, one, two, three, by decide, hpn, rfl, h1, h2, _, rfl, (show 1 ≤ 16000 by decide), hR⟩))))))
  · have hR : R (.lst [kT one two three 13]) := hR
    refine ds_seq (ds_isE (a0 := a0) (C := a.c_NotKept) (d0 := d0) (l0 := kF one two three 13) rfl hpn T.e_NotKept T.e_BadNumber (nodup_ne T.ne (i := 0) (j := 1) rfl rfl (by decide)) (fun z => (nodup_ne T.ne (i := 14) (j := 1) rfl rfl (by decide) z).elim) (fun _ => ?_))
    refine ds_seq (ds_isE (a0 := a0) (C := a.c_NotKept) (d0 := d0) (l0 := kF one two three 13) rfl hpn T.e_NotKept T.e_BadRow (nodup_ne T.ne (i := 0) (j := 2) rfl rfl (by decide)) (fun z => (nodup_ne T.ne (i := 14) (j := 2) rfl rfl (by decide) z).elim) (fun _ => ?_))
    refine ds_seq (ds_isE (a0 := a0) (C := a.c_NotKept) (d0 := d0) (l0 := kF one two three 13) rfl hpn T.e_NotKept T.e_BadTable (nodup_ne T.ne (i := 0) (j := 3) rfl rfl (by decide)) (fun z => (nodup_ne T.ne (i := 14) (j := 3) rfl rfl (by decide) z).elim) (fun _ => ?_))
    refine ds_seq (ds_isE (a0 := a0) (C := a.c_NotKept) (d0 := d0) (l0 := kF one two three 13) rfl hpn T.e_NotKept T.e_BadForm (nodup_ne T.ne (i := 0) (j := 4) rfl rfl (by decide)) (fun z => (nodup_ne T.ne (i := 14) (j := 4) rfl rfl (by decide) z).elim) (fun _ => ?_))
    refine ds_seq (ds_isE (a0 := a0) (C := a.c_NotKept) (d0 := d0) (l0 := kF one two three 13) rfl hpn T.e_NotKept T.e_BadBook (nodup_ne T.ne (i := 0) (j := 5) rfl rfl (by decide)) (fun z => (nodup_ne T.ne (i := 14) (j := 5) rfl rfl (by decide) z).elim) (fun _ => ?_))
    refine ds_seq (ds_isE (a0 := a0) (C := a.c_NotKept) (d0 := d0) (l0 := kF one two three 13) rfl hpn T.e_NotKept T.e_BadName (nodup_ne T.ne (i := 0) (j := 6) rfl rfl (by decide)) (fun z => (nodup_ne T.ne (i := 14) (j := 6) rfl rfl (by decide) z).elim) (fun _ => ?_))
    refine ds_seq (ds_isE (a0 := a0) (C := a.c_NotKept) (d0 := d0) (l0 := kF one two three 13) rfl hpn T.e_NotKept T.e_BadText (nodup_ne T.ne (i := 0) (j := 7) rfl rfl (by decide)) (fun z => (nodup_ne T.ne (i := 14) (j := 7) rfl rfl (by decide) z).elim) (fun _ => ?_))
    refine ds_seq (ds_isE (a0 := a0) (C := a.c_NotKept) (d0 := d0) (l0 := kF one two three 13) rfl hpn T.e_NotKept T.e_NoPlace (nodup_ne T.ne (i := 0) (j := 8) rfl rfl (by decide)) (fun z => (nodup_ne T.ne (i := 14) (j := 8) rfl rfl (by decide) z).elim) (fun _ => ?_))
    exact ds_ret (de_new (dn_addL_own rfl (de_callP EL.no trivial (dc_cons (de_var rfl (dc_nil ⟨13, a0, d0, one, two, three, by decide, hpn, rfl, h1, h2, _, rfl, (show 1 ≤ 16000 by decide), hR⟩))))))
  · have hR : R (.lst [kT one two three 14]) := hR
    refine ds_seq (ds_isE (a0 := a0) (C := a.c_NothingToUndo) (d0 := d0) (l0 := kF one two three 14) rfl hpn T.e_NothingToUndo T.e_BadNumber (nodup_ne T.ne (i := 0) (j := 1) rfl rfl (by decide)) (fun z => (nodup_ne T.ne (i := 15) (j := 1) rfl rfl (by decide) z).elim) (fun _ => ?_))
    refine ds_seq (ds_isE (a0 := a0) (C := a.c_NothingToUndo) (d0 := d0) (l0 := kF one two three 14) rfl hpn T.e_NothingToUndo T.e_BadRow (nodup_ne T.ne (i := 0) (j := 2) rfl rfl (by decide)) (fun z => (nodup_ne T.ne (i := 15) (j := 2) rfl rfl (by decide) z).elim) (fun _ => ?_))
    refine ds_seq (ds_isE (a0 := a0) (C := a.c_NothingToUndo) (d0 := d0) (l0 := kF one two three 14) rfl hpn T.e_NothingToUndo T.e_BadTable (nodup_ne T.ne (i := 0) (j := 3) rfl rfl (by decide)) (fun z => (nodup_ne T.ne (i := 15) (j := 3) rfl rfl (by decide) z).elim) (fun _ => ?_))
    refine ds_seq (ds_isE (a0 := a0) (C := a.c_NothingToUndo) (d0 := d0) (l0 := kF one two three 14) rfl hpn T.e_NothingToUndo T.e_BadForm (nodup_ne T.ne (i := 0) (j := 4) rfl rfl (by decide)) (fun z => (nodup_ne T.ne (i := 15) (j := 4) rfl rfl (by decide) z).elim) (fun _ => ?_))
    refine ds_seq (ds_isE (a0 := a0) (C := a.c_NothingToUndo) (d0 := d0) (l0 := kF one two three 14) rfl hpn T.e_NothingToUndo T.e_BadBook (nodup_ne T.ne (i := 0) (j := 5) rfl rfl (by decide)) (fun z => (nodup_ne T.ne (i := 15) (j := 5) rfl rfl (by decide) z).elim) (fun _ => ?_))
    refine ds_seq (ds_isE (a0 := a0) (C := a.c_NothingToUndo) (d0 := d0) (l0 := kF one two three 14) rfl hpn T.e_NothingToUndo T.e_BadName (nodup_ne T.ne (i := 0) (j := 6) rfl rfl (by decide)) (fun z => (nodup_ne T.ne (i := 15) (j := 6) rfl rfl (by decide) z).elim) (fun _ => ?_))
    refine ds_seq (ds_isE (a0 := a0) (C := a.c_NothingToUndo) (d0 := d0) (l0 := kF one two three 14) rfl hpn T.e_NothingToUndo T.e_BadText (nodup_ne T.ne (i := 0) (j := 7) rfl rfl (by decide)) (fun z => (nodup_ne T.ne (i := 15) (j := 7) rfl rfl (by decide) z).elim) (fun _ => ?_))
    refine ds_seq (ds_isE (a0 := a0) (C := a.c_NothingToUndo) (d0 := d0) (l0 := kF one two three 14) rfl hpn T.e_NothingToUndo T.e_NoPlace (nodup_ne T.ne (i := 0) (j := 8) rfl rfl (by decide)) (fun z => (nodup_ne T.ne (i := 15) (j := 8) rfl rfl (by decide) z).elim) (fun _ => ?_))
    exact ds_ret (de_new (dn_addL_own rfl (de_callP EL.no trivial (dc_cons (de_var rfl (dc_nil ⟨14, a0, d0, one, two, three, by decide, hpn, rfl, h1, h2, _, rfl, (show 1 ≤ 16000 by decide), hR⟩))))))
  · have hR : R (.lst [kT one two three 15]) := hR
    refine ds_seq (ds_isE (a0 := a0) (C := a.c_NothingToRedo) (d0 := d0) (l0 := kF one two three 15) rfl hpn T.e_NothingToRedo T.e_BadNumber (nodup_ne T.ne (i := 0) (j := 1) rfl rfl (by decide)) (fun z => (nodup_ne T.ne (i := 16) (j := 1) rfl rfl (by decide) z).elim) (fun _ => ?_))
    refine ds_seq (ds_isE (a0 := a0) (C := a.c_NothingToRedo) (d0 := d0) (l0 := kF one two three 15) rfl hpn T.e_NothingToRedo T.e_BadRow (nodup_ne T.ne (i := 0) (j := 2) rfl rfl (by decide)) (fun z => (nodup_ne T.ne (i := 16) (j := 2) rfl rfl (by decide) z).elim) (fun _ => ?_))
    refine ds_seq (ds_isE (a0 := a0) (C := a.c_NothingToRedo) (d0 := d0) (l0 := kF one two three 15) rfl hpn T.e_NothingToRedo T.e_BadTable (nodup_ne T.ne (i := 0) (j := 3) rfl rfl (by decide)) (fun z => (nodup_ne T.ne (i := 16) (j := 3) rfl rfl (by decide) z).elim) (fun _ => ?_))
    refine ds_seq (ds_isE (a0 := a0) (C := a.c_NothingToRedo) (d0 := d0) (l0 := kF one two three 15) rfl hpn T.e_NothingToRedo T.e_BadForm (nodup_ne T.ne (i := 0) (j := 4) rfl rfl (by decide)) (fun z => (nodup_ne T.ne (i := 16) (j := 4) rfl rfl (by decide) z).elim) (fun _ => ?_))
    refine ds_seq (ds_isE (a0 := a0) (C := a.c_NothingToRedo) (d0 := d0) (l0 := kF one two three 15) rfl hpn T.e_NothingToRedo T.e_BadBook (nodup_ne T.ne (i := 0) (j := 5) rfl rfl (by decide)) (fun z => (nodup_ne T.ne (i := 16) (j := 5) rfl rfl (by decide) z).elim) (fun _ => ?_))
    refine ds_seq (ds_isE (a0 := a0) (C := a.c_NothingToRedo) (d0 := d0) (l0 := kF one two three 15) rfl hpn T.e_NothingToRedo T.e_BadName (nodup_ne T.ne (i := 0) (j := 6) rfl rfl (by decide)) (fun z => (nodup_ne T.ne (i := 16) (j := 6) rfl rfl (by decide) z).elim) (fun _ => ?_))
    refine ds_seq (ds_isE (a0 := a0) (C := a.c_NothingToRedo) (d0 := d0) (l0 := kF one two three 15) rfl hpn T.e_NothingToRedo T.e_BadText (nodup_ne T.ne (i := 0) (j := 7) rfl rfl (by decide)) (fun z => (nodup_ne T.ne (i := 16) (j := 7) rfl rfl (by decide) z).elim) (fun _ => ?_))
    refine ds_seq (ds_isE (a0 := a0) (C := a.c_NothingToRedo) (d0 := d0) (l0 := kF one two three 15) rfl hpn T.e_NothingToRedo T.e_NoPlace (nodup_ne T.ne (i := 0) (j := 8) rfl rfl (by decide)) (fun z => (nodup_ne T.ne (i := 16) (j := 8) rfl rfl (by decide) z).elim) (fun _ => ?_))
    exact ds_ret (de_new (dn_addL_own rfl (de_callP EL.no trivial (dc_cons (de_var rfl (dc_nil ⟨15, a0, d0, one, two, three, by decide, hpn, rfl, h1, h2, _, rfl, (show 1 ≤ 16000 by decide), hR⟩))))))
end
end Law

set_option Elab.async false
set_option linter.all false
set_option maxRecDepth 100000
set_option maxHeartbeats 4000000
namespace Law
open PySem PySem.Spec PyProof.Rows L2 G
theorem kE {K : PySem.W.Frag} {mg : Str → Option Value} {a : Ad} (T : Tx K mg a) {k : Nat} (hk : k < 16) : ErrK K (kC a k) (.ref a.c_GenusError :: veT) := by
  have hk' : k = 0 ∨ k = 1 ∨ k = 2 ∨ k = 3 ∨ k = 4 ∨ k = 5 ∨ k = 6 ∨ k = 7 ∨ k = 8 ∨ k = 9 ∨ k = 10 ∨ k = 11 ∨ k = 12 ∨ k = 13 ∨ k = 14 ∨ k = 15 := by omega
  rcases hk' with rfl | rfl | rfl | rfl | rfl | rfl | rfl | rfl | rfl | rfl | rfl | rfl | rfl | rfl | rfl | rfl
  · exact T.e_BadNumber
  · exact T.e_BadRow
  · exact T.e_BadTable
  · exact T.e_BadForm
  · exact T.e_BadBook
  · exact T.e_BadName
  · exact T.e_BadText
  · exact T.e_NoPlace
  · exact T.e_NoName
  · exact T.e_TakenName
  · exact T.e_Unlike
  · exact T.e_NotThere
  · exact T.e_TooMany
  · exact T.e_NotKept
  · exact T.e_NothingToUndo
  · exact T.e_NothingToRedo
/-- what _law_fault tells of what it was handed -/
def FoF (a : Ad) (Qb : D → Prop) (X : Addr → List (Str × D) → Prop) (R : D → Prop) : Prop :=
  (∀ d, Qb d → R .non) ∧ ∀ C fs, X C fs → ∃ (k : Nat) (one two three : D), k < 16 ∧ C = kC a k ∧ fs = kF one two three k ∧ ((k = 5 ∨ k = 8 ∨ k = 9) → okR one) ∧ ((k = 0 ∨ k = 1 ∨ k = 7) → okR two) ∧ R (kT one two three k)
theorem gives__law_fault {P : Program} {w : World} {K : PySem.W.Frag} {mg : Str → Option Value} {base : Heap} {A : Around} {st : List Env} {a : Ad} {k : Nat} {q : Str} (T : Tx K mg a) (hS : Sy mg base a) (cdg : Value) : GivesG P w K mg base A st (k + 1) nm__law_fault "_law_fault" (defScope s__law_fault) a.f__law_fault cdg (defBody s__law_fault) "call" q (TTd K (FoF a)) := by
  intro f c' s H Q tl hr act hcd h
  obtain ⟨b0, Hf, Qb, Xf, R, hx, htl, ⟨hN, hK⟩, hQ⟩ := h
  have hk2 : 2 ≤ k + 1 + 1 := by omega
  refine ⟨_, (pss_cons (ps_set (i := 1) sc__law_fault.nd rfl (Or.inl rfl) pe_non)
      (pss_cons (ps_tryD (i := 2) rfl rfl sc__law_fault.nd rfl rfl ⟨by rfl, by decide, Or.inl T.g_GenusError⟩ (takes_of rfl rfl rfl rfl) (fun W pn xe tkW pO => (pss_one (ps_expr (act pn xe (WE W) _ _ (passAt tkW))))) (fun a0 oe cls d0 pn hz hf => (pss_cons (ps_set (i := 1) sc__law_fault.nd rfl (Or.inl rfl) (pe_goX (ok__law_kinds T hS) hz hf ((hr.mark (some (.ref a0))).mono hk2) List.mem_cons_self (by rfl) T.g__law_kinds T.F__law_kinds.kp T.b__law_kinds lets0 (pa_cons (pv 2) pa_nil)))
      (pss_one (ps_set (i := 1) sc__law_fault.nd rfl (Or.inl rfl) (pe_ifExp (PW.pt (pw_and (pt_cmpR (show OpR _ _ (rEqG K) from op_eqG (hr.mark (some (.ref a0))).hu) (pe_callB (show CallR _ _ (rLenV K) from call_lenV) (by rfl) T.n_len PySem.boot_len (pa_cons (pv 1) pa_nil)) pe_int (nomark _)) (pw_and1 (pt_val (pe_callB (show CallR _ _ (rIsG K (fun a' d' C' => a' = a0 ∧ d' = d0 ∧ Value.ref C' = cls ∧ XcC K C')) from call_isG (fun a' d' C' z => pnp_of (pn := pn) hz hf z)) (by rfl) T.n_isinstance PyProof.Rows.boot_isinstance (pa_cons (pv 2) (pa_cons (pe_bltn (v := .ty "ValueError") (by rfl) T.n_ValueError (by decide +kernel) rfl) pa_nil))))))) (pe_ix (show IxR _ (rIx K) from ix_seq) (pv 1) pe_int (fun _ _ => rfl)) (pe_tup (pa_cons pe_str (pa_cons (pe_callB (show CallR _ _ (rLenV K) from call_lenV) (by rfl) T.n_len PySem.boot_len (pa_cons (pv 1) pa_nil)) pa_nil)))))))))
      (pss_one (ps_ret (pv 1))))), ?_⟩
  have c0 : (b0.cut Hf H).B c' = some (LamX.CodeO c' q) := by
    show (if c' ∈ b0.M ∨ c' ∈ b0.T.map (·.1) then none else H c') = _
    rw [if_neg ?_]
    · exact hcd
    · rintro (z | z)
      · obtain ⟨_, _, o, e1, _, _, _, _, _, _, e2, _⟩ := hx.pens c' z
        rw [hcd] at e1
        rw [← Option.some.inj e1] at e2
        unfold LamX.CodeO at e2
        cases e2
      · obtain ⟨p, hp, e⟩ := List.mem_map.mp z
        obtain ⟨_, _, _, ps, e1, _⟩ := hx.tabs p hp
        rw [e, hcd] at e1
        exact LamX.codeO_ne ps (Option.some.inj e1)
  have fr : Fm K (b0.cut Hf H) Hf H (L2.start nm__law_fault [.ref f]) [.sh (.fn f), .no, .no] := by
    have own : ∀ i u, ¬ Own (L2.start nm__law_fault [.ref f]) [.sh (.fn f), .no, .no] i u := fun i u z => by
      obtain ⟨⟨ds, h1⟩, _⟩ := z
      match i with
      | 0 => cases h1
      | 1 => cases h1
      | 2 => cases h1
      | i + 3 => simp at h1
    refine { ex := hx.cut, len := rfl, sl := fun i o s h1 h2 => ?_, mine := fun i u z => (own i u z).elim, sep := fun i j u z => (own i u z).elim }
    match i with
    | 0 =>
      cases h1; cases h2
      exact Rp.fn f
    | 1 =>
      cases h1; cases h2
      trivial
    | 2 =>
      cases h1; cases h2
      trivial
    | i + 3 => simp at h2
  refine (show DS K (b0.cut Hf H) [.sh (.fn f), .no, .no] _ (fun _ => R .non) R (fun _ => False) (fun _ => False) from ?_) Hf H _ _ fr (fun ρ' σ' Hf' H' e fr q => hQ .non .non Hf' H' fr.ex .non q) (fun v d Hf' H' e x r q => hQ v d Hf' H' x r q) (fun _ _ _ _ _ _ z => z.elim) (fun _ _ _ _ _ _ z => z.elim)
  refine ds_seq (ds_asg (de_non ?_))
  refine ds_seq (ds_try Xf (fun d z => nomatch z) (fun b' W sub hE => ?_) (fun b' C fs sub hx => ?_))
  · refine ds_drop (de_act htl sub sub.M sub.T c0 (nx := []) hE rfl (fun i s h => ?_) (fun d hd => ds_ret (de_var rfl (hN d hd))))
    match i with
    | 0 => cases h; exact Or.inr (Or.inr rfl)
    | 1 => cases h; exact Or.inr (Or.inl rfl)
    | 2 => cases h; exact Or.inl rfl
    | i + 3 => simp at h
  · obtain ⟨k, one, two, three, hk, rfl, rfl, h1, h2, hR⟩ := hK C fs hx
    have e := kE T hk
    refine ⟨(e.exm T.e_GenusError vees0).trans (by rw [contains_base]), fun a0 d0 => ?_⟩
    have xc := e.xc T.eb vees
    refine ds_seq (ds_asg (de_callX EL.no (dc_cons (de_var rfl (dc_nil fun oe hz hf => ⟨trivial, k, a0, d0, one, two, three, hk, ⟨oe, List.mem_singleton.mpr rfl, hz, hf, xc⟩, rfl, h1, h2, ?_⟩)))))
    refine ds_asg (de_ite (dt_and (dt_test (de_eqI (de_len (de_var rfl ⟨1, rfl, de_int ⟨1, 1, rfl, rfl, true, rfl, iteT ?_⟩⟩))))))
    refine dt_test (de_isX (.ty "ValueError") (de_var rfl ⟨a0, d0, kC a k, kF one two three k, true, rfl, ⟨rfl, rfl, rfl, xc⟩, e.kitT vees, true, rfl, iteT ?_⟩))
    exact de_ix (de_var rfl (de_int ⟨0, kT one two three k, rfl, rfl, ds_ret (de_var rfl hR)⟩))
end Law

set_option Elab.async false
set_option linter.all false
set_option maxRecDepth 100000
set_option maxHeartbeats 4000000
namespace Law
open PySem PySem.Spec PyProof.Rows L2 G
section
variable {P : Program} {w : World} {K : PySem.W.Frag} {mg : Str → Option Value} {base : Heap} {a : Ad}
def isI : D → Bool
  | .int _ => true
  | _ => false
/-- plain: a built-in class is told -/
def Pl (x : D) : Prop := ∃ t, tyD x = some t
def F_isI : DF := fun ss R _ => ∃ x, ss = [.sh x] ∧ Pl x ∧ R (.bl (isI x))
theorem de_isInt {b : Bs} {ρ : List Sl} {pn : PinP} {i : Nat} {x : D} {Q : D → Prop} (hi : ρ[i]? = some (.sh x)) (hx : Pl x) (q : Q (.bl (isI x))) :
    DE K b ρ (tAndV (tCB (rIsG K pn) (tCons (tVar i) (tCons (tC (.ty "int")) tNil))) (tNotV (tCB (rIsG K pn) (tCons (tVar i) (tCons (tC (.ty "bool")) tNil))))) Q := by
  obtain ⟨t, ht⟩ := hx
  cases x with
  | non => exact de_andV (de_isT (de_var hi ⟨_, false, rfl, by decide +kernel, false, rfl, iteF q⟩))
  | str s => exact de_andV (de_isT (de_var hi ⟨_, false, rfl, by decide +kernel, false, rfl, iteF q⟩))
  | tup l => exact de_andV (de_isT (de_var hi ⟨_, false, rfl, by decide +kernel, false, rfl, iteF q⟩))
  | lst l => exact de_andV (de_isT (de_var hi ⟨_, false, rfl, by decide +kernel, false, rfl, iteF q⟩))
  | dic l => exact de_andV (de_isT (de_var hi ⟨_, false, rfl, by decide +kernel, false, rfl, iteF q⟩))
  | bl c => exact de_andV (de_isT (de_var hi ⟨_, true, rfl, by decide +kernel, true, rfl, iteT (de_notV (de_isT (de_var hi ⟨_, true, rfl, by decide +kernel, true, rfl, q⟩)))⟩))
  | int c => exact de_andV (de_isT (de_var hi ⟨_, true, rfl, by decide +kernel, true, rfl, iteT (de_notV (de_isT (de_var hi ⟨_, false, rfl, by decide +kernel, false, rfl, q⟩)))⟩))
  | ty _ => cases ht
  | fn _ => cases ht
  | obj _ _ => cases ht
  | exc _ _ _ _ => cases ht
theorem ok_is_integer (T : Tx K mg a) (hS : Sy mg base a) : FnG P w K mg base true 1 a.f_is_integer a.d_is_integer (["value"] : List Str) (fun _ => spD K F_isI) := by
  refine fn_data T.F_is_integer sc_is_integer (fun ss R X z => by obtain ⟨_, h, _⟩ := z; rw [h] <;> rfl) fun cdv A outer s H E pl hr => ⟨_, (pss_one (ps_ret (pe_and (pe_callB (call_isG (pn := (fun _ _ _ => False)) (fun _ _ _ z => z.elim)) (by rfl) T.n_isinstance PyProof.Rows.boot_isinstance (pa_cons (pv 0) (pa_cons (pe_bltn (v := .ty "int") (by rfl) T.n_int PyProof.Rows.boot_int rfl) pa_nil))) (pe_one (pe_not (pe_callB (call_isG (pn := (fun _ _ _ => False)) (fun _ _ _ z => z.elim)) (by rfl) T.n_isinstance PyProof.Rows.boot_isinstance (pa_cons (pv 0) (pa_cons (pe_bltn (v := .ty "bool") (by rfl) T.n_bool PyProof.Rows.boot_bool rfl) pa_nil)))))))), fun b ss R X h hX => ?_⟩
  obtain ⟨x, rfl, hx, q⟩ := h
  exact ds_ret (de_isInt rfl hx q)
theorem ok__law_is_whole (T : Tx K mg a) (hS : Sy mg base a) : FnG P w K mg base true 1 a.f__law_is_whole a.d__law_is_whole (["value"] : List Str) (fun _ => spD K F_isI) := by
  refine fn_data T.F__law_is_whole sc__law_is_whole (fun ss R X z => by obtain ⟨_, h, _⟩ := z; rw [h] <;> rfl) fun cdv A outer s H E pl hr => ⟨_, (pss_one (ps_ret (pe_and (pe_callB (call_isG (pn := (fun _ _ _ => False)) (fun _ _ _ z => z.elim)) (by rfl) T.n_isinstance PyProof.Rows.boot_isinstance (pa_cons (pv 0) (pa_cons (pe_bltn (v := .ty "int") (by rfl) T.n_int PyProof.Rows.boot_int rfl) pa_nil))) (pe_one (pe_not (pe_callB (call_isG (pn := (fun _ _ _ => False)) (fun _ _ _ z => z.elim)) (by rfl) T.n_isinstance PyProof.Rows.boot_isinstance (pa_cons (pv 0) (pa_cons (pe_bltn (v := .ty "bool") (by rfl) T.n_bool PyProof.Rows.boot_bool rfl) pa_nil)))))))), fun b ss R X h hX => ?_⟩
  obtain ⟨x, rfl, hx, q⟩ := h
  exact ds_ret (de_isInt rfl hx q)
/-- plain, and where it is a pair its parts are -/
def Pr (x : D) : Prop := Pl x ∧ ∀ u v, x = .tup [u, v] → Pl u ∧ Pl v
def pairOk : D → D → Bool
  | .int i, .int j => decide (j > 1) && decide (((Nat.gcd i.natAbs j.natAbs : Nat) : Int) = 1)
  | _, _ => false
def isRt : D → Bool
  | .tup [u, v] => pairOk u v
  | .tup _ => false
  | x => isI x
def F_isRt : DF := fun ss R _ => ∃ x, ss = [.sh x] ∧ Pr x ∧ R (.bl (isRt x))
theorem isRt_pair {u v : D} (h : isI u = false ∨ isI v = false) : isRt (.tup [u, v]) = false := by
  cases u <;> cases v <;> first | rfl | (simp [isI] at h)
theorem ok_is_ratio (T : Tx K mg a) (hS : Sy mg base a) : FnG P w K mg base true 2 a.f_is_ratio a.d_is_ratio (["value"] : List Str) (fun _ => spD K F_isRt) := by
  refine fn_data T.F_is_ratio sc_is_ratio (fun ss R X z => by obtain ⟨_, h, _⟩ := z; rw [h] <;> rfl) fun cdv A outer s H E pl hr => ⟨_, (pss_cons (ps_if (pt_not (pt_val (pe_callB (call_isG (pn := (fun _ _ _ => False)) (fun _ _ _ z => z.elim)) (by rfl) T.n_isinstance PyProof.Rows.boot_isinstance (pa_cons (pv 0) (pa_cons (pe_bltn (v := .ty "tuple") (by rfl) T.n_tuple PyProof.Rows.boot_tuple rfl) pa_nil))))) (pss_one (ps_ret (pe_go (ok_is_integer T hS) (hr.mono (by decide)) (pl := []) (fun _ h => nomatch h) (by rfl) T.g_is_integer T.F_is_integer.kp T.b_is_integer lets0 (pa_cons (pv 0) pa_nil)))) pss_nil)
      (pss_cons (ps_if (PW.pt (pw_or (pt_cmpR (op_neG hr.hu) (pe_callB call_lenV (by rfl) T.n_len PySem.boot_len (pa_cons (pv 0) pa_nil)) pe_int (nomark _)) (pw_or (pt_not (pt_val (pe_go (ok_is_integer T hS) (hr.mono (by decide)) (pl := []) (fun _ h => nomatch h) (by rfl) T.g_is_integer T.F_is_integer.kp T.b_is_integer lets0 (pa_cons (pe_ix ix_seq (pv 0) pe_int (fun _ _ => rfl)) pa_nil)))) (pw_or1 (pt_not (pt_val (pe_go (ok_is_integer T hS) (hr.mono (by decide)) (pl := []) (fun _ h => nomatch h) (by rfl) T.g_is_integer T.F_is_integer.kp T.b_is_integer lets0 (pa_cons (pe_ix ix_seq (pv 0) pe_int (fun _ _ => rfl)) pa_nil)))))))) (pss_one (ps_ret pe_bl)) pss_nil)
      (pss_one (ps_ret (pe_and (pe_cmpR op_gt (pe_ix ix_seq (pv 0) pe_int (fun _ _ => rfl)) pe_int (nomark _)) (pe_one (pe_cmpR (op_eqG hr.hu) (pe_callBfun cr_gcd (by rfl) T.m_gcd (pa_cons (pe_ix ix_seq (pv 0) pe_int (fun _ _ => rfl)) (pa_cons (pe_ix ix_seq (pv 0) pe_int (fun _ _ => rfl)) pa_nil))) pe_int (nomark _)))))))), fun b ss R X h hX => ?_⟩
  obtain ⟨x, rfl, ⟨hx, hp⟩, q⟩ := h
  cases x with
  | non => exact ds_seq (ds_if (dt_not (dt_test (de_isT (de_var rfl ⟨_, false, rfl, by decide +kernel, false, rfl, iteT (ds_ret (de_call EL.no (dc_cons (de_var rfl (dc_nil ⟨_, rfl, hx, q⟩)))))⟩)))))
  | bl c => exact ds_seq (ds_if (dt_not (dt_test (de_isT (de_var rfl ⟨_, false, rfl, by decide +kernel, false, rfl, iteT (ds_ret (de_call EL.no (dc_cons (de_var rfl (dc_nil ⟨_, rfl, hx, q⟩)))))⟩)))))
  | int c => exact ds_seq (ds_if (dt_not (dt_test (de_isT (de_var rfl ⟨_, false, rfl, by decide +kernel, false, rfl, iteT (ds_ret (de_call EL.no (dc_cons (de_var rfl (dc_nil ⟨_, rfl, hx, q⟩)))))⟩)))))
  | str c => exact ds_seq (ds_if (dt_not (dt_test (de_isT (de_var rfl ⟨_, false, rfl, by decide +kernel, false, rfl, iteT (ds_ret (de_call EL.no (dc_cons (de_var rfl (dc_nil ⟨_, rfl, hx, q⟩)))))⟩)))))
  | lst c => exact ds_seq (ds_if (dt_not (dt_test (de_isT (de_var rfl ⟨_, false, rfl, by decide +kernel, false, rfl, iteT (ds_ret (de_call EL.no (dc_cons (de_var rfl (dc_nil ⟨_, rfl, hx, q⟩)))))⟩)))))
  | dic c => exact ds_seq (ds_if (dt_not (dt_test (de_isT (de_var rfl ⟨_, false, rfl, by decide +kernel, false, rfl, iteT (ds_ret (de_call EL.no (dc_cons (de_var rfl (dc_nil ⟨_, rfl, hx, q⟩)))))⟩)))))
  | ty _ => obtain ⟨_, h⟩ := hx; cases h
  | fn _ => obtain ⟨_, h⟩ := hx; cases h
  | obj _ _ => obtain ⟨_, h⟩ := hx; cases h
  | exc _ _ _ _ => obtain ⟨_, h⟩ := hx; cases h
  | tup l =>
    refine ds_seq (ds_if (dt_not (dt_test (de_isT (de_var rfl ⟨_, true, rfl, by decide +kernel, true, rfl, iteF (ds_next ?_)⟩)))))
    refine ds_seq (ds_if (dt_or (dt_test (de_neI (de_len (de_var rfl ⟨l.length, rfl, de_int ⟨l.length, 2, rfl, rfl, _, rfl, ?_⟩⟩))))))
    by_cases hl : l.length = 2
    · obtain ⟨u, v, rfl⟩ : ∃ u v, l = [u, v] := by
        match l, hl with
        | [u, v], _ => exact ⟨u, v, rfl⟩
      obtain ⟨pu, pv'⟩ := hp u v rfl
      refine iteF ?_
      refine dt_or (dt_not (dt_test (de_call EL.no (dc_cons (de_ix (de_var rfl (de_int ⟨0, u, rfl, rfl, dc_nil ⟨_, rfl, pu, isI u, rfl, ?_⟩⟩)))))))
      cases eu : isI u with
      | false =>
        rw [isRt_pair (Or.inl eu)] at q
        exact iteT (iteT (ds_ret (de_bl q)))
      | true =>
        refine iteF (dt_not (dt_test (de_call EL.no (dc_cons (de_ix (de_var rfl (de_int ⟨1, v, rfl, rfl, dc_nil ⟨_, rfl, pv', isI v, rfl, ?_⟩⟩)))))))
        cases ev : isI v with
        | false =>
          rw [isRt_pair (Or.inr ev)] at q
          exact iteT (ds_ret (de_bl q))
        | true =>
          obtain ⟨i, rfl⟩ : ∃ i, u = .int i := by cases u <;> first | exact ⟨_, rfl⟩ | cases eu
          obtain ⟨j, rfl⟩ : ∃ j, v = .int j := by cases v <;> first | exact ⟨_, rfl⟩ | cases ev
          refine iteF (ds_next (ds_ret (de_andV (de_B0 (de_ix (de_var rfl (de_int ⟨1, .int j, rfl, rfl, de_int ⟨j, 1, rfl, rfl, _, rfl, ?_⟩⟩)))))))
          have e : isRt (.tup [.int i, .int j]) = (decide (j > 1) && decide (((Nat.gcd i.natAbs j.natAbs : Nat) : Int) = 1)) := rfl
          rw [e] at q
          refine ite2 (fun z => ?_) (fun z => ?_)
          · rw [z, Bool.true_and] at q
            exact de_eqI (de_gcd (de_ix (de_var rfl (de_int ⟨0, .int i, rfl, rfl, de_ix (de_var rfl (de_int ⟨1, .int j, rfl, rfl, i, j, rfl, rfl, de_int ⟨_, 1, rfl, rfl, q⟩⟩))⟩))))
          · have z' : decide (j > 1) = false := by simpa using z
            rw [z', Bool.false_and] at q
            exact q
    · have e : isRt (.tup l) = false := by
        match l, hl with
        | [], _ => rfl
        | [_], _ => rfl
        | _ :: _ :: _ :: _, _ => rfl
      rw [e] at q
      have hn : (!decide ((l.length : Int) = 2)) = true := by
        have : ¬ (l.length : Int) = 2 := by omega
        rw [decide_eq_false this] <;> rfl
      rw [hn]
      exact iteT (iteT (ds_ret (de_bl q)))
end
end Law

set_option Elab.async false
set_option linter.all false
set_option maxRecDepth 100000
set_option maxHeartbeats 4000000
namespace Law
open PySem PySem.Spec PyProof.Rows L2 G
theorem abs_if (i : Int) : (if i < 0 then -i else i) = (i.natAbs : Int) := by
  split <;> omega
theorem fmod_nat (x y : Nat) : ((x : Int)).fmod y = ((x % y : Nat) : Int) := by
  rw [Int.fmod_eq_emod_of_nonneg _ (by omega)]
  exact (Int.natCast_emod x y).symm
/-- what a ratio is divided by to be in lowest terms -/
def byZ (t v : Int) : Int := if v < 0 then -((Nat.gcd t.natAbs v.natAbs : Nat) : Int) else ((Nat.gcd t.natAbs v.natAbs : Nat) : Int)
def lowZ (t v : Int) : D := if v = byZ t v then .int (t.fdiv (byZ t v)) else .tup [.int (t.fdiv (byZ t v)), .int (v.fdiv (byZ t v))]
theorem byZ_facts {t v : Int} (h : v ≠ 0) : byZ t v ≠ 0 ∧ (byZ t v).natAbs ≤ v.natAbs := by
  have g0 : 0 < Nat.gcd t.natAbs v.natAbs := Nat.gcd_pos_of_pos_right _ (by omega)
  have g1 : Nat.gcd t.natAbs v.natAbs ≤ v.natAbs := Nat.le_of_dvd (by omega) (Nat.gcd_dvd_right _ _)
  unfold byZ
  split <;> omega
theorem log_of_le {x y : Int} (h : x.natAbs ≤ y.natAbs) (h0 : x ≠ 0) {n : Nat} (hy : y.natAbs.log2 < n) : x.natAbs.log2 < n := by
  have : y.natAbs < 2 ^ n := (Nat.log2_lt (by omega)).mp hy
  exact (Nat.log2_lt (by omega)).mpr (by omega)
/-- a ratio's two ends -/
inductive RtV : D → Int → Int → Prop
  | int (t : Int) : RtV (.int t) t 1
  | pair (t b : Int) (h1 : 1 < b) (h2 : Nat.gcd t.natAbs b.natAbs = 1) : RtV (.tup [.int t, .int b]) t b
def oppD : D → D
  | .int t => .int (-t)
  | .tup [.int t, b] => .tup [.int (-t), b]
  | x => x
theorem RtV.opp {x : D} {t b : Int} (h : RtV x t b) : RtV (oppD x) (-t) b := by
  cases h with
  | int t => exact .int _
  | pair t b h1 h2 => exact .pair _ _ h1 (by rw [Int.natAbs_neg]; exact h2)
theorem RtV.pos {x : D} {t b : Int} (h : RtV x t b) : 0 < b := by
  cases h with
  | int t => decide
  | pair t b h1 h2 => omega
theorem RtV.pl {x : D} {t b : Int} (h : RtV x t b) : Pl x := by
  cases h <;> exact ⟨_, rfl⟩
theorem RtV.pr {x : D} {t b : Int} (h : RtV x t b) : Pr x := by
  refine ⟨h.pl, fun u v e => ?_⟩
  cases h with
  | int t => cases e
  | pair t b h1 h2 => cases e; exact ⟨⟨_, rfl⟩, ⟨_, rfl⟩⟩
theorem RtV.rt {x : D} {t b : Int} (h : RtV x t b) : isRt x = true := by
  cases h with
  | int t => rfl
  | pair t b h1 h2 =>
    show (decide (b > 1) && decide (((Nat.gcd t.natAbs b.natAbs : Nat) : Int) = 1)) = true
    rw [h2, decide_eq_true h1] <;> rfl
theorem lowZ_one (t : Int) : lowZ t 1 = .int t := by
  have g : byZ t 1 = 1 := by
    unfold byZ
    rw [if_neg (by decide), show Nat.gcd t.natAbs (1 : Int).natAbs = 1 from Nat.gcd_one_right _] <;> rfl
  unfold lowZ
  rw [g, if_pos rfl]
  have : t.fdiv 1 = t := by
    rw [Int.fdiv_eq_ediv_of_nonneg _ (by decide)]
    exact Int.ediv_one t
  rw [this]
section
variable {P : Program} {w : World} {K : PySem.W.Frag} {mg : Str → Option Value} {base : Heap} {a : Ad}
def F_div : DF := fun ss R _ => ∃ u v : Int, ss = [.sh (.int u), .sh (.int v)] ∧ R (.int ((Nat.gcd u.natAbs v.natAbs : Nat) : Int))
theorem ok__law_divisor (T : Tx K mg a) (hS : Sy mg base a) : FnG P w K mg base true 1 a.f__law_divisor a.d__law_divisor (["one", "other"] : List Str) (fun _ => spD K F_div) := by
  refine fn_data T.F__law_divisor sc__law_divisor (fun ss R X z => by obtain ⟨_, _, h, _⟩ := z; rw [h] <;> rfl) fun cdv A outer s H E pl hr => ⟨_, (pss_cons (ps_par (i := 0) (j := 1) rfl sc__law_divisor.nd rfl rfl (by decide) rfl rfl (pa_cons (pe_callB call_absV (by rfl) T.n_abs (by decide +kernel) (pa_cons (pv 0) pa_nil)) (pa_cons (pe_callB call_absV (by rfl) T.n_abs (by decide +kernel) (pa_cons (pv 1) pa_nil)) pa_nil)) rfl)
      (pss_cons (ps_while (passes_of rfl) (pt_cmpR (op_neG hr.hu) (pv 1) pe_int (nomark _)) (pss_one (ps_par (i := 0) (j := 1) rfl sc__law_divisor.nd rfl rfl (by decide) rfl rfl (pa_cons (pv 1) (pa_cons (pe_op op_modN (pe_callTy call_intV (by rfl) T.n_int PyProof.Rows.boot_int (pa_cons (pv 0) pa_nil)) (pv 1)) pa_nil)) rfl)))
      (pss_one (ps_ret (pv 0))))), fun b ss R X h hX => ?_⟩
  obtain ⟨u, v, rfl, q⟩ := h
  refine ds_seq (ds_par (da_cons (de_abs (de_var rfl ⟨u, rfl, da_cons (de_abs (de_var rfl ⟨v, rfl, da_nil ⟨_, _, rfl, ?_⟩⟩))⟩))))
  rw [abs_if, abs_if]
  refine ds_seq (ds_while (fun m ρ => ∃ x y : Nat, ρ = [.sh (.int x), .sh (.int y)] ∧ Nat.gcd x y = Nat.gcd u.natAbs v.natAbs ∧ m = y) v.natAbs ⟨_, _, rfl, rfl, rfl⟩ (fun m ρ h => ?_))
  obtain ⟨x, y, rfl, hg, rfl⟩ := h
  refine dt_test (de_neI (de_var rfl (de_int ⟨m, 0, rfl, rfl, _, rfl, ?_⟩)))
  refine ite2 (fun z => ?_) (fun z => ?_)
  · have z' : m ≠ 0 := by
      have : (m : Int) ≠ 0 := by simpa using z
      omega
    refine ds_par (da_cons (de_var rfl (da_cons (de_II (de_intc (de_var rfl (Or.inl ⟨x, rfl, de_var rfl ⟨x, m, rfl, rfl, by omega, da_nil ⟨_, _, rfl, x % m, Nat.mod_lt _ (by omega), m, x % m, ?_, ?_, rfl⟩⟩⟩)))))))
    · rw [fmod_nat]; rfl
    · rw [← hg, Nat.gcd_comm x m]
      exact (Nat.gcd_rec m x).trans (Nat.gcd_comm _ _) |>.symm
  · have z' : m = 0 := by
      have : (m : Int) = 0 := by simpa using z
      omega
    subst z'
    rw [Nat.gcd_zero_right] at hg
    subst hg
    exact ds_ret (de_var rfl q)
def F_low : DF := fun ss R _ => ∃ t v : Int, ss = [.sh (.int t), .sh (.int v)] ∧ v ≠ 0 ∧ v.natAbs.log2 < 9000 ∧ R (lowZ t v)
theorem ok__law_low (T : Tx K mg a) (hS : Sy mg base a) : FnG P w K mg base true 2 a.f__law_low a.d__law_low (["top", "bottom"] : List Str) (fun _ => spD K F_low) := by
  refine fn_data T.F__law_low sc__law_low (fun ss R X z => by obtain ⟨_, _, h, _⟩ := z; rw [h] <;> rfl) fun cdv A outer s H E pl hr => ⟨_, (pss_cons (ps_set (i := 2) sc__law_low.nd rfl (Or.inl rfl) (pe_go (ok__law_divisor T hS) (hr.mono (by decide)) (pl := []) (fun _ h => nomatch h) (by rfl) T.g__law_divisor T.F__law_divisor.kp T.b__law_divisor lets0 (pa_cons (pv 0) (pa_cons (pv 1) pa_nil))))
      (pss_cons (ps_if (pt_cmpR op_lt (pv 1) pe_int (nomark _)) (pss_one (ps_set (i := 2) sc__law_low.nd rfl (Or.inl rfl) (pe_un un_neg (pv 2)))) pss_nil)
      (pss_one (ps_ret (pe_ifExp (pt_cmpR (op_eqG hr.hu) (pv 1) (pv 2) (nomark _)) (pe_op op_fdivG (pv 0) (pv 2)) (pe_tup (pa_cons (pe_op op_fdivG (pv 0) (pv 2)) (pa_cons (pe_op op_fdivG (pv 1) (pv 2)) pa_nil)))))))), fun b ss R X h hX => ?_⟩
  obtain ⟨t, v, rfl, hv, hv2, q⟩ := h
  obtain ⟨b0, b1⟩ := byZ_facts (t := t) hv
  have cd : ∀ i : Int, CDivA i (byZ t v) := fun i => ⟨b0, log_of_le b1 b0 hv2⟩
  refine ds_seq (ds_asg (de_call EL.no (dc_cons (de_var rfl (dc_cons (de_var rfl (dc_nil ⟨t, v, rfl, ?_⟩)))))))
  refine ds_seq (DS.mid (mid := fun ρ => ρ = [.sh (.int t), .sh (.int v), .sh (.int (byZ t v))]) ?_ fun ρ h => ?_)
  · refine ds_if (dt_test (de_B0 (de_var rfl (de_int ⟨v, 0, rfl, rfl, _, rfl, ite2 (fun z => ?_) (fun z => ?_)⟩))))
    · have z' : v < 0 := of_decide_eq_true z
      refine ds_asg (de_un (de_var rfl ⟨_, rfl, ?_⟩))
      unfold byZ
      rw [if_pos z'] <;> rfl
    · have z' : ¬ v < 0 := fun y => z (decide_eq_true y)
      refine ds_next ?_
      unfold byZ
      rw [if_neg z'] <;> rfl
  subst h
  unfold lowZ at q
  refine ds_ret (de_ite (dt_test (de_eqI (de_var rfl (de_var rfl ⟨v, _, rfl, rfl, _, rfl, ite2 (fun z => ?_) (fun z => ?_)⟩)))))
  · rw [if_pos (of_decide_eq_true z)] at q
    exact de_II (de_var rfl (de_var rfl ⟨t, _, rfl, rfl, cd t, q⟩))
  · rw [if_neg (fun y => z (decide_eq_true y))] at q
    exact de_tup (da_cons (de_II (de_var rfl (de_var rfl ⟨t, _, rfl, rfl, cd t, da_cons (de_II (de_var rfl (de_var rfl ⟨v, _, rfl, rfl, cd v, da_nil ⟨by simp, q⟩⟩)))⟩))))
theorem ok_in_lowest (T : Tx K mg a) (hS : Sy mg base a) : FnG P w K mg base true 1 a.f_in_lowest a.d_in_lowest (["top", "bottom"] : List Str) (fun _ => spD K F_low) := by
  refine fn_data T.F_in_lowest sc_in_lowest (fun ss R X z => by obtain ⟨_, _, h, _⟩ := z; rw [h] <;> rfl) fun cdv A outer s H E pl hr => ⟨_, (pss_cons (ps_set (i := 2) sc_in_lowest.nd rfl (Or.inl rfl) (pe_ifExp (pt_cmpR op_gt (pv 1) pe_int (nomark _)) (pe_callBfun cr_gcd (by rfl) T.m_gcd (pa_cons (pv 0) (pa_cons (pv 1) pa_nil))) (pe_un un_neg (pe_callBfun cr_gcd (by rfl) T.m_gcd (pa_cons (pv 0) (pa_cons (pv 1) pa_nil))))))
      (pss_one (ps_ret (pe_ifExp (pt_cmpR (op_eqG hr.hu) (pv 1) (pv 2) (nomark _)) (pe_op op_fdivG (pv 0) (pv 2)) (pe_tup (pa_cons (pe_op op_fdivG (pv 0) (pv 2)) (pa_cons (pe_op op_fdivG (pv 1) (pv 2)) pa_nil))))))), fun b ss R X h hX => ?_⟩
  obtain ⟨t, v, rfl, hv, hv2, q⟩ := h
  obtain ⟨b0, b1⟩ := byZ_facts (t := t) hv
  have cd : ∀ i : Int, CDivA i (byZ t v) := fun i => ⟨b0, log_of_le b1 b0 hv2⟩
  have rest : ∀ d, d = D.int (byZ t v) → DS K b ([.sh (.int t), .sh (.int v), .sh d]) (tRet (tIf (tTest (tOp (rEqG K) (tVar 1) (tVar 2))) (tOp (rI CDivA fun i j => .int (i.fdiv j)) (tVar 0) (tVar 2)) (tTup (tCons (tOp (rI CDivA fun i j => .int (i.fdiv j)) (tVar 0) (tVar 2)) (tCons (tOp (rI CDivA fun i j => .int (i.fdiv j)) (tVar 1) (tVar 2)) tNil))))) (fun _ => R .non) R (fun _ => False) (fun _ => False) := fun d e => by
    subst e
    unfold lowZ at q
    refine ds_ret (de_ite (dt_test (de_eqI (de_var rfl (de_var rfl ⟨v, _, rfl, rfl, _, rfl, ite2 (fun z => ?_) (fun z => ?_)⟩)))))
    · rw [if_pos (of_decide_eq_true z)] at q
      exact de_II (de_var rfl (de_var rfl ⟨t, _, rfl, rfl, cd t, q⟩))
    · rw [if_neg (fun y => z (decide_eq_true y))] at q
      exact de_tup (da_cons (de_II (de_var rfl (de_var rfl ⟨t, _, rfl, rfl, cd t, da_cons (de_II (de_var rfl (de_var rfl ⟨v, _, rfl, rfl, cd v, da_nil ⟨by simp, q⟩⟩)))⟩))))
  refine ds_seq (ds_asg (de_ite (dt_test (de_B0 (de_var rfl (de_int ⟨v, 0, rfl, rfl, _, rfl, ite2 (fun z => ?_) (fun z => ?_)⟩))))))
  · have z' : ¬ v < 0 := by have : v > 0 := of_decide_eq_true z; omega
    refine de_gcd (de_var rfl (de_var rfl ⟨t, v, rfl, rfl, rest _ ?_⟩))
    unfold byZ
    rw [if_neg z']
  · have z' : v < 0 := by have : ¬ v > 0 := fun y => z (decide_eq_true y); omega
    refine de_un (de_gcd (de_var rfl (de_var rfl ⟨t, v, rfl, rfl, _, rfl, rest _ ?_⟩)))
    unfold byZ
    rw [if_pos z']
def F_pair : DF := fun ss R _ => ∃ x t b, ss = [.sh x] ∧ RtV x t b ∧ R (.tup [.int t, .int b])
theorem ok_pair (T : Tx K mg a) (hS : Sy mg base a) : FnG P w K mg base true 1 a.f_pair a.d_pair (["number"] : List Str) (fun _ => spD K F_pair) := by
  refine fn_data T.F_pair sc_pair (fun ss R X z => by obtain ⟨_, _, _, h, _⟩ := z; rw [h] <;> rfl) fun cdv A outer s H E pl hr => ⟨_, (pss_one (ps_ret (pe_ifExp (pt_val (pe_callB (call_isG (pn := (fun _ _ _ => False)) (fun _ _ _ z => z.elim)) (by rfl) T.n_isinstance PyProof.Rows.boot_isinstance (pa_cons (pv 0) (pa_cons (pe_bltn (v := .ty "int") (by rfl) T.n_int PyProof.Rows.boot_int rfl) pa_nil)))) (pe_tup (pa_cons (pv 0) (pa_cons pe_int pa_nil))) (pv 0)))), fun b ss R X h hX => ?_⟩
  obtain ⟨x, t, v, rfl, hx, q⟩ := h
  cases hx with
  | int t => exact ds_ret (de_ite (dt_test (de_isT (de_var rfl ⟨_, true, rfl, by decide +kernel, true, rfl, iteT (de_tup (da_cons (de_var rfl (da_cons (de_int (da_nil ⟨by simp, q⟩))))))⟩))))
  | pair t v h1 h2 => exact ds_ret (de_ite (dt_test (de_isT (de_var rfl ⟨_, false, rfl, by decide +kernel, false, rfl, iteF (de_var rfl q)⟩))))
theorem ok__law_pair (T : Tx K mg a) (hS : Sy mg base a) : FnG P w K mg base true 1 a.f__law_pair a.d__law_pair (["number"] : List Str) (fun _ => spD K F_pair) := by
  refine fn_data T.F__law_pair sc__law_pair (fun ss R X z => by obtain ⟨_, _, _, h, _⟩ := z; rw [h] <;> rfl) fun cdv A outer s H E pl hr => ⟨_, (pss_one (ps_ret (pe_ifExp (pt_val (pe_callB (call_isG (pn := (fun _ _ _ => False)) (fun _ _ _ z => z.elim)) (by rfl) T.n_isinstance PyProof.Rows.boot_isinstance (pa_cons (pv 0) (pa_cons (pe_bltn (v := .ty "int") (by rfl) T.n_int PyProof.Rows.boot_int rfl) pa_nil)))) (pe_tup (pa_cons (pv 0) (pa_cons pe_int pa_nil))) (pv 0)))), fun b ss R X h hX => ?_⟩
  obtain ⟨x, t, v, rfl, hx, q⟩ := h
  cases hx with
  | int t => exact ds_ret (de_ite (dt_test (de_isT (de_var rfl ⟨_, true, rfl, by decide +kernel, true, rfl, iteT (de_tup (da_cons (de_var rfl (da_cons (de_int (da_nil ⟨by simp, q⟩))))))⟩))))
  | pair t v h1 h2 => exact ds_ret (de_ite (dt_test (de_isT (de_var rfl ⟨_, false, rfl, by decide +kernel, false, rfl, iteF (de_var rfl q)⟩))))
def F_opp : DF := fun ss R _ => ∃ x t b, ss = [.sh x] ∧ RtV x t b ∧ R (oppD x)
theorem ok_opposite (T : Tx K mg a) (hS : Sy mg base a) : FnG P w K mg base true 1 a.f_opposite a.d_opposite (["number"] : List Str) (fun _ => spD K F_opp) := by
  refine fn_data T.F_opposite sc_opposite (fun ss R X z => by obtain ⟨_, _, _, h, _⟩ := z; rw [h] <;> rfl) fun cdv A outer s H E pl hr => ⟨_, (pss_one (ps_ret (pe_ifExp (pt_val (pe_callB (call_isG (pn := (fun _ _ _ => False)) (fun _ _ _ z => z.elim)) (by rfl) T.n_isinstance PyProof.Rows.boot_isinstance (pa_cons (pv 0) (pa_cons (pe_bltn (v := .ty "int") (by rfl) T.n_int PyProof.Rows.boot_int rfl) pa_nil)))) (pe_un un_neg (pv 0)) (pe_tup (pa_cons (pe_un un_neg (pe_ix ix_seq (pv 0) pe_int (fun _ _ => rfl))) (pa_cons (pe_ix ix_seq (pv 0) pe_int (fun _ _ => rfl)) pa_nil)))))), fun b ss R X h hX => ?_⟩
  obtain ⟨x, t, v, rfl, hx, q⟩ := h
  cases hx with
  | int t => exact ds_ret (de_ite (dt_test (de_isT (de_var rfl ⟨_, true, rfl, by decide +kernel, true, rfl, iteT (de_un (de_var rfl ⟨_, rfl, q⟩))⟩))))
  | pair t v h1 h2 => exact ds_ret (de_ite (dt_test (de_isT (de_var rfl ⟨_, false, rfl, by decide +kernel, false, rfl, iteF (de_tup (da_cons (de_un (de_ix (de_var rfl (de_int ⟨0, .int t, rfl, rfl, t, rfl, da_cons (de_ix (de_var rfl (de_int ⟨1, .int v, rfl, rfl, da_nil ⟨by simp, q⟩⟩)))⟩))))))⟩))))
theorem ok__law_opposite (T : Tx K mg a) (hS : Sy mg base a) : FnG P w K mg base true 1 a.f__law_opposite a.d__law_opposite (["number"] : List Str) (fun _ => spD K F_opp) := by
  refine fn_data T.F__law_opposite sc__law_opposite (fun ss R X z => by obtain ⟨_, _, _, h, _⟩ := z; rw [h] <;> rfl) fun cdv A outer s H E pl hr => ⟨_, (pss_one (ps_ret (pe_ifExp (pt_val (pe_callB (call_isG (pn := (fun _ _ _ => False)) (fun _ _ _ z => z.elim)) (by rfl) T.n_isinstance PyProof.Rows.boot_isinstance (pa_cons (pv 0) (pa_cons (pe_bltn (v := .ty "int") (by rfl) T.n_int PyProof.Rows.boot_int rfl) pa_nil)))) (pe_un un_neg (pv 0)) (pe_tup (pa_cons (pe_un un_neg (pe_ix ix_seq (pv 0) pe_int (fun _ _ => rfl))) (pa_cons (pe_ix ix_seq (pv 0) pe_int (fun _ _ => rfl)) pa_nil)))))), fun b ss R X h hX => ?_⟩
  obtain ⟨x, t, v, rfl, hx, q⟩ := h
  cases hx with
  | int t => exact ds_ret (de_ite (dt_test (de_isT (de_var rfl ⟨_, true, rfl, by decide +kernel, true, rfl, iteT (de_un (de_var rfl ⟨_, rfl, q⟩))⟩))))
  | pair t v h1 h2 => exact ds_ret (de_ite (dt_test (de_isT (de_var rfl ⟨_, false, rfl, by decide +kernel, false, rfl, iteF (de_tup (da_cons (de_un (de_ix (de_var rfl (de_int ⟨0, .int t, rfl, rfl, t, rfl, da_cons (de_ix (de_var rfl (de_int ⟨1, .int v, rfl, rfl, da_nil ⟨by simp, q⟩⟩)))⟩))))))⟩))))
end
end Law

set_option Elab.async false
set_option linter.all false
set_option maxRecDepth 100000
set_option maxHeartbeats 4000000
namespace Law
open PySem PySem.Spec PyProof.Rows L2 G
/-- a bound on the ends -/
def Lg (n : Nat) (x : Int) : Prop := x.natAbs < 2 ^ n
theorem Lg.log {n : Nat} {x : Int} (h : Lg n x) (hn : 0 < n) : x.natAbs.log2 < n := by
  by_cases z : x = 0
  · subst z; exact hn
  · exact (Nat.log2_lt (by omega)).mpr h
theorem Lg.mul {n m : Nat} {x y : Int} (h : Lg n x) (h' : Lg m y) : Lg (n + m) (x * y) := by
  unfold Lg at *
  rw [Int.natAbs_mul, Nat.pow_add]
  exact Nat.mul_lt_mul'' h h'
theorem Lg.add {n : Nat} {x y : Int} (h : Lg n x) (h' : Lg n y) : Lg (n + 1) (x + y) := by
  unfold Lg at *
  have e : (2 : Nat) ^ (n + 1) = 2 ^ n * 2 := Nat.pow_succ ..
  have := Int.natAbs_add_le x y
  omega
theorem Lg.mono {n m : Nat} {x : Int} (h : Lg n x) (a : n ≤ m) : Lg m x := Nat.lt_of_lt_of_le h (Nat.pow_le_pow_right (by decide) a)
theorem Lg.ok {n m : Nat} {x y : Int} (h : Lg n x) (h' : Lg m y) (hn : 0 < n) (hm : 0 < m) (b : n + m ≤ 1000000) : IntMulOk x y := mul_wide (by have a := h.log hn; have c := h'.log hm; show _ < 1000000; omega)
section
variable {P : Program} {w : World} {K : PySem.W.Frag} {mg : Str → Option Value} {base : Heap} {a : Ad}
/-- two ratios, their ends of at most 1000 bits -/
structure Two (x y : D) (t b h l : Int) : Prop where
  x : RtV x t b
  y : RtV y h l
  t : Lg 1000 t
  b : Lg 1000 b
  h : Lg 1000 h
  l : Lg 1000 l
def F2 (G : D → D → Int → Int → Int → Int → (D → Prop) → Prop) : DF := fun ss R _ => ∃ x y t b h l, ss = [.sh x, .sh y] ∧ Two x y t b h l ∧ G x y t b h l R
def F_add : DF := F2 fun x y t b h l R => R (lowZ (t * l + h * b) (b * l))
def F_mul : DF := F2 fun x y t b h l R => R (lowZ (t * h) (b * l))
def F_ovr : DF := F2 fun x y t b h l R => h ≠ 0 ∧ R (lowZ (t * l) (b * h))
def F_les : DF := F2 fun x y t b h l R => R (.bl (decide (t * l < h * b)))
theorem Two.bl {x y : D} {t b h l : Int} (z : Two x y t b h l) : b * l ≠ 0 ∧ (b * l).natAbs.log2 < 9000 := by
  have p1 := z.x.pos
  have p2 := z.y.pos
  exact ⟨Int.mul_ne_zero (by omega) (by omega), Nat.lt_of_lt_of_le ((z.b.mul z.l).log (by decide)) (by decide)⟩
theorem Two.bh {x y : D} {t b h l : Int} (z : Two x y t b h l) (h0 : h ≠ 0) : b * h ≠ 0 ∧ (b * h).natAbs.log2 < 9000 := by
  have p1 := z.x.pos
  exact ⟨Int.mul_ne_zero (by omega) h0, Nat.lt_of_lt_of_le ((z.b.mul z.h).log (by decide)) (by decide)⟩
theorem Two.m (x y : Int) (h : Lg 1000 x) (h' : Lg 1000 y) : IntMulOk x y := h.ok h' (by decide) (by decide) (by decide)
theorem Two.m2 (x y : Int) (h : Lg 2000 x) (h' : Lg 1000 y) : IntMulOk x y := h.ok h' (by decide) (by decide) (by decide)
theorem ok_is_below (T : Tx K mg a) (hS : Sy mg base a) : FnG P w K mg base true 2 a.f_is_below a.d_is_below (["one", "other"] : List Str) (fun _ => spD K F_les) := by
  refine fn_data T.F_is_below sc_is_below (fun ss R X z => by obtain ⟨_, _, _, _, _, _, h, _⟩ := z; rw [h] <;> rfl) fun cdv A outer s H E pl hr => ⟨_, (pss_cons (ps_asg (pe_tup (pa_cons (pe_go (ok_pair T hS) (hr.mono (by decide)) (pl := []) (fun _ h => nomatch h) (by rfl) T.g_pair T.F_pair.kp T.b_pair lets0 (pa_cons (pv 0) pa_nil)) (pa_cons (pe_go (ok_pair T hS) (hr.mono (by decide)) (pl := []) (fun _ h => nomatch h) (by rfl) T.g_pair T.F_pair.kp T.b_pair lets0 (pa_cons (pv 1) pa_nil)) pa_nil))) (pg_tup rfl (pgs_cons (pg_tup rfl (pgs_cons (pg_name (i := 2) sc_is_below.nd rfl (Or.inl rfl)) (pgs_cons (pg_name (i := 3) sc_is_below.nd rfl (Or.inl rfl)) pgs_nil))) (pgs_cons (pg_tup rfl (pgs_cons (pg_name (i := 4) sc_is_below.nd rfl (Or.inl rfl)) (pgs_cons (pg_name (i := 5) sc_is_below.nd rfl (Or.inl rfl)) pgs_nil))) pgs_nil))))
      (pss_one (ps_ret (pe_cmpR op_lt (pe_op op_mulG (pv 2) (pv 5)) (pe_op op_mulG (pv 4) (pv 3)) (nomark _))))), fun b ss R X h hX => ?_⟩
  obtain ⟨x, y, t, v, u, l, rfl, two, q⟩ := h
  refine ds_seq (ds_asgG (de_tup (da_cons (de_call EL.no (dc_cons (de_var rfl (dc_nil ⟨x, t, v, rfl, two.x, da_cons (de_call EL.no (dc_cons (de_var rfl (dc_nil ⟨y, u, l, rfl, two.y, da_nil ⟨by simp, ?_⟩⟩))))⟩)))))))
  refine dg_tup rfl rfl (dgs_cons (dg_tup rfl rfl (dgs_cons (dg_name (dgs_cons (dg_name (dgs_nil (dgs_cons (dg_tup rfl rfl (dgs_cons (dg_name (dgs_cons (dg_name (dgs_nil (dgs_nil ?_)))))))))))))))
  exact ds_ret (de_B0 (de_II (de_var rfl (de_var rfl ⟨t, l, rfl, rfl, Two.m _ _ two.t two.l, de_II (de_var rfl (de_var rfl ⟨u, v, rfl, rfl, Two.m _ _ two.h two.b, _, _, rfl, rfl, q⟩))⟩))))
theorem ok_divided (T : Tx K mg a) (hS : Sy mg base a) : FnG P w K mg base true 2 a.f_divided a.d_divided (["one", "other"] : List Str) (fun _ => spD K F_ovr) := by
  refine fn_data T.F_divided sc_divided (fun ss R X z => by obtain ⟨_, _, _, _, _, _, h, _⟩ := z; rw [h] <;> rfl) fun cdv A outer s H E pl hr => ⟨_, (pss_cons (ps_asg (pe_tup (pa_cons (pe_go (ok_pair T hS) (hr.mono (by decide)) (pl := []) (fun _ h => nomatch h) (by rfl) T.g_pair T.F_pair.kp T.b_pair lets0 (pa_cons (pv 0) pa_nil)) (pa_cons (pe_go (ok_pair T hS) (hr.mono (by decide)) (pl := []) (fun _ h => nomatch h) (by rfl) T.g_pair T.F_pair.kp T.b_pair lets0 (pa_cons (pv 1) pa_nil)) pa_nil))) (pg_tup rfl (pgs_cons (pg_tup rfl (pgs_cons (pg_name (i := 2) sc_divided.nd rfl (Or.inl rfl)) (pgs_cons (pg_name (i := 3) sc_divided.nd rfl (Or.inl rfl)) pgs_nil))) (pgs_cons (pg_tup rfl (pgs_cons (pg_name (i := 4) sc_divided.nd rfl (Or.inl rfl)) (pgs_cons (pg_name (i := 5) sc_divided.nd rfl (Or.inl rfl)) pgs_nil))) pgs_nil))))
      (pss_one (ps_ret (pe_go (ok_in_lowest T hS) (hr.mono (by decide)) (pl := []) (fun _ h => nomatch h) (by rfl) T.g_in_lowest T.F_in_lowest.kp T.b_in_lowest lets0 (pa_cons (pe_op op_mulG (pv 2) (pv 5)) (pa_cons (pe_op op_mulG (pv 3) (pv 4)) pa_nil)))))), fun b ss R X h hX => ?_⟩
  obtain ⟨x, y, t, v, u, l, rfl, two, q⟩ := h
  refine ds_seq (ds_asgG (de_tup (da_cons (de_call EL.no (dc_cons (de_var rfl (dc_nil ⟨x, t, v, rfl, two.x, da_cons (de_call EL.no (dc_cons (de_var rfl (dc_nil ⟨y, u, l, rfl, two.y, da_nil ⟨by simp, ?_⟩⟩))))⟩)))))))
  refine dg_tup rfl rfl (dgs_cons (dg_tup rfl rfl (dgs_cons (dg_name (dgs_cons (dg_name (dgs_nil (dgs_cons (dg_tup rfl rfl (dgs_cons (dg_name (dgs_cons (dg_name (dgs_nil (dgs_nil ?_)))))))))))))))
  exact ds_ret (de_call EL.no (dc_cons (de_II (de_var rfl (de_var rfl ⟨t, l, rfl, rfl, Two.m _ _ two.t two.l, dc_cons (de_II (de_var rfl (de_var rfl ⟨v, u, rfl, rfl, Two.m _ _ two.b two.h, dc_nil ⟨_, _, rfl, (two.bh q.1).1, (two.bh q.1).2, q.2⟩⟩)))⟩)))))
theorem ok_multiplied (T : Tx K mg a) (hS : Sy mg base a) : FnG P w K mg base true 2 a.f_multiplied a.d_multiplied (["one", "other"] : List Str) (fun _ => spD K F_mul) := by
  refine fn_data T.F_multiplied sc_multiplied (fun ss R X z => by obtain ⟨_, _, _, _, _, _, h, _⟩ := z; rw [h] <;> rfl) fun cdv A outer s H E pl hr => ⟨_, (pss_cons (ps_if (PW.pt (pw_and (pt_val (pe_callB (call_isG (pn := (fun _ _ _ => False)) (fun _ _ _ z => z.elim)) (by rfl) T.n_isinstance PyProof.Rows.boot_isinstance (pa_cons (pv 0) (pa_cons (pe_bltn (v := .ty "int") (by rfl) T.n_int PyProof.Rows.boot_int rfl) pa_nil)))) (pw_and1 (pt_val (pe_callB (call_isG (pn := (fun _ _ _ => False)) (fun _ _ _ z => z.elim)) (by rfl) T.n_isinstance PyProof.Rows.boot_isinstance (pa_cons (pv 1) (pa_cons (pe_bltn (v := .ty "int") (by rfl) T.n_int PyProof.Rows.boot_int rfl) pa_nil))))))) (pss_one (ps_ret (pe_op op_mulG (pv 0) (pv 1)))) pss_nil)
      (pss_cons (ps_asg (pe_tup (pa_cons (pe_go (ok_pair T hS) (hr.mono (by decide)) (pl := []) (fun _ h => nomatch h) (by rfl) T.g_pair T.F_pair.kp T.b_pair lets0 (pa_cons (pv 0) pa_nil)) (pa_cons (pe_go (ok_pair T hS) (hr.mono (by decide)) (pl := []) (fun _ h => nomatch h) (by rfl) T.g_pair T.F_pair.kp T.b_pair lets0 (pa_cons (pv 1) pa_nil)) pa_nil))) (pg_tup rfl (pgs_cons (pg_tup rfl (pgs_cons (pg_name (i := 2) sc_multiplied.nd rfl (Or.inl rfl)) (pgs_cons (pg_name (i := 3) sc_multiplied.nd rfl (Or.inl rfl)) pgs_nil))) (pgs_cons (pg_tup rfl (pgs_cons (pg_name (i := 4) sc_multiplied.nd rfl (Or.inl rfl)) (pgs_cons (pg_name (i := 5) sc_multiplied.nd rfl (Or.inl rfl)) pgs_nil))) pgs_nil))))
      (pss_one (ps_ret (pe_go (ok_in_lowest T hS) (hr.mono (by decide)) (pl := []) (fun _ h => nomatch h) (by rfl) T.g_in_lowest T.F_in_lowest.kp T.b_in_lowest lets0 (pa_cons (pe_op op_mulG (pv 2) (pv 4)) (pa_cons (pe_op op_mulG (pv 3) (pv 5)) pa_nil))))))), fun b ss R X h hX => ?_⟩
  obtain ⟨x, y, t, v, u, l, rfl, two, q⟩ := h
  have both : (∃ i j, x = .int i ∧ y = .int j) ∨ ¬ (∃ i j, x = .int i ∧ y = .int j) := Classical.em _
  rcases both with ⟨i, j, rfl, rfl⟩ | nb
  · cases two.x
    cases two.y
    refine ds_seq (ds_if (dt_and (dt_test (de_isT (de_var rfl ⟨_, true, rfl, by decide +kernel, true, rfl, iteT (dt_test (de_isT (de_var rfl ⟨_, true, rfl, by decide +kernel, true, rfl, iteT ?_⟩)))⟩)))))
    have q : R (lowZ (t * u) (1 * 1)) := q
    rw [Int.one_mul, lowZ_one] at q
    exact ds_ret (de_II (de_var rfl (de_var rfl ⟨_, _, rfl, rfl, Two.m _ _ two.t two.h, q⟩)))
  have tst : ∀ {nx bk ct : List Sl → Prop} {rt : D → Prop} {ta : TS} {ρ : List Sl} {pn : PinP}, ρ[0]? = some (.sh x) → ρ[1]? = some (.sh y) → nx ρ → DS K b ρ (tIfS (tAnd (tB (tCB (rIsG K pn) (tCons (tVar 0) (tCons (tC (.ty "int")) tNil)))) (tB (tCB (rIsG K pn) (tCons (tVar 1) (tCons (tC (.ty "int")) tNil))))) ta tNext) nx rt bk ct := fun g0 g1 n => by
    rcases two.x with i | ⟨i, i', _, _⟩
    · rcases two.y with j | ⟨j, j', _, _⟩
      · exact (nb ⟨_, _, rfl, rfl⟩).elim
      · exact ds_if (dt_and (dt_test (de_isT (de_var g0 ⟨_, true, rfl, by decide +kernel, true, rfl, iteT (dt_test (de_isT (de_var g1 ⟨_, false, rfl, by decide +kernel, false, rfl, iteF (ds_next n)⟩)))⟩))))
    · exact ds_if (dt_and (dt_test (de_isT (de_var g0 ⟨_, false, rfl, by decide +kernel, false, rfl, iteF (iteF (ds_next n))⟩))))
  refine ds_seq (tst rfl rfl ?_)
  refine ds_seq (ds_asgG (de_tup (da_cons (de_call EL.no (dc_cons (de_var rfl (dc_nil ⟨x, t, v, rfl, two.x, da_cons (de_call EL.no (dc_cons (de_var rfl (dc_nil ⟨y, u, l, rfl, two.y, da_nil ⟨by simp, ?_⟩⟩))))⟩)))))))
  refine dg_tup rfl rfl (dgs_cons (dg_tup rfl rfl (dgs_cons (dg_name (dgs_cons (dg_name (dgs_nil (dgs_cons (dg_tup rfl rfl (dgs_cons (dg_name (dgs_cons (dg_name (dgs_nil (dgs_nil ?_)))))))))))))))
  exact ds_ret (de_call EL.no (dc_cons (de_II (de_var rfl (de_var rfl ⟨t, u, rfl, rfl, Two.m _ _ two.t two.h, dc_cons (de_II (de_var rfl (de_var rfl ⟨v, l, rfl, rfl, Two.m _ _ two.b two.l, dc_nil ⟨_, _, rfl, two.bl.1, two.bl.2, q⟩⟩)))⟩)))))
theorem ok_added (T : Tx K mg a) (hS : Sy mg base a) : FnG P w K mg base true 2 a.f_added a.d_added (["one", "other"] : List Str) (fun _ => spD K F_add) := by
  refine fn_data T.F_added sc_added (fun ss R X z => by obtain ⟨_, _, _, _, _, _, h, _⟩ := z; rw [h] <;> rfl) fun cdv A outer s H E pl hr => ⟨_, (pss_cons (ps_if (PW.pt (pw_and (pt_val (pe_callB (call_isG (pn := (fun _ _ _ => False)) (fun _ _ _ z => z.elim)) (by rfl) T.n_isinstance PyProof.Rows.boot_isinstance (pa_cons (pv 0) (pa_cons (pe_bltn (v := .ty "int") (by rfl) T.n_int PyProof.Rows.boot_int rfl) pa_nil)))) (pw_and1 (pt_val (pe_callB (call_isG (pn := (fun _ _ _ => False)) (fun _ _ _ z => z.elim)) (by rfl) T.n_isinstance PyProof.Rows.boot_isinstance (pa_cons (pv 1) (pa_cons (pe_bltn (v := .ty "int") (by rfl) T.n_int PyProof.Rows.boot_int rfl) pa_nil))))))) (pss_one (ps_ret (pe_op op_addG (pv 0) (pv 1)))) pss_nil)
      (pss_cons (ps_asg (pe_tup (pa_cons (pe_go (ok_pair T hS) (hr.mono (by decide)) (pl := []) (fun _ h => nomatch h) (by rfl) T.g_pair T.F_pair.kp T.b_pair lets0 (pa_cons (pv 0) pa_nil)) (pa_cons (pe_go (ok_pair T hS) (hr.mono (by decide)) (pl := []) (fun _ h => nomatch h) (by rfl) T.g_pair T.F_pair.kp T.b_pair lets0 (pa_cons (pv 1) pa_nil)) pa_nil))) (pg_tup rfl (pgs_cons (pg_tup rfl (pgs_cons (pg_name (i := 2) sc_added.nd rfl (Or.inl rfl)) (pgs_cons (pg_name (i := 3) sc_added.nd rfl (Or.inl rfl)) pgs_nil))) (pgs_cons (pg_tup rfl (pgs_cons (pg_name (i := 4) sc_added.nd rfl (Or.inl rfl)) (pgs_cons (pg_name (i := 5) sc_added.nd rfl (Or.inl rfl)) pgs_nil))) pgs_nil))))
      (pss_one (ps_ret (pe_go (ok_in_lowest T hS) (hr.mono (by decide)) (pl := []) (fun _ h => nomatch h) (by rfl) T.g_in_lowest T.F_in_lowest.kp T.b_in_lowest lets0 (pa_cons (pe_op op_addG (pe_op op_mulG (pv 2) (pv 5)) (pe_op op_mulG (pv 4) (pv 3))) (pa_cons (pe_op op_mulG (pv 3) (pv 5)) pa_nil))))))), fun b ss R X h hX => ?_⟩
  obtain ⟨x, y, t, v, u, l, rfl, two, q⟩ := h
  have both : (∃ i j, x = .int i ∧ y = .int j) ∨ ¬ (∃ i j, x = .int i ∧ y = .int j) := Classical.em _
  rcases both with ⟨i, j, rfl, rfl⟩ | nb
  · cases two.x
    cases two.y
    refine ds_seq (ds_if (dt_and (dt_test (de_isT (de_var rfl ⟨_, true, rfl, by decide +kernel, true, rfl, iteT (dt_test (de_isT (de_var rfl ⟨_, true, rfl, by decide +kernel, true, rfl, iteT ?_⟩)))⟩)))))
    have q : R (lowZ (t * 1 + u * 1) (1 * 1)) := q
    rw [Int.one_mul, lowZ_one, Int.mul_one, Int.mul_one] at q
    exact ds_ret (de_addI (de_var rfl (de_var rfl ⟨_, _, rfl, rfl, q⟩)))
  have tst : ∀ {nx bk ct : List Sl → Prop} {rt : D → Prop} {ta : TS} {ρ : List Sl} {pn : PinP}, ρ[0]? = some (.sh x) → ρ[1]? = some (.sh y) → nx ρ → DS K b ρ (tIfS (tAnd (tB (tCB (rIsG K pn) (tCons (tVar 0) (tCons (tC (.ty "int")) tNil)))) (tB (tCB (rIsG K pn) (tCons (tVar 1) (tCons (tC (.ty "int")) tNil))))) ta tNext) nx rt bk ct := fun g0 g1 n => by
    rcases two.x with i | ⟨i, i', _, _⟩
    · rcases two.y with j | ⟨j, j', _, _⟩
      · exact (nb ⟨_, _, rfl, rfl⟩).elim
      · exact ds_if (dt_and (dt_test (de_isT (de_var g0 ⟨_, true, rfl, by decide +kernel, true, rfl, iteT (dt_test (de_isT (de_var g1 ⟨_, false, rfl, by decide +kernel, false, rfl, iteF (ds_next n)⟩)))⟩))))
    · exact ds_if (dt_and (dt_test (de_isT (de_var g0 ⟨_, false, rfl, by decide +kernel, false, rfl, iteF (iteF (ds_next n))⟩))))
  refine ds_seq (tst rfl rfl ?_)
  refine ds_seq (ds_asgG (de_tup (da_cons (de_call EL.no (dc_cons (de_var rfl (dc_nil ⟨x, t, v, rfl, two.x, da_cons (de_call EL.no (dc_cons (de_var rfl (dc_nil ⟨y, u, l, rfl, two.y, da_nil ⟨by simp, ?_⟩⟩))))⟩)))))))
  refine dg_tup rfl rfl (dgs_cons (dg_tup rfl rfl (dgs_cons (dg_name (dgs_cons (dg_name (dgs_nil (dgs_cons (dg_tup rfl rfl (dgs_cons (dg_name (dgs_cons (dg_name (dgs_nil (dgs_nil ?_)))))))))))))))
  refine ds_ret (de_call EL.no (dc_cons (de_addI (de_II (de_var rfl (de_var rfl ⟨t, l, rfl, rfl, Two.m _ _ two.t two.l, de_II (de_var rfl (de_var rfl ⟨u, v, rfl, rfl, Two.m _ _ two.h two.b, _, _, rfl, rfl, ?_⟩))⟩))))))
  exact dc_cons (de_II (de_var rfl (de_var rfl ⟨v, l, rfl, rfl, Two.m _ _ two.b two.l, dc_nil ⟨_, _, rfl, two.bl.1, two.bl.2, q⟩⟩)))
end
end Law

set_option Elab.async false
set_option linter.all false
set_option maxRecDepth 100000
set_option maxHeartbeats 4000000
namespace Law
open PySem PySem.Spec PyProof.Rows L2 G
def sgn (t : Int) : Int := if t > 0 then 1 else if t < 0 then -1 else 0
section
variable {P : Program} {w : World} {K : PySem.W.Frag} {mg : Str → Option Value} {base : Heap} {a : Ad}
theorem ok__law_less (T : Tx K mg a) (hS : Sy mg base a) : FnG P w K mg base true 2 a.f__law_less a.d__law_less (["one", "other"] : List Str) (fun _ => spD K F_les) := by
  refine fn_data T.F__law_less sc__law_less (fun ss R X z => by obtain ⟨_, _, _, _, _, _, h, _⟩ := z; rw [h] <;> rfl) fun cdv A outer s H E pl hr => ⟨_, (pss_cons (ps_par (i := 2) (j := 3) rfl sc__law_less.nd rfl rfl (by decide) rfl rfl (pa_cons (pe_go (ok__law_pair T hS) (hr.mono (by decide)) (pl := []) (fun _ h => nomatch h) (by rfl) T.g__law_pair T.F__law_pair.kp T.b__law_pair lets0 (pa_cons (pv 0) pa_nil)) (pa_cons (pe_go (ok__law_pair T hS) (hr.mono (by decide)) (pl := []) (fun _ h => nomatch h) (by rfl) T.g__law_pair T.F__law_pair.kp T.b__law_pair lets0 (pa_cons (pv 1) pa_nil)) pa_nil)) rfl)
      (pss_one (ps_ret (pe_cmpR op_lt (pe_op op_mulG (pe_ix ix_seq (pv 2) pe_int (fun _ _ => rfl)) (pe_ix ix_seq (pv 3) pe_int (fun _ _ => rfl))) (pe_op op_mulG (pe_ix ix_seq (pv 3) pe_int (fun _ _ => rfl)) (pe_ix ix_seq (pv 2) pe_int (fun _ _ => rfl))) (nomark _))))), fun b ss R X h hX => ?_⟩
  obtain ⟨x, y, t, v, u, l, rfl, two, q⟩ := h
  refine ds_seq (ds_par (da_cons (de_call EL.no (dc_cons (de_var rfl (dc_nil ⟨x, t, v, rfl, two.x, da_cons (de_call EL.no (dc_cons (de_var rfl (dc_nil ⟨y, u, l, rfl, two.y, da_nil ⟨_, _, rfl, ?_⟩⟩))))⟩))))))
  exact ds_ret (de_B0 (de_II (de_ix (de_var rfl (de_int ⟨0, .int t, rfl, rfl, de_ix (de_var rfl (de_int ⟨1, .int l, rfl, rfl, t, l, rfl, rfl, Two.m _ _ two.t two.l, de_II (de_ix (de_var rfl (de_int ⟨0, .int u, rfl, rfl, de_ix (de_var rfl (de_int ⟨1, .int v, rfl, rfl, u, v, rfl, rfl, Two.m _ _ two.h two.b, _, _, rfl, rfl, q⟩))⟩)))⟩))⟩)))))
theorem ok__law_over (T : Tx K mg a) (hS : Sy mg base a) : FnG P w K mg base true 3 a.f__law_over a.d__law_over (["one", "other"] : List Str) (fun _ => spD K F_ovr) := by
  refine fn_data T.F__law_over sc__law_over (fun ss R X z => by obtain ⟨_, _, _, _, _, _, h, _⟩ := z; rw [h] <;> rfl) fun cdv A outer s H E pl hr => ⟨_, (pss_cons (ps_par (i := 2) (j := 3) rfl sc__law_over.nd rfl rfl (by decide) rfl rfl (pa_cons (pe_go (ok__law_pair T hS) (hr.mono (by decide)) (pl := []) (fun _ h => nomatch h) (by rfl) T.g__law_pair T.F__law_pair.kp T.b__law_pair lets0 (pa_cons (pv 0) pa_nil)) (pa_cons (pe_go (ok__law_pair T hS) (hr.mono (by decide)) (pl := []) (fun _ h => nomatch h) (by rfl) T.g__law_pair T.F__law_pair.kp T.b__law_pair lets0 (pa_cons (pv 1) pa_nil)) pa_nil)) rfl)
      (pss_one (ps_ret (pe_go (ok__law_low T hS) (hr.mono (by decide)) (pl := []) (fun _ h => nomatch h) (by rfl) T.g__law_low T.F__law_low.kp T.b__law_low lets0 (pa_cons (pe_op op_mulG (pe_ix ix_seq (pv 2) pe_int (fun _ _ => rfl)) (pe_ix ix_seq (pv 3) pe_int (fun _ _ => rfl))) (pa_cons (pe_op op_mulG (pe_ix ix_seq (pv 2) pe_int (fun _ _ => rfl)) (pe_ix ix_seq (pv 3) pe_int (fun _ _ => rfl))) pa_nil)))))), fun b ss R X h hX => ?_⟩
  obtain ⟨x, y, t, v, u, l, rfl, two, q⟩ := h
  refine ds_seq (ds_par (da_cons (de_call EL.no (dc_cons (de_var rfl (dc_nil ⟨x, t, v, rfl, two.x, da_cons (de_call EL.no (dc_cons (de_var rfl (dc_nil ⟨y, u, l, rfl, two.y, da_nil ⟨_, _, rfl, ?_⟩⟩))))⟩))))))
  exact ds_ret (de_call EL.no (dc_cons (de_II (de_ix (de_var rfl (de_int ⟨0, .int t, rfl, rfl, de_ix (de_var rfl (de_int ⟨1, .int l, rfl, rfl, t, l, rfl, rfl, Two.m _ _ two.t two.l, dc_cons (de_II (de_ix (de_var rfl (de_int ⟨1, .int v, rfl, rfl, de_ix (de_var rfl (de_int ⟨0, .int u, rfl, rfl, v, u, rfl, rfl, Two.m _ _ two.b two.h, dc_nil ⟨_, _, rfl, (two.bh q.1).1, (two.bh q.1).2, q.2⟩⟩))⟩))))⟩))⟩))))))
theorem ok__law_times (T : Tx K mg a) (hS : Sy mg base a) : FnG P w K mg base true 3 a.f__law_times a.d__law_times (["one", "other"] : List Str) (fun _ => spD K F_mul) := by
  refine fn_data T.F__law_times sc__law_times (fun ss R X z => by obtain ⟨_, _, _, _, _, _, h, _⟩ := z; rw [h] <;> rfl) fun cdv A outer s H E pl hr => ⟨_, (pss_cons (ps_par (i := 2) (j := 3) rfl sc__law_times.nd rfl rfl (by decide) rfl rfl (pa_cons (pe_go (ok__law_pair T hS) (hr.mono (by decide)) (pl := []) (fun _ h => nomatch h) (by rfl) T.g__law_pair T.F__law_pair.kp T.b__law_pair lets0 (pa_cons (pv 0) pa_nil)) (pa_cons (pe_go (ok__law_pair T hS) (hr.mono (by decide)) (pl := []) (fun _ h => nomatch h) (by rfl) T.g__law_pair T.F__law_pair.kp T.b__law_pair lets0 (pa_cons (pv 1) pa_nil)) pa_nil)) rfl)
      (pss_one (ps_ret (pe_go (ok__law_low T hS) (hr.mono (by decide)) (pl := []) (fun _ h => nomatch h) (by rfl) T.g__law_low T.F__law_low.kp T.b__law_low lets0 (pa_cons (pe_op op_mulG (pe_ix ix_seq (pv 2) pe_int (fun _ _ => rfl)) (pe_ix ix_seq (pv 3) pe_int (fun _ _ => rfl))) (pa_cons (pe_op op_mulG (pe_ix ix_seq (pv 2) pe_int (fun _ _ => rfl)) (pe_ix ix_seq (pv 3) pe_int (fun _ _ => rfl))) pa_nil)))))), fun b ss R X h hX => ?_⟩
  obtain ⟨x, y, t, v, u, l, rfl, two, q⟩ := h
  refine ds_seq (ds_par (da_cons (de_call EL.no (dc_cons (de_var rfl (dc_nil ⟨x, t, v, rfl, two.x, da_cons (de_call EL.no (dc_cons (de_var rfl (dc_nil ⟨y, u, l, rfl, two.y, da_nil ⟨_, _, rfl, ?_⟩⟩))))⟩))))))
  exact ds_ret (de_call EL.no (dc_cons (de_II (de_ix (de_var rfl (de_int ⟨0, .int t, rfl, rfl, de_ix (de_var rfl (de_int ⟨0, .int u, rfl, rfl, t, u, rfl, rfl, Two.m _ _ two.t two.h, dc_cons (de_II (de_ix (de_var rfl (de_int ⟨1, .int v, rfl, rfl, de_ix (de_var rfl (de_int ⟨1, .int l, rfl, rfl, v, l, rfl, rfl, Two.m _ _ two.b two.l, dc_nil ⟨_, _, rfl, two.bl.1, two.bl.2, q⟩⟩))⟩))))⟩))⟩))))))
theorem ok__law_plus (T : Tx K mg a) (hS : Sy mg base a) : FnG P w K mg base true 3 a.f__law_plus a.d__law_plus (["one", "other"] : List Str) (fun _ => spD K F_add) := by
  refine fn_data T.F__law_plus sc__law_plus (fun ss R X z => by obtain ⟨_, _, _, _, _, _, h, _⟩ := z; rw [h] <;> rfl) fun cdv A outer s H E pl hr => ⟨_, (pss_cons (ps_par (i := 2) (j := 3) rfl sc__law_plus.nd rfl rfl (by decide) rfl rfl (pa_cons (pe_go (ok__law_pair T hS) (hr.mono (by decide)) (pl := []) (fun _ h => nomatch h) (by rfl) T.g__law_pair T.F__law_pair.kp T.b__law_pair lets0 (pa_cons (pv 0) pa_nil)) (pa_cons (pe_go (ok__law_pair T hS) (hr.mono (by decide)) (pl := []) (fun _ h => nomatch h) (by rfl) T.g__law_pair T.F__law_pair.kp T.b__law_pair lets0 (pa_cons (pv 1) pa_nil)) pa_nil)) rfl)
      (pss_one (ps_ret (pe_go (ok__law_low T hS) (hr.mono (by decide)) (pl := []) (fun _ h => nomatch h) (by rfl) T.g__law_low T.F__law_low.kp T.b__law_low lets0 (pa_cons (pe_op op_addG (pe_op op_mulG (pe_ix ix_seq (pv 2) pe_int (fun _ _ => rfl)) (pe_ix ix_seq (pv 3) pe_int (fun _ _ => rfl))) (pe_op op_mulG (pe_ix ix_seq (pv 3) pe_int (fun _ _ => rfl)) (pe_ix ix_seq (pv 2) pe_int (fun _ _ => rfl)))) (pa_cons (pe_op op_mulG (pe_ix ix_seq (pv 2) pe_int (fun _ _ => rfl)) (pe_ix ix_seq (pv 3) pe_int (fun _ _ => rfl))) pa_nil)))))), fun b ss R X h hX => ?_⟩
  obtain ⟨x, y, t, v, u, l, rfl, two, q⟩ := h
  refine ds_seq (ds_par (da_cons (de_call EL.no (dc_cons (de_var rfl (dc_nil ⟨x, t, v, rfl, two.x, da_cons (de_call EL.no (dc_cons (de_var rfl (dc_nil ⟨y, u, l, rfl, two.y, da_nil ⟨_, _, rfl, ?_⟩⟩))))⟩))))))
  exact ds_ret (de_call EL.no (dc_cons (de_addI (de_II (de_ix (de_var rfl (de_int ⟨0, .int t, rfl, rfl, de_ix (de_var rfl (de_int ⟨1, .int l, rfl, rfl, t, l, rfl, rfl, Two.m _ _ two.t two.l, de_II (de_ix (de_var rfl (de_int ⟨0, .int u, rfl, rfl, de_ix (de_var rfl (de_int ⟨1, .int v, rfl, rfl, u, v, rfl, rfl, Two.m _ _ two.h two.b, _, _, rfl, rfl, dc_cons (de_II (de_ix (de_var rfl (de_int ⟨1, .int v, rfl, rfl, de_ix (de_var rfl (de_int ⟨1, .int l, rfl, rfl, v, l, rfl, rfl, Two.m _ _ two.b two.l, dc_nil ⟨_, _, rfl, two.bl.1, two.bl.2, q⟩⟩))⟩))))⟩))⟩)))⟩))⟩)))))))
theorem Lg.neg {n : Nat} {x : Int} (h : Lg n x) : Lg n (-x) := by
  unfold Lg at *
  rw [Int.natAbs_neg]
  exact h
theorem Two.opp {x y : D} {t b h l : Int} (z : Two x y t b h l) : Two x (oppD y) t b (-h) l := ⟨z.x, z.y.opp, z.t, z.b, z.h.neg, z.l⟩
def F_sub : DF := F2 fun x y t b h l R => R (lowZ (t * l + -h * b) (b * l))
theorem ok__law_minus (T : Tx K mg a) (hS : Sy mg base a) : FnG P w K mg base true 4 a.f__law_minus a.d__law_minus (["one", "other"] : List Str) (fun _ => spD K F_sub) := by
  refine fn_data T.F__law_minus sc__law_minus (fun ss R X z => by obtain ⟨_, _, _, _, _, _, h, _⟩ := z; rw [h] <;> rfl) fun cdv A outer s H E pl hr => ⟨_, (pss_one (ps_ret (pe_go (ok__law_plus T hS) (hr.mono (by decide)) (pl := []) (fun _ h => nomatch h) (by rfl) T.g__law_plus T.F__law_plus.kp T.b__law_plus lets0 (pa_cons (pv 0) (pa_cons (pe_go (ok__law_opposite T hS) (hr.mono (by decide)) (pl := []) (fun _ h => nomatch h) (by rfl) T.g__law_opposite T.F__law_opposite.kp T.b__law_opposite lets0 (pa_cons (pv 1) pa_nil)) pa_nil))))), fun b ss R X h hX => ?_⟩
  obtain ⟨x, y, t, v, u, l, rfl, two, q⟩ := h
  exact ds_ret (de_call EL.no (dc_cons (de_var rfl (dc_cons (de_call EL.no (dc_cons (de_var rfl (dc_nil ⟨y, u, l, rfl, two.y, dc_nil ⟨x, _, t, v, -u, l, rfl, two.opp, q⟩⟩))))))))
def F_sgn : DF := fun ss R _ => ∃ x t b, ss = [.sh x] ∧ RtV x t b ∧ R (.int (sgn t))
theorem ok_sign_of (T : Tx K mg a) (hS : Sy mg base a) : FnG P w K mg base true 1 a.f_sign_of a.d_sign_of (["number"] : List Str) (fun _ => spD K F_sgn) := by
  refine fn_data T.F_sign_of sc_sign_of (fun ss R X z => by obtain ⟨_, _, _, h, _⟩ := z; rw [h] <;> rfl) fun cdv A outer s H E pl hr => ⟨_, (pss_cons (ps_set (i := 1) sc_sign_of.nd rfl (Or.inl rfl) (pe_ifExp (pt_val (pe_callB (call_isG (pn := (fun _ _ _ => False)) (fun _ _ _ z => z.elim)) (by rfl) T.n_isinstance PyProof.Rows.boot_isinstance (pa_cons (pv 0) (pa_cons (pe_bltn (v := .ty "int") (by rfl) T.n_int PyProof.Rows.boot_int rfl) pa_nil)))) (pv 0) (pe_ix ix_seq (pv 0) pe_int (fun _ _ => rfl))))
      (pss_one (ps_ret (pe_ifExp (pt_cmpR op_gt (pv 1) pe_int (nomark _)) pe_int (pe_ifExp (pt_cmpR op_lt (pv 1) pe_int (nomark _)) (pe_un un_neg pe_int) pe_int))))), fun b ss R X h hX => ?_⟩
  obtain ⟨x, t, v, rfl, hx, q⟩ := h
  refine ds_seq (DS.mid (mid := fun ρ => ρ = [.sh x, .sh (.int t)]) ?_ fun ρ h => ?_)
  · cases hx with
    | int t => exact ds_asg (de_ite (dt_test (de_isT (de_var rfl ⟨_, true, rfl, by decide +kernel, true, rfl, iteT (de_var rfl rfl)⟩))))
    | pair t v h1 h2 => exact ds_asg (de_ite (dt_test (de_isT (de_var rfl ⟨_, false, rfl, by decide +kernel, false, rfl, iteF (de_ix (de_var rfl (de_int ⟨0, .int t, rfl, rfl, rfl⟩)))⟩))))
  subst h
  unfold sgn at q
  refine ds_ret (de_ite (dt_test (de_B0 (de_var rfl (de_int ⟨t, 0, rfl, rfl, _, rfl, ite2 (fun z => ?_) (fun z => ?_)⟩)))))
  · rw [if_pos (of_decide_eq_true z)] at q
    exact de_int q
  · rw [if_neg (fun y => z (decide_eq_true y))] at q
    refine de_ite (dt_test (de_B0 (de_var rfl (de_int ⟨t, 0, rfl, rfl, _, rfl, ite2 (fun z => ?_) (fun z => ?_)⟩))))
    · rw [if_pos (of_decide_eq_true z)] at q
      exact de_un (de_int ⟨1, rfl, q⟩)
    · rw [if_neg (fun y => z (decide_eq_true y))] at q
      exact de_int q
theorem ok__law_sign (T : Tx K mg a) (hS : Sy mg base a) : FnG P w K mg base true 2 a.f__law_sign a.d__law_sign (["number"] : List Str) (fun _ => spD K F_sgn) := by
  refine fn_data T.F__law_sign sc__law_sign (fun ss R X z => by obtain ⟨_, _, _, h, _⟩ := z; rw [h] <;> rfl) fun cdv A outer s H E pl hr => ⟨_, (pss_cons (ps_set (i := 1) sc__law_sign.nd rfl (Or.inl rfl) (pe_ix ix_seq (pe_go (ok__law_pair T hS) (hr.mono (by decide)) (pl := []) (fun _ h => nomatch h) (by rfl) T.g__law_pair T.F__law_pair.kp T.b__law_pair lets0 (pa_cons (pv 0) pa_nil)) pe_int (fun _ _ => rfl)))
      (pss_one (ps_ret (pe_op op_sub (pe_callTy call_intV (by rfl) T.n_int PyProof.Rows.boot_int (pa_cons (pe_cmpR op_gt (pv 1) pe_int (nomark _)) pa_nil)) (pe_callTy call_intV (by rfl) T.n_int PyProof.Rows.boot_int (pa_cons (pe_cmpR op_lt (pv 1) pe_int (nomark _)) pa_nil)))))), fun b ss R X h hX => ?_⟩
  obtain ⟨x, t, v, rfl, hx, q⟩ := h
  refine ds_seq (ds_asg (de_ix (de_call EL.no (dc_cons (de_var rfl (dc_nil ⟨x, t, v, rfl, hx, de_int ⟨0, .int t, rfl, rfl, ?_⟩⟩))))))
  refine ds_ret (de_I0 (de_intc (de_B0 (de_var rfl (de_int ⟨t, 0, rfl, rfl, Or.inr ⟨_, rfl, de_intc (de_B0 (de_var rfl (de_int ⟨t, 0, rfl, rfl, Or.inr ⟨_, rfl, _, _, rfl, rfl, ?_⟩⟩)))⟩⟩)))))
  have e : ((if decide (t > 0) = true then 1 else 0) - (if decide (t < 0) = true then 1 else 0) : Int) = sgn t := by
    unfold sgn
    by_cases h1 : t > 0
    · have h2 : ¬ t < 0 := by omega
      simp [h1, h2]
    · by_cases h2 : t < 0
      · simp [h1, h2]
      · simp [h1, h2]
  rw [e]
  exact q
/-- the two are ratios, or the first that is none is told -/
def Nd (a : Ad) (x y : D) (X : Addr → List (Str × D) → Prop) (ok : Prop) : Prop := if isRt x = true then (if isRt y = true then ok else X a.c_BadNumber [("number", y), ("what", .str "other")]) else X a.c_BadNumber [("number", x), ("what", .str "one")]
def F_nd (a : Ad) : DF := fun ss R X => ∃ x y, ss = [.sh x, .sh y] ∧ Pr x ∧ Pr y ∧ Nd a x y X (R .non)
theorem ok_need_ratios (T : Tx K mg a) (hS : Sy mg base a) : FnG P w K mg base true 3 a.f_need_ratios a.d_need_ratios (["one", "other"] : List Str) (fun _ => spD K (F_nd a)) := by
  refine fn_data T.F_need_ratios sc_need_ratios (fun ss R X z => by obtain ⟨_, _, h, _⟩ := z; rw [h] <;> rfl) fun cdv A outer s H E pl hr => ⟨_, (pss_cons (ps_if (pt_not (pt_val (pe_go (ok_is_ratio T hS) (hr.mono (by decide)) (pl := []) (fun _ h => nomatch h) (by rfl) T.g_is_ratio T.F_is_ratio.kp T.b_is_ratio lets0 (pa_cons (pv 0) pa_nil)))) (pss_one (ps_raiseN rfl (takes_of rfl rfl rfl rfl) (pmk_oex (dvs := []) (ds := []) T.O_BadNumber T.i_BadNumber T.ti_BadNumber (in_BadNumber T) (Rm.room (k := 2) (hr.mono (by decide))) T.bi_BadNumber .nil pass0 (by rfl) T.g_BadNumber (pa_cons pe_str (pa_cons (pv 0) pa_nil))))) pss_nil)
      (pss_one (ps_if (pt_not (pt_val (pe_go (ok_is_ratio T hS) (hr.mono (by decide)) (pl := []) (fun _ h => nomatch h) (by rfl) T.g_is_ratio T.F_is_ratio.kp T.b_is_ratio lets0 (pa_cons (pv 1) pa_nil)))) (pss_one (ps_raiseN rfl (takes_of rfl rfl rfl rfl) (pmk_oex (dvs := []) (ds := []) T.O_BadNumber T.i_BadNumber T.ti_BadNumber (in_BadNumber T) (Rm.room (k := 2) (hr.mono (by decide))) T.bi_BadNumber .nil pass0 (by rfl) T.g_BadNumber (pa_cons pe_str (pa_cons (pv 1) pa_nil))))) pss_nil))), fun b ss R X h hX => ?_⟩
  obtain ⟨x, y, rfl, hx, hy, q⟩ := h
  unfold Nd at q
  refine ds_seq (ds_if (dt_not (dt_test (de_call EL.no (dc_cons (de_var rfl (dc_nil ⟨x, rfl, hx, _, rfl, ?_⟩)))))))
  cases ex : isRt x with
  | false =>
    rw [ex, if_neg (by decide)] at q
    exact iteT (ds_raise (hX _) (da_cons (de_str (da_cons (de_var rfl (da_nil ⟨rfl, by decide, q⟩))))))
  | true =>
    rw [ex, if_pos rfl] at q
    refine iteF (ds_next (ds_if (dt_not (dt_test (de_call EL.no (dc_cons (de_var rfl (dc_nil ⟨y, rfl, hy, _, rfl, ?_⟩))))))))
    cases ey : isRt y with
    | false =>
      rw [ey, if_neg (by decide)] at q
      exact iteT (ds_raise (hX _) (da_cons (de_str (da_cons (de_var rfl (da_nil ⟨rfl, by decide, q⟩))))))
    | true =>
      rw [ey, if_pos rfl] at q
      exact iteF (ds_next q)
/-- the bounds, where the two are ratios -/
def F_op (a : Ad) (G : D → D → Int → Int → Int → Int → (D → Prop) → (Addr → List (Str × D) → Prop) → Prop) : DF := fun ss R X => ∃ x y, ss = [.sh x, .sh y] ∧ Pr x ∧ Pr y ∧ Nd a x y X (∃ t b h l, Two x y t b h l ∧ G x y t b h l R X)
theorem Nd.imp {a : Ad} {x y : D} {X : Addr → List (Str × D) → Prop} {p q : Prop} (h : Nd a x y X p) (i : p → q) : Nd a x y X q := by
  unfold Nd at *
  by_cases z : isRt x = true
  · rw [if_pos z] at h ⊢
    by_cases y' : isRt y = true
    · rw [if_pos y'] at h ⊢; exact i h
    · rw [if_neg y'] at h ⊢; exact h
  · rw [if_neg z] at h ⊢; exact h
theorem ok_plus (T : Tx K mg a) (hS : Sy mg base a) : FnG P w K mg base true 4 a.f_plus a.d_plus (["one", "other"] : List Str) (fun _ => spD K (F_op a (fun x y t b h l R X => R (lowZ (t * l + h * b) (b * l))))) := by
  refine fn_data T.F_plus sc_plus (fun ss R X z => by obtain ⟨_, _, h, _⟩ := z; rw [h] <;> rfl) fun cdv A outer s H E pl hr => ⟨_, (pss_cons (ps_expr (pe_go (ok_need_ratios T hS) (hr.mono (by decide)) (pl := []) (fun _ h => nomatch h) (by rfl) T.g_need_ratios T.F_need_ratios.kp T.b_need_ratios (passAt (takes_of rfl rfl rfl rfl)) (pa_cons (pv 0) (pa_cons (pv 1) pa_nil))))
      (pss_one (ps_ret (pe_go (ok_added T hS) (hr.mono (by decide)) (pl := []) (fun _ h => nomatch h) (by rfl) T.g_added T.F_added.kp T.b_added (passAt (takes_of rfl rfl rfl rfl)) (pa_cons (pv 0) (pa_cons (pv 1) pa_nil)))))), fun b ss R X h hX => ?_⟩
  obtain ⟨x, y, rfl, hx, hy, q⟩ := h
  refine ds_seq (ds_drop (de_call (fun Hf H σ fr => hX _ Hf H σ fr) (dc_cons (de_var rfl (dc_cons (de_var rfl (dc_nil ⟨x, y, rfl, hx, hy, q.imp fun ⟨t, v, u, l, two, q⟩ => ?_⟩)))))))
  exact ds_ret (de_call EL.no (dc_cons (de_var rfl (dc_cons (de_var rfl (dc_nil ⟨x, y, t, v, u, l, rfl, two, q⟩))))))
theorem ok_times (T : Tx K mg a) (hS : Sy mg base a) : FnG P w K mg base true 4 a.f_times a.d_times (["one", "other"] : List Str) (fun _ => spD K (F_op a (fun x y t b h l R X => R (lowZ (t * h) (b * l))))) := by
  refine fn_data T.F_times sc_times (fun ss R X z => by obtain ⟨_, _, h, _⟩ := z; rw [h] <;> rfl) fun cdv A outer s H E pl hr => ⟨_, (pss_cons (ps_expr (pe_go (ok_need_ratios T hS) (hr.mono (by decide)) (pl := []) (fun _ h => nomatch h) (by rfl) T.g_need_ratios T.F_need_ratios.kp T.b_need_ratios (passAt (takes_of rfl rfl rfl rfl)) (pa_cons (pv 0) (pa_cons (pv 1) pa_nil))))
      (pss_one (ps_ret (pe_go (ok_multiplied T hS) (hr.mono (by decide)) (pl := []) (fun _ h => nomatch h) (by rfl) T.g_multiplied T.F_multiplied.kp T.b_multiplied (passAt (takes_of rfl rfl rfl rfl)) (pa_cons (pv 0) (pa_cons (pv 1) pa_nil)))))), fun b ss R X h hX => ?_⟩
  obtain ⟨x, y, rfl, hx, hy, q⟩ := h
  refine ds_seq (ds_drop (de_call (fun Hf H σ fr => hX _ Hf H σ fr) (dc_cons (de_var rfl (dc_cons (de_var rfl (dc_nil ⟨x, y, rfl, hx, hy, q.imp fun ⟨t, v, u, l, two, q⟩ => ?_⟩)))))))
  exact ds_ret (de_call EL.no (dc_cons (de_var rfl (dc_cons (de_var rfl (dc_nil ⟨x, y, t, v, u, l, rfl, two, q⟩))))))
theorem ok_below (T : Tx K mg a) (hS : Sy mg base a) : FnG P w K mg base true 4 a.f_below a.d_below (["one", "other"] : List Str) (fun _ => spD K (F_op a (fun x y t b h l R X => R (.bl (decide (t * l < h * b)))))) := by
  refine fn_data T.F_below sc_below (fun ss R X z => by obtain ⟨_, _, h, _⟩ := z; rw [h] <;> rfl) fun cdv A outer s H E pl hr => ⟨_, (pss_cons (ps_expr (pe_go (ok_need_ratios T hS) (hr.mono (by decide)) (pl := []) (fun _ h => nomatch h) (by rfl) T.g_need_ratios T.F_need_ratios.kp T.b_need_ratios (passAt (takes_of rfl rfl rfl rfl)) (pa_cons (pv 0) (pa_cons (pv 1) pa_nil))))
      (pss_one (ps_ret (pe_go (ok_is_below T hS) (hr.mono (by decide)) (pl := []) (fun _ h => nomatch h) (by rfl) T.g_is_below T.F_is_below.kp T.b_is_below (passAt (takes_of rfl rfl rfl rfl)) (pa_cons (pv 0) (pa_cons (pv 1) pa_nil)))))), fun b ss R X h hX => ?_⟩
  obtain ⟨x, y, rfl, hx, hy, q⟩ := h
  refine ds_seq (ds_drop (de_call (fun Hf H σ fr => hX _ Hf H σ fr) (dc_cons (de_var rfl (dc_cons (de_var rfl (dc_nil ⟨x, y, rfl, hx, hy, q.imp fun ⟨t, v, u, l, two, q⟩ => ?_⟩)))))))
  exact ds_ret (de_call EL.no (dc_cons (de_var rfl (dc_cons (de_var rfl (dc_nil ⟨x, y, t, v, u, l, rfl, two, q⟩))))))
theorem ok_minus (T : Tx K mg a) (hS : Sy mg base a) : FnG P w K mg base true 4 a.f_minus a.d_minus (["one", "other"] : List Str) (fun _ => spD K (F_op a (fun x y t b h l R X => R (lowZ (t * l + -h * b) (b * l))))) := by
  refine fn_data T.F_minus sc_minus (fun ss R X z => by obtain ⟨_, _, h, _⟩ := z; rw [h] <;> rfl) fun cdv A outer s H E pl hr => ⟨_, (pss_cons (ps_expr (pe_go (ok_need_ratios T hS) (hr.mono (by decide)) (pl := []) (fun _ h => nomatch h) (by rfl) T.g_need_ratios T.F_need_ratios.kp T.b_need_ratios (passAt (takes_of rfl rfl rfl rfl)) (pa_cons (pv 0) (pa_cons (pv 1) pa_nil))))
      (pss_one (ps_ret (pe_go (ok_added T hS) (hr.mono (by decide)) (pl := []) (fun _ h => nomatch h) (by rfl) T.g_added T.F_added.kp T.b_added (passAt (takes_of rfl rfl rfl rfl)) (pa_cons (pv 0) (pa_cons (pe_go (ok_opposite T hS) (hr.mono (by decide)) (pl := []) (fun _ h => nomatch h) (by rfl) T.g_opposite T.F_opposite.kp T.b_opposite (passAt (takes_of rfl rfl rfl rfl)) (pa_cons (pv 1) pa_nil)) pa_nil)))))), fun b ss R X h hX => ?_⟩
  obtain ⟨x, y, rfl, hx, hy, q⟩ := h
  refine ds_seq (ds_drop (de_call (fun Hf H σ fr => hX _ Hf H σ fr) (dc_cons (de_var rfl (dc_cons (de_var rfl (dc_nil ⟨x, y, rfl, hx, hy, q.imp fun ⟨t, v, u, l, two, q⟩ => ?_⟩)))))))
  exact ds_ret (de_call EL.no (dc_cons (de_var rfl (dc_cons (de_call EL.no (dc_cons (de_var rfl (dc_nil ⟨y, u, l, rfl, two.y, dc_nil ⟨x, _, t, v, -u, l, rfl, two.opp, q⟩⟩))))))))
end
end Law

set_option Elab.async false
set_option linter.all false
set_option maxRecDepth 100000
set_option maxHeartbeats 4000000
namespace Law
open PySem PySem.Spec PyProof.Rows L2 G
theorem FnGvoid {P : Program} {w : World} {K : PySem.W.Frag} {mg : Str → Option Value} {base : Heap} {c : Bool} {k : Nat} {f : Addr} {fd : FuncData} {ps : List Str} : FnG P w K mg base c k f fd ps (fun _ _ _ _ _ => False) := { len := fun _ _ _ _ _ h => h.elim, run := fun _ _ _ _ _ _ _ _ _ _ _ _ _ _ _ h => h.elim }
section
variable {P : Program} {w : World} {K : PySem.W.Frag} {mg : Str → Option Value} {base : Heap} {a : Ad}
def F_is : DF := fun ss R _ => ∃ u v : Int, ss = [.sh (.int u), .sh (.int v)] ∧ R (.bl (decide (u = v)))
theorem ok__law_is0 (T : Tx K mg a) (hS : Sy mg base a) : FnG P w K mg base true 1 a.f__law_is a.d__law_is (["told", "due"] : List Str) (fun _ => spD K F_is) := by
  refine fn_data T.F__law_is sc__law_is (fun ss R X z => by obtain ⟨_, _, h, _⟩ := z; rw [h] <;> rfl) fun cdv A outer s H E pl hr => ⟨_, (pss_cons (ps_if (pt_val (pe_callB (call_isG (pn := (fun _ _ _ => False)) (fun _ _ _ z => z.elim)) (by rfl) T.n_isinstance PyProof.Rows.boot_isinstance (pa_cons (pv 1) (pa_cons (pe_bltn (v := .ty "tuple") (by rfl) T.n_tuple PyProof.Rows.boot_tuple rfl) pa_nil)))) (pss_cons (ps_if (PW.pt (pw_or (pt_not (pt_val (pe_callB (call_isG (pn := (fun _ _ _ => False)) (fun _ _ _ z => z.elim)) (by rfl) T.n_isinstance PyProof.Rows.boot_isinstance (pa_cons (pv 0) (pa_cons (pe_bltn (v := .ty "tuple") (by rfl) T.n_tuple PyProof.Rows.boot_tuple rfl) pa_nil))))) (pw_or1 (pt_cmpR (op_neG hr.hu) (pe_callB call_lenV (by rfl) T.n_len PySem.boot_len (pa_cons (pv 0) pa_nil)) (pe_callB call_lenV (by rfl) T.n_len PySem.boot_len (pa_cons (pv 1) pa_nil)) (nomark _))))) (pss_one (ps_ret pe_bl)) pss_nil)
      (pss_one (ps_ret (pe_cmpR (op_eqG hr.hu) (pe_lc (own := [("at", 2)]) (by rfl) sc__law_is.nd (pi_range1 rfl T.n_range (pa_cons (pe_callB call_lenV (by rfl) T.n_len PySem.boot_len (pa_cons (pv 1) pa_nil)) pa_nil)) (blkOk_by (N := nm__law_is) (sc := defScope s__law_is) (by decide +kernel)) (fun _ _ _ _ _ => (pg_name (i := 2) sc__law_is.nd rfl (Or.inl rfl))) (fun _ _ _ _ _ => pts_one (pt_not (pt_val (pe_go (FnGvoid (c := true) (k := 0)) (hr.mono (by decide)) (pl := []) (fun _ h => nomatch h) (by rfl) T.g__law_is T.F__law_is.kp T.b__law_is lets0 (pa_cons (pe_ix (show IxR _ (rIx K) from ix_seq) (pv 0) (pv 2) (fun _ _ => rfl)) (pa_cons (pe_ix (show IxR _ (rIx K) from ix_seq) (pv 1) (pv 2) (fun _ _ => rfl)) pa_nil)))))) (fun _ _ _ _ _ => (pv 2))) (pe_lst pa_nil) (nomark _))))) pss_nil)
      (pss_cons (ps_if (pt_cmp (pc_isN (pv 1))) (pss_one (ps_ret (pe_cmp (pc_isN (pv 0)) rfl))) pss_nil)
      (pss_cons (ps_if (pt_cmpR op_isBlV (pv 1) pe_bl (nomark _)) (pss_one (ps_ret (pe_cmpR op_isBlV (pv 0) pe_bl (nomark _)))) pss_nil)
      (pss_cons (ps_if (pt_cmpR op_isBlV (pv 1) pe_bl (nomark _)) (pss_one (ps_ret (pe_cmpR op_isBlV (pv 0) pe_bl (nomark _)))) pss_nil)
      (pss_cons (ps_if (pt_val (pe_callB (call_isG (pn := (fun _ _ _ => False)) (fun _ _ _ z => z.elim)) (by rfl) T.n_isinstance PyProof.Rows.boot_isinstance (pa_cons (pv 1) (pa_cons (pe_bltn (v := .ty "str") (by rfl) T.n_str PyProof.Rows.boot_str rfl) pa_nil)))) (pss_one (ps_ret (pe_and (pe_callB (call_isG (pn := (fun _ _ _ => False)) (fun _ _ _ z => z.elim)) (by rfl) T.n_isinstance PyProof.Rows.boot_isinstance (pa_cons (pv 0) (pa_cons (pe_bltn (v := .ty "str") (by rfl) T.n_str PyProof.Rows.boot_str rfl) pa_nil))) (pe_one (pe_cmpR (op_eqG hr.hu) (pv 0) (pv 1) (nomark _)))))) pss_nil)
      (pss_one (ps_ret (pe_and (pe_callB (call_isG (pn := (fun _ _ _ => False)) (fun _ _ _ z => z.elim)) (by rfl) T.n_isinstance PyProof.Rows.boot_isinstance (pa_cons (pv 0) (pa_cons (pe_bltn (v := .ty "int") (by rfl) T.n_int PyProof.Rows.boot_int rfl) pa_nil))) (pe_and (pe_not (pe_callB (call_isG (pn := (fun _ _ _ => False)) (fun _ _ _ z => z.elim)) (by rfl) T.n_isinstance PyProof.Rows.boot_isinstance (pa_cons (pv 0) (pa_cons (pe_bltn (v := .ty "bool") (by rfl) T.n_bool PyProof.Rows.boot_bool rfl) pa_nil)))) (pe_one (pe_cmpR (op_eqG hr.hu) (pv 0) (pv 1) (nomark _)))))))))))), fun b ss R X h hX => ?_⟩
  obtain ⟨u, v, rfl, q⟩ := h
  refine ds_seq (ds_if (dt_test (de_isT (de_var rfl ⟨_, false, rfl, by decide +kernel, false, rfl, iteF (ds_next ?_)⟩))))
  refine ds_seq (ds_if (dt_test (de_isN (de_var rfl ⟨false, rfl, iteF (ds_next ?_)⟩))))
  refine ds_seq (ds_if (dt_test (de_isBl (de_var rfl ⟨false, rfl, iteF (ds_next ?_)⟩))))
  refine ds_seq (ds_if (dt_test (de_isBl (de_var rfl ⟨false, rfl, iteF (ds_next ?_)⟩))))
  refine ds_seq (ds_if (dt_test (de_isT (de_var rfl ⟨_, false, rfl, by decide +kernel, false, rfl, iteF (ds_next ?_)⟩))))
  refine ds_ret (de_andV (de_isT (de_var rfl ⟨_, true, rfl, by decide +kernel, true, rfl, iteT ?_⟩)))
  refine de_andV (de_notV (de_isT (de_var rfl ⟨_, false, rfl, by decide +kernel, false, rfl, true, rfl, iteT ?_⟩)))
  exact de_eqI (de_var rfl (de_var rfl ⟨u, v, rfl, rfl, q⟩))
/-- an int or a pair of ints, asked of itself -/
def F_isE : DF := fun ss R _ => ∃ x, ss = [.sh x, .sh x] ∧ ((∃ i, x = .int i) ∨ ∃ i j, x = .tup [.int i, .int j]) ∧ R (.bl true)
theorem ok__law_is (T : Tx K mg a) (hS : Sy mg base a) : FnG P w K mg base true 2 a.f__law_is a.d__law_is (["told", "due"] : List Str) (fun _ => spD K F_isE) := by
  refine fn_data T.F__law_is sc__law_is (fun ss R X z => by obtain ⟨_, h, _⟩ := z; rw [h] <;> rfl) fun cdv A outer s H E pl hr => ⟨_, (pss_cons (ps_if (pt_val (pe_callB (call_isG (pn := (fun _ _ _ => False)) (fun _ _ _ z => z.elim)) (by rfl) T.n_isinstance PyProof.Rows.boot_isinstance (pa_cons (pv 1) (pa_cons (pe_bltn (v := .ty "tuple") (by rfl) T.n_tuple PyProof.Rows.boot_tuple rfl) pa_nil)))) (pss_cons (ps_if (PW.pt (pw_or (pt_not (pt_val (pe_callB (call_isG (pn := (fun _ _ _ => False)) (fun _ _ _ z => z.elim)) (by rfl) T.n_isinstance PyProof.Rows.boot_isinstance (pa_cons (pv 0) (pa_cons (pe_bltn (v := .ty "tuple") (by rfl) T.n_tuple PyProof.Rows.boot_tuple rfl) pa_nil))))) (pw_or1 (pt_cmpR (op_neG hr.hu) (pe_callB call_lenV (by rfl) T.n_len PySem.boot_len (pa_cons (pv 0) pa_nil)) (pe_callB call_lenV (by rfl) T.n_len PySem.boot_len (pa_cons (pv 1) pa_nil)) (nomark _))))) (pss_one (ps_ret pe_bl)) pss_nil)
      (pss_one (ps_ret (pe_cmpR (op_eqG hr.hu) (pe_lc (own := [("at", 2)]) (by rfl) sc__law_is.nd (pi_range1 rfl T.n_range (pa_cons (pe_callB call_lenV (by rfl) T.n_len PySem.boot_len (pa_cons (pv 1) pa_nil)) pa_nil)) (blkOk_by (N := nm__law_is) (sc := defScope s__law_is) (by decide +kernel)) (fun _ _ _ _ _ => (pg_name (i := 2) sc__law_is.nd rfl (Or.inl rfl))) (fun _ _ _ _ _ => pts_one (pt_not (pt_val (pe_go (ok__law_is0 T hS) (hr.mono (by decide)) (pl := []) (fun _ h => nomatch h) (by rfl) T.g__law_is T.F__law_is.kp T.b__law_is lets0 (pa_cons (pe_ix (show IxR _ (rIx K) from ix_seq) (pv 0) (pv 2) (fun _ _ => rfl)) (pa_cons (pe_ix (show IxR _ (rIx K) from ix_seq) (pv 1) (pv 2) (fun _ _ => rfl)) pa_nil)))))) (fun _ _ _ _ _ => (pv 2))) (pe_lst pa_nil) (nomark _))))) pss_nil)
      (pss_cons (ps_if (pt_cmp (pc_isN (pv 1))) (pss_one (ps_ret (pe_cmp (pc_isN (pv 0)) rfl))) pss_nil)
      (pss_cons (ps_if (pt_cmpR op_isBlV (pv 1) pe_bl (nomark _)) (pss_one (ps_ret (pe_cmpR op_isBlV (pv 0) pe_bl (nomark _)))) pss_nil)
      (pss_cons (ps_if (pt_cmpR op_isBlV (pv 1) pe_bl (nomark _)) (pss_one (ps_ret (pe_cmpR op_isBlV (pv 0) pe_bl (nomark _)))) pss_nil)
      (pss_cons (ps_if (pt_val (pe_callB (call_isG (pn := (fun _ _ _ => False)) (fun _ _ _ z => z.elim)) (by rfl) T.n_isinstance PyProof.Rows.boot_isinstance (pa_cons (pv 1) (pa_cons (pe_bltn (v := .ty "str") (by rfl) T.n_str PyProof.Rows.boot_str rfl) pa_nil)))) (pss_one (ps_ret (pe_and (pe_callB (call_isG (pn := (fun _ _ _ => False)) (fun _ _ _ z => z.elim)) (by rfl) T.n_isinstance PyProof.Rows.boot_isinstance (pa_cons (pv 0) (pa_cons (pe_bltn (v := .ty "str") (by rfl) T.n_str PyProof.Rows.boot_str rfl) pa_nil))) (pe_one (pe_cmpR (op_eqG hr.hu) (pv 0) (pv 1) (nomark _)))))) pss_nil)
      (pss_one (ps_ret (pe_and (pe_callB (call_isG (pn := (fun _ _ _ => False)) (fun _ _ _ z => z.elim)) (by rfl) T.n_isinstance PyProof.Rows.boot_isinstance (pa_cons (pv 0) (pa_cons (pe_bltn (v := .ty "int") (by rfl) T.n_int PyProof.Rows.boot_int rfl) pa_nil))) (pe_and (pe_not (pe_callB (call_isG (pn := (fun _ _ _ => False)) (fun _ _ _ z => z.elim)) (by rfl) T.n_isinstance PyProof.Rows.boot_isinstance (pa_cons (pv 0) (pa_cons (pe_bltn (v := .ty "bool") (by rfl) T.n_bool PyProof.Rows.boot_bool rfl) pa_nil)))) (pe_one (pe_cmpR (op_eqG hr.hu) (pv 0) (pv 1) (nomark _)))))))))))), fun b ss R X h hX => ?_⟩
  obtain ⟨x, rfl, hx, q⟩ := h
  rcases hx with ⟨u, rfl⟩ | ⟨u, v, rfl⟩
  · refine ds_seq (ds_if (dt_test (de_isT (de_var rfl ⟨_, false, rfl, by decide +kernel, false, rfl, iteF (ds_next ?_)⟩))))
    refine ds_seq (ds_if (dt_test (de_isN (de_var rfl ⟨false, rfl, iteF (ds_next ?_)⟩))))
    refine ds_seq (ds_if (dt_test (de_isBl (de_var rfl ⟨false, rfl, iteF (ds_next ?_)⟩))))
    refine ds_seq (ds_if (dt_test (de_isBl (de_var rfl ⟨false, rfl, iteF (ds_next ?_)⟩))))
    refine ds_seq (ds_if (dt_test (de_isT (de_var rfl ⟨_, false, rfl, by decide +kernel, false, rfl, iteF (ds_next ?_)⟩))))
    refine ds_ret (de_andV (de_isT (de_var rfl ⟨_, true, rfl, by decide +kernel, true, rfl, iteT ?_⟩)))
    refine de_andV (de_notV (de_isT (de_var rfl ⟨_, false, rfl, by decide +kernel, false, rfl, true, rfl, iteT ?_⟩)))
    exact de_eqI (de_var rfl (de_var rfl ⟨u, u, rfl, rfl, by rw [decide_eq_true rfl]; exact q⟩))
  · refine ds_seq (ds_if (dt_test (de_isT (de_var rfl ⟨_, true, rfl, by decide +kernel, true, rfl, iteT ?_⟩))))
    refine ds_seq (ds_if (dt_or (dt_not (dt_test (de_isT (de_var rfl ⟨_, true, rfl, by decide +kernel, true, rfl, iteF ?_⟩))))))
    refine dt_test (de_neI (de_len (de_var rfl ⟨2, rfl, de_len (de_var rfl ⟨2, rfl, 2, 2, rfl, rfl, false, rfl, iteF (ds_next ?_)⟩)⟩)))
    refine ds_ret (de_eqA (de_new (dn_lc (di_range1 (da_cons (de_len (de_var rfl ⟨2, rfl, da_nil ⟨2, rfl, by decide, by decide, fun i acc => acc = [], rfl, fun i d acc hi hacc => ?_, fun acc hacc => ?_⟩⟩)))))))
    · refine dgw_name (by simp) ?_
      have hd : d = .int 0 ∨ d = .int 1 := by
        have e : rngD 0 ((2 : Int).toNat) = [.int 0, .int 1] := rfl
        have hm := List.mem_of_getElem? hi
        rw [e] at hm
        simpa using hm
      subst hacc
      rcases hd with rfl | rfl
      · refine dt_not (dt_test (de_call EL.no (dc_cons (de_ix (de_var rfl (de_var rfl ⟨0, .int u, rfl, rfl, ?_⟩))))))
        exact dc_cons (de_ix (de_var rfl (de_var rfl ⟨0, .int u, rfl, rfl, dc_nil ⟨u, u, rfl, true, by rw [decide_eq_true rfl], iteF rfl⟩⟩)))
      · refine dt_not (dt_test (de_call EL.no (dc_cons (de_ix (de_var rfl (de_var rfl ⟨1, .int v, rfl, rfl, ?_⟩))))))
        exact dc_cons (de_ix (de_var rfl (de_var rfl ⟨1, .int v, rfl, rfl, dc_nil ⟨v, v, rfl, true, by rw [decide_eq_true rfl], iteF rfl⟩⟩)))
    · subst hacc
      refine de_lst (da_nil ⟨by decide, ?_⟩)
      have O : Od 1 (.lst []) := Od.dec (by decide +kernel) (by decide +kernel) (by decide +kernel) (by decide +kernel)
      refine ⟨O.ok (by decide), O.ok (by decide), ?_⟩
      rw [O.refl]
      exact q
end
end Law

set_option Elab.async false
set_option linter.all false
set_option maxRecDepth 100000
set_option maxHeartbeats 4000000
namespace Law
open PySem PySem.Spec PyProof.Rows L2 G
section
variable {P : Program} {w : World} {K : PySem.W.Frag} {mg : Str → Option Value} {base : Heap} {a : Ad}
def G_ovr (a : Ad) : D → D → Int → Int → Int → Int → (D → Prop) → (Addr → List (Str × D) → Prop) → Prop := fun x y t b h l R X => if h = 0 then X a.c_BadNumber [("number", y), ("what", .str "other")] else R (lowZ (t * l) (b * h))
theorem RtV.zero {x : D} {t b : Int} (h : RtV x t b) (h0 : t = 0) : x = .int 0 := by
  cases h with
  | int t => rw [h0]
  | pair t b h1 h2 =>
    subst h0
    exfalso
    rw [show (0 : Int).natAbs = 0 from rfl, Nat.gcd_zero_left] at h2
    omega
theorem okD_pair (t b : Int) : okD (.tup [.int t, .int b]) = true := (OdL.tup (n := 0) (.cons .int (.cons .int .nil))).ok (by decide)
theorem okD_int (t : Int) : okD (.int t) = true := (Od.int (n := 0)).ok (by decide)
theorem RtV.okD {x : D} {t b : Int} (h : RtV x t b) : okD x = true := by
  cases h with
  | int t => exact okD_int t
  | pair t b h1 h2 => exact okD_pair t b
theorem RtV.eq0 {x : D} {t b : Int} (h : RtV x t b) : eqD x (.int 0) = decide (t = 0) := by
  cases h with
  | int t => 
    show PyData.eqv (.int t) (.int 0) = _
    simp only [PyData.eqv]
    exact Bool.beq_eq_decide_eq t 0
  | pair t b h1 h2 =>
    have : t ≠ 0 := fun z => by
      subst z
      rw [show (0 : Int).natAbs = 0 from rfl, Nat.gcd_zero_left] at h2
      omega
    rw [decide_eq_false this]
    show PyData.eqv (D.tup [.int t, .int b]).py (.int 0) = false
    simp [D.py, PyData.eqv]
theorem ok_over (T : Tx K mg a) (hS : Sy mg base a) : FnG P w K mg base true 4 a.f_over a.d_over (["one", "other"] : List Str) (fun _ => spD K (F_op a (G_ovr a))) := by
  refine fn_data T.F_over sc_over (fun ss R X z => by obtain ⟨_, _, h, _⟩ := z; rw [h] <;> rfl) fun cdv A outer s H E pl hr => ⟨_, (pss_cons (ps_expr (pe_go (ok_need_ratios T hS) (hr.mono (by decide)) (pl := []) (fun _ h => nomatch h) (by rfl) T.g_need_ratios T.F_need_ratios.kp T.b_need_ratios (passAt (takes_of rfl rfl rfl rfl)) (pa_cons (pv 0) (pa_cons (pv 1) pa_nil))))
      (pss_cons (ps_if (pt_cmpR (op_eqG hr.hu) (pv 1) pe_int (nomark _)) (pss_one (ps_raiseN rfl (takes_of rfl rfl rfl rfl) (pmk_oex (dvs := []) (ds := []) T.O_BadNumber T.i_BadNumber T.ti_BadNumber (in_BadNumber T) (Rm.room (k := 2) (hr.mono (by decide))) T.bi_BadNumber .nil pass0 (by rfl) T.g_BadNumber (pa_cons pe_str (pa_cons (pv 1) pa_nil))))) pss_nil)
      (pss_one (ps_ret (pe_go (ok_divided T hS) (hr.mono (by decide)) (pl := []) (fun _ h => nomatch h) (by rfl) T.g_divided T.F_divided.kp T.b_divided (passAt (takes_of rfl rfl rfl rfl)) (pa_cons (pv 0) (pa_cons (pv 1) pa_nil))))))), fun b ss R X h hX => ?_⟩
  obtain ⟨x, y, rfl, hx, hy, q⟩ := h
  refine ds_seq (ds_drop (de_call (fun Hf H σ fr => hX _ Hf H σ fr) (dc_cons (de_var rfl (dc_cons (de_var rfl (dc_nil ⟨x, y, rfl, hx, hy, q.imp fun ⟨t, v, u, l, two, q⟩ => ?_⟩)))))))
  unfold G_ovr at q
  refine ds_seq (ds_if (dt_test (de_eqA (de_var rfl (de_int ⟨two.y.okD, okD_int 0, _, rfl, ?_⟩)))))
  rw [two.y.eq0]
  by_cases h0 : u = 0
  · rw [if_pos h0] at q
    rw [decide_eq_true h0]
    exact iteT (ds_raise (hX _) (da_cons (de_str (da_cons (de_var rfl (da_nil ⟨rfl, by decide, q⟩))))))
  · rw [if_neg h0] at q
    rw [decide_eq_false h0]
    exact iteF (ds_next (ds_ret (de_call EL.no (dc_cons (de_var rfl (dc_cons (de_var rfl (dc_nil ⟨x, y, t, v, u, l, rfl, two, h0, q⟩))))))))
def F_sign (a : Ad) : DF := fun ss R X => ∃ x, ss = [.sh x] ∧ Pr x ∧ if isRt x = true then ∃ t b, RtV x t b ∧ R (.int (sgn t)) else X a.c_BadNumber [("number", x), ("what", .str "one")]
theorem ok_sign (T : Tx K mg a) (hS : Sy mg base a) : FnG P w K mg base true 3 a.f_sign a.d_sign (["one"] : List Str) (fun _ => spD K (F_sign a)) := by
  refine fn_data T.F_sign sc_sign (fun ss R X z => by obtain ⟨_, h, _⟩ := z; rw [h] <;> rfl) fun cdv A outer s H E pl hr => ⟨_, (pss_cons (ps_if (pt_not (pt_val (pe_go (ok_is_ratio T hS) (hr.mono (by decide)) (pl := []) (fun _ h => nomatch h) (by rfl) T.g_is_ratio T.F_is_ratio.kp T.b_is_ratio (passAt (takes_of rfl rfl rfl rfl)) (pa_cons (pv 0) pa_nil)))) (pss_one (ps_raiseN rfl (takes_of rfl rfl rfl rfl) (pmk_oex (dvs := []) (ds := []) T.O_BadNumber T.i_BadNumber T.ti_BadNumber (in_BadNumber T) (Rm.room (k := 2) (hr.mono (by decide))) T.bi_BadNumber .nil pass0 (by rfl) T.g_BadNumber (pa_cons pe_str (pa_cons (pv 0) pa_nil))))) pss_nil)
      (pss_one (ps_ret (pe_go (ok_sign_of T hS) (hr.mono (by decide)) (pl := []) (fun _ h => nomatch h) (by rfl) T.g_sign_of T.F_sign_of.kp T.b_sign_of (passAt (takes_of rfl rfl rfl rfl)) (pa_cons (pv 0) pa_nil))))), fun b ss R X h hX => ?_⟩
  obtain ⟨x, rfl, hx, q⟩ := h
  refine ds_seq (ds_if (dt_not (dt_test (de_call EL.no (dc_cons (de_var rfl (dc_nil ⟨x, rfl, hx, _, rfl, ?_⟩)))))))
  cases ex : isRt x with
  | false =>
    rw [ex, if_neg (by decide)] at q
    exact iteT (ds_raise (hX _) (da_cons (de_str (da_cons (de_var rfl (da_nil ⟨rfl, by decide, q⟩))))))
  | true =>
    rw [ex, if_pos rfl] at q
    obtain ⟨t, v, hv, q⟩ := q
    exact iteF (ds_next (ds_ret (de_call EL.no (dc_cons (de_var rfl (dc_nil ⟨x, t, v, rfl, hv, q⟩))))))
def isN0 : D → Bool
  | .int i => !decide (i = 0)
  | _ => false
def F_ratio (a : Ad) : DF := fun ss R X => ∃ x y, ss = [.sh x, .sh y] ∧ Pl x ∧ Pl y ∧
  if isI x = true then (if isN0 y = true then ∃ t v, x = .int t ∧ y = .int v ∧ v.natAbs.log2 < 9000 ∧ R (lowZ t v) else X a.c_BadNumber [("number", y), ("what", .str "bottom")]) else X a.c_BadNumber [("number", x), ("what", .str "top")]
theorem ok_ratio (T : Tx K mg a) (hS : Sy mg base a) : FnG P w K mg base true 3 a.f_ratio a.d_ratio (["top", "bottom"] : List Str) (fun _ => spD K (F_ratio a)) := by
  refine fn_data T.F_ratio sc_ratio (fun ss R X z => by obtain ⟨_, _, h, _⟩ := z; rw [h] <;> rfl) fun cdv A outer s H E pl hr => ⟨_, (pss_cons (ps_if (pt_not (pt_val (pe_go (ok_is_integer T hS) (hr.mono (by decide)) (pl := []) (fun _ h => nomatch h) (by rfl) T.g_is_integer T.F_is_integer.kp T.b_is_integer (passAt (takes_of rfl rfl rfl rfl)) (pa_cons (pv 0) pa_nil)))) (pss_one (ps_raiseN rfl (takes_of rfl rfl rfl rfl) (pmk_oex (dvs := []) (ds := []) T.O_BadNumber T.i_BadNumber T.ti_BadNumber (in_BadNumber T) (Rm.room (k := 2) (hr.mono (by decide))) T.bi_BadNumber .nil pass0 (by rfl) T.g_BadNumber (pa_cons pe_str (pa_cons (pv 0) pa_nil))))) pss_nil)
      (pss_cons (ps_if (PW.pt (pw_or (pt_not (pt_val (pe_go (ok_is_integer T hS) (hr.mono (by decide)) (pl := []) (fun _ h => nomatch h) (by rfl) T.g_is_integer T.F_is_integer.kp T.b_is_integer (passAt (takes_of rfl rfl rfl rfl)) (pa_cons (pv 1) pa_nil)))) (pw_or1 (pt_cmpR (op_eqG hr.hu) (pv 1) pe_int (nomark _))))) (pss_one (ps_raiseN rfl (takes_of rfl rfl rfl rfl) (pmk_oex (dvs := []) (ds := []) T.O_BadNumber T.i_BadNumber T.ti_BadNumber (in_BadNumber T) (Rm.room (k := 2) (hr.mono (by decide))) T.bi_BadNumber .nil pass0 (by rfl) T.g_BadNumber (pa_cons pe_str (pa_cons (pv 1) pa_nil))))) pss_nil)
      (pss_one (ps_ret (pe_go (ok_in_lowest T hS) (hr.mono (by decide)) (pl := []) (fun _ h => nomatch h) (by rfl) T.g_in_lowest T.F_in_lowest.kp T.b_in_lowest (passAt (takes_of rfl rfl rfl rfl)) (pa_cons (pv 0) (pa_cons (pv 1) pa_nil))))))), fun b ss R X h hX => ?_⟩
  obtain ⟨x, y, rfl, hx, hy, q⟩ := h
  refine ds_seq (ds_if (dt_not (dt_test (de_call EL.no (dc_cons (de_var rfl (dc_nil ⟨x, rfl, hx, _, rfl, ?_⟩)))))))
  cases ex : isI x with
  | false =>
    rw [ex, if_neg (by decide)] at q
    exact iteT (ds_raise (hX _) (da_cons (de_str (da_cons (de_var rfl (da_nil ⟨rfl, by decide, q⟩))))))
  | true =>
    rw [ex, if_pos rfl] at q
    refine iteF (ds_next (ds_seq (ds_if (dt_or (dt_not (dt_test (de_call EL.no (dc_cons (de_var rfl (dc_nil ⟨y, rfl, hy, _, rfl, ?_⟩))))))))))
    cases ey : isI y with
    | false =>
      have : isN0 y = false := by cases y <;> first | rfl | cases ey
      rw [this, if_neg (by decide)] at q
      exact iteT (iteT (ds_raise (hX _) (da_cons (de_str (da_cons (de_var rfl (da_nil ⟨rfl, by decide, q⟩)))))))
    | true =>
      obtain ⟨v, rfl⟩ : ∃ v, y = .int v := by cases y <;> first | exact ⟨_, rfl⟩ | cases ey
      refine iteF (dt_test (de_eqI (de_var rfl (de_int ⟨v, 0, rfl, rfl, _, rfl, ?_⟩))))
      by_cases h0 : v = 0
      · have : isN0 (.int v) = false := by subst h0; rfl
        rw [this, if_neg (by decide)] at q
        rw [decide_eq_true h0]
        exact iteT (ds_raise (hX _) (da_cons (de_str (da_cons (de_var rfl (da_nil ⟨rfl, by decide, q⟩))))))
      · have : isN0 (.int v) = true := by simp [isN0, h0]
        rw [this, if_pos rfl] at q
        obtain ⟨t, v', rfl, e2, hl, q⟩ := q
        cases e2
        rw [decide_eq_false h0]
        exact iteF (ds_next (ds_ret (de_call EL.no (dc_cons (de_var rfl (dc_cons (de_var rfl (dc_nil ⟨t, v, rfl, h0, hl, q⟩))))))))
end
end Law

set_option Elab.async false
set_option linter.all false
set_option maxRecDepth 100000
set_option maxHeartbeats 4000000
namespace Law
open PySem PySem.Spec PyProof.Rows L2 G
section
variable {P : Program} {w : World} {K : PySem.W.Frag} {mg : Str → Option Value} {base : Heap} {a : Ad}
/-- told is the very truth value that is due -/
def F_says : DF := fun ss R _ => ∃ c : Bool, ss = [.sh (.bl c), .sh (.bl c)] ∧ R (.bl true)
theorem ok__law_says (T : Tx K mg a) (hS : Sy mg base a) : FnG P w K mg base true 1 a.f__law_says a.d__law_says (["told", "due"] : List Str) (fun _ => spD K F_says) := by
  refine fn_data T.F__law_says sc__law_says (fun ss R X z => by obtain ⟨_, h, _⟩ := z; rw [h] <;> rfl) fun cdv A outer s H E pl hr => ⟨_, (pss_one (ps_ret (pe_ifExp (pt_val (pv 1)) (pe_cmpR op_isBlV (pv 0) pe_bl (nomark _)) (pe_cmpR op_isBlV (pv 0) pe_bl (nomark _))))), fun b ss R X h hX => ?_⟩
  obtain ⟨c, rfl, q⟩ := h
  cases c with
  | true => exact ds_ret (de_ite (dt_test (de_var rfl ⟨true, rfl, iteT (de_isBl (de_var rfl q))⟩)))
  | false => exact ds_ret (de_ite (dt_test (de_var rfl ⟨false, rfl, iteF (de_isBl (de_var rfl q))⟩)))
def isL : D → Bool
  | .lst _ => true
  | .tup _ => true
  | _ => false
def F_isL : DF := fun ss R _ => ∃ x, ss = [.sh x] ∧ Pl x ∧ R (.bl (isL x))
theorem ok__law_is_list (T : Tx K mg a) (hS : Sy mg base a) : FnG P w K mg base true 1 a.f__law_is_list a.d__law_is_list (["value"] : List Str) (fun _ => spD K F_isL) := by
  refine fn_data T.F__law_is_list sc__law_is_list (fun ss R X z => by obtain ⟨_, h, _⟩ := z; rw [h] <;> rfl) fun cdv A outer s H E pl hr => ⟨_, (pss_one (ps_ret (pe_callB call_isiT (by rfl) T.n_isinstance PyProof.Rows.boot_isinstance (pa_cons (pv 0) (pa_cons (pe_tup (pa_cons (pe_bltn (v := .ty "list") (by rfl) T.n_list PyProof.Rows.boot_list rfl) (pa_cons (pe_bltn (v := .ty "tuple") (by rfl) T.n_tuple PyProof.Rows.boot_tuple rfl) pa_nil))) pa_nil))))), fun b ss R X h hX => ?_⟩
  obtain ⟨x, rfl, ⟨t, ht⟩, q⟩ := h
  cases x with
  | non => exact ds_ret (de_isT2 (de_var rfl ⟨_, false, false, rfl, by decide +kernel, by decide +kernel, q⟩))
  | bl _ => exact ds_ret (de_isT2 (de_var rfl ⟨_, false, false, rfl, by decide +kernel, by decide +kernel, q⟩))
  | int _ => exact ds_ret (de_isT2 (de_var rfl ⟨_, false, false, rfl, by decide +kernel, by decide +kernel, q⟩))
  | str _ => exact ds_ret (de_isT2 (de_var rfl ⟨_, false, false, rfl, by decide +kernel, by decide +kernel, q⟩))
  | dic _ => exact ds_ret (de_isT2 (de_var rfl ⟨_, false, false, rfl, by decide +kernel, by decide +kernel, q⟩))
  | tup _ => exact ds_ret (de_isT2 (de_var rfl ⟨_, false, true, rfl, by decide +kernel, by decide +kernel, q⟩))
  | lst _ => exact ds_ret (de_isT2 (de_var rfl ⟨_, true, false, rfl, by decide +kernel, by decide +kernel, q⟩))
  | ty _ => cases ht
  | fn _ => cases ht
  | obj _ _ => cases ht
  | exc _ _ _ _ => cases ht
/-- a number of so many figures -/
def F_wide : DF := fun ss R _ => ∃ f : Nat, ss = [.pen, .sh (.int f)] ∧ f ≤ 60 ∧ ∀ n : Int, 0 ≤ n → n < 10 ^ f → R (.int n)
theorem ok__law_wide (T : Tx K mg a) (hS : Sy mg base a) : FnG P w K mg base true 2 a.f__law_wide a.d__law_wide (["pen", "figures"] : List Str) (fun _ => spD K F_wide) := by
  refine fn_data T.F__law_wide sc__law_wide (fun ss R X z => by obtain ⟨_, h, _⟩ := z; rw [h] <;> rfl) fun cdv A outer s H E pl hr => ⟨_, (pss_cons (ps_asg (pe_tup (pa_cons pe_int (pa_cons pe_int pa_nil))) (pg_tup rfl (pgs_cons (pg_name (i := 2) sc__law_wide.nd rfl (Or.inl rfl)) (pgs_cons (pg_name (i := 3) sc__law_wide.nd rfl (Or.inl rfl)) pgs_nil))))
      (pss_cons (ps_for (passes_of rfl) rfl (pi_range1 rfl T.n_range (pa_cons (pe_op op_fdivG (pe_op op_addG (pv 1) pe_int) pe_int) pa_nil)) (pg_name (i := 4) sc__law_wide.nd rfl (Or.inl rfl)) (pss_one (ps_set (i := 2) sc__law_wide.nd rfl (Or.inl rfl) (pe_op op_addG (pe_op op_mulG (pv 2) (pe_op op_pow pe_int pe_int)) (pe_go (ok__law_draw T hS) (hr.mono (by decide)) (pl := []) (fun _ h => nomatch h) (by rfl) T.g__law_draw T.F__law_draw.kp T.b__law_draw lets0 (pa_cons (pv 0) (pa_cons (pe_op op_pow pe_int pe_int) pa_nil)))))))
      (pss_cons (ps_for (passes_of rfl) rfl (pi_range1 rfl T.n_range (pa_cons (pv 1) pa_nil)) (pg_name (i := 4) sc__law_wide.nd rfl (Or.inl rfl)) (pss_one (ps_set (i := 3) sc__law_wide.nd rfl (Or.inl rfl) (pe_op op_mulG (pv 3) pe_int))))
      (pss_one (ps_ret (pe_op op_modN (pe_callTy call_intV (by rfl) T.n_int PyProof.Rows.boot_int (pa_cons (pv 2) pa_nil)) (pv 3))))))), fun b ss R X h hX => ?_⟩
  obtain ⟨f, rfl, hf, q⟩ := h
  have e6 : (10 : Int) ^ (6 : Int).toNat = 1000000 := by decide +kernel
  refine ds_seq (ds_asgG (de_tup (da_cons (de_int (da_cons (de_int (da_nil ⟨by decide, dg_tup rfl rfl (dgs_cons (dg_name (dgs_cons (dg_name (dgs_nil ?_)))))⟩)))))))
  refine ds_seq (ds_forI (di_range1 (da_cons (de_II (de_addI (de_var rfl (de_int ⟨f, 5, rfl, rfl, de_int ⟨(f : Int) + 5, 6, rfl, rfl, ⟨by decide, by decide +kernel⟩, ?_⟩⟩)))))))
  have h60 : ((f : Int) + 5).fdiv 6 ≤ 11 ∧ 0 ≤ ((f : Int) + 5).fdiv 6 := by
    rw [Int.fdiv_eq_ediv_of_nonneg _ (by decide)]
    omega
  generalize ((f : Int) + 5).fdiv 6 = j at h60
  refine da_nil ⟨j, rfl, by omega, by omega, ?_⟩
  refine ⟨fun i ρ => ∃ (n : Int) (s : Sl), ρ = [.pen, .sh (.int f), .sh (.int n), .sh (.int 1), s] ∧ 0 ≤ n ∧ n < 1000000 ^ i, ⟨0, .no, rfl, by decide, by decide⟩, fun i d ρ hi h => ?_, fun ρ h => ?_⟩
  · obtain ⟨n, s, rfl, n0, n1⟩ := h
    have hi' : i < 11 := by
      have := (List.getElem?_eq_some_iff.mp hi).1
      rw [rngD_len] at this
      omega
    refine dg_name (ds_asg (de_addI (de_II (de_var rfl (de_II (de_int (de_int ⟨10, 6, rfl, rfl, ⟨by decide, by decide, by decide⟩, n, _, rfl, rfl, mul_small (Or.inr ⟨by rw [e6]; decide, by rw [e6]; decide⟩), ?_⟩)))))))
    refine de_call EL.no (dc_pen rfl (dc_cons (de_II (de_int (de_int ⟨10, 6, rfl, rfl, ⟨by decide, by decide, by decide⟩, dc_nil ⟨_, rfl, by rw [e6]; decide, draw_ok (by rw [e6]; decide) (by rw [e6]; decide), fun k k0 k1 => ⟨_, k, rfl, rfl, _, _, rfl, ?_, ?_⟩⟩⟩)))))
    · rw [e6] at k1 ⊢
      omega
    · rw [e6] at k1 ⊢
      rw [Int.pow_succ]
      have : (n + 1) * 1000000 ≤ 1000000 ^ i * 1000000 := Int.mul_le_mul_of_nonneg_right (by omega) (by decide)
      omega
  · obtain ⟨n, s, rfl, n0, n1⟩ := h
    refine ds_seq (ds_forI (di_range1 (da_cons (de_var rfl (da_nil ⟨f, rfl, by omega, by omega, ?_⟩)))))
    refine ⟨fun i ρ => ∃ (s : Sl), ρ = [.pen, .sh (.int f), .sh (.int n), .sh (.int (10 ^ i)), s], ⟨s, rfl⟩, fun i d ρ hi h => ?_, fun ρ h => ?_⟩
    · obtain ⟨s, rfl⟩ := h
      exact dg_name (ds_asg (de_II (de_var rfl (de_int ⟨_, 10, rfl, rfl, mul_small (Or.inr ⟨by decide, by decide⟩), ⟨_, by rw [Int.pow_succ] <;> rfl⟩⟩))))
    · obtain ⟨s, rfl⟩ := h
      have e : (rngD 0 (f : Int).toNat).length = f := by rw [rngD_len]; omega
      rw [e]
      have p0 : (0 : Int) < 10 ^ f := Int.pow_pos (by decide)
      exact ds_ret (de_II (de_intc (de_var rfl (Or.inl ⟨n, rfl, de_var rfl ⟨n, _, rfl, rfl, by omega, q _ (fmod_lo _ p0) (fmod_hi _ p0)⟩⟩))))
end
end Law

set_option Elab.async false
set_option linter.all false
set_option maxRecDepth 100000
set_option maxHeartbeats 4000000
namespace Law
open PySem PySem.Spec PyProof.Rows L2 G
theorem fdiv_mul {g x : Int} (hg : 0 < g) : (g * x).fdiv g = x := by
  rw [Int.fdiv_eq_ediv_of_nonneg _ (Int.le_of_lt hg)]
  exact Int.mul_ediv_cancel_left _ (by omega)
theorem low_parts {t v : Int} (hv : 0 < v) : ∃ g x y : Int, g = ((Nat.gcd t.natAbs v.natAbs : Nat) : Int) ∧ 0 < g ∧ t = g * x ∧ v = g * y ∧ 0 < y ∧ Nat.gcd x.natAbs y.natAbs = 1 := by
  have g0 : 0 < Nat.gcd t.natAbs v.natAbs := Nat.gcd_pos_of_pos_right _ (by omega)
  have h1 : ((Nat.gcd t.natAbs v.natAbs : Nat) : Int) ∣ t := Int.natAbs_dvd_natAbs.mp (by rw [Int.natAbs_natCast]; exact Nat.gcd_dvd_left _ _)
  have h2 : ((Nat.gcd t.natAbs v.natAbs : Nat) : Int) ∣ v := Int.natAbs_dvd_natAbs.mp (by rw [Int.natAbs_natCast]; exact Nat.gcd_dvd_right _ _)
  obtain ⟨x, hx⟩ := h1
  obtain ⟨y, hy⟩ := h2
  refine ⟨_, x, y, rfl, by omega, hx, hy, ?_, ?_⟩
  · by_cases z : 0 < y
    · exact z
    · have : ((Nat.gcd t.natAbs v.natAbs : Nat) : Int) * y ≤ 0 := Int.mul_nonpos_of_nonneg_of_nonpos (by omega) (by omega)
      omega
  · have e1 : t.natAbs = Nat.gcd t.natAbs v.natAbs * x.natAbs := by
      have := congrArg Int.natAbs hx
      rw [Int.natAbs_mul, Int.natAbs_natCast] at this
      exact this
    have e2 : v.natAbs = Nat.gcd t.natAbs v.natAbs * y.natAbs := by
      have := congrArg Int.natAbs hy
      rw [Int.natAbs_mul, Int.natAbs_natCast] at this
      exact this
    have e3 : Nat.gcd t.natAbs v.natAbs = Nat.gcd t.natAbs v.natAbs * Nat.gcd x.natAbs y.natAbs := by
      rw [← Nat.gcd_mul_left, ← e1, ← e2]
    exact Nat.eq_of_mul_eq_mul_left g0 (by rw [Nat.mul_one]; exact e3.symm)
theorem lowZ_rt {t v : Int} (hv : 0 < v) : ∃ x y : Int, RtV (lowZ t v) x y ∧ x.natAbs ≤ t.natAbs ∧ y ≤ v ∧ t * y = x * v := by
  obtain ⟨g, x, y, eg, g0, e1, e2, y0, hc⟩ := low_parts (t := t) hv
  have eb : byZ t v = g := by
    unfold byZ
    rw [if_neg (by omega), eg]
  have d1 : t.fdiv g = x := by rw [e1]; exact fdiv_mul g0
  have d2 : v.fdiv g = y := by rw [e2]; exact fdiv_mul g0
  have yv : y ≤ v := by
    rw [e2]
    have := Int.mul_le_mul_of_nonneg_right (show 1 ≤ g by omega) (Int.le_of_lt y0)
    omega
  have xt : x.natAbs ≤ t.natAbs := by
    rw [e1, Int.natAbs_mul]
    exact Nat.le_mul_of_pos_left _ (by omega)
  have cr : t * y = x * v := by
    rw [e1, e2, Int.mul_assoc, Int.mul_comm g (x * y), Int.mul_assoc, Int.mul_comm y g]
  unfold lowZ
  rw [eb, d1, d2]
  by_cases z : v = g
  · rw [if_pos z]
    have y1 : y = 1 := by
      have : g * y = g * 1 := by rw [← e2, z, Int.mul_one]
      exact Int.eq_of_mul_eq_mul_left (by omega) this
    subst y1
    exact ⟨x, 1, .int x, xt, yv, cr⟩
  · rw [if_neg z]
    have y1 : 1 < y := by
      by_cases w : y = 1
      · rw [w, Int.mul_one] at e2
        exact (z e2).elim
      · omega
    exact ⟨x, y, .pair x y y1 hc, xt, yv, cr⟩
section
variable {P : Program} {w : World} {K : PySem.W.Frag} {mg : Str → Option Value} {base : Heap} {a : Ad}
def F_size : DF := fun ss R _ => ss = [.pen] ∧ ∀ s : Int, 0 ≤ s → s ≤ 2 → R (.int s)
theorem ok__law_size (T : Tx K mg a) (hS : Sy mg base a) : FnG P w K mg base true 3 a.f__law_size a.d__law_size (["pen"] : List Str) (fun _ => spD K F_size) := by
  refine fn_data T.F__law_size sc__law_size (fun ss R X z => by obtain ⟨h, _⟩ := z; rw [h] <;> rfl) fun cdv A outer s H E pl hr => ⟨_, (pss_one (ps_ret (pe_go (ok__law_pick T hS) (hr.mono (by decide)) (pl := []) (fun _ h => nomatch h) (by rfl) T.g__law_pick T.F__law_pick.kp T.b__law_pick lets0 (pa_cons (pv 0) (pa_cons (pe_lst (pa_cons pe_int (pa_cons pe_int (pa_cons pe_int (pa_cons pe_int (pa_cons pe_int (pa_cons pe_int pa_nil))))))) pa_nil))))), fun b ss R X h hX => ?_⟩
  obtain ⟨rfl, q⟩ := h
  refine ds_ret (de_call EL.no (dc_pen rfl (dc_cons (de_lst (da_cons (de_int (da_cons (de_int (da_cons (de_int (da_cons (de_int (da_cons (de_int (da_cons (de_int (da_nil ⟨by decide, dc_nil ⟨_, _, rfl, rfl, (fun z => nomatch z), by decide, fun d hd => ?_⟩⟩)))))))))))))))))
  simp only [List.mem_cons, List.not_mem_nil, or_false] at hd
  rcases hd with rfl | rfl | rfl | rfl | rfl | rfl
  · exact q 0 (by decide) (by decide)
  · exact q 0 (by decide) (by decide)
  · exact q 0 (by decide) (by decide)
  · exact q 1 (by decide) (by decide)
  · exact q 1 (by decide) (by decide)
  · exact q 2 (by decide) (by decide)
theorem ok__law_is_ratio (T : Tx K mg a) (hS : Sy mg base a) : FnG P w K mg base true 2 a.f__law_is_ratio a.d__law_is_ratio (["value"] : List Str) (fun _ => spD K F_isRt) := by
  refine fn_data T.F__law_is_ratio sc__law_is_ratio (fun ss R X z => by obtain ⟨_, h, _⟩ := z; rw [h] <;> rfl) fun cdv A outer s H E pl hr => ⟨_, (pss_cons (ps_if (pt_val (pe_callB (call_isG (pn := (fun _ _ _ => False)) (fun _ _ _ z => z.elim)) (by rfl) T.n_isinstance PyProof.Rows.boot_isinstance (pa_cons (pv 0) (pa_cons (pe_bltn (v := .ty "tuple") (by rfl) T.n_tuple PyProof.Rows.boot_tuple rfl) pa_nil)))) (pss_cons (ps_if (PW.pt (pw_or (pt_cmpR (op_neG hr.hu) (pe_callB call_lenV (by rfl) T.n_len PySem.boot_len (pa_cons (pv 0) pa_nil)) pe_int (nomark _)) (pw_or (pt_not (pt_val (pe_go (ok__law_is_whole T hS) (hr.mono (by decide)) (pl := []) (fun _ h => nomatch h) (by rfl) T.g__law_is_whole T.F__law_is_whole.kp T.b__law_is_whole lets0 (pa_cons (pe_ix ix_seq (pv 0) pe_int (fun _ _ => rfl)) pa_nil)))) (pw_or1 (pt_not (pt_val (pe_go (ok__law_is_whole T hS) (hr.mono (by decide)) (pl := []) (fun _ h => nomatch h) (by rfl) T.g__law_is_whole T.F__law_is_whole.kp T.b__law_is_whole lets0 (pa_cons (pe_ix ix_seq (pv 0) pe_int (fun _ _ => rfl)) pa_nil)))))))) (pss_one (ps_ret pe_bl)) pss_nil)
      (pss_one (ps_ret (pe_and (pe_cmpR op_gt (pe_ix ix_seq (pv 0) pe_int (fun _ _ => rfl)) pe_int (nomark _)) (pe_one (pe_cmpR (op_eqG hr.hu) (pe_go (ok__law_divisor T hS) (hr.mono (by decide)) (pl := []) (fun _ h => nomatch h) (by rfl) T.g__law_divisor T.F__law_divisor.kp T.b__law_divisor lets0 (pa_cons (pe_ix ix_seq (pv 0) pe_int (fun _ _ => rfl)) (pa_cons (pe_ix ix_seq (pv 0) pe_int (fun _ _ => rfl)) pa_nil))) pe_int (nomark _))))))) pss_nil)
      (pss_one (ps_ret (pe_go (ok__law_is_whole T hS) (hr.mono (by decide)) (pl := []) (fun _ h => nomatch h) (by rfl) T.g__law_is_whole T.F__law_is_whole.kp T.b__law_is_whole lets0 (pa_cons (pv 0) pa_nil))))), fun b ss R X h hX => ?_⟩
  obtain ⟨x, rfl, ⟨hx, hp⟩, q⟩ := h
  cases x with
  | non => exact ds_seq (ds_if (dt_test (de_isT (de_var rfl ⟨_, false, rfl, by decide +kernel, false, rfl, iteF (ds_next (ds_ret (de_call EL.no (dc_cons (de_var rfl (dc_nil ⟨_, rfl, hx, q⟩))))))⟩))))
  | bl c => exact ds_seq (ds_if (dt_test (de_isT (de_var rfl ⟨_, false, rfl, by decide +kernel, false, rfl, iteF (ds_next (ds_ret (de_call EL.no (dc_cons (de_var rfl (dc_nil ⟨_, rfl, hx, q⟩))))))⟩))))
  | int c => exact ds_seq (ds_if (dt_test (de_isT (de_var rfl ⟨_, false, rfl, by decide +kernel, false, rfl, iteF (ds_next (ds_ret (de_call EL.no (dc_cons (de_var rfl (dc_nil ⟨_, rfl, hx, q⟩))))))⟩))))
  | str c => exact ds_seq (ds_if (dt_test (de_isT (de_var rfl ⟨_, false, rfl, by decide +kernel, false, rfl, iteF (ds_next (ds_ret (de_call EL.no (dc_cons (de_var rfl (dc_nil ⟨_, rfl, hx, q⟩))))))⟩))))
  | lst c => exact ds_seq (ds_if (dt_test (de_isT (de_var rfl ⟨_, false, rfl, by decide +kernel, false, rfl, iteF (ds_next (ds_ret (de_call EL.no (dc_cons (de_var rfl (dc_nil ⟨_, rfl, hx, q⟩))))))⟩))))
  | dic c => exact ds_seq (ds_if (dt_test (de_isT (de_var rfl ⟨_, false, rfl, by decide +kernel, false, rfl, iteF (ds_next (ds_ret (de_call EL.no (dc_cons (de_var rfl (dc_nil ⟨_, rfl, hx, q⟩))))))⟩))))
  | ty _ => obtain ⟨_, h⟩ := hx; cases h
  | fn _ => obtain ⟨_, h⟩ := hx; cases h
  | obj _ _ => obtain ⟨_, h⟩ := hx; cases h
  | exc _ _ _ _ => obtain ⟨_, h⟩ := hx; cases h
  | tup l =>
    refine ds_seq (ds_if (dt_test (de_isT (de_var rfl ⟨_, true, rfl, by decide +kernel, true, rfl, iteT ?_⟩))))
    refine ds_seq (ds_if (dt_or (dt_test (de_neI (de_len (de_var rfl ⟨l.length, rfl, de_int ⟨l.length, 2, rfl, rfl, _, rfl, ?_⟩⟩))))))
    by_cases hl : l.length = 2
    · obtain ⟨u, v, rfl⟩ : ∃ u v, l = [u, v] := by
        match l, hl with
        | [u, v], _ => exact ⟨u, v, rfl⟩
      obtain ⟨pu, pv'⟩ := hp u v rfl
      refine iteF ?_
      refine dt_or (dt_not (dt_test (de_call EL.no (dc_cons (de_ix (de_var rfl (de_int ⟨0, u, rfl, rfl, dc_nil ⟨_, rfl, pu, isI u, rfl, ?_⟩⟩)))))))
      cases eu : isI u with
      | false =>
        rw [isRt_pair (Or.inl eu)] at q
        exact iteT (iteT (ds_ret (de_bl q)))
      | true =>
        refine iteF (dt_not (dt_test (de_call EL.no (dc_cons (de_ix (de_var rfl (de_int ⟨1, v, rfl, rfl, dc_nil ⟨_, rfl, pv', isI v, rfl, ?_⟩⟩)))))))
        cases ev : isI v with
        | false =>
          rw [isRt_pair (Or.inr ev)] at q
          exact iteT (ds_ret (de_bl q))
        | true =>
          obtain ⟨i, rfl⟩ : ∃ i, u = .int i := by cases u <;> first | exact ⟨_, rfl⟩ | cases eu
          obtain ⟨j, rfl⟩ : ∃ j, v = .int j := by cases v <;> first | exact ⟨_, rfl⟩ | cases ev
          refine iteF (ds_next (ds_ret (de_andV (de_B0 (de_ix (de_var rfl (de_int ⟨1, .int j, rfl, rfl, de_int ⟨j, 1, rfl, rfl, _, rfl, ?_⟩⟩)))))))
          have e : isRt (.tup [.int i, .int j]) = (decide (j > 1) && decide (((Nat.gcd i.natAbs j.natAbs : Nat) : Int) = 1)) := rfl
          rw [e] at q
          refine ite2 (fun z => ?_) (fun z => ?_)
          · rw [z, Bool.true_and] at q
            exact de_eqI (de_call EL.no (dc_cons (de_ix (de_var rfl (de_int ⟨0, .int i, rfl, rfl, dc_cons (de_ix (de_var rfl (de_int ⟨1, .int j, rfl, rfl, dc_nil ⟨i, j, rfl, de_int ⟨_, 1, rfl, rfl, q⟩⟩⟩)))⟩)))))
          · have z' : decide (j > 1) = false := by simpa using z
            rw [z', Bool.false_and] at q
            exact q
    · have e : isRt (.tup l) = false := by
        match l, hl with
        | [], _ => rfl
        | [_], _ => rfl
        | _ :: _ :: _ :: _, _ => rfl
      rw [e] at q
      have hn : (!decide ((l.length : Int) = 2)) = true := by
        have : ¬ (l.length : Int) = 2 := by omega
        rw [decide_eq_false this] <;> rfl
      rw [hn]
      exact iteT (iteT (ds_ret (de_bl q)))
end
end Law

set_option Elab.async false
set_option linter.all false
set_option maxRecDepth 100000
set_option maxHeartbeats 4000000
namespace Law
open PySem PySem.Spec PyProof.Rows L2 G
theorem Lg.of {n : Nat} {x : Int} (m : Nat) (h : x.natAbs ≤ m) (hm : m < 2 ^ n) : Lg n x := Nat.lt_of_le_of_lt h hm
section
variable {P : Program} {w : World} {K : PySem.W.Frag} {mg : Str → Option Value} {base : Heap} {a : Ad}
def F_num : DF := fun ss R _ => ∃ s : Int, ss = [.pen, .sh (.int s)] ∧ ∀ x t b, RtV x t b → Lg 200 t → Lg 200 b → R x
theorem ok__law_number (T : Tx K mg a) (hS : Sy mg base a) : FnG P w K mg base true 4 a.f__law_number a.d__law_number (["pen", "size"] : List Str) (fun _ => spD K F_num) := by
  refine fn_data T.F__law_number sc__law_number (fun ss R X z => by obtain ⟨_, h, _⟩ := z; rw [h] <;> rfl) fun cdv A outer s H E pl hr => ⟨_, (pss_cons (ps_if (pt_cmpR (op_eqG hr.hu) (pv 1) pe_int (nomark _)) (pss_one (ps_ret (pe_op op_sub (pe_go (ok__law_draw T hS) (hr.mono (by decide)) (pl := []) (fun _ h => nomatch h) (by rfl) T.g__law_draw T.F__law_draw.kp T.b__law_draw lets0 (pa_cons (pv 0) (pa_cons pe_int pa_nil))) pe_int))) pss_nil)
      (pss_cons (ps_if (pt_cmpR (op_eqG hr.hu) (pv 1) pe_int (nomark _)) (pss_one (ps_ret (pe_go (ok__law_low T hS) (hr.mono (by decide)) (pl := []) (fun _ h => nomatch h) (by rfl) T.g__law_low T.F__law_low.kp T.b__law_low lets0 (pa_cons (pe_op op_sub (pe_go (ok__law_draw T hS) (hr.mono (by decide)) (pl := []) (fun _ h => nomatch h) (by rfl) T.g__law_draw T.F__law_draw.kp T.b__law_draw lets0 (pa_cons (pv 0) (pa_cons pe_int pa_nil))) pe_int) (pa_cons (pe_op op_addG pe_int (pe_go (ok__law_draw T hS) (hr.mono (by decide)) (pl := []) (fun _ h => nomatch h) (by rfl) T.g__law_draw T.F__law_draw.kp T.b__law_draw lets0 (pa_cons (pv 0) (pa_cons pe_int pa_nil)))) pa_nil))))) pss_nil)
      (pss_cons (ps_if (pt_cmpR (op_eqG hr.hu) (pv 1) pe_int (nomark _)) (pss_one (ps_ret (pe_go (ok__law_low T hS) (hr.mono (by decide)) (pl := []) (fun _ h => nomatch h) (by rfl) T.g__law_low T.F__law_low.kp T.b__law_low lets0 (pa_cons (pe_op op_sub (pe_go (ok__law_draw T hS) (hr.mono (by decide)) (pl := []) (fun _ h => nomatch h) (by rfl) T.g__law_draw T.F__law_draw.kp T.b__law_draw lets0 (pa_cons (pv 0) (pa_cons pe_int pa_nil))) pe_int) (pa_cons (pe_op op_addG pe_int (pe_go (ok__law_draw T hS) (hr.mono (by decide)) (pl := []) (fun _ h => nomatch h) (by rfl) T.g__law_draw T.F__law_draw.kp T.b__law_draw lets0 (pa_cons (pv 0) (pa_cons pe_int pa_nil)))) pa_nil))))) pss_nil)
      (pss_one (ps_ret (pe_go (ok__law_low T hS) (hr.mono (by decide)) (pl := []) (fun _ h => nomatch h) (by rfl) T.g__law_low T.F__law_low.kp T.b__law_low lets0 (pa_cons (pe_op op_mulG (pe_op op_sub pe_int (pe_op op_mulG pe_int (pe_go (ok__law_draw T hS) (hr.mono (by decide)) (pl := []) (fun _ h => nomatch h) (by rfl) T.g__law_draw T.F__law_draw.kp T.b__law_draw lets0 (pa_cons (pv 0) (pa_cons pe_int pa_nil))))) (pe_go (ok__law_wide T hS) (hr.mono (by decide)) (pl := []) (fun _ h => nomatch h) (by rfl) T.g__law_wide T.F__law_wide.kp T.b__law_wide lets0 (pa_cons (pv 0) (pa_cons pe_int pa_nil)))) (pa_cons (pe_op op_addG pe_int (pe_go (ok__law_wide T hS) (hr.mono (by decide)) (pl := []) (fun _ h => nomatch h) (by rfl) T.g__law_wide T.F__law_wide.kp T.b__law_wide lets0 (pa_cons (pv 0) (pa_cons pe_int pa_nil)))) pa_nil)))))))), fun b ss R X h hX => ?_⟩
  obtain ⟨sz, rfl, q⟩ := h
  have fin : ∀ t v : Int, 0 < v → Lg 200 t → Lg 200 v → R (lowZ t v) := fun t v hv l1 l2 => by
    obtain ⟨x, y, hr, h1, h2, _⟩ := lowZ_rt (t := t) hv
    have y0 := hr.pos
    exact q _ x y hr (Nat.lt_of_le_of_lt h1 l1) (Nat.lt_of_le_of_lt (by omega) l2)
  have lg : ∀ {v : Int}, Lg 200 v → v.natAbs.log2 < 9000 := fun h => Nat.lt_of_lt_of_le (h.log (by decide)) (by decide)
  have p60 : (2 : Nat) ^ 60 < 2 ^ 200 := by decide +kernel
  have sm : ∀ {v : Int}, v.natAbs ≤ 2 ^ 60 → Lg 200 v := fun h => Lg.of _ h p60
  refine ds_seq (ds_if (dt_test (de_eqI (de_var rfl (de_int ⟨sz, 0, rfl, rfl, _, rfl, ite2 (fun z => ?_) (fun z => ?_)⟩)))))
  · refine ds_ret (de_I0 (de_call EL.no (dc_pen rfl (dc_cons (de_int (dc_nil ⟨7, rfl, by decide, draw_ok (by decide) (by decide), fun k k0 k1 => de_int ⟨k, 3, rfl, rfl, ?_⟩⟩))))))
    exact q _ _ _ (.int _) (sm (by omega)) (sm (by decide))
  refine ds_next (ds_seq (ds_if (dt_test (de_eqI (de_var rfl (de_int ⟨sz, 1, rfl, rfl, _, rfl, ite2 (fun z => ?_) (fun z => ?_)⟩))))))
  · refine ds_ret (de_call EL.no (dc_cons (de_I0 (de_call EL.no (dc_pen rfl (dc_cons (de_int (dc_nil ⟨19, rfl, by decide, draw_ok (by decide) (by decide), fun k k0 k1 => de_int ⟨k, 9, rfl, rfl, ?_⟩⟩))))))))
    refine dc_cons (de_addI (de_int (de_call EL.no (dc_pen rfl (dc_cons (de_int (dc_nil ⟨6, rfl, by decide, draw_ok (by decide) (by decide), fun j j0 j1 => ⟨1, j, rfl, rfl, dc_nil ⟨_, _, rfl, by omega, lg (sm (by omega)), fin _ _ (by omega) (sm (by omega)) (sm (by omega))⟩⟩⟩)))))))
  refine ds_next (ds_seq (ds_if (dt_test (de_eqI (de_var rfl (de_int ⟨sz, 2, rfl, rfl, _, rfl, ite2 (fun z => ?_) (fun z => ?_)⟩))))))
  · refine ds_ret (de_call EL.no (dc_cons (de_I0 (de_call EL.no (dc_pen rfl (dc_cons (de_int (dc_nil ⟨1999, rfl, by decide, draw_ok (by decide) (by decide), fun k k0 k1 => de_int ⟨k, 999, rfl, rfl, ?_⟩⟩))))))))
    refine dc_cons (de_addI (de_int (de_call EL.no (dc_pen rfl (dc_cons (de_int (dc_nil ⟨97, rfl, by decide, draw_ok (by decide) (by decide), fun j j0 j1 => ⟨1, j, rfl, rfl, dc_nil ⟨_, _, rfl, by omega, lg (sm (by omega)), fin _ _ (by omega) (sm (by omega)) (sm (by omega))⟩⟩⟩)))))))
  refine ds_next (ds_ret (de_call EL.no (dc_cons (de_II (de_I0 (de_int (de_II (de_int (de_call EL.no (dc_pen rfl (dc_cons (de_int (dc_nil ⟨2, rfl, by decide, draw_ok (by decide) (by decide), fun k k0 k1 => ⟨2, k, rfl, rfl, mul_small (Or.inl ⟨by decide, by decide⟩), 1, 2 * k, rfl, rfl, ?_⟩⟩)))))))))))))
  refine de_call EL.no (dc_pen rfl (dc_cons (de_int (dc_nil ⟨40, rfl, by decide, fun n n0 n1 => ⟨1 - 2 * k, n, rfl, rfl, mul_small (Or.inl ⟨by omega, by omega⟩), ?_⟩⟩))))
  refine dc_cons (de_addI (de_int (de_call EL.no (dc_pen rfl (dc_cons (de_int (dc_nil ⟨39, rfl, by decide, fun j j0 j1 => ⟨1, j, rfl, rfl, ?_⟩⟩)))))))
  have e40 : (10 : Int) ^ 40 < 2 ^ 150 := by decide +kernel
  have e39 : (10 : Int) ^ 39 < 2 ^ 150 := by decide +kernel
  have big : ∀ z : Int, -(2 ^ 150) < z → z < 2 ^ 150 → Lg 200 z := fun z z1 z2 => by
    have e : (2 : Int) ^ 150 = ((2 ^ 150 : Nat) : Int) := by decide +kernel
    rw [e] at z1 z2
    have e2 : (2 : Nat) ^ 150 < 2 ^ 200 := by decide +kernel
    unfold Lg
    generalize (2 : Nat) ^ 150 = W at z1 z2 e2
    generalize (2 : Nat) ^ 200 = U at e2
    omega
  have lt1 : Lg 200 ((1 - 2 * k) * n) := by
    have hk : k = 0 ∨ k = 1 := by omega
    generalize (10 : Int) ^ 40 = W at n1 e40
    generalize (2 : Int) ^ 150 = U at e40 big
    rcases hk with rfl | rfl
    · exact big _ (by omega) (by omega)
    · exact big _ (by omega) (by omega)
  have lt2 : Lg 200 (1 + j) := by
    have e39' : (10 : Int) ^ 39 + 1 < 2 ^ 150 := by decide +kernel
    generalize (10 : Int) ^ 39 = W at j1 e39'
    generalize (2 : Int) ^ 150 = U at e39' big
    exact big _ (by omega) (by omega)
  exact dc_nil ⟨_, _, rfl, by omega, lg lt2, fin _ _ (by omega) lt1 lt2⟩
end
end Law

set_option Elab.async false
set_option linter.all false
set_option maxRecDepth 100000
set_option maxHeartbeats 4000000
namespace Law
open PySem PySem.Spec PyProof.Rows L2 G
def ratD (x y : Int) : D := if y = 1 then .int x else .tup [.int x, .int y]
theorem lowZ_form {t v : Int} (hv : 0 < v) : ∃ g x y : Int, 0 < g ∧ t = g * x ∧ v = g * y ∧ 0 < y ∧ Nat.gcd x.natAbs y.natAbs = 1 ∧ lowZ t v = ratD x y := by
  obtain ⟨g, x, y, eg, g0, e1, e2, y0, hc⟩ := low_parts (t := t) hv
  refine ⟨g, x, y, g0, e1, e2, y0, hc, ?_⟩
  have eb : byZ t v = g := by
    unfold byZ
    rw [if_neg (by omega), eg]
  have d1 : t.fdiv g = x := by rw [e1]; exact fdiv_mul g0
  have d2 : v.fdiv g = y := by rw [e2]; exact fdiv_mul g0
  unfold lowZ ratD
  rw [eb, d1, d2]
  by_cases z : v = g
  · have y1 : y = 1 := by
      have : g * y = g * 1 := by rw [← e2, z, Int.mul_one]
      exact Int.eq_of_mul_eq_mul_left (by omega) this
    rw [if_pos z, if_pos y1]
  · have y1 : ¬ y = 1 := fun w => by
      rw [w, Int.mul_one] at e2
      exact z e2
    rw [if_neg z, if_neg y1]
theorem dvd_cop {x y y' : Int} (h : y ∣ x * y') (hc : Nat.gcd x.natAbs y.natAbs = 1) : y ∣ y' := by
  have h1 : y.natAbs ∣ x.natAbs * y'.natAbs := by
    rw [← Int.natAbs_mul]
    exact Int.natAbs_dvd_natAbs.mpr h
  have c : Nat.Coprime y.natAbs x.natAbs := (Nat.gcd_comm ..).trans hc
  exact Int.natAbs_dvd_natAbs.mp (Nat.Coprime.dvd_of_dvd_mul_left c h1)
theorem lowZ_eq {t v t' v' : Int} (hv : 0 < v) (hv' : 0 < v') (h : t * v' = t' * v) : lowZ t v = lowZ t' v' := by
  obtain ⟨g, x, y, g0, e1, e2, y0, hc, ef⟩ := lowZ_form (t := t) hv
  obtain ⟨g', x', y', g0', e1', e2', y0', hc', ef'⟩ := lowZ_form (t := t') hv'
  have hx : x * y' = x' * y := by
    have a : (g * g') * (x * y') = (g * g') * (x' * y) := by
      have a1 : t * v' = (g * g') * (x * y') := by
        rw [e1, e2', Int.mul_assoc, Int.mul_assoc, ← Int.mul_assoc x, Int.mul_comm x g', Int.mul_assoc]
      have a2 : t' * v = (g * g') * (x' * y) := by
        rw [e1', e2, Int.mul_assoc, Int.mul_comm g g', Int.mul_assoc, ← Int.mul_assoc x', Int.mul_comm x' g, Int.mul_assoc]
      rw [← a1, ← a2, h]
    have gg : g * g' ≠ 0 := Int.mul_ne_zero (by omega) (by omega)
    exact Int.eq_of_mul_eq_mul_left gg a
  have d1 : y ∣ y' := dvd_cop (x := x) ⟨x', by rw [hx, Int.mul_comm]⟩ hc
  have d2 : y' ∣ y := dvd_cop (x := x') ⟨x, by rw [← hx, Int.mul_comm]⟩ hc'
  have yy : y = y' := Int.le_antisymm (Int.le_of_dvd y0' d1) (Int.le_of_dvd y0 d2)
  subst yy
  have xx : x = x' := Int.eq_of_mul_eq_mul_right (by omega) hx
  rw [ef, ef', xx]
end Law

set_option Elab.async false
set_option linter.all false
set_option maxRecDepth 100000
set_option maxHeartbeats 4000000
namespace Law
open PySem PySem.Spec PyProof.Rows L2 G
/-- the ends of two rows' terms -/
structure Q4 where
  t : Int
  b : Int
  h : Int
  l : Int
def stepC (c : Int × Int) (q : Q4) : Int × Int := (c.1 * (q.b * q.l) + q.t * q.h * c.2, c.2 * (q.b * q.l))
def canon (qs : List Q4) : Int × Int := qs.foldl stepC (0, 1)
inductive Rows : List D → List D → List Q4 → Prop
  | nil : Rows [] [] []
  | cons {x y : D} {q : Q4} {lx ly : List D} {qs : List Q4} (h1 : RtV x q.t q.b) (h2 : RtV y q.h q.l) (a : Lg 200 q.t) (b : Lg 200 q.b) (c : Lg 200 q.h) (d : Lg 200 q.l) (r : Rows lx ly qs) : Rows (x :: lx) (y :: ly) (q :: qs)
structure Row1 (x y : D) (q : Q4) : Prop where
  x : RtV x q.t q.b
  y : RtV y q.h q.l
  t : Lg 200 q.t
  b : Lg 200 q.b
  h : Lg 200 q.h
  l : Lg 200 q.l
theorem Rows.at : ∀ {lx ly : List D} {qs : List Q4} {i : Nat}, Rows lx ly qs → i < qs.length → ∃ x y q, lx[i]? = some x ∧ ly[i]? = some y ∧ qs[i]? = some q ∧ Row1 x y q
  | _, _, _, _, .nil, h => by simp at h
  | _, _, _, 0, .cons h1 h2 a b c d r, _ => ⟨_, _, _, rfl, rfl, rfl, h1, h2, a, b, c, d⟩
  | _, _, _, i + 1, .cons _ _ _ _ _ _ r, h => by
    obtain ⟨x, y, q, e1, e2, e3, e4⟩ := r.at (i := i) (by simpa using h)
    exact ⟨x, y, q, by simpa using e1, by simpa using e2, by simpa using e3, e4⟩
theorem Rows.len : ∀ {lx ly : List D} {qs : List Q4}, Rows lx ly qs → lx.length = qs.length ∧ ly.length = qs.length
  | _, _, _, .nil => ⟨rfl, rfl⟩
  | _, _, _, .cons _ _ _ _ _ _ r => by
    obtain ⟨a, b⟩ := r.len
    exact ⟨by simp [a], by simp [b]⟩
theorem canon_snoc (qs : List Q4) (q : Q4) : canon (qs ++ [q]) = stepC (canon qs) q := by
  unfold canon
  rw [List.foldl_append] <;> rfl
/-- what both loops keep after i terms -/
structure DotI (qs : List Q4) (i : Nat) (T B : Int) : Prop where
  eq : T * (canon (qs.take i)).2 = (canon (qs.take i)).1 * B
  pos : 0 < B
  cp : 0 < (canon (qs.take i)).2
  lt : Lg (402 * i + 1) T
  lb : Lg (402 * i + 1) B
theorem take_step {qs : List Q4} {i : Nat} {q : Q4} (h : qs[i]? = some q) : canon (qs.take (i + 1)) = stepC (canon (qs.take i)) q := by
  rw [List.take_succ, h]
  exact canon_snoc _ _
theorem DotI.zero {qs : List Q4} : DotI qs 0 0 1 := ⟨by simp [canon], by decide, by simp [canon], by unfold Lg; decide, by unfold Lg; decide⟩
/-- one more term, its bottom another -/
theorem DotI.other {qs : List Q4} {i : Nat} {T B : Int} {q : Q4} {x y : D} (I : DotI qs i T B) (h : qs[i]? = some q) (r : Row1 x y q) : DotI qs (i + 1) (T * (q.b * q.l) + q.t * q.h * B) (B * (q.b * q.l)) := by
  have p1 := r.x.pos
  have p2 := r.y.pos
  have pl : 0 < q.b * q.l := Int.mul_pos p1 p2
  refine { eq := ?_, pos := Int.mul_pos I.pos pl, cp := ?_, lt := ?_, lb := ?_ }
  · rw [take_step h]
    show (T * (q.b * q.l) + q.t * q.h * B) * ((canon (qs.take i)).2 * (q.b * q.l)) = ((canon (qs.take i)).1 * (q.b * q.l) + q.t * q.h * (canon (qs.take i)).2) * (B * (q.b * q.l))
    have e := I.eq
    generalize (canon (qs.take i)).1 = Tc at e
    generalize (canon (qs.take i)).2 = Bc at e
    generalize q.b * q.l = w
    generalize q.t * q.h = z
    rw [← Int.mul_assoc, ← Int.mul_assoc]
    congr 1
    rw [Int.add_mul, Int.add_mul]
    have e1 : T * w * Bc = Tc * w * B := by
      rw [Int.mul_assoc, Int.mul_comm w Bc, ← Int.mul_assoc, e, Int.mul_assoc, Int.mul_comm B w, ← Int.mul_assoc]
    have e2 : z * B * Bc = z * Bc * B := by rw [Int.mul_assoc, Int.mul_comm B Bc, ← Int.mul_assoc]
    rw [e1, e2]
  · rw [take_step h]
    exact Int.mul_pos I.cp pl
  · have a := I.lt.mul (r.b.mul r.l)
    have c := (r.t.mul r.h).mul I.lb
    exact ((a.mono (m := 402 * i + 401) (by omega)).add (c.mono (by omega))).mono (by omega)
  · exact (I.lb.mul (r.b.mul r.l)).mono (by omega)
/-- one more term, its bottom the same -/
theorem DotI.same {qs : List Q4} {i : Nat} {T B : Int} {q : Q4} {x y : D} (I : DotI qs i T B) (h : qs[i]? = some q) (r : Row1 x y q) (hb : q.b * q.l = B) : DotI qs (i + 1) (T + q.t * q.h) B := by
  have p1 := r.x.pos
  have p2 := r.y.pos
  have pl : 0 < q.b * q.l := Int.mul_pos p1 p2
  refine { eq := ?_, pos := I.pos, cp := ?_, lt := ?_, lb := I.lb.mono (by omega) }
  · rw [take_step h]
    show (T + q.t * q.h) * ((canon (qs.take i)).2 * (q.b * q.l)) = ((canon (qs.take i)).1 * (q.b * q.l) + q.t * q.h * (canon (qs.take i)).2) * B
    have e := I.eq
    rw [hb]
    generalize (canon (qs.take i)).1 = Tc at e
    generalize (canon (qs.take i)).2 = Bc at e
    generalize q.t * q.h = z
    rw [← Int.mul_assoc]
    congr 1
    rw [Int.add_mul, e]
  · rw [take_step h]
    exact Int.mul_pos I.cp pl
  · exact ((I.lt.mono (m := 402 * i + 401) (by omega)).add ((r.t.mul r.h).mono (by omega))).mono (by omega)
theorem DotI.low {qs : List Q4} {T B : Int} (I : DotI qs qs.length T B) : lowZ T B = lowZ (canon qs).1 (canon qs).2 := by
  have e := I.eq
  have c := I.cp
  rw [List.take_length] at e c
  exact lowZ_eq I.pos c e
end Law

set_option Elab.async false
set_option linter.all false
set_option maxRecDepth 100000
set_option maxHeartbeats 4000000
namespace Law
open PySem PySem.Spec PyProof.Rows L2 G
section
variable {P : Program} {w : World} {K : PySem.W.Frag} {mg : Str → Option Value} {base : Heap} {a : Ad}
def F_ldot : DF := fun ss R _ => ∃ lx ly qs, ss = [.sh (.tup lx), .sh (.tup ly)] ∧ Rows lx ly qs ∧ qs.length ≤ 12 ∧ R (lowZ (canon qs).1 (canon qs).2)
theorem ok__law_dot (T : Tx K mg a) (hS : Sy mg base a) : FnG P w K mg base true 3 a.f__law_dot a.d__law_dot (["row", "other"] : List Str) (fun _ => spD K F_ldot) := by
  refine fn_data T.F__law_dot sc__law_dot (fun ss R X z => by obtain ⟨_, _, _, h, _⟩ := z; rw [h] <;> rfl) fun cdv A outer s H E pl hr => ⟨_, (pss_cons (ps_asg (pe_tup (pa_cons pe_int (pa_cons pe_int pa_nil))) (pg_tup rfl (pgs_cons (pg_name (i := 2) sc__law_dot.nd rfl (Or.inl rfl)) (pgs_cons (pg_name (i := 3) sc__law_dot.nd rfl (Or.inl rfl)) pgs_nil))))
      (pss_cons (ps_for (passes_of rfl) rfl (RZ.pi_zipA (by rfl) T.n_zip (pa_cons (pv 0) (pa_cons (pv 1) pa_nil))) (pg_tup rfl (pgs_cons (pg_name (i := 4) sc__law_dot.nd rfl (Or.inl rfl)) (pgs_cons (pg_name (i := 5) sc__law_dot.nd rfl (Or.inl rfl)) pgs_nil))) (pss_cons (ps_par (i := 6) (j := 7) rfl sc__law_dot.nd rfl rfl (by decide) rfl rfl (pa_cons (pe_go (ok__law_pair T hS) (hr.mono (by decide)) (pl := []) (fun _ h => nomatch h) (by rfl) T.g__law_pair T.F__law_pair.kp T.b__law_pair lets0 (pa_cons (pv 4) pa_nil)) (pa_cons (pe_go (ok__law_pair T hS) (hr.mono (by decide)) (pl := []) (fun _ h => nomatch h) (by rfl) T.g__law_pair T.F__law_pair.kp T.b__law_pair lets0 (pa_cons (pv 5) pa_nil)) pa_nil)) rfl)
      (pss_cons (ps_set (i := 8) sc__law_dot.nd rfl (Or.inl rfl) (pe_op op_mulG (pe_ix ix_seq (pv 6) pe_int (fun _ _ => rfl)) (pe_ix ix_seq (pv 7) pe_int (fun _ _ => rfl))))
      (pss_one (ps_if (pt_cmpR (op_eqG hr.hu) (pv 8) (pv 3) (nomark _)) (pss_one (ps_set (i := 2) sc__law_dot.nd rfl (Or.inl rfl) (pe_op op_addG (pv 2) (pe_op op_mulG (pe_ix ix_seq (pv 6) pe_int (fun _ _ => rfl)) (pe_ix ix_seq (pv 7) pe_int (fun _ _ => rfl)))))) (pss_one (ps_par (i := 2) (j := 3) rfl sc__law_dot.nd rfl rfl (by decide) rfl rfl (pa_cons (pe_op op_addG (pe_op op_mulG (pv 2) (pv 8)) (pe_op op_mulG (pe_op op_mulG (pe_ix ix_seq (pv 6) pe_int (fun _ _ => rfl)) (pe_ix ix_seq (pv 7) pe_int (fun _ _ => rfl))) (pv 3))) (pa_cons (pe_op op_mulG (pv 3) (pv 8)) pa_nil)) rfl)))))))
      (pss_one (ps_ret (pe_go (ok__law_low T hS) (hr.mono (by decide)) (pl := []) (fun _ h => nomatch h) (by rfl) T.g__law_low T.F__law_low.kp T.b__law_low lets0 (pa_cons (pv 2) (pa_cons (pv 3) pa_nil))))))), fun b ss R X h hX => ?_⟩
  obtain ⟨lx, ly, qs, rfl, hR, hl, q⟩ := h
  obtain ⟨n1, n2⟩ := hR.len
  refine ds_seq (ds_asgG (de_tup (da_cons (de_int (da_cons (de_int (da_nil ⟨by decide, dg_tup rfl rfl (dgs_cons (dg_name (dgs_cons (dg_name (dgs_nil ?_)))))⟩)))))))
  refine ds_seq (ds_forI (di_zip (da_cons (de_var rfl (da_cons (de_var rfl (da_nil ⟨_, _, lx, ly, rfl, Or.inr ⟨rfl, rfl⟩, ?_⟩)))))))
  refine ⟨fun i ρ => ∃ (T B : Int) (s4 s5 s6 s7 s8 : Sl), ρ = [.sh (.tup lx), .sh (.tup ly), .sh (.int T), .sh (.int B), s4, s5, s6, s7, s8] ∧ DotI qs i T B, ⟨0, 1, .no, .no, .no, .no, .no, rfl, DotI.zero⟩, fun i d ρ hi h => ?_, fun ρ h => ?_⟩
  · obtain ⟨T0, B0, s4, s5, s6, s7, s8, rfl, I⟩ := h
    have il : i < qs.length := by
      have := (List.getElem?_eq_some_iff.mp hi).1
      rw [zipD_len] at this
      omega
    obtain ⟨x, y, qq, e1, e2, e3, r⟩ := hR.at il
    have ed : d = .tup [x, y] := by
      have := zipD_at e1 e2
      rw [hi] at this
      exact Option.some.inj this
    refine dg_tup ed rfl (dgs_cons (dg_name (dgs_cons (dg_name (dgs_nil ?_)))))
    refine ds_seq (ds_par (da_cons (de_call EL.no (dc_cons (de_var rfl (dc_nil ⟨x, qq.t, qq.b, rfl, r.x, da_cons (de_call EL.no (dc_cons (de_var rfl (dc_nil ⟨y, qq.h, qq.l, rfl, r.y, da_nil ⟨_, _, rfl, ?_⟩⟩))))⟩))))))
    have m1 : IntMulOk qq.b qq.l := r.b.ok r.l (by decide) (by decide) (by decide)
    have m2 : IntMulOk qq.t qq.h := r.t.ok r.h (by decide) (by decide) (by decide)
    have lw := r.b.mul r.l
    have th := r.t.mul r.h
    have m3 : IntMulOk T0 (qq.b * qq.l) := I.lt.ok lw (by omega) (by decide) (by omega)
    have m4 : IntMulOk (qq.t * qq.h) B0 := th.ok I.lb (by decide) (by omega) (by omega)
    have m5 : IntMulOk B0 (qq.b * qq.l) := I.lb.ok lw (by omega) (by decide) (by omega)
    refine ds_seq (ds_asg (de_II (de_ix (de_var rfl (de_int ⟨1, .int qq.b, rfl, rfl, de_ix (de_var rfl (de_int ⟨1, .int qq.l, rfl, rfl, qq.b, qq.l, rfl, rfl, m1, ?_⟩))⟩)))))
    refine ds_if (dt_test (de_eqI (de_var rfl (de_var rfl ⟨_, B0, rfl, rfl, _, rfl, ite2 (fun z => ?_) (fun z => ?_)⟩))))
    · have hb : qq.b * qq.l = B0 := of_decide_eq_true z
      refine ds_asg (de_addI (de_var rfl (de_II (de_ix (de_var rfl (de_int ⟨0, .int qq.t, rfl, rfl, de_ix (de_var rfl (de_int ⟨0, .int qq.h, rfl, rfl, qq.t, qq.h, rfl, rfl, m2, T0, _, rfl, rfl, ?_⟩))⟩))))))
      exact ⟨_, _, _, _, _, _, _, rfl, I.same e3 r hb⟩
    · refine ds_par (da_cons (de_addI (de_II (de_var rfl (de_var rfl ⟨T0, _, rfl, rfl, m3, ?_⟩)))))
      refine de_II (de_II (de_ix (de_var rfl (de_int ⟨0, .int qq.t, rfl, rfl, de_ix (de_var rfl (de_int ⟨0, .int qq.h, rfl, rfl, qq.t, qq.h, rfl, rfl, m2, ?_⟩))⟩))))
      refine de_var rfl ⟨_, B0, rfl, rfl, m4, _, _, rfl, rfl, da_cons (de_II (de_var rfl (de_var rfl ⟨B0, _, rfl, rfl, m5, da_nil ⟨_, _, rfl, ?_⟩⟩)))⟩
      exact ⟨_, _, _, _, _, _, _, rfl, I.other e3 r⟩
  · obtain ⟨T0, B0, s4, s5, s6, s7, s8, rfl, I⟩ := h
    have e : (zipD lx ly).length = qs.length := by rw [zipD_len]; omega
    rw [e] at I
    have p := I.pos
    refine ds_ret (de_call EL.no (dc_cons (de_var rfl (dc_cons (de_var rfl (dc_nil ⟨T0, B0, rfl, by omega, ?_, ?_⟩))))))
    · exact Nat.lt_of_lt_of_le (I.lb.log (by omega)) (by omega)
    · rw [I.low]
      exact q
end
end Law

set_option Elab.async false
set_option linter.all false
set_option maxRecDepth 100000
set_option maxHeartbeats 4000000
namespace Law
open PySem PySem.Spec PyProof.Rows L2 G
/-- a ratio of a row -/
def Rv (x : D) : Prop := ∃ t b, RtV x t b ∧ Lg 200 t ∧ Lg 200 b
section
variable {P : Program} {w : World} {K : PySem.W.Frag} {mg : Str → Option Value} {base : Heap} {a : Ad}
def F_row : DF := fun ss R _ => ∃ (m : Nat) (s : Int), ss = [.pen, .sh (.int m), .sh (.int s)] ∧ m ≤ 10 ∧ ∀ l : List D, l.length = m → (∀ x ∈ l, Rv x) → R (.tup l)
theorem ok__law_row (T : Tx K mg a) (hS : Sy mg base a) : FnG P w K mg base true 5 a.f__law_row a.d__law_row (["pen", "many", "size"] : List Str) (fun _ => spD K F_row) := by
  refine fn_data T.F__law_row sc__law_row (fun ss R X z => by obtain ⟨_, _, h, _⟩ := z; rw [h] <;> rfl) fun cdv A outer s H E pl hr => ⟨_, (pss_one (ps_ret (pe_callTy call_tupleV (by rfl) T.n_tuple PyProof.Rows.boot_tuple (pa_cons (pe_lc (own := [("at", 3)]) (by rfl) sc__law_row.nd (pi_range1 rfl T.n_range (pa_cons (pv 1) pa_nil)) (blkOk_by (N := nm__law_row) (sc := defScope s__law_row) (by decide +kernel)) (fun _ _ _ _ _ => (pg_name (i := 3) sc__law_row.nd rfl (Or.inl rfl))) (fun _ _ _ _ _ => pts_nil) (fun _ _ _ _ _ => (pe_ifExp (pt_cmpR op_gt (pe_go (ok__law_draw T hS) (hr.mono (by decide)) (pl := []) (fun _ h => nomatch h) (by rfl) T.g__law_draw T.F__law_draw.kp T.b__law_draw lets0 (pa_cons (pv 0) (pa_cons pe_int pa_nil))) pe_int (nomark _)) (pe_go (ok__law_number T hS) (hr.mono (by decide)) (pl := []) (fun _ h => nomatch h) (by rfl) T.g__law_number T.F__law_number.kp T.b__law_number lets0 (pa_cons (pv 0) (pa_cons (pv 2) pa_nil))) pe_int))) pa_nil)))), fun b ss R X h hX => ?_⟩
  obtain ⟨m, sz, rfl, hm, q⟩ := h
  refine ds_ret (de_tupN (l := fun _ => True) (dn_lc (di_range1 (da_cons (de_var rfl (da_nil ⟨m, rfl, by omega, by omega, fun i acc => acc.length = i ∧ ∀ x ∈ acc, Rv x, ⟨rfl, fun x h => by cases h⟩, fun i d acc hi hacc => ?_, fun acc hacc => ?_⟩))))))
  · have il : i < m := by
      have := (List.getElem?_eq_some_iff.mp hi).1
      rw [rngD_len] at this
      omega
    refine dgw_name (by simp) ?_
    have put : ∀ y, Rv y → acc.length < 16000 ∧ (acc ++ [y]).length = i + 1 ∧ ∀ x ∈ acc ++ [y], Rv x := fun y hy => by
      refine ⟨by omega, by simp [hacc.1], fun x hx => ?_⟩
      rcases List.mem_append.mp hx with h | h
      · exact hacc.2 x h
      · rw [List.mem_singleton.mp h]; exact hy
    refine fun Hf H σ k fr c => c true Hf H Up.refl fr (iteT ?_)
    refine de_ite (dt_test (de_B0 (de_call EL.no (dc_pen rfl (dc_cons (de_int (dc_nil ⟨4, rfl, by decide, draw_ok (by decide) (by decide), fun k k0 k1 => de_int ⟨k, 0, rfl, rfl, _, rfl, ite2 (fun z => ?_) (fun z => ?_)⟩⟩)))))))
    · exact de_call EL.no (dc_pen rfl (dc_cons (de_var rfl (dc_nil ⟨sz, rfl, fun x t v h1 h2 h3 => put x ⟨t, v, h1, h2, h3⟩⟩))))
    · exact de_int (put _ ⟨0, 1, .int 0, by unfold Lg; decide, by unfold Lg; decide +kernel⟩)
  · have e : (rngD 0 (m : Int).toNat).length = m := by rw [rngD_len]; omega
    exact q acc (hacc.1.trans e) hacc.2
end
end Law

set_option Elab.async false
set_option linter.all false
set_option maxRecDepth 100000
set_option maxHeartbeats 4000000
namespace Law
open PySem PySem.Spec PyProof.Rows L2 G
/-- a term that is 0 may be left out -/
theorem DotI.skip {qs : List Q4} {i : Nat} {T B : Int} {q : Q4} {x y : D} (I : DotI qs i T B) (h : qs[i]? = some q) (r : Row1 x y q) (hz : q.t * q.h = 0) : DotI qs (i + 1) T B := by
  have p1 := r.x.pos
  have p2 := r.y.pos
  have pl : 0 < q.b * q.l := Int.mul_pos p1 p2
  refine { eq := ?_, pos := I.pos, cp := ?_, lt := I.lt.mono (by omega), lb := I.lb.mono (by omega) }
  · rw [take_step h]
    show T * ((canon (qs.take i)).2 * (q.b * q.l)) = ((canon (qs.take i)).1 * (q.b * q.l) + q.t * q.h * (canon (qs.take i)).2) * B
    have e := I.eq
    rw [hz]
    generalize (canon (qs.take i)).1 = Tc at e
    generalize (canon (qs.take i)).2 = Bc at e
    generalize q.b * q.l = w
    rw [Int.zero_mul, Int.add_zero, ← Int.mul_assoc, e, Int.mul_assoc, Int.mul_comm B w, ← Int.mul_assoc]
  · rw [take_step h]
    exact Int.mul_pos I.cp pl
section
variable {P : Program} {w : World} {K : PySem.W.Frag} {mg : Str → Option Value} {base : Heap} {a : Ad}
def F_sum : DF := fun ss R _ => ∃ x y lx ly qs, ss = [.sh x, .sh y] ∧ seqD x = some lx ∧ seqD y = some ly ∧ Rows lx ly qs ∧ qs.length ≤ 12 ∧ R (lowZ (canon qs).1 (canon qs).2)
theorem ok_summed (T : Tx K mg a) (hS : Sy mg base a) : FnG P w K mg base true 2 a.f_summed a.d_summed (["row", "other"] : List Str) (fun _ => spD K F_sum) := by
  refine fn_data T.F_summed sc_summed (fun ss R X z => by obtain ⟨_, _, _, _, _, h, _⟩ := z; rw [h] <;> rfl) fun cdv A outer s H E pl hr => ⟨_, (pss_cons (ps_asg (pe_tup (pa_cons pe_int (pa_cons pe_int pa_nil))) (pg_tup rfl (pgs_cons (pg_name (i := 2) sc_summed.nd rfl (Or.inl rfl)) (pgs_cons (pg_name (i := 3) sc_summed.nd rfl (Or.inl rfl)) pgs_nil))))
      (pss_cons (ps_for (passes_of rfl) rfl (pi_zipB (by rfl) T.n_zip (pa_cons (pv 0) (pa_cons (pv 1) pa_nil))) (pg_tup rfl (pgs_cons (pg_name (i := 4) sc_summed.nd rfl (Or.inl rfl)) (pgs_cons (pg_name (i := 5) sc_summed.nd rfl (Or.inl rfl)) pgs_nil))) (pss_cons (ps_if (PW.pt (pw_or (pt_cmpR (op_eqG hr.hu) (pv 4) pe_int (nomark _)) (pw_or1 (pt_cmpR (op_eqG hr.hu) (pv 5) pe_int (nomark _))))) (pss_one ps_continue) pss_nil)
      (pss_cons (ps_asg (pe_tup (pa_cons (pe_go (ok_pair T hS) (hr.mono (by decide)) (pl := []) (fun _ h => nomatch h) (by rfl) T.g_pair T.F_pair.kp T.b_pair lets0 (pa_cons (pv 4) pa_nil)) (pa_cons (pe_go (ok_pair T hS) (hr.mono (by decide)) (pl := []) (fun _ h => nomatch h) (by rfl) T.g_pair T.F_pair.kp T.b_pair lets0 (pa_cons (pv 5) pa_nil)) pa_nil))) (pg_tup rfl (pgs_cons (pg_tup rfl (pgs_cons (pg_name (i := 6) sc_summed.nd rfl (Or.inl rfl)) (pgs_cons (pg_name (i := 7) sc_summed.nd rfl (Or.inl rfl)) pgs_nil))) (pgs_cons (pg_tup rfl (pgs_cons (pg_name (i := 8) sc_summed.nd rfl (Or.inl rfl)) (pgs_cons (pg_name (i := 9) sc_summed.nd rfl (Or.inl rfl)) pgs_nil))) pgs_nil))))
      (pss_cons (ps_set (i := 7) sc_summed.nd rfl (Or.inl rfl) (pe_op op_mulG (pv 7) (pv 9)))
      (pss_one (ps_if (pt_cmpR (op_eqG hr.hu) (pv 7) (pv 3) (nomark _)) (pss_one (ps_set (i := 2) sc_summed.nd rfl (Or.inl rfl) (pe_op op_addG (pv 2) (pe_op op_mulG (pv 6) (pv 8))))) (pss_cons (ps_set (i := 2) sc_summed.nd rfl (Or.inl rfl) (pe_op op_addG (pe_op op_mulG (pv 2) (pv 7)) (pe_op op_mulG (pe_op op_mulG (pv 6) (pv 8)) (pv 3))))
      (pss_one (ps_set (i := 3) sc_summed.nd rfl (Or.inl rfl) (pe_op op_mulG (pv 3) (pv 7)))))))))))
      (pss_one (ps_ret (pe_go (ok_in_lowest T hS) (hr.mono (by decide)) (pl := []) (fun _ h => nomatch h) (by rfl) T.g_in_lowest T.F_in_lowest.kp T.b_in_lowest lets0 (pa_cons (pv 2) (pa_cons (pv 3) pa_nil))))))), fun b ss R X h hX => ?_⟩
  obtain ⟨xx, yy, lx, ly, qs, rfl, ex, ey, hR, hl, q⟩ := h
  obtain ⟨n1, n2⟩ := hR.len
  refine ds_seq (ds_asgG (de_tup (da_cons (de_int (da_cons (de_int (da_nil ⟨by decide, dg_tup rfl rfl (dgs_cons (dg_name (dgs_cons (dg_name (dgs_nil ?_)))))⟩)))))))
  refine ds_seq (ds_forI (di_zipB (da_cons (de_var rfl (da_cons (de_var rfl (da_nil ⟨_, _, lx, ly, rfl, ex, ey, ?_⟩)))))))
  refine ⟨fun i ρ => ∃ (T B : Int) (s4 s5 s6 s7 s8 s9 : Sl), ρ = [.sh xx, .sh yy, .sh (.int T), .sh (.int B), s4, s5, s6, s7, s8, s9] ∧ DotI qs i T B, ⟨0, 1, .no, .no, .no, .no, .no, .no, rfl, DotI.zero⟩, fun i d ρ hi h => ?_, fun ρ h => ?_⟩
  · obtain ⟨T0, B0, s4, s5, s6, s7, s8, s9, rfl, I⟩ := h
    have il : i < qs.length := by
      have := (List.getElem?_eq_some_iff.mp hi).1
      rw [zipD_len] at this
      omega
    obtain ⟨x, y, qq, e1, e2, e3, r⟩ := hR.at il
    have ed : d = .tup [x, y] := by
      have := zipD_at e1 e2
      rw [hi] at this
      exact Option.some.inj this
    refine dg_tup ed rfl (dgs_cons (dg_name (dgs_cons (dg_name (dgs_nil ?_)))))
    have skip : qq.t * qq.h = 0 → ∃ (T B : Int) (u4 u5 u6 u7 u8 u9 : Sl), [Sl.sh xx, .sh yy, .sh (.int T0), .sh (.int B0), .sh x, .sh y, s6, s7, s8, s9] = [.sh xx, .sh yy, .sh (.int T), .sh (.int B), u4, u5, u6, u7, u8, u9] ∧ DotI qs (i + 1) T B := fun z =>
      ⟨_, _, _, _, _, _, _, _, rfl, I.skip e3 r z⟩
    refine ds_seq (ds_if (dt_or (dt_test (de_eqA (de_var rfl (de_int ⟨r.x.okD, okD_int 0, _, rfl, ?_⟩))))))
    rw [r.x.eq0]
    refine ite2 (fun z => iteT (ds_cont (skip (by rw [of_decide_eq_true z, Int.zero_mul])))) (fun z => ?_)
    refine dt_test (de_eqA (de_var rfl (de_int ⟨r.y.okD, okD_int 0, _, rfl, ?_⟩)))
    rw [r.y.eq0]
    refine ite2 (fun z => ds_cont (skip (by rw [of_decide_eq_true z, Int.mul_zero]))) (fun z => ds_next ?_)
    refine ds_seq (ds_asgG (de_tup (da_cons (de_call EL.no (dc_cons (de_var rfl (dc_nil ⟨x, qq.t, qq.b, rfl, r.x, da_cons (de_call EL.no (dc_cons (de_var rfl (dc_nil ⟨y, qq.h, qq.l, rfl, r.y, da_nil ⟨by simp, ?_⟩⟩))))⟩)))))))
    refine dg_tup rfl rfl (dgs_cons (dg_tup rfl rfl (dgs_cons (dg_name (dgs_cons (dg_name (dgs_nil (dgs_cons (dg_tup rfl rfl (dgs_cons (dg_name (dgs_cons (dg_name (dgs_nil (dgs_nil ?_)))))))))))))))
    have m1 : IntMulOk qq.b qq.l := r.b.ok r.l (by decide) (by decide) (by decide)
    have m2 : IntMulOk qq.t qq.h := r.t.ok r.h (by decide) (by decide) (by decide)
    have lw := r.b.mul r.l
    have th := r.t.mul r.h
    have m3 : IntMulOk T0 (qq.b * qq.l) := I.lt.ok lw (by omega) (by decide) (by omega)
    have m4 : IntMulOk (qq.t * qq.h) B0 := th.ok I.lb (by decide) (by omega) (by omega)
    have m5 : IntMulOk B0 (qq.b * qq.l) := I.lb.ok lw (by omega) (by decide) (by omega)
    refine ds_seq (ds_asg (de_II (de_var rfl (de_var rfl ⟨qq.b, qq.l, rfl, rfl, m1, ?_⟩))))
    refine ds_if (dt_test (de_eqI (de_var rfl (de_var rfl ⟨_, B0, rfl, rfl, _, rfl, ite2 (fun z => ?_) (fun z => ?_)⟩))))
    · have hb : qq.b * qq.l = B0 := of_decide_eq_true z
      refine ds_asg (de_addI (de_var rfl (de_II (de_var rfl (de_var rfl ⟨qq.t, qq.h, rfl, rfl, m2, T0, _, rfl, rfl, ?_⟩)))))
      exact ⟨_, _, _, _, _, _, _, _, rfl, I.same e3 r hb⟩
    · refine ds_seq (ds_asg (de_addI (de_II (de_var rfl (de_var rfl ⟨T0, _, rfl, rfl, m3, de_II (de_II (de_var rfl (de_var rfl ⟨qq.t, qq.h, rfl, rfl, m2, de_var rfl ⟨_, B0, rfl, rfl, m4, _, _, rfl, rfl, ?_⟩⟩)))⟩)))))
      refine ds_asg (de_II (de_var rfl (de_var rfl ⟨B0, _, rfl, rfl, m5, ?_⟩)))
      exact ⟨_, _, _, _, _, _, _, _, rfl, I.other e3 r⟩
  · obtain ⟨T0, B0, s4, s5, s6, s7, s8, s9, rfl, I⟩ := h
    have e : (zipD lx ly).length = qs.length := by rw [zipD_len]; omega
    rw [e] at I
    have p := I.pos
    refine ds_ret (de_call EL.no (dc_cons (de_var rfl (dc_cons (de_var rfl (dc_nil ⟨T0, B0, rfl, by omega, ?_, ?_⟩))))))
    · exact Nat.lt_of_lt_of_le (I.lb.log (by omega)) (by omega)
    · rw [I.low]
      exact q
/-- plain; its items, where it is a list or a tuple, too -/
def PrS (x : D) : Prop := Pl x ∧ ∀ l, seqD x = some l → l.length ≤ 100 ∧ ∀ d ∈ l, Pr d
def rowB (x : D) : Bool := match seqD x with
  | some l => l.all isRt
  | none => false
theorem de_isLT {b : Bs} {ρ : List Sl} {i : Nat} {x : D} {Q : D → Prop} (hi : ρ[i]? = some (.sh x)) (hx : Pl x) (q : Q (.bl (isL x))) :
    DE K b ρ (tCB (rIsiT K) (tCons (tVar i) (tCons (tTup (tCons (tC (.ty "list")) (tCons (tC (.ty "tuple")) tNil))) tNil))) Q := by
  obtain ⟨t, ht⟩ := hx
  cases x with
  | non => exact de_isT2 (de_var hi ⟨_, false, false, rfl, by decide +kernel, by decide +kernel, q⟩)
  | bl _ => exact de_isT2 (de_var hi ⟨_, false, false, rfl, by decide +kernel, by decide +kernel, q⟩)
  | int _ => exact de_isT2 (de_var hi ⟨_, false, false, rfl, by decide +kernel, by decide +kernel, q⟩)
  | str _ => exact de_isT2 (de_var hi ⟨_, false, false, rfl, by decide +kernel, by decide +kernel, q⟩)
  | dic _ => exact de_isT2 (de_var hi ⟨_, false, false, rfl, by decide +kernel, by decide +kernel, q⟩)
  | tup _ => exact de_isT2 (de_var hi ⟨_, false, true, rfl, by decide +kernel, by decide +kernel, q⟩)
  | lst _ => exact de_isT2 (de_var hi ⟨_, true, false, rfl, by decide +kernel, by decide +kernel, q⟩)
  | ty _ => cases ht
  | fn _ => cases ht
  | obj _ _ => cases ht
  | exc _ _ _ _ => cases ht
theorem isL_seq {x : D} (hx : Pl x) : (isL x = true ∧ ∃ l, seqD x = some l) ∨ (isL x = false ∧ seqD x = none) := by
  obtain ⟨t, ht⟩ := hx
  cases x <;> first | exact Or.inl ⟨rfl, _, rfl⟩ | exact Or.inr ⟨rfl, rfl⟩ | cases ht
theorem all_map {l : List D} : (l.map isRt).all id = l.all isRt := by
  rw [List.all_map] <;> rfl
theorem map_bl {l : List D} : l.map (fun d => D.bl (isRt d)) = (l.map isRt).map D.bl := by
  rw [List.map_map] <;> rfl
def F_dot (a : Ad) : DF := fun ss R X => ∃ x y, ss = [.sh x, .sh y] ∧ PrS x ∧ PrS y ∧
  if rowB x = true then
    if rowB y = true then ∃ lx ly, seqD x = some lx ∧ seqD y = some ly ∧ if lx.length = ly.length then ∃ qs, Rows lx ly qs ∧ qs.length ≤ 12 ∧ R (lowZ (canon qs).1 (canon qs).2) else X a.c_Unlike [("what", .str "other")]
    else X a.c_BadRow [("row", y), ("what", .str "other")]
  else X a.c_BadRow [("row", x), ("what", .str "row")]
theorem ok_dot (T : Tx K mg a) (hS : Sy mg base a) : FnG P w K mg base true 3 a.f_dot a.d_dot (["row", "other"] : List Str) (fun _ => spD K (F_dot a)) := by
  refine fn_data T.F_dot sc_dot (fun ss R X z => by obtain ⟨_, _, h, _⟩ := z; rw [h] <;> rfl) fun cdv A outer s H E pl hr => ⟨_, (pss_cons (ps_if (PW.pt (pw_or (pt_not (pt_val (pe_callB call_isiT (by rfl) T.n_isinstance PyProof.Rows.boot_isinstance (pa_cons (pv 0) (pa_cons (pe_tup (pa_cons (pe_bltn (v := .ty "list") (by rfl) T.n_list PyProof.Rows.boot_list rfl) (pa_cons (pe_bltn (v := .ty "tuple") (by rfl) T.n_tuple PyProof.Rows.boot_tuple rfl) pa_nil))) pa_nil))))) (pw_or1 (pt_not (pt_val (pe_callB (cr_all rfl) (by rfl) T.n_all PyProof.Rows.boot_all (pa_cons (pe_lc (own := [("one", 2)]) (by rfl) sc_dot.nd (pi_seq (pv 0)) (blkOk_by (N := nm_dot) (sc := defScope s_dot) (by decide +kernel)) (fun _ _ _ _ _ => (pg_name (i := 2) sc_dot.nd rfl (Or.inl rfl))) (fun _ _ _ _ _ => pts_nil) (fun _ _ _ _ _ => (pe_go (ok_is_ratio T hS) (hr.mono (by decide)) (pl := []) (fun _ h => nomatch h) (by rfl) T.g_is_ratio T.F_is_ratio.kp T.b_is_ratio lets0 (pa_cons (pv 2) pa_nil)))) pa_nil))))))) (pss_one (ps_raiseN rfl (takes_of rfl rfl rfl rfl) (pmk_oex (dvs := []) (ds := []) T.O_BadRow T.i_BadRow T.ti_BadRow (in_BadRow T) (Rm.room (k := 2) (hr.mono (by decide))) T.bi_BadRow .nil pass0 (by rfl) T.g_BadRow (pa_cons pe_str (pa_cons (pv 0) pa_nil))))) pss_nil)
      (pss_cons (ps_if (PW.pt (pw_or (pt_not (pt_val (pe_callB call_isiT (by rfl) T.n_isinstance PyProof.Rows.boot_isinstance (pa_cons (pv 1) (pa_cons (pe_tup (pa_cons (pe_bltn (v := .ty "list") (by rfl) T.n_list PyProof.Rows.boot_list rfl) (pa_cons (pe_bltn (v := .ty "tuple") (by rfl) T.n_tuple PyProof.Rows.boot_tuple rfl) pa_nil))) pa_nil))))) (pw_or1 (pt_not (pt_val (pe_callB (cr_all rfl) (by rfl) T.n_all PyProof.Rows.boot_all (pa_cons (pe_lc (own := [("one", 2)]) (by rfl) sc_dot.nd (pi_seq (pv 1)) (blkOk_by (N := nm_dot) (sc := defScope s_dot) (by decide +kernel)) (fun _ _ _ _ _ => (pg_name (i := 2) sc_dot.nd rfl (Or.inl rfl))) (fun _ _ _ _ _ => pts_nil) (fun _ _ _ _ _ => (pe_go (ok_is_ratio T hS) (hr.mono (by decide)) (pl := []) (fun _ h => nomatch h) (by rfl) T.g_is_ratio T.F_is_ratio.kp T.b_is_ratio lets0 (pa_cons (pv 2) pa_nil)))) pa_nil))))))) (pss_one (ps_raiseN rfl (takes_of rfl rfl rfl rfl) (pmk_oex (dvs := []) (ds := []) T.O_BadRow T.i_BadRow T.ti_BadRow (in_BadRow T) (Rm.room (k := 2) (hr.mono (by decide))) T.bi_BadRow .nil pass0 (by rfl) T.g_BadRow (pa_cons pe_str (pa_cons (pv 1) pa_nil))))) pss_nil)
      (pss_cons (ps_if (pt_cmpR (op_neG hr.hu) (pe_callB call_lenV (by rfl) T.n_len PySem.boot_len (pa_cons (pv 0) pa_nil)) (pe_callB call_lenV (by rfl) T.n_len PySem.boot_len (pa_cons (pv 1) pa_nil)) (nomark _)) (pss_one (ps_raiseN rfl (takes_of rfl rfl rfl rfl) (pmk_oex (dvs := []) (ds := []) T.O_Unlike T.i_Unlike T.ti_Unlike (in_Unlike T) (Rm.room (k := 2) (hr.mono (by decide))) T.bi_Unlike .nil pass0 (by rfl) T.g_Unlike (pa_cons pe_str pa_nil)))) pss_nil)
      (pss_one (ps_ret (pe_go (ok_summed T hS) (hr.mono (by decide)) (pl := []) (fun _ h => nomatch h) (by rfl) T.g_summed T.F_summed.kp T.b_summed (passAt (takes_of rfl rfl rfl rfl)) (pa_cons (pv 0) (pa_cons (pv 1) pa_nil)))))))), fun b ss R X h hX => ?_⟩
  obtain ⟨x, y, rfl, ⟨px, ix⟩, ⟨py, iy⟩, q⟩ := h
  refine ds_seq (ds_if (dt_or (dt_not (dt_test (de_isLT rfl px ⟨_, rfl, ?_⟩)))))
  rcases isL_seq px with ⟨el, lx, ex⟩ | ⟨el, ex⟩
  rotate_left
  · have er : rowB x = false := by unfold rowB; rw [ex]
    rw [er, if_neg (by decide)] at q
    rw [el]
    exact iteT (iteT (ds_raise (hX _) (da_cons (de_str (da_cons (de_var rfl (da_nil ⟨rfl, by decide, q⟩)))))))
  rw [el]
  obtain ⟨lx1, lx2⟩ := ix lx ex
  have er : rowB x = lx.all isRt := by unfold rowB; rw [ex]
  refine iteF (dt_not (dt_test (de_all (de_new (dn_map (fun d => .bl (isRt d)) (by simp) (di_seq (Q := fun _ => True) (de_var rfl ⟨lx, ex, by omega, fun d hd => ?_, _, congrArg D.lst map_bl, _, rfl, ?_⟩)))))))
  · exact de_call EL.no (dc_cons (de_var rfl (dc_nil ⟨d, rfl, lx2 d hd, rfl⟩)))
  rw [all_map, ← er]
  cases hx : rowB x with
  | false =>
    rw [hx, if_neg (by decide)] at q
    exact iteT (ds_raise (hX _) (da_cons (de_str (da_cons (de_var rfl (da_nil ⟨rfl, by decide, q⟩))))))
  | true =>
  rw [hx, if_pos rfl] at q
  refine iteF (ds_next (ds_seq (ds_if (dt_or (dt_not (dt_test (de_isLT rfl py ⟨_, rfl, ?_⟩)))))))
  rcases isL_seq py with ⟨el, ly, ey⟩ | ⟨el, ey⟩
  rotate_left
  · have er : rowB y = false := by unfold rowB; rw [ey]
    rw [er, if_neg (by decide)] at q
    rw [el]
    exact iteT (iteT (ds_raise (hX _) (da_cons (de_str (da_cons (de_var rfl (da_nil ⟨rfl, by decide, q⟩)))))))
  rw [el]
  obtain ⟨ly1, ly2⟩ := iy ly ey
  have er2 : rowB y = ly.all isRt := by unfold rowB; rw [ey]
  refine iteF (dt_not (dt_test (de_all (de_new (dn_map (fun d => .bl (isRt d)) (by simp) (di_seq (Q := fun _ => True) (de_var rfl ⟨ly, ey, by omega, fun d hd => ?_, _, congrArg D.lst map_bl, _, rfl, ?_⟩)))))))
  · exact de_call EL.no (dc_cons (de_var rfl (dc_nil ⟨d, rfl, ly2 d hd, rfl⟩)))
  rw [all_map, ← er2]
  cases hy : rowB y with
  | false =>
    rw [hy, if_neg (by decide)] at q
    exact iteT (ds_raise (hX _) (da_cons (de_str (da_cons (de_var rfl (da_nil ⟨rfl, by decide, q⟩))))))
  | true =>
  rw [hy, if_pos rfl] at q
  obtain ⟨lx', ly', ex', ey', q⟩ := q
  cases ex.symm.trans ex'
  cases ey.symm.trans ey'
  refine iteF (ds_next (ds_seq (ds_if (dt_test (de_neI (de_len (de_var rfl ⟨_, lenD_seq ex, de_len (de_var rfl ⟨_, lenD_seq ey, _, _, rfl, rfl, _, rfl, ?_⟩)⟩)))))))
  by_cases hn : lx.length = ly.length
  · rw [if_pos hn] at q
    obtain ⟨qs, hR, hl, q⟩ := q
    rw [decide_eq_true (by omega)]
    exact iteF (ds_next (ds_ret (de_call EL.no (dc_cons (de_var rfl (dc_cons (de_var rfl (dc_nil ⟨x, y, lx, ly, qs, rfl, ex, ey, hR, hl, q⟩))))))))
  · rw [if_neg hn] at q
    rw [decide_eq_false (by omega)]
    exact iteT (ds_raise (hX _) (da_cons (de_str (da_nil ⟨rfl, by decide, q⟩))))
end
end Law

set_option Elab.async false
set_option linter.all false
set_option maxRecDepth 100000
set_option maxHeartbeats 4000000
namespace Law
open PySem PySem.Spec PyProof.Rows L2 G
/-- no ratio; repr may be asked of it -/
structure Odv (d : D) : Prop where
  pr : Pr d
  no : isRt d = false
  tm : Tm 3 20 d
def oddL : List D := [.non, .bl true, .bl false, .str "1", .str "", .tup [.int 1, .int 1], .tup [.int 2, .int 4], .tup [.int 1, .int 0], .tup [.int 1, .int (-2)], .lst [.int 1, .int 2], .tup [.int 1, .int 2, .int 3], .tup [.bl true, .int 2], .tup [], .tup [.int 0, .int 3], .dic []]
theorem oddL_ok : ∀ d ∈ oddL, Odv d := fun d hd => by
  simp only [oddL, List.mem_cons, List.not_mem_nil, or_false] at hd
  rcases hd with rfl | rfl | rfl | rfl | rfl | rfl | rfl | rfl | rfl | rfl | rfl | rfl | rfl | rfl | rfl
  · exact ⟨⟨⟨_, rfl⟩, fun u v e => by first | (cases e; exact ⟨⟨_, rfl⟩, ⟨_, rfl⟩⟩) | cases e⟩, by decide +kernel, Tm.dec (by decide +kernel) (by decide +kernel) (by decide +kernel) (by decide +kernel) (by decide +kernel) (by decide +kernel)⟩
  · exact ⟨⟨⟨_, rfl⟩, fun u v e => by first | (cases e; exact ⟨⟨_, rfl⟩, ⟨_, rfl⟩⟩) | cases e⟩, by decide +kernel, Tm.dec (by decide +kernel) (by decide +kernel) (by decide +kernel) (by decide +kernel) (by decide +kernel) (by decide +kernel)⟩
  · exact ⟨⟨⟨_, rfl⟩, fun u v e => by first | (cases e; exact ⟨⟨_, rfl⟩, ⟨_, rfl⟩⟩) | cases e⟩, by decide +kernel, Tm.dec (by decide +kernel) (by decide +kernel) (by decide +kernel) (by decide +kernel) (by decide +kernel) (by decide +kernel)⟩
  · exact ⟨⟨⟨_, rfl⟩, fun u v e => by first | (cases e; exact ⟨⟨_, rfl⟩, ⟨_, rfl⟩⟩) | cases e⟩, by decide +kernel, Tm.dec (by decide +kernel) (by decide +kernel) (by decide +kernel) (by decide +kernel) (by decide +kernel) (by decide +kernel)⟩
  · exact ⟨⟨⟨_, rfl⟩, fun u v e => by first | (cases e; exact ⟨⟨_, rfl⟩, ⟨_, rfl⟩⟩) | cases e⟩, by decide +kernel, Tm.dec (by decide +kernel) (by decide +kernel) (by decide +kernel) (by decide +kernel) (by decide +kernel) (by decide +kernel)⟩
  · exact ⟨⟨⟨_, rfl⟩, fun u v e => by first | (cases e; exact ⟨⟨_, rfl⟩, ⟨_, rfl⟩⟩) | cases e⟩, by decide +kernel, Tm.dec (by decide +kernel) (by decide +kernel) (by decide +kernel) (by decide +kernel) (by decide +kernel) (by decide +kernel)⟩
  · exact ⟨⟨⟨_, rfl⟩, fun u v e => by first | (cases e; exact ⟨⟨_, rfl⟩, ⟨_, rfl⟩⟩) | cases e⟩, by decide +kernel, Tm.dec (by decide +kernel) (by decide +kernel) (by decide +kernel) (by decide +kernel) (by decide +kernel) (by decide +kernel)⟩
  · exact ⟨⟨⟨_, rfl⟩, fun u v e => by first | (cases e; exact ⟨⟨_, rfl⟩, ⟨_, rfl⟩⟩) | cases e⟩, by decide +kernel, Tm.dec (by decide +kernel) (by decide +kernel) (by decide +kernel) (by decide +kernel) (by decide +kernel) (by decide +kernel)⟩
  · exact ⟨⟨⟨_, rfl⟩, fun u v e => by first | (cases e; exact ⟨⟨_, rfl⟩, ⟨_, rfl⟩⟩) | cases e⟩, by decide +kernel, Tm.dec (by decide +kernel) (by decide +kernel) (by decide +kernel) (by decide +kernel) (by decide +kernel) (by decide +kernel)⟩
  · exact ⟨⟨⟨_, rfl⟩, fun u v e => by first | (cases e; exact ⟨⟨_, rfl⟩, ⟨_, rfl⟩⟩) | cases e⟩, by decide +kernel, Tm.dec (by decide +kernel) (by decide +kernel) (by decide +kernel) (by decide +kernel) (by decide +kernel) (by decide +kernel)⟩
  · exact ⟨⟨⟨_, rfl⟩, fun u v e => by first | (cases e; exact ⟨⟨_, rfl⟩, ⟨_, rfl⟩⟩) | cases e⟩, by decide +kernel, Tm.dec (by decide +kernel) (by decide +kernel) (by decide +kernel) (by decide +kernel) (by decide +kernel) (by decide +kernel)⟩
  · exact ⟨⟨⟨_, rfl⟩, fun u v e => by first | (cases e; exact ⟨⟨_, rfl⟩, ⟨_, rfl⟩⟩) | cases e⟩, by decide +kernel, Tm.dec (by decide +kernel) (by decide +kernel) (by decide +kernel) (by decide +kernel) (by decide +kernel) (by decide +kernel)⟩
  · exact ⟨⟨⟨_, rfl⟩, fun u v e => by first | (cases e; exact ⟨⟨_, rfl⟩, ⟨_, rfl⟩⟩) | cases e⟩, by decide +kernel, Tm.dec (by decide +kernel) (by decide +kernel) (by decide +kernel) (by decide +kernel) (by decide +kernel) (by decide +kernel)⟩
  · exact ⟨⟨⟨_, rfl⟩, fun u v e => by first | (cases e; exact ⟨⟨_, rfl⟩, ⟨_, rfl⟩⟩) | cases e⟩, by decide +kernel, Tm.dec (by decide +kernel) (by decide +kernel) (by decide +kernel) (by decide +kernel) (by decide +kernel) (by decide +kernel)⟩
  · exact ⟨⟨⟨_, rfl⟩, fun u v e => by first | (cases e; exact ⟨⟨_, rfl⟩, ⟨_, rfl⟩⟩) | cases e⟩, by decide +kernel, Tm.dec (by decide +kernel) (by decide +kernel) (by decide +kernel) (by decide +kernel) (by decide +kernel) (by decide +kernel)⟩
/-- an item of a row, bent or not -/
def Bi (x : D) : Prop := Rv x ∨ Odv x
theorem Rv.tm {x : D} (h : Rv x) : Tm 3 20 x := by
  obtain ⟨t, b, hx, h1, h2⟩ := h
  cases hx with
  | int t => exact Tm.int h1
  | pair t b _ _ => exact (TmL.tup (n := 2) (TmL.cons (w := 0) (Tm.int h1) (TmL.cons (w := 0) (Tm.int h2) (TmL.nil (w := 0))))).mono (by decide) (by decide)
theorem Rv.pr {x : D} (h : Rv x) : Pr x := by
  obtain ⟨t, b, hx, _, _⟩ := h
  exact hx.pr
theorem Rv.rt {x : D} (h : Rv x) : isRt x = true := by
  obtain ⟨t, b, hx, _, _⟩ := h
  exact hx.rt
theorem Bi.pr {x : D} (h : Bi x) : Pr x := h.elim Rv.pr Odv.pr
theorem Bi.tm {x : D} (h : Bi x) : Tm 3 20 x := h.elim Rv.tm Odv.tm
theorem Bi.rv {x : D} (h : Bi x) (r : isRt x = true) : Rv x := h.elim id fun o => by rw [o.no] at r; cases r
def noRow : List D := [.non, .int 3, .str "row", .bl true, .dic []]
/-- a row, bent or not; or none at all -/
inductive Bv : D → Prop
  | row (l : List D) (h1 : l.length ≤ 12) (h2 : ∀ x ∈ l, Bi x) : Bv (.tup l)
  | no (d : D) (h : d ∈ noRow) : Bv d
theorem noRow_ok : ∀ d ∈ noRow, Pl d ∧ seqD d = none ∧ isL d = false ∧ Tm 4 300 d := fun d hd => by
  simp only [noRow, List.mem_cons, List.not_mem_nil, or_false] at hd
  rcases hd with rfl | rfl | rfl | rfl | rfl
  · exact ⟨⟨_, rfl⟩, rfl, rfl, Tm.dec (by decide +kernel) (by decide +kernel) (by decide +kernel) (by decide +kernel) (by decide +kernel) (by decide +kernel)⟩
  · exact ⟨⟨_, rfl⟩, rfl, rfl, Tm.dec (by decide +kernel) (by decide +kernel) (by decide +kernel) (by decide +kernel) (by decide +kernel) (by decide +kernel)⟩
  · exact ⟨⟨_, rfl⟩, rfl, rfl, Tm.dec (by decide +kernel) (by decide +kernel) (by decide +kernel) (by decide +kernel) (by decide +kernel) (by decide +kernel)⟩
  · exact ⟨⟨_, rfl⟩, rfl, rfl, Tm.dec (by decide +kernel) (by decide +kernel) (by decide +kernel) (by decide +kernel) (by decide +kernel) (by decide +kernel)⟩
  · exact ⟨⟨_, rfl⟩, rfl, rfl, Tm.dec (by decide +kernel) (by decide +kernel) (by decide +kernel) (by decide +kernel) (by decide +kernel) (by decide +kernel)⟩
theorem Bv.prs {d : D} (h : Bv d) : PrS d := by
  cases h with
  | row l h1 h2 => exact ⟨⟨_, rfl⟩, fun l' e => by cases e; exact ⟨by omega, fun x hx => (h2 x hx).pr⟩⟩
  | no _ h =>
    obtain ⟨p, s, _⟩ := noRow_ok d h
    exact ⟨p, fun l' e => by rw [s] at e; cases e⟩
theorem Bv.tm {d : D} (h : Bv d) : Tm 4 300 d := by
  cases h with
  | row l h1 h2 => exact ((TmL.all fun x hx => (h2 x hx).tm).tup).mono (by decide) (by omega)
  | no _ h => exact (noRow_ok d h).2.2.2
theorem rows_of : ∀ {lx ly : List D}, lx.length = ly.length → (∀ x ∈ lx, Rv x) → (∀ y ∈ ly, Rv y) → ∃ qs, Rows lx ly qs ∧ qs.length = lx.length
  | [], [], _, _, _ => ⟨[], .nil, rfl⟩
  | x :: lx, y :: ly, h, hx, hy => by
    obtain ⟨qs, r, e⟩ := rows_of (lx := lx) (ly := ly) (by simpa using h) (fun z hz => hx z (List.mem_cons_of_mem _ hz)) (fun z hz => hy z (List.mem_cons_of_mem _ hz))
    obtain ⟨t, b, h1, h2, h3⟩ := hx x List.mem_cons_self
    obtain ⟨u, l, g1, g2, g3⟩ := hy y List.mem_cons_self
    exact ⟨⟨t, b, u, l⟩ :: qs, .cons h1 g1 h2 h3 g2 g3 r, by simp [e]⟩
theorem wOd {s : Str} (h : PyData.strOk s = true) (w1 w2 : Str) (h1 : PyData.strOk w1 = true) (h2 : PyData.strOk w2 = true) : Od 3 (.tup [.str w1, .str w2, .str s]) :=
  (OdL.tup (n := 2) (.cons (.str h1) (.cons (.str h2) (.cons (.str h) .nil))))
theorem cut_mem {l : List D} {lo hi : Option Int} {x : D} (h : x ∈ cutD l lo hi) : x ∈ l := List.mem_of_mem_drop (List.mem_of_mem_take h)
theorem cut_len {l : List D} {lo hi : Option Int} : (cutD l lo hi).length ≤ l.length := by
  unfold G.cutD
  rw [List.length_take, List.length_drop]
  omega
section
variable {P : Program} {w : World} {K : PySem.W.Frag} {mg : Str → Option Value} {base : Heap} {a : Ad}
def F_any : DF := fun ss R _ => ∃ l, ss = [.sh (.tup l), .sh (.int (l.length : Nat))] ∧ l.length ≤ 100 ∧ (∀ x ∈ l, Pr x) ∧ R (.bl (l.all isRt))
theorem ok__law_is_any_row (T : Tx K mg a) (hS : Sy mg base a) : FnG P w K mg base true 3 a.f__law_is_any_row a.d__law_is_any_row (["value", "many"] : List Str) (fun _ => spD K F_any) := by
  refine fn_data T.F__law_is_any_row sc__law_is_any_row (fun ss R X z => by obtain ⟨_, h, _⟩ := z; rw [h] <;> rfl) fun cdv A outer s H E pl hr => ⟨_, (pss_cons (ps_if (PW.pt (pw_or (pt_not (pt_val (pe_go (ok__law_is_list T hS) (hr.mono (by decide)) (pl := []) (fun _ h => nomatch h) (by rfl) T.g__law_is_list T.F__law_is_list.kp T.b__law_is_list lets0 (pa_cons (pv 0) pa_nil)))) (pw_or1 (pt_cmpR (op_neG hr.hu) (pe_callB call_lenV (by rfl) T.n_len PySem.boot_len (pa_cons (pv 0) pa_nil)) (pv 1) (nomark _))))) (pss_one (ps_ret pe_bl)) pss_nil)
      (pss_one (ps_ret (pe_cmpR (op_eqG hr.hu) (pe_lc (own := [("one", 2)]) (by rfl) sc__law_is_any_row.nd (pi_seq (pv 0)) (blkOk_by (N := nm__law_is_any_row) (sc := defScope s__law_is_any_row) (by decide +kernel)) (fun _ _ _ _ _ => (pg_name (i := 2) sc__law_is_any_row.nd rfl (Or.inl rfl))) (fun _ _ _ _ _ => pts_one (pt_not (pt_val (pe_go (ok__law_is_ratio T hS) (hr.mono (by decide)) (pl := []) (fun _ h => nomatch h) (by rfl) T.g__law_is_ratio T.F__law_is_ratio.kp T.b__law_is_ratio lets0 (pa_cons (pv 2) pa_nil))))) (fun _ _ _ _ _ => (pv 2))) (pe_lst pa_nil) (nomark _))))), fun b ss R X h hX => ?_⟩
  obtain ⟨l, rfl, hl, hp, q⟩ := h
  refine ds_seq (ds_if (dt_or (dt_not (dt_test (de_call EL.no (dc_cons (de_var rfl (dc_nil ⟨.tup l, rfl, ⟨_, rfl⟩, true, rfl, iteF ?_⟩))))))))
  refine dt_test (de_neI (de_len (de_var rfl ⟨_, rfl, de_var rfl ⟨_, _, rfl, rfl, false, by simp, iteF (ds_next ?_)⟩⟩)))
  refine ds_ret (de_eqNil (de_new (dn_lc (di_seq (Q := fun _ => True) (de_var rfl ⟨l, rfl, fun i acc => acc.length ≤ i ∧ acc.isEmpty = (l.take i).all isRt, ⟨Nat.le_refl _, rfl⟩, fun i d acc hi hacc => ?_, fun acc hacc => ?_⟩)))))
  · have hm : d ∈ l := List.mem_of_getElem? hi
    have il : i < l.length := (List.getElem?_eq_some_iff.mp hi).1
    have e : (l.take (i + 1)).all isRt = ((l.take i).all isRt && isRt d) := by
      rw [List.take_succ, hi, List.all_append]
      simp
    refine dgw_name (by simp) ?_
    refine dt_not (dt_test (de_call EL.no (dc_cons (de_var rfl (dc_nil ⟨d, rfl, hp d hm, _, rfl, ?_⟩)))))
    cases hd : isRt d with
    | true =>
      refine iteF ⟨by omega, ?_⟩
      rw [e, hd, Bool.and_true]
      exact hacc.2
    | false =>
      refine iteT (de_var rfl ⟨by omega, by simp; omega, ?_⟩)
      rw [e, hd, Bool.and_false]
      simp
  · refine de_lst (da_nil ⟨by decide, acc, rfl, rfl, ?_⟩)
    rw [hacc.2, List.take_length]
    exact q
def F_oddv : DF := fun ss R _ => ss = [.pen] ∧ ∀ d, Odv d → R d
theorem ok__law_odd (T : Tx K mg a) (hS : Sy mg base a) : FnG P w K mg base true 3 a.f__law_odd a.d__law_odd (["pen"] : List Str) (fun _ => spD K F_oddv) := by
  refine fn_data T.F__law_odd sc__law_odd (fun ss R X z => by obtain ⟨h, _⟩ := z; rw [h] <;> rfl) fun cdv A outer s H E pl hr => ⟨_, (pss_one (ps_ret (pe_go (ok__law_pick T hS) (hr.mono (by decide)) (pl := []) (fun _ h => nomatch h) (by rfl) T.g__law_pick T.F__law_pick.kp T.b__law_pick lets0 (pa_cons (pv 0) (pa_cons (pe_lst (pa_cons pe_non (pa_cons pe_bl (pa_cons pe_bl (pa_cons pe_str (pa_cons pe_str (pa_cons (pe_tup (pa_cons pe_int (pa_cons pe_int pa_nil))) (pa_cons (pe_tup (pa_cons pe_int (pa_cons pe_int pa_nil))) (pa_cons (pe_tup (pa_cons pe_int (pa_cons pe_int pa_nil))) (pa_cons (pe_tup (pa_cons pe_int (pa_cons (pe_un un_neg pe_int) pa_nil))) (pa_cons (pe_lst (pa_cons pe_int (pa_cons pe_int pa_nil))) (pa_cons (pe_tup (pa_cons pe_int (pa_cons pe_int (pa_cons pe_int pa_nil)))) (pa_cons (pe_tup (pa_cons pe_bl (pa_cons pe_int pa_nil))) (pa_cons (pe_tup pa_nil) (pa_cons (pe_tup (pa_cons pe_int (pa_cons pe_int pa_nil))) (pa_cons pe_dnewK pa_nil)))))))))))))))) pa_nil))))), fun b ss R X h hX => ?_⟩
  obtain ⟨rfl, q⟩ := h
  have go : ∀ d ∈ oddL, R d := fun d hd => q d (oddL_ok d hd)
  refine ds_ret (de_call EL.no (dc_pen rfl (dc_cons (de_lst ?_))))
  refine da_cons (de_non (da_cons (de_bl (da_cons (de_bl (da_cons (de_str (da_cons (de_str ?_)))))))))
  refine da_cons (de_tup (da_cons (de_int (da_cons (de_int (da_nil ⟨by simp, ?_⟩))))))
  refine da_cons (de_tup (da_cons (de_int (da_cons (de_int (da_nil ⟨by simp, ?_⟩))))))
  refine da_cons (de_tup (da_cons (de_int (da_cons (de_int (da_nil ⟨by simp, ?_⟩))))))
  refine da_cons (de_tup (da_cons (de_int (da_cons (de_un (de_int ⟨2, rfl, da_nil ⟨by simp, ?_⟩⟩))))))
  refine da_cons (de_lst (da_cons (de_int (da_cons (de_int (da_nil ⟨by simp, ?_⟩))))))
  refine da_cons (de_tup (da_cons (de_int (da_cons (de_int (da_cons (de_int (da_nil ⟨by simp, ?_⟩))))))))
  refine da_cons (de_tup (da_cons (de_bl (da_cons (de_int (da_nil ⟨by simp, ?_⟩))))))
  refine da_cons (de_tup (da_nil ⟨by simp, ?_⟩))
  refine da_cons (de_tup (da_cons (de_int (da_cons (de_int (da_nil ⟨by simp, ?_⟩))))))
  exact da_cons (de_dnew (da_nil ⟨by simp, dc_nil ⟨_, _, rfl, rfl, (fun z => nomatch z), by simp, go⟩⟩))
def F_bent : DF := fun ss R _ => ∃ l, ss = [.pen, .sh (.tup l)] ∧ l.length ≤ 10 ∧ (∀ x ∈ l, Rv x) ∧ ∀ d, Bv d → R d
theorem ok__law_bent_row (T : Tx K mg a) (hS : Sy mg base a) : FnG P w K mg base true 4 a.f__law_bent_row a.d__law_bent_row (["pen", "row"] : List Str) (fun _ => spD K F_bent) := by
  refine fn_data T.F__law_bent_row sc__law_bent_row (fun ss R X z => by obtain ⟨_, h, _⟩ := z; rw [h] <;> rfl) fun cdv A outer s H E pl hr => ⟨_, (pss_cons (ps_set (i := 2) sc__law_bent_row.nd rfl (Or.inl rfl) (pe_go (ok__law_draw T hS) (hr.mono (by decide)) (pl := []) (fun _ h => nomatch h) (by rfl) T.g__law_draw T.F__law_draw.kp T.b__law_draw lets0 (pa_cons (pv 0) (pa_cons pe_int pa_nil))))
      (pss_cons (ps_if (PW.pt (pw_and (pt_cmpR (op_eqG hr.hu) (pv 2) pe_int (nomark _)) (pw_and1 (pt_cmpR op_gt (pe_callB call_lenV (by rfl) T.n_len PySem.boot_len (pa_cons (pv 1) pa_nil)) pe_int (nomark _))))) (pss_one (ps_ret (pe_slice sl_seq (pv 1) po_none (po_some (pe_un un_neg pe_int))))) pss_nil)
      (pss_cons (ps_if (pt_cmpR (op_eqG hr.hu) (pv 2) pe_int (nomark _)) (pss_one (ps_ret (pe_op op_addG (pv 1) (pe_tup (pa_cons (pe_go (ok__law_draw T hS) (hr.mono (by decide)) (pl := []) (fun _ h => nomatch h) (by rfl) T.g__law_draw T.F__law_draw.kp T.b__law_draw lets0 (pa_cons (pv 0) (pa_cons pe_int pa_nil))) pa_nil))))) pss_nil)
      (pss_cons (ps_if (PW.pt (pw_and (pt_cmpR (op_eqG hr.hu) (pv 2) pe_int (nomark _)) (pw_and1 (pt_cmpR op_gt (pe_callB call_lenV (by rfl) T.n_len PySem.boot_len (pa_cons (pv 1) pa_nil)) pe_int (nomark _))))) (pss_cons (ps_set (i := 3) sc__law_bent_row.nd rfl (Or.inl rfl) (pe_go (ok__law_draw T hS) (hr.mono (by decide)) (pl := []) (fun _ h => nomatch h) (by rfl) T.g__law_draw T.F__law_draw.kp T.b__law_draw lets0 (pa_cons (pv 0) (pa_cons (pe_callB call_lenV (by rfl) T.n_len PySem.boot_len (pa_cons (pv 1) pa_nil)) pa_nil))))
      (pss_one (ps_ret (pe_op op_addG (pe_op op_addG (pe_slice sl_seq (pv 1) po_none (po_some (pv 3))) (pe_tup (pa_cons (pe_go (ok__law_odd T hS) (hr.mono (by decide)) (pl := []) (fun _ h => nomatch h) (by rfl) T.g__law_odd T.F__law_odd.kp T.b__law_odd lets0 (pa_cons (pv 0) pa_nil)) pa_nil))) (pe_slice sl_seq (pv 1) (po_some (pe_op op_addG (pv 3) pe_int)) po_none))))) pss_nil)
      (pss_one (ps_ret (pe_go (ok__law_pick T hS) (hr.mono (by decide)) (pl := []) (fun _ h => nomatch h) (by rfl) T.g__law_pick T.F__law_pick.kp T.b__law_pick lets0 (pa_cons (pv 0) (pa_cons (pe_lst (pa_cons pe_non (pa_cons pe_int (pa_cons pe_str (pa_cons pe_bl (pa_cons pe_dnewK pa_nil)))))) pa_nil))))))))), fun b ss R X h hX => ?_⟩
  obtain ⟨l, rfl, hl, hR, q⟩ := h
  refine ds_seq (ds_asg (de_call EL.no (dc_pen rfl (dc_cons (de_int (dc_nil ⟨4, rfl, by decide, draw_ok (by decide) (by decide), fun k k0 k1 => ?_⟩))))))
  refine ds_seq (DS.mid (mid := fun ρ => ρ = [.pen, .sh (.tup l), .sh (.int k), .no]) ?_ fun ρ h => ?_)
  · refine ds_if (dt_and (dt_test (de_eqI (de_var rfl (de_int ⟨k, 0, rfl, rfl, _, rfl, ite2 (fun z => ?_) (fun z => iteF (ds_next rfl))⟩)))))
    refine dt_test (de_B0 (de_len (de_var rfl ⟨_, rfl, de_int ⟨_, 0, rfl, rfl, _, rfl, ite2 (fun y => ?_) (fun y => ds_next rfl)⟩⟩)))
    refine ds_ret (de_sliceT (de_var rfl (do_none (do_some (de_un (de_int ⟨1, rfl, _, rfl, l, rfl, q _ (.row _ ?_ ?_)⟩))))))
    · exact Nat.le_trans cut_len (by omega)
    · exact fun x hx => Or.inl (hR x (cut_mem hx))
  subst h
  refine ds_seq (DS.mid (mid := fun ρ => ρ = [.pen, .sh (.tup l), .sh (.int k), .no]) ?_ fun ρ h => ?_)
  · refine ds_if (dt_test (de_eqI (de_var rfl (de_int ⟨k, 1, rfl, rfl, _, rfl, ite2 (fun z => ?_) (fun z => ds_next rfl)⟩))))
    refine ds_ret (de_addA (de_var rfl (de_tup (da_cons (de_call EL.no (dc_pen rfl (dc_cons (de_int (dc_nil ⟨3, rfl, by decide, draw_ok (by decide) (by decide), fun m m0 m1 => da_nil ⟨by simp, l, _, rfl, rfl, ?_, q _ (.row _ ?_ ?_)⟩⟩)))))))))
    · simp; omega
    · simp; omega
    · intro x hx
      rcases List.mem_append.mp hx with h | h
      · exact Or.inl (hR x h)
      · rw [List.mem_singleton.mp h]
        exact Or.inl ⟨m, 1, .int m, Lg.of 3 (by omega) (by decide), Lg.of 1 (by decide) (by decide)⟩
  subst h
  refine ds_seq (DS.mid (mid := fun ρ => ρ = [.pen, .sh (.tup l), .sh (.int k), .no]) ?_ fun ρ h => ?_)
  · refine ds_if (dt_and (dt_test (de_eqI (de_var rfl (de_int ⟨k, 2, rfl, rfl, _, rfl, ite2 (fun z => ?_) (fun z => iteF (ds_next rfl))⟩)))))
    refine dt_test (de_B0 (de_len (de_var rfl ⟨_, rfl, de_int ⟨_, 0, rfl, rfl, _, rfl, ite2 (fun y => ?_) (fun y => ds_next rfl)⟩⟩)))
    have y' : 0 < (l.length : Int) := by have : (l.length : Int) > 0 := of_decide_eq_true y; omega
    refine ds_seq (ds_asg (de_call EL.no (dc_pen rfl (dc_cons (de_len (de_var rfl ⟨l.length, rfl, dc_nil ⟨l.length, rfl, y', draw_ok y' (by omega), fun m m0 m1 => ?_⟩⟩))))))
    refine ds_ret (de_addA (de_addA (de_sliceT (de_var rfl (do_none (do_some (de_var rfl ⟨m, rfl, l, rfl, ?_⟩)))))))
    refine de_tup (da_cons (de_call EL.no (dc_pen rfl (dc_nil ⟨rfl, fun d hd => da_nil ⟨by simp, _, _, rfl, rfl, ?_, ?_⟩⟩))))
    · have := cut_len (l := l) (lo := none) (hi := some m)
      simp; omega
    refine de_sliceT (de_var rfl (do_some (de_addI (de_var rfl (de_int ⟨m, 1, rfl, rfl, _, rfl, do_none ⟨l, rfl, _, _, rfl, rfl, ?_, q _ (.row _ ?_ ?_)⟩⟩)))))
    · have c1 := cut_len (l := l) (lo := none) (hi := some m)
      have c2 := cut_len (l := l) (lo := some (m + 1)) (hi := none)
      simp; omega
    · have c1 : (cutD l none (some m)).length = m.toNat := by
        unfold G.cutD
        rw [List.length_take, List.length_drop]
        have e1 : HT.sIx l.length 0 none = 0 := rfl
        have e2 : HT.sIx l.length l.length (some m) = m.toNat := by
          unfold HT.sIx
          simp only
          split <;> omega
        rw [e1, e2]
        omega
      have c2 : (cutD l (some (m + 1)) none).length = l.length - (m.toNat + 1) := by
        unfold G.cutD
        rw [List.length_take, List.length_drop]
        have e1 : HT.sIx l.length l.length none = l.length := rfl
        have e2 : HT.sIx l.length 0 (some (m + 1)) = m.toNat + 1 := by
          unfold HT.sIx
          simp only
          split <;> omega
        rw [e1, e2]
        omega
      rw [List.length_append, List.length_append, c1, c2]
      simp; omega
    · intro x hx
      rcases List.mem_append.mp hx with h | h
      · rcases List.mem_append.mp h with h | h
        · exact Or.inl (hR x (cut_mem h))
        · rw [List.mem_singleton.mp h]
          exact Or.inr hd
      · exact Or.inl (hR x (cut_mem h))
  subst h
  have go : ∀ d ∈ noRow, R d := fun d hd => q d (.no d hd)
  exact ds_ret (de_call EL.no (dc_pen rfl (dc_cons (de_lst (da_cons (de_non (da_cons (de_int (da_cons (de_str (da_cons (de_bl (da_cons (de_dnew (da_nil ⟨by simp, dc_nil ⟨_, _, rfl, rfl, (fun z => nomatch z), by simp, go⟩⟩)))))))))))))))
end
end Law

set_option Elab.async false
set_option linter.all false
set_option maxRecDepth 100000
set_option maxHeartbeats 4000000
namespace Law
open PySem PySem.Spec PyProof.Rows L2 G
def tops : List D := [.non, .bl true, .str "1", .tup [.int 1, .int 2], .lst [.int 1]]
theorem tops_ok : ∀ d ∈ tops, Pl d ∧ isI d = false ∧ Tm 3 20 d := fun d hd => by
  simp only [tops, List.mem_cons, List.not_mem_nil, or_false] at hd
  rcases hd with rfl | rfl | rfl | rfl | rfl
  · exact ⟨⟨_, rfl⟩, by decide +kernel, Tm.dec (by decide +kernel) (by decide +kernel) (by decide +kernel) (by decide +kernel) (by decide +kernel) (by decide +kernel)⟩
  · exact ⟨⟨_, rfl⟩, by decide +kernel, Tm.dec (by decide +kernel) (by decide +kernel) (by decide +kernel) (by decide +kernel) (by decide +kernel) (by decide +kernel)⟩
  · exact ⟨⟨_, rfl⟩, by decide +kernel, Tm.dec (by decide +kernel) (by decide +kernel) (by decide +kernel) (by decide +kernel) (by decide +kernel) (by decide +kernel)⟩
  · exact ⟨⟨_, rfl⟩, by decide +kernel, Tm.dec (by decide +kernel) (by decide +kernel) (by decide +kernel) (by decide +kernel) (by decide +kernel) (by decide +kernel)⟩
  · exact ⟨⟨_, rfl⟩, by decide +kernel, Tm.dec (by decide +kernel) (by decide +kernel) (by decide +kernel) (by decide +kernel) (by decide +kernel) (by decide +kernel)⟩
def bots : List D := [.int 0, .non, .bl false, .tup [.int 1, .int 2]]
theorem bots_ok : ∀ d ∈ bots, Pl d ∧ isN0 d = false ∧ Tm 3 20 d := fun d hd => by
  simp only [bots, List.mem_cons, List.not_mem_nil, or_false] at hd
  rcases hd with rfl | rfl | rfl | rfl
  · exact ⟨⟨_, rfl⟩, by decide +kernel, Tm.dec (by decide +kernel) (by decide +kernel) (by decide +kernel) (by decide +kernel) (by decide +kernel) (by decide +kernel)⟩
  · exact ⟨⟨_, rfl⟩, by decide +kernel, Tm.dec (by decide +kernel) (by decide +kernel) (by decide +kernel) (by decide +kernel) (by decide +kernel) (by decide +kernel)⟩
  · exact ⟨⟨_, rfl⟩, by decide +kernel, Tm.dec (by decide +kernel) (by decide +kernel) (by decide +kernel) (by decide +kernel) (by decide +kernel) (by decide +kernel)⟩
  · exact ⟨⟨_, rfl⟩, by decide +kernel, Tm.dec (by decide +kernel) (by decide +kernel) (by decide +kernel) (by decide +kernel) (by decide +kernel) (by decide +kernel)⟩
theorem lowZ_shape (t v : Int) : (∃ i, lowZ t v = .int i) ∨ ∃ i j, lowZ t v = .tup [.int i, .int j] := by
  unfold lowZ
  split
  · exact Or.inl ⟨_, rfl⟩
  · exact Or.inr ⟨_, _, rfl⟩
theorem lowZ_neg {t v : Int} (hv : 0 < v) : lowZ (-t) (-v) = lowZ t v := by
  have e1 : byZ t v = ((Nat.gcd t.natAbs v.natAbs : Nat) : Int) := by
    unfold byZ
    rw [if_neg (by omega)]
  have e2 : byZ (-t) (-v) = -((Nat.gcd t.natAbs v.natAbs : Nat) : Int) := by
    unfold byZ
    rw [if_pos (by omega), Int.natAbs_neg, Int.natAbs_neg]
  unfold lowZ
  rw [e1, e2]
  generalize ((Nat.gcd t.natAbs v.natAbs : Nat) : Int) = g
  have f : ∀ i : Int, (-i).fdiv (-g) = i.fdiv g := fun i => Int.neg_fdiv_neg i g
  rw [f, f]
  by_cases z : v = g
  · rw [if_pos z, if_pos (by omega)]
  · rw [if_neg z, if_neg (by omega)]
theorem lowZ_scale {t v c : Int} (hv : 0 < v) (hc : c ≠ 0) : lowZ (t * c) (v * c) = lowZ t v := by
  have pos : ∀ c : Int, 0 < c → lowZ (t * c) (v * c) = lowZ t v := fun c h => lowZ_eq (Int.mul_pos hv h) hv (by rw [Int.mul_assoc, Int.mul_comm c v])
  by_cases z : 0 < c
  · exact pos c z
  · have h := pos (-c) (by omega)
    have g := lowZ_neg (t := t * -c) (v := v * -c) (Int.mul_pos hv (by omega))
    have n : ∀ i : Int, -(i * -c) = i * c := fun i => by rw [Int.mul_neg, Int.neg_neg]
    rw [n, n] at g
    rw [g]
    exact h
abbrev XB (a : Ad) (wd : Str) (n : D) : Addr → List (Str × D) → Prop := fun C fs => C = a.c_BadNumber ∧ fs = [(("number" : Str), n), (("what" : Str), D.str wd)]
abbrev XR (a : Ad) (wd : Str) (n : D) : Addr → List (Str × D) → Prop := fun C fs => C = a.c_BadRow ∧ fs = [(("row" : Str), n), (("what" : Str), D.str wd)]
abbrev XU (a : Ad) : Addr → List (Str × D) → Prop := fun C fs => C = a.c_Unlike ∧ fs = [(("what" : Str), D.str "other")]
theorem FoB {a : Ad} {R : D → Prop} {wd : Str} {n : D} (ok : okR n) (h : R (.tup [.str "number", .str wd, .str n.py.shown])) : FoF a (fun _ => False) (XB a wd n) R :=
  ⟨fun d z => z.elim, fun C fs z => ⟨0, .str wd, n, .non, by decide, z.1, z.2, fun z => by omega, fun _ => ok, h⟩⟩
theorem FoR {a : Ad} {R : D → Prop} {wd : Str} {n : D} (ok : okR n) (h : R (.tup [.str "row", .str wd, .str n.py.shown])) : FoF a (fun _ => False) (XR a wd n) R :=
  ⟨fun d z => z.elim, fun C fs z => ⟨1, .str wd, n, .non, by decide, z.1, z.2, fun z => by omega, fun _ => ok, h⟩⟩
theorem FoU {a : Ad} {R : D → Prop} (h : R (.tup [.str "unlike", .str "other"])) : FoF a (fun _ => False) (XU a) R :=
  ⟨fun d z => z.elim, fun C fs z => ⟨10, .str "other", .non, .non, by decide, z.1, z.2, fun z => by omega, fun z => by omega, h⟩⟩
theorem FoN {a : Ad} {R : D → Prop} (h : R .non) : FoF a (fun _ => True) (fun _ _ => False) R := ⟨fun d _ => h, fun C fs z => z.elim⟩
theorem Nd.ok {a : Ad} {x y : D} {X : Addr → List (Str × D) → Prop} {p : Prop} (hx : isRt x = true) (hy : isRt y = true) (h : p) : Nd a x y X p := by
  unfold Nd
  rw [if_pos hx, if_pos hy]
  exact h
theorem sN : PyData.strOk "number" = true := by decide +kernel
def F_yes : DF := fun ss R _ => ss = [.pen] ∧ R (.bl true)
section
variable {P : Program} {w : World} {K : PySem.W.Frag} {mg : Str → Option Value} {base : Heap} {a : Ad}
theorem ok__law_made_right (T : Tx K mg a) (hS : Sy mg base a) : FnG P w K mg base true 7 a.f__law_made_right a.d__law_made_right (["pen"] : List Str) (fun _ => spT K (tbq a) F_yes) := by
  refine fn_dataT T.F__law_made_right sc__law_made_right (fun ss R X z => by obtain ⟨h, _⟩ := z; rw [h] <;> rfl) fun cdv A outer s H E pl hc hr => ⟨_, (pss_cons (ps_set (i := 1) sc__law_made_right.nd rfl (Or.inl rfl) (pe_go (ok__law_pick T hS) (hr.mono (by decide)) (pl := []) (fun _ h => nomatch h) (by rfl) T.g__law_pick T.F__law_pick.kp T.b__law_pick lets0 (pa_cons (pv 0) (pa_cons (pe_lst (pa_cons pe_int (pa_cons (pe_un un_neg pe_int) (pa_cons pe_int (pa_cons (pe_un un_neg pe_int) (pa_cons (pe_op op_pow pe_int pe_int) pa_nil)))))) pa_nil))))
      (pss_cons (ps_asg (pe_tup (pa_cons (pe_op op_sub (pe_go (ok__law_draw T hS) (hr.mono (by decide)) (pl := []) (fun _ h => nomatch h) (by rfl) T.g__law_draw T.F__law_draw.kp T.b__law_draw lets0 (pa_cons (pv 0) (pa_cons pe_int pa_nil))) pe_int) (pa_cons (pe_op op_addG pe_int (pe_go (ok__law_draw T hS) (hr.mono (by decide)) (pl := []) (fun _ h => nomatch h) (by rfl) T.g__law_draw T.F__law_draw.kp T.b__law_draw lets0 (pa_cons (pv 0) (pa_cons pe_int pa_nil)))) pa_nil))) (pg_tup rfl (pgs_cons (pg_name (i := 2) sc__law_made_right.nd rfl (Or.inr rfl)) (pgs_cons (pg_name (i := 3) sc__law_made_right.nd rfl (Or.inl rfl)) pgs_nil))))
      (pss_cons (ps_if (PW.pt (pw_or (pt_not (pt_val (pe_go (ok__law_is T hS) (hr.mono (by decide)) (pl := []) (fun _ h => nomatch h) (by rfl) T.g__law_is T.F__law_is.kp T.b__law_is lets0 (pa_cons (pe_go (ok_ratio T hS) (hr.mono (by decide)) (pl := []) (fun _ h => nomatch h) (by rfl) T.g_ratio T.F_ratio.kp T.b_ratio lets0 (pa_cons (pe_op op_mulG (pv 2) (pv 1)) (pa_cons (pe_op op_mulG (pv 3) (pv 1)) pa_nil))) (pa_cons (pe_go (ok__law_low T hS) (hr.mono (by decide)) (pl := []) (fun _ h => nomatch h) (by rfl) T.g__law_low T.F__law_low.kp T.b__law_low lets0 (pa_cons (pv 2) (pa_cons (pv 3) pa_nil))) pa_nil))))) (pw_or1 (pt_cmpR op_notBlV (pe_go (ok_is_ratio T hS) (hr.mono (by decide)) (pl := []) (fun _ h => nomatch h) (by rfl) T.g_is_ratio T.F_is_ratio.kp T.b_is_ratio lets0 (pa_cons (pe_go (ok__law_low T hS) (hr.mono (by decide)) (pl := []) (fun _ h => nomatch h) (by rfl) T.g__law_low T.F__law_low.kp T.b__law_low lets0 (pa_cons (pv 2) (pa_cons (pv 3) pa_nil))) pa_nil)) pe_bl (nomark _))))) (pss_one (ps_ret pe_bl)) pss_nil)
      (pss_cons (ps_set (i := 4) sc__law_made_right.nd rfl (Or.inl rfl) (pe_go (ok__law_pick T hS) (hr.mono (by decide)) (pl := []) (fun _ h => nomatch h) (by rfl) T.g__law_pick T.F__law_pick.kp T.b__law_pick lets0 (pa_cons (pv 0) (pa_cons (pe_lst (pa_cons (pe_go (ok__law_odd T hS) (hr.mono (by decide)) (pl := []) (fun _ h => nomatch h) (by rfl) T.g__law_odd T.F__law_odd.kp T.b__law_odd lets0 (pa_cons (pv 0) pa_nil)) (pa_cons (pe_go (ok__law_number T hS) (hr.mono (by decide)) (pl := []) (fun _ h => nomatch h) (by rfl) T.g__law_number T.F__law_number.kp T.b__law_number lets0 (pa_cons (pv 0) (pa_cons pe_int pa_nil))) (pa_cons (pe_tup (pa_cons (pe_op op_mulG (pv 2) (pv 1)) (pa_cons (pe_op op_mulG (pv 3) (pv 1)) pa_nil))) (pa_cons (pe_lst (pa_cons (pv 2) (pa_cons (pv 3) pa_nil))) (pa_cons (pv 2) pa_nil)))))) pa_nil))))
      (pss_cons (ps_if (pt_not (pt_val (pe_go (ok__law_says T hS) (hr.mono (by decide)) (pl := []) (fun _ h => nomatch h) (by rfl) T.g__law_says T.F__law_says.kp T.b__law_says lets0 (pa_cons (pe_go (ok_is_ratio T hS) (hr.mono (by decide)) (pl := []) (fun _ h => nomatch h) (by rfl) T.g_is_ratio T.F_is_ratio.kp T.b_is_ratio lets0 (pa_cons (pv 4) pa_nil)) (pa_cons (pe_go (ok__law_is_ratio T hS) (hr.mono (by decide)) (pl := []) (fun _ h => nomatch h) (by rfl) T.g__law_is_ratio T.F__law_is_ratio.kp T.b__law_is_ratio lets0 (pa_cons (pv 4) pa_nil)) pa_nil))))) (pss_one (ps_ret pe_bl)) pss_nil)
      (pss_cons (ps_set (i := 5) sc__law_made_right.nd rfl (Or.inr rfl) (pe_go (ok__law_pick T hS) (hr.mono (by decide)) (pl := []) (fun _ h => nomatch h) (by rfl) T.g__law_pick T.F__law_pick.kp T.b__law_pick lets0 (pa_cons (pv 0) (pa_cons (pe_lst (pa_cons pe_non (pa_cons pe_bl (pa_cons pe_str (pa_cons (pe_tup (pa_cons pe_int (pa_cons pe_int pa_nil))) (pa_cons (pe_lst (pa_cons pe_int pa_nil)) pa_nil)))))) pa_nil))))
      (pss_cons (ps_if (pt_cmpR (op_neG hr.hu) (pe_lamG (c := a.cc__law_made_right) (P := a.tb__law_made_right) (k := 4) (by rfl) T.g__law_fault T.F__law_fault T.b__law_fault sc__law_fault rfl (Or.inl rfl) (fun cdg => gives__law_fault T hS cdg) (hS.tb (a.cc__law_made_right, a.tb__law_made_right) (by simp [tbs])) (hc.symm.trans T.cd__law_made_right) (hr.mono (by decide)) (LamX.lamS_by (sc := defScope s__law_made_right) (by decide +kernel)) rfl (fun _ _ _ _ _ => rfl) (fun A outer s H E f c hL => (pe_go (ok_ratio T hS) (hL.mono (by decide)) (pl := []) (fun _ h => nomatch h) (by rfl) T.g_ratio T.F_ratio.kp T.b_ratio (passAt (takes_of rfl rfl rfl rfl)) (pa_cons (pv 5) (pa_cons pe_int pa_nil))))) (pe_tup (pa_cons pe_str (pa_cons pe_str (pa_cons (pe_callB (call_repr hS.sys (hr.gd) hr.hu) (by rfl) T.n_repr PyProof.Rows.boot_repr (pa_cons (pv 5) pa_nil)) pa_nil)))) (nomark _)) (pss_one (ps_ret pe_bl)) pss_nil)
      (pss_cons (ps_set (i := 5) sc__law_made_right.nd rfl (Or.inr rfl) (pe_go (ok__law_pick T hS) (hr.mono (by decide)) (pl := []) (fun _ h => nomatch h) (by rfl) T.g__law_pick T.F__law_pick.kp T.b__law_pick lets0 (pa_cons (pv 0) (pa_cons (pe_lst (pa_cons pe_int (pa_cons pe_non (pa_cons pe_bl (pa_cons (pe_tup (pa_cons pe_int (pa_cons pe_int pa_nil))) pa_nil))))) pa_nil))))
      (pss_one (ps_ret (pe_cmpR (op_eqG hr.hu) (pe_lamG (c := a.cc__law_made_right) (P := a.tb__law_made_right) (k := 4) (by rfl) T.g__law_fault T.F__law_fault T.b__law_fault sc__law_fault rfl (Or.inl rfl) (fun cdg => gives__law_fault T hS cdg) (hS.tb (a.cc__law_made_right, a.tb__law_made_right) (by simp [tbs])) (hc.symm.trans T.cd__law_made_right) (hr.mono (by decide)) (LamX.lamS_by (sc := defScope s__law_made_right) (by decide +kernel)) rfl (fun _ _ _ _ _ => rfl) (fun A outer s H E f c hL => (pe_go (ok_ratio T hS) (hL.mono (by decide)) (pl := []) (fun _ h => nomatch h) (by rfl) T.g_ratio T.F_ratio.kp T.b_ratio (passAt (takes_of rfl rfl rfl rfl)) (pa_cons (pv 2) (pa_cons (pv 5) pa_nil))))) (pe_tup (pa_cons pe_str (pa_cons pe_str (pa_cons (pe_callB (call_repr hS.sys (hr.gd) hr.hu) (by rfl) T.n_repr PyProof.Rows.boot_repr (pa_cons (pv 5) pa_nil)) pa_nil)))) (nomark _)))))))))))), fun b ss R X hbT h hX => ?_⟩
  obtain ⟨rfl, q⟩ := h
  have hm : (a.tb__law_made_right, ("_law_made_right" : Str) ++ ".<locals>." ++ "<lambda>") ∈ tbq a := by simp [tbq]
  have hT : (a.tb__law_made_right, ("_law_made_right" : Str) ++ ".<locals>." ++ "<lambda>") ∈ b.T := by rw [hbT]; exact hm
  have hu : ∀ p ∈ b.T, p.1 = a.tb__law_made_right → p.2 = ("_law_made_right" : Str) ++ ".<locals>." ++ "<lambda>" := fun p hp e => hS.tq _ _ (by rw [← hbT]; exact hp) hm e
  have pw : ∀ n : Int, 0 ≤ n → n ≤ 100 → CPow 10 n := fun n h1 h2 => ⟨h1, by omega, by decide⟩
  refine ds_seq (ds_asg (de_call EL.no (dc_pen rfl (dc_cons (de_lst ?_)))))
  refine da_cons (de_int (da_cons (de_un (de_int ⟨1, rfl, da_cons (de_int (da_cons (de_un (de_int ⟨6, rfl, da_cons (de_II (de_int (de_int ⟨10, 20, rfl, rfl, pw _ (by decide) (by decide), ?_⟩)))⟩))))⟩))))
  refine da_nil ⟨by simp, dc_nil ⟨_, _, rfl, rfl, (fun z => nomatch z), by simp, fun d hd => ?_⟩⟩
  have hd' : ∃ c : Int, d = .int c ∧ c ≠ 0 ∧ Lg 100 c := by
    simp only [List.mem_cons, List.not_mem_nil, or_false] at hd
    rcases hd with rfl | rfl | rfl | rfl | rfl
    · exact ⟨_, rfl, by decide, by unfold Lg; decide +kernel⟩
    · exact ⟨_, rfl, by decide, by unfold Lg; decide +kernel⟩
    · exact ⟨_, rfl, by decide, by unfold Lg; decide +kernel⟩
    · exact ⟨_, rfl, by decide, by unfold Lg; decide +kernel⟩
    · exact ⟨_, rfl, by decide +kernel, by unfold Lg; decide +kernel⟩
  obtain ⟨c, rfl, c0, cl⟩ := hd'
  refine ds_seq (ds_asgG (de_tup (da_cons (de_I0 (de_call EL.no (dc_pen rfl (dc_cons (de_int (dc_nil ⟨999, rfl, by decide, draw_ok (by decide) (by decide), fun t0 t1 t2 => de_int ⟨t0, 499, rfl, rfl, ?_⟩⟩)))))))))
  refine da_cons (de_addI (de_int (de_call EL.no (dc_pen rfl (dc_cons (de_int (dc_nil ⟨99, rfl, by decide, draw_ok (by decide) (by decide), fun v0 v1 v2 => ⟨1, v0, rfl, rfl, da_nil ⟨by simp, dg_tup rfl rfl (dgs_cons (dg_name (dgs_cons (dg_name (dgs_nil ?_)))))⟩⟩⟩)))))))
  have hv : 0 < 1 + v0 := by omega
  have tl : Lg 10 (t0 - 499) := Lg.of 600 (by omega) (by decide)
  have vl : Lg 10 (1 + v0) := Lg.of 100 (by omega) (by decide)
  generalize t0 - 499 = top at tl
  generalize 1 + v0 = bot at hv vl
  have tc := tl.mul cl
  have vc := vl.mul cl
  have mt : IntMulOk top c := tl.ok cl (by decide) (by decide) (by decide)
  have mv : IntMulOk bot c := vl.ok cl (by decide) (by decide) (by decide)
  have lb : bot.natAbs.log2 < 9000 := Nat.lt_of_lt_of_le (vl.log (by decide)) (by decide)
  have lbc : (bot * c).natAbs.log2 < 9000 := Nat.lt_of_lt_of_le (vc.log (by decide)) (by decide)
  have nbc : isN0 (.int (bot * c)) = true := by
    have : bot * c ≠ 0 := Int.mul_ne_zero (by omega) c0
    simp [isN0, this]
  obtain ⟨rx, ry, hRt, _⟩ := lowZ_rt (t := top) hv
  refine ds_seq (ds_if (dt_or (dt_not (dt_test (de_call EL.no (dc_cons (de_call EL.no (dc_cons (de_II (de_var rfl (de_var rfl ⟨top, c, rfl, rfl, mt, dc_cons (de_II (de_var rfl (de_var rfl ⟨bot, c, rfl, rfl, mv, dc_nil ⟨.int (top * c), .int (bot * c), rfl, ⟨_, rfl⟩, ⟨_, rfl⟩, ?_⟩⟩)))⟩)))))))))))
  rw [if_pos (show isI (.int (top * c)) = true from rfl), if_pos nbc]
  refine ⟨_, _, rfl, rfl, lbc, ?_⟩
  rw [lowZ_scale hv c0]
  refine dc_cons (de_call EL.no (dc_cons (de_var rfl (dc_cons (de_var rfl (dc_nil ⟨top, bot, rfl, by omega, lb, dc_nil ⟨_, rfl, lowZ_shape _ _, true, rfl, iteF ?_⟩⟩))))))
  refine dt_test (de_notBl (de_call EL.no (dc_cons (de_call EL.no (dc_cons (de_var rfl (dc_cons (de_var rfl (dc_nil ⟨top, bot, rfl, by omega, lb, dc_nil ⟨_, rfl, hRt.pr, ?_⟩⟩)))))))))
  rw [hRt.rt]
  refine ⟨false, rfl, iteF (ds_next ?_)⟩
  refine ds_seq (ds_asg (de_call EL.no (dc_pen rfl (dc_cons (de_lst (da_cons (de_call EL.no (dc_pen rfl (dc_nil ⟨rfl, fun od hod => ?_⟩)))))))))
  refine da_cons (de_call EL.no (dc_pen rfl (dc_cons (de_int (dc_nil ⟨3, rfl, fun nx nt nb n1 n2 n3 => ?_⟩)))))
  refine da_cons (de_tup (da_cons (de_II (de_var rfl (de_var rfl ⟨top, c, rfl, rfl, mt, da_cons (de_II (de_var rfl (de_var rfl ⟨bot, c, rfl, rfl, mv, da_nil ⟨by simp, ?_⟩⟩)))⟩)))))
  refine da_cons (de_lst (da_cons (de_var rfl (da_cons (de_var rfl (da_nil ⟨by simp, da_cons (de_var rfl (da_nil ⟨by simp, dc_nil ⟨_, _, rfl, rfl, (fun z => nomatch z), by simp, fun vd hvd => ?_⟩⟩))⟩))))))
  have pv' : Pr vd := by
    simp only [List.mem_cons, List.not_mem_nil, or_false] at hvd
    rcases hvd with rfl | rfl | rfl | rfl | rfl
    · exact hod.pr
    · exact n1.pr
    · exact ⟨⟨_, rfl⟩, fun u v e => by cases e; exact ⟨⟨_, rfl⟩, ⟨_, rfl⟩⟩⟩
    · exact ⟨⟨_, rfl⟩, fun u v e => by cases e⟩
    · exact ⟨⟨_, rfl⟩, fun u v e => by cases e⟩
  refine ds_seq (ds_if (dt_not (dt_test (de_call EL.no (dc_cons (de_call EL.no (dc_cons (de_var rfl (dc_nil ⟨vd, rfl, pv', dc_cons (de_call EL.no (dc_cons (de_var rfl (dc_nil ⟨vd, rfl, pv', dc_nil ⟨_, rfl, true, rfl, iteF (ds_next ?_)⟩⟩))))⟩)))))))))
  refine ds_seq (ds_asg (de_call EL.no (dc_pen rfl (dc_cons (de_lst ?_)))))
  refine da_cons (de_non (da_cons (de_bl (da_cons (de_str (da_cons (de_tup (da_cons (de_int (da_cons (de_int (da_nil ⟨by simp, ?_⟩))))))))))))
  refine da_cons (de_lst (da_cons (de_int (da_nil ⟨by simp, da_nil ⟨by simp, dc_nil ⟨_, _, rfl, rfl, (fun z => nomatch z), by simp, fun o1 ho1 => ?_⟩⟩⟩))))
  obtain ⟨p1, i1, t1'⟩ := tops_ok o1 ho1
  have O1 := wOd t1'.so "number" "top" sN (by decide +kernel)
  refine ds_seq (ds_if (dt_test (de_neA (de_lam hT hu (fun b1 E eM eT hE => de_call hE (dc_cons (de_var rfl (dc_cons (de_int (dc_nil ⟨o1, .int 0, rfl, p1, ⟨_, rfl⟩, ?_⟩)))))) (FoB (wd := "top") (t1'.ok (by decide) (by decide)) ?_)))))
  · rw [i1, if_neg (by decide)]
    exact ⟨rfl, rfl⟩
  refine de_tup (da_cons (de_str (da_cons (de_str (da_cons (de_repr (de_var rfl ⟨t1'.ok (by decide) (by decide), da_nil ⟨by simp, O1.ok (by decide), O1.ok (by decide), false, congrArg (fun c => D.bl (!c)) O1.refl, iteF (ds_next ?_)⟩⟩)))))))
  refine ds_seq (ds_asg (de_call EL.no (dc_pen rfl (dc_cons (de_lst ?_)))))
  refine da_cons (de_int (da_cons (de_non (da_cons (de_bl (da_cons (de_tup (da_cons (de_int (da_cons (de_int (da_nil ⟨by simp, da_nil ⟨by simp, dc_nil ⟨_, _, rfl, rfl, (fun z => nomatch z), by simp, fun o2 ho2 => ?_⟩⟩⟩))))))))))))
  obtain ⟨p2, i2, t2'⟩ := bots_ok o2 ho2
  have O2 := wOd t2'.so "number" "bottom" sN (by decide +kernel)
  refine ds_ret (de_eqA (de_lam hT hu (fun b1 E eM eT hE => de_call hE (dc_cons (de_var rfl (dc_cons (de_var rfl (dc_nil ⟨.int top, o2, rfl, ⟨_, rfl⟩, p2, ?_⟩)))))) (FoB (wd := "bottom") (t2'.ok (by decide) (by decide)) ?_)))
  · rw [if_pos (show isI (.int top) = true from rfl), i2, if_neg (by decide)]
    exact ⟨rfl, rfl⟩
  refine de_tup (da_cons (de_str (da_cons (de_str (da_cons (de_repr (de_var rfl ⟨t2'.ok (by decide) (by decide), da_nil ⟨by simp, O2.ok (by decide), O2.ok (by decide), ?_⟩⟩)))))))
  rw [O2.refl]
  exact q
end
end Law

set_option Elab.async false
set_option linter.all false
set_option maxRecDepth 100000
set_option maxHeartbeats 4000000
namespace Law
open PySem PySem.Spec PyProof.Rows L2 G
section
variable {P : Program} {w : World} {K : PySem.W.Frag} {mg : Str → Option Value} {base : Heap} {a : Ad}
def F_reck : DF := F2 fun x y t b h l R => R (.bl true)
theorem ok__law_reckoned_right (T : Tx K mg a) (hS : Sy mg base a) : FnG P w K mg base true 8 a.f__law_reckoned_right a.d__law_reckoned_right (["one", "other"] : List Str) (fun _ => spT K (tbq a) F_reck) := by
  refine fn_dataT T.F__law_reckoned_right sc__law_reckoned_right (fun ss R X z => by obtain ⟨_, _, _, _, _, _, h, _⟩ := z; rw [h] <;> rfl) fun cdv A outer s H E pl hc hr => ⟨_, (pss_cons (ps_if (PW.pt (pw_or (pt_not (pt_val (pe_go (ok__law_is T hS) (hr.mono (by decide)) (pl := []) (fun _ h => nomatch h) (by rfl) T.g__law_is T.F__law_is.kp T.b__law_is lets0 (pa_cons (pe_go (ok_plus T hS) (hr.mono (by decide)) (pl := []) (fun _ h => nomatch h) (by rfl) T.g_plus T.F_plus.kp T.b_plus lets0 (pa_cons (pv 0) (pa_cons (pv 1) pa_nil))) (pa_cons (pe_go (ok__law_plus T hS) (hr.mono (by decide)) (pl := []) (fun _ h => nomatch h) (by rfl) T.g__law_plus T.F__law_plus.kp T.b__law_plus lets0 (pa_cons (pv 0) (pa_cons (pv 1) pa_nil))) pa_nil))))) (pw_or1 (pt_not (pt_val (pe_go (ok__law_is T hS) (hr.mono (by decide)) (pl := []) (fun _ h => nomatch h) (by rfl) T.g__law_is T.F__law_is.kp T.b__law_is lets0 (pa_cons (pe_go (ok_minus T hS) (hr.mono (by decide)) (pl := []) (fun _ h => nomatch h) (by rfl) T.g_minus T.F_minus.kp T.b_minus lets0 (pa_cons (pv 0) (pa_cons (pv 1) pa_nil))) (pa_cons (pe_go (ok__law_minus T hS) (hr.mono (by decide)) (pl := []) (fun _ h => nomatch h) (by rfl) T.g__law_minus T.F__law_minus.kp T.b__law_minus lets0 (pa_cons (pv 0) (pa_cons (pv 1) pa_nil))) pa_nil)))))))) (pss_one (ps_ret pe_bl)) pss_nil)
      (pss_cons (ps_if (PW.pt (pw_or (pt_not (pt_val (pe_go (ok__law_is T hS) (hr.mono (by decide)) (pl := []) (fun _ h => nomatch h) (by rfl) T.g__law_is T.F__law_is.kp T.b__law_is lets0 (pa_cons (pe_go (ok_times T hS) (hr.mono (by decide)) (pl := []) (fun _ h => nomatch h) (by rfl) T.g_times T.F_times.kp T.b_times lets0 (pa_cons (pv 0) (pa_cons (pv 1) pa_nil))) (pa_cons (pe_go (ok__law_times T hS) (hr.mono (by decide)) (pl := []) (fun _ h => nomatch h) (by rfl) T.g__law_times T.F__law_times.kp T.b__law_times lets0 (pa_cons (pv 0) (pa_cons (pv 1) pa_nil))) pa_nil))))) (pw_or1 (pt_not (pt_val (pe_go (ok__law_says T hS) (hr.mono (by decide)) (pl := []) (fun _ h => nomatch h) (by rfl) T.g__law_says T.F__law_says.kp T.b__law_says lets0 (pa_cons (pe_go (ok_below T hS) (hr.mono (by decide)) (pl := []) (fun _ h => nomatch h) (by rfl) T.g_below T.F_below.kp T.b_below lets0 (pa_cons (pv 0) (pa_cons (pv 1) pa_nil))) (pa_cons (pe_go (ok__law_less T hS) (hr.mono (by decide)) (pl := []) (fun _ h => nomatch h) (by rfl) T.g__law_less T.F__law_less.kp T.b__law_less lets0 (pa_cons (pv 0) (pa_cons (pv 1) pa_nil))) pa_nil)))))))) (pss_one (ps_ret pe_bl)) pss_nil)
      (pss_cons (ps_if (pt_not (pt_val (pe_go (ok__law_is T hS) (hr.mono (by decide)) (pl := []) (fun _ h => nomatch h) (by rfl) T.g__law_is T.F__law_is.kp T.b__law_is lets0 (pa_cons (pe_go (ok_sign T hS) (hr.mono (by decide)) (pl := []) (fun _ h => nomatch h) (by rfl) T.g_sign T.F_sign.kp T.b_sign lets0 (pa_cons (pv 0) pa_nil)) (pa_cons (pe_go (ok__law_sign T hS) (hr.mono (by decide)) (pl := []) (fun _ h => nomatch h) (by rfl) T.g__law_sign T.F__law_sign.kp T.b__law_sign lets0 (pa_cons (pv 0) pa_nil)) pa_nil))))) (pss_one (ps_ret pe_bl)) pss_nil)
      (pss_cons (ps_if (pt_cmpR (op_eqG hr.hu) (pv 1) pe_int (nomark _)) (pss_one (ps_ret (pe_cmpR (op_eqG hr.hu) (pe_lamG (c := a.cc__law_reckoned_right) (P := a.tb__law_reckoned_right) (k := 5) (by rfl) T.g__law_fault T.F__law_fault T.b__law_fault sc__law_fault rfl (Or.inl rfl) (fun cdg => gives__law_fault T hS cdg) (hS.tb (a.cc__law_reckoned_right, a.tb__law_reckoned_right) (by simp [tbs])) (hc.symm.trans T.cd__law_reckoned_right) (hr.mono (by decide)) (LamX.lamS_by (sc := defScope s__law_reckoned_right) (by decide +kernel)) rfl (fun _ _ _ _ _ => rfl) (fun A outer s H E f c hL => (pe_go (ok_over T hS) (hL.mono (by decide)) (pl := []) (fun _ h => nomatch h) (by rfl) T.g_over T.F_over.kp T.b_over (passAt (takes_of rfl rfl rfl rfl)) (pa_cons (pv 0) (pa_cons (pv 1) pa_nil))))) (pe_tup (pa_cons pe_str (pa_cons pe_str (pa_cons pe_str pa_nil)))) (nomark _)))) pss_nil)
      (pss_one (ps_ret (pe_go (ok__law_is T hS) (hr.mono (by decide)) (pl := []) (fun _ h => nomatch h) (by rfl) T.g__law_is T.F__law_is.kp T.b__law_is lets0 (pa_cons (pe_go (ok_over T hS) (hr.mono (by decide)) (pl := []) (fun _ h => nomatch h) (by rfl) T.g_over T.F_over.kp T.b_over lets0 (pa_cons (pv 0) (pa_cons (pv 1) pa_nil))) (pa_cons (pe_go (ok__law_over T hS) (hr.mono (by decide)) (pl := []) (fun _ h => nomatch h) (by rfl) T.g__law_over T.F__law_over.kp T.b__law_over lets0 (pa_cons (pv 0) (pa_cons (pv 1) pa_nil))) pa_nil))))))))), fun b ss R X hbT h hX => ?_⟩
  obtain ⟨x, y, t, v, u, l, rfl, two, q⟩ := h
  have hm : (a.tb__law_reckoned_right, ("_law_reckoned_right" : Str) ++ ".<locals>." ++ "<lambda>") ∈ tbq a := by simp [tbq]
  have hT : (a.tb__law_reckoned_right, ("_law_reckoned_right" : Str) ++ ".<locals>." ++ "<lambda>") ∈ b.T := by rw [hbT]; exact hm
  have hu : ∀ p ∈ b.T, p.1 = a.tb__law_reckoned_right → p.2 = ("_law_reckoned_right" : Str) ++ ".<locals>." ++ "<lambda>" := fun p hp e => hS.tq _ _ (by rw [← hbT]; exact hp) hm e
  refine ds_seq (ds_if (dt_or (dt_not (dt_test (de_call EL.no (dc_cons (de_call EL.no (dc_cons (de_var rfl (dc_cons (de_var rfl (dc_nil ⟨x, y, rfl, two.x.pr, two.y.pr, Nd.ok two.x.rt two.y.rt ⟨t, v, u, l, two, dc_cons (de_call EL.no (dc_cons (de_var rfl (dc_cons (de_var rfl (dc_nil ⟨x, y, t, v, u, l, rfl, two, dc_nil ⟨_, rfl, lowZ_shape _ _, true, rfl, iteF ?_⟩⟩))))))⟩⟩))))))))))))
  refine dt_not (dt_test (de_call EL.no (dc_cons (de_call EL.no (dc_cons (de_var rfl (dc_cons (de_var rfl (dc_nil ⟨x, y, rfl, two.x.pr, two.y.pr, Nd.ok two.x.rt two.y.rt ⟨t, v, u, l, two, dc_cons (de_call EL.no (dc_cons (de_var rfl (dc_cons (de_var rfl (dc_nil ⟨x, y, t, v, u, l, rfl, two, dc_nil ⟨_, rfl, lowZ_shape _ _, true, rfl, iteF (ds_next ?_)⟩⟩))))))⟩⟩)))))))))
  refine ds_seq (ds_if (dt_or (dt_not (dt_test (de_call EL.no (dc_cons (de_call EL.no (dc_cons (de_var rfl (dc_cons (de_var rfl (dc_nil ⟨x, y, rfl, two.x.pr, two.y.pr, Nd.ok two.x.rt two.y.rt ⟨t, v, u, l, two, dc_cons (de_call EL.no (dc_cons (de_var rfl (dc_cons (de_var rfl (dc_nil ⟨x, y, t, v, u, l, rfl, two, dc_nil ⟨_, rfl, lowZ_shape _ _, true, rfl, iteF ?_⟩⟩))))))⟩⟩))))))))))))
  refine dt_not (dt_test (de_call EL.no (dc_cons (de_call EL.no (dc_cons (de_var rfl (dc_cons (de_var rfl (dc_nil ⟨x, y, rfl, two.x.pr, two.y.pr, Nd.ok two.x.rt two.y.rt ⟨t, v, u, l, two, ?_⟩⟩)))))))))
  refine dc_cons (de_call EL.no (dc_cons (de_var rfl (dc_cons (de_var rfl (dc_nil ⟨x, y, t, v, u, l, rfl, two, dc_nil ⟨_, rfl, true, rfl, iteF (ds_next ?_)⟩⟩))))))
  refine ds_seq (ds_if (dt_not (dt_test (de_call EL.no (dc_cons (de_call EL.no (dc_cons (de_var rfl (dc_nil ⟨x, rfl, two.x.pr, ?_⟩)))))))))
  rw [if_pos two.x.rt]
  refine ⟨t, v, two.x, dc_cons (de_call EL.no (dc_cons (de_var rfl (dc_nil ⟨x, t, v, rfl, two.x, dc_nil ⟨_, rfl, Or.inl ⟨_, rfl⟩, true, rfl, iteF (ds_next ?_)⟩⟩))))⟩
  refine ds_seq (ds_if (dt_test (de_eqA (de_var rfl (de_int ⟨two.y.okD, okD_int 0, _, rfl, ?_⟩)))))
  rw [two.y.eq0]
  by_cases h0 : u = 0
  · rw [decide_eq_true h0]
    have ey := two.y.zero h0
    have T0 : Tm 3 20 (.int 0) := Tm.int (by decide)
    have O := wOd T0.so "number" "other" sN (by decide +kernel)
    have es : (D.int 0).py.shown = "0" := by decide +kernel
    rw [es] at O
    refine iteT (ds_ret (de_eqA (de_lam hT hu (fun b1 E eM eT hE => de_call hE (dc_cons (de_var rfl (dc_cons (de_var rfl (dc_nil ⟨x, y, rfl, two.x.pr, two.y.pr, Nd.ok two.x.rt two.y.rt ⟨t, v, u, l, two, ?_⟩⟩)))))) (FoB (wd := "other") (n := .int 0) (T0.ok (by decide) (by decide)) ?_))))
    · unfold G_ovr
      rw [if_pos h0, ey]
      exact ⟨rfl, rfl⟩
    rw [es]
    refine de_tup (da_cons (de_str (da_cons (de_str (da_cons (de_str (da_nil ⟨by simp, O.ok (by decide), O.ok (by decide), ?_⟩)))))))
    rw [O.refl]
    exact q
  · rw [decide_eq_false h0]
    refine iteF (ds_next (ds_ret (de_call EL.no (dc_cons (de_call EL.no (dc_cons (de_var rfl (dc_cons (de_var rfl (dc_nil ⟨x, y, rfl, two.x.pr, two.y.pr, Nd.ok two.x.rt two.y.rt ⟨t, v, u, l, two, ?_⟩⟩))))))))))
    unfold G_ovr
    rw [if_neg h0]
    exact dc_cons (de_call EL.no (dc_cons (de_var rfl (dc_cons (de_var rfl (dc_nil ⟨x, y, t, v, u, l, rfl, two, h0, dc_nil ⟨_, rfl, lowZ_shape _ _, q⟩⟩))))))
/-! the five of them -/
def G5 (a : Ad) : List (Addr × (D → D → Int → Int → Int → Int → (D → Prop) → (Addr → List (Str × D) → Prop) → Prop)) :=
  [(a.f_plus, fun x y t b h l R X => R (lowZ (t * l + h * b) (b * l))), (a.f_minus, fun x y t b h l R X => R (lowZ (t * l + -h * b) (b * l))), (a.f_times, fun x y t b h l R X => R (lowZ (t * h) (b * l))), (a.f_over, G_ovr a), (a.f_below, fun x y t b h l R X => R (.bl (decide (t * l < h * b))))]
def tab5 (K : PySem.W.Frag) (a : Ad) : List (Addr × Sp) := (G5 a).map fun p => (p.1, spD K (F_op a p.2))
theorem tab5_ok (T : Tx K mg a) (hS : Sy mg base a) : ∀ f sp, (f, sp) ∈ tab5 K a → ∃ fd ps, FnG P w K mg base true 4 f fd ps (fun _ => sp) ∧ PySem.W.keepIn K (.ref f) = true ∧ Binds K fd ps [] := fun f sp h => by
  simp only [tab5, G5, List.map_cons, List.map_nil, List.mem_cons, List.not_mem_nil, or_false, Prod.mk.injEq] at h
  rcases h with ⟨rfl, rfl⟩ | ⟨rfl, rfl⟩ | ⟨rfl, rfl⟩ | ⟨rfl, rfl⟩ | ⟨rfl, rfl⟩
  · exact ⟨_, _, ok_plus T hS, T.F_plus.kp, T.b_plus⟩
  · exact ⟨_, _, ok_minus T hS, T.F_minus.kp, T.b_minus⟩
  · exact ⟨_, _, ok_times T hS, T.F_times.kp, T.b_times⟩
  · exact ⟨_, _, ok_over T hS, T.F_over.kp, T.b_over⟩
  · exact ⟨_, _, ok_below T hS, T.F_below.kp, T.b_below⟩
def F_ref : DF := fun ss R _ => ∃ x d, ss = [.sh x, .sh d] ∧ Rv x ∧ Odv d ∧ R (.bl true)
theorem ok__law_refused_right (T : Tx K mg a) (hS : Sy mg base a) : FnG P w K mg base true 8 a.f__law_refused_right a.d__law_refused_right (["one", "odd"] : List Str) (fun _ => spT K (tbq a) F_ref) := by
  refine fn_dataT T.F__law_refused_right sc__law_refused_right (fun ss R X z => by obtain ⟨_, _, h, _⟩ := z; rw [h] <;> rfl) fun cdv A outer s H E pl hc hr => ⟨_, (pss_cons (ps_for (passes_of rfl) rfl (pi_seq (pe_tup (pa_cons (pe_glob (v := .ref a.f_plus) (by rfl) T.g_plus rfl) (pa_cons (pe_glob (v := .ref a.f_minus) (by rfl) T.g_minus rfl) (pa_cons (pe_glob (v := .ref a.f_times) (by rfl) T.g_times rfl) (pa_cons (pe_glob (v := .ref a.f_over) (by rfl) T.g_over rfl) (pa_cons (pe_glob (v := .ref a.f_below) (by rfl) T.g_below rfl) pa_nil))))))) (pg_name (i := 2) sc__law_refused_right.nd rfl (Or.inr rfl)) (pss_cons (ps_if (pt_cmpR (op_neG hr.hu) (pe_lamG (c := a.cc__law_refused_right) (P := a.tb__law_refused_right) (k := 5) (by rfl) T.g__law_fault T.F__law_fault T.b__law_fault sc__law_fault rfl (Or.inl rfl) (fun cdg => gives__law_fault T hS cdg) (hS.tb (a.cc__law_refused_right, a.tb__law_refused_right) (by simp [tbs])) (hc.symm.trans T.cd__law_refused_right) (hr.mono (by decide)) (LamX.lamS_by (sc := defScope s__law_refused_right) (by decide +kernel)) rfl (fun _ _ _ _ _ => rfl) (fun A outer s H E f c hL => (pe_goV (i := 2) (tab := (tab5 K a)) (tab5_ok T hS) (hL.mono (by decide)) (passAt (takes_of rfl rfl rfl rfl)) (pa_cons (pv 1) (pa_cons (pv 1) pa_nil))))) (pe_tup (pa_cons pe_str (pa_cons pe_str (pa_cons (pe_callB (call_repr hS.sys (hr.gd) hr.hu) (by rfl) T.n_repr PyProof.Rows.boot_repr (pa_cons (pv 1) pa_nil)) pa_nil)))) (nomark _)) (pss_one (ps_ret pe_bl)) pss_nil)
      (pss_one (ps_if (pt_cmpR (op_neG hr.hu) (pe_lamG (c := a.cc__law_refused_right) (P := a.tb__law_refused_right) (k := 5) (by rfl) T.g__law_fault T.F__law_fault T.b__law_fault sc__law_fault rfl (Or.inl rfl) (fun cdg => gives__law_fault T hS cdg) (hS.tb (a.cc__law_refused_right, a.tb__law_refused_right) (by simp [tbs])) (hc.symm.trans T.cd__law_refused_right) (hr.mono (by decide)) (LamX.lamS_by (sc := defScope s__law_refused_right) (by decide +kernel)) rfl (fun _ _ _ _ _ => rfl) (fun A outer s H E f c hL => (pe_goV (i := 2) (tab := (tab5 K a)) (tab5_ok T hS) (hL.mono (by decide)) (passAt (takes_of rfl rfl rfl rfl)) (pa_cons (pv 0) (pa_cons (pv 1) pa_nil))))) (pe_tup (pa_cons pe_str (pa_cons pe_str (pa_cons (pe_callB (call_repr hS.sys (hr.gd) hr.hu) (by rfl) T.n_repr PyProof.Rows.boot_repr (pa_cons (pv 1) pa_nil)) pa_nil)))) (nomark _)) (pss_one (ps_ret pe_bl)) pss_nil))))
      (pss_one (ps_ret (pe_cmpR (op_eqG hr.hu) (pe_lamG (c := a.cc__law_refused_right) (P := a.tb__law_refused_right) (k := 5) (by rfl) T.g__law_fault T.F__law_fault T.b__law_fault sc__law_fault rfl (Or.inl rfl) (fun cdg => gives__law_fault T hS cdg) (hS.tb (a.cc__law_refused_right, a.tb__law_refused_right) (by simp [tbs])) (hc.symm.trans T.cd__law_refused_right) (hr.mono (by decide)) (LamX.lamS_by (sc := defScope s__law_refused_right) (by decide +kernel)) rfl (fun _ _ _ _ _ => rfl) (fun A outer s H E f c hL => (pe_go (ok_sign T hS) (hL.mono (by decide)) (pl := []) (fun _ h => nomatch h) (by rfl) T.g_sign T.F_sign.kp T.b_sign (passAt (takes_of rfl rfl rfl rfl)) (pa_cons (pv 1) pa_nil)))) (pe_tup (pa_cons pe_str (pa_cons pe_str (pa_cons (pe_callB (call_repr hS.sys (hr.gd) hr.hu) (by rfl) T.n_repr PyProof.Rows.boot_repr (pa_cons (pv 1) pa_nil)) pa_nil)))) (nomark _))))), fun b ss R X hbT h hX => ?_⟩
  obtain ⟨x, d, rfl, hx, hd, q⟩ := h
  have hm : (a.tb__law_refused_right, ("_law_refused_right" : Str) ++ ".<locals>." ++ "<lambda>") ∈ tbq a := by simp [tbq]
  have hT : (a.tb__law_refused_right, ("_law_refused_right" : Str) ++ ".<locals>." ++ "<lambda>") ∈ b.T := by rw [hbT]; exact hm
  have hu : ∀ p ∈ b.T, p.1 = a.tb__law_refused_right → p.2 = ("_law_refused_right" : Str) ++ ".<locals>." ++ "<lambda>" := fun p hp e => hS.tq _ _ (by rw [← hbT]; exact hp) hm e
  have O1 := wOd hd.tm.so "number" "one" sN (by decide +kernel)
  have O2 := wOd hd.tm.so "number" "other" sN (by decide +kernel)
  have okd := hd.tm.ok (by decide) (by decide)
  refine ds_seq (ds_forI (di_seq (Q := fun _ => True) (de_tup (da_cons (de_fn (da_cons (de_fn (da_cons (de_fn (da_cons (de_fn (da_cons (de_fn (da_nil ⟨by simp, _, rfl, fun i ρ => ∃ s, ρ = [.sh x, .sh d, s], ⟨.no, rfl⟩, fun i f ρ hi h => ?_, fun ρ h => ?_⟩))))))))))))))
  · obtain ⟨s2, rfl⟩ := h
    have hm := List.mem_of_getElem? hi
    have hf : ∃ g G, f = .fn g ∧ (g, spD K (F_op a G)) ∈ tab5 K a := by
      simp only [List.mem_cons, List.not_mem_nil, or_false] at hm
      rcases hm with rfl | rfl | rfl | rfl | rfl
      · exact ⟨_, _, rfl, by unfold tab5 G5; simp only [List.map_cons]; exact List.mem_cons_self⟩
      · exact ⟨_, _, rfl, by unfold tab5 G5; simp only [List.map_cons]; exact List.mem_cons_of_mem _ List.mem_cons_self⟩
      · exact ⟨_, _, rfl, by unfold tab5 G5; simp only [List.map_cons]; exact List.mem_cons_of_mem _ (List.mem_cons_of_mem _ List.mem_cons_self)⟩
      · exact ⟨_, _, rfl, by unfold tab5 G5; simp only [List.map_cons]; exact List.mem_cons_of_mem _ (List.mem_cons_of_mem _ (List.mem_cons_of_mem _ List.mem_cons_self))⟩
      · exact ⟨_, _, rfl, by unfold tab5 G5; simp only [List.map_cons]; exact List.mem_cons_of_mem _ (List.mem_cons_of_mem _ (List.mem_cons_of_mem _ (List.mem_cons_of_mem _ List.mem_cons_self)))⟩
    obtain ⟨g, G, rfl, hg⟩ := hf
    refine dg_name (ds_seq (ds_if (dt_test (de_neA (de_lam hT hu (fun b1 E eM eT hE => de_callV hg rfl hE (dc_cons (de_var rfl (dc_cons (de_var rfl (dc_nil ⟨d, d, rfl, hd.pr, hd.pr, ?_⟩)))))) (FoB (wd := "one") okd ?_))))))
    · unfold Nd
      rw [hd.no, if_neg (by decide)]
      exact ⟨rfl, rfl⟩
    refine de_tup (da_cons (de_str (da_cons (de_str (da_cons (de_repr (de_var rfl ⟨okd, da_nil ⟨by simp, O1.ok (by decide), O1.ok (by decide), false, congrArg (fun c => D.bl (!c)) O1.refl, iteF (ds_next ?_)⟩⟩)))))))
    refine ds_if (dt_test (de_neA (de_lam hT hu (fun b1 E eM eT hE => de_callV hg rfl hE (dc_cons (de_var rfl (dc_cons (de_var rfl (dc_nil ⟨x, d, rfl, hx.pr, hd.pr, ?_⟩)))))) (FoB (wd := "other") okd ?_))))
    · unfold Nd
      rw [if_pos hx.rt, hd.no, if_neg (by decide)]
      exact ⟨rfl, rfl⟩
    exact de_tup (da_cons (de_str (da_cons (de_str (da_cons (de_repr (de_var rfl ⟨okd, da_nil ⟨by simp, O2.ok (by decide), O2.ok (by decide), false, congrArg (fun c => D.bl (!c)) O2.refl, iteF (ds_next ⟨_, rfl⟩)⟩⟩)))))))
  · obtain ⟨s2, rfl⟩ := h
    refine ds_ret (de_eqA (de_lam hT hu (fun b1 E eM eT hE => de_call hE (dc_cons (de_var rfl (dc_nil ⟨d, rfl, hd.pr, ?_⟩)))) (FoB (wd := "one") okd ?_)))
    · rw [hd.no, if_neg (by decide)]
      exact ⟨rfl, rfl⟩
    refine de_tup (da_cons (de_str (da_cons (de_str (da_cons (de_repr (de_var rfl ⟨okd, da_nil ⟨by simp, O1.ok (by decide), O1.ok (by decide), ?_⟩⟩)))))))
    rw [O1.refl]
    exact q
end
end Law

set_option Elab.async false
set_option linter.all false
set_option maxRecDepth 100000
set_option maxHeartbeats 4000000
namespace Law
open PySem PySem.Spec PyProof.Rows L2 G
theorem rows_rt {l : List D} (h : ∀ x ∈ l, Rv x) : l.all isRt = true := List.all_eq_true.mpr fun x hx => (h x hx).rt
theorem Bv.rows {d : D} (h : Bv d) (r : rowB d = true) : ∃ l, d = .tup l ∧ l.length ≤ 12 ∧ ∀ x ∈ l, Rv x := by
  cases h with
  | row l h1 h2 => exact ⟨l, rfl, h1, fun x hx => (h2 x hx).rv (List.all_eq_true.mp r x hx)⟩
  | no _ h =>
    obtain ⟨_, s, _⟩ := noRow_ok d h
    unfold rowB at r
    rw [s] at r
    cases r
section
variable {P : Program} {w : World} {K : PySem.W.Frag} {mg : Str → Option Value} {base : Heap} {a : Ad}
theorem dt_row {b : Bs} {ρ : List Sl} {i : Nat} {d : D} {Q : Bool → Prop} (hi : ρ[i]? = some (.sh d)) (hd : Bv d) (q : Q (!rowB d)) :
    DT K b ρ (tOr (tNot (tTest (tCallG (fun _ => spD K F_isL) [] (fun _ => E0) (tCons (tVar i) tNil)))) (tNot (tTest (tCallG (fun _ => spD K F_any) [] (fun _ => E0) (tCons (tVar i) (tCons (tCB (rLenV K) (tCons (tVar i) tNil)) tNil)))))) Q := by
  cases hd with
  | row l h1 h2 =>
    refine dt_or (dt_not (dt_test (de_call EL.no (dc_cons (de_var hi (dc_nil ⟨.tup l, rfl, ⟨_, rfl⟩, true, rfl, iteF ?_⟩))))))
    exact dt_not (dt_test (de_call EL.no (dc_cons (de_var hi (dc_cons (de_len (de_var hi ⟨_, rfl, dc_nil ⟨l, rfl, by omega, fun x hx => (h2 x hx).pr, _, rfl, q⟩⟩)))))))
  | no _ h =>
    obtain ⟨p, s, e, _⟩ := noRow_ok d h
    have er : rowB d = false := by unfold rowB; rw [s]
    rw [er] at q
    exact dt_or (dt_not (dt_test (de_call EL.no (dc_cons (de_var hi (dc_nil ⟨d, rfl, p, _, rfl, by rw [e]; exact iteT q⟩))))))
theorem ok__law_rows_right (T : Tx K mg a) (hS : Sy mg base a) : FnG P w K mg base true 8 a.f__law_rows_right a.d__law_rows_right (["pen"] : List Str) (fun _ => spT K (tbq a) F_yes) := by
  refine fn_dataT T.F__law_rows_right sc__law_rows_right (fun ss R X z => by obtain ⟨h, _⟩ := z; rw [h] <;> rfl) fun cdv A outer s H E pl hc hr => ⟨_, (pss_cons (ps_set (i := 1) sc__law_rows_right.nd rfl (Or.inl rfl) (pe_go (ok__law_draw T hS) (hr.mono (by decide)) (pl := []) (fun _ h => nomatch h) (by rfl) T.g__law_draw T.F__law_draw.kp T.b__law_draw lets0 (pa_cons (pv 0) (pa_cons pe_int pa_nil))))
      (pss_cons (ps_par (i := 2) (j := 3) rfl sc__law_rows_right.nd rfl rfl (by decide) rfl rfl (pa_cons (pe_go (ok__law_row T hS) (hr.mono (by decide)) (pl := []) (fun _ h => nomatch h) (by rfl) T.g__law_row T.F__law_row.kp T.b__law_row lets0 (pa_cons (pv 0) (pa_cons (pv 1) (pa_cons (pe_go (ok__law_size T hS) (hr.mono (by decide)) (pl := []) (fun _ h => nomatch h) (by rfl) T.g__law_size T.F__law_size.kp T.b__law_size lets0 (pa_cons (pv 0) pa_nil)) pa_nil)))) (pa_cons (pe_go (ok__law_row T hS) (hr.mono (by decide)) (pl := []) (fun _ h => nomatch h) (by rfl) T.g__law_row T.F__law_row.kp T.b__law_row lets0 (pa_cons (pv 0) (pa_cons (pv 1) (pa_cons (pe_go (ok__law_size T hS) (hr.mono (by decide)) (pl := []) (fun _ h => nomatch h) (by rfl) T.g__law_size T.F__law_size.kp T.b__law_size lets0 (pa_cons (pv 0) pa_nil)) pa_nil)))) pa_nil)) rfl)
      (pss_cons (ps_if (pt_not (pt_val (pe_go (ok__law_is T hS) (hr.mono (by decide)) (pl := []) (fun _ h => nomatch h) (by rfl) T.g__law_is T.F__law_is.kp T.b__law_is lets0 (pa_cons (pe_go (ok_dot T hS) (hr.mono (by decide)) (pl := []) (fun _ h => nomatch h) (by rfl) T.g_dot T.F_dot.kp T.b_dot lets0 (pa_cons (pe_callTy call_listV (by rfl) T.n_list PyProof.Rows.boot_list (pa_cons (pv 2) pa_nil)) (pa_cons (pv 3) pa_nil))) (pa_cons (pe_go (ok__law_dot T hS) (hr.mono (by decide)) (pl := []) (fun _ h => nomatch h) (by rfl) T.g__law_dot T.F__law_dot.kp T.b__law_dot lets0 (pa_cons (pv 2) (pa_cons (pv 3) pa_nil))) pa_nil))))) (pss_one (ps_ret pe_bl)) pss_nil)
      (pss_cons (ps_asg (pe_tup (pa_cons (pe_go (ok__law_bent_row T hS) (hr.mono (by decide)) (pl := []) (fun _ h => nomatch h) (by rfl) T.g__law_bent_row T.F__law_bent_row.kp T.b__law_bent_row lets0 (pa_cons (pv 0) (pa_cons (pv 2) pa_nil))) (pa_cons (pe_go (ok__law_bent_row T hS) (hr.mono (by decide)) (pl := []) (fun _ h => nomatch h) (by rfl) T.g__law_bent_row T.F__law_bent_row.kp T.b__law_bent_row lets0 (pa_cons (pv 0) (pa_cons (pv 3) pa_nil))) pa_nil))) (pg_tup rfl (pgs_cons (pg_name (i := 4) sc__law_rows_right.nd rfl (Or.inr rfl)) (pgs_cons (pg_name (i := 5) sc__law_rows_right.nd rfl (Or.inr rfl)) pgs_nil))))
      (pss_cons (ps_if (PW.pt (pw_or (pt_not (pt_val (pe_go (ok__law_is_list T hS) (hr.mono (by decide)) (pl := []) (fun _ h => nomatch h) (by rfl) T.g__law_is_list T.F__law_is_list.kp T.b__law_is_list lets0 (pa_cons (pv 4) pa_nil)))) (pw_or1 (pt_not (pt_val (pe_go (ok__law_is_any_row T hS) (hr.mono (by decide)) (pl := []) (fun _ h => nomatch h) (by rfl) T.g__law_is_any_row T.F__law_is_any_row.kp T.b__law_is_any_row lets0 (pa_cons (pv 4) (pa_cons (pe_callB call_lenV (by rfl) T.n_len PySem.boot_len (pa_cons (pv 4) pa_nil)) pa_nil)))))))) (pss_one (ps_ret (pe_cmpR (op_eqG hr.hu) (pe_lamG (c := a.cc__law_rows_right) (P := a.tb__law_rows_right) (k := 5) (by rfl) T.g__law_fault T.F__law_fault T.b__law_fault sc__law_fault rfl (Or.inl rfl) (fun cdg => gives__law_fault T hS cdg) (hS.tb (a.cc__law_rows_right, a.tb__law_rows_right) (by simp [tbs])) (hc.symm.trans T.cd__law_rows_right) (hr.mono (by decide)) (LamX.lamS_by (sc := defScope s__law_rows_right) (by decide +kernel)) rfl (fun _ _ _ _ _ => rfl) (fun A outer s H E f c hL => (pe_go (ok_dot T hS) (hL.mono (by decide)) (pl := []) (fun _ h => nomatch h) (by rfl) T.g_dot T.F_dot.kp T.b_dot (passAt (takes_of rfl rfl rfl rfl)) (pa_cons (pv 4) (pa_cons (pv 5) pa_nil))))) (pe_tup (pa_cons pe_str (pa_cons pe_str (pa_cons (pe_callB (call_repr hS.sys (hr.gd) hr.hu) (by rfl) T.n_repr PyProof.Rows.boot_repr (pa_cons (pv 4) pa_nil)) pa_nil)))) (nomark _)))) pss_nil)
      (pss_cons (ps_if (PW.pt (pw_or (pt_not (pt_val (pe_go (ok__law_is_list T hS) (hr.mono (by decide)) (pl := []) (fun _ h => nomatch h) (by rfl) T.g__law_is_list T.F__law_is_list.kp T.b__law_is_list lets0 (pa_cons (pv 5) pa_nil)))) (pw_or1 (pt_not (pt_val (pe_go (ok__law_is_any_row T hS) (hr.mono (by decide)) (pl := []) (fun _ h => nomatch h) (by rfl) T.g__law_is_any_row T.F__law_is_any_row.kp T.b__law_is_any_row lets0 (pa_cons (pv 5) (pa_cons (pe_callB call_lenV (by rfl) T.n_len PySem.boot_len (pa_cons (pv 5) pa_nil)) pa_nil)))))))) (pss_one (ps_ret (pe_cmpR (op_eqG hr.hu) (pe_lamG (c := a.cc__law_rows_right) (P := a.tb__law_rows_right) (k := 5) (by rfl) T.g__law_fault T.F__law_fault T.b__law_fault sc__law_fault rfl (Or.inl rfl) (fun cdg => gives__law_fault T hS cdg) (hS.tb (a.cc__law_rows_right, a.tb__law_rows_right) (by simp [tbs])) (hc.symm.trans T.cd__law_rows_right) (hr.mono (by decide)) (LamX.lamS_by (sc := defScope s__law_rows_right) (by decide +kernel)) rfl (fun _ _ _ _ _ => rfl) (fun A outer s H E f c hL => (pe_go (ok_dot T hS) (hL.mono (by decide)) (pl := []) (fun _ h => nomatch h) (by rfl) T.g_dot T.F_dot.kp T.b_dot (passAt (takes_of rfl rfl rfl rfl)) (pa_cons (pv 4) (pa_cons (pv 5) pa_nil))))) (pe_tup (pa_cons pe_str (pa_cons pe_str (pa_cons (pe_callB (call_repr hS.sys (hr.gd) hr.hu) (by rfl) T.n_repr PyProof.Rows.boot_repr (pa_cons (pv 5) pa_nil)) pa_nil)))) (nomark _)))) pss_nil)
      (pss_one (ps_ret (pe_cmpR (op_eqG hr.hu) (pe_lamG (c := a.cc__law_rows_right) (P := a.tb__law_rows_right) (k := 5) (by rfl) T.g__law_fault T.F__law_fault T.b__law_fault sc__law_fault rfl (Or.inl rfl) (fun cdg => gives__law_fault T hS cdg) (hS.tb (a.cc__law_rows_right, a.tb__law_rows_right) (by simp [tbs])) (hc.symm.trans T.cd__law_rows_right) (hr.mono (by decide)) (LamX.lamS_by (sc := defScope s__law_rows_right) (by decide +kernel)) rfl (fun _ _ _ _ _ => rfl) (fun A outer s H E f c hL => (pe_go (ok_dot T hS) (hL.mono (by decide)) (pl := []) (fun _ h => nomatch h) (by rfl) T.g_dot T.F_dot.kp T.b_dot (passAt (takes_of rfl rfl rfl rfl)) (pa_cons (pv 4) (pa_cons (pv 5) pa_nil))))) (pe_ifExp (pt_cmpR (op_neG hr.hu) (pe_callB call_lenV (by rfl) T.n_len PySem.boot_len (pa_cons (pv 4) pa_nil)) (pe_callB call_lenV (by rfl) T.n_len PySem.boot_len (pa_cons (pv 5) pa_nil)) (nomark _)) (pe_tup (pa_cons pe_str (pa_cons pe_str pa_nil))) pe_non) (nomark _)))))))))), fun b ss R X hbT h hX => ?_⟩
  obtain ⟨rfl, q⟩ := h
  have hm : (a.tb__law_rows_right, ("_law_rows_right" : Str) ++ ".<locals>." ++ "<lambda>") ∈ tbq a := by simp [tbq]
  have hT : (a.tb__law_rows_right, ("_law_rows_right" : Str) ++ ".<locals>." ++ "<lambda>") ∈ b.T := by rw [hbT]; exact hm
  have hu : ∀ p ∈ b.T, p.1 = a.tb__law_rows_right → p.2 = ("_law_rows_right" : Str) ++ ".<locals>." ++ "<lambda>" := fun p hp e => hS.tq _ _ (by rw [← hbT]; exact hp) hm e
  have sR : PyData.strOk "row" = true := by decide +kernel
  refine ds_seq (ds_asg (de_call EL.no (dc_pen rfl (dc_cons (de_int (dc_nil ⟨5, rfl, by decide, draw_ok (by decide) (by decide), fun m0 m1 m2 => ?_⟩))))))
  obtain ⟨m, rfl⟩ := Int.eq_ofNat_of_zero_le m1
  refine ds_seq (ds_par (da_cons (de_call EL.no (dc_pen rfl (dc_cons (de_var rfl (dc_cons (de_call EL.no (dc_pen rfl (dc_nil ⟨rfl, fun s s0 s1 => dc_nil ⟨m, s, rfl, by omega, fun lx l1 r1 => ?_⟩⟩))))))))))
  refine da_cons (de_call EL.no (dc_pen rfl (dc_cons (de_var rfl (dc_cons (de_call EL.no (dc_pen rfl (dc_nil ⟨rfl, fun s' s0' s1' => dc_nil ⟨m, s', rfl, by omega, fun ly l2 r2 => da_nil ⟨_, _, rfl, ?_⟩⟩⟩))))))))
  obtain ⟨qs, hQ, hlq⟩ := rows_of (l1.trans l2.symm) r1 r2
  have px : PrS (.lst lx) := ⟨⟨_, rfl⟩, fun l e => by cases e; exact ⟨by omega, fun x hx => (r1 x hx).pr⟩⟩
  have py : PrS (.tup ly) := ⟨⟨_, rfl⟩, fun l e => by cases e; exact ⟨by omega, fun x hx => (r2 x hx).pr⟩⟩
  refine ds_seq (ds_if (dt_not (dt_test (de_call EL.no (dc_cons (de_call EL.no (dc_cons (de_new (dn_list (de_var rfl ⟨lx, rfl, dc_cons (de_var rfl (dc_nil ⟨.lst lx, .tup ly, rfl, px, py, ?_⟩))⟩))))))))))
  rw [if_pos (show rowB (.lst lx) = true from rows_rt r1), if_pos (show rowB (.tup ly) = true from rows_rt r2)]
  refine ⟨lx, ly, rfl, rfl, ?_⟩
  rw [if_pos (l1.trans l2.symm)]
  refine ⟨qs, hQ, by omega, dc_cons (de_call EL.no (dc_cons (de_var rfl (dc_cons (de_var rfl (dc_nil ⟨lx, ly, qs, rfl, hQ, by omega, dc_nil ⟨_, rfl, lowZ_shape _ _, true, rfl, iteF (ds_next ?_)⟩⟩))))))⟩
  refine ds_seq (ds_asgG (de_tup (da_cons (de_call EL.no (dc_pen rfl (dc_cons (de_var rfl (dc_nil ⟨lx, rfl, by omega, r1, fun bt hbt => ?_⟩))))))))
  refine da_cons (de_call EL.no (dc_pen rfl (dc_cons (de_var rfl (dc_nil ⟨ly, rfl, by omega, r2, fun od hod => da_nil ⟨by simp, dg_tup rfl rfl (dgs_cons (dg_name (dgs_cons (dg_name (dgs_nil ?_)))))⟩⟩)))))
  have okb := hbt.tm.ok (by decide) (by decide)
  have oko := hod.tm.ok (by decide) (by decide)
  have O1 := wOd hbt.tm.so "row" "row" sR sR
  have O2 := wOd hod.tm.so "row" "other" sR (by decide +kernel)
  cases hb : rowB bt with
  | false =>
    refine ds_seq (ds_if (dt_row rfl hbt ?_))
    rw [hb]
    refine iteT (ds_ret (de_eqA (de_lam hT hu (fun b1 E eM eT hE => de_call hE (dc_cons (de_var rfl (dc_cons (de_var rfl (dc_nil ⟨bt, od, rfl, hbt.prs, hod.prs, ?_⟩)))))) (FoR (wd := "row") okb ?_))))
    · rw [hb, if_neg (by decide)]
      exact ⟨rfl, rfl⟩
    refine de_tup (da_cons (de_str (da_cons (de_str (da_cons (de_repr (de_var rfl ⟨okb, da_nil ⟨by simp, O1.ok (by decide), O1.ok (by decide), ?_⟩⟩)))))))
    rw [O1.refl]
    exact q
  | true =>
  refine ds_seq (ds_if (dt_row rfl hbt ?_))
  rw [hb]
  refine iteF (ds_next ?_)
  cases ho : rowB od with
  | false =>
    refine ds_seq (ds_if (dt_row rfl hod ?_))
    rw [ho]
    refine iteT (ds_ret (de_eqA (de_lam hT hu (fun b1 E eM eT hE => de_call hE (dc_cons (de_var rfl (dc_cons (de_var rfl (dc_nil ⟨bt, od, rfl, hbt.prs, hod.prs, ?_⟩)))))) (FoR (wd := "other") oko ?_))))
    · rw [hb, if_pos rfl, ho, if_neg (by decide)]
      exact ⟨rfl, rfl⟩
    refine de_tup (da_cons (de_str (da_cons (de_str (da_cons (de_repr (de_var rfl ⟨oko, da_nil ⟨by simp, O2.ok (by decide), O2.ok (by decide), ?_⟩⟩)))))))
    rw [O2.refl]
    exact q
  | true =>
  refine ds_seq (ds_if (dt_row rfl hod ?_))
  rw [ho]
  refine iteF (ds_next ?_)
  have pb := hbt.prs
  have po := hod.prs
  obtain ⟨lb, rfl, lb1, lb2⟩ := hbt.rows hb
  obtain ⟨lo, rfl, lo1, lo2⟩ := hod.rows ho
  have ON : okD .non = true := (Od.dec (n := 1) (by decide +kernel) (by decide +kernel) (by decide +kernel) (by decide +kernel)).ok (by decide)
  by_cases hn : lb.length = lo.length
  · obtain ⟨qs2, hQ2, hlq2⟩ := rows_of hn lb2 lo2
    refine ds_ret (de_eqA (de_lam hT hu (fun b1 E eM eT hE => de_call hE (dc_cons (de_var rfl (dc_cons (de_var rfl (dc_nil ⟨_, _, rfl, pb, po, ?_⟩)))))) (FoN ?_)))
    · rw [hb, if_pos rfl, ho, if_pos rfl]
      refine ⟨lb, lo, rfl, rfl, ?_⟩
      rw [if_pos hn]
      exact ⟨qs2, hQ2, by omega, trivial⟩
    refine de_ite (dt_test (de_neI (de_len (de_var rfl ⟨_, rfl, de_len (de_var rfl ⟨_, rfl, _, _, rfl, rfl, false, by simp; omega, iteF (de_non ⟨ON, ON, ?_⟩)⟩)⟩))))
    exact q
  · have OU : Od 3 (.tup [.str "unlike", .str "other"]) := Od.dec (by decide +kernel) (by decide +kernel) (by decide +kernel) (by decide +kernel)
    refine ds_ret (de_eqA (de_lam hT hu (fun b1 E eM eT hE => de_call hE (dc_cons (de_var rfl (dc_cons (de_var rfl (dc_nil ⟨_, _, rfl, pb, po, ?_⟩)))))) (FoU ?_)))
    · rw [hb, if_pos rfl, ho, if_pos rfl]
      refine ⟨lb, lo, rfl, rfl, ?_⟩
      rw [if_neg hn]
      exact ⟨rfl, rfl⟩
    refine de_ite (dt_test (de_neI (de_len (de_var rfl ⟨_, rfl, de_len (de_var rfl ⟨_, rfl, _, _, rfl, rfl, true, by simp; omega, iteT ?_⟩)⟩))))
    refine de_tup (da_cons (de_str (da_cons (de_str (da_nil ⟨by simp, OU.ok (by decide), OU.ok (by decide), ?_⟩)))))
    rw [OU.refl]
    exact q
end
end Law

set_option Elab.async false
set_option linter.all false
set_option maxRecDepth 100000
set_option maxHeartbeats 4000000
namespace Law
open PySem PySem.Spec PyProof.Rows L2 G
section
variable {P : Program} {w : World} {K : PySem.W.Frag} {mg : Str → Option Value} {base : Heap} {a : Ad}
theorem ok_law (T : Tx K mg a) (hS : Sy mg base a) : FnG P w K mg base true 12 a.f_law a.d_law (["script"] : List Str) (fun _ => spLawT K (tbs a)) := by
  refine fn_goC T.F_law sc_law (fun pl vs H Q E h => by obtain ⟨_, _, rfl, _⟩ := h; rfl) (fun cdv A outer s H vs Q E pl hc hr h => ?_)
  obtain ⟨sa, ns, rfl, hs, hl, hb, ht, q⟩ := h
  refine ⟨_, (pss_cons (ps_set (i := 1) sc_law.nd rfl (Or.inl rfl) (pe_go (ok__law_pen T hS) (hr.mono (by decide)) (pl := []) (fun _ h => nomatch h) (by rfl) T.g__law_pen T.F__law_pen.kp T.b__law_pen lets0 (pa_cons (pv 0) pa_nil)))
      (pss_cons (ps_for (passes_of rfl) rfl (pi_range1 rfl T.n_range (pa_cons pe_int pa_nil)) (pg_name (i := 2) sc_law.nd rfl (Or.inl rfl)) (pss_cons (ps_par (i := 3) (j := 4) rfl sc_law.nd rfl rfl (by decide) rfl rfl (pa_cons (pe_go (ok__law_number T hS) (hr.mono (by decide)) (pl := []) (fun _ h => nomatch h) (by rfl) T.g__law_number T.F__law_number.kp T.b__law_number lets0 (pa_cons (pv 1) (pa_cons (pe_go (ok__law_size T hS) (hr.mono (by decide)) (pl := []) (fun _ h => nomatch h) (by rfl) T.g__law_size T.F__law_size.kp T.b__law_size lets0 (pa_cons (pv 1) pa_nil)) pa_nil))) (pa_cons (pe_go (ok__law_number T hS) (hr.mono (by decide)) (pl := []) (fun _ h => nomatch h) (by rfl) T.g__law_number T.F__law_number.kp T.b__law_number lets0 (pa_cons (pv 1) (pa_cons (pe_go (ok__law_size T hS) (hr.mono (by decide)) (pl := []) (fun _ h => nomatch h) (by rfl) T.g__law_size T.F__law_size.kp T.b__law_size lets0 (pa_cons (pv 1) pa_nil)) pa_nil))) pa_nil)) rfl)
      (pss_cons (ps_if (PW.pt (pw_or (pt_not (pt_val (pe_go (ok__law_made_right T hS) (hr.mono (by decide)) (pl := []) (fun _ h => nomatch h) (by rfl) T.g__law_made_right T.F__law_made_right.kp T.b__law_made_right lets0 (pa_cons (pv 1) pa_nil)))) (pw_or1 (pt_not (pt_val (pe_go (ok__law_reckoned_right T hS) (hr.mono (by decide)) (pl := []) (fun _ h => nomatch h) (by rfl) T.g__law_reckoned_right T.F__law_reckoned_right.kp T.b__law_reckoned_right lets0 (pa_cons (pv 3) (pa_cons (pe_go (ok__law_pick T hS) (hr.mono (by decide)) (pl := []) (fun _ h => nomatch h) (by rfl) T.g__law_pick T.F__law_pick.kp T.b__law_pick lets0 (pa_cons (pv 1) (pa_cons (pe_lst (pa_cons (pv 4) (pa_cons pe_int (pa_cons (pv 3) pa_nil)))) pa_nil))) pa_nil)))))))) (pss_one (ps_ret pe_bl)) pss_nil)
      (pss_one (ps_if (PW.pt (pw_or (pt_not (pt_val (pe_go (ok__law_refused_right T hS) (hr.mono (by decide)) (pl := []) (fun _ h => nomatch h) (by rfl) T.g__law_refused_right T.F__law_refused_right.kp T.b__law_refused_right lets0 (pa_cons (pv 3) (pa_cons (pe_go (ok__law_odd T hS) (hr.mono (by decide)) (pl := []) (fun _ h => nomatch h) (by rfl) T.g__law_odd T.F__law_odd.kp T.b__law_odd lets0 (pa_cons (pv 1) pa_nil)) pa_nil))))) (pw_or1 (pt_not (pt_val (pe_go (ok__law_rows_right T hS) (hr.mono (by decide)) (pl := []) (fun _ h => nomatch h) (by rfl) T.g__law_rows_right T.F__law_rows_right.kp T.b__law_rows_right lets0 (pa_cons (pv 1) pa_nil))))))) (pss_one (ps_ret pe_bl)) pss_nil)))))
      (pss_one (ps_ret pe_bl)))), ?_⟩
  have ht2 : ∀ p ∈ tbq a, H p.1 = some (.tbl #[]) := fun p hp => by
    simp only [tbq, List.mem_cons, List.not_mem_nil, or_false] at hp
    rcases hp with rfl | rfl | rfl | rfl
    · exact ht (a.cc__law_made_right, a.tb__law_made_right) (by simp [tbs])
    · exact ht (a.cc__law_reckoned_right, a.tb__law_reckoned_right) (by simp [tbs])
    · exact ht (a.cc__law_refused_right, a.tb__law_refused_right) (by simp [tbs])
    · exact ht (a.cc__law_rows_right, a.tb__law_rows_right) (by simp [tbs])
  refine law_startT (n := 3) (T := tbq a) rfl hs hl hb ht2 (fun b hbT => ?_) q
  refine ds_seq (ds_forR1 (da_cons (de_int (da_nil ⟨4, rfl, by decide, by decide, fun i ρ => ∃ s2 s3 s4, ρ = [.no, .pen, s2, s3, s4], ⟨.no, .no, .no, rfl⟩, fun i ρ hi h => ?_, fun ρ h => ?_⟩))))
  · obtain ⟨s2, s3, s4, rfl⟩ := h
    refine dg_name (ds_seq (ds_par (da_cons (de_call EL.no (dc_pen rfl (dc_cons (de_call EL.no (dc_pen rfl (dc_nil ⟨rfl, fun s s0 s1 => dc_nil ⟨s, rfl, fun x t v hx x1 x2 => ?_⟩⟩)))))))))
    refine da_cons (de_call EL.no (dc_pen rfl (dc_cons (de_call EL.no (dc_pen rfl (dc_nil ⟨rfl, fun s' s0' s1' => dc_nil ⟨s', rfl, fun y u l hy y1 y2 => da_nil ⟨_, _, rfl, ?_⟩⟩⟩))))))
    have rx : Rv x := ⟨t, v, hx, x1, x2⟩
    have ry : Rv y := ⟨u, l, hy, y1, y2⟩
    refine ds_seq (ds_if (dt_or (dt_not (dt_test (de_callT hbT EL.no (dc_pen rfl (dc_nil ⟨rfl, true, rfl, iteF ?_⟩)))))))
    refine dt_not (dt_test (de_callT hbT EL.no (dc_cons (de_var rfl (dc_cons (de_call EL.no (dc_pen rfl (dc_cons (de_lst (da_cons (de_var rfl (da_cons (de_int (da_cons (de_var rfl (da_nil ⟨by simp, dc_nil ⟨_, _, rfl, rfl, (fun z => nomatch z), by simp, fun d hd => ?_⟩⟩))))))))))))))))
    have rd : Rv d := by
      simp only [List.mem_cons, List.not_mem_nil, or_false] at hd
      rcases hd with rfl | rfl | rfl
      · exact ry
      · exact ⟨0, 1, .int 0, by unfold Lg; decide, by unfold Lg; decide +kernel⟩
      · exact rx
    obtain ⟨u', l', hd', d1, d2⟩ := rd
    have two : Two x d t v u' l' := ⟨hx, hd', x1.mono (by decide), x2.mono (by decide), d1.mono (by decide), d2.mono (by decide)⟩
    refine dc_nil ⟨x, d, t, v, u', l', rfl, two, true, rfl, iteF (ds_next ?_)⟩
    refine ds_if (dt_or (dt_not (dt_test (de_callT hbT EL.no (dc_cons (de_var rfl (dc_cons (de_call EL.no (dc_pen rfl (dc_nil ⟨rfl, fun o ho => dc_nil ⟨x, o, rfl, rx, ho, true, rfl, iteF ?_⟩⟩))))))))))
    exact dt_not (dt_test (de_callT hbT EL.no (dc_pen rfl (dc_nil ⟨rfl, true, rfl, iteF (ds_next ⟨_, _, _, rfl⟩)⟩))))
  · obtain ⟨s2, s3, s4, rfl⟩ := h
    exact ds_ret (de_bl rfl)
end
end Law

set_option Elab.async false
set_option linter.all false
set_option maxRecDepth 100000
set_option maxHeartbeats 4000000
namespace Law
open PySem PySem.Spec PyProof.Rows L2 G
theorem all_mk {K : PySem.W.Frag} {h : Heap} {mg : Str → Option Value} {fa : Addr} (X : K.In h) (G : h.Ns mainGlobals mg) (hfa : mg "law" = some (.ref fa))
    {f0 : Addr} {od0 an0 : Option Addr} {sl0 : Array (Option Value)} {oc0 kV0 dc0 pm0 ct0 : Value}
    {cd0 : Value}
    {f1 : Addr} {od1 an1 : Option Addr} {sl1 : Array (Option Value)} {oc1 kV1 dc1 pm1 ct1 : Value}
    {cd1 : Value}
    {f2 : Addr} {od2 an2 : Option Addr} {sl2 : Array (Option Value)} {oc2 kV2 dc2 pm2 ct2 : Value}
    {cd2 : Value}
    {f3 : Addr} {od3 an3 : Option Addr} {sl3 : Array (Option Value)} {oc3 kV3 dc3 pm3 ct3 : Value}
    {cd3 : Value}
    {f4 : Addr} {od4 an4 : Option Addr} {sl4 : Array (Option Value)} {oc4 kV4 dc4 pm4 ct4 : Value}
    {cd4 : Value}
    {f5 : Addr} {od5 an5 : Option Addr} {sl5 : Array (Option Value)} {oc5 kV5 dc5 pm5 ct5 : Value}
    {cd5 : Value}
    {f6 : Addr} {od6 an6 : Option Addr} {sl6 : Array (Option Value)} {oc6 kV6 dc6 pm6 ct6 : Value}
    {cd6 : Value}
    {f7 : Addr} {od7 an7 : Option Addr} {sl7 : Array (Option Value)} {oc7 kV7 dc7 pm7 ct7 : Value}
    {cd7 : Value}
    {f8 : Addr} {od8 an8 : Option Addr} {sl8 : Array (Option Value)} {oc8 kV8 dc8 pm8 ct8 : Value}
    {cd8 : Value}
    {f9 : Addr} {od9 an9 : Option Addr} {sl9 : Array (Option Value)} {oc9 kV9 dc9 pm9 ct9 : Value}
    {cd9 : Value}
    {f10 : Addr} {od10 an10 : Option Addr} {sl10 : Array (Option Value)} {oc10 kV10 dc10 pm10 ct10 : Value}
    {cd10 : Value}
    {f11 : Addr} {od11 an11 : Option Addr} {sl11 : Array (Option Value)} {oc11 kV11 dc11 pm11 ct11 : Value}
    {cd11 : Value}
    {f12 : Addr} {od12 an12 : Option Addr} {sl12 : Array (Option Value)} {oc12 kV12 dc12 pm12 ct12 : Value}
    {cd12 : Value}
    {f13 : Addr} {od13 an13 : Option Addr} {sl13 : Array (Option Value)} {oc13 kV13 dc13 pm13 ct13 : Value}
    {cd13 : Value}
    {f14 : Addr} {od14 an14 : Option Addr} {sl14 : Array (Option Value)} {oc14 kV14 dc14 pm14 ct14 : Value}
    {cd14 : Value}
    {f15 : Addr} {od15 an15 : Option Addr} {sl15 : Array (Option Value)} {oc15 kV15 dc15 pm15 ct15 : Value}
    {cd15 : Value}
    {f16 : Addr} {od16 an16 : Option Addr} {sl16 : Array (Option Value)} {oc16 kV16 dc16 pm16 ct16 : Value}
    {cd16 : Value}
    {f17 : Addr} {od17 an17 : Option Addr} {sl17 : Array (Option Value)} {oc17 kV17 dc17 pm17 ct17 : Value}
    {cd17 : Value}
    {f18 : Addr} {od18 an18 : Option Addr} {sl18 : Array (Option Value)} {oc18 kV18 dc18 pm18 ct18 : Value}
    {cd18 : Value}
    {f19 : Addr} {od19 an19 : Option Addr} {sl19 : Array (Option Value)} {oc19 kV19 dc19 pm19 ct19 : Value}
    {cd19 : Value}
    {f20 : Addr} {od20 an20 : Option Addr} {sl20 : Array (Option Value)} {oc20 kV20 dc20 pm20 ct20 : Value}
    {cd20 : Value}
    {f21 : Addr} {od21 an21 : Option Addr} {sl21 : Array (Option Value)} {oc21 kV21 dc21 pm21 ct21 : Value}
    {cd21 : Value}
    {f22 : Addr} {od22 an22 : Option Addr} {sl22 : Array (Option Value)} {oc22 kV22 dc22 pm22 ct22 : Value}
    {cd22 : Value}
    {f23 : Addr} {od23 an23 : Option Addr} {sl23 : Array (Option Value)} {oc23 kV23 dc23 pm23 ct23 : Value}
    {cd23 : Value}
    {f24 : Addr} {od24 an24 : Option Addr} {sl24 : Array (Option Value)} {oc24 kV24 dc24 pm24 ct24 : Value}
    {cd24 : Value}
    {f25 : Addr} {od25 an25 : Option Addr} {sl25 : Array (Option Value)} {oc25 kV25 dc25 pm25 ct25 : Value}
    {cd25 : Value}
    {f26 : Addr} {od26 an26 : Option Addr} {sl26 : Array (Option Value)} {oc26 kV26 dc26 pm26 ct26 : Value}
    {cd26 : Value}
    {f27 : Addr} {od27 an27 : Option Addr} {sl27 : Array (Option Value)} {oc27 kV27 dc27 pm27 ct27 : Value}
    {cd27 : Value}
    {f28 : Addr} {od28 an28 : Option Addr} {sl28 : Array (Option Value)} {oc28 kV28 dc28 pm28 ct28 : Value}
    {cd28 : Value}
    {f29 : Addr} {od29 an29 : Option Addr} {sl29 : Array (Option Value)} {oc29 kV29 dc29 pm29 ct29 : Value}
    {cd29 : Value}
    {f30 : Addr} {od30 an30 : Option Addr} {sl30 : Array (Option Value)} {oc30 kV30 dc30 pm30 ct30 : Value}
    {cd30 : Value}
    {f31 : Addr} {od31 an31 : Option Addr} {sl31 : Array (Option Value)} {oc31 kV31 dc31 pm31 ct31 : Value}
    {cd31 : Value}
    {f32 : Addr} {od32 an32 : Option Addr} {sl32 : Array (Option Value)} {oc32 kV32 dc32 pm32 ct32 : Value}
    {cd32 : Value}
    {f33 : Addr} {od33 an33 : Option Addr} {sl33 : Array (Option Value)} {oc33 kV33 dc33 pm33 ct33 : Value}
    {cd33 : Value}
    {f34 : Addr} {od34 an34 : Option Addr} {sl34 : Array (Option Value)} {oc34 kV34 dc34 pm34 ct34 : Value}
    {cd34 : Value}
    {f35 : Addr} {od35 an35 : Option Addr} {sl35 : Array (Option Value)} {oc35 kV35 dc35 pm35 ct35 : Value}
    {cd35 : Value}
    {f36 : Addr} {od36 an36 : Option Addr} {sl36 : Array (Option Value)} {oc36 kV36 dc36 pm36 ct36 : Value}
    {cd36 : Value}
    {f37 : Addr} {od37 an37 : Option Addr} {sl37 : Array (Option Value)} {oc37 kV37 dc37 pm37 ct37 : Value}
    {cd37 : Value}
    {f38 : Addr} {od38 an38 : Option Addr} {sl38 : Array (Option Value)} {oc38 kV38 dc38 pm38 ct38 : Value}
    {cd38 : Value}
    {f39 : Addr} {od39 an39 : Option Addr} {sl39 : Array (Option Value)} {oc39 kV39 dc39 pm39 ct39 : Value}
    {cd39 : Value}
    {f40 : Addr} {od40 an40 : Option Addr} {sl40 : Array (Option Value)} {oc40 kV40 dc40 pm40 ct40 : Value}
    {cd40 : Value}
    {f41 : Addr} {od41 an41 : Option Addr} {sl41 : Array (Option Value)} {oc41 kV41 dc41 pm41 ct41 : Value}
    {cd41 : Value}
    {f42 : Addr} {od42 an42 : Option Addr} {sl42 : Array (Option Value)} {oc42 kV42 dc42 pm42 ct42 : Value}
    {cd42 : Value}
    {f43 : Addr} {od43 an43 : Option Addr} {sl43 : Array (Option Value)} {oc43 kV43 dc43 pm43 ct43 : Value}
    {cd43 : Value}
    {f44 : Addr} {od44 an44 : Option Addr} {sl44 : Array (Option Value)} {oc44 kV44 dc44 pm44 ct44 : Value}
    {cd44 : Value}
    {f45 : Addr} {od45 an45 : Option Addr} {sl45 : Array (Option Value)} {oc45 kV45 dc45 pm45 ct45 : Value}
    {cd45 : Value}
    {f46 : Addr} {od46 an46 : Option Addr} {sl46 : Array (Option Value)} {oc46 kV46 dc46 pm46 ct46 : Value}
    {cd46 : Value}
    {f47 : Addr} {od47 an47 : Option Addr} {sl47 : Array (Option Value)} {oc47 kV47 dc47 pm47 ct47 : Value}
    {cd47 : Value}
    {f48 : Addr} {od48 an48 : Option Addr} {sl48 : Array (Option Value)} {oc48 kV48 dc48 pm48 ct48 : Value}
    {cd48 : Value}
    {f49 : Addr} {od49 an49 : Option Addr} {sl49 : Array (Option Value)} {oc49 kV49 dc49 pm49 ct49 : Value}
    {cc49 tb49 : Addr} {ec49 : Value} {ed49 : Option Addr} {ev49 : Array Value} {es49 : Array (Option Value)}
    {f50 : Addr} {od50 an50 : Option Addr} {sl50 : Array (Option Value)} {oc50 kV50 dc50 pm50 ct50 : Value}
    {cc50 tb50 : Addr} {ec50 : Value} {ed50 : Option Addr} {ev50 : Array Value} {es50 : Array (Option Value)}
    {f51 : Addr} {od51 an51 : Option Addr} {sl51 : Array (Option Value)} {oc51 kV51 dc51 pm51 ct51 : Value}
    {cc51 tb51 : Addr} {ec51 : Value} {ed51 : Option Addr} {ev51 : Array Value} {es51 : Array (Option Value)}
    {f52 : Addr} {od52 an52 : Option Addr} {sl52 : Array (Option Value)} {oc52 kV52 dc52 pm52 ct52 : Value}
    {cc52 tb52 : Addr} {ec52 : Value} {ed52 : Option Addr} {ev52 : Array Value} {es52 : Array (Option Value)}
    {f53 : Addr} {od53 an53 : Option Addr} {sl53 : Array (Option Value)} {oc53 kV53 dc53 pm53 ct53 : Value}
    {cd53 : Value}
    {C_GenusError N_GenusError : Addr} {nm_GenusError q_GenusError : Str} {bs_GenusError sub_GenusError : List Value} {sn_GenusError : List Str} {ab_GenusError : Bool} {col_GenusError : Option Bool} {dd_GenusError : Option Addr} {m0_GenusError m1_GenusError m2_GenusError m3_GenusError m5_GenusError : Option Value}
    {C_BadNumber N_BadNumber : Addr} {nm_BadNumber q_BadNumber : Str} {bs_BadNumber sub_BadNumber : List Value} {sn_BadNumber : List Str} {ab_BadNumber : Bool} {col_BadNumber : Option Bool} {dd_BadNumber : Option Addr} {m0_BadNumber m1_BadNumber m2_BadNumber m3_BadNumber m5_BadNumber : Option Value}
    {I_BadNumber : Addr} {iod_BadNumber ian_BadNumber : Option Addr} {isl_BadNumber : Array (Option Value)} {ioc_BadNumber ikV_BadNumber idc_BadNumber ipm_BadNumber icd_BadNumber ict_BadNumber : Value}
    {C_BadRow N_BadRow : Addr} {nm_BadRow q_BadRow : Str} {bs_BadRow sub_BadRow : List Value} {sn_BadRow : List Str} {ab_BadRow : Bool} {col_BadRow : Option Bool} {dd_BadRow : Option Addr} {m0_BadRow m1_BadRow m2_BadRow m3_BadRow m5_BadRow : Option Value}
    {I_BadRow : Addr} {iod_BadRow ian_BadRow : Option Addr} {isl_BadRow : Array (Option Value)} {ioc_BadRow ikV_BadRow idc_BadRow ipm_BadRow icd_BadRow ict_BadRow : Value}
    {C_BadTable N_BadTable : Addr} {nm_BadTable q_BadTable : Str} {bs_BadTable sub_BadTable : List Value} {sn_BadTable : List Str} {ab_BadTable : Bool} {col_BadTable : Option Bool} {dd_BadTable : Option Addr} {m0_BadTable m1_BadTable m2_BadTable m3_BadTable m5_BadTable : Option Value}
    {I_BadTable : Addr} {iod_BadTable ian_BadTable : Option Addr} {isl_BadTable : Array (Option Value)} {ioc_BadTable ikV_BadTable idc_BadTable ipm_BadTable icd_BadTable ict_BadTable : Value}
    {C_BadForm N_BadForm : Addr} {nm_BadForm q_BadForm : Str} {bs_BadForm sub_BadForm : List Value} {sn_BadForm : List Str} {ab_BadForm : Bool} {col_BadForm : Option Bool} {dd_BadForm : Option Addr} {m0_BadForm m1_BadForm m2_BadForm m3_BadForm m5_BadForm : Option Value}
    {I_BadForm : Addr} {iod_BadForm ian_BadForm : Option Addr} {isl_BadForm : Array (Option Value)} {ioc_BadForm ikV_BadForm idc_BadForm ipm_BadForm icd_BadForm ict_BadForm : Value}
    {C_BadBook N_BadBook : Addr} {nm_BadBook q_BadBook : Str} {bs_BadBook sub_BadBook : List Value} {sn_BadBook : List Str} {ab_BadBook : Bool} {col_BadBook : Option Bool} {dd_BadBook : Option Addr} {m0_BadBook m1_BadBook m2_BadBook m3_BadBook m5_BadBook : Option Value}
    {I_BadBook : Addr} {iod_BadBook ian_BadBook : Option Addr} {isl_BadBook : Array (Option Value)} {ioc_BadBook ikV_BadBook idc_BadBook ipm_BadBook icd_BadBook ict_BadBook : Value}
    {C_BadName N_BadName : Addr} {nm_BadName q_BadName : Str} {bs_BadName sub_BadName : List Value} {sn_BadName : List Str} {ab_BadName : Bool} {col_BadName : Option Bool} {dd_BadName : Option Addr} {m0_BadName m1_BadName m2_BadName m3_BadName m5_BadName : Option Value}
    {I_BadName : Addr} {iod_BadName ian_BadName : Option Addr} {isl_BadName : Array (Option Value)} {ioc_BadName ikV_BadName idc_BadName ipm_BadName icd_BadName ict_BadName : Value}
    {C_BadText N_BadText : Addr} {nm_BadText q_BadText : Str} {bs_BadText sub_BadText : List Value} {sn_BadText : List Str} {ab_BadText : Bool} {col_BadText : Option Bool} {dd_BadText : Option Addr} {m0_BadText m1_BadText m2_BadText m3_BadText m5_BadText : Option Value}
    {I_BadText : Addr} {iod_BadText ian_BadText : Option Addr} {isl_BadText : Array (Option Value)} {ioc_BadText ikV_BadText idc_BadText ipm_BadText icd_BadText ict_BadText : Value}
    {C_NoPlace N_NoPlace : Addr} {nm_NoPlace q_NoPlace : Str} {bs_NoPlace sub_NoPlace : List Value} {sn_NoPlace : List Str} {ab_NoPlace : Bool} {col_NoPlace : Option Bool} {dd_NoPlace : Option Addr} {m0_NoPlace m1_NoPlace m2_NoPlace m3_NoPlace m5_NoPlace : Option Value}
    {I_NoPlace : Addr} {iod_NoPlace ian_NoPlace : Option Addr} {isl_NoPlace : Array (Option Value)} {ioc_NoPlace ikV_NoPlace idc_NoPlace ipm_NoPlace icd_NoPlace ict_NoPlace : Value}
    {C_NoName N_NoName : Addr} {nm_NoName q_NoName : Str} {bs_NoName sub_NoName : List Value} {sn_NoName : List Str} {ab_NoName : Bool} {col_NoName : Option Bool} {dd_NoName : Option Addr} {m0_NoName m1_NoName m2_NoName m3_NoName m5_NoName : Option Value}
    {I_NoName : Addr} {iod_NoName ian_NoName : Option Addr} {isl_NoName : Array (Option Value)} {ioc_NoName ikV_NoName idc_NoName ipm_NoName icd_NoName ict_NoName : Value}
    {C_TakenName N_TakenName : Addr} {nm_TakenName q_TakenName : Str} {bs_TakenName sub_TakenName : List Value} {sn_TakenName : List Str} {ab_TakenName : Bool} {col_TakenName : Option Bool} {dd_TakenName : Option Addr} {m0_TakenName m1_TakenName m2_TakenName m3_TakenName m5_TakenName : Option Value}
    {I_TakenName : Addr} {iod_TakenName ian_TakenName : Option Addr} {isl_TakenName : Array (Option Value)} {ioc_TakenName ikV_TakenName idc_TakenName ipm_TakenName icd_TakenName ict_TakenName : Value}
    {C_Unlike N_Unlike : Addr} {nm_Unlike q_Unlike : Str} {bs_Unlike sub_Unlike : List Value} {sn_Unlike : List Str} {ab_Unlike : Bool} {col_Unlike : Option Bool} {dd_Unlike : Option Addr} {m0_Unlike m1_Unlike m2_Unlike m3_Unlike m5_Unlike : Option Value}
    {I_Unlike : Addr} {iod_Unlike ian_Unlike : Option Addr} {isl_Unlike : Array (Option Value)} {ioc_Unlike ikV_Unlike idc_Unlike ipm_Unlike icd_Unlike ict_Unlike : Value}
    {C_NotThere N_NotThere : Addr} {nm_NotThere q_NotThere : Str} {bs_NotThere sub_NotThere : List Value} {sn_NotThere : List Str} {ab_NotThere : Bool} {col_NotThere : Option Bool} {dd_NotThere : Option Addr} {m0_NotThere m1_NotThere m2_NotThere m3_NotThere m5_NotThere : Option Value}
    {I_NotThere : Addr} {iod_NotThere ian_NotThere : Option Addr} {isl_NotThere : Array (Option Value)} {ioc_NotThere ikV_NotThere idc_NotThere ipm_NotThere icd_NotThere ict_NotThere : Value}
    {C_TooMany N_TooMany : Addr} {nm_TooMany q_TooMany : Str} {bs_TooMany sub_TooMany : List Value} {sn_TooMany : List Str} {ab_TooMany : Bool} {col_TooMany : Option Bool} {dd_TooMany : Option Addr} {m0_TooMany m1_TooMany m2_TooMany m3_TooMany m5_TooMany : Option Value}
    {I_TooMany : Addr} {iod_TooMany ian_TooMany : Option Addr} {isl_TooMany : Array (Option Value)} {ioc_TooMany ikV_TooMany idc_TooMany ipm_TooMany icd_TooMany ict_TooMany : Value}
    {C_NotKept N_NotKept : Addr} {nm_NotKept q_NotKept : Str} {bs_NotKept sub_NotKept : List Value} {sn_NotKept : List Str} {ab_NotKept : Bool} {col_NotKept : Option Bool} {dd_NotKept : Option Addr} {m0_NotKept m1_NotKept m2_NotKept m3_NotKept m5_NotKept : Option Value}
    {I_NotKept : Addr} {iod_NotKept ian_NotKept : Option Addr} {isl_NotKept : Array (Option Value)} {ioc_NotKept ikV_NotKept idc_NotKept ipm_NotKept icd_NotKept ict_NotKept : Value}
    {C_NothingToUndo N_NothingToUndo : Addr} {nm_NothingToUndo q_NothingToUndo : Str} {bs_NothingToUndo sub_NothingToUndo : List Value} {sn_NothingToUndo : List Str} {ab_NothingToUndo : Bool} {col_NothingToUndo : Option Bool} {dd_NothingToUndo : Option Addr} {m0_NothingToUndo m1_NothingToUndo m2_NothingToUndo m3_NothingToUndo m5_NothingToUndo : Option Value}
    {C_NothingToRedo N_NothingToRedo : Addr} {nm_NothingToRedo q_NothingToRedo : Str} {bs_NothingToRedo sub_NothingToRedo : List Value} {sn_NothingToRedo : List Str} {ab_NothingToRedo : Bool} {col_NothingToRedo : Option Bool} {dd_NothingToRedo : Option Addr} {m0_NothingToRedo m1_NothingToRedo m2_NothingToRedo m3_NothingToRedo m5_NothingToRedo : Option Value}
    (a0 : PySem.W.nsIn K mainGlobals "is_integer" = some (some (.ref f0)))
    (l0 : K.lookup f0 = some ⟨oc0, od0, .func (PySem.W.fnOf "is_integer" "is_integer" (defArgs s_is_integer) (defBody s_is_integer) (defScope s_is_integer) .none kV0 dc0 pm0 an0 cd0 ct0), sl0⟩)
    (c0 : PySem.W.codeIn K cd0 "is_integer" = true)
    (k0 : PySem.W.keepIn K (.ref f0) = true)
    (a1 : PySem.W.nsIn K mainGlobals "is_ratio" = some (some (.ref f1)))
    (l1 : K.lookup f1 = some ⟨oc1, od1, .func (PySem.W.fnOf "is_ratio" "is_ratio" (defArgs s_is_ratio) (defBody s_is_ratio) (defScope s_is_ratio) .none kV1 dc1 pm1 an1 cd1 ct1), sl1⟩)
    (c1 : PySem.W.codeIn K cd1 "is_ratio" = true)
    (k1 : PySem.W.keepIn K (.ref f1) = true)
    (a2 : PySem.W.nsIn K mainGlobals "pair" = some (some (.ref f2)))
    (l2 : K.lookup f2 = some ⟨oc2, od2, .func (PySem.W.fnOf "pair" "pair" (defArgs s_pair) (defBody s_pair) (defScope s_pair) .none kV2 dc2 pm2 an2 cd2 ct2), sl2⟩)
    (c2 : PySem.W.codeIn K cd2 "pair" = true)
    (k2 : PySem.W.keepIn K (.ref f2) = true)
    (a3 : PySem.W.nsIn K mainGlobals "in_lowest" = some (some (.ref f3)))
    (l3 : K.lookup f3 = some ⟨oc3, od3, .func (PySem.W.fnOf "in_lowest" "in_lowest" (defArgs s_in_lowest) (defBody s_in_lowest) (defScope s_in_lowest) .none kV3 dc3 pm3 an3 cd3 ct3), sl3⟩)
    (c3 : PySem.W.codeIn K cd3 "in_lowest" = true)
    (k3 : PySem.W.keepIn K (.ref f3) = true)
    (a4 : PySem.W.nsIn K mainGlobals "ratio" = some (some (.ref f4)))
    (l4 : K.lookup f4 = some ⟨oc4, od4, .func (PySem.W.fnOf "ratio" "ratio" (defArgs s_ratio) (defBody s_ratio) (defScope s_ratio) .none kV4 dc4 pm4 an4 cd4 ct4), sl4⟩)
    (c4 : PySem.W.codeIn K cd4 "ratio" = true)
    (k4 : PySem.W.keepIn K (.ref f4) = true)
    (a5 : PySem.W.nsIn K mainGlobals "need_ratios" = some (some (.ref f5)))
    (l5 : K.lookup f5 = some ⟨oc5, od5, .func (PySem.W.fnOf "need_ratios" "need_ratios" (defArgs s_need_ratios) (defBody s_need_ratios) (defScope s_need_ratios) .none kV5 dc5 pm5 an5 cd5 ct5), sl5⟩)
    (c5 : PySem.W.codeIn K cd5 "need_ratios" = true)
    (k5 : PySem.W.keepIn K (.ref f5) = true)
    (a6 : PySem.W.nsIn K mainGlobals "plus" = some (some (.ref f6)))
    (l6 : K.lookup f6 = some ⟨oc6, od6, .func (PySem.W.fnOf "plus" "plus" (defArgs s_plus) (defBody s_plus) (defScope s_plus) .none kV6 dc6 pm6 an6 cd6 ct6), sl6⟩)
    (c6 : PySem.W.codeIn K cd6 "plus" = true)
    (k6 : PySem.W.keepIn K (.ref f6) = true)
    (a7 : PySem.W.nsIn K mainGlobals "added" = some (some (.ref f7)))
    (l7 : K.lookup f7 = some ⟨oc7, od7, .func (PySem.W.fnOf "added" "added" (defArgs s_added) (defBody s_added) (defScope s_added) .none kV7 dc7 pm7 an7 cd7 ct7), sl7⟩)
    (c7 : PySem.W.codeIn K cd7 "added" = true)
    (k7 : PySem.W.keepIn K (.ref f7) = true)
    (a8 : PySem.W.nsIn K mainGlobals "minus" = some (some (.ref f8)))
    (l8 : K.lookup f8 = some ⟨oc8, od8, .func (PySem.W.fnOf "minus" "minus" (defArgs s_minus) (defBody s_minus) (defScope s_minus) .none kV8 dc8 pm8 an8 cd8 ct8), sl8⟩)
    (c8 : PySem.W.codeIn K cd8 "minus" = true)
    (k8 : PySem.W.keepIn K (.ref f8) = true)
    (a9 : PySem.W.nsIn K mainGlobals "opposite" = some (some (.ref f9)))
    (l9 : K.lookup f9 = some ⟨oc9, od9, .func (PySem.W.fnOf "opposite" "opposite" (defArgs s_opposite) (defBody s_opposite) (defScope s_opposite) .none kV9 dc9 pm9 an9 cd9 ct9), sl9⟩)
    (c9 : PySem.W.codeIn K cd9 "opposite" = true)
    (k9 : PySem.W.keepIn K (.ref f9) = true)
    (a10 : PySem.W.nsIn K mainGlobals "times" = some (some (.ref f10)))
    (l10 : K.lookup f10 = some ⟨oc10, od10, .func (PySem.W.fnOf "times" "times" (defArgs s_times) (defBody s_times) (defScope s_times) .none kV10 dc10 pm10 an10 cd10 ct10), sl10⟩)
    (c10 : PySem.W.codeIn K cd10 "times" = true)
    (k10 : PySem.W.keepIn K (.ref f10) = true)
    (a11 : PySem.W.nsIn K mainGlobals "multiplied" = some (some (.ref f11)))
    (l11 : K.lookup f11 = some ⟨oc11, od11, .func (PySem.W.fnOf "multiplied" "multiplied" (defArgs s_multiplied) (defBody s_multiplied) (defScope s_multiplied) .none kV11 dc11 pm11 an11 cd11 ct11), sl11⟩)
    (c11 : PySem.W.codeIn K cd11 "multiplied" = true)
    (k11 : PySem.W.keepIn K (.ref f11) = true)
    (a12 : PySem.W.nsIn K mainGlobals "over" = some (some (.ref f12)))
    (l12 : K.lookup f12 = some ⟨oc12, od12, .func (PySem.W.fnOf "over" "over" (defArgs s_over) (defBody s_over) (defScope s_over) .none kV12 dc12 pm12 an12 cd12 ct12), sl12⟩)
    (c12 : PySem.W.codeIn K cd12 "over" = true)
    (k12 : PySem.W.keepIn K (.ref f12) = true)
    (a13 : PySem.W.nsIn K mainGlobals "divided" = some (some (.ref f13)))
    (l13 : K.lookup f13 = some ⟨oc13, od13, .func (PySem.W.fnOf "divided" "divided" (defArgs s_divided) (defBody s_divided) (defScope s_divided) .none kV13 dc13 pm13 an13 cd13 ct13), sl13⟩)
    (c13 : PySem.W.codeIn K cd13 "divided" = true)
    (k13 : PySem.W.keepIn K (.ref f13) = true)
    (a14 : PySem.W.nsIn K mainGlobals "sign" = some (some (.ref f14)))
    (l14 : K.lookup f14 = some ⟨oc14, od14, .func (PySem.W.fnOf "sign" "sign" (defArgs s_sign) (defBody s_sign) (defScope s_sign) .none kV14 dc14 pm14 an14 cd14 ct14), sl14⟩)
    (c14 : PySem.W.codeIn K cd14 "sign" = true)
    (k14 : PySem.W.keepIn K (.ref f14) = true)
    (a15 : PySem.W.nsIn K mainGlobals "sign_of" = some (some (.ref f15)))
    (l15 : K.lookup f15 = some ⟨oc15, od15, .func (PySem.W.fnOf "sign_of" "sign_of" (defArgs s_sign_of) (defBody s_sign_of) (defScope s_sign_of) .none kV15 dc15 pm15 an15 cd15 ct15), sl15⟩)
    (c15 : PySem.W.codeIn K cd15 "sign_of" = true)
    (k15 : PySem.W.keepIn K (.ref f15) = true)
    (a16 : PySem.W.nsIn K mainGlobals "below" = some (some (.ref f16)))
    (l16 : K.lookup f16 = some ⟨oc16, od16, .func (PySem.W.fnOf "below" "below" (defArgs s_below) (defBody s_below) (defScope s_below) .none kV16 dc16 pm16 an16 cd16 ct16), sl16⟩)
    (c16 : PySem.W.codeIn K cd16 "below" = true)
    (k16 : PySem.W.keepIn K (.ref f16) = true)
    (a17 : PySem.W.nsIn K mainGlobals "is_below" = some (some (.ref f17)))
    (l17 : K.lookup f17 = some ⟨oc17, od17, .func (PySem.W.fnOf "is_below" "is_below" (defArgs s_is_below) (defBody s_is_below) (defScope s_is_below) .none kV17 dc17 pm17 an17 cd17 ct17), sl17⟩)
    (c17 : PySem.W.codeIn K cd17 "is_below" = true)
    (k17 : PySem.W.keepIn K (.ref f17) = true)
    (a18 : PySem.W.nsIn K mainGlobals "dot" = some (some (.ref f18)))
    (l18 : K.lookup f18 = some ⟨oc18, od18, .func (PySem.W.fnOf "dot" "dot" (defArgs s_dot) (defBody s_dot) (defScope s_dot) .none kV18 dc18 pm18 an18 cd18 ct18), sl18⟩)
    (c18 : PySem.W.codeIn K cd18 "dot" = true)
    (k18 : PySem.W.keepIn K (.ref f18) = true)
    (a19 : PySem.W.nsIn K mainGlobals "summed" = some (some (.ref f19)))
    (l19 : K.lookup f19 = some ⟨oc19, od19, .func (PySem.W.fnOf "summed" "summed" (defArgs s_summed) (defBody s_summed) (defScope s_summed) .none kV19 dc19 pm19 an19 cd19 ct19), sl19⟩)
    (c19 : PySem.W.codeIn K cd19 "summed" = true)
    (k19 : PySem.W.keepIn K (.ref f19) = true)
    (a20 : PySem.W.nsIn K mainGlobals "_law_pen" = some (some (.ref f20)))
    (l20 : K.lookup f20 = some ⟨oc20, od20, .func (PySem.W.fnOf "_law_pen" "_law_pen" (defArgs s__law_pen) (defBody s__law_pen) (defScope s__law_pen) .none kV20 dc20 pm20 an20 cd20 ct20), sl20⟩)
    (c20 : PySem.W.codeIn K cd20 "_law_pen" = true)
    (k20 : PySem.W.keepIn K (.ref f20) = true)
    (a21 : PySem.W.nsIn K mainGlobals "_law_draw" = some (some (.ref f21)))
    (l21 : K.lookup f21 = some ⟨oc21, od21, .func (PySem.W.fnOf "_law_draw" "_law_draw" (defArgs s__law_draw) (defBody s__law_draw) (defScope s__law_draw) .none kV21 dc21 pm21 an21 cd21 ct21), sl21⟩)
    (c21 : PySem.W.codeIn K cd21 "_law_draw" = true)
    (k21 : PySem.W.keepIn K (.ref f21) = true)
    (a22 : PySem.W.nsIn K mainGlobals "_law_pick" = some (some (.ref f22)))
    (l22 : K.lookup f22 = some ⟨oc22, od22, .func (PySem.W.fnOf "_law_pick" "_law_pick" (defArgs s__law_pick) (defBody s__law_pick) (defScope s__law_pick) .none kV22 dc22 pm22 an22 cd22 ct22), sl22⟩)
    (c22 : PySem.W.codeIn K cd22 "_law_pick" = true)
    (k22 : PySem.W.keepIn K (.ref f22) = true)
    (a23 : PySem.W.nsIn K mainGlobals "_law_is" = some (some (.ref f23)))
    (l23 : K.lookup f23 = some ⟨oc23, od23, .func (PySem.W.fnOf "_law_is" "_law_is" (defArgs s__law_is) (defBody s__law_is) (defScope s__law_is) .none kV23 dc23 pm23 an23 cd23 ct23), sl23⟩)
    (c23 : PySem.W.codeIn K cd23 "_law_is" = true)
    (k23 : PySem.W.keepIn K (.ref f23) = true)
    (a24 : PySem.W.nsIn K mainGlobals "_law_says" = some (some (.ref f24)))
    (l24 : K.lookup f24 = some ⟨oc24, od24, .func (PySem.W.fnOf "_law_says" "_law_says" (defArgs s__law_says) (defBody s__law_says) (defScope s__law_says) .none kV24 dc24 pm24 an24 cd24 ct24), sl24⟩)
    (c24 : PySem.W.codeIn K cd24 "_law_says" = true)
    (k24 : PySem.W.keepIn K (.ref f24) = true)
    (a25 : PySem.W.nsIn K mainGlobals "_law_divisor" = some (some (.ref f25)))
    (l25 : K.lookup f25 = some ⟨oc25, od25, .func (PySem.W.fnOf "_law_divisor" "_law_divisor" (defArgs s__law_divisor) (defBody s__law_divisor) (defScope s__law_divisor) .none kV25 dc25 pm25 an25 cd25 ct25), sl25⟩)
    (c25 : PySem.W.codeIn K cd25 "_law_divisor" = true)
    (k25 : PySem.W.keepIn K (.ref f25) = true)
    (a26 : PySem.W.nsIn K mainGlobals "_law_low" = some (some (.ref f26)))
    (l26 : K.lookup f26 = some ⟨oc26, od26, .func (PySem.W.fnOf "_law_low" "_law_low" (defArgs s__law_low) (defBody s__law_low) (defScope s__law_low) .none kV26 dc26 pm26 an26 cd26 ct26), sl26⟩)
    (c26 : PySem.W.codeIn K cd26 "_law_low" = true)
    (k26 : PySem.W.keepIn K (.ref f26) = true)
    (a27 : PySem.W.nsIn K mainGlobals "_law_pair" = some (some (.ref f27)))
    (l27 : K.lookup f27 = some ⟨oc27, od27, .func (PySem.W.fnOf "_law_pair" "_law_pair" (defArgs s__law_pair) (defBody s__law_pair) (defScope s__law_pair) .none kV27 dc27 pm27 an27 cd27 ct27), sl27⟩)
    (c27 : PySem.W.codeIn K cd27 "_law_pair" = true)
    (k27 : PySem.W.keepIn K (.ref f27) = true)
    (a28 : PySem.W.nsIn K mainGlobals "_law_plus" = some (some (.ref f28)))
    (l28 : K.lookup f28 = some ⟨oc28, od28, .func (PySem.W.fnOf "_law_plus" "_law_plus" (defArgs s__law_plus) (defBody s__law_plus) (defScope s__law_plus) .none kV28 dc28 pm28 an28 cd28 ct28), sl28⟩)
    (c28 : PySem.W.codeIn K cd28 "_law_plus" = true)
    (k28 : PySem.W.keepIn K (.ref f28) = true)
    (a29 : PySem.W.nsIn K mainGlobals "_law_opposite" = some (some (.ref f29)))
    (l29 : K.lookup f29 = some ⟨oc29, od29, .func (PySem.W.fnOf "_law_opposite" "_law_opposite" (defArgs s__law_opposite) (defBody s__law_opposite) (defScope s__law_opposite) .none kV29 dc29 pm29 an29 cd29 ct29), sl29⟩)
    (c29 : PySem.W.codeIn K cd29 "_law_opposite" = true)
    (k29 : PySem.W.keepIn K (.ref f29) = true)
    (a30 : PySem.W.nsIn K mainGlobals "_law_minus" = some (some (.ref f30)))
    (l30 : K.lookup f30 = some ⟨oc30, od30, .func (PySem.W.fnOf "_law_minus" "_law_minus" (defArgs s__law_minus) (defBody s__law_minus) (defScope s__law_minus) .none kV30 dc30 pm30 an30 cd30 ct30), sl30⟩)
    (c30 : PySem.W.codeIn K cd30 "_law_minus" = true)
    (k30 : PySem.W.keepIn K (.ref f30) = true)
    (a31 : PySem.W.nsIn K mainGlobals "_law_times" = some (some (.ref f31)))
    (l31 : K.lookup f31 = some ⟨oc31, od31, .func (PySem.W.fnOf "_law_times" "_law_times" (defArgs s__law_times) (defBody s__law_times) (defScope s__law_times) .none kV31 dc31 pm31 an31 cd31 ct31), sl31⟩)
    (c31 : PySem.W.codeIn K cd31 "_law_times" = true)
    (k31 : PySem.W.keepIn K (.ref f31) = true)
    (a32 : PySem.W.nsIn K mainGlobals "_law_over" = some (some (.ref f32)))
    (l32 : K.lookup f32 = some ⟨oc32, od32, .func (PySem.W.fnOf "_law_over" "_law_over" (defArgs s__law_over) (defBody s__law_over) (defScope s__law_over) .none kV32 dc32 pm32 an32 cd32 ct32), sl32⟩)
    (c32 : PySem.W.codeIn K cd32 "_law_over" = true)
    (k32 : PySem.W.keepIn K (.ref f32) = true)
    (a33 : PySem.W.nsIn K mainGlobals "_law_sign" = some (some (.ref f33)))
    (l33 : K.lookup f33 = some ⟨oc33, od33, .func (PySem.W.fnOf "_law_sign" "_law_sign" (defArgs s__law_sign) (defBody s__law_sign) (defScope s__law_sign) .none kV33 dc33 pm33 an33 cd33 ct33), sl33⟩)
    (c33 : PySem.W.codeIn K cd33 "_law_sign" = true)
    (k33 : PySem.W.keepIn K (.ref f33) = true)
    (a34 : PySem.W.nsIn K mainGlobals "_law_less" = some (some (.ref f34)))
    (l34 : K.lookup f34 = some ⟨oc34, od34, .func (PySem.W.fnOf "_law_less" "_law_less" (defArgs s__law_less) (defBody s__law_less) (defScope s__law_less) .none kV34 dc34 pm34 an34 cd34 ct34), sl34⟩)
    (c34 : PySem.W.codeIn K cd34 "_law_less" = true)
    (k34 : PySem.W.keepIn K (.ref f34) = true)
    (a35 : PySem.W.nsIn K mainGlobals "_law_dot" = some (some (.ref f35)))
    (l35 : K.lookup f35 = some ⟨oc35, od35, .func (PySem.W.fnOf "_law_dot" "_law_dot" (defArgs s__law_dot) (defBody s__law_dot) (defScope s__law_dot) .none kV35 dc35 pm35 an35 cd35 ct35), sl35⟩)
    (c35 : PySem.W.codeIn K cd35 "_law_dot" = true)
    (k35 : PySem.W.keepIn K (.ref f35) = true)
    (a36 : PySem.W.nsIn K mainGlobals "_law_is_list" = some (some (.ref f36)))
    (l36 : K.lookup f36 = some ⟨oc36, od36, .func (PySem.W.fnOf "_law_is_list" "_law_is_list" (defArgs s__law_is_list) (defBody s__law_is_list) (defScope s__law_is_list) .none kV36 dc36 pm36 an36 cd36 ct36), sl36⟩)
    (c36 : PySem.W.codeIn K cd36 "_law_is_list" = true)
    (k36 : PySem.W.keepIn K (.ref f36) = true)
    (a37 : PySem.W.nsIn K mainGlobals "_law_is_ratio" = some (some (.ref f37)))
    (l37 : K.lookup f37 = some ⟨oc37, od37, .func (PySem.W.fnOf "_law_is_ratio" "_law_is_ratio" (defArgs s__law_is_ratio) (defBody s__law_is_ratio) (defScope s__law_is_ratio) .none kV37 dc37 pm37 an37 cd37 ct37), sl37⟩)
    (c37 : PySem.W.codeIn K cd37 "_law_is_ratio" = true)
    (k37 : PySem.W.keepIn K (.ref f37) = true)
    (a38 : PySem.W.nsIn K mainGlobals "_law_is_whole" = some (some (.ref f38)))
    (l38 : K.lookup f38 = some ⟨oc38, od38, .func (PySem.W.fnOf "_law_is_whole" "_law_is_whole" (defArgs s__law_is_whole) (defBody s__law_is_whole) (defScope s__law_is_whole) .none kV38 dc38 pm38 an38 cd38 ct38), sl38⟩)
    (c38 : PySem.W.codeIn K cd38 "_law_is_whole" = true)
    (k38 : PySem.W.keepIn K (.ref f38) = true)
    (a39 : PySem.W.nsIn K mainGlobals "_law_is_any_row" = some (some (.ref f39)))
    (l39 : K.lookup f39 = some ⟨oc39, od39, .func (PySem.W.fnOf "_law_is_any_row" "_law_is_any_row" (defArgs s__law_is_any_row) (defBody s__law_is_any_row) (defScope s__law_is_any_row) .none kV39 dc39 pm39 an39 cd39 ct39), sl39⟩)
    (c39 : PySem.W.codeIn K cd39 "_law_is_any_row" = true)
    (k39 : PySem.W.keepIn K (.ref f39) = true)
    (a40 : PySem.W.nsIn K mainGlobals "_law_number" = some (some (.ref f40)))
    (l40 : K.lookup f40 = some ⟨oc40, od40, .func (PySem.W.fnOf "_law_number" "_law_number" (defArgs s__law_number) (defBody s__law_number) (defScope s__law_number) .none kV40 dc40 pm40 an40 cd40 ct40), sl40⟩)
    (c40 : PySem.W.codeIn K cd40 "_law_number" = true)
    (k40 : PySem.W.keepIn K (.ref f40) = true)
    (a41 : PySem.W.nsIn K mainGlobals "_law_wide" = some (some (.ref f41)))
    (l41 : K.lookup f41 = some ⟨oc41, od41, .func (PySem.W.fnOf "_law_wide" "_law_wide" (defArgs s__law_wide) (defBody s__law_wide) (defScope s__law_wide) .none kV41 dc41 pm41 an41 cd41 ct41), sl41⟩)
    (c41 : PySem.W.codeIn K cd41 "_law_wide" = true)
    (k41 : PySem.W.keepIn K (.ref f41) = true)
    (a42 : PySem.W.nsIn K mainGlobals "_law_size" = some (some (.ref f42)))
    (l42 : K.lookup f42 = some ⟨oc42, od42, .func (PySem.W.fnOf "_law_size" "_law_size" (defArgs s__law_size) (defBody s__law_size) (defScope s__law_size) .none kV42 dc42 pm42 an42 cd42 ct42), sl42⟩)
    (c42 : PySem.W.codeIn K cd42 "_law_size" = true)
    (k42 : PySem.W.keepIn K (.ref f42) = true)
    (a43 : PySem.W.nsIn K mainGlobals "_law_row" = some (some (.ref f43)))
    (l43 : K.lookup f43 = some ⟨oc43, od43, .func (PySem.W.fnOf "_law_row" "_law_row" (defArgs s__law_row) (defBody s__law_row) (defScope s__law_row) .none kV43 dc43 pm43 an43 cd43 ct43), sl43⟩)
    (c43 : PySem.W.codeIn K cd43 "_law_row" = true)
    (k43 : PySem.W.keepIn K (.ref f43) = true)
    (a44 : PySem.W.nsIn K mainGlobals "_law_odd" = some (some (.ref f44)))
    (l44 : K.lookup f44 = some ⟨oc44, od44, .func (PySem.W.fnOf "_law_odd" "_law_odd" (defArgs s__law_odd) (defBody s__law_odd) (defScope s__law_odd) .none kV44 dc44 pm44 an44 cd44 ct44), sl44⟩)
    (c44 : PySem.W.codeIn K cd44 "_law_odd" = true)
    (k44 : PySem.W.keepIn K (.ref f44) = true)
    (a45 : PySem.W.nsIn K mainGlobals "_law_bent_row" = some (some (.ref f45)))
    (l45 : K.lookup f45 = some ⟨oc45, od45, .func (PySem.W.fnOf "_law_bent_row" "_law_bent_row" (defArgs s__law_bent_row) (defBody s__law_bent_row) (defScope s__law_bent_row) .none kV45 dc45 pm45 an45 cd45 ct45), sl45⟩)
    (c45 : PySem.W.codeIn K cd45 "_law_bent_row" = true)
    (k45 : PySem.W.keepIn K (.ref f45) = true)
    (a46 : PySem.W.nsIn K mainGlobals "_law_fault" = some (some (.ref f46)))
    (l46 : K.lookup f46 = some ⟨oc46, od46, .func (PySem.W.fnOf "_law_fault" "_law_fault" (defArgs s__law_fault) (defBody s__law_fault) (defScope s__law_fault) .none kV46 dc46 pm46 an46 cd46 ct46), sl46⟩)
    (c46 : PySem.W.codeIn K cd46 "_law_fault" = true)
    (k46 : PySem.W.keepIn K (.ref f46) = true)
    (a47 : PySem.W.nsIn K mainGlobals "_law_kinds" = some (some (.ref f47)))
    (l47 : K.lookup f47 = some ⟨oc47, od47, .func (PySem.W.fnOf "_law_kinds" "_law_kinds" (defArgs s__law_kinds) (defBody s__law_kinds) (defScope s__law_kinds) .none kV47 dc47 pm47 an47 cd47 ct47), sl47⟩)
    (c47 : PySem.W.codeIn K cd47 "_law_kinds" = true)
    (k47 : PySem.W.keepIn K (.ref f47) = true)
    (a48 : PySem.W.nsIn K mainGlobals "_law_more_kinds" = some (some (.ref f48)))
    (l48 : K.lookup f48 = some ⟨oc48, od48, .func (PySem.W.fnOf "_law_more_kinds" "_law_more_kinds" (defArgs s__law_more_kinds) (defBody s__law_more_kinds) (defScope s__law_more_kinds) .none kV48 dc48 pm48 an48 cd48 ct48), sl48⟩)
    (c48 : PySem.W.codeIn K cd48 "_law_more_kinds" = true)
    (k48 : PySem.W.keepIn K (.ref f48) = true)
    (a49 : PySem.W.nsIn K mainGlobals "_law_made_right" = some (some (.ref f49)))
    (l49 : K.lookup f49 = some ⟨oc49, od49, .func (PySem.W.fnOf "_law_made_right" "_law_made_right" (defArgs s__law_made_right) (defBody s__law_made_right) (defScope s__law_made_right) .none kV49 dc49 pm49 an49 (.ref cc49) ct49), sl49⟩)
    (c49 : PySem.W.codeIn K (.ref cc49) "_law_made_right" = true)
    (lc49 : K.lookup cc49 = some ⟨ec49, ed49, .fields ev49, es49⟩)
    (lt49 : (ev49[11]? : Option Value) = some (.ref tb49))
    (nt49 : K.lookup tb49 = none)
    (k49 : PySem.W.keepIn K (.ref f49) = true)
    (a50 : PySem.W.nsIn K mainGlobals "_law_reckoned_right" = some (some (.ref f50)))
    (l50 : K.lookup f50 = some ⟨oc50, od50, .func (PySem.W.fnOf "_law_reckoned_right" "_law_reckoned_right" (defArgs s__law_reckoned_right) (defBody s__law_reckoned_right) (defScope s__law_reckoned_right) .none kV50 dc50 pm50 an50 (.ref cc50) ct50), sl50⟩)
    (c50 : PySem.W.codeIn K (.ref cc50) "_law_reckoned_right" = true)
    (lc50 : K.lookup cc50 = some ⟨ec50, ed50, .fields ev50, es50⟩)
    (lt50 : (ev50[11]? : Option Value) = some (.ref tb50))
    (nt50 : K.lookup tb50 = none)
    (k50 : PySem.W.keepIn K (.ref f50) = true)
    (a51 : PySem.W.nsIn K mainGlobals "_law_refused_right" = some (some (.ref f51)))
    (l51 : K.lookup f51 = some ⟨oc51, od51, .func (PySem.W.fnOf "_law_refused_right" "_law_refused_right" (defArgs s__law_refused_right) (defBody s__law_refused_right) (defScope s__law_refused_right) .none kV51 dc51 pm51 an51 (.ref cc51) ct51), sl51⟩)
    (c51 : PySem.W.codeIn K (.ref cc51) "_law_refused_right" = true)
    (lc51 : K.lookup cc51 = some ⟨ec51, ed51, .fields ev51, es51⟩)
    (lt51 : (ev51[11]? : Option Value) = some (.ref tb51))
    (nt51 : K.lookup tb51 = none)
    (k51 : PySem.W.keepIn K (.ref f51) = true)
    (a52 : PySem.W.nsIn K mainGlobals "_law_rows_right" = some (some (.ref f52)))
    (l52 : K.lookup f52 = some ⟨oc52, od52, .func (PySem.W.fnOf "_law_rows_right" "_law_rows_right" (defArgs s__law_rows_right) (defBody s__law_rows_right) (defScope s__law_rows_right) .none kV52 dc52 pm52 an52 (.ref cc52) ct52), sl52⟩)
    (c52 : PySem.W.codeIn K (.ref cc52) "_law_rows_right" = true)
    (lc52 : K.lookup cc52 = some ⟨ec52, ed52, .fields ev52, es52⟩)
    (lt52 : (ev52[11]? : Option Value) = some (.ref tb52))
    (nt52 : K.lookup tb52 = none)
    (k52 : PySem.W.keepIn K (.ref f52) = true)
    (a53 : PySem.W.nsIn K mainGlobals "law" = some (some (.ref f53)))
    (l53 : K.lookup f53 = some ⟨oc53, od53, .func (PySem.W.fnOf "law" "law" (defArgs s_law) (defBody s_law) (defScope s_law) .none kV53 dc53 pm53 an53 cd53 ct53), sl53⟩)
    (c53 : PySem.W.codeIn K cd53 "law" = true)
    (k53 : PySem.W.keepIn K (.ref f53) = true)
    (tnd : [tb49, tb50, tb51, tb52].Nodup)
    (z_ValueError : PySem.W.nsIn K mainGlobals "ValueError" = some none)
    (z_abs : PySem.W.nsIn K mainGlobals "abs" = some none)
    (z_all : PySem.W.nsIn K mainGlobals "all" = some none)
    (z_bool : PySem.W.nsIn K mainGlobals "bool" = some none)
    (z_int : PySem.W.nsIn K mainGlobals "int" = some none)
    (z_isinstance : PySem.W.nsIn K mainGlobals "isinstance" = some none)
    (z_len : PySem.W.nsIn K mainGlobals "len" = some none)
    (z_list : PySem.W.nsIn K mainGlobals "list" = some none)
    (z_range : PySem.W.nsIn K mainGlobals "range" = some none)
    (z_repr : PySem.W.nsIn K mainGlobals "repr" = some none)
    (z_str : PySem.W.nsIn K mainGlobals "str" = some none)
    (z_tuple : PySem.W.nsIn K mainGlobals "tuple" = some none)
    (z_zip : PySem.W.nsIn K mainGlobals "zip" = some none)
    (zm_gcd : PySem.W.nsIn K mainGlobals "gcd" = some (some (.builtin "math.gcd")))
    (ekn : PySem.W.specialIn K (.builtin "object.__class__") "__get__" = some (some (.builtin "getset_descriptor.__get__")))
    (ekt : PySem.W.takesIn K (.builtin "object.__class__") = some true)
    (ca_GenusError : PySem.W.nsIn K mainGlobals "GenusError" = some (some (.ref C_GenusError)))
    (cl_GenusError : K.lookup C_GenusError = some (excClassObj nm_GenusError q_GenusError C_GenusError N_GenusError bs_GenusError [.type "ValueError", .type "Exception", .type "BaseException", .type "object"] true sn_GenusError sub_GenusError ab_GenusError col_GenusError dd_GenusError m0_GenusError m1_GenusError m2_GenusError m3_GenusError m5_GenusError "ValueError.__new__"))
    (cs_GenusError : PySem.W.findIn K (.ref C_GenusError) "__setattr__" = some (some (.builtin "object.__setattr__")))
    (cg_GenusError : PySem.W.findIn K (.ref C_GenusError) "__getattribute__" = some (some (.builtin "BaseException.__getattribute__")))
    (ch_GenusError : PySem.W.findIn K (.ref C_GenusError) "__getattr__" = some none)
    (cc_GenusError : PySem.W.findIn K (.ref C_GenusError) "__class__" = some (some (.builtin "object.__class__")))
    (ck_GenusError : PySem.W.keepIn K (.ref C_GenusError) = true)
    (ca_BadNumber : PySem.W.nsIn K mainGlobals "BadNumber" = some (some (.ref C_BadNumber)))
    (cl_BadNumber : K.lookup C_BadNumber = some (excClassObj nm_BadNumber q_BadNumber C_BadNumber N_BadNumber bs_BadNumber (.ref C_GenusError :: [.type "ValueError", .type "Exception", .type "BaseException", .type "object"]) true sn_BadNumber sub_BadNumber ab_BadNumber col_BadNumber dd_BadNumber m0_BadNumber m1_BadNumber m2_BadNumber m3_BadNumber m5_BadNumber "ValueError.__new__"))
    (cs_BadNumber : PySem.W.findIn K (.ref C_BadNumber) "__setattr__" = some (some (.builtin "object.__setattr__")))
    (cg_BadNumber : PySem.W.findIn K (.ref C_BadNumber) "__getattribute__" = some (some (.builtin "BaseException.__getattribute__")))
    (ch_BadNumber : PySem.W.findIn K (.ref C_BadNumber) "__getattr__" = some none)
    (cc_BadNumber : PySem.W.findIn K (.ref C_BadNumber) "__class__" = some (some (.builtin "object.__class__")))
    (ck_BadNumber : PySem.W.keepIn K (.ref C_BadNumber) = true)
    (ia_BadNumber : PySem.W.findIn K (.ref C_BadNumber) "__init__" = some (some (.ref I_BadNumber)))
    (it_BadNumber : PySem.W.typeIn K (.ref I_BadNumber) = some (.type "function"))
    (il_BadNumber : K.lookup I_BadNumber = some ⟨ioc_BadNumber, iod_BadNumber, .func (PySem.W.fnOf "__init__" "BadNumber.__init__" (defArgs s_BadNumber_init) (defBody s_BadNumber_init) (defScope s_BadNumber_init) .none ikV_BadNumber idc_BadNumber ipm_BadNumber ian_BadNumber icd_BadNumber ict_BadNumber), isl_BadNumber⟩)
    (ic_BadNumber : PySem.W.codeIn K icd_BadNumber "BadNumber.__init__" = true)
    (ik_BadNumber : PySem.W.keepIn K (.ref I_BadNumber) = true)
    (in_BadNumber_what : PySem.W.findIn K (.ref C_BadNumber) "what" = some none)
    (in_BadNumber_number : PySem.W.findIn K (.ref C_BadNumber) "number" = some none)
    (ca_BadRow : PySem.W.nsIn K mainGlobals "BadRow" = some (some (.ref C_BadRow)))
    (cl_BadRow : K.lookup C_BadRow = some (excClassObj nm_BadRow q_BadRow C_BadRow N_BadRow bs_BadRow (.ref C_GenusError :: [.type "ValueError", .type "Exception", .type "BaseException", .type "object"]) true sn_BadRow sub_BadRow ab_BadRow col_BadRow dd_BadRow m0_BadRow m1_BadRow m2_BadRow m3_BadRow m5_BadRow "ValueError.__new__"))
    (cs_BadRow : PySem.W.findIn K (.ref C_BadRow) "__setattr__" = some (some (.builtin "object.__setattr__")))
    (cg_BadRow : PySem.W.findIn K (.ref C_BadRow) "__getattribute__" = some (some (.builtin "BaseException.__getattribute__")))
    (ch_BadRow : PySem.W.findIn K (.ref C_BadRow) "__getattr__" = some none)
    (cc_BadRow : PySem.W.findIn K (.ref C_BadRow) "__class__" = some (some (.builtin "object.__class__")))
    (ck_BadRow : PySem.W.keepIn K (.ref C_BadRow) = true)
    (ia_BadRow : PySem.W.findIn K (.ref C_BadRow) "__init__" = some (some (.ref I_BadRow)))
    (it_BadRow : PySem.W.typeIn K (.ref I_BadRow) = some (.type "function"))
    (il_BadRow : K.lookup I_BadRow = some ⟨ioc_BadRow, iod_BadRow, .func (PySem.W.fnOf "__init__" "BadRow.__init__" (defArgs s_BadRow_init) (defBody s_BadRow_init) (defScope s_BadRow_init) .none ikV_BadRow idc_BadRow ipm_BadRow ian_BadRow icd_BadRow ict_BadRow), isl_BadRow⟩)
    (ic_BadRow : PySem.W.codeIn K icd_BadRow "BadRow.__init__" = true)
    (ik_BadRow : PySem.W.keepIn K (.ref I_BadRow) = true)
    (in_BadRow_what : PySem.W.findIn K (.ref C_BadRow) "what" = some none)
    (in_BadRow_row : PySem.W.findIn K (.ref C_BadRow) "row" = some none)
    (ca_BadTable : PySem.W.nsIn K mainGlobals "BadTable" = some (some (.ref C_BadTable)))
    (cl_BadTable : K.lookup C_BadTable = some (excClassObj nm_BadTable q_BadTable C_BadTable N_BadTable bs_BadTable (.ref C_GenusError :: [.type "ValueError", .type "Exception", .type "BaseException", .type "object"]) true sn_BadTable sub_BadTable ab_BadTable col_BadTable dd_BadTable m0_BadTable m1_BadTable m2_BadTable m3_BadTable m5_BadTable "ValueError.__new__"))
    (cs_BadTable : PySem.W.findIn K (.ref C_BadTable) "__setattr__" = some (some (.builtin "object.__setattr__")))
    (cg_BadTable : PySem.W.findIn K (.ref C_BadTable) "__getattribute__" = some (some (.builtin "BaseException.__getattribute__")))
    (ch_BadTable : PySem.W.findIn K (.ref C_BadTable) "__getattr__" = some none)
    (cc_BadTable : PySem.W.findIn K (.ref C_BadTable) "__class__" = some (some (.builtin "object.__class__")))
    (ck_BadTable : PySem.W.keepIn K (.ref C_BadTable) = true)
    (ia_BadTable : PySem.W.findIn K (.ref C_BadTable) "__init__" = some (some (.ref I_BadTable)))
    (it_BadTable : PySem.W.typeIn K (.ref I_BadTable) = some (.type "function"))
    (il_BadTable : K.lookup I_BadTable = some ⟨ioc_BadTable, iod_BadTable, .func (PySem.W.fnOf "__init__" "BadTable.__init__" (defArgs s_BadTable_init) (defBody s_BadTable_init) (defScope s_BadTable_init) .none ikV_BadTable idc_BadTable ipm_BadTable ian_BadTable icd_BadTable ict_BadTable), isl_BadTable⟩)
    (ic_BadTable : PySem.W.codeIn K icd_BadTable "BadTable.__init__" = true)
    (ik_BadTable : PySem.W.keepIn K (.ref I_BadTable) = true)
    (in_BadTable_what : PySem.W.findIn K (.ref C_BadTable) "what" = some none)
    (ca_BadForm : PySem.W.nsIn K mainGlobals "BadForm" = some (some (.ref C_BadForm)))
    (cl_BadForm : K.lookup C_BadForm = some (excClassObj nm_BadForm q_BadForm C_BadForm N_BadForm bs_BadForm (.ref C_GenusError :: [.type "ValueError", .type "Exception", .type "BaseException", .type "object"]) true sn_BadForm sub_BadForm ab_BadForm col_BadForm dd_BadForm m0_BadForm m1_BadForm m2_BadForm m3_BadForm m5_BadForm "ValueError.__new__"))
    (cs_BadForm : PySem.W.findIn K (.ref C_BadForm) "__setattr__" = some (some (.builtin "object.__setattr__")))
    (cg_BadForm : PySem.W.findIn K (.ref C_BadForm) "__getattribute__" = some (some (.builtin "BaseException.__getattribute__")))
    (ch_BadForm : PySem.W.findIn K (.ref C_BadForm) "__getattr__" = some none)
    (cc_BadForm : PySem.W.findIn K (.ref C_BadForm) "__class__" = some (some (.builtin "object.__class__")))
    (ck_BadForm : PySem.W.keepIn K (.ref C_BadForm) = true)
    (ia_BadForm : PySem.W.findIn K (.ref C_BadForm) "__init__" = some (some (.ref I_BadForm)))
    (it_BadForm : PySem.W.typeIn K (.ref I_BadForm) = some (.type "function"))
    (il_BadForm : K.lookup I_BadForm = some ⟨ioc_BadForm, iod_BadForm, .func (PySem.W.fnOf "__init__" "BadForm.__init__" (defArgs s_BadForm_init) (defBody s_BadForm_init) (defScope s_BadForm_init) .none ikV_BadForm idc_BadForm ipm_BadForm ian_BadForm icd_BadForm ict_BadForm), isl_BadForm⟩)
    (ic_BadForm : PySem.W.codeIn K icd_BadForm "BadForm.__init__" = true)
    (ik_BadForm : PySem.W.keepIn K (.ref I_BadForm) = true)
    (in_BadForm_what : PySem.W.findIn K (.ref C_BadForm) "what" = some none)
    (ca_BadBook : PySem.W.nsIn K mainGlobals "BadBook" = some (some (.ref C_BadBook)))
    (cl_BadBook : K.lookup C_BadBook = some (excClassObj nm_BadBook q_BadBook C_BadBook N_BadBook bs_BadBook (.ref C_GenusError :: [.type "ValueError", .type "Exception", .type "BaseException", .type "object"]) true sn_BadBook sub_BadBook ab_BadBook col_BadBook dd_BadBook m0_BadBook m1_BadBook m2_BadBook m3_BadBook m5_BadBook "ValueError.__new__"))
    (cs_BadBook : PySem.W.findIn K (.ref C_BadBook) "__setattr__" = some (some (.builtin "object.__setattr__")))
    (cg_BadBook : PySem.W.findIn K (.ref C_BadBook) "__getattribute__" = some (some (.builtin "BaseException.__getattribute__")))
    (ch_BadBook : PySem.W.findIn K (.ref C_BadBook) "__getattr__" = some none)
    (cc_BadBook : PySem.W.findIn K (.ref C_BadBook) "__class__" = some (some (.builtin "object.__class__")))
    (ck_BadBook : PySem.W.keepIn K (.ref C_BadBook) = true)
    (ia_BadBook : PySem.W.findIn K (.ref C_BadBook) "__init__" = some (some (.ref I_BadBook)))
    (it_BadBook : PySem.W.typeIn K (.ref I_BadBook) = some (.type "function"))
    (il_BadBook : K.lookup I_BadBook = some ⟨ioc_BadBook, iod_BadBook, .func (PySem.W.fnOf "__init__" "BadBook.__init__" (defArgs s_BadBook_init) (defBody s_BadBook_init) (defScope s_BadBook_init) .none ikV_BadBook idc_BadBook ipm_BadBook ian_BadBook icd_BadBook ict_BadBook), isl_BadBook⟩)
    (ic_BadBook : PySem.W.codeIn K icd_BadBook "BadBook.__init__" = true)
    (ik_BadBook : PySem.W.keepIn K (.ref I_BadBook) = true)
    (in_BadBook_what : PySem.W.findIn K (.ref C_BadBook) "what" = some none)
    (ca_BadName : PySem.W.nsIn K mainGlobals "BadName" = some (some (.ref C_BadName)))
    (cl_BadName : K.lookup C_BadName = some (excClassObj nm_BadName q_BadName C_BadName N_BadName bs_BadName (.ref C_GenusError :: [.type "ValueError", .type "Exception", .type "BaseException", .type "object"]) true sn_BadName sub_BadName ab_BadName col_BadName dd_BadName m0_BadName m1_BadName m2_BadName m3_BadName m5_BadName "ValueError.__new__"))
    (cs_BadName : PySem.W.findIn K (.ref C_BadName) "__setattr__" = some (some (.builtin "object.__setattr__")))
    (cg_BadName : PySem.W.findIn K (.ref C_BadName) "__getattribute__" = some (some (.builtin "BaseException.__getattribute__")))
    (ch_BadName : PySem.W.findIn K (.ref C_BadName) "__getattr__" = some none)
    (cc_BadName : PySem.W.findIn K (.ref C_BadName) "__class__" = some (some (.builtin "object.__class__")))
    (ck_BadName : PySem.W.keepIn K (.ref C_BadName) = true)
    (ia_BadName : PySem.W.findIn K (.ref C_BadName) "__init__" = some (some (.ref I_BadName)))
    (it_BadName : PySem.W.typeIn K (.ref I_BadName) = some (.type "function"))
    (il_BadName : K.lookup I_BadName = some ⟨ioc_BadName, iod_BadName, .func (PySem.W.fnOf "__init__" "BadName.__init__" (defArgs s_BadName_init) (defBody s_BadName_init) (defScope s_BadName_init) .none ikV_BadName idc_BadName ipm_BadName ian_BadName icd_BadName ict_BadName), isl_BadName⟩)
    (ic_BadName : PySem.W.codeIn K icd_BadName "BadName.__init__" = true)
    (ik_BadName : PySem.W.keepIn K (.ref I_BadName) = true)
    (in_BadName_name : PySem.W.findIn K (.ref C_BadName) "name" = some none)
    (ca_BadText : PySem.W.nsIn K mainGlobals "BadText" = some (some (.ref C_BadText)))
    (cl_BadText : K.lookup C_BadText = some (excClassObj nm_BadText q_BadText C_BadText N_BadText bs_BadText (.ref C_GenusError :: [.type "ValueError", .type "Exception", .type "BaseException", .type "object"]) true sn_BadText sub_BadText ab_BadText col_BadText dd_BadText m0_BadText m1_BadText m2_BadText m3_BadText m5_BadText "ValueError.__new__"))
    (cs_BadText : PySem.W.findIn K (.ref C_BadText) "__setattr__" = some (some (.builtin "object.__setattr__")))
    (cg_BadText : PySem.W.findIn K (.ref C_BadText) "__getattribute__" = some (some (.builtin "BaseException.__getattribute__")))
    (ch_BadText : PySem.W.findIn K (.ref C_BadText) "__getattr__" = some none)
    (cc_BadText : PySem.W.findIn K (.ref C_BadText) "__class__" = some (some (.builtin "object.__class__")))
    (ck_BadText : PySem.W.keepIn K (.ref C_BadText) = true)
    (ia_BadText : PySem.W.findIn K (.ref C_BadText) "__init__" = some (some (.ref I_BadText)))
    (it_BadText : PySem.W.typeIn K (.ref I_BadText) = some (.type "function"))
    (il_BadText : K.lookup I_BadText = some ⟨ioc_BadText, iod_BadText, .func (PySem.W.fnOf "__init__" "BadText.__init__" (defArgs s_BadText_init) (defBody s_BadText_init) (defScope s_BadText_init) .none ikV_BadText idc_BadText ipm_BadText ian_BadText icd_BadText ict_BadText), isl_BadText⟩)
    (ic_BadText : PySem.W.codeIn K icd_BadText "BadText.__init__" = true)
    (ik_BadText : PySem.W.keepIn K (.ref I_BadText) = true)
    (in_BadText_line : PySem.W.findIn K (.ref C_BadText) "line" = some none)
    (in_BadText_word : PySem.W.findIn K (.ref C_BadText) "word" = some none)
    (ca_NoPlace : PySem.W.nsIn K mainGlobals "NoPlace" = some (some (.ref C_NoPlace)))
    (cl_NoPlace : K.lookup C_NoPlace = some (excClassObj nm_NoPlace q_NoPlace C_NoPlace N_NoPlace bs_NoPlace (.ref C_GenusError :: [.type "ValueError", .type "Exception", .type "BaseException", .type "object"]) true sn_NoPlace sub_NoPlace ab_NoPlace col_NoPlace dd_NoPlace m0_NoPlace m1_NoPlace m2_NoPlace m3_NoPlace m5_NoPlace "ValueError.__new__"))
    (cs_NoPlace : PySem.W.findIn K (.ref C_NoPlace) "__setattr__" = some (some (.builtin "object.__setattr__")))
    (cg_NoPlace : PySem.W.findIn K (.ref C_NoPlace) "__getattribute__" = some (some (.builtin "BaseException.__getattribute__")))
    (ch_NoPlace : PySem.W.findIn K (.ref C_NoPlace) "__getattr__" = some none)
    (cc_NoPlace : PySem.W.findIn K (.ref C_NoPlace) "__class__" = some (some (.builtin "object.__class__")))
    (ck_NoPlace : PySem.W.keepIn K (.ref C_NoPlace) = true)
    (ia_NoPlace : PySem.W.findIn K (.ref C_NoPlace) "__init__" = some (some (.ref I_NoPlace)))
    (it_NoPlace : PySem.W.typeIn K (.ref I_NoPlace) = some (.type "function"))
    (il_NoPlace : K.lookup I_NoPlace = some ⟨ioc_NoPlace, iod_NoPlace, .func (PySem.W.fnOf "__init__" "NoPlace.__init__" (defArgs s_NoPlace_init) (defBody s_NoPlace_init) (defScope s_NoPlace_init) .none ikV_NoPlace idc_NoPlace ipm_NoPlace ian_NoPlace icd_NoPlace ict_NoPlace), isl_NoPlace⟩)
    (ic_NoPlace : PySem.W.codeIn K icd_NoPlace "NoPlace.__init__" = true)
    (ik_NoPlace : PySem.W.keepIn K (.ref I_NoPlace) = true)
    (in_NoPlace_what : PySem.W.findIn K (.ref C_NoPlace) "what" = some none)
    (in_NoPlace_index : PySem.W.findIn K (.ref C_NoPlace) "index" = some none)
    (ca_NoName : PySem.W.nsIn K mainGlobals "NoName" = some (some (.ref C_NoName)))
    (cl_NoName : K.lookup C_NoName = some (excClassObj nm_NoName q_NoName C_NoName N_NoName bs_NoName (.ref C_GenusError :: [.type "ValueError", .type "Exception", .type "BaseException", .type "object"]) true sn_NoName sub_NoName ab_NoName col_NoName dd_NoName m0_NoName m1_NoName m2_NoName m3_NoName m5_NoName "ValueError.__new__"))
    (cs_NoName : PySem.W.findIn K (.ref C_NoName) "__setattr__" = some (some (.builtin "object.__setattr__")))
    (cg_NoName : PySem.W.findIn K (.ref C_NoName) "__getattribute__" = some (some (.builtin "BaseException.__getattribute__")))
    (ch_NoName : PySem.W.findIn K (.ref C_NoName) "__getattr__" = some none)
    (cc_NoName : PySem.W.findIn K (.ref C_NoName) "__class__" = some (some (.builtin "object.__class__")))
    (ck_NoName : PySem.W.keepIn K (.ref C_NoName) = true)
    (ia_NoName : PySem.W.findIn K (.ref C_NoName) "__init__" = some (some (.ref I_NoName)))
    (it_NoName : PySem.W.typeIn K (.ref I_NoName) = some (.type "function"))
    (il_NoName : K.lookup I_NoName = some ⟨ioc_NoName, iod_NoName, .func (PySem.W.fnOf "__init__" "NoName.__init__" (defArgs s_NoName_init) (defBody s_NoName_init) (defScope s_NoName_init) .none ikV_NoName idc_NoName ipm_NoName ian_NoName icd_NoName ict_NoName), isl_NoName⟩)
    (ic_NoName : PySem.W.codeIn K icd_NoName "NoName.__init__" = true)
    (ik_NoName : PySem.W.keepIn K (.ref I_NoName) = true)
    (in_NoName_name : PySem.W.findIn K (.ref C_NoName) "name" = some none)
    (ca_TakenName : PySem.W.nsIn K mainGlobals "TakenName" = some (some (.ref C_TakenName)))
    (cl_TakenName : K.lookup C_TakenName = some (excClassObj nm_TakenName q_TakenName C_TakenName N_TakenName bs_TakenName (.ref C_GenusError :: [.type "ValueError", .type "Exception", .type "BaseException", .type "object"]) true sn_TakenName sub_TakenName ab_TakenName col_TakenName dd_TakenName m0_TakenName m1_TakenName m2_TakenName m3_TakenName m5_TakenName "ValueError.__new__"))
    (cs_TakenName : PySem.W.findIn K (.ref C_TakenName) "__setattr__" = some (some (.builtin "object.__setattr__")))
    (cg_TakenName : PySem.W.findIn K (.ref C_TakenName) "__getattribute__" = some (some (.builtin "BaseException.__getattribute__")))
    (ch_TakenName : PySem.W.findIn K (.ref C_TakenName) "__getattr__" = some none)
    (cc_TakenName : PySem.W.findIn K (.ref C_TakenName) "__class__" = some (some (.builtin "object.__class__")))
    (ck_TakenName : PySem.W.keepIn K (.ref C_TakenName) = true)
    (ia_TakenName : PySem.W.findIn K (.ref C_TakenName) "__init__" = some (some (.ref I_TakenName)))
    (it_TakenName : PySem.W.typeIn K (.ref I_TakenName) = some (.type "function"))
    (il_TakenName : K.lookup I_TakenName = some ⟨ioc_TakenName, iod_TakenName, .func (PySem.W.fnOf "__init__" "TakenName.__init__" (defArgs s_TakenName_init) (defBody s_TakenName_init) (defScope s_TakenName_init) .none ikV_TakenName idc_TakenName ipm_TakenName ian_TakenName icd_TakenName ict_TakenName), isl_TakenName⟩)
    (ic_TakenName : PySem.W.codeIn K icd_TakenName "TakenName.__init__" = true)
    (ik_TakenName : PySem.W.keepIn K (.ref I_TakenName) = true)
    (in_TakenName_name : PySem.W.findIn K (.ref C_TakenName) "name" = some none)
    (ca_Unlike : PySem.W.nsIn K mainGlobals "Unlike" = some (some (.ref C_Unlike)))
    (cl_Unlike : K.lookup C_Unlike = some (excClassObj nm_Unlike q_Unlike C_Unlike N_Unlike bs_Unlike (.ref C_GenusError :: [.type "ValueError", .type "Exception", .type "BaseException", .type "object"]) true sn_Unlike sub_Unlike ab_Unlike col_Unlike dd_Unlike m0_Unlike m1_Unlike m2_Unlike m3_Unlike m5_Unlike "ValueError.__new__"))
    (cs_Unlike : PySem.W.findIn K (.ref C_Unlike) "__setattr__" = some (some (.builtin "object.__setattr__")))
    (cg_Unlike : PySem.W.findIn K (.ref C_Unlike) "__getattribute__" = some (some (.builtin "BaseException.__getattribute__")))
    (ch_Unlike : PySem.W.findIn K (.ref C_Unlike) "__getattr__" = some none)
    (cc_Unlike : PySem.W.findIn K (.ref C_Unlike) "__class__" = some (some (.builtin "object.__class__")))
    (ck_Unlike : PySem.W.keepIn K (.ref C_Unlike) = true)
    (ia_Unlike : PySem.W.findIn K (.ref C_Unlike) "__init__" = some (some (.ref I_Unlike)))
    (it_Unlike : PySem.W.typeIn K (.ref I_Unlike) = some (.type "function"))
    (il_Unlike : K.lookup I_Unlike = some ⟨ioc_Unlike, iod_Unlike, .func (PySem.W.fnOf "__init__" "Unlike.__init__" (defArgs s_Unlike_init) (defBody s_Unlike_init) (defScope s_Unlike_init) .none ikV_Unlike idc_Unlike ipm_Unlike ian_Unlike icd_Unlike ict_Unlike), isl_Unlike⟩)
    (ic_Unlike : PySem.W.codeIn K icd_Unlike "Unlike.__init__" = true)
    (ik_Unlike : PySem.W.keepIn K (.ref I_Unlike) = true)
    (in_Unlike_what : PySem.W.findIn K (.ref C_Unlike) "what" = some none)
    (ca_NotThere : PySem.W.nsIn K mainGlobals "NotThere" = some (some (.ref C_NotThere)))
    (cl_NotThere : K.lookup C_NotThere = some (excClassObj nm_NotThere q_NotThere C_NotThere N_NotThere bs_NotThere (.ref C_GenusError :: [.type "ValueError", .type "Exception", .type "BaseException", .type "object"]) true sn_NotThere sub_NotThere ab_NotThere col_NotThere dd_NotThere m0_NotThere m1_NotThere m2_NotThere m3_NotThere m5_NotThere "ValueError.__new__"))
    (cs_NotThere : PySem.W.findIn K (.ref C_NotThere) "__setattr__" = some (some (.builtin "object.__setattr__")))
    (cg_NotThere : PySem.W.findIn K (.ref C_NotThere) "__getattribute__" = some (some (.builtin "BaseException.__getattribute__")))
    (ch_NotThere : PySem.W.findIn K (.ref C_NotThere) "__getattr__" = some none)
    (cc_NotThere : PySem.W.findIn K (.ref C_NotThere) "__class__" = some (some (.builtin "object.__class__")))
    (ck_NotThere : PySem.W.keepIn K (.ref C_NotThere) = true)
    (ia_NotThere : PySem.W.findIn K (.ref C_NotThere) "__init__" = some (some (.ref I_NotThere)))
    (it_NotThere : PySem.W.typeIn K (.ref I_NotThere) = some (.type "function"))
    (il_NotThere : K.lookup I_NotThere = some ⟨ioc_NotThere, iod_NotThere, .func (PySem.W.fnOf "__init__" "NotThere.__init__" (defArgs s_NotThere_init) (defBody s_NotThere_init) (defScope s_NotThere_init) .none ikV_NotThere idc_NotThere ipm_NotThere ian_NotThere icd_NotThere ict_NotThere), isl_NotThere⟩)
    (ic_NotThere : PySem.W.codeIn K icd_NotThere "NotThere.__init__" = true)
    (ik_NotThere : PySem.W.keepIn K (.ref I_NotThere) = true)
    (in_NotThere_paper : PySem.W.findIn K (.ref C_NotThere) "paper" = some none)
    (ca_TooMany : PySem.W.nsIn K mainGlobals "TooMany" = some (some (.ref C_TooMany)))
    (cl_TooMany : K.lookup C_TooMany = some (excClassObj nm_TooMany q_TooMany C_TooMany N_TooMany bs_TooMany (.ref C_GenusError :: [.type "ValueError", .type "Exception", .type "BaseException", .type "object"]) true sn_TooMany sub_TooMany ab_TooMany col_TooMany dd_TooMany m0_TooMany m1_TooMany m2_TooMany m3_TooMany m5_TooMany "ValueError.__new__"))
    (cs_TooMany : PySem.W.findIn K (.ref C_TooMany) "__setattr__" = some (some (.builtin "object.__setattr__")))
    (cg_TooMany : PySem.W.findIn K (.ref C_TooMany) "__getattribute__" = some (some (.builtin "BaseException.__getattribute__")))
    (ch_TooMany : PySem.W.findIn K (.ref C_TooMany) "__getattr__" = some none)
    (cc_TooMany : PySem.W.findIn K (.ref C_TooMany) "__class__" = some (some (.builtin "object.__class__")))
    (ck_TooMany : PySem.W.keepIn K (.ref C_TooMany) = true)
    (ia_TooMany : PySem.W.findIn K (.ref C_TooMany) "__init__" = some (some (.ref I_TooMany)))
    (it_TooMany : PySem.W.typeIn K (.ref I_TooMany) = some (.type "function"))
    (il_TooMany : K.lookup I_TooMany = some ⟨ioc_TooMany, iod_TooMany, .func (PySem.W.fnOf "__init__" "TooMany.__init__" (defArgs s_TooMany_init) (defBody s_TooMany_init) (defScope s_TooMany_init) .none ikV_TooMany idc_TooMany ipm_TooMany ian_TooMany icd_TooMany ict_TooMany), isl_TooMany⟩)
    (ic_TooMany : PySem.W.codeIn K icd_TooMany "TooMany.__init__" = true)
    (ik_TooMany : PySem.W.keepIn K (.ref I_TooMany) = true)
    (in_TooMany_what : PySem.W.findIn K (.ref C_TooMany) "what" = some none)
    (in_TooMany_many : PySem.W.findIn K (.ref C_TooMany) "many" = some none)
    (in_TooMany_limit : PySem.W.findIn K (.ref C_TooMany) "limit" = some none)
    (ca_NotKept : PySem.W.nsIn K mainGlobals "NotKept" = some (some (.ref C_NotKept)))
    (cl_NotKept : K.lookup C_NotKept = some (excClassObj nm_NotKept q_NotKept C_NotKept N_NotKept bs_NotKept (.ref C_GenusError :: [.type "ValueError", .type "Exception", .type "BaseException", .type "object"]) true sn_NotKept sub_NotKept ab_NotKept col_NotKept dd_NotKept m0_NotKept m1_NotKept m2_NotKept m3_NotKept m5_NotKept "ValueError.__new__"))
    (cs_NotKept : PySem.W.findIn K (.ref C_NotKept) "__setattr__" = some (some (.builtin "object.__setattr__")))
    (cg_NotKept : PySem.W.findIn K (.ref C_NotKept) "__getattribute__" = some (some (.builtin "BaseException.__getattribute__")))
    (ch_NotKept : PySem.W.findIn K (.ref C_NotKept) "__getattr__" = some none)
    (cc_NotKept : PySem.W.findIn K (.ref C_NotKept) "__class__" = some (some (.builtin "object.__class__")))
    (ck_NotKept : PySem.W.keepIn K (.ref C_NotKept) = true)
    (ia_NotKept : PySem.W.findIn K (.ref C_NotKept) "__init__" = some (some (.ref I_NotKept)))
    (it_NotKept : PySem.W.typeIn K (.ref I_NotKept) = some (.type "function"))
    (il_NotKept : K.lookup I_NotKept = some ⟨ioc_NotKept, iod_NotKept, .func (PySem.W.fnOf "__init__" "NotKept.__init__" (defArgs s_NotKept_init) (defBody s_NotKept_init) (defScope s_NotKept_init) .none ikV_NotKept idc_NotKept ipm_NotKept ian_NotKept icd_NotKept ict_NotKept), isl_NotKept⟩)
    (ic_NotKept : PySem.W.codeIn K icd_NotKept "NotKept.__init__" = true)
    (ik_NotKept : PySem.W.keepIn K (.ref I_NotKept) = true)
    (in_NotKept_promise : PySem.W.findIn K (.ref C_NotKept) "promise" = some none)
    (in_NotKept_witness : PySem.W.findIn K (.ref C_NotKept) "witness" = some none)
    (ca_NothingToUndo : PySem.W.nsIn K mainGlobals "NothingToUndo" = some (some (.ref C_NothingToUndo)))
    (cl_NothingToUndo : K.lookup C_NothingToUndo = some (excClassObj nm_NothingToUndo q_NothingToUndo C_NothingToUndo N_NothingToUndo bs_NothingToUndo (.ref C_GenusError :: [.type "ValueError", .type "Exception", .type "BaseException", .type "object"]) true sn_NothingToUndo sub_NothingToUndo ab_NothingToUndo col_NothingToUndo dd_NothingToUndo m0_NothingToUndo m1_NothingToUndo m2_NothingToUndo m3_NothingToUndo m5_NothingToUndo "ValueError.__new__"))
    (cs_NothingToUndo : PySem.W.findIn K (.ref C_NothingToUndo) "__setattr__" = some (some (.builtin "object.__setattr__")))
    (cg_NothingToUndo : PySem.W.findIn K (.ref C_NothingToUndo) "__getattribute__" = some (some (.builtin "BaseException.__getattribute__")))
    (ch_NothingToUndo : PySem.W.findIn K (.ref C_NothingToUndo) "__getattr__" = some none)
    (cc_NothingToUndo : PySem.W.findIn K (.ref C_NothingToUndo) "__class__" = some (some (.builtin "object.__class__")))
    (ck_NothingToUndo : PySem.W.keepIn K (.ref C_NothingToUndo) = true)
    (cx_NothingToUndo : PySem.W.excIn K C_NothingToUndo [.type "ValueError", .type "Exception", .type "BaseException", .type "object"] "ValueError.__new__" = true)
    (ca_NothingToRedo : PySem.W.nsIn K mainGlobals "NothingToRedo" = some (some (.ref C_NothingToRedo)))
    (cl_NothingToRedo : K.lookup C_NothingToRedo = some (excClassObj nm_NothingToRedo q_NothingToRedo C_NothingToRedo N_NothingToRedo bs_NothingToRedo (.ref C_GenusError :: [.type "ValueError", .type "Exception", .type "BaseException", .type "object"]) true sn_NothingToRedo sub_NothingToRedo ab_NothingToRedo col_NothingToRedo dd_NothingToRedo m0_NothingToRedo m1_NothingToRedo m2_NothingToRedo m3_NothingToRedo m5_NothingToRedo "ValueError.__new__"))
    (cs_NothingToRedo : PySem.W.findIn K (.ref C_NothingToRedo) "__setattr__" = some (some (.builtin "object.__setattr__")))
    (cg_NothingToRedo : PySem.W.findIn K (.ref C_NothingToRedo) "__getattribute__" = some (some (.builtin "BaseException.__getattribute__")))
    (ch_NothingToRedo : PySem.W.findIn K (.ref C_NothingToRedo) "__getattr__" = some none)
    (cc_NothingToRedo : PySem.W.findIn K (.ref C_NothingToRedo) "__class__" = some (some (.builtin "object.__class__")))
    (ck_NothingToRedo : PySem.W.keepIn K (.ref C_NothingToRedo) = true)
    (cx_NothingToRedo : PySem.W.excIn K C_NothingToRedo [.type "ValueError", .type "Exception", .type "BaseException", .type "object"] "ValueError.__new__" = true)
    (nod : [C_GenusError, C_BadNumber, C_BadRow, C_BadTable, C_BadForm, C_BadBook, C_BadName, C_BadText, C_NoPlace, C_NoName, C_TakenName, C_Unlike, C_NotThere, C_TooMany, C_NotKept, C_NothingToUndo, C_NothingToRedo].Nodup)
    : ∃ a : Ad, Tx K mg a ∧ a.f_law = fa ∧ (∀ (s : Shared) (v : Value), BindsTo s a.d_law ⟨[v], []⟩ [("script", v)]) ∧ (∀ p ∈ tbs a, K.lookup p.2 = none) ∧ ∀ p ∈ tbs a, ∃ x ∈ (["_law_made_right", "_law_reckoned_right", "_law_refused_right", "_law_rows_right"] : List Str), PySem.W.tabIn K x = some p := by
  have e := hfa.symm.trans (PySem.W.mg_of X G a53)
  cases e
  have F0 := fun_mk (st := s_is_integer) l0 c0 k0
  have F1 := fun_mk (st := s_is_ratio) l1 c1 k1
  have F2 := fun_mk (st := s_pair) l2 c2 k2
  have F3 := fun_mk (st := s_in_lowest) l3 c3 k3
  have F4 := fun_mk (st := s_ratio) l4 c4 k4
  have F5 := fun_mk (st := s_need_ratios) l5 c5 k5
  have F6 := fun_mk (st := s_plus) l6 c6 k6
  have F7 := fun_mk (st := s_added) l7 c7 k7
  have F8 := fun_mk (st := s_minus) l8 c8 k8
  have F9 := fun_mk (st := s_opposite) l9 c9 k9
  have F10 := fun_mk (st := s_times) l10 c10 k10
  have F11 := fun_mk (st := s_multiplied) l11 c11 k11
  have F12 := fun_mk (st := s_over) l12 c12 k12
  have F13 := fun_mk (st := s_divided) l13 c13 k13
  have F14 := fun_mk (st := s_sign) l14 c14 k14
  have F15 := fun_mk (st := s_sign_of) l15 c15 k15
  have F16 := fun_mk (st := s_below) l16 c16 k16
  have F17 := fun_mk (st := s_is_below) l17 c17 k17
  have F18 := fun_mk (st := s_dot) l18 c18 k18
  have F19 := fun_mk (st := s_summed) l19 c19 k19
  have F20 := fun_mk (st := s__law_pen) l20 c20 k20
  have F21 := fun_mk (st := s__law_draw) l21 c21 k21
  have F22 := fun_mk (st := s__law_pick) l22 c22 k22
  have F23 := fun_mk (st := s__law_is) l23 c23 k23
  have F24 := fun_mk (st := s__law_says) l24 c24 k24
  have F25 := fun_mk (st := s__law_divisor) l25 c25 k25
  have F26 := fun_mk (st := s__law_low) l26 c26 k26
  have F27 := fun_mk (st := s__law_pair) l27 c27 k27
  have F28 := fun_mk (st := s__law_plus) l28 c28 k28
  have F29 := fun_mk (st := s__law_opposite) l29 c29 k29
  have F30 := fun_mk (st := s__law_minus) l30 c30 k30
  have F31 := fun_mk (st := s__law_times) l31 c31 k31
  have F32 := fun_mk (st := s__law_over) l32 c32 k32
  have F33 := fun_mk (st := s__law_sign) l33 c33 k33
  have F34 := fun_mk (st := s__law_less) l34 c34 k34
  have F35 := fun_mk (st := s__law_dot) l35 c35 k35
  have F36 := fun_mk (st := s__law_is_list) l36 c36 k36
  have F37 := fun_mk (st := s__law_is_ratio) l37 c37 k37
  have F38 := fun_mk (st := s__law_is_whole) l38 c38 k38
  have F39 := fun_mk (st := s__law_is_any_row) l39 c39 k39
  have F40 := fun_mk (st := s__law_number) l40 c40 k40
  have F41 := fun_mk (st := s__law_wide) l41 c41 k41
  have F42 := fun_mk (st := s__law_size) l42 c42 k42
  have F43 := fun_mk (st := s__law_row) l43 c43 k43
  have F44 := fun_mk (st := s__law_odd) l44 c44 k44
  have F45 := fun_mk (st := s__law_bent_row) l45 c45 k45
  have F46 := fun_mk (st := s__law_fault) l46 c46 k46
  have F47 := fun_mk (st := s__law_kinds) l47 c47 k47
  have F48 := fun_mk (st := s__law_more_kinds) l48 c48 k48
  have F49 := fun_mk (st := s__law_made_right) l49 c49 k49
  have F50 := fun_mk (st := s__law_reckoned_right) l50 c50 k50
  have F51 := fun_mk (st := s__law_refused_right) l51 c51 k51
  have F52 := fun_mk (st := s__law_rows_right) l52 c52 k52
  have F53 := fun_mk (st := s_law) l53 c53 k53
  have Fi_BadNumber := fun_mk (st := s_BadNumber_init) il_BadNumber ic_BadNumber ik_BadNumber
  have Fi_BadRow := fun_mk (st := s_BadRow_init) il_BadRow ic_BadRow ik_BadRow
  have Fi_BadTable := fun_mk (st := s_BadTable_init) il_BadTable ic_BadTable ik_BadTable
  have Fi_BadForm := fun_mk (st := s_BadForm_init) il_BadForm ic_BadForm ik_BadForm
  have Fi_BadBook := fun_mk (st := s_BadBook_init) il_BadBook ic_BadBook ik_BadBook
  have Fi_BadName := fun_mk (st := s_BadName_init) il_BadName ic_BadName ik_BadName
  have Fi_BadText := fun_mk (st := s_BadText_init) il_BadText ic_BadText ik_BadText
  have Fi_NoPlace := fun_mk (st := s_NoPlace_init) il_NoPlace ic_NoPlace ik_NoPlace
  have Fi_NoName := fun_mk (st := s_NoName_init) il_NoName ic_NoName ik_NoName
  have Fi_TakenName := fun_mk (st := s_TakenName_init) il_TakenName ic_TakenName ik_TakenName
  have Fi_Unlike := fun_mk (st := s_Unlike_init) il_Unlike ic_Unlike ik_Unlike
  have Fi_NotThere := fun_mk (st := s_NotThere_init) il_NotThere ic_NotThere ik_NotThere
  have Fi_TooMany := fun_mk (st := s_TooMany_init) il_TooMany ic_TooMany ik_TooMany
  have Fi_NotKept := fun_mk (st := s_NotKept_init) il_NotKept ic_NotKept ik_NotKept
  have ti49 : PySem.W.tabIn K "_law_made_right" = some (cc49, tb49) := by simp only [PySem.W.tabIn, a49, l49, lc49, lt49, PySem.W.fnOf]
  have ti50 : PySem.W.tabIn K "_law_reckoned_right" = some (cc50, tb50) := by simp only [PySem.W.tabIn, a50, l50, lc50, lt50, PySem.W.fnOf]
  have ti51 : PySem.W.tabIn K "_law_refused_right" = some (cc51, tb51) := by simp only [PySem.W.tabIn, a51, l51, lc51, lt51, PySem.W.fnOf]
  have ti52 : PySem.W.tabIn K "_law_rows_right" = some (cc52, tb52) := by simp only [PySem.W.tabIn, a52, l52, lc52, lt52, PySem.W.fnOf]
  refine ⟨{ f_is_integer := f0, d_is_integer := PySem.W.fnOf "is_integer" "is_integer" (defArgs s_is_integer) (defBody s_is_integer) (defScope s_is_integer) .none kV0 dc0 pm0 an0 cd0 ct0, f_is_ratio := f1, d_is_ratio := PySem.W.fnOf "is_ratio" "is_ratio" (defArgs s_is_ratio) (defBody s_is_ratio) (defScope s_is_ratio) .none kV1 dc1 pm1 an1 cd1 ct1, f_pair := f2, d_pair := PySem.W.fnOf "pair" "pair" (defArgs s_pair) (defBody s_pair) (defScope s_pair) .none kV2 dc2 pm2 an2 cd2 ct2, f_in_lowest := f3, d_in_lowest := PySem.W.fnOf "in_lowest" "in_lowest" (defArgs s_in_lowest) (defBody s_in_lowest) (defScope s_in_lowest) .none kV3 dc3 pm3 an3 cd3 ct3, f_ratio := f4, d_ratio := PySem.W.fnOf "ratio" "ratio" (defArgs s_ratio) (defBody s_ratio) (defScope s_ratio) .none kV4 dc4 pm4 an4 cd4 ct4, f_need_ratios := f5, d_need_ratios := PySem.W.fnOf "need_ratios" "need_ratios" (defArgs s_need_ratios) (defBody s_need_ratios) (defScope s_need_ratios) .none kV5 dc5 pm5 an5 cd5 ct5, f_plus := f6, d_plus := PySem.W.fnOf "plus" "plus" (defArgs s_plus) (defBody s_plus) (defScope s_plus) .none kV6 dc6 pm6 an6 cd6 ct6, f_added := f7, d_added := PySem.W.fnOf "added" "added" (defArgs s_added) (defBody s_added) (defScope s_added) .none kV7 dc7 pm7 an7 cd7 ct7, f_minus := f8, d_minus := PySem.W.fnOf "minus" "minus" (defArgs s_minus) (defBody s_minus) (defScope s_minus) .none kV8 dc8 pm8 an8 cd8 ct8, f_opposite := f9, d_opposite := PySem.W.fnOf "opposite" "opposite" (defArgs s_opposite) (defBody s_opposite) (defScope s_opposite) .none kV9 dc9 pm9 an9 cd9 ct9, f_times := f10, d_times := PySem.W.fnOf "times" "times" (defArgs s_times) (defBody s_times) (defScope s_times) .none kV10 dc10 pm10 an10 cd10 ct10, f_multiplied := f11, d_multiplied := PySem.W.fnOf "multiplied" "multiplied" (defArgs s_multiplied) (defBody s_multiplied) (defScope s_multiplied) .none kV11 dc11 pm11 an11 cd11 ct11, f_over := f12, d_over := PySem.W.fnOf "over" "over" (defArgs s_over) (defBody s_over) (defScope s_over) .none kV12 dc12 pm12 an12 cd12 ct12, f_divided := f13, d_divided := PySem.W.fnOf "divided" "divided" (defArgs s_divided) (defBody s_divided) (defScope s_divided) .none kV13 dc13 pm13 an13 cd13 ct13, f_sign := f14, d_sign := PySem.W.fnOf "sign" "sign" (defArgs s_sign) (defBody s_sign) (defScope s_sign) .none kV14 dc14 pm14 an14 cd14 ct14, f_sign_of := f15, d_sign_of := PySem.W.fnOf "sign_of" "sign_of" (defArgs s_sign_of) (defBody s_sign_of) (defScope s_sign_of) .none kV15 dc15 pm15 an15 cd15 ct15, f_below := f16, d_below := PySem.W.fnOf "below" "below" (defArgs s_below) (defBody s_below) (defScope s_below) .none kV16 dc16 pm16 an16 cd16 ct16, f_is_below := f17, d_is_below := PySem.W.fnOf "is_below" "is_below" (defArgs s_is_below) (defBody s_is_below) (defScope s_is_below) .none kV17 dc17 pm17 an17 cd17 ct17, f_dot := f18, d_dot := PySem.W.fnOf "dot" "dot" (defArgs s_dot) (defBody s_dot) (defScope s_dot) .none kV18 dc18 pm18 an18 cd18 ct18, f_summed := f19, d_summed := PySem.W.fnOf "summed" "summed" (defArgs s_summed) (defBody s_summed) (defScope s_summed) .none kV19 dc19 pm19 an19 cd19 ct19, f__law_pen := f20, d__law_pen := PySem.W.fnOf "_law_pen" "_law_pen" (defArgs s__law_pen) (defBody s__law_pen) (defScope s__law_pen) .none kV20 dc20 pm20 an20 cd20 ct20, f__law_draw := f21, d__law_draw := PySem.W.fnOf "_law_draw" "_law_draw" (defArgs s__law_draw) (defBody s__law_draw) (defScope s__law_draw) .none kV21 dc21 pm21 an21 cd21 ct21, f__law_pick := f22, d__law_pick := PySem.W.fnOf "_law_pick" "_law_pick" (defArgs s__law_pick) (defBody s__law_pick) (defScope s__law_pick) .none kV22 dc22 pm22 an22 cd22 ct22, f__law_is := f23, d__law_is := PySem.W.fnOf "_law_is" "_law_is" (defArgs s__law_is) (defBody s__law_is) (defScope s__law_is) .none kV23 dc23 pm23 an23 cd23 ct23, f__law_says := f24, d__law_says := PySem.W.fnOf "_law_says" "_law_says" (defArgs s__law_says) (defBody s__law_says) (defScope s__law_says) .none kV24 dc24 pm24 an24 cd24 ct24, f__law_divisor := f25, d__law_divisor := PySem.W.fnOf "_law_divisor" "_law_divisor" (defArgs s__law_divisor) (defBody s__law_divisor) (defScope s__law_divisor) .none kV25 dc25 pm25 an25 cd25 ct25, f__law_low := f26, d__law_low := PySem.W.fnOf "_law_low" "_law_low" (defArgs s__law_low) (defBody s__law_low) (defScope s__law_low) .none kV26 dc26 pm26 an26 cd26 ct26, f__law_pair := f27, d__law_pair := PySem.W.fnOf "_law_pair" "_law_pair" (defArgs s__law_pair) (defBody s__law_pair) (defScope s__law_pair) .none kV27 dc27 pm27 an27 cd27 ct27, f__law_plus := f28, d__law_plus := PySem.W.fnOf "_law_plus" "_law_plus" (defArgs s__law_plus) (defBody s__law_plus) (defScope s__law_plus) .none kV28 dc28 pm28 an28 cd28 ct28, f__law_opposite := f29, d__law_opposite := PySem.W.fnOf "_law_opposite" "_law_opposite" (defArgs s__law_opposite) (defBody s__law_opposite) (defScope s__law_opposite) .none kV29 dc29 pm29 an29 cd29 ct29, f__law_minus := f30, d__law_minus := PySem.W.fnOf "_law_minus" "_law_minus" (defArgs s__law_minus) (defBody s__law_minus) (defScope s__law_minus) .none kV30 dc30 pm30 an30 cd30 ct30, f__law_times := f31, d__law_times := PySem.W.fnOf "_law_times" "_law_times" (defArgs s__law_times) (defBody s__law_times) (defScope s__law_times) .none kV31 dc31 pm31 an31 cd31 ct31, f__law_over := f32, d__law_over := PySem.W.fnOf "_law_over" "_law_over" (defArgs s__law_over) (defBody s__law_over) (defScope s__law_over) .none kV32 dc32 pm32 an32 cd32 ct32, f__law_sign := f33, d__law_sign := PySem.W.fnOf "_law_sign" "_law_sign" (defArgs s__law_sign) (defBody s__law_sign) (defScope s__law_sign) .none kV33 dc33 pm33 an33 cd33 ct33, f__law_less := f34, d__law_less := PySem.W.fnOf "_law_less" "_law_less" (defArgs s__law_less) (defBody s__law_less) (defScope s__law_less) .none kV34 dc34 pm34 an34 cd34 ct34, f__law_dot := f35, d__law_dot := PySem.W.fnOf "_law_dot" "_law_dot" (defArgs s__law_dot) (defBody s__law_dot) (defScope s__law_dot) .none kV35 dc35 pm35 an35 cd35 ct35, f__law_is_list := f36, d__law_is_list := PySem.W.fnOf "_law_is_list" "_law_is_list" (defArgs s__law_is_list) (defBody s__law_is_list) (defScope s__law_is_list) .none kV36 dc36 pm36 an36 cd36 ct36, f__law_is_ratio := f37, d__law_is_ratio := PySem.W.fnOf "_law_is_ratio" "_law_is_ratio" (defArgs s__law_is_ratio) (defBody s__law_is_ratio) (defScope s__law_is_ratio) .none kV37 dc37 pm37 an37 cd37 ct37, f__law_is_whole := f38, d__law_is_whole := PySem.W.fnOf "_law_is_whole" "_law_is_whole" (defArgs s__law_is_whole) (defBody s__law_is_whole) (defScope s__law_is_whole) .none kV38 dc38 pm38 an38 cd38 ct38, f__law_is_any_row := f39, d__law_is_any_row := PySem.W.fnOf "_law_is_any_row" "_law_is_any_row" (defArgs s__law_is_any_row) (defBody s__law_is_any_row) (defScope s__law_is_any_row) .none kV39 dc39 pm39 an39 cd39 ct39, f__law_number := f40, d__law_number := PySem.W.fnOf "_law_number" "_law_number" (defArgs s__law_number) (defBody s__law_number) (defScope s__law_number) .none kV40 dc40 pm40 an40 cd40 ct40, f__law_wide := f41, d__law_wide := PySem.W.fnOf "_law_wide" "_law_wide" (defArgs s__law_wide) (defBody s__law_wide) (defScope s__law_wide) .none kV41 dc41 pm41 an41 cd41 ct41, f__law_size := f42, d__law_size := PySem.W.fnOf "_law_size" "_law_size" (defArgs s__law_size) (defBody s__law_size) (defScope s__law_size) .none kV42 dc42 pm42 an42 cd42 ct42, f__law_row := f43, d__law_row := PySem.W.fnOf "_law_row" "_law_row" (defArgs s__law_row) (defBody s__law_row) (defScope s__law_row) .none kV43 dc43 pm43 an43 cd43 ct43, f__law_odd := f44, d__law_odd := PySem.W.fnOf "_law_odd" "_law_odd" (defArgs s__law_odd) (defBody s__law_odd) (defScope s__law_odd) .none kV44 dc44 pm44 an44 cd44 ct44, f__law_bent_row := f45, d__law_bent_row := PySem.W.fnOf "_law_bent_row" "_law_bent_row" (defArgs s__law_bent_row) (defBody s__law_bent_row) (defScope s__law_bent_row) .none kV45 dc45 pm45 an45 cd45 ct45, f__law_fault := f46, d__law_fault := PySem.W.fnOf "_law_fault" "_law_fault" (defArgs s__law_fault) (defBody s__law_fault) (defScope s__law_fault) .none kV46 dc46 pm46 an46 cd46 ct46, f__law_kinds := f47, d__law_kinds := PySem.W.fnOf "_law_kinds" "_law_kinds" (defArgs s__law_kinds) (defBody s__law_kinds) (defScope s__law_kinds) .none kV47 dc47 pm47 an47 cd47 ct47, f__law_more_kinds := f48, d__law_more_kinds := PySem.W.fnOf "_law_more_kinds" "_law_more_kinds" (defArgs s__law_more_kinds) (defBody s__law_more_kinds) (defScope s__law_more_kinds) .none kV48 dc48 pm48 an48 cd48 ct48, f__law_made_right := f49, d__law_made_right := PySem.W.fnOf "_law_made_right" "_law_made_right" (defArgs s__law_made_right) (defBody s__law_made_right) (defScope s__law_made_right) .none kV49 dc49 pm49 an49 (.ref cc49) ct49, f__law_reckoned_right := f50, d__law_reckoned_right := PySem.W.fnOf "_law_reckoned_right" "_law_reckoned_right" (defArgs s__law_reckoned_right) (defBody s__law_reckoned_right) (defScope s__law_reckoned_right) .none kV50 dc50 pm50 an50 (.ref cc50) ct50, f__law_refused_right := f51, d__law_refused_right := PySem.W.fnOf "_law_refused_right" "_law_refused_right" (defArgs s__law_refused_right) (defBody s__law_refused_right) (defScope s__law_refused_right) .none kV51 dc51 pm51 an51 (.ref cc51) ct51, f__law_rows_right := f52, d__law_rows_right := PySem.W.fnOf "_law_rows_right" "_law_rows_right" (defArgs s__law_rows_right) (defBody s__law_rows_right) (defScope s__law_rows_right) .none kV52 dc52 pm52 an52 (.ref cc52) ct52, f_law := fa, d_law := PySem.W.fnOf "law" "law" (defArgs s_law) (defBody s_law) (defScope s_law) .none kV53 dc53 pm53 an53 cd53 ct53, cc__law_made_right := cc49, tb__law_made_right := tb49, cc__law_reckoned_right := cc50, tb__law_reckoned_right := tb50, cc__law_refused_right := cc51, tb__law_refused_right := tb51, cc__law_rows_right := cc52, tb__law_rows_right := tb52, c_GenusError := C_GenusError, c_BadNumber := C_BadNumber, i_BadNumber := I_BadNumber, di_BadNumber := PySem.W.fnOf "__init__" "BadNumber.__init__" (defArgs s_BadNumber_init) (defBody s_BadNumber_init) (defScope s_BadNumber_init) .none ikV_BadNumber idc_BadNumber ipm_BadNumber ian_BadNumber icd_BadNumber ict_BadNumber, c_BadRow := C_BadRow, i_BadRow := I_BadRow, di_BadRow := PySem.W.fnOf "__init__" "BadRow.__init__" (defArgs s_BadRow_init) (defBody s_BadRow_init) (defScope s_BadRow_init) .none ikV_BadRow idc_BadRow ipm_BadRow ian_BadRow icd_BadRow ict_BadRow, c_BadTable := C_BadTable, i_BadTable := I_BadTable, di_BadTable := PySem.W.fnOf "__init__" "BadTable.__init__" (defArgs s_BadTable_init) (defBody s_BadTable_init) (defScope s_BadTable_init) .none ikV_BadTable idc_BadTable ipm_BadTable ian_BadTable icd_BadTable ict_BadTable, c_BadForm := C_BadForm, i_BadForm := I_BadForm, di_BadForm := PySem.W.fnOf "__init__" "BadForm.__init__" (defArgs s_BadForm_init) (defBody s_BadForm_init) (defScope s_BadForm_init) .none ikV_BadForm idc_BadForm ipm_BadForm ian_BadForm icd_BadForm ict_BadForm, c_BadBook := C_BadBook, i_BadBook := I_BadBook, di_BadBook := PySem.W.fnOf "__init__" "BadBook.__init__" (defArgs s_BadBook_init) (defBody s_BadBook_init) (defScope s_BadBook_init) .none ikV_BadBook idc_BadBook ipm_BadBook ian_BadBook icd_BadBook ict_BadBook, c_BadName := C_BadName, i_BadName := I_BadName, di_BadName := PySem.W.fnOf "__init__" "BadName.__init__" (defArgs s_BadName_init) (defBody s_BadName_init) (defScope s_BadName_init) .none ikV_BadName idc_BadName ipm_BadName ian_BadName icd_BadName ict_BadName, c_BadText := C_BadText, i_BadText := I_BadText, di_BadText := PySem.W.fnOf "__init__" "BadText.__init__" (defArgs s_BadText_init) (defBody s_BadText_init) (defScope s_BadText_init) .none ikV_BadText idc_BadText ipm_BadText ian_BadText icd_BadText ict_BadText, c_NoPlace := C_NoPlace, i_NoPlace := I_NoPlace, di_NoPlace := PySem.W.fnOf "__init__" "NoPlace.__init__" (defArgs s_NoPlace_init) (defBody s_NoPlace_init) (defScope s_NoPlace_init) .none ikV_NoPlace idc_NoPlace ipm_NoPlace ian_NoPlace icd_NoPlace ict_NoPlace, c_NoName := C_NoName, i_NoName := I_NoName, di_NoName := PySem.W.fnOf "__init__" "NoName.__init__" (defArgs s_NoName_init) (defBody s_NoName_init) (defScope s_NoName_init) .none ikV_NoName idc_NoName ipm_NoName ian_NoName icd_NoName ict_NoName, c_TakenName := C_TakenName, i_TakenName := I_TakenName, di_TakenName := PySem.W.fnOf "__init__" "TakenName.__init__" (defArgs s_TakenName_init) (defBody s_TakenName_init) (defScope s_TakenName_init) .none ikV_TakenName idc_TakenName ipm_TakenName ian_TakenName icd_TakenName ict_TakenName, c_Unlike := C_Unlike, i_Unlike := I_Unlike, di_Unlike := PySem.W.fnOf "__init__" "Unlike.__init__" (defArgs s_Unlike_init) (defBody s_Unlike_init) (defScope s_Unlike_init) .none ikV_Unlike idc_Unlike ipm_Unlike ian_Unlike icd_Unlike ict_Unlike, c_NotThere := C_NotThere, i_NotThere := I_NotThere, di_NotThere := PySem.W.fnOf "__init__" "NotThere.__init__" (defArgs s_NotThere_init) (defBody s_NotThere_init) (defScope s_NotThere_init) .none ikV_NotThere idc_NotThere ipm_NotThere ian_NotThere icd_NotThere ict_NotThere, c_TooMany := C_TooMany, i_TooMany := I_TooMany, di_TooMany := PySem.W.fnOf "__init__" "TooMany.__init__" (defArgs s_TooMany_init) (defBody s_TooMany_init) (defScope s_TooMany_init) .none ikV_TooMany idc_TooMany ipm_TooMany ian_TooMany icd_TooMany ict_TooMany, c_NotKept := C_NotKept, i_NotKept := I_NotKept, di_NotKept := PySem.W.fnOf "__init__" "NotKept.__init__" (defArgs s_NotKept_init) (defBody s_NotKept_init) (defScope s_NotKept_init) .none ikV_NotKept idc_NotKept ipm_NotKept ian_NotKept icd_NotKept ict_NotKept, c_NothingToUndo := C_NothingToUndo, c_NothingToRedo := C_NothingToRedo }, ?_, rfl, fun s v => .of_eq rfl, ?_, ?_⟩
  rotate_left
  · exact fun p hp => by
      simp only [tbs, List.mem_cons, List.not_mem_nil, or_false] at hp
      rcases hp with rfl | rfl | rfl | rfl
      · exact nt49
      · exact nt50
      · exact nt51
      · exact nt52
  · exact fun p hp => by
      simp only [tbs, List.mem_cons, List.not_mem_nil, or_false] at hp
      rcases hp with rfl | rfl | rfl | rfl
      · exact ⟨"_law_made_right", by simp, ti49⟩
      · exact ⟨"_law_reckoned_right", by simp, ti50⟩
      · exact ⟨"_law_refused_right", by simp, ti51⟩
      · exact ⟨"_law_rows_right", by simp, ti52⟩
  exact { F_is_integer := F0, g_is_integer := PySem.W.mg_of X G a0, b_is_integer := F0.binds (fun _ _ _ _ _ _ us hl => match us, hl with | [_], _ => rfl), F_is_ratio := F1, g_is_ratio := PySem.W.mg_of X G a1, b_is_ratio := F1.binds (fun _ _ _ _ _ _ us hl => match us, hl with | [_], _ => rfl), F_pair := F2, g_pair := PySem.W.mg_of X G a2, b_pair := F2.binds (fun _ _ _ _ _ _ us hl => match us, hl with | [_], _ => rfl), F_in_lowest := F3, g_in_lowest := PySem.W.mg_of X G a3, b_in_lowest := F3.binds (fun _ _ _ _ _ _ us hl => match us, hl with | [_, _], _ => rfl), F_ratio := F4, g_ratio := PySem.W.mg_of X G a4, b_ratio := F4.binds (fun _ _ _ _ _ _ us hl => match us, hl with | [_, _], _ => rfl), F_need_ratios := F5, g_need_ratios := PySem.W.mg_of X G a5, b_need_ratios := F5.binds (fun _ _ _ _ _ _ us hl => match us, hl with | [_, _], _ => rfl), F_plus := F6, g_plus := PySem.W.mg_of X G a6, b_plus := F6.binds (fun _ _ _ _ _ _ us hl => match us, hl with | [_, _], _ => rfl), F_added := F7, g_added := PySem.W.mg_of X G a7, b_added := F7.binds (fun _ _ _ _ _ _ us hl => match us, hl with | [_, _], _ => rfl), F_minus := F8, g_minus := PySem.W.mg_of X G a8, b_minus := F8.binds (fun _ _ _ _ _ _ us hl => match us, hl with | [_, _], _ => rfl), F_opposite := F9, g_opposite := PySem.W.mg_of X G a9, b_opposite := F9.binds (fun _ _ _ _ _ _ us hl => match us, hl with | [_], _ => rfl), F_times := F10, g_times := PySem.W.mg_of X G a10, b_times := F10.binds (fun _ _ _ _ _ _ us hl => match us, hl with | [_, _], _ => rfl), F_multiplied := F11, g_multiplied := PySem.W.mg_of X G a11, b_multiplied := F11.binds (fun _ _ _ _ _ _ us hl => match us, hl with | [_, _], _ => rfl), F_over := F12, g_over := PySem.W.mg_of X G a12, b_over := F12.binds (fun _ _ _ _ _ _ us hl => match us, hl with | [_, _], _ => rfl), F_divided := F13, g_divided := PySem.W.mg_of X G a13, b_divided := F13.binds (fun _ _ _ _ _ _ us hl => match us, hl with | [_, _], _ => rfl), F_sign := F14, g_sign := PySem.W.mg_of X G a14, b_sign := F14.binds (fun _ _ _ _ _ _ us hl => match us, hl with | [_], _ => rfl), F_sign_of := F15, g_sign_of := PySem.W.mg_of X G a15, b_sign_of := F15.binds (fun _ _ _ _ _ _ us hl => match us, hl with | [_], _ => rfl), F_below := F16, g_below := PySem.W.mg_of X G a16, b_below := F16.binds (fun _ _ _ _ _ _ us hl => match us, hl with | [_, _], _ => rfl), F_is_below := F17, g_is_below := PySem.W.mg_of X G a17, b_is_below := F17.binds (fun _ _ _ _ _ _ us hl => match us, hl with | [_, _], _ => rfl), F_dot := F18, g_dot := PySem.W.mg_of X G a18, b_dot := F18.binds (fun _ _ _ _ _ _ us hl => match us, hl with | [_, _], _ => rfl), F_summed := F19, g_summed := PySem.W.mg_of X G a19, b_summed := F19.binds (fun _ _ _ _ _ _ us hl => match us, hl with | [_, _], _ => rfl), F__law_pen := F20, g__law_pen := PySem.W.mg_of X G a20, b__law_pen := F20.binds (fun _ _ _ _ _ _ us hl => match us, hl with | [_], _ => rfl), F__law_draw := F21, g__law_draw := PySem.W.mg_of X G a21, b__law_draw := F21.binds (fun _ _ _ _ _ _ us hl => match us, hl with | [_, _], _ => rfl), F__law_pick := F22, g__law_pick := PySem.W.mg_of X G a22, b__law_pick := F22.binds (fun _ _ _ _ _ _ us hl => match us, hl with | [_, _], _ => rfl), F__law_is := F23, g__law_is := PySem.W.mg_of X G a23, b__law_is := F23.binds (fun _ _ _ _ _ _ us hl => match us, hl with | [_, _], _ => rfl), F__law_says := F24, g__law_says := PySem.W.mg_of X G a24, b__law_says := F24.binds (fun _ _ _ _ _ _ us hl => match us, hl with | [_, _], _ => rfl), F__law_divisor := F25, g__law_divisor := PySem.W.mg_of X G a25, b__law_divisor := F25.binds (fun _ _ _ _ _ _ us hl => match us, hl with | [_, _], _ => rfl), F__law_low := F26, g__law_low := PySem.W.mg_of X G a26, b__law_low := F26.binds (fun _ _ _ _ _ _ us hl => match us, hl with | [_, _], _ => rfl), F__law_pair := F27, g__law_pair := PySem.W.mg_of X G a27, b__law_pair := F27.binds (fun _ _ _ _ _ _ us hl => match us, hl with | [_], _ => rfl), F__law_plus := F28, g__law_plus := PySem.W.mg_of X G a28, b__law_plus := F28.binds (fun _ _ _ _ _ _ us hl => match us, hl with | [_, _], _ => rfl), F__law_opposite := F29, g__law_opposite := PySem.W.mg_of X G a29, b__law_opposite := F29.binds (fun _ _ _ _ _ _ us hl => match us, hl with | [_], _ => rfl), F__law_minus := F30, g__law_minus := PySem.W.mg_of X G a30, b__law_minus := F30.binds (fun _ _ _ _ _ _ us hl => match us, hl with | [_, _], _ => rfl), F__law_times := F31, g__law_times := PySem.W.mg_of X G a31, b__law_times := F31.binds (fun _ _ _ _ _ _ us hl => match us, hl with | [_, _], _ => rfl), F__law_over := F32, g__law_over := PySem.W.mg_of X G a32, b__law_over := F32.binds (fun _ _ _ _ _ _ us hl => match us, hl with | [_, _], _ => rfl), F__law_sign := F33, g__law_sign := PySem.W.mg_of X G a33, b__law_sign := F33.binds (fun _ _ _ _ _ _ us hl => match us, hl with | [_], _ => rfl), F__law_less := F34, g__law_less := PySem.W.mg_of X G a34, b__law_less := F34.binds (fun _ _ _ _ _ _ us hl => match us, hl with | [_, _], _ => rfl), F__law_dot := F35, g__law_dot := PySem.W.mg_of X G a35, b__law_dot := F35.binds (fun _ _ _ _ _ _ us hl => match us, hl with | [_, _], _ => rfl), F__law_is_list := F36, g__law_is_list := PySem.W.mg_of X G a36, b__law_is_list := F36.binds (fun _ _ _ _ _ _ us hl => match us, hl with | [_], _ => rfl), F__law_is_ratio := F37, g__law_is_ratio := PySem.W.mg_of X G a37, b__law_is_ratio := F37.binds (fun _ _ _ _ _ _ us hl => match us, hl with | [_], _ => rfl), F__law_is_whole := F38, g__law_is_whole := PySem.W.mg_of X G a38, b__law_is_whole := F38.binds (fun _ _ _ _ _ _ us hl => match us, hl with | [_], _ => rfl), F__law_is_any_row := F39, g__law_is_any_row := PySem.W.mg_of X G a39, b__law_is_any_row := F39.binds (fun _ _ _ _ _ _ us hl => match us, hl with | [_, _], _ => rfl), F__law_number := F40, g__law_number := PySem.W.mg_of X G a40, b__law_number := F40.binds (fun _ _ _ _ _ _ us hl => match us, hl with | [_, _], _ => rfl), F__law_wide := F41, g__law_wide := PySem.W.mg_of X G a41, b__law_wide := F41.binds (fun _ _ _ _ _ _ us hl => match us, hl with | [_, _], _ => rfl), F__law_size := F42, g__law_size := PySem.W.mg_of X G a42, b__law_size := F42.binds (fun _ _ _ _ _ _ us hl => match us, hl with | [_], _ => rfl), F__law_row := F43, g__law_row := PySem.W.mg_of X G a43, b__law_row := F43.binds (fun _ _ _ _ _ _ us hl => match us, hl with | [_, _, _], _ => rfl), F__law_odd := F44, g__law_odd := PySem.W.mg_of X G a44, b__law_odd := F44.binds (fun _ _ _ _ _ _ us hl => match us, hl with | [_], _ => rfl), F__law_bent_row := F45, g__law_bent_row := PySem.W.mg_of X G a45, b__law_bent_row := F45.binds (fun _ _ _ _ _ _ us hl => match us, hl with | [_, _], _ => rfl), F__law_fault := F46, g__law_fault := PySem.W.mg_of X G a46, b__law_fault := F46.binds (fun _ _ _ _ _ _ us hl => match us, hl with | [_], _ => rfl), F__law_kinds := F47, g__law_kinds := PySem.W.mg_of X G a47, b__law_kinds := F47.binds (fun _ _ _ _ _ _ us hl => match us, hl with | [_], _ => rfl), F__law_more_kinds := F48, g__law_more_kinds := PySem.W.mg_of X G a48, b__law_more_kinds := F48.binds (fun _ _ _ _ _ _ us hl => match us, hl with | [_], _ => rfl), F__law_made_right := F49, g__law_made_right := PySem.W.mg_of X G a49, b__law_made_right := F49.binds (fun _ _ _ _ _ _ us hl => match us, hl with | [_], _ => rfl), F__law_reckoned_right := F50, g__law_reckoned_right := PySem.W.mg_of X G a50, b__law_reckoned_right := F50.binds (fun _ _ _ _ _ _ us hl => match us, hl with | [_, _], _ => rfl), F__law_refused_right := F51, g__law_refused_right := PySem.W.mg_of X G a51, b__law_refused_right := F51.binds (fun _ _ _ _ _ _ us hl => match us, hl with | [_, _], _ => rfl), F__law_rows_right := F52, g__law_rows_right := PySem.W.mg_of X G a52, b__law_rows_right := F52.binds (fun _ _ _ _ _ _ us hl => match us, hl with | [_], _ => rfl), F_law := F53, g_law := PySem.W.mg_of X G a53, b_law := F53.binds (fun _ _ _ _ _ _ us hl => match us, hl with | [_], _ => rfl), n_ValueError := PySem.W.mg_none_of X G z_ValueError, n_abs := PySem.W.mg_none_of X G z_abs, n_all := PySem.W.mg_none_of X G z_all, n_bool := PySem.W.mg_none_of X G z_bool, n_int := PySem.W.mg_none_of X G z_int, n_isinstance := PySem.W.mg_none_of X G z_isinstance, n_len := PySem.W.mg_none_of X G z_len, n_list := PySem.W.mg_none_of X G z_list, n_range := PySem.W.mg_none_of X G z_range, n_repr := PySem.W.mg_none_of X G z_repr, n_str := PySem.W.mg_none_of X G z_str, n_tuple := PySem.W.mg_none_of X G z_tuple, n_zip := PySem.W.mg_none_of X G z_zip, m_gcd := PySem.W.mg_of X G zm_gcd, cd__law_made_right := rfl, cd__law_reckoned_right := rfl, cd__law_refused_right := rfl, cd__law_rows_right := rfl, tn := tnd, eb := { kn := ekn, kt := ekt }, e_GenusError := { cls := ⟨_, _, _, _, _, _, _, _, _, _, _, _, _, _, cl_GenusError⟩, sa := cs_GenusError, ga := cg_GenusError, gg := ch_GenusError, ka := cc_GenusError, kp := ck_GenusError }, g_GenusError := PySem.W.mg_of X G ca_GenusError, e_BadNumber := { cls := ⟨_, _, _, _, _, _, _, _, _, _, _, _, _, _, cl_BadNumber⟩, sa := cs_BadNumber, ga := cg_BadNumber, gg := ch_BadNumber, ka := cc_BadNumber, kp := ck_BadNumber }, g_BadNumber := PySem.W.mg_of X G ca_BadNumber, i_BadNumber := ia_BadNumber, ti_BadNumber := it_BadNumber, Fi_BadNumber := Fi_BadNumber, bi_BadNumber := Fi_BadNumber.binds (fun _ _ _ _ _ _ us hl => match us, hl with | [_, _, _], _ => rfl), no_BadNumber_what := in_BadNumber_what, no_BadNumber_number := in_BadNumber_number, e_BadRow := { cls := ⟨_, _, _, _, _, _, _, _, _, _, _, _, _, _, cl_BadRow⟩, sa := cs_BadRow, ga := cg_BadRow, gg := ch_BadRow, ka := cc_BadRow, kp := ck_BadRow }, g_BadRow := PySem.W.mg_of X G ca_BadRow, i_BadRow := ia_BadRow, ti_BadRow := it_BadRow, Fi_BadRow := Fi_BadRow, bi_BadRow := Fi_BadRow.binds (fun _ _ _ _ _ _ us hl => match us, hl with | [_, _, _], _ => rfl), no_BadRow_what := in_BadRow_what, no_BadRow_row := in_BadRow_row, e_BadTable := { cls := ⟨_, _, _, _, _, _, _, _, _, _, _, _, _, _, cl_BadTable⟩, sa := cs_BadTable, ga := cg_BadTable, gg := ch_BadTable, ka := cc_BadTable, kp := ck_BadTable }, g_BadTable := PySem.W.mg_of X G ca_BadTable, i_BadTable := ia_BadTable, ti_BadTable := it_BadTable, Fi_BadTable := Fi_BadTable, bi_BadTable := Fi_BadTable.binds (fun _ _ _ _ _ _ us hl => match us, hl with | [_, _], _ => rfl), no_BadTable_what := in_BadTable_what, e_BadForm := { cls := ⟨_, _, _, _, _, _, _, _, _, _, _, _, _, _, cl_BadForm⟩, sa := cs_BadForm, ga := cg_BadForm, gg := ch_BadForm, ka := cc_BadForm, kp := ck_BadForm }, g_BadForm := PySem.W.mg_of X G ca_BadForm, i_BadForm := ia_BadForm, ti_BadForm := it_BadForm, Fi_BadForm := Fi_BadForm, bi_BadForm := Fi_BadForm.binds (fun _ _ _ _ _ _ us hl => match us, hl with | [_, _], _ => rfl), no_BadForm_what := in_BadForm_what, e_BadBook := { cls := ⟨_, _, _, _, _, _, _, _, _, _, _, _, _, _, cl_BadBook⟩, sa := cs_BadBook, ga := cg_BadBook, gg := ch_BadBook, ka := cc_BadBook, kp := ck_BadBook }, g_BadBook := PySem.W.mg_of X G ca_BadBook, i_BadBook := ia_BadBook, ti_BadBook := it_BadBook, Fi_BadBook := Fi_BadBook, bi_BadBook := Fi_BadBook.binds (fun _ _ _ _ _ _ us hl => match us, hl with | [_, _], _ => rfl), no_BadBook_what := in_BadBook_what, e_BadName := { cls := ⟨_, _, _, _, _, _, _, _, _, _, _, _, _, _, cl_BadName⟩, sa := cs_BadName, ga := cg_BadName, gg := ch_BadName, ka := cc_BadName, kp := ck_BadName }, g_BadName := PySem.W.mg_of X G ca_BadName, i_BadName := ia_BadName, ti_BadName := it_BadName, Fi_BadName := Fi_BadName, bi_BadName := Fi_BadName.binds (fun _ _ _ _ _ _ us hl => match us, hl with | [_, _], _ => rfl), no_BadName_name := in_BadName_name, e_BadText := { cls := ⟨_, _, _, _, _, _, _, _, _, _, _, _, _, _, cl_BadText⟩, sa := cs_BadText, ga := cg_BadText, gg := ch_BadText, ka := cc_BadText, kp := ck_BadText }, g_BadText := PySem.W.mg_of X G ca_BadText, i_BadText := ia_BadText, ti_BadText := it_BadText, Fi_BadText := Fi_BadText, bi_BadText := Fi_BadText.binds (fun _ _ _ _ _ _ us hl => match us, hl with | [_, _, _], _ => rfl), no_BadText_line := in_BadText_line, no_BadText_word := in_BadText_word, e_NoPlace := { cls := ⟨_, _, _, _, _, _, _, _, _, _, _, _, _, _, cl_NoPlace⟩, sa := cs_NoPlace, ga := cg_NoPlace, gg := ch_NoPlace, ka := cc_NoPlace, kp := ck_NoPlace }, g_NoPlace := PySem.W.mg_of X G ca_NoPlace, i_NoPlace := ia_NoPlace, ti_NoPlace := it_NoPlace, Fi_NoPlace := Fi_NoPlace, bi_NoPlace := Fi_NoPlace.binds (fun _ _ _ _ _ _ us hl => match us, hl with | [_, _, _], _ => rfl), no_NoPlace_what := in_NoPlace_what, no_NoPlace_index := in_NoPlace_index, e_NoName := { cls := ⟨_, _, _, _, _, _, _, _, _, _, _, _, _, _, cl_NoName⟩, sa := cs_NoName, ga := cg_NoName, gg := ch_NoName, ka := cc_NoName, kp := ck_NoName }, g_NoName := PySem.W.mg_of X G ca_NoName, i_NoName := ia_NoName, ti_NoName := it_NoName, Fi_NoName := Fi_NoName, bi_NoName := Fi_NoName.binds (fun _ _ _ _ _ _ us hl => match us, hl with | [_, _], _ => rfl), no_NoName_name := in_NoName_name, e_TakenName := { cls := ⟨_, _, _, _, _, _, _, _, _, _, _, _, _, _, cl_TakenName⟩, sa := cs_TakenName, ga := cg_TakenName, gg := ch_TakenName, ka := cc_TakenName, kp := ck_TakenName }, g_TakenName := PySem.W.mg_of X G ca_TakenName, i_TakenName := ia_TakenName, ti_TakenName := it_TakenName, Fi_TakenName := Fi_TakenName, bi_TakenName := Fi_TakenName.binds (fun _ _ _ _ _ _ us hl => match us, hl with | [_, _], _ => rfl), no_TakenName_name := in_TakenName_name, e_Unlike := { cls := ⟨_, _, _, _, _, _, _, _, _, _, _, _, _, _, cl_Unlike⟩, sa := cs_Unlike, ga := cg_Unlike, gg := ch_Unlike, ka := cc_Unlike, kp := ck_Unlike }, g_Unlike := PySem.W.mg_of X G ca_Unlike, i_Unlike := ia_Unlike, ti_Unlike := it_Unlike, Fi_Unlike := Fi_Unlike, bi_Unlike := Fi_Unlike.binds (fun _ _ _ _ _ _ us hl => match us, hl with | [_, _], _ => rfl), no_Unlike_what := in_Unlike_what, e_NotThere := { cls := ⟨_, _, _, _, _, _, _, _, _, _, _, _, _, _, cl_NotThere⟩, sa := cs_NotThere, ga := cg_NotThere, gg := ch_NotThere, ka := cc_NotThere, kp := ck_NotThere }, g_NotThere := PySem.W.mg_of X G ca_NotThere, i_NotThere := ia_NotThere, ti_NotThere := it_NotThere, Fi_NotThere := Fi_NotThere, bi_NotThere := Fi_NotThere.binds (fun _ _ _ _ _ _ us hl => match us, hl with | [_, _], _ => rfl), no_NotThere_paper := in_NotThere_paper, e_TooMany := { cls := ⟨_, _, _, _, _, _, _, _, _, _, _, _, _, _, cl_TooMany⟩, sa := cs_TooMany, ga := cg_TooMany, gg := ch_TooMany, ka := cc_TooMany, kp := ck_TooMany }, g_TooMany := PySem.W.mg_of X G ca_TooMany, i_TooMany := ia_TooMany, ti_TooMany := it_TooMany, Fi_TooMany := Fi_TooMany, bi_TooMany := Fi_TooMany.binds (fun _ _ _ _ _ _ us hl => match us, hl with | [_, _, _, _], _ => rfl), no_TooMany_what := in_TooMany_what, no_TooMany_many := in_TooMany_many, no_TooMany_limit := in_TooMany_limit, e_NotKept := { cls := ⟨_, _, _, _, _, _, _, _, _, _, _, _, _, _, cl_NotKept⟩, sa := cs_NotKept, ga := cg_NotKept, gg := ch_NotKept, ka := cc_NotKept, kp := ck_NotKept }, g_NotKept := PySem.W.mg_of X G ca_NotKept, i_NotKept := ia_NotKept, ti_NotKept := it_NotKept, Fi_NotKept := Fi_NotKept, bi_NotKept := Fi_NotKept.binds (fun _ _ _ _ _ _ us hl => match us, hl with | [_, _, _], _ => rfl), no_NotKept_promise := in_NotKept_promise, no_NotKept_witness := in_NotKept_witness, e_NothingToUndo := { cls := ⟨_, _, _, _, _, _, _, _, _, _, _, _, _, _, cl_NothingToUndo⟩, sa := cs_NothingToUndo, ga := cg_NothingToUndo, gg := ch_NothingToUndo, ka := cc_NothingToUndo, kp := ck_NothingToUndo }, g_NothingToUndo := PySem.W.mg_of X G ca_NothingToUndo, x_NothingToUndo := cx_NothingToUndo, e_NothingToRedo := { cls := ⟨_, _, _, _, _, _, _, _, _, _, _, _, _, _, cl_NothingToRedo⟩, sa := cs_NothingToRedo, ga := cg_NothingToRedo, gg := ch_NothingToRedo, ka := cc_NothingToRedo, kp := ck_NothingToRedo }, g_NothingToRedo := PySem.W.mg_of X G ca_NothingToRedo, x_NothingToRedo := cx_NothingToRedo, ne := nod }
end Law

set_option Elab.async false
set_option linter.all false
open PySem PySem.W PyProof.Rows
set_option maxRecDepth 100000 in
set_option maxHeartbeats 0 in
theorem PySem.Challenge.cw_genuspapers_k02_ratios_holds : PySem.Challenge.rw_genuspapers_k02_ratios.Holds := by
  w_on; o_law; k_head; (case hw => w_witness2)
  k_fill
  refine G.walkGT (l := PySem.Challenge.rw_genuspapers_k02_ratios) (k := 12) (["_law_made_right", "_law_reckoned_right", "_law_refused_right", "_law_rows_right"] : List Str) rfl rfl (by decide +kernel) (by decide +kernel) ⟨by decide, by decide, rfl, fun _ => rfl⟩ (fun w h y => PySem.W.km_in_of y) ?F
  case F =>
    intro w mg fa h KX G hmg
    refine Exists.elim (?a : ∃ a : Law.Ad, Law.Tx _ mg a ∧ a.f_law = fa ∧ (∀ (s : Shared) (v : Value), BindsTo s a.d_law ⟨[v], []⟩ [("script", v)]) ∧ (∀ p ∈ Law.tbs a, List.lookup p.2 _ = none) ∧ ∀ p ∈ Law.tbs a, ∃ x ∈ ((["_law_made_right", "_law_reckoned_right", "_law_refused_right", "_law_rows_right"] : List Str) : List Str), PySem.W.tabIn _ x = some p) fun a q => ⟨a.d_law, Law.tbs a, q.2.2.2.1, q.2.2.2.2, q.2.2.1, fun base M hS TB => q.2.1 ▸ Law.ok_law q.1 (Law.sy_mk q.1 hS TB)⟩
    case a =>
    refine' Law.all_mk KX G hmg ?a0 ?l0 ?c0 ?k0 ?a1 ?l1 ?c1 ?k1 ?a2 ?l2 ?c2 ?k2 ?a3 ?l3 ?c3 ?k3 ?a4 ?l4 ?c4 ?k4 ?a5 ?l5 ?c5 ?k5 ?a6 ?l6 ?c6 ?k6 ?a7 ?l7 ?c7 ?k7 ?a8 ?l8 ?c8 ?k8 ?a9 ?l9 ?c9 ?k9 ?a10 ?l10 ?c10 ?k10 ?a11 ?l11 ?c11 ?k11 ?a12 ?l12 ?c12 ?k12 ?a13 ?l13 ?c13 ?k13 ?a14 ?l14 ?c14 ?k14 ?a15 ?l15 ?c15 ?k15 ?a16 ?l16 ?c16 ?k16 ?a17 ?l17 ?c17 ?k17 ?a18 ?l18 ?c18 ?k18 ?a19 ?l19 ?c19 ?k19 ?a20 ?l20 ?c20 ?k20 ?a21 ?l21 ?c21 ?k21 ?a22 ?l22 ?c22 ?k22 ?a23 ?l23 ?c23 ?k23 ?a24 ?l24 ?c24 ?k24 ?a25 ?l25 ?c25 ?k25 ?a26 ?l26 ?c26 ?k26 ?a27 ?l27 ?c27 ?k27 ?a28 ?l28 ?c28 ?k28 ?a29 ?l29 ?c29 ?k29 ?a30 ?l30 ?c30 ?k30 ?a31 ?l31 ?c31 ?k31 ?a32 ?l32 ?c32 ?k32 ?a33 ?l33 ?c33 ?k33 ?a34 ?l34 ?c34 ?k34 ?a35 ?l35 ?c35 ?k35 ?a36 ?l36 ?c36 ?k36 ?a37 ?l37 ?c37 ?k37 ?a38 ?l38 ?c38 ?k38 ?a39 ?l39 ?c39 ?k39 ?a40 ?l40 ?c40 ?k40 ?a41 ?l41 ?c41 ?k41 ?a42 ?l42 ?c42 ?k42 ?a43 ?l43 ?c43 ?k43 ?a44 ?l44 ?c44 ?k44 ?a45 ?l45 ?c45 ?k45 ?a46 ?l46 ?c46 ?k46 ?a47 ?l47 ?c47 ?k47 ?a48 ?l48 ?c48 ?k48 ?a49 ?l49 ?c49 ?lc49 ?lt49 ?nt49 ?k49 ?a50 ?l50 ?c50 ?lc50 ?lt50 ?nt50 ?k50 ?a51 ?l51 ?c51 ?lc51 ?lt51 ?nt51 ?k51 ?a52 ?l52 ?c52 ?lc52 ?lt52 ?nt52 ?k52 ?a53 ?l53 ?c53 ?k53 ?tnd ?z_ValueError ?z_abs ?z_all ?z_bool ?z_int ?z_isinstance ?z_len ?z_list ?z_range ?z_repr ?z_str ?z_tuple ?z_zip ?zm_gcd ?ekn ?ekt ?ca_GenusError ?cl_GenusError ?cs_GenusError ?cg_GenusError ?ch_GenusError ?cc_GenusError ?ck_GenusError ?ca_BadNumber ?cl_BadNumber ?cs_BadNumber ?cg_BadNumber ?ch_BadNumber ?cc_BadNumber ?ck_BadNumber ?ia_BadNumber ?it_BadNumber ?il_BadNumber ?ic_BadNumber ?ik_BadNumber ?in_BadNumber_what ?in_BadNumber_number ?ca_BadRow ?cl_BadRow ?cs_BadRow ?cg_BadRow ?ch_BadRow ?cc_BadRow ?ck_BadRow ?ia_BadRow ?it_BadRow ?il_BadRow ?ic_BadRow ?ik_BadRow ?in_BadRow_what ?in_BadRow_row ?ca_BadTable ?cl_BadTable ?cs_BadTable ?cg_BadTable ?ch_BadTable ?cc_BadTable ?ck_BadTable ?ia_BadTable ?it_BadTable ?il_BadTable ?ic_BadTable ?ik_BadTable ?in_BadTable_what ?ca_BadForm ?cl_BadForm ?cs_BadForm ?cg_BadForm ?ch_BadForm ?cc_BadForm ?ck_BadForm ?ia_BadForm ?it_BadForm ?il_BadForm ?ic_BadForm ?ik_BadForm ?in_BadForm_what ?ca_BadBook ?cl_BadBook ?cs_BadBook ?cg_BadBook ?ch_BadBook ?cc_BadBook ?ck_BadBook ?ia_BadBook ?it_BadBook ?il_BadBook ?ic_BadBook ?ik_BadBook ?in_BadBook_what ?ca_BadName ?cl_BadName ?cs_BadName ?cg_BadName ?ch_BadName ?cc_BadName ?ck_BadName ?ia_BadName ?it_BadName ?il_BadName ?ic_BadName ?ik_BadName ?in_BadName_name ?ca_BadText ?cl_BadText ?cs_BadText ?cg_BadText ?ch_BadText ?cc_BadText ?ck_BadText ?ia_BadText ?it_BadText ?il_BadText ?ic_BadText ?ik_BadText ?in_BadText_line ?in_BadText_word ?ca_NoPlace ?cl_NoPlace ?cs_NoPlace ?cg_NoPlace ?ch_NoPlace ?cc_NoPlace ?ck_NoPlace ?ia_NoPlace ?it_NoPlace ?il_NoPlace ?ic_NoPlace ?ik_NoPlace ?in_NoPlace_what ?in_NoPlace_index ?ca_NoName ?cl_NoName ?cs_NoName ?cg_NoName ?ch_NoName ?cc_NoName ?ck_NoName ?ia_NoName ?it_NoName ?il_NoName ?ic_NoName ?ik_NoName ?in_NoName_name ?ca_TakenName ?cl_TakenName ?cs_TakenName ?cg_TakenName ?ch_TakenName ?cc_TakenName ?ck_TakenName ?ia_TakenName ?it_TakenName ?il_TakenName ?ic_TakenName ?ik_TakenName ?in_TakenName_name ?ca_Unlike ?cl_Unlike ?cs_Unlike ?cg_Unlike ?ch_Unlike ?cc_Unlike ?ck_Unlike ?ia_Unlike ?it_Unlike ?il_Unlike ?ic_Unlike ?ik_Unlike ?in_Unlike_what ?ca_NotThere ?cl_NotThere ?cs_NotThere ?cg_NotThere ?ch_NotThere ?cc_NotThere ?ck_NotThere ?ia_NotThere ?it_NotThere ?il_NotThere ?ic_NotThere ?ik_NotThere ?in_NotThere_paper ?ca_TooMany ?cl_TooMany ?cs_TooMany ?cg_TooMany ?ch_TooMany ?cc_TooMany ?ck_TooMany ?ia_TooMany ?it_TooMany ?il_TooMany ?ic_TooMany ?ik_TooMany ?in_TooMany_what ?in_TooMany_many ?in_TooMany_limit ?ca_NotKept ?cl_NotKept ?cs_NotKept ?cg_NotKept ?ch_NotKept ?cc_NotKept ?ck_NotKept ?ia_NotKept ?it_NotKept ?il_NotKept ?ic_NotKept ?ik_NotKept ?in_NotKept_promise ?in_NotKept_witness ?ca_NothingToUndo ?cl_NothingToUndo ?cs_NothingToUndo ?cg_NothingToUndo ?ch_NothingToUndo ?cc_NothingToUndo ?ck_NothingToUndo ?cx_NothingToUndo ?ca_NothingToRedo ?cl_NothingToRedo ?cs_NothingToRedo ?cg_NothingToRedo ?ch_NothingToRedo ?cc_NothingToRedo ?ck_NothingToRedo ?cx_NothingToRedo ?nod
    (case a0 => k_is)
    (case l0 => k_is)
    (case c0 => k_is)
    (case k0 => k_is)
    (case a1 => k_is)
    (case l1 => k_is)
    (case c1 => k_is)
    (case k1 => k_is)
    (case a2 => k_is)
    (case l2 => k_is)
    (case c2 => k_is)
    (case k2 => k_is)
    (case a3 => k_is)
    (case l3 => k_is)
    (case c3 => k_is)
    (case k3 => k_is)
    (case a4 => k_is)
    (case l4 => k_is)
    (case c4 => k_is)
    (case k4 => k_is)
    (case a5 => k_is)
    (case l5 => k_is)
    (case c5 => k_is)
    (case k5 => k_is)
    (case a6 => k_is)
    (case l6 => k_is)
    (case c6 => k_is)
    (case k6 => k_is)
    (case a7 => k_is)
    (case l7 => k_is)
    (case c7 => k_is)
    (case k7 => k_is)
    (case a8 => k_is)
    (case l8 => k_is)
    (case c8 => k_is)
    (case k8 => k_is)
    (case a9 => k_is)
    (case l9 => k_is)
    (case c9 => k_is)
    (case k9 => k_is)
    (case a10 => k_is)
    (case l10 => k_is)
    (case c10 => k_is)
    (case k10 => k_is)
    (case a11 => k_is)
    (case l11 => k_is)
    (case c11 => k_is)
    (case k11 => k_is)
    (case a12 => k_is)
    (case l12 => k_is)
    (case c12 => k_is)
    (case k12 => k_is)
    (case a13 => k_is)
    (case l13 => k_is)
    (case c13 => k_is)
    (case k13 => k_is)
    (case a14 => k_is)
    (case l14 => k_is)
    (case c14 => k_is)
    (case k14 => k_is)
    (case a15 => k_is)
    (case l15 => k_is)
    (case c15 => k_is)
    (case k15 => k_is)
    (case a16 => k_is)
    (case l16 => k_is)
    (case c16 => k_is)
    (case k16 => k_is)
    (case a17 => k_is)
    (case l17 => k_is)
    (case c17 => k_is)
    (case k17 => k_is)
    (case a18 => k_is)
    (case l18 => k_is)
    (case c18 => k_is)
    (case k18 => k_is)
    (case a19 => k_is)
    (case l19 => k_is)
    (case c19 => k_is)
    (case k19 => k_is)
    (case a20 => k_is)
    (case l20 => k_is)
    (case c20 => k_is)
    (case k20 => k_is)
    (case a21 => k_is)
    (case l21 => k_is)
    (case c21 => k_is)
    (case k21 => k_is)
    (case a22 => k_is)
    (case l22 => k_is)
    (case c22 => k_is)
    (case k22 => k_is)
    (case a23 => k_is)
    (case l23 => k_is)
    (case c23 => k_is)
    (case k23 => k_is)
    (case a24 => k_is)
    (case l24 => k_is)
    (case c24 => k_is)
    (case k24 => k_is)
    (case a25 => k_is)
    (case l25 => k_is)
    (case c25 => k_is)
    (case k25 => k_is)
    (case a26 => k_is)
    (case l26 => k_is)
    (case c26 => k_is)
    (case k26 => k_is)
    (case a27 => k_is)
    (case l27 => k_is)
    (case c27 => k_is)
    (case k27 => k_is)
    (case a28 => k_is)
    (case l28 => k_is)
    (case c28 => k_is)
    (case k28 => k_is)
    (case a29 => k_is)
    (case l29 => k_is)
    (case c29 => k_is)
    (case k29 => k_is)
    (case a30 => k_is)
    (case l30 => k_is)
    (case c30 => k_is)
    (case k30 => k_is)
    (case a31 => k_is)
    (case l31 => k_is)
    (case c31 => k_is)
    (case k31 => k_is)
    (case a32 => k_is)
    (case l32 => k_is)
    (case c32 => k_is)
    (case k32 => k_is)
    (case a33 => k_is)
    (case l33 => k_is)
    (case c33 => k_is)
    (case k33 => k_is)
    (case a34 => k_is)
    (case l34 => k_is)
    (case c34 => k_is)
    (case k34 => k_is)
    (case a35 => k_is)
    (case l35 => k_is)
    (case c35 => k_is)
    (case k35 => k_is)
    (case a36 => k_is)
    (case l36 => k_is)
    (case c36 => k_is)
    (case k36 => k_is)
    (case a37 => k_is)
    (case l37 => k_is)
    (case c37 => k_is)
    (case k37 => k_is)
    (case a38 => k_is)
    (case l38 => k_is)
    (case c38 => k_is)
    (case k38 => k_is)
    (case a39 => k_is)
    (case l39 => k_is)
    (case c39 => k_is)
    (case k39 => k_is)
    (case a40 => k_is)
    (case l40 => k_is)
    (case c40 => k_is)
    (case k40 => k_is)
    (case a41 => k_is)
    (case l41 => k_is)
    (case c41 => k_is)
    (case k41 => k_is)
    (case a42 => k_is)
    (case l42 => k_is)
    (case c42 => k_is)
    (case k42 => k_is)
    (case a43 => k_is)
    (case l43 => k_is)
    (case c43 => k_is)
    (case k43 => k_is)
    (case a44 => k_is)
    (case l44 => k_is)
    (case c44 => k_is)
    (case k44 => k_is)
    (case a45 => k_is)
    (case l45 => k_is)
    (case c45 => k_is)
    (case k45 => k_is)
    (case a46 => k_is)
    (case l46 => k_is)
    (case c46 => k_is)
    (case k46 => k_is)
    (case a47 => k_is)
    (case l47 => k_is)
    (case c47 => k_is)
    (case k47 => k_is)
    (case a48 => k_is)
    (case l48 => k_is)
    (case c48 => k_is)
    (case k48 => k_is)
    (case a49 => k_is)
    (case l49 => k_is)
    (case c49 => k_is)
    (case lc49 => k_is)
    (case lt49 => rfl)
    (case nt49 => kernel_rfl)
    (case k49 => k_is)
    (case a50 => k_is)
    (case l50 => k_is)
    (case c50 => k_is)
    (case lc50 => k_is)
    (case lt50 => rfl)
    (case nt50 => kernel_rfl)
    (case k50 => k_is)
    (case a51 => k_is)
    (case l51 => k_is)
    (case c51 => k_is)
    (case lc51 => k_is)
    (case lt51 => rfl)
    (case nt51 => kernel_rfl)
    (case k51 => k_is)
    (case a52 => k_is)
    (case l52 => k_is)
    (case c52 => k_is)
    (case lc52 => k_is)
    (case lt52 => rfl)
    (case nt52 => kernel_rfl)
    (case k52 => k_is)
    (case a53 => k_is)
    (case l53 => k_is)
    (case c53 => k_is)
    (case k53 => k_is)
    (case tnd => decide)
    (case z_ValueError => k_is)
    (case z_abs => k_is)
    (case z_all => k_is)
    (case z_bool => k_is)
    (case z_int => k_is)
    (case z_isinstance => k_is)
    (case z_len => k_is)
    (case z_list => k_is)
    (case z_range => k_is)
    (case z_repr => k_is)
    (case z_str => k_is)
    (case z_tuple => k_is)
    (case z_zip => k_is)
    (case zm_gcd => k_is)
    (case ekn => k_is)
    (case ekt => k_is)
    (case ca_GenusError => k_is)
    (case cl_GenusError => k_is)
    (case cs_GenusError => k_is)
    (case cg_GenusError => k_is)
    (case ch_GenusError => k_is)
    (case cc_GenusError => k_is)
    (case ck_GenusError => k_is)
    (case ca_BadNumber => k_is)
    (case cl_BadNumber => k_is)
    (case cs_BadNumber => k_is)
    (case cg_BadNumber => k_is)
    (case ch_BadNumber => k_is)
    (case cc_BadNumber => k_is)
    (case ck_BadNumber => k_is)
    (case ia_BadNumber => k_is)
    (case it_BadNumber => k_is)
    (case il_BadNumber => k_is)
    (case ic_BadNumber => k_is)
    (case ik_BadNumber => k_is)
    (case in_BadNumber_what => k_is)
    (case in_BadNumber_number => k_is)
    (case ca_BadRow => k_is)
    (case cl_BadRow => k_is)
    (case cs_BadRow => k_is)
    (case cg_BadRow => k_is)
    (case ch_BadRow => k_is)
    (case cc_BadRow => k_is)
    (case ck_BadRow => k_is)
    (case ia_BadRow => k_is)
    (case it_BadRow => k_is)
    (case il_BadRow => k_is)
    (case ic_BadRow => k_is)
    (case ik_BadRow => k_is)
    (case in_BadRow_what => k_is)
    (case in_BadRow_row => k_is)
    (case ca_BadTable => k_is)
    (case cl_BadTable => k_is)
    (case cs_BadTable => k_is)
    (case cg_BadTable => k_is)
    (case ch_BadTable => k_is)
    (case cc_BadTable => k_is)
    (case ck_BadTable => k_is)
    (case ia_BadTable => k_is)
    (case it_BadTable => k_is)
    (case il_BadTable => k_is)
    (case ic_BadTable => k_is)
    (case ik_BadTable => k_is)
    (case in_BadTable_what => k_is)
    (case ca_BadForm => k_is)
    (case cl_BadForm => k_is)
    (case cs_BadForm => k_is)
    (case cg_BadForm => k_is)
    (case ch_BadForm => k_is)
    (case cc_BadForm => k_is)
    (case ck_BadForm => k_is)
    (case ia_BadForm => k_is)
    (case it_BadForm => k_is)
    (case il_BadForm => k_is)
    (case ic_BadForm => k_is)
    (case ik_BadForm => k_is)
    (case in_BadForm_what => k_is)
    (case ca_BadBook => k_is)
    (case cl_BadBook => k_is)
    (case cs_BadBook => k_is)
    (case cg_BadBook => k_is)
    (case ch_BadBook => k_is)
    (case cc_BadBook => k_is)
    (case ck_BadBook => k_is)
    (case ia_BadBook => k_is)
    (case it_BadBook => k_is)
    (case il_BadBook => k_is)
    (case ic_BadBook => k_is)
    (case ik_BadBook => k_is)
    (case in_BadBook_what => k_is)
    (case ca_BadName => k_is)
    (case cl_BadName => k_is)
    (case cs_BadName => k_is)
    (case cg_BadName => k_is)
    (case ch_BadName => k_is)
    (case cc_BadName => k_is)
    (case ck_BadName => k_is)
    (case ia_BadName => k_is)
    (case it_BadName => k_is)
    (case il_BadName => k_is)
    (case ic_BadName => k_is)
    (case ik_BadName => k_is)
    (case in_BadName_name => k_is)
    (case ca_BadText => k_is)
    (case cl_BadText => k_is)
    (case cs_BadText => k_is)
    (case cg_BadText => k_is)
    (case ch_BadText => k_is)
    (case cc_BadText => k_is)
    (case ck_BadText => k_is)
    (case ia_BadText => k_is)
    (case it_BadText => k_is)
    (case il_BadText => k_is)
    (case ic_BadText => k_is)
    (case ik_BadText => k_is)
    (case in_BadText_line => k_is)
    (case in_BadText_word => k_is)
    (case ca_NoPlace => k_is)
    (case cl_NoPlace => k_is)
    (case cs_NoPlace => k_is)
    (case cg_NoPlace => k_is)
    (case ch_NoPlace => k_is)
    (case cc_NoPlace => k_is)
    (case ck_NoPlace => k_is)
    (case ia_NoPlace => k_is)
    (case it_NoPlace => k_is)
    (case il_NoPlace => k_is)
    (case ic_NoPlace => k_is)
    (case ik_NoPlace => k_is)
    (case in_NoPlace_what => k_is)
    (case in_NoPlace_index => k_is)
    (case ca_NoName => k_is)
    (case cl_NoName => k_is)
    (case cs_NoName => k_is)
    (case cg_NoName => k_is)
    (case ch_NoName => k_is)
    (case cc_NoName => k_is)
    (case ck_NoName => k_is)
    (case ia_NoName => k_is)
    (case it_NoName => k_is)
    (case il_NoName => k_is)
    (case ic_NoName => k_is)
    (case ik_NoName => k_is)
    (case in_NoName_name => k_is)
    (case ca_TakenName => k_is)
    (case cl_TakenName => k_is)
    (case cs_TakenName => k_is)
    (case cg_TakenName => k_is)
    (case ch_TakenName => k_is)
    (case cc_TakenName => k_is)
    (case ck_TakenName => k_is)
    (case ia_TakenName => k_is)
    (case it_TakenName => k_is)
    (case il_TakenName => k_is)
    (case ic_TakenName => k_is)
    (case ik_TakenName => k_is)
    (case in_TakenName_name => k_is)
    (case ca_Unlike => k_is)
    (case cl_Unlike => k_is)
    (case cs_Unlike => k_is)
    (case cg_Unlike => k_is)
    (case ch_Unlike => k_is)
    (case cc_Unlike => k_is)
    (case ck_Unlike => k_is)
    (case ia_Unlike => k_is)
    (case it_Unlike => k_is)
    (case il_Unlike => k_is)
    (case ic_Unlike => k_is)
    (case ik_Unlike => k_is)
    (case in_Unlike_what => k_is)
    (case ca_NotThere => k_is)
    (case cl_NotThere => k_is)
    (case cs_NotThere => k_is)
    (case cg_NotThere => k_is)
    (case ch_NotThere => k_is)
    (case cc_NotThere => k_is)
    (case ck_NotThere => k_is)
    (case ia_NotThere => k_is)
    (case it_NotThere => k_is)
    (case il_NotThere => k_is)
    (case ic_NotThere => k_is)
    (case ik_NotThere => k_is)
    (case in_NotThere_paper => k_is)
    (case ca_TooMany => k_is)
    (case cl_TooMany => k_is)
    (case cs_TooMany => k_is)
    (case cg_TooMany => k_is)
    (case ch_TooMany => k_is)
    (case cc_TooMany => k_is)
    (case ck_TooMany => k_is)
    (case ia_TooMany => k_is)
    (case it_TooMany => k_is)
    (case il_TooMany => k_is)
    (case ic_TooMany => k_is)
    (case ik_TooMany => k_is)
    (case in_TooMany_what => k_is)
    (case in_TooMany_many => k_is)
    (case in_TooMany_limit => k_is)
    (case ca_NotKept => k_is)
    (case cl_NotKept => k_is)
    (case cs_NotKept => k_is)
    (case cg_NotKept => k_is)
    (case ch_NotKept => k_is)
    (case cc_NotKept => k_is)
    (case ck_NotKept => k_is)
    (case ia_NotKept => k_is)
    (case it_NotKept => k_is)
    (case il_NotKept => k_is)
    (case ic_NotKept => k_is)
    (case ik_NotKept => k_is)
    (case in_NotKept_promise => k_is)
    (case in_NotKept_witness => k_is)
    (case ca_NothingToUndo => k_is)
    (case cl_NothingToUndo => k_is)
    (case cs_NothingToUndo => k_is)
    (case cg_NothingToUndo => k_is)
    (case ch_NothingToUndo => k_is)
    (case cc_NothingToUndo => k_is)
    (case ck_NothingToUndo => k_is)
    (case cx_NothingToUndo => k_exc)
    (case ca_NothingToRedo => k_is)
    (case cl_NothingToRedo => k_is)
    (case cs_NothingToRedo => k_is)
    (case cg_NothingToRedo => k_is)
    (case ch_NothingToRedo => k_is)
    (case cc_NothingToRedo => k_is)
    (case ck_NothingToRedo => k_is)
    (case cx_NothingToRedo => k_exc)
    (case nod => decide)

