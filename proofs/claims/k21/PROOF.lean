import PyProof.Rows.All
import Wide.All
import OpenK.AllK
import Wide.FinOn
import HandS.ForMost
import HandS.Exc
import HandS.ExcOwn
import HandS.WordsExc
import HandS.EndBits
import HandS.Lambda
import HandS.IsInst
import HandS.ExcInit
import HandS.ExcField
import KE.KExcIs
import HandS.Wide
import HandS.Style
import HandS.Gcd
import HandS.EndTab
import PyProof.P3Eq
import PySem.Challenge.RW_genuspapers_k21_whole_rests_of_ratios
set_option Elab.async false
set_option linter.all false
set_option maxRecDepth 100000
set_option maxHeartbeats 4000000
/-! GBase: defs whose promise knows more of what runs around them: no repr is open (guards), objects that are pinned (a caught error). -/
namespace G
open PySem PySem.Spec PyProof.Rows L2
abbrev Pins := List (Addr × Obj)
abbrev Sq := Pins → Sp
/-- room around: c tells that nothing is being handled -/
structure Rm (c : Bool) (k : Nat) (A : Around) : Prop where
  dp : A.depth + 3 * k + 5 < recursionLimit
  un : A.units + 16 * k + 200 < cLine
  gd : A.guards = some []
  hd : c = true → A.handled = none
theorem Rm.mono {c : Bool} {j k : Nat} {A : Around} (r : Rm c k A) (h : j ≤ k) : Rm c j A :=
  { dp := by have q := r.dp; omega, un := by have q := r.un; omega, gd := r.gd, hd := r.hd }
theorem Rm.any {c : Bool} {k : Nat} {A : Around} (r : Rm c k A) : Rm false k A := { dp := r.dp, un := r.un, gd := r.gd, hd := fun z => nomatch z }
theorem Rm.deeper {c : Bool} {k : Nat} {A : Around} (r : Rm c (k + 1) A) (env : Env) : Rm c k (A.deeper env) :=
  { dp := by have q := r.dp; show A.depth + 1 + 3 * k + 5 < _; omega, un := by have q := r.un; show A.units + 3 + 16 * k + 200 < _; omega, gd := r.gd, hd := r.hd }
theorem Rm.mark {c : Bool} {k : Nat} {A : Around} (r : Rm c k A) (h : Option Value) : Rm false k (A.mark h) :=
  { dp := r.dp, un := r.un, gd := r.gd, hd := fun z => nomatch z }
theorem Rm.room {k : Nat} {A : Around} (r : Rm true k A) : Room k A := { hd := r.hd rfl, dp := r.dp, un := r.un }
theorem Rm.hu {c : Bool} {k : Nat} {A : Around} (r : Rm c k A) : A.units + 64 < cLine := by have q := r.un; omega
theorem Rm.hu1 {c : Bool} {k : Nat} {A : Around} (r : Rm c k A) : A.units + 1 < cLine := by have q := r.un; omega
theorem Rm.deep {c : Bool} {k : Nat} {A : Around} (r : Rm c k A) : A.depth < recursionLimit := by have q := r.dp; omega

/-- a pinned object stands in the state, untracked -/
structure PinAt (outer : List Env) (H : Hp) (s : Shared) (p : Addr × Obj) : Prop where
  get : s.heap.get? p.1 = some p.2
  free : H p.1 = none
  nofs : p.1 ∉ frs outer
  nocell : ∀ v, p.2.data ≠ .cell v

structure FnG (P : Program) (w : World) (K : PySem.W.Frag) (mg : Str → Option Value) (base : Heap) (c : Bool) (k : Nat) (f : Addr) (fd : FuncData) (ps : List Str) (sp : Sq) : Prop where
  len : ∀ pl vs H Q E, sp pl vs H Q E → vs.length = ps.length
  run : ∀ (A : Around) (outer : List Env) (s : Shared) (H : Hp) (args : Args) (us : List Value) (vs : List V) (Q : VK) (E : XK) (pl : Pins), Rm c k A → (∀ p ∈ pl, PinAt outer H s p) →
    Env0 P w K mg base A outer s H → BindsTo s fd args (ps.zip us) → Vals vs us → sp pl vs H Q E →
    codeAny (model P w) A (.call (.ref f) args) (CR (L2.CX P w) outer P w H s Q E) s
theorem FnG.up {P : Program} {w : World} {K : PySem.W.Frag} {mg : Str → Option Value} {base : Heap} {c : Bool} {j k : Nat} {f : Addr} {fd : FuncData} {ps : List Str} {sp : Sq} (F : FnG P w K mg base c j f fd ps sp) (h : j ≤ k) : FnG P w K mg base c k f fd ps sp :=
  { len := F.len, run := fun A o s H a us vs Q E pl hr => F.run A o s H a us vs Q E pl (hr.mono h) }
theorem FnG.of {P : Program} {w : World} {K : PySem.W.Frag} {mg : Str → Option Value} {base : Heap} {k : Nat} {f : Addr} {fd : FuncData} {ps : List Str} {sp : Sp} (F : FnOk P w K mg base (L2.CX P w) k f fd ps sp) : FnG P w K mg base true k f fd ps (fun _ => sp) :=
  { len := fun _ => F.len, run := fun A o s H a us vs Q E _ hr _ => F.run A o s H a us vs Q E hr.room }

/-- the context of a body -/
abbrev cxG (P : Program) (w : World) (K : PySem.W.Frag) (mg : Str → Option Value) (base : Heap) (N : List Str) (qual : Str) (scope : Scope) (f : Addr) (cd : Value) (A : Around) (outer : List Env) (s : Shared) (H : Hp) (E : XK) (c : Bool) (pl : Pins) : Cx :=
  { cxOf (L2.CX P w) P w K mg base N qual scope f cd A outer s H E with calm := c, pn := pl }

section
variable {P : Program} {w : World} {K : PySem.W.Frag} {mg : Str → Option Value} {base : Heap} {N ps : List Str} {qual : Str} {scope : Scope} {f : Addr} {cd : Value} {A : Around} {outer : List Env} {s s1 : Shared} {H : Hp} {E : XK} {us : List Value} {vs : List V} {c : Bool} {pl : Pins}
theorem inv_go (S : FnScope N ps scope) (hd : c = true → A.handled = none) (hp : ∀ p ∈ pl, PinAt outer H s p) (e0 : Env0 P w K mg base A outer s H) (hl : vs.length = ps.length) (r : Vals vs us)
    (x : InCallC s s.heap.objs.size (bindL (envOfC qual scope s.heap.objs.size f cd).kindOf (ps.zip us) fun _ => none) (cellsFrom (s.heap.objs.size + 1) scope.names []) (bindC (envOfC qual scope s.heap.objs.size f cd).kindOf (ps.zip us) fun _ => none) s1) :
    Inv (cxG P w K mg base N qual scope f cd A outer s H E c pl) [] (start N vs) H s1 := by
  have e1 : Env0 P w K mg base { A with handled := none } outer s H := { frames := e0.frames, mod := e0.mod, bs := e0.bs, bsz := e0.bsz, funs := e0.funs, frf := e0.frf, hok := e0.hok, bare := e0.bare }
  have I : Inv (cxOf (L2.CX P w) P w K mg base N qual scope f cd { A with handled := none } outer s H E) [] (start N vs) H s1 := inv_start S rfl e1 hl r x
  have o := I.ok
  obtain ⟨h1, tk, rfl, hk⟩ := x.done
  refine { ok := { mod := o.mod, kind := o.kind, glob := o.glob, blt := o.blt, above := o.above, inj := o.inj, has := o.has, cab := o.cab, hd := fun z => hd z, frames := o.frames, stk := o.stk, exf := o.exf, bs := o.bs, bsz := o.bsz, noex := o.noex, exfs := o.exfs, funs := o.funs, frf := o.frf }
           os := I.os, bare := I.bare, base := I.base, loc := I.loc, cell := I.cell, free := I.free, freeC := I.freeC, pin := ?_, hok := I.hok, len := I.len }
  intro p hq
  have hq' : p ∈ pl := by simpa using (show p ∈ pl ++ ([] : Pins) from hq)
  have z := hp p hq'
  exact ⟨hk p.1 p.2 z.get, z.free, Nat.ne_of_lt (Heap.lt_size z.get), z.nofs, z.nocell⟩

/-- THE RULE of a def, its code known -/
theorem fn_goC {x : Str} {st : Stmt} {fd : FuncData} {k : Nat} {sp : Sq} (F : Fun K x qual st f fd) (S : FnScope N ps (defScope st)) (len : ∀ pl vs H Q E, sp pl vs H Q E → vs.length = ps.length)
    (body : ∀ (cdv : Value) (A : Around) (outer : List Env) (s : Shared) (H : Hp) (vs : List V) (Q : VK) (E : XK) (pl : Pins), fd.code = cdv → Rm c k (A.deeper (envOfC qual (defScope st) s.heap.objs.size f cdv)) → sp pl vs H Q E →
      ∃ t, PSs (cxG P w K mg base N qual (defScope st) f cdv A outer s H E c pl) (defBody st) t ∧ t { nx := fun _ H' => Q .non H', rt := Q } (start N vs) H) :
    FnG P w K mg base c (k + 1) f fd ps sp := by
  obtain ⟨oc, od, kV, doc, pm, an, cdv, ct, osl, rfl, lk, hcd⟩ := F.ex
  refine ⟨len, ?_⟩
  intro A outer s H args us vs Q E pl hr hp e0 hb r hsp
  have up : ∀ b o, base.get? b = some o → s.heap.get? b = some o := fun b o e => (e0.bs b o e).1
  have KX : K.In s.heap := e0.mod.kin.keeps up
  refine codeAny_call_function hr.deep (KX _ _ lk) rfl S.co S.gen rfl (PySem.W.codeRec_of KX hcd) (hb _ _ _ _ ?_)
  refine wpAny_newFunctionEnv_cells S.kind (fun y hy => ?_) fun env he s1 x => ?_
  · obtain ⟨n, v⟩ := y
    cases S.par n (List.of_mem_zip hy).1 with
    | inl q => exact Or.inl q
    | inr q => exact Or.inr ⟨q, PySem.W.cellsFrom_some _ _ _ (Or.inl q)⟩
  · subst he
    refine ⟨(e0.mod.nolimit.keeps up).keeps x.toInCall.keep, codeAny_func ?_⟩
    obtain ⟨t, ht, hq⟩ := body cdv A outer s H vs Q E pl rfl (hr.deeper _) hsp
    have I := inv_go (E := E) (c := c) (pl := pl) S hr.hd hp e0 (len _ _ _ _ _ hsp) r x
    refine wpAny_mono (ht.run [] s1 (start N vs) H _ I hq) (fun fl s' hs => ?_) (fun e s' hs => hs)
    cases fl with
    | brk => obtain ⟨_, _, _, q⟩ := hs; exact q.elim
    | cont => obtain ⟨_, _, _, q⟩ := hs; exact q.elim
    | ret u => obtain ⟨v, σ', H', J, rv, q⟩ := hs; exact ⟨v, H', J.os, J.bare, J.base, J.hok, rv, q⟩
    | next => obtain ⟨σ', H', J, q⟩ := hs; exact ⟨.non, H', J.os, J.bare, J.base, J.hok, rfl, q⟩
/-- THE RULE of a def -/
theorem fn_go {x : Str} {st : Stmt} {fd : FuncData} {k : Nat} {sp : Sq} (F : Fun K x qual st f fd) (S : FnScope N ps (defScope st)) (len : ∀ pl vs H Q E, sp pl vs H Q E → vs.length = ps.length)
    (body : ∀ (cdv : Value) (A : Around) (outer : List Env) (s : Shared) (H : Hp) (vs : List V) (Q : VK) (E : XK) (pl : Pins), Rm c k (A.deeper (envOfC qual (defScope st) s.heap.objs.size f cdv)) → sp pl vs H Q E →
      ∃ t, PSs (cxG P w K mg base N qual (defScope st) f cdv A outer s H E c pl) (defBody st) t ∧ t { nx := fun _ H' => Q .non H', rt := Q } (start N vs) H) :
    FnG P w K mg base c (k + 1) f fd ps sp := fn_goC F S len fun cdv A outer s H vs Q E pl _ hr h => body cdv A outer s H vs Q E pl hr h
end

section
variable {X : Cx} {c : Bool} {k : Nat} {f : Addr} {fd : FuncData} {ps : List Str} {sp : Sq} {E : L2.St → XK} {x : Str} {q pos : Pos} {e : Expr} {es : List Expr} {t : TA} {pl : Pins}
/-- what a call may let out -/
abbrev Lets (X : Cx) (E : L2.St → XK) : Prop := ∀ σ, PassesAt (L2.CX X.prog X.w) X σ (E σ)
theorem run_go {pins : Pins} {σ : L2.St} {H : Hp} {s : Shared} {Q : VK} {us : List Value} {vs : List V} (F : FnG X.prog X.w X.K X.mg X.base c k f fd ps sp) (hr : Rm c k X.A) (hp : ∀ p ∈ pl, p ∈ X.pn) (hb : Binds X.K fd ps []) (hx : Lets X E)
    (I : Inv X pins σ H s) (r : Vals vs us) (h : sp pl vs H Q (E σ)) : wpAny (model X.prog X.w) X.A (call (.ref f) us) (EP X pins σ Q) X.xe s := by
  have hl : (us ++ ([] : List Value)).length = ps.length := by rw [List.append_nil, ← r.length]; exact F.len _ _ _ _ _ h
  have b := hb s us I.kIn hl
  rw [List.append_nil] at b
  have pin : ∀ p ∈ pl, PinAt X.stack H s p := fun p hm => by
    have z := I.pin p (List.mem_append_left _ (hp p hm))
    refine { get := z.1, free := z.2.1, nofs := fun hf => ?_, nocell := z.2.2.2.2 }
    cases List.mem_cons.mp (I.stkSub p.1 hf) with
    | inl y => exact z.2.2.1 y
    | inr y => exact z.2.2.2.1 y
  refine wpAny_call (codeAny_mono (F.run X.A X.stack s H ⟨us, []⟩ us vs Q (E σ) pl hr pin I.env0 b r h) (fun r s' hq => ?_))
  match r, hq with
  | .error e, hq => exact hx σ pins H s e s' I hq
  | .ok (.ret u), hq => exact I.after hq
  | .ok .next, hq => exact hq.elim
  | .ok .brk, hq => exact hq.elim
  | .ok .cont, hq => exact hq.elim
/-- f(e, ..) -/
def tCallG (sp : Sq) (pl : Pins) (E : L2.St → XK) (t : TA) : TE := fun σ H Q => t σ H fun vs H1 => sp pl vs H1 Q (E σ)
theorem pe_go (F : FnG X.prog X.w X.K X.mg X.base c k f fd ps sp) (hr : Rm c k X.A) (hp : ∀ p ∈ pl, p ∈ X.pn) (hg : Gl X x) (hm : X.mg x = some (.ref f)) (hk : PySem.W.keepIn X.K (.ref f) = true) (hb : Binds X.K fd ps []) (hx : Lets X E)
    (ha : PA X (e :: es) t) (hdb : (x == ("__debug__" : Str)) = false := by decide) (he : starEach (e :: es) X.env = (false, eval e X.env) :: starEach es X.env := by rfl) (hpl : (backTo pos (starEach es X.env)).any (·.1) = false := by rfl) :
    PE X (.Call (.Name x q) (e :: es) [] pos) (tCallG sp pl E t) := by
  refine ⟨fun pins s σ H Q I h => ?_⟩
  refine wpAny_Call_Name_kw (ld_glob I hg hm ?_ hdb)
  refine PySem.W.callWith_K (h₀ := X.base) I.ok.mod.kin hk (thn (ha.run pos pins s σ H _ I h) ?_) he hpl
  intro us s1 z
  obtain ⟨vs, H1, I1, r, q⟩ := z
  exact ⟨I1.kIn, run_go F hr hp hb hx I1 r q⟩
/-- f() -/
theorem pe_go0 (F : FnG X.prog X.w X.K X.mg X.base c k f fd ps sp) (hr : Rm c k X.A) (hp : ∀ p ∈ pl, p ∈ X.pn) (hg : Gl X x) (hm : X.mg x = some (.ref f)) (hk : PySem.W.keepIn X.K (.ref f) = true) (hb : Binds X.K fd ps []) (hx : Lets X E)
    (hdb : (x == ("__debug__" : Str)) = false := by decide) : PE X (.Call (.Name x q) [] [] pos) (tCallG sp pl E tNil) := by
  refine ⟨fun pins s σ H Q I h => ?_⟩
  refine wpAny_Call_Name_kw (ld_glob I hg hm ?_ hdb)
  exact PySem.W.callWith_K0 I.kIn hk (run_go (us := []) F hr hp hb hx I .nil h)
/-- nothing is let out -/
theorem lets0 : Lets X (fun _ => E0) := fun _ pins H s e s' I z => by
  obtain ⟨_, _, _, _, _, _, _, _, _, _, _, _, q⟩ := z
  exact q.elim
end
end G

set_option Elab.async false
set_option linter.all false
set_option maxRecDepth 100000
set_option maxHeartbeats 4000000
/-! DBase: data (trees of plain values) in place of values and heaps; what a body does, told over data alone. -/
namespace G
open PySem PySem.Spec PyProof.Rows L2
/-! ### data -/
inductive D where
  | non | bl (b : Bool) | int (i : Int) | str (s : Str) | ty (n : String) | fn (a : Addr)
  | tup (l : List D) | lst (l : List D) | dic (l : List (Key × D)) | obj (C : Addr) (l : List (Str × D)) | exc (a : Addr) (dd : Option Addr) (C : Addr) (l : List (Str × D))
mutual
inductive Rp (K : PySem.W.Frag) (H : Hp) : V → D → Prop
  | non : Rp K H .non .non
  | bl (b : Bool) : Rp K H (.bl b) (.bl b)
  | int (i : Int) : Rp K H (.int i) (.int i)
  | str (s : Str) : Rp K H (.str s) (.str s)
  | ty (n : String) : Rp K H (.ty n) (.ty n)
  | fn (a : Addr) : Rp K H (.ref a) (.fn a)
  | tup {a : Addr} {xs : List V} {ds : List D} : SqT K H a xs → RpA K H xs ds → Rp K H (.ref a) (.tup ds)
  | lst {a : Addr} {xs : List V} {ds : List D} : H a = some (.lst xs) → RpA K H xs ds → Rp K H (.ref a) (.lst ds)
  | dic {a : Addr} {xs : List (Key × V)} {ds : List (Key × D)} : H a = some (.dK xs) → xs.map (·.1) = ds.map (·.1) → RpA K H (xs.map (·.2)) (ds.map (·.2)) → Rp K H (.ref a) (.dic ds)
  | obj {a C dx : Addr} {xs : List (Str × V)} {ds : List (Str × D)} : H a = some (.ins C dx xs) → xs.map (·.1) = ds.map (·.1) → RpA K H (xs.map (·.2)) (ds.map (·.2)) → Rp K H (.ref a) (.obj C ds)
  | exc {a dd C : Addr} {xs : List (Str × V)} {ds : List (Str × D)} : H dd = some (.xd xs) → xs.map (·.1) = ds.map (·.1) → RpA K H (xs.map (·.2)) (ds.map (·.2)) → Rp K H (.ref a) (.exc a (some dd) C ds)
  | exc0 (a C : Addr) : Rp K H (.ref a) (.exc a none C [])
inductive RpA (K : PySem.W.Frag) (H : Hp) : List V → List D → Prop
  | nil : RpA K H [] []
  | cons {v : V} {vs : List V} {d : D} {ds : List D} : Rp K H v d → RpA K H vs ds → RpA K H (v :: vs) (d :: ds)
end
def Ex (H H' : Hp) : Prop := ∀ a o, H a = some o → H' a = some o
theorem Ex.refl (H : Hp) : Ex H H := fun _ _ h => h
theorem Ex.trans {H H1 H2 : Hp} (a : Ex H H1) (b : Ex H1 H2) : Ex H H2 := fun x o h => b x o (a x o h)
theorem Ex.new {H : Hp} {p : Addr} {o : HO} (h : H p = none) : Ex H (upd H p o) := fun a u e => by rw [upd_ne (ne_of_none e h)]; exact e
theorem Ex.no {H H' : Hp} {p : Addr} (e : Ex H H') (h : H' p = none) : H p = none := by
  cases q : H p with
  | none => rfl
  | some o => rw [e p o q] at h; cases h
theorem Ex.up {H H' : Hp} {p : Addr} {o : HO} (e : Ex H H') : Ex (upd H p o) (upd H' p o) := fun a u h => by
  by_cases z : a = p
  · subst z; rw [upd_same] at h ⊢; exact h
  · rw [upd_ne z] at h ⊢; exact e a u h
theorem Ex.rd {H H' : Hp} {a : Addr} {u : HO} (e : Ex H H') (h : Rd H a u) : Rd H' a u := by
  cases h with
  | inl h => exact Or.inl (e _ _ h)
  | inr h => obtain ⟨o, h⟩ := h; exact Or.inr ⟨o, e _ _ h⟩
theorem Ex.sl {K : PySem.W.Frag} {H H' : Hp} {a : Addr} {xs : List V} (e : Ex H H') (h : SqL K H a xs) : SqL K H' a xs := h.elim (fun h => Or.inl (e.rd h)) Or.inr
theorem Ex.st {K : PySem.W.Frag} {H H' : Hp} {a : Addr} {xs : List V} (e : Ex H H') (h : SqT K H a xs) : SqT K H' a xs := h.elim (fun h => Or.inl (e.rd h)) Or.inr
section
variable {K : PySem.W.Frag} {H H' : Hp}
mutual
theorem Rp.up (e : Ex H H') : ∀ {v : V} {d : D}, Rp K H v d → Rp K H' v d
  | _, _, .non => .non
  | _, _, .bl b => .bl b
  | _, _, .int i => .int i
  | _, _, .str s => .str s
  | _, _, .ty n => .ty n
  | _, _, .fn a => .fn a
  | _, _, .tup h r => .tup (e.st h) (RpA.up e r)
  | _, _, .lst h r => .lst (e _ _ h) (RpA.up e r)
  | _, _, .dic h k r => .dic (e _ _ h) k (RpA.up e r)
  | _, _, .obj h k r => .obj (e _ _ h) k (RpA.up e r)
  | _, _, .exc h k r => .exc (e _ _ h) k (RpA.up e r)
  | _, _, .exc0 a C => .exc0 a C
theorem RpA.up (e : Ex H H') : ∀ {vs : List V} {ds : List D}, RpA K H vs ds → RpA K H' vs ds
  | _, _, .nil => .nil
  | _, _, .cons h r => .cons (Rp.up e h) (RpA.up e r)
end
theorem RpA.len : ∀ {vs : List V} {ds : List D}, RpA K H vs ds → vs.length = ds.length
  | _, _, .nil => rfl
  | _, _, .cons _ r => congrArg (· + 1) r.len
theorem RpA.at : ∀ {vs : List V} {ds : List D} {i : Nat} {d : D}, RpA K H vs ds → ds[i]? = some d → ∃ v, vs[i]? = some v ∧ Rp K H v d
  | _, _, _, _, .nil, h => by simp at h
  | _, _, 0, _, .cons (v := v) q _, h => by simp at h; subst h; exact ⟨v, rfl, q⟩
  | _, _, i + 1, _, .cons _ r, h => by
    obtain ⟨v, e, q⟩ := r.at (i := i) (by simpa using h)
    exact ⟨v, by simpa using e, q⟩
theorem RpA.at' : ∀ {vs : List V} {ds : List D} {i : Nat} {v : V}, RpA K H vs ds → vs[i]? = some v → ∃ d, ds[i]? = some d ∧ Rp K H v d
  | _, _, _, _, .nil, h => by simp at h
  | _, _, 0, _, .cons (d := d) q _, h => by simp at h; subst h; exact ⟨d, rfl, q⟩
  | _, _, i + 1, _, .cons _ r, h => by
    obtain ⟨v, e, q⟩ := r.at' (i := i) (by simpa using h)
    exact ⟨v, by simpa using e, q⟩
theorem RpA.app : ∀ {vs ws : List V} {ds es : List D}, RpA K H vs ds → RpA K H ws es → RpA K H (vs ++ ws) (ds ++ es)
  | _, _, _, _, .nil, r => r
  | _, _, _, _, .cons q r, s => .cons q (r.app s)
theorem RpA.ints : ∀ {ns : List Int}, RpA K H (ns.map V.int) (ns.map D.int)
  | [] => .nil
  | n :: r => .cons (.int n) RpA.ints
end

/-! ### the pen of the laws: the dict from which all is drawn -/
def PenO (K : PySem.W.Frag) (Hf : Hp) (o : HO) : Prop :=
  ∃ (c : Addr) (ns : List Int) (at' dg cn fo : Int), o = .dK [(Sum.inr "cells", .ref c), (Sum.inr "at", .int at'), (Sum.inr "digits", .int dg), (Sum.inr "count", .int cn), (Sum.inr "fold", .int fo)] ∧
    SqL K Hf c (ns.map V.int) ∧ 0 ≤ at' ∧ 0 ≤ dg ∧ dg.natAbs < 2 ^ 1048577 ∧ 0 ≤ fo ∧ fo < 2 ^ 31 ∧ (∀ n ∈ ns, Builtin.Int.intBits n ≤ 1048576)
theorem PenO.up {K : PySem.W.Frag} {H H' : Hp} {o : HO} (e : Ex H H') (h : PenO K H o) : PenO K H' o := by
  obtain ⟨c, ns, a, d, n, f, q, s, r⟩ := h
  exact ⟨c, ns, a, d, n, f, q, e.sl s, r⟩

/-! ### what stands ahead of a body: B what may not be touched, F what may be read for good, M the pens -/
structure Bs where
  B : Hp
  F : Hp
  M : List Addr
  T : List (Addr × Str)
/-- what may change under a body: pens, tables of code -/
def Bs.mt (b : Bs) (a : Addr) : Prop := a ∈ b.M ∨ a ∈ b.T.map (·.1)
theorem Bs.mtM {b : Bs} {a : Addr} (h : a ∈ b.M) : b.mt a := Or.inl h
theorem Bs.mtT {b : Bs} {p : Addr × Str} (h : p ∈ b.T) : b.mt p.1 := Or.inr (List.mem_map.mpr ⟨p, h, rfl⟩)
theorem Bs.mt0 {B F : Hp} {M : List Addr} {a : Addr} (h : a ∉ M) : ¬ (Bs.mt ⟨B, F, M, []⟩ a) := fun z => z.elim h (fun z => by cases z)
/-- the table at P: what it tells are known code objects of the name q -/
def TabOk (Hf H : Hp) (P : Addr) (q : Str) : Prop := ∃ ps : Array Value, H P = some (.tbl ps) ∧ TriplesOk ps.toList ∧ ∀ (pos : Pos) (cv : Value), codeAmong pos ps.toList = some cv → ∃ c, cv = .ref c ∧ Hf c = some (LamX.CodeO c q)
theorem TabOk.up {Hf H Hf' H' : Hp} {P : Addr} {q : Str} (t : TabOk Hf H P q) (e : Ex Hf Hf') (h : H' P = H P) : TabOk Hf' H' P q := by
  obtain ⟨ps, h1, h2, h3⟩ := t
  refine ⟨ps, h.trans h1, h2, fun pos cv hc => ?_⟩
  obtain ⟨c, e1, e2⟩ := h3 pos cv hc
  exact ⟨c, e1, e _ _ e2⟩
theorem TabOk.ne {Hf H : Hp} {P p : Addr} {q : Str} (t : TabOk Hf H P q) (h : H p = none ∨ ∃ xs, H p = some (.lst xs)) : P ≠ p := fun z => by
  obtain ⟨ps, h1, _⟩ := t
  rw [z] at h1
  rcases h with h | ⟨xs, h⟩
  · rw [h] at h1; cases h1
  · rw [h] at h1; cases h1
structure Exit (K : PySem.W.Frag) (b : Bs) (Hf H : Hp) : Prop where
  exF : Ex Hf H
  ex0 : Ex b.F Hf
  exB : Ex b.B H
  frz : ∀ a, b.B a ≠ none → b.F a = none → Hf a = none
  pens : ∀ p ∈ b.M, Hf p = none ∧ b.B p = none ∧ ∃ o, H p = some o ∧ PenO K Hf o
  tabs : ∀ p ∈ b.T, Hf p.1 = none ∧ b.B p.1 = none ∧ p.1 ∉ b.M ∧ TabOk Hf H p.1 p.2
/-- what a slot holds: nothing told | data, shared | a list of one's own | the pen -/
inductive Sl where
  | no | sh (d : D) | ow (ds : List D) | pen
def SlOk (K : PySem.W.Frag) (M : List Addr) (Hf H : Hp) : Option V → Sl → Prop
  | _, .no => True
  | some v, .sh d => Rp K Hf v d
  | some v, .ow ds => ∃ a xs, v = .ref a ∧ Hf a = none ∧ H a = some (.lst xs) ∧ RpA K Hf xs ds ∧ a ∉ M
  | some v, .pen => ∃ p ∈ M, v = .ref p
  | none, _ => False
def Own (σ : L2.St) (ρ : List Sl) (i : Nat) (a : Addr) : Prop := (∃ ds, ρ[i]? = some (.ow ds)) ∧ σ[i]? = some (some (.ref a))
structure Fm (K : PySem.W.Frag) (b : Bs) (Hf H : Hp) (σ : L2.St) (ρ : List Sl) : Prop where
  ex : Exit K b Hf H
  len : σ.length = ρ.length
  sl : ∀ (i : Nat) (o : Option V) (s : Sl), σ[i]? = some o → ρ[i]? = some s → SlOk K b.M Hf H o s
  mine : ∀ i a, Own σ ρ i a → b.B a = none
  sep : ∀ i j a, Own σ ρ i a → Own σ ρ j a → i = j

section
variable {K : PySem.W.Frag} {b : Bs} {Hf H Hf' H' : Hp} {σ : L2.St} {ρ : List Sl}
/-- nothing of one's own is touched -/
theorem Fm.step (fr : Fm K b Hf H σ ρ) (x : Exit K b Hf' H') (e : Ex Hf Hf') (k : ∀ a xs, H a = some (.lst xs) → Hf a = none → b.B a = none → a ∉ b.M → Hf' a = none ∧ H' a = some (.lst xs)) : Fm K b Hf' H' σ ρ := by
  refine { ex := x, len := fr.len, sl := fun i o s h1 h2 => ?_, mine := fr.mine, sep := fr.sep }
  have q := fr.sl i o s h1 h2
  match o, s, q with
  | _, .no, _ => trivial
  | some v, .sh d, q => exact Rp.up e q
  | some v, .pen, q => exact q
  | some v, .ow ds, q =>
    obtain ⟨a, xs, rfl, h3, h4, r, nm⟩ := q
    obtain ⟨z1, z2⟩ := k a xs h4 h3 (fr.mine i a ⟨⟨ds, h2⟩, h1⟩) nm
    exact ⟨a, xs, rfl, z1, z2, RpA.up e r, nm⟩
theorem Exit.put (x : Exit K b Hf H) {p : Addr} {o : HO} (hp : H p = none) : Exit K b (upd Hf p o) (upd H p o) := by
  have np := x.exF.no hp
  have nb := x.exB.no hp
  refine { exF := x.exF.up, ex0 := x.ex0.trans (Ex.new np), exB := x.exB.trans (Ex.new hp), frz := fun a h1 h2 => ?_, pens := fun q hq => ?_, tabs := fun q hq => ?_ }
  · rw [upd_ne (fun z => h1 (by rw [z]; exact nb))]
    exact x.frz a h1 h2
  · obtain ⟨h1, h2, ob, h3, h4⟩ := x.pens q hq
    have n : q ≠ p := ne_of_none h3 hp
    exact ⟨by rw [upd_ne n]; exact h1, h2, ob, by rw [upd_ne n]; exact h3, h4.up (Ex.new np)⟩
  · obtain ⟨h1, h2, h3, h4⟩ := x.tabs q hq
    have n := h4.ne (Or.inl hp)
    exact ⟨by rw [upd_ne n]; exact h1, h2, h3, h4.up (Ex.new np) (upd_ne n)⟩
/-- a new object is laid -/
theorem Fm.put (fr : Fm K b Hf H σ ρ) {p : Addr} {o : HO} (hp : H p = none) : Fm K b (upd Hf p o) (upd H p o) σ ρ :=
  fr.step (fr.ex.put hp) (Ex.new (fr.ex.exF.no hp)) fun a xs h1 h2 _ _ => by
    have n : a ≠ p := ne_of_none h1 hp
    rw [upd_ne n, upd_ne n]
    exact ⟨h2, h1⟩
/-- a slot is set to shared data -/
theorem Fm.set (fr : Fm K b Hf H σ ρ) {i : Nat} {v : V} {d : D} (r : Rp K Hf v d) : Fm K b Hf H (σ.set i (some v)) (ρ.set i (.sh d)) := by
  have own : ∀ j a, Own (σ.set i (some v)) (ρ.set i (.sh d)) j a → Own σ ρ j a := fun j a ⟨⟨ds, h1⟩, h2⟩ => by
    by_cases z : j = i
    · subst z
      rw [List.getElem?_set] at h1
      simp at h1
    · rw [List.getElem?_set_ne (Ne.symm z)] at h1 h2
      exact ⟨⟨ds, h1⟩, h2⟩
  refine { ex := fr.ex, len := by rw [List.length_set, List.length_set]; exact fr.len, sl := fun j o s h1 h2 => ?_, mine := fun j a h => fr.mine j a (own j a h), sep := fun j k a h1 h2 => fr.sep j k a (own j a h1) (own k a h2) }
  by_cases z : j = i
  · subst z
    rw [List.getElem?_set] at h1 h2
    simp at h1 h2
    obtain ⟨_, rfl⟩ := h1
    obtain ⟨_, rfl⟩ := h2
    exact r
  · rw [List.getElem?_set_ne (Ne.symm z)] at h1 h2
    exact fr.sl j o s h1 h2
/-- a slot is forgotten -/
theorem Fm.drop (fr : Fm K b Hf H σ ρ) {i : Nat} {o' : Option V} : Fm K b Hf H (σ.set i o') (ρ.set i .no) := by
  have own : ∀ j a, Own (σ.set i o') (ρ.set i .no) j a → Own σ ρ j a := fun j a ⟨⟨ds, h1⟩, h2⟩ => by
    by_cases z : j = i
    · subst z
      rw [List.getElem?_set] at h1
      simp at h1
    · rw [List.getElem?_set_ne (Ne.symm z)] at h1 h2
      exact ⟨⟨ds, h1⟩, h2⟩
  refine { ex := fr.ex, len := by rw [List.length_set, List.length_set]; exact fr.len, sl := fun j o s h1 h2 => ?_, mine := fun j a h => fr.mine j a (own j a h), sep := fun j k a h1 h2 => fr.sep j k a (own j a h1) (own k a h2) }
  by_cases z : j = i
  · subst z
    rw [List.getElem?_set] at h2
    simp at h2
    obtain ⟨_, rfl⟩ := h2
    match o with
    | none => trivial
    | some _ => trivial
  · rw [List.getElem?_set_ne (Ne.symm z)] at h1 h2
    exact fr.sl j o s h1 h2
/-- a new list becomes one's own -/
theorem Fm.own (fr : Fm K b Hf H σ ρ) {i : Nat} {p : Addr} {xs : List V} {ds : List D} (hp : H p = none) (r : RpA K Hf xs ds) : Fm K b Hf (upd H p (.lst xs)) (σ.set i (some (.ref p))) (ρ.set i (.ow ds)) := by
  have np := fr.ex.exF.no hp
  have nm : p ∉ b.M := fun z => by
    obtain ⟨_, _, o, h3, _⟩ := fr.ex.pens p z
    rw [hp] at h3; cases h3
  have old : ∀ j a, j ≠ i → Own (σ.set i (some (.ref p))) (ρ.set i (.ow ds)) j a → Own σ ρ j a ∧ a ≠ p := fun j a z ⟨⟨es, h1⟩, h2⟩ => by
    rw [List.getElem?_set_ne (Ne.symm z)] at h1 h2
    refine ⟨⟨⟨es, h1⟩, h2⟩, fun e => ?_⟩
    obtain ⟨a', ys, e1, _, h3, _⟩ := fr.sl j _ _ h2 h1
    cases e1
    rw [e, hp] at h3; cases h3
  have at_i : ∀ a, Own (σ.set i (some (.ref p))) (ρ.set i (.ow ds)) i a → a = p := fun a ⟨_, h2⟩ => by
    rw [List.getElem?_set] at h2
    simp at h2
    exact h2.2.symm
  refine { ex := ?_, len := by rw [List.length_set, List.length_set]; exact fr.len, sl := fun j o s h1 h2 => ?_, mine := fun j a h => ?_, sep := fun j k a h1 h2 => ?_ }
  · refine { exF := fr.ex.exF.trans (Ex.new hp), ex0 := fr.ex.ex0, exB := fr.ex.exB.trans (Ex.new hp), frz := fr.ex.frz, pens := fun q hq => ?_, tabs := fun q hq => ?_ }
    · obtain ⟨h1, h2, ob, h3, h4⟩ := fr.ex.pens q hq
      exact ⟨h1, h2, ob, by rw [upd_ne (ne_of_none h3 hp)]; exact h3, h4⟩
    · obtain ⟨h1, h2, h3, h4⟩ := fr.ex.tabs q hq
      exact ⟨h1, h2, h3, h4.up (Ex.refl _) (upd_ne (h4.ne (Or.inl hp)))⟩
  · by_cases z : j = i
    · subst z
      rw [List.getElem?_set] at h1 h2
      simp at h1 h2
      obtain ⟨_, rfl⟩ := h1
      obtain ⟨_, rfl⟩ := h2
      exact ⟨p, xs, rfl, np, upd_same, r, nm⟩
    · rw [List.getElem?_set_ne (Ne.symm z)] at h1 h2
      have q := fr.sl j o s h1 h2
      match o, s, q with
      | none, .no, _ => trivial
      | some _, .no, _ => trivial
      | some v, .sh d, q => exact q
      | some v, .pen, q => exact q
      | some v, .ow es, q =>
        obtain ⟨a, ys, rfl, h3, h4, r', nm'⟩ := q
        exact ⟨a, ys, rfl, h3, by rw [upd_ne (ne_of_none h4 hp)]; exact h4, r', nm'⟩
  · by_cases z : j = i
    · subst z
      rw [at_i a h]
      exact fr.ex.exB.no hp
    · exact fr.mine j a (old j a z h).1
  · by_cases z : j = i
    · by_cases y : k = i
      · rw [z, y]
      · subst z
        exact ((old k a y h2).2 (at_i a h1)).elim
    · by_cases y : k = i
      · subst y
        exact ((old j a z h1).2 (at_i a h2)).elim
      · exact fr.sep j k a (old j a z h1).1 (old k a y h2).1
/-- one's own list is changed -/
theorem Fm.chg (fr : Fm K b Hf H σ ρ) {i : Nat} {p : Addr} {xs : List V} {ds es : List D} (hi : ρ[i]? = some (.ow ds)) (hs : σ[i]? = some (some (.ref p))) (r : RpA K Hf xs es) : Fm K b Hf (upd H p (.lst xs)) σ (ρ.set i (.ow es)) := by
  obtain ⟨p', ys, e0, np, hp, _, nm⟩ := fr.sl i _ _ hs hi
  cases e0
  have nb := fr.mine i p ⟨⟨ds, hi⟩, hs⟩
  have own : ∀ j a, Own σ (ρ.set i (.ow es)) j a → Own σ ρ j a := fun j a ⟨⟨fs, h1⟩, h2⟩ => by
    by_cases z : j = i
    · subst z
      exact ⟨⟨ds, hi⟩, h2⟩
    · rw [List.getElem?_set_ne (Ne.symm z)] at h1
      exact ⟨⟨fs, h1⟩, h2⟩
  refine { ex := ?_, len := by rw [List.length_set]; exact fr.len, sl := fun j o s h1 h2 => ?_, mine := fun j a h => fr.mine j a (own j a h), sep := fun j k a h1 h2 => fr.sep j k a (own j a h1) (own k a h2) }
  · refine { exF := fun a o e => ?_, ex0 := fr.ex.ex0, exB := fun a o e => ?_, frz := fr.ex.frz, pens := fun q hq => ?_, tabs := fun q hq => ?_ }
    · rw [upd_ne (ne_of_none e np)]; exact fr.ex.exF a o e
    · rw [upd_ne (ne_of_none e nb)]; exact fr.ex.exB a o e
    · obtain ⟨h1, h2, ob, h3, h4⟩ := fr.ex.pens q hq
      exact ⟨h1, h2, ob, by rw [upd_ne (fun z => nm (by rw [← z]; exact hq))]; exact h3, h4⟩
    · obtain ⟨h1, h2, h3, h4⟩ := fr.ex.tabs q hq
      exact ⟨h1, h2, h3, h4.up (Ex.refl _) (upd_ne (h4.ne (Or.inr ⟨_, hp⟩)))⟩
  · by_cases z : j = i
    · subst z
      rw [h1] at hs
      cases hs
      rw [List.getElem?_set] at h2
      simp at h2
      obtain ⟨_, rfl⟩ := h2
      exact ⟨p, xs, rfl, np, upd_same, r, nm⟩
    · rw [List.getElem?_set_ne (Ne.symm z)] at h2
      have q := fr.sl j o s h1 h2
      match o, s, q, h1, h2 with
      | none, .no, _, _, _ => trivial
      | some _, .no, _, _, _ => trivial
      | some v, .sh d, q, _, _ => exact q
      | some v, .pen, q, _, _ => exact q
      | some v, .ow fs, q, h1, h2 =>
        obtain ⟨a, zs, rfl, h3, h4, r', nm'⟩ := q
        have n : a ≠ p := fun e => z (fr.sep j i a ⟨⟨fs, h2⟩, h1⟩ ⟨⟨ds, hi⟩, by rw [e]; exact hs⟩)
        exact ⟨a, zs, rfl, h3, by rw [upd_ne n]; exact h4, r', nm'⟩
/-- one's own list is shared from now on -/
theorem Fm.share (fr : Fm K b Hf H σ ρ) {i : Nat} {ds : List D} (hi : ρ[i]? = some (.ow ds)) : ∃ Hf', Ex Hf Hf' ∧ Fm K b Hf' H σ (ρ.set i (.sh (.lst ds))) := by
  have hl : i < σ.length := by rw [fr.len]; exact (List.getElem?_eq_some_iff.mp hi).1
  obtain ⟨o, ho⟩ : ∃ o, σ[i]? = some o := ⟨_, List.getElem?_eq_getElem hl⟩
  have q := fr.sl i o _ ho hi
  match o, q, ho with
  | none, q, _ => exact q.elim
  | some v, q, ho =>
    obtain ⟨p, xs, rfl, np, hp, r, nm⟩ := q
    have e := Ex.new (o := .lst xs) np
    have nb := fr.mine i p ⟨⟨ds, hi⟩, ho⟩
    have own : ∀ j a, Own σ (ρ.set i (.sh (.lst ds))) j a → Own σ ρ j a ∧ j ≠ i := fun j a ⟨⟨fs, h1⟩, h2⟩ => by
      by_cases z : j = i
      · subst z
        rw [List.getElem?_set] at h1
        simp at h1
      · rw [List.getElem?_set_ne (Ne.symm z)] at h1
        exact ⟨⟨⟨fs, h1⟩, h2⟩, z⟩
    refine ⟨upd Hf p (.lst xs), e, { ex := ?_, len := by rw [List.length_set]; exact fr.len, sl := fun j o s h1 h2 => ?_, mine := fun j a h => fr.mine j a (own j a h).1, sep := fun j k a h1 h2 => fr.sep j k a (own j a h1).1 (own k a h2).1 }⟩
    · refine { exF := fun a o h => ?_, ex0 := fr.ex.ex0.trans e, exB := fr.ex.exB, frz := fun a h1 h2 => ?_, pens := fun q hq => ?_, tabs := fun q hq => ?_ }
      · by_cases z : a = p
        · subst z; rw [upd_same] at h; cases h; exact hp
        · rw [upd_ne z] at h; exact fr.ex.exF a o h
      · rw [upd_ne (fun z => h1 (by rw [z]; exact nb))]; exact fr.ex.frz a h1 h2
      · obtain ⟨h1, h2, ob, h3, h4⟩ := fr.ex.pens q hq
        exact ⟨by rw [upd_ne (fun z => nm (by rw [← z]; exact hq))]; exact h1, h2, ob, h3, h4.up e⟩
      · obtain ⟨h1, h2, h3, h4⟩ := fr.ex.tabs q hq
        exact ⟨by rw [upd_ne (h4.ne (Or.inr ⟨_, hp⟩))]; exact h1, h2, h3, h4.up e rfl⟩
    · by_cases z : j = i
      · subst z
        rw [ho] at h1
        cases h1
        rw [List.getElem?_set] at h2
        simp at h2
        obtain ⟨_, rfl⟩ := h2
        exact Rp.lst upd_same (RpA.up e r)
      · rw [List.getElem?_set_ne (Ne.symm z)] at h2
        have q := fr.sl j o s h1 h2
        match o, s, q, h1, h2 with
        | none, .no, _, _, _ => trivial
        | some _, .no, _, _, _ => trivial
        | some v, .sh d, q, _, _ => exact Rp.up e q
        | some v, .pen, q, _, _ => exact q
        | some v, .ow fs, q, h1, h2 =>
          obtain ⟨a, zs, rfl, h3, h4, r', nm'⟩ := q
          have n : a ≠ p := fun y => z (fr.sep j i a ⟨⟨fs, h2⟩, h1⟩ ⟨⟨ds, hi⟩, by rw [y]; exact ho⟩)
          exact ⟨a, zs, rfl, by rw [upd_ne n]; exact h3, h4, RpA.up e r', nm'⟩
end
end G

set_option Elab.async false
set_option linter.all false
set_option maxRecDepth 100000
set_option maxHeartbeats 4000000
/-! DRules: readings over data: expressions (DE), arguments (DA, DC), tests (DT), statements (DS). -/
namespace G
open PySem PySem.Spec PyProof.Rows L2
/-! ### data as plain data of the library -/
def keyPy : Key → PyData
  | .inl i => .int i
  | .inr x => .str x
mutual
def D.py : D → PyData
  | .non => .none
  | .bl b => .bool b
  | .int i => .int i
  | .str s => .str s
  | .ty _ => .none
  | .fn _ => .none
  | .tup l => .tuple (D.pyL l)
  | .lst l => .list (D.pyL l)
  | .dic l => .dict (D.pyK l)
  | .obj _ _ => .none
  | .exc _ _ _ _ => .none
def D.pyL : List D → List PyData
  | [] => []
  | d :: r => d.py :: D.pyL r
def D.pyK : List (Key × D) → List (PyData × PyData)
  | [] => []
  | (k, d) :: r => (keyPy k, d.py) :: D.pyK r
end
/-! plain: no classes, defs, objects -/
mutual
def D.pl : D → Bool
  | .non => true
  | .bl _ => true
  | .int _ => true
  | .str _ => true
  | .ty _ => false
  | .fn _ => false
  | .tup l => D.plL l
  | .lst l => D.plL l
  | .dic l => D.plK l
  | .obj _ _ => false
  | .exc _ _ _ _ => false
def D.plL : List D → Bool
  | [] => true
  | d :: r => d.pl && D.plL r
def D.plK : List (Key × D) → Bool
  | [] => true
  | (_, d) :: r => d.pl && D.plK r
end
/-! no dict within -/
mutual
def D.nd : D → Bool
  | .tup l => D.ndL l
  | .lst l => D.ndL l
  | .dic _ => false
  | _ => true
def D.ndL : List D → Bool
  | [] => true
  | d :: r => d.nd && D.ndL r
end
section
variable {K : PySem.W.Frag} {H : Hp}
mutual
theorem Rp.dp : ∀ {v : V} {d : D}, Rp K H v d → d.pl = true → d.nd = true → Dp K H v d.py
  | _, .non, .non, _, _ => Dp.non
  | _, .bl b, .bl _, _, _ => Dp.bl b
  | _, .int i, .int _, _, _ => Dp.int i
  | _, .str s, .str _, _, _ => Dp.str s
  | _, .ty _, _, h, _ => by simp [D.pl] at h
  | _, .fn _, _, h, _ => by simp [D.pl] at h
  | _, .tup l, .tup h r, hp, hn => by
    simp only [D.py]
    exact Dp.tup h (RpA.dp r (by simpa [D.pl] using hp) (by simpa [D.nd] using hn))
  | _, .lst l, .lst h r, hp, hn => by
    simp only [D.py]
    exact Dp.lst (SqL.of h) (RpA.dp r (by simpa [D.pl] using hp) (by simpa [D.nd] using hn))
  | _, .dic _, _, _, h => by simp [D.nd] at h
  | _, .obj _ _, _, h, _ => by simp [D.pl] at h
  | _, .exc _ _ _ _, _, h, _ => by simp [D.pl] at h
theorem RpA.dp : ∀ {vs : List V} {ds : List D}, RpA K H vs ds → D.plL ds = true → D.ndL ds = true → DpAll K H vs (D.pyL ds)
  | _, [], .nil, _, _ => by simp only [D.pyL]; exact DpAll.nil
  | _, d :: r, .cons q t, hp, hn => by
    simp only [D.plL, Bool.and_eq_true] at hp
    simp only [D.ndL, Bool.and_eq_true] at hn
    simp only [D.pyL]
    exact DpAll.cons (Rp.dp q hp.1 hn.1) (RpA.dp t hp.2 hn.2)
end
theorem Rp.int_inv {v : V} {i : Int} (h : Rp K H v (.int i)) : v = .int i := by cases h; rfl
theorem Rp.bl_inv {v : V} {i : Bool} (h : Rp K H v (.bl i)) : v = .bl i := by cases h; rfl
theorem Rp.str_inv {v : V} {i : Str} (h : Rp K H v (.str i)) : v = .str i := by cases h; rfl
theorem Rp.non_inv {v : V} (h : Rp K H v .non) : v = .non := by cases h; rfl
end

/-! ### readings over data -/
/-- nothing but the pens is changed -/
def Up (b : Bs) (Hf H Hf' H' : Hp) : Prop := Ex Hf Hf' ∧ ∀ a o, H a = some o → ¬ b.mt a → H' a = some o ∧ (Hf a = none → Hf' a = none)
theorem Up.refl {b : Bs} {Hf H : Hp} : Up b Hf H Hf H := ⟨Ex.refl _, fun _ _ h _ => ⟨h, fun z => z⟩⟩
theorem Up.trans {b : Bs} {Hf H Hf1 H1 Hf2 H2 : Hp} (x : Up b Hf H Hf1 H1) (y : Up b Hf1 H1 Hf2 H2) : Up b Hf H Hf2 H2 := ⟨x.1.trans y.1, fun a o h n => by
  obtain ⟨h1, h2⟩ := x.2 a o h n
  obtain ⟨h3, h4⟩ := y.2 a o h1 n
  exact ⟨h3, fun z => h4 (h2 z)⟩⟩
theorem Up.new {b : Bs} {Hf H : Hp} {p : Addr} {o : HO} (hp : H p = none) (hf : Hf p = none) : Up b Hf H (upd Hf p o) (upd H p o) := ⟨Ex.new hf, fun a u h _ => by
  have n := ne_of_none h hp
  rw [upd_ne n, upd_ne n]
  exact ⟨h, fun z => z⟩⟩
def DE (K : PySem.W.Frag) (b : Bs) (ρ : List Sl) (t : TE) (Q : D → Prop) : Prop := ∀ (Hf H : Hp) (σ : L2.St) (k : VK), Fm K b Hf H σ ρ →
  (∀ v d Hf' H', Up b Hf H Hf' H' → Fm K b Hf' H' σ ρ → Rp K Hf' v d → Q d → k v H') → t σ H k
/-- a new list, not shared yet -/
def DN (K : PySem.W.Frag) (b : Bs) (ρ : List Sl) (t : TE) (Q : List D → Prop) : Prop := ∀ (Hf H : Hp) (σ : L2.St) (k : VK), Fm K b Hf H σ ρ →
  (∀ p xs ds Hf' H', Up b Hf H Hf' H' → Fm K b Hf' H' σ ρ → H' p = none → RpA K Hf' xs ds → Q ds → k (.ref p) (upd H' p (.lst xs))) → t σ H k
def DT (K : PySem.W.Frag) (b : Bs) (ρ : List Sl) (t : TT) (Q : Bool → Prop) : Prop := ∀ (Hf H : Hp) (σ : L2.St) (k : Bool → Hp → Prop), Fm K b Hf H σ ρ →
  (∀ c Hf' H', Up b Hf H Hf' H' → Fm K b Hf' H' σ ρ → Q c → k c H') → t σ H k
def DA (K : PySem.W.Frag) (b : Bs) (ρ : List Sl) (t : TA) (Q : List D → Prop) : Prop := ∀ (Hf H : Hp) (σ : L2.St) (k : List V → Hp → Prop), Fm K b Hf H σ ρ →
  (∀ vs ds Hf' H', Up b Hf H Hf' H' → Fm K b Hf' H' σ ρ → RpA K Hf' vs ds → Q ds → k vs H') → t σ H k
/-- arguments of a def: data, or the pen -/
def ArgOk (K : PySem.W.Frag) (M : List Addr) (Hf : Hp) : V → Sl → Prop
  | v, .sh d => Rp K Hf v d
  | v, .pen => ∃ p ∈ M, v = .ref p
  | _, _ => False
theorem ArgOk.up {K : PySem.W.Frag} {M : List Addr} {Hf Hf' : Hp} {v : V} {s : Sl} (e : Ex Hf Hf') (h : ArgOk K M Hf v s) : ArgOk K M Hf' v s := by
  match s, h with
  | .sh d, h => exact Rp.up e h
  | .pen, h => exact h
def DC (K : PySem.W.Frag) (b : Bs) (ρ : List Sl) (t : TA) (Q : List Sl → Prop) : Prop := ∀ (Hf H : Hp) (σ : L2.St) (k : List V → Hp → Prop), Fm K b Hf H σ ρ →
  (∀ vs ss Hf' H', Up b Hf H Hf' H' → Fm K b Hf' H' σ ρ → Paired (ArgOk K b.M Hf') vs ss → Q ss → k vs H') → t σ H k
def DS (K : PySem.W.Frag) (b : Bs) (ρ : List Sl) (t : TS) (nx : List Sl → Prop) (rt : D → Prop) (bk ct : List Sl → Prop) : Prop := ∀ (Hf H : Hp) (σ : L2.St) (D : Ends), Fm K b Hf H σ ρ →
  (∀ ρ' σ' Hf' H', Ex Hf Hf' → Fm K b Hf' H' σ' ρ' → nx ρ' → D.nx σ' H') → (∀ v d Hf' H', Ex Hf Hf' → Exit K b Hf' H' → Rp K Hf' v d → rt d → D.rt v H') →
  (∀ ρ' σ' Hf' H', Ex Hf Hf' → Fm K b Hf' H' σ' ρ' → bk ρ' → D.bk σ' H') → (∀ ρ' σ' Hf' H', Ex Hf Hf' → Fm K b Hf' H' σ' ρ' → ct ρ' → D.ct σ' H') → t D σ H

/-- the fields of an error, at its own dict (none: it has none) -/
def ExD (K : PySem.W.Frag) (Hf : Hp) : Option Addr → List (Str × D) → Prop
  | some dx, fs => ∃ fv, Hf dx = some (.xd fv) ∧ fv.map (·.1) = fs.map (·.1) ∧ RpA K Hf (fv.map (·.2)) (fs.map (·.2))
  | none, fs => fs = []
theorem ExD.up {K : PySem.W.Frag} {Hf Hf' : Hp} {d : Option Addr} {fs : List (Str × D)} (e : Ex Hf Hf') (h : ExD K Hf d fs) : ExD K Hf' d fs := by
  match d, h with
  | none, h => exact h
  | some dx, h =>
    obtain ⟨fv, h1, h2, h3⟩ := h
    exact ⟨fv, e _ _ h1, h2, h3.up e⟩
theorem ExD.rp {K : PySem.W.Frag} {Hf : Hp} {d : Option Addr} {fs : List (Str × D)} (a C : Addr) (h : ExD K Hf d fs) : Rp K Hf (.ref a) (.exc a d C fs) := by
  match d, h with
  | none, h =>
    have h' : fs = [] := h
    subst h'
    exact .exc0 a C
  | some dx, h =>
    obtain ⟨fv, h1, h2, h3⟩ := h
    exact .exc h1 h2 h3
/-- what a def over data promises: F tells, for arguments, what is enough that the result is as wished (R), an exception too (X: its class, its fields) -/
abbrev DF := List Sl → (D → Prop) → (Addr → List (Str × D) → Prop) → Prop
def spD (K : PySem.W.Frag) (F : DF) : Sp := fun vs H Q E => ∃ (Hf : Hp) (M : List Addr) (ss : List Sl) (R : D → Prop) (X : Addr → List (Str × D) → Prop),
  Ex Hf H ∧ (∀ p ∈ M, Hf p = none ∧ ∃ o, H p = some o ∧ PenO K Hf o) ∧ Paired (ArgOk K M Hf) vs ss ∧ F ss R X ∧
  (∀ v d Hf' H', Exit K ⟨fun a => if a ∈ M then none else H a, Hf, M, []⟩ Hf' H' → Rp K Hf' v d → R d → Q v H') ∧
  (∀ C fs d Hf' H', Exit K ⟨fun a => if a ∈ M then none else H a, Hf, M, []⟩ Hf' H' → ExD K Hf' d fs → X C fs → E (.ref C) d H')
/-- exceptions as told over data reach the wish E -/
def EL (K : PySem.W.Frag) (b : Bs) (ρ : List Sl) (E : L2.St → XK) (X : Addr → List (Str × D) → Prop) : Prop := ∀ (Hf H : Hp) (σ : L2.St), Fm K b Hf H σ ρ →
  ∀ C fs d, ExD K Hf d fs → X C fs → E σ (.ref C) d H
theorem EL.no {K : PySem.W.Frag} {b : Bs} {ρ : List Sl} {E : L2.St → XK} : EL K b ρ E (fun _ _ => False) := fun _ _ _ _ _ _ _ _ z => False.elim z

section
variable {K : PySem.W.Frag} {b : Bs} {ρ : List Sl} {ta tb te : TE} {tt tu : TT} {tr : TA} {Q : D → Prop}
theorem DE.imp {Q' : D → Prop} (h : DE K b ρ te Q) (i : ∀ d, Q d → Q' d) : DE K b ρ te Q' := fun Hf H σ k fr q => h Hf H σ k fr fun v d Hf' H' e f r z => q v d Hf' H' e f r (i d z)
theorem DT.imp {R R' : Bool → Prop} (h : DT K b ρ tt R) (i : ∀ c, R c → R' c) : DT K b ρ tt R' := fun Hf H σ k fr q => h Hf H σ k fr fun c Hf' H' e f z => q c Hf' H' e f (i c z)
/-! names and constants -/
theorem de_var {i : Nat} {d : D} (h : ρ[i]? = some (.sh d)) (q : Q d) : DE K b ρ (tVar i) Q := fun Hf H σ k fr c => by
  have hl : i < σ.length := by rw [fr.len]; exact (List.getElem?_eq_some_iff.mp h).1
  have ho : σ[i]? = some σ[i] := List.getElem?_eq_getElem hl
  have z := fr.sl i _ _ ho h
  generalize σ[i] = o at ho z
  match o, z with
  | none, z => exact z.elim
  | some v, z => exact ⟨v, ho, c v d Hf H Up.refl fr z q⟩
theorem de_int {i : Int} (q : Q (.int i)) : DE K b ρ (tC (.int i)) Q := fun Hf H σ k fr c => c _ _ Hf H Up.refl fr (.int i) q
theorem de_bl {i : Bool} (q : Q (.bl i)) : DE K b ρ (tC (.bl i)) Q := fun Hf H σ k fr c => c _ _ Hf H Up.refl fr (.bl i) q
theorem de_str {i : Str} (q : Q (.str i)) : DE K b ρ (tC (.str i)) Q := fun Hf H σ k fr c => c _ _ Hf H Up.refl fr (.str i) q
theorem de_non (q : Q .non) : DE K b ρ (tC .non) Q := fun Hf H σ k fr c => c _ _ Hf H Up.refl fr .non q
theorem de_ty {n : String} (q : Q (.ty n)) : DE K b ρ (tC (.ty n)) Q := fun Hf H σ k fr c => c _ _ Hf H Up.refl fr (.ty n) q
theorem de_fn {a : Addr} (q : Q (.fn a)) : DE K b ρ (tC (.ref a)) Q := fun Hf H σ k fr c => c _ _ Hf H Up.refl fr (.fn a) q
/-! operators: what the rule asks of the values is told by data -/
theorem de_op {r : R2} (h : DE K b ρ ta fun x => DE K b ρ tb fun y => ∀ (Hf H : Hp) (σ : L2.St) (k : VK) (v u : V), Fm K b Hf H σ ρ → Rp K Hf v x → Rp K Hf u y →
    (∀ w d Hf' H', Up b Hf H Hf' H' → Fm K b Hf' H' σ ρ → Rp K Hf' w d → Q d → k w H') → r v u H k) : DE K b ρ (tOp r ta tb) Q := fun Hf H σ k fr c => by
  refine h Hf H σ _ fr fun v x Hf1 H1 e1 f1 r1 q1 => ?_
  refine q1 Hf1 H1 σ _ f1 fun u y Hf2 H2 e2 f2 r2 q2 => ?_
  exact q2 Hf2 H2 σ k v u f2 (r1.up e2.1) r2 fun w d Hf' H' e f r q => c w d Hf' H' ((e1.trans e2).trans e) f r q
theorem de_II {C : Int → Int → Prop} {g : Int → Int → Int} (h : DE K b ρ ta fun x => DE K b ρ tb fun y => ∃ i j, x = .int i ∧ y = .int j ∧ C i j ∧ Q (.int (g i j))) : DE K b ρ (tOp (rI C fun i j => .int (g i j)) ta tb) Q :=
  de_op (h.imp fun x hx => hx.imp fun y ⟨i, j, e1, e2, hc, q⟩ Hf H σ k v u f rv ru c => by
    subst e1; subst e2
    exact ⟨i, j, rv.int_inv, ru.int_inv, hc, c _ _ Hf H Up.refl f (.int _) q⟩)
theorem de_I0 {g : Int → Int → Int} (h : DE K b ρ ta fun x => DE K b ρ tb fun y => ∃ i j, x = .int i ∧ y = .int j ∧ Q (.int (g i j))) : DE K b ρ (tOp (rI0 fun i j => .int (g i j)) ta tb) Q :=
  de_op (h.imp fun x hx => hx.imp fun y ⟨i, j, e1, e2, q⟩ Hf H σ k v u f rv ru c => by
    subst e1; subst e2
    exact ⟨i, j, rv.int_inv, ru.int_inv, c _ _ Hf H Up.refl f (.int _) q⟩)
theorem de_B0 {g : Int → Int → Bool} (h : DE K b ρ ta fun x => DE K b ρ tb fun y => ∃ i j, x = .int i ∧ y = .int j ∧ Q (.bl (g i j))) : DE K b ρ (tOp (rI0 fun i j => .bl (g i j)) ta tb) Q :=
  de_op (h.imp fun x hx => hx.imp fun y ⟨i, j, e1, e2, q⟩ Hf H σ k v u f rv ru c => by
    subst e1; subst e2
    exact ⟨i, j, rv.int_inv, ru.int_inv, c _ _ Hf H Up.refl f (.bl _) q⟩)
theorem de_un {g : Int → Int} (h : DE K b ρ ta fun x => ∃ i, x = .int i ∧ Q (.int (g i))) : DE K b ρ (tUn (rU fun i => .int (g i)) ta) Q := fun Hf H σ k fr c => by
  refine h Hf H σ _ fr fun v x Hf1 H1 e1 f1 r1 ⟨i, e, q⟩ => ?_
  subst e
  exact ⟨i, r1.int_inv, c _ _ Hf1 H1 e1 f1 (.int _) q⟩
/-- == and != of any plain data -/
def eqD (x y : D) : Bool := PyData.eqv x.py y.py
def okD (x : D) : Bool := x.pl && x.nd && SeqAt.shaped x.py
theorem okD_un {x : D} (h : okD x = true) : x.pl = true ∧ x.nd = true ∧ SeqAt.shaped x.py = true := by
  unfold okD at h
  simp only [Bool.and_eq_true] at h
  exact ⟨h.1.1, h.1.2, h.2⟩
theorem de_eqD (h : DE K b ρ ta fun x => DE K b ρ tb fun y => okD x = true ∧ okD y = true ∧ Q (.bl (eqD x y))) : DE K b ρ (tOp (rEqD K) ta tb) Q :=
  de_op (h.imp fun x hx => hx.imp fun y ⟨o1, o2, q⟩ Hf H σ k v u f rv ru c => by
    obtain ⟨a1, a2, a3⟩ := okD_un o1
    obtain ⟨b1, b2, b3⟩ := okD_un o2
    exact ⟨x.py, y.py, (rv.up f.ex.exF).dp a1 a2, (ru.up f.ex.exF).dp b1 b2, a3, b3, c _ _ Hf H Up.refl f (.bl _) q⟩)
theorem de_neD (h : DE K b ρ ta fun x => DE K b ρ tb fun y => okD x = true ∧ okD y = true ∧ Q (.bl (!eqD x y))) : DE K b ρ (tOp (rNeD K) ta tb) Q :=
  de_op (h.imp fun x hx => hx.imp fun y ⟨o1, o2, q⟩ Hf H σ k v u f rv ru c => by
    obtain ⟨a1, a2, a3⟩ := okD_un o1
    obtain ⟨b1, b2, b3⟩ := okD_un o2
    exact ⟨x.py, y.py, (rv.up f.ex.exF).dp a1 a2, (ru.up f.ex.exF).dp b1 b2, a3, b3, c _ _ Hf H Up.refl f (.bl _) q⟩)
/-- x is None -/
def isN : D → Bool
  | .non => true
  | _ => false
theorem Rp.isN {H : Hp} {v : V} {d : D} (h : Rp K H v d) : decide (v = .non) = isN d := by cases h <;> rfl
theorem de_isN (h : DE K b ρ ta fun x => Q (.bl (isN x))) : DE K b ρ (tIsN ta) Q := fun Hf H σ k fr c => by
  refine h Hf H σ _ fr fun v x Hf1 H1 e1 f1 r1 q => ?_
  show k (.bl (decide (v = .non))) H1
  rw [r1.isN]
  exact c _ _ Hf1 H1 e1 f1 (.bl _) q
theorem de_notN (h : DE K b ρ ta fun x => Q (.bl (!isN x))) : DE K b ρ (tNotN ta) Q := fun Hf H σ k fr c => by
  refine h Hf H σ _ fr fun v x Hf1 H1 e1 f1 r1 q => ?_
  show k (.bl (!decide (v = .non))) H1
  rw [r1.isN]
  exact c _ _ Hf1 H1 e1 f1 (.bl _) q
/-! tests -/
theorem dt_test {R : Bool → Prop} (h : DE K b ρ te fun x => ∃ c, x = .bl c ∧ R c) : DT K b ρ (tTest te) R := fun Hf H σ k fr c => by
  refine h Hf H σ _ fr fun v x Hf1 H1 e1 f1 r1 ⟨c', e, q⟩ => ?_
  subst e
  exact ⟨c', r1.bl_inv, c c' Hf1 H1 e1 f1 q⟩
theorem dt_B {R : Bool → Prop} (h : DE K b ρ te fun x => ∃ c, x = .bl c ∧ R c) : DT K b ρ (tB te) R := dt_test h
theorem dt_and {R : Bool → Prop} (h : DT K b ρ tt fun c => if c = true then DT K b ρ tu R else R false) : DT K b ρ (tAnd tt tu) R := fun Hf H σ k fr c => by
  refine h Hf H σ _ fr fun c' Hf1 H1 e1 f1 q => ?_
  cases c' with
  | true => exact (iteT ((show DT K b ρ tu R from q) Hf1 H1 σ k f1 fun c2 Hf' H' e f z => c c2 Hf' H' (e1.trans e) f z))
  | false => exact iteF (c false Hf1 H1 e1 f1 q)
theorem dt_or {R : Bool → Prop} (h : DT K b ρ tt fun c => if c = true then R true else DT K b ρ tu R) : DT K b ρ (tOr tt tu) R := fun Hf H σ k fr c => by
  refine h Hf H σ _ fr fun c' Hf1 H1 e1 f1 q => ?_
  cases c' with
  | true => exact iteT (c true Hf1 H1 e1 f1 q)
  | false => exact iteF ((show DT K b ρ tu R from q) Hf1 H1 σ k f1 fun c2 Hf' H' e f z => c c2 Hf' H' (e1.trans e) f z)
theorem dt_not {R : Bool → Prop} (h : DT K b ρ tt fun c => R (!c)) : DT K b ρ (tNot tt) R := fun Hf H σ k fr c =>
  h Hf H σ _ fr fun c' Hf1 H1 e1 f1 q => c (!c') Hf1 H1 e1 f1 q
theorem de_andV (h : DE K b ρ ta fun x => ∃ c, x = .bl c ∧ if c = true then DE K b ρ tb Q else Q (.bl false)) : DE K b ρ (tAndV ta tb) Q := fun Hf H σ k fr c => by
  refine h Hf H σ _ fr fun v x Hf1 H1 e1 f1 r1 ⟨c', e, q⟩ => ?_
  subst e
  refine ⟨c', r1.bl_inv, ?_⟩
  cases c' with
  | true => exact iteT ((show DE K b ρ tb Q from q) Hf1 H1 σ k f1 fun v d Hf' H' e f r z => c v d Hf' H' (e1.trans e) f r z)
  | false => exact iteF (c _ _ Hf1 H1 e1 f1 (.bl _) q)
theorem de_orV (h : DE K b ρ ta fun x => ∃ c, x = .bl c ∧ if c = true then Q (.bl true) else DE K b ρ tb Q) : DE K b ρ (tOrV ta tb) Q := fun Hf H σ k fr c => by
  refine h Hf H σ _ fr fun v x Hf1 H1 e1 f1 r1 ⟨c', e, q⟩ => ?_
  subst e
  refine ⟨c', r1.bl_inv, ?_⟩
  cases c' with
  | true => exact iteT (c _ _ Hf1 H1 e1 f1 (.bl _) q)
  | false => exact iteF ((show DE K b ρ tb Q from q) Hf1 H1 σ k f1 fun v d Hf' H' e f r z => c v d Hf' H' (e1.trans e) f r z)
theorem de_notV (h : DE K b ρ ta fun x => ∃ c, x = .bl c ∧ Q (.bl (!c))) : DE K b ρ (tNotV ta) Q := fun Hf H σ k fr c => by
  refine h Hf H σ _ fr fun v x Hf1 H1 e1 f1 r1 ⟨c', e, q⟩ => ?_
  subst e
  exact ⟨c', r1.bl_inv, c _ _ Hf1 H1 e1 f1 (.bl _) q⟩
theorem de_ite (h : DT K b ρ tt fun c => if c = true then DE K b ρ ta Q else DE K b ρ tb Q) : DE K b ρ (tIf tt ta tb) Q := fun Hf H σ k fr c => by
  refine h Hf H σ _ fr fun c' Hf1 H1 e1 f1 q => ?_
  cases c' with
  | true => exact iteT ((show DE K b ρ ta Q from q) Hf1 H1 σ k f1 fun v d Hf' H' e f r z => c v d Hf' H' (e1.trans e) f r z)
  | false => exact iteF ((show DE K b ρ tb Q from q) Hf1 H1 σ k f1 fun v d Hf' H' e f r z => c v d Hf' H' (e1.trans e) f r z)
/-! arguments, displays -/
theorem da_nil {R : List D → Prop} (q : R []) : DA K b ρ tNil R := fun Hf H σ k fr c => c _ _ Hf H Up.refl fr .nil q
theorem da_cons {R : List D → Prop} (h : DE K b ρ te fun x => DA K b ρ tr fun l => R (x :: l)) : DA K b ρ (tCons te tr) R := fun Hf H σ k fr c => by
  refine h Hf H σ _ fr fun v x Hf1 H1 e1 f1 r1 q => ?_
  exact q Hf1 H1 σ _ f1 fun vs ds Hf2 H2 e2 f2 r2 z => c _ _ Hf2 H2 (e1.trans e2) f2 (.cons (r1.up e2.1) r2) z
theorem dc_nil {R : List Sl → Prop} (q : R []) : DC K b ρ tNil R := fun Hf H σ k fr c => c _ _ Hf H Up.refl fr .nil q
theorem dc_cons {R : List Sl → Prop} (h : DE K b ρ te fun x => DC K b ρ tr fun l => R (.sh x :: l)) : DC K b ρ (tCons te tr) R := fun Hf H σ k fr c => by
  refine h Hf H σ _ fr fun v x Hf1 H1 e1 f1 r1 q => ?_
  exact q Hf1 H1 σ _ f1 fun vs ds Hf2 H2 e2 f2 r2 z => c _ _ Hf2 H2 (e1.trans e2) f2 (.cons (show ArgOk K b.M Hf2 v (.sh x) from r1.up e2.1) r2) z
theorem dc_pen {R : List Sl → Prop} {i : Nat} (hi : ρ[i]? = some .pen) (h : DC K b ρ tr fun l => R (.pen :: l)) : DC K b ρ (tCons (tVar i) tr) R := fun Hf H σ k fr c => by
  have hl : i < σ.length := by rw [fr.len]; exact (List.getElem?_eq_some_iff.mp hi).1
  have ho : σ[i]? = some σ[i] := List.getElem?_eq_getElem hl
  have z := fr.sl i _ _ ho hi
  generalize σ[i] = o at ho z
  match o, z with
  | none, z => exact z.elim
  | some v, z =>
    refine ⟨v, ho, ?_⟩
    exact h Hf H σ _ fr fun vs ds Hf2 H2 e2 f2 r2 q => c _ _ Hf2 H2 e2 f2 (.cons (show ArgOk K b.M Hf2 v .pen from z) r2) q
theorem de_tup (h : DA K b ρ tr fun l => l.length ≤ 1000 ∧ Q (.tup l)) : DE K b ρ (tTup tr) Q := fun Hf H σ k fr c => by
  refine h Hf H σ _ fr fun vs ds Hf1 H1 e1 f1 r1 ⟨hz, q⟩ => ?_
  refine ⟨Nat.le_of_lt (small1000 (by rw [r1.len]; exact hz)), fun p hp => ?_⟩
  have n := f1.ex.exF.no hp
  exact c _ _ _ _ (e1.trans (Up.new hp n)) (f1.put hp) (Rp.tup (SqT.of upd_same) (RpA.up (Ex.new n) r1)) q
theorem dn_lst {R : List D → Prop} (h : DA K b ρ tr fun l => l.length ≤ 1000 ∧ R l) : DN K b ρ (tLst tr) R := fun Hf H σ k fr c => by
  refine h Hf H σ _ fr fun vs ds Hf1 H1 e1 f1 r1 ⟨hz, q⟩ => ?_
  exact ⟨Nat.le_of_lt (small1000 (by rw [r1.len]; exact hz)), fun p hp => c _ _ _ _ _ e1 f1 hp r1 q⟩
/-- a new list that is shared at once -/
theorem de_new (h : DN K b ρ te fun l => Q (.lst l)) : DE K b ρ te Q := fun Hf H σ k fr c => by
  refine h Hf H σ _ fr fun p xs ds Hf1 H1 e1 f1 hp r1 q => ?_
  have n := f1.ex.exF.no hp
  exact c _ _ _ _ (e1.trans (Up.new hp n)) (f1.put hp) (Rp.lst upd_same (RpA.up (Ex.new n) r1)) q
theorem de_lst (h : DA K b ρ tr fun l => l.length ≤ 1000 ∧ Q (.lst l)) : DE K b ρ (tLst tr) Q := de_new (dn_lst h)
/-! calls -/
theorem call_core {F : DF} {E : L2.St → XK} {X : Addr → List (Str × D) → Prop} {Hf1 H1 : Hp} {σ : L2.St} {vs : List V} {ss : List Sl} {k : VK} (hE : EL K b ρ E X) (f1 : Fm K b Hf1 H1 σ ρ) (r1 : Paired (ArgOk K b.M Hf1) vs ss) (q : F ss Q X)
    (c : ∀ v d Hf' H', Up b Hf1 H1 Hf' H' → Fm K b Hf' H' σ ρ → Rp K Hf' v d → Q d → k v H') : spD K F vs H1 k (E σ) := by
  have x1 := f1.ex
  have back : ∀ Hf' H', Exit K ⟨fun a => if a ∈ b.M then none else H1 a, Hf1, b.M, []⟩ Hf' H' → Fm K b Hf' H' σ ρ := fun Hf' H' y => by
    have out : ∀ a o, b.B a = some o → a ∉ b.M := fun a o e z => by
      obtain ⟨_, z2, _⟩ := x1.pens a z
      rw [z2] at e; cases e
    refine f1.step { exF := y.exF, ex0 := x1.ex0.trans y.ex0, exB := fun a o e => y.exB a o (by show (if a ∈ b.M then none else H1 a) = some o; rw [if_neg (out a o e)]; exact x1.exB a o e), frz := fun a h1 h2 => ?_, pens := fun p hp => ?_, tabs := fun p hp => ?_ } y.ex0 fun a xs h1 h2 h3 h4 => ?_
    · have h3 := x1.frz a h1 h2
      cases hb : b.B a with
      | none => exact (h1 hb).elim
      | some o =>
        refine y.frz a ?_ h3
        show (if a ∈ b.M then none else H1 a) ≠ none
        rw [if_neg (out a o hb), x1.exB a o hb]
        exact fun z => nomatch z
    · obtain ⟨z1, z2, z3⟩ := y.pens p hp
      exact ⟨z1, (x1.pens p hp).2.1, z3⟩
    · obtain ⟨z1, z2, z3, z4⟩ := x1.tabs p hp
      have z4' := z4
      obtain ⟨ps, z5, _⟩ := z4
      have e : (if p.1 ∈ b.M then none else H1 p.1) = some (.tbl ps) := by rw [if_neg z3]; exact z5
      exact ⟨y.frz p.1 (by show (if p.1 ∈ b.M then none else H1 p.1) ≠ none; rw [e]; exact fun z => nomatch z) z1, z2, z3, z4'.up y.ex0 ((y.exB p.1 _ e).trans z5.symm)⟩
    · have e : (if a ∈ b.M then none else H1 a) = some (.lst xs) := by rw [if_neg h4]; exact h1
      exact ⟨y.frz a (by show (if a ∈ b.M then none else H1 a) ≠ none; rw [e]; exact fun z => nomatch z) h2, y.exB a _ e⟩
  refine ⟨Hf1, b.M, ss, Q, X, x1.exF, fun p hp => ⟨(x1.pens p hp).1, (x1.pens p hp).2.2⟩, r1, q, fun v d Hf' H' y r z => ?_, fun C fs d Hf' H' y hx z => ?_⟩
  · refine c v d Hf' H' ⟨y.ex0, fun a o h n => ?_⟩ (back Hf' H' y) r z
    have e : (if a ∈ b.M then none else H1 a) = some o := by rw [if_neg (fun z => n (Bs.mtM z))]; exact h
    exact ⟨y.exB a o e, y.frz a (by show (if a ∈ b.M then none else H1 a) ≠ none; rw [e]; exact fun z => nomatch z)⟩
  · exact hE Hf' H' σ (back Hf' H' y) C fs d hx z
theorem de_call {F : DF} {E : L2.St → XK} {X : Addr → List (Str × D) → Prop} (hE : EL K b ρ E X) (h : DC K b ρ tr fun ss => F ss Q X) : DE K b ρ (tCallG (fun _ => spD K F) [] E tr) Q := fun Hf H σ k fr c => by
  refine h Hf H σ _ fr fun vs ss Hf1 H1 e1 f1 r1 q => ?_
  exact call_core hE f1 r1 q fun v d Hf' H' e f r z => c v d Hf' H' (e1.trans e) f r z
/-- a built-in that is a function of data -/
theorem de_cb {r : List V → Hp → VK → Prop} (h : DA K b ρ tr fun ds => ∀ (Hf H : Hp) (σ : L2.St) (k : VK) (vs : List V), Fm K b Hf H σ ρ → RpA K Hf vs ds →
    (∀ w d Hf' H', Up b Hf H Hf' H' → Fm K b Hf' H' σ ρ → Rp K Hf' w d → Q d → k w H') → r vs H k) : DE K b ρ (tCB r tr) Q := fun Hf H σ k fr c => by
  refine h Hf H σ _ fr fun vs ds Hf1 H1 e1 f1 r1 q => ?_
  exact q Hf1 H1 σ k vs f1 r1 fun w d Hf' H' e f r z => c w d Hf' H' (e1.trans e) f r z
theorem de_cb1 {r : List V → Hp → VK → Prop} (h : DE K b ρ ta fun x => ∀ (Hf H : Hp) (σ : L2.St) (k : VK) (v : V), Fm K b Hf H σ ρ → Rp K Hf v x →
    (∀ w d Hf' H', Up b Hf H Hf' H' → Fm K b Hf' H' σ ρ → Rp K Hf' w d → Q d → k w H') → r [v] H k) : DE K b ρ (tCB r (tCons ta tNil)) Q :=
  de_cb (da_cons (h.imp fun x hx => da_nil fun Hf H σ k vs f r c => by
    cases r with
    | cons r1 r2 =>
      cases r2
      exact hx Hf H σ k _ f r1 c))

/-! ### statements -/
variable {nx bk ct : List Sl → Prop} {rt : D → Prop} {ts tw : TS}
theorem ds_next (q : nx ρ) : DS K b ρ tNext nx rt bk ct := fun Hf H σ D fr n r bk ct => n ρ σ Hf H (Ex.refl _) fr q
theorem ds_break (q : bk ρ) : DS K b ρ tBreak nx rt bk ct := fun Hf H σ D fr n r bk ct => bk ρ σ Hf H (Ex.refl _) fr q
theorem ds_cont (q : ct ρ) : DS K b ρ tCont nx rt bk ct := fun Hf H σ D fr n r bk ct => ct ρ σ Hf H (Ex.refl _) fr q
theorem ds_seq (h : DS K b ρ ts (fun ρ' => DS K b ρ' tw nx rt bk ct) rt bk ct) : DS K b ρ (tSeq ts tw) nx rt bk ct := fun Hf H σ D fr n r bk ct =>
  h Hf H σ { D with nx := tw D } fr (fun ρ' σ' Hf' H' e f q => q Hf' H' σ' D f (fun ρ2 σ2 Hf2 H2 e2 f2 q2 => n ρ2 σ2 Hf2 H2 (e.trans e2) f2 q2) (fun v d Hf2 H2 e2 x2 r2 q2 => r v d Hf2 H2 (e.trans e2) x2 r2 q2)
    (fun ρ2 σ2 Hf2 H2 e2 f2 q2 => bk ρ2 σ2 Hf2 H2 (e.trans e2) f2 q2) (fun ρ2 σ2 Hf2 H2 e2 f2 q2 => ct ρ2 σ2 Hf2 H2 (e.trans e2) f2 q2)) r bk ct
theorem ds_asg {i : Nat} (h : DE K b ρ te fun d => nx (ρ.set i (.sh d))) : DS K b ρ (tAsg te (gName i)) nx rt bk ct := fun Hf H σ D fr n r bk ct =>
  h Hf H σ _ fr fun v d Hf' H' e f rp q => n _ _ Hf' H' e.1 (f.set rp) q
/-- the name keeps a list of its own -/
theorem ds_own {i : Nat} (h : DN K b ρ te fun l => nx (ρ.set i (.ow l))) : DS K b ρ (tAsg te (gName i)) nx rt bk ct := fun Hf H σ D fr n r bk ct =>
  h Hf H σ _ fr fun p xs ds Hf' H' e f hp rp q => n _ _ Hf' _ e.1 (f.own hp rp) q
theorem ds_share {i : Nat} {l : List D} (hi : ρ[i]? = some (.ow l)) (h : DS K b (ρ.set i (.sh (.lst l))) ts nx rt bk ct) : DS K b ρ ts nx rt bk ct := fun Hf H σ D fr n r bk ct => by
  obtain ⟨Hf1, e1, f1⟩ := fr.share hi
  exact h Hf1 H σ D f1 (fun ρ2 σ2 Hf2 H2 e2 f2 q2 => n ρ2 σ2 Hf2 H2 (e1.trans e2) f2 q2) (fun v d Hf2 H2 e2 x2 r2 q2 => r v d Hf2 H2 (e1.trans e2) x2 r2 q2)
    (fun ρ2 σ2 Hf2 H2 e2 f2 q2 => bk ρ2 σ2 Hf2 H2 (e1.trans e2) f2 q2) (fun ρ2 σ2 Hf2 H2 e2 f2 q2 => ct ρ2 σ2 Hf2 H2 (e1.trans e2) f2 q2)
theorem ds_if (h : DT K b ρ tt fun c => if c = true then DS K b ρ ts nx rt bk ct else DS K b ρ tw nx rt bk ct) : DS K b ρ (tIfS tt ts tw) nx rt bk ct := fun Hf H σ D fr n r bk ct => by
  refine h Hf H σ _ fr fun c Hf1 H1 e1 f1 q => ?_
  have go : ∀ t, DS K b ρ t nx rt _ _ → t D σ H1 := fun t ht => ht Hf1 H1 σ D f1 (fun ρ2 σ2 Hf2 H2 e2 f2 q2 => n ρ2 σ2 Hf2 H2 (e1.1.trans e2) f2 q2) (fun v d Hf2 H2 e2 x2 r2 q2 => r v d Hf2 H2 (e1.1.trans e2) x2 r2 q2)
    (fun ρ2 σ2 Hf2 H2 e2 f2 q2 => bk ρ2 σ2 Hf2 H2 (e1.1.trans e2) f2 q2) (fun ρ2 σ2 Hf2 H2 e2 f2 q2 => ct ρ2 σ2 Hf2 H2 (e1.1.trans e2) f2 q2)
  cases c with
  | true => exact iteT (go ts q)
  | false => exact iteF (go tw q)
theorem ds_ret (h : DE K b ρ te rt) : DS K b ρ (tRet te) nx rt bk ct := fun Hf H σ D fr n r bk ct => h Hf H σ _ fr fun v d Hf' H' e f rp q => r v d Hf' H' e.1 f.ex rp q
theorem ds_retN (q : rt .non) : DS K b ρ tRetN nx rt bk ct := fun Hf H σ D fr n r bk ct => r _ _ Hf H (Ex.refl _) fr.ex .non q
theorem ds_drop (h : DE K b ρ te fun _ => nx ρ) : DS K b ρ (tDrop te) nx rt bk ct := fun Hf H σ D fr n r bk ct => h Hf H σ _ fr fun v d Hf' H' e f rp q => n ρ σ Hf' H' e.1 f q
theorem own_at {Hf H : Hp} {σ : L2.St} (fr : Fm K b Hf H σ ρ) {i : Nat} {l : List D} (hi : ρ[i]? = some (.ow l)) : ∃ a xs, σ[i]? = some (some (.ref a)) ∧ Hf a = none ∧ H a = some (.lst xs) ∧ RpA K Hf xs l := by
  have hl : i < σ.length := by rw [fr.len]; exact (List.getElem?_eq_some_iff.mp hi).1
  have ho : σ[i]? = some σ[i] := List.getElem?_eq_getElem hl
  have z := fr.sl i _ _ ho hi
  generalize σ[i] = o at ho z
  match o, z with
  | none, z => exact z.elim
  | some v, z =>
    obtain ⟨a, xs, rfl, h1, h2, h3, _⟩ := z
    exact ⟨a, xs, ho, h1, h2, h3⟩
/-- found.append(e), found a list of one's own -/
theorem ds_app {i : Nat} {l : List D} (hi : ρ[i]? = some (.ow l)) (h : DE K b ρ te fun d => l.length < 16000 ∧ nx (ρ.set i (.ow (l ++ [d])))) : DS K b ρ (tDrop (tBM K "list" rAppend (tVar i) (tCons te tNil))) nx rt bk ct := fun Hf H σ D fr n r bk ct => by
  obtain ⟨a, xs, ho, h1, h2, h3⟩ := own_at fr hi
  refine ⟨_, ho, Or.inl ⟨rfl, xs, SqL.of h2⟩, ?_⟩
  refine h Hf H σ _ fr fun v d Hf' H' e f rp q => ?_
  obtain ⟨a', ys, ho', k1, k2, k3⟩ := own_at f hi
  rw [ho] at ho'
  cases ho'
  refine ⟨a, ys, v, rfl, rfl, k2, Nat.lt_of_lt_of_le (by rw [k3.len]; exact q.1) (by decide), ?_⟩
  exact n _ σ Hf' _ e.1 (f.chg hi ho (k3.app (.cons rp .nil))) q.2
/-- a list of one's own, read: its length -/
theorem de_var_own {i : Nat} {l : List D} (hi : ρ[i]? = some (.ow l)) {r : List V → Hp → VK → Prop} (h : ∀ (Hf H : Hp) (σ : L2.St) (k : VK) (a : Addr) (xs : List V), Fm K b Hf H σ ρ → H a = some (.lst xs) → RpA K Hf xs l →
    (∀ w d Hf' H', Up b Hf H Hf' H' → Fm K b Hf' H' σ ρ → Rp K Hf' w d → Q d → k w H') → r [.ref a] H k) : DE K b ρ (tCB r (tCons (tVar i) tNil)) Q := fun Hf H σ k fr c => by
  obtain ⟨a, xs, ho, h1, h2, h3⟩ := own_at fr hi
  exact ⟨_, ho, h Hf H σ k a xs fr h2 h3 c⟩
end
end G

set_option Elab.async false
set_option linter.all false
set_option maxRecDepth 100000
set_option maxHeartbeats 4000000
/-! DMore: a def by its body over data; repr, isinstance, fields of errors, places, lengths, loops. -/
namespace G
open PySem PySem.Spec PyProof.Rows L2
theorem paired_at {α β : Type} {F : α → β → Prop} : ∀ {xs : List α} {ys : List β} {i : Nat} {x : α} {y : β}, Paired F xs ys → xs[i]? = some x → ys[i]? = some y → F x y
  | _, _, _, _, _, .nil, h, _ => by simp at h
  | _, _, 0, _, _, .cons q _, h, h' => by simp at h h'; subst h; subst h'; exact q
  | _, _, i + 1, _, _, .cons _ r, h, h' => paired_at (i := i) r (by simpa using h) (by simpa using h')
/-! ### a def by its body -/
/-- pins that are as told, then the promise over data that hangs on them -/
def spP (K : PySem.W.Frag) (Pp : Pins → Prop) (F : Pins → DF) : Sq := fun pl vs H Q E => Pp pl ∧ spD K (F pl) vs H Q E
section
variable {P : Program} {w : World} {K : PySem.W.Frag} {mg : Str → Option Value} {base : Heap} {N ps : List Str} {x qual : Str} {st : Stmt} {f : Addr} {fd : FuncData} {k : Nat} {c : Bool}
theorem start_ok {Hf H : Hp} {M : List Addr} {vs : List V} {ss : List Sl} {n : Nat} (hl : vs.length = ps.length) (hn : N.length = n) (hx : Ex Hf H) (hp : ∀ p ∈ M, Hf p = none ∧ ∃ o, H p = some o ∧ PenO K Hf o) (ha : Paired (ArgOk K M Hf) vs ss) :
    Fm K ⟨fun a => if a ∈ M then none else H a, Hf, M, []⟩ Hf H (start N vs) (ss ++ List.replicate (N.length - ps.length) .no) := by
  have hvs := ha.length
  have own : ∀ i a, ¬ Own (start N vs) (ss ++ List.replicate (N.length - ps.length) .no) i a := fun i a ⟨⟨ds, h1⟩, h2⟩ => by
    by_cases z : i < ss.length
    · rw [List.getElem?_append_left z] at h1
      have hv : i < vs.length := by omega
      have q := paired_at ha (List.getElem?_eq_getElem hv) h1
      exact q
    · rw [List.getElem?_append_right (by omega), List.getElem?_replicate] at h1
      split at h1 <;> cases h1
  refine { ex := { exF := hx, ex0 := Ex.refl _, exB := fun a o e => ?_, frz := fun a _ h => h, pens := fun p hm => ⟨(hp p hm).1, if_pos hm, (hp p hm).2⟩, tabs := fun p hm => (List.not_mem_nil hm).elim }, len := ?_, sl := fun i o s h1 h2 => ?_, mine := fun i a z => (own i a z).elim, sep := fun i j a z _ => (own i a z).elim }
  · have e' : (if a ∈ M then none else H a) = some o := e
    by_cases z : a ∈ M
    · rw [if_pos z] at e'; cases e'
    · rw [if_neg z] at e'; exact e'
  · unfold L2.start
    simp
    omega
  · unfold L2.start at h1
    by_cases z : i < vs.length
    · rw [List.getElem?_append_left (by simpa using z), List.getElem?_map, List.getElem?_eq_getElem z] at h1
      simp at h1
      subst h1
      rw [List.getElem?_append_left (by omega)] at h2
      have q := paired_at ha (List.getElem?_eq_getElem z) h2
      match s, q with
      | .sh d, q => exact q
      | .pen, q => exact q
    · rw [List.getElem?_append_right (by omega), List.getElem?_replicate] at h2
      split at h2
      · cases h2
        match o with
        | none => trivial
        | some _ => trivial
      · cases h2
theorem fn_dataP {Pp : Pins → Prop} {Fd : Pins → DF} (F : Fun K x qual st f fd) (S : FnScope N ps (defScope st)) (len : ∀ pl ss R X, Fd pl ss R X → ss.length = ps.length)
    (body : ∀ (cdv : Value) (A : Around) (outer : List Env) (s : Shared) (H : Hp) (E : XK) (pl : Pins), Rm c k (A.deeper (envOfC qual (defScope st) s.heap.objs.size f cdv)) → Pp pl →
      ∃ t, PSs (cxG P w K mg base N qual (defScope st) f cdv A outer s H E c pl) (defBody st) t ∧ ∀ b ss R X, Fd pl ss R X → (∀ ρ, EL K b ρ (fun _ => E) X) →
        DS K b (ss ++ List.replicate (N.length - ps.length) .no) t (fun _ => R .non) R (fun _ => False) (fun _ => False)) :
    FnG P w K mg base c (k + 1) f fd ps (spP K Pp Fd) := by
  have hlen : ∀ pl vs H Q E, spP K Pp Fd pl vs H Q E → vs.length = ps.length := fun pl vs H Q E h => by
    obtain ⟨_, Hf, M, ss, R, X, h1, h2, h3, h4, _⟩ := h
    rw [h3.length]
    exact len pl ss R X h4
  refine fn_go F S hlen fun cdv A outer s H vs Q E pl hr hsp => ?_
  have hl := hlen _ _ _ _ _ hsp
  obtain ⟨hpp, Hf, M, ss, R, X, h1, h2, h3, h4, h5, h6⟩ := hsp
  obtain ⟨t, ht, hd⟩ := body cdv A outer s H E pl hr hpp
  refine ⟨t, ht, ?_⟩
  refine hd ⟨fun a => if a ∈ M then none else H a, Hf, M, []⟩ ss R X h4 (fun ρ Hf' H' σ' fr C fs d e1 e2 => h6 C fs d Hf' H' fr.ex e1 e2) Hf H (start N vs) _ (start_ok hl rfl h1 h2 h3)
    (fun ρ' σ' Hf' H' e fr q => h5 .non .non Hf' H' fr.ex .non q) (fun v d Hf' H' e x r q => h5 v d Hf' H' x r q) (fun _ _ _ _ _ _ z => z.elim) (fun _ _ _ _ _ _ z => z.elim)
theorem fn_data {Fd : DF} (F : Fun K x qual st f fd) (S : FnScope N ps (defScope st)) (len : ∀ ss R X, Fd ss R X → ss.length = ps.length)
    (body : ∀ (cdv : Value) (A : Around) (outer : List Env) (s : Shared) (H : Hp) (E : XK) (pl : Pins), Rm c k (A.deeper (envOfC qual (defScope st) s.heap.objs.size f cdv)) →
      ∃ t, PSs (cxG P w K mg base N qual (defScope st) f cdv A outer s H E c pl) (defBody st) t ∧ ∀ b ss R X, Fd ss R X → (∀ ρ, EL K b ρ (fun _ => E) X) →
        DS K b (ss ++ List.replicate (N.length - ps.length) .no) t (fun _ => R .non) R (fun _ => False) (fun _ => False)) :
    FnG P w K mg base c (k + 1) f fd ps (fun _ => spD K Fd) := by
  have G : FnG P w K mg base c (k + 1) f fd ps (spP K (fun _ => True) (fun _ => Fd)) := fn_dataP F S (fun _ => len) fun cdv A outer s H E pl hr _ => body cdv A outer s H E pl hr
  exact { len := fun pl vs H Q E h => G.len pl vs H Q E ⟨trivial, h⟩, run := fun A o s H a us vs Q E pl hr hp e0 hb r h => G.run A o s H a us vs Q E pl hr hp e0 hb r ⟨trivial, h⟩ }
end
/-- a call with pins -/
theorem de_callP {K : PySem.W.Frag} {b : Bs} {ρ : List Sl} {tr : TA} {Q : D → Prop} {Pp : Pins → Prop} {F : Pins → DF} {pl : Pins} {E : L2.St → XK} {X : Addr → List (Str × D) → Prop} (hE : EL K b ρ E X) (hp : Pp pl) (h : DC K b ρ tr fun ss => F pl ss Q X) : DE K b ρ (tCallG (spP K Pp F) pl E tr) Q :=
  fun Hf H σ k fr c => by
    refine h Hf H σ _ fr fun vs ss Hf1 H1 e1 f1 r1 q => ?_
    exact (show spP K Pp F pl vs H1 k (E σ) from ⟨hp, call_core hE f1 r1 q fun v d Hf' H' e f r z => c v d Hf' H' (e1.trans e) f r z⟩)
/-- a def that is handed the error which a suite holds -/
def spX (sp : Sq) (a : Addr) (cls : Value) (d : Option Addr) : Sp := fun vs H Q E => ∀ oe : Obj, Zc cls d oe → (∃ fs, oe.data = .fields fs) → sp [(a, oe)] vs H Q E
section
variable {X : Cx} {c : Bool} {k : Nat} {f a : Addr} {fd : FuncData} {ps : List Str} {sp : Sq} {E : L2.St → XK} {x : Str} {q pos : Pos} {e : Expr} {es : List Expr} {t : TA} {oe : Obj} {cls : Value} {d : Option Addr}
theorem pe_goX (F : FnG X.prog X.w X.K X.mg X.base c k f fd ps sp) (hz : Zc cls d oe) (hf : ∃ fs, oe.data = .fields fs) (hr : Rm c k X.A) (hp : (a, oe) ∈ X.pn) (hg : Gl X x) (hm : X.mg x = some (.ref f)) (hk : PySem.W.keepIn X.K (.ref f) = true) (hb : Binds X.K fd ps []) (hx : Lets X E)
    (ha : PA X (e :: es) t) (hdb : (x == ("__debug__" : Str)) = false := by decide) (he : starEach (e :: es) X.env = (false, eval e X.env) :: starEach es X.env := by rfl) (hpl : (backTo pos (starEach es X.env)).any (·.1) = false := by rfl) :
    PE X (.Call (.Name x q) (e :: es) [] pos) (tCallG (fun _ => spX sp a cls d) [] E t) := by
  refine ⟨fun pins s σ H Q I h => ?_⟩
  refine wpAny_Call_Name_kw (ld_glob I hg hm ?_ hdb)
  refine PySem.W.callWith_K (h₀ := X.base) I.ok.mod.kin hk (thn (ha.run pos pins s σ H _ I h) ?_) he hpl
  intro us s1 z
  obtain ⟨vs, H1, I1, r, q⟩ := z
  exact ⟨I1.kIn, run_go (pl := [(a, oe)]) F hr (fun p h => by rw [List.mem_singleton.mp h]; exact hp) hb hx I1 r (q oe hz hf)⟩
end
theorem de_callX {K : PySem.W.Frag} {b : Bs} {ρ : List Sl} {tr : TA} {Q : D → Prop} {Pp : Pins → Prop} {F : Pins → DF} {a : Addr} {cls : Value} {d : Option Addr} {E : L2.St → XK} {X : Addr → List (Str × D) → Prop} (hE : EL K b ρ E X)
    (h : DC K b ρ tr fun ss => ∀ oe : Obj, Zc cls d oe → (∃ fs, oe.data = .fields fs) → Pp [(a, oe)] ∧ F [(a, oe)] ss Q X) : DE K b ρ (tCallG (fun _ => spX (spP K Pp F) a cls d) [] E tr) Q :=
  fun Hf H σ k fr c => by
    refine h Hf H σ _ fr fun vs ss Hf1 H1 e1 f1 r1 q => ?_
    refine (show spX (spP K Pp F) a cls d vs H1 k (E σ) from fun oe hz hf => ?_)
    obtain ⟨hp, q⟩ := q oe hz hf
    exact ⟨hp, call_core hE f1 r1 q fun v d Hf' H' e f r z => c v d Hf' H' (e1.trans e) f r z⟩
end G

set_option Elab.async false
set_option linter.all false
set_option maxRecDepth 100000
set_option maxHeartbeats 4000000
/-! DOps: operators and built-ins over data; loops. -/
namespace G
open PySem PySem.Spec PyProof.Rows L2
section
variable {K : PySem.W.Frag} {b : Bs} {ρ : List Sl} {ta tb te tc : TE} {tt tu : TT} {tr : TA} {Q : D → Prop} {H Hf : Hp}
theorem small_line {n : Nat} (h : n ≤ 100000) : n ≤ sizeLine := Nat.le_trans h (by decide)
/-! ### places -/
theorem RpA.atI {vs : List V} {ds : List D} {i : Int} {d : D} (r : RpA K H vs ds) (h : L2.atI ds i = some d) : ∃ v, L2.atI vs i = some v ∧ Rp K H v d := by
  unfold L2.atI at h ⊢
  rw [r.len]
  cases e : ixN ds.length i with
  | none => rw [e] at h; cases h
  | some j =>
    rw [e] at h
    exact r.at (i := j) h
def atD : D → Int → Option D
  | .tup l, i => L2.atI l i
  | .lst l, i => L2.atI l i
  | .str z, i => if z.length ≤ 100000 then (L2.atI z.cps.toList i).map fun c => .str ⟨#[c]⟩ else none
  | _, _ => none
theorem de_ix (h : DE K b ρ ta fun x => DE K b ρ tb fun y => ∃ i d, y = .int i ∧ atD x i = some d ∧ Q d) : DE K b ρ (tOp (rIx K) ta tb) Q :=
  de_op (h.imp fun x hx => hx.imp fun y ⟨i, d, e, ha, q⟩ Hf H σ k v u f rv ru c => by
    subst e
    have eu := ru.int_inv
    subst eu
    cases rv with
    | tup h1 h2 =>
      obtain ⟨v', e1, r1⟩ := h2.atI (i := i) ha
      exact Or.inr (Or.inl ⟨_, _, i, v', rfl, rfl, f.ex.exF.st h1, e1, c _ _ Hf H Up.refl f r1 q⟩)
    | lst h1 h2 =>
      obtain ⟨v', e1, r1⟩ := h2.atI (i := i) ha
      exact Or.inl ⟨_, _, i, v', rfl, rfl, SqL.of (f.ex.exF _ _ h1), e1, c _ _ Hf H Up.refl f r1 q⟩
    | str z =>
      have ha' : (if z.length ≤ 100000 then (L2.atI z.cps.toList i).map fun c => D.str ⟨#[c]⟩ else none) = some d := ha
      by_cases hz : z.length ≤ 100000
      · rw [if_pos hz] at ha'
        cases e2 : L2.atI z.cps.toList i with
        | none => rw [e2] at ha'; cases ha'
        | some c' =>
          rw [e2] at ha'
          cases ha'
          exact Or.inr (Or.inr ⟨z, i, c', rfl, rfl, small_line hz, e2, c _ _ Hf H Up.refl f (.str _) q⟩)
      · rw [if_neg hz] at ha'; cases ha'
    | non => cases ha
    | bl _ => cases ha
    | int _ => cases ha
    | ty _ => cases ha
    | fn _ => cases ha
    | dic _ _ _ => cases ha
    | obj _ _ _ => cases ha
    | exc _ _ _ => cases ha
    | exc0 _ _ => cases ha)
/-! ### len -/
def lenD : D → Option Nat
  | .tup l => some l.length
  | .lst l => some l.length
  | .str z => if z.length ≤ 100000 then some z.length else none
  | _ => none
def rLenV (K : PySem.W.Frag) : List V → Hp → VK → Prop := fun xs H Q => ∃ x n, xs = [x] ∧ LenV K x H n ∧ Q (.int n) H
theorem call_lenV {X : Cx} : CallR X (.builtin "len") (rLenV X.K) := call_len
theorem de_len (h : DE K b ρ ta fun x => ∃ n : Nat, lenD x = some n ∧ Q (.int n)) : DE K b ρ (tCB (rLenV K) (tCons ta tNil)) Q :=
  de_cb1 (h.imp fun x ⟨n, ha, q⟩ Hf H σ k v f rv c => by
    cases rv with
    | tup h1 h2 =>
      cases ha
      refine ⟨_, _, rfl, Or.inr ⟨_, f.ex.exF.st h1, rfl⟩, ?_⟩
      rw [h2.len]
      exact c _ _ Hf H Up.refl f (.int _) q
    | lst h1 h2 =>
      cases ha
      refine ⟨_, _, rfl, Or.inl ⟨_, SqL.of (f.ex.exF _ _ h1), rfl⟩, ?_⟩
      rw [h2.len]
      exact c _ _ Hf H Up.refl f (.int _) q
    | str z =>
      have ha' : (if z.length ≤ 100000 then some z.length else none) = some n := ha
      by_cases hz : z.length ≤ 100000
      · rw [if_pos hz] at ha'
        cases ha'
        exact ⟨_, _, rfl, ⟨small_line hz, rfl⟩, c _ _ Hf H Up.refl f (.int _) q⟩
      · rw [if_neg hz] at ha'; cases ha'
    | non => cases ha
    | bl _ => cases ha
    | int _ => cases ha
    | ty _ => cases ha
    | fn _ => cases ha
    | dic _ _ _ => cases ha
    | obj _ _ _ => cases ha
    | exc _ _ _ => cases ha
    | exc0 _ _ => cases ha)
theorem de_len_own {i : Nat} {l : List D} (hi : ρ[i]? = some (.ow l)) (q : Q (.int l.length)) : DE K b ρ (tCB (rLenV K) (tCons (tVar i) tNil)) Q :=
  de_var_own hi fun Hf H σ k a xs f h1 h2 c => by
    refine ⟨_, _, rfl, Or.inl ⟨_, SqL.of h1, rfl⟩, ?_⟩
    rw [h2.len]
    exact c _ _ Hf H Up.refl f (.int _) q
/-! ### int, abs, max, min -/
def rInt1 : List V → Hp → VK → Prop := fun xs H Q => (∃ i, xs = [.int i] ∧ Q (.int i) H) ∨ ∃ k, xs = [.bl k] ∧ Q (.int (if k then 1 else 0)) H
theorem call_intV {X : Cx} : CallR X (.type "int") rInt1 := call_int1
theorem de_intc (h : DE K b ρ ta fun x => (∃ i, x = .int i ∧ Q (.int i)) ∨ ∃ c : Bool, x = .bl c ∧ Q (.int (if c then 1 else 0))) : DE K b ρ (tCB rInt1 (tCons ta tNil)) Q :=
  de_cb1 (h.imp fun x hx Hf H σ k v f rv c => by
    cases hx with
    | inl hx =>
      obtain ⟨i, e, q⟩ := hx
      subst e
      have e := rv.int_inv
      subst e
      exact Or.inl ⟨i, rfl, c _ _ Hf H Up.refl f (.int _) q⟩
    | inr hx =>
      obtain ⟨i, e, q⟩ := hx
      subst e
      have e := rv.bl_inv
      subst e
      exact Or.inr ⟨i, rfl, c _ _ Hf H Up.refl f (.int _) q⟩)
def rAbs : List V → Hp → VK → Prop := fun xs H Q => ∃ i, xs = [.int i] ∧ Q (.int (if i < 0 then -i else i)) H
theorem call_absV {X : Cx} : CallR X (.builtin "abs") rAbs := call_abs
theorem de_abs (h : DE K b ρ ta fun x => ∃ i, x = .int i ∧ Q (.int (if i < 0 then -i else i))) : DE K b ρ (tCB rAbs (tCons ta tNil)) Q :=
  de_cb1 (h.imp fun x ⟨i, e, q⟩ Hf H σ k v f rv c => by
    subst e
    have e := rv.int_inv
    subst e
    exact ⟨i, rfl, c _ _ Hf H Up.refl f (.int _) q⟩)
/-! ### lists put together -/
theorem dn_cat {R : List D → Prop} (h : DE K b ρ ta fun x => DE K b ρ tb fun y => ∃ l m, x = .lst l ∧ y = .lst m ∧ l.length + m.length ≤ 16000 ∧ R (l ++ m)) : DN K b ρ (tOp rCat ta tb) R := fun Hf H σ k fr c => by
  refine h Hf H σ _ fr fun v x Hf1 H1 e1 f1 r1 q1 => ?_
  refine q1 Hf1 H1 σ _ f1 fun u y Hf2 H2 e2 f2 r2 ⟨l, m, ex, ey, hz, q⟩ => ?_
  subst ex
  subst ey
  cases r1 with
  | lst h1 a1 =>
    cases r2 with
    | lst h2 a2 =>
      refine ⟨_, _, _, _, rfl, rfl, f2.ex.exF _ _ (e2.1 _ _ h1), f2.ex.exF _ _ h2, small_line (by rw [a1.len, a2.len]; omega), fun p hp => ?_⟩
      exact c p _ _ Hf2 H2 (e1.trans e2) f2 hp ((a1.up e2.1).app a2) q
/-- the first one one's own -/
theorem dn_cat_own {R : List D → Prop} {i : Nat} {l : List D} (hi : ρ[i]? = some (.ow l)) (h : DE K b ρ tb fun y => ∃ m, y = .lst m ∧ l.length + m.length ≤ 16000 ∧ R (l ++ m)) : DN K b ρ (tOp rCat (tVar i) tb) R := fun Hf H σ k fr c => by
  obtain ⟨a, xs, ho, h1, h2, h3⟩ := own_at fr hi
  refine ⟨_, ho, ?_⟩
  refine h Hf H σ _ fr fun u y Hf2 H2 e2 f2 r2 ⟨m, ey, hz, q⟩ => ?_
  subst ey
  obtain ⟨a', ys, ho', k1, k2, k3⟩ := own_at f2 hi
  rw [ho] at ho'
  cases ho'
  cases r2 with
  | lst h4 a4 =>
    refine ⟨_, _, _, _, rfl, rfl, k2, f2.ex.exF _ _ h4, small_line (by rw [k3.len, a4.len]; omega), fun p hp => ?_⟩
    exact c p _ _ Hf2 H2 e2 f2 hp (k3.app a4) q
/-! ### in, not in, of flat things -/
def flD : D → Option V
  | .non => some .non
  | .bl c => some (.bl c)
  | .int i => some (.int i)
  | .str s => some (.str s)
  | _ => none
def flL : List D → Option (List V)
  | [] => some []
  | d :: r => match flD d, flL r with
    | some v, some vs => some (v :: vs)
    | _, _ => none
theorem Rp.fl {v u : V} {d : D} (r : Rp K H v d) (h : flD d = some u) : v = u ∧ flatV v = true := by
  cases r <;> first | (cases h; exact ⟨rfl, rfl⟩) | cases h
theorem RpA.fl : ∀ {vs us : List V} {ds : List D}, RpA K H vs ds → flL ds = some us → vs = us ∧ vs.all flatV = true
  | _, _, _, .nil, h => by cases h; exact ⟨rfl, rfl⟩
  | _, us, d :: ds, .cons q r, h => by
    have h' : (match flD d, flL ds with | some v, some vs => some (v :: vs) | _, _ => none) = some us := h
    split at h'
    · rename_i v vs e1 e2
      cases h'
      obtain ⟨a1, a2⟩ := q.fl e1
      obtain ⟨b1, b2⟩ := r.fl e2
      subst a1
      subst b1
      exact ⟨rfl, by rw [List.all_cons, a2, b2] <;> rfl⟩
    · cases h'
def seqD : D → Option (List D)
  | .tup l => some l
  | .lst l => some l
  | _ => none
theorem de_in {neg : Bool} (h : DE K b ρ ta fun x => DE K b ρ tb fun y => ∃ v l us, flD x = some v ∧ seqD y = some l ∧ flL l = some us ∧ Q (.bl (if neg then !inV v us else inV v us))) : DE K b ρ (tOp (rIn K neg) ta tb) Q :=
  de_op (h.imp fun x hx => hx.imp fun y ⟨v', l, us, e1, e2, e3, q⟩ Hf H σ k v u f rv ru c => by
    obtain ⟨a1, a2⟩ := rv.fl e1
    subst a1
    cases ru with
    | tup h1 h2 =>
      cases e2
      obtain ⟨b1, b2⟩ := h2.fl e3
      subst b1
      exact ⟨_, _, rfl, Or.inr (f.ex.exF.st h1), a2, b2, c _ _ Hf H Up.refl f (.bl _) q⟩
    | lst h1 h2 =>
      cases e2
      obtain ⟨b1, b2⟩ := h2.fl e3
      subst b1
      exact ⟨_, _, rfl, Or.inl (SqL.of (f.ex.exF _ _ h1)), a2, b2, c _ _ Hf H Up.refl f (.bl _) q⟩
    | non => cases e2
    | bl _ => cases e2
    | int _ => cases e2
    | str _ => cases e2
    | ty _ => cases e2
    | fn _ => cases e2
    | dic _ _ _ => cases e2
    | obj _ _ _ => cases e2
    | exc _ _ _ => cases e2
    | exc0 _ _ => cases e2)
/-! ### isinstance -/
def tyD : D → Option String
  | .non => some "NoneType"
  | .bl _ => some "bool"
  | .int _ => some "int"
  | .str _ => some "str"
  | .tup _ => some "tuple"
  | .lst _ => some "list"
  | .dic _ => some "dict"
  | _ => none
theorem Rp.tyX {v : V} {d : D} {t : String} (r : Rp K Hf v d) (e : Ex Hf H) (h : tyD d = some t) : TyX K H v (.type t) := by
  cases r with
  | non => cases h; exact .base .non
  | bl _ => cases h; exact .base (.bl _)
  | int _ => cases h; exact .base (.int _)
  | str _ => cases h; exact .base (.str _)
  | tup h1 _ =>
    cases h
    match e.st h1 with
    | .inl (.inl h2) => exact .base (.tup h2)
    | .inl (.inr ⟨o, h2⟩) => exact .fTuple h2
    | .inr ⟨o, its, n, h2, h3, _⟩ => exact .kTuple h2 h3
  | lst h1 _ => cases h; exact .base (.lst (e _ _ h1))
  | dic h1 _ _ => cases h; exact .base (.dK (e _ _ h1))
  | ty _ => cases h
  | fn _ => cases h
  | obj _ _ _ => cases h
  | exc _ _ _ => cases h
  | exc0 _ _ => cases h
/-- what the class of an error must say so that its fields are read, its class asked -/
structure XcC (K : PySem.W.Frag) (C : Addr) : Prop where
  cl : (PySem.W.clsIn K C).isSome = true
  ga : PySem.W.findIn K (.ref C) "__getattribute__" = some (some (.builtin "BaseException.__getattribute__"))
  gg : PySem.W.findIn K (.ref C) "__getattr__" = some none
  sb : PySem.W.subIn K (.ref C) (.type "BaseException") = some true
  hd : PySem.W.hasDictIn K C = true
  ka : PySem.W.findIn K (.ref C) "__class__" = some (some (.builtin "object.__class__"))
  kn : PySem.W.specialIn K (.builtin "object.__class__") "__get__" = some (some (.builtin "getset_descriptor.__get__"))
  kt : PySem.W.takesIn K (.builtin "object.__class__") = some true
  km : PySem.W.mroIn K C (.type "object") = some true
/-- the error at a, of the class at C, its own dict at d, is pinned -/
def PnOk (K : PySem.W.Frag) (pn : Pins) (a : Addr) (d : Option Addr) (C : Addr) : Prop := ∃ oe, (a, oe) ∈ pn ∧ Zc (.ref C) d oe ∧ (∃ vs, oe.data = .fields vs) ∧ XcC K C
/-- which errors are pinned -/
abbrev PinP := Addr → Option Addr → Addr → Prop
def rIsX (K : PySem.W.Frag) (pn : PinP) : List V → Hp → VK → Prop := fun xs H Q => ∃ (a : Addr) (d : Option Addr) (C : Addr) (c : V) (cv : Value) (r : Bool), xs = [.ref a, c] ∧ pn a d C ∧ (∀ dx, d = some dx → ∃ fs, H dx = some (.xd fs)) ∧ ClsV c cv ∧ PySem.W.kitOne K (.ref C) cv = some r ∧ Q (.bl r) H
theorem call_isX {X : Cx} {pn : PinP} (hp : ∀ a d C, pn a d C → PnOk X.K X.pn a d C) : CallR X (.builtin "isinstance") (rIsX X.K pn) := by
  intro pins s σ H xs us Q I r h
  obtain ⟨a, d, C, c, cv, r0, rfl, hpn, hd, hcv, e, q⟩ := h
  obtain ⟨oe, hm, hz, ⟨vs, hv⟩, hC⟩ := hp a d C hpn
  obtain ⟨u1, u2, rfl, rx, rt⟩ := vals2 r
  have ec := hcv.eq rt
  subst ec
  cases rx
  obtain ⟨hget, _⟩ := I.pin (a, oe) (List.mem_append_left _ hm)
  have J : ∃ od, PySem.W.InstAt s.heap a oe C od := by
    obtain ⟨oc, od, oda, osl⟩ := oe
    obtain ⟨h1, h2⟩ := hz
    dsimp only at h1 h2 hv
    subst h1 h2 hv
    match od, hd with
    | none, _ => exact ⟨none, hget, rfl, rfl, trivial⟩
    | some dx, hd =>
      obtain ⟨fs, hd⟩ := hd dx rfl
      have hx : ObjOk X.prog X.w H s.heap dx (.xd fs) := I.hok dx _ hd
      obtain ⟨mA, ⟨o, es, ep, ho, _⟩, _⟩ := hx
      exact ⟨some o, hget, rfl, rfl, ho⟩
  obtain ⟨od, J⟩ := J
  refine PySem.W.kia_one (PySem.W.kitx_exc hC.cl hC.ga hC.gg hC.sb hC.ka hC.kn hC.kt hC.km) I.kIn J e (fun z => nomatch z) fun tk => ?_
  exact ⟨.bl r0, H, I.kept (t' := tk) fun _ _ z => z, rfl, q⟩
def rIsG (K : PySem.W.Frag) (pn : PinP) : List V → Hp → VK → Prop := fun xs H Q => rIsi K xs H Q ∨ rIsX K pn xs H Q
theorem call_isG {X : Cx} {pn : PinP} (hp : ∀ a d C, pn a d C → PnOk X.K X.pn a d C) : CallR X (.builtin "isinstance") (rIsG X.K pn) := fun pins s σ H xs us Q I r h => h.elim (call_isi pins s σ H xs us Q I r) (call_isX hp pins s σ H xs us Q I r)
/-- isinstance(x, T), T a built-in class: plain data -/
theorem de_isT {pn : PinP} {n : String} (h : DE K b ρ ta fun x => ∃ t r, tyD x = some t ∧ kitB t n = some r ∧ Q (.bl r)) : DE K b ρ (tCB (rIsG K pn) (tCons ta (tCons (tC (.ty n)) tNil))) Q :=
  de_cb (da_cons (h.imp fun x ⟨t, r, e1, e2, q⟩ => da_cons (de_ty (da_nil fun Hf H σ k vs f rr c => by
    cases rr with
    | cons r1 rr =>
      cases rr with
      | cons r2 rr =>
        cases rr
        cases r2
        exact Or.inl ⟨_, _, _, _, r, rfl, .ty n, r1.tyX f.ex.exF e1, kit_ty e2, c _ _ Hf H Up.refl f (.bl _) q⟩))))
/-- isinstance(e, C), e a caught error -/
theorem de_isX {pn : PinP} {u : V} {cv : Value} (hu : ClsV u cv) (h : DE K b ρ ta fun x => ∃ a d C l r, x = .exc a d C l ∧ pn a d C ∧ PySem.W.kitOne K (.ref C) cv = some r ∧ Q (.bl r)) : DE K b ρ (tCB (rIsG K pn) (tCons ta (tCons (tC u) tNil))) Q := fun Hf H σ k fr c => by
  refine h Hf H σ _ fr fun v x Hf1 H1 e1 f1 r1 ⟨a, d, C, l, r, ex, hp, hk, q⟩ => ?_
  subst ex
  cases r1 with
  | exc h1 h2 h3 => exact Or.inr ⟨a, _, C, u, cv, r, rfl, hp, (fun dx e => by cases e; exact ⟨_, f1.ex.exF _ _ h1⟩), hu, hk, c _ _ Hf1 H1 e1 f1 (.bl _) q⟩
  | exc0 _ _ => exact Or.inr ⟨a, _, C, u, cv, r, rfl, hp, (fun dx e => nomatch e), hu, hk, c _ _ Hf1 H1 e1 f1 (.bl _) q⟩
/-- isinstance(x, (T1, T2)) -/
theorem de_isT2 {n m : String} (h : DE K b ρ ta fun x => ∃ t r1 r2, tyD x = some t ∧ kitB t n = some r1 ∧ kitB t m = some r2 ∧ Q (.bl (r1 || r2))) : DE K b ρ (tCB (rIsiT K) (tCons ta (tCons (tTup (tCons (tC (.ty n)) (tCons (tC (.ty m)) tNil))) tNil))) Q := fun Hf H σ k fr c => by
  refine h Hf H σ _ fr fun v x Hf1 H1 e1 f1 r1 ⟨t, a, d, g1, g2, g3, q⟩ => ?_
  refine ⟨by show 2 ≤ sizeLine; decide, fun p hp => ?_⟩
  have n' := f1.ex.exF.no hp
  refine ⟨v, p, [.ty n, .ty m], .type t, [.type n, .type m], (a || d), rfl, upd_same, .cons (.ty n) (.cons (.ty m) .nil), r1.tyX (f1.ex.exF.trans (Ex.new hp)) g1, ?_, c _ _ (upd Hf1 p (.tup [.ty n, .ty m])) _ (e1.trans (Up.new hp n')) (f1.put hp) (.bl _) q⟩
  refine kitAny_cons (kit_ty g2) (fun z => ?_) (fun z => by rw [z] <;> rfl)
  refine kitAny_cons (kit_ty g3) (fun y => ?_) (fun y => by rw [y, Bool.or_true])
  rw [z, y]
  exact kitAny_nil
/-! ### the field of a caught error -/
def tXe (K : PySem.W.Frag) (pn : PinP) (f : Str) (te : TE) : TE := fun σ H Q => te σ H fun x H1 => ∃ (a d C : Addr) (fs : List (Str × V)) (v : V), x = .ref a ∧ pn a (some d) C ∧ PySem.W.findIn K (.ref C) f = some none ∧ H1 d = some (.xd fs) ∧ fs.lookup f = some v ∧ Q v H1
theorem pe_xe {X : Cx} {pn : PinP} (hp : ∀ a d C, pn a d C → PnOk X.K X.pn a d C) {e : Expr} {f : Str} {pos : Pos} {te : TE} (he : PE X e te) (hb : attributeBase e f X.env (eval e X.env) = eval e X.env := by rfl) : PE X (.Attribute e f pos) (tXe X.K pn f te) := by
  refine ⟨fun pins s σ H Q I h => ?_⟩
  refine attr_of hb (thn (he.run pins s σ H _ I h) fun u s1 hh => ?_)
  obtain ⟨x, H1, I1, rx, a, d, C, fs, v, ex, hpn, hno, ed, l, q⟩ := hh
  obtain ⟨oe, hm, hz, ⟨vs, hv⟩, hC⟩ := hp a (some d) C hpn
  subst ex
  obtain rfl : u = Value.ref a := rx
  obtain ⟨hget, _⟩ := I1.pin (a, oe) (List.mem_append_left _ hm)
  have hx : ObjOk X.prog X.w H1 s1.heap d (.xd fs) := I1.hok d _ ed
  obtain ⟨mA, hns, hr⟩ := hx
  obtain ⟨o, ho, hl⟩ := lookIn_ns hns
  obtain ⟨u, hu, ru⟩ := RelO.some_of (v := v) (o := mA f) (by rw [← l]; exact hr f)
  have J : PySem.W.InstAt s1.heap a oe C (some o) := ⟨hget, hz.1, by unfold PySem.W.notCls; rw [hv] <;> rfl, by rw [hz.2]; exact ho⟩
  exact HandSPX.exc_get I1.kIn J hC.ga hC.gg hC.sb (PySem.W.findObj_own hC.hd hno rfl (by rw [hl, hu])) (handed_of ru) ⟨v, H1, I1.tok _, ru, q⟩
theorem lookup_rel : ∀ {xs : List (Str × V)} {ds : List (Str × D)} {f : Str} {d : D}, xs.map (·.1) = ds.map (·.1) → RpA K H (xs.map (·.2)) (ds.map (·.2)) → ds.lookup f = some d → ∃ v, xs.lookup f = some v ∧ Rp K H v d
  | [], [], _, _, _, _, h => by cases h
  | [], _ :: _, _, _, h, _, _ => by cases h
  | _ :: _, [], _, _, h, _, _ => by cases h
  | (k, v) :: xs, (k', d') :: ds, f, d, hk, r, h => by
    have hk' : k :: xs.map (·.1) = k' :: ds.map (·.1) := hk
    injection hk' with e1 e2
    subst e1
    have r' : RpA K H (v :: xs.map (·.2)) (d' :: ds.map (·.2)) := r
    cases r' with
    | cons q r =>
      rw [List.lookup_cons] at h ⊢
      by_cases e : (f == k) = true
      · rw [e] at h ⊢
        cases h
        exact ⟨v, rfl, q⟩
      · have e' : (f == k) = false := by simpa using e
        rw [e'] at h ⊢
        exact lookup_rel e2 r h
theorem de_xe {pn : PinP} {f : Str} (h : DE K b ρ te fun x => ∃ a d C l y, x = .exc a d C l ∧ pn a d C ∧ PySem.W.findIn K (.ref C) f = some none ∧ l.lookup f = some y ∧ Q y) : DE K b ρ (tXe K pn f te) Q := fun Hf H σ k fr c => by
  refine h Hf H σ _ fr fun v x Hf1 H1 e1 f1 r1 ⟨a, d, C, l, y, ex, hp, hn, hl, q⟩ => ?_
  subst ex
  cases r1 with
  | exc0 _ _ => cases hl
  | exc h1 h2 h3 =>
    obtain ⟨v', l', r'⟩ := lookup_rel h2 h3 hl
    exact ⟨a, _, C, _, v', rfl, hp, hn, f1.ex.exF _ _ h1, l', c _ _ Hf1 H1 e1 f1 r' q⟩
end
end G

set_option Elab.async false
set_option linter.all false
set_option maxRecDepth 100000
set_option maxHeartbeats 4000000
/-! DLoop: repr, is with truth values, targets, loops, comprehensions. -/
namespace G
open PySem PySem.Spec PyProof.Rows L2
/-! ### repr -/
def SysD (base : Heap) : Prop := ∃ o es ep, base.get? sysModules = some o ∧ o.data = .dict es ep
section
variable {X : Cx} {pins : Pins} {σ : L2.St} {H : Hp} {s : Shared}
theorem not_sys (hS : SysD X.base) (I : Inv X pins σ H s) {a : Addr} {o : HO} (h : H a = some o) : a ≠ sysModules := fun z => by
  obtain ⟨o', es, ep, e, _⟩ := hS
  have q := (I.bs sysModules o' e).2
  rw [← z, h] at q
  cases q
theorem pairs_read (I : Inv X pins σ H s) : ∀ {es : List DictEntry} {kvs : List (Key × Value)}, Pairs (mixKind X.prog X.w) es kvs → ∃ as, ReadsAll s.heap (es.map (·.key)) (kvs.map fun p => keyPy p.1) as ∧ as = []
  | _, _, .nil => ⟨[], .nil, rfl⟩
  | _, _, .cons (e := e) (kv := kv) h1 h2 h3 => by
    obtain ⟨as, r, ea⟩ := pairs_read I h3
    subst ea
    have h1' : keyIs kv.1 e.key = true := h1
    obtain ⟨k, v⟩ := kv
    rcases keyIs_shape h1' with ⟨i, t, e1, e2⟩ | ⟨x, t, e1, e2⟩
    · have e1' : k = Sum.inl i := e1
      subst e1'
      refine ⟨[] ++ [], ?_, rfl⟩
      show ReadsAll s.heap (e.key :: _) (PyData.int i :: _) _
      rw [e2]
      exact .cons (.int i t) r
    · have e1' : k = Sum.inr x := e1
      subst e1'
      refine ⟨[] ++ [], ?_, rfl⟩
      show ReadsAll s.heap (e.key :: _) (PyData.str x :: _) _
      rw [e2]
      exact .cons (.str x t) r
theorem pairs_val : ∀ {es : List DictEntry} {kvs : List (Key × Value)}, Pairs (mixKind X.prog X.w) es kvs → es.map (·.val) = kvs.map (·.2)
  | _, _, .nil => rfl
  | _, _, .cons h1 h2 h3 => by
    rw [List.map_cons, List.map_cons, pairs_val h3, h2]
theorem kv_split : ∀ {xs : List (Key × V)} {vs : List (Key × Value)}, KV xs vs → xs.map (·.1) = vs.map (·.1) ∧ Vals (xs.map (·.2)) (vs.map (·.2))
  | _, _, .nil => ⟨rfl, .nil⟩
  | _, _, .cons ⟨e, r⟩ t => by
    obtain ⟨a, b⟩ := kv_split t
    exact ⟨by rw [List.map_cons, List.map_cons, e, a], .cons r b⟩
theorem pyK_split : ∀ (l : List (Key × D)), (D.pyK l).map (·.1) = l.map (fun p => keyPy p.1) ∧ (D.pyK l).map (·.2) = D.pyL (l.map (·.2))
  | [] => ⟨by simp [D.pyK], by simp [D.pyK, D.pyL]⟩
  | (k, d) :: r => by
    obtain ⟨a, b⟩ := pyK_split r
    constructor
    · simp only [D.pyK, List.map_cons, a]
    · simp only [D.pyK, List.map_cons, b, D.pyL]
theorem plK_vals : ∀ (l : List (Key × D)), D.plK l = D.plL (l.map (·.2))
  | [] => by simp [D.plK, D.plL]
  | (k, d) :: r => by simp only [D.plK, D.plL, List.map_cons, plK_vals r]
mutual
theorem Rp.reads (hS : SysD X.base) (I : Inv X pins σ H s) : ∀ (d : D) (v : V) (u : Value), Rp X.K H v d → d.pl = true → RelV v u → ∃ as, Reads s.heap u d.py as ∧ sysModules ∉ as
  | .non, _, _, .non, _, r => by
    cases r
    exact ⟨[], by simpa only [D.py] using Reads.none, by simp⟩
  | .bl c, _, _, .bl _, _, r => by
    cases r
    exact ⟨[], by simpa only [D.py] using Reads.bool c, by simp⟩
  | .int i, _, _, .int _, _, r => by
    obtain ⟨t, rfl⟩ := r
    exact ⟨[], by simpa only [D.py] using Reads.int i t, by simp⟩
  | .str x, _, _, .str _, _, r => by
    obtain ⟨t, rfl⟩ := r
    exact ⟨[], by simpa only [D.py] using Reads.str x t, by simp⟩
  | .ty _, _, _, _, h, _ => by simp [D.pl] at h
  | .fn _, _, _, _, h, _ => by simp [D.pl] at h
  | .tup l, _, _, .tup h1 h2, h, r => by
    cases r
    obtain ⟨its, rv, ⟨o, ho, hc, n, hd⟩, _⟩ := I.tuple h1
    obtain ⟨as, hr, hn⟩ := RpA.reads hS I l _ its h2 (by simpa [D.pl] using h) rv
    exact ⟨as, by simp only [D.py]; exact Reads.tuple ho hc hd hr, hn⟩
  | .lst l, _, _, .lst h1 h2, h, r => by
    cases r
    have ne := not_sys hS I h1
    obtain ⟨its, rv, ⟨o, n, ho, hc, _, hd⟩, _⟩ := I.list (SqL.of h1)
    obtain ⟨as, hr, hn⟩ := RpA.reads hS I l _ its h2 (by simpa [D.pl] using h) rv
    exact ⟨_ :: as, by simp only [D.py]; exact Reads.list ho hc hd hr, fun z => (List.mem_cons.mp z).elim (fun y => ne y.symm) hn⟩
  | .dic l, _, _, .dic h1 h2 h3, h, r => by
    cases r
    have ne := not_sys hS I h1
    obtain ⟨_, _, vs, kv, o, es, ep, ho, hx, hd, _, hp, _⟩ := I.hok _ _ h1
    obtain ⟨k1, k2⟩ := kv_split kv
    obtain ⟨bs, hb, eb⟩ := pairs_read I hp
    subst eb
    obtain ⟨as, hr, hn⟩ := RpA.reads hS I (l.map (·.2)) _ (vs.map (·.2)) h3 (by rw [← plK_vals]; simpa [D.pl] using h) k2
    obtain ⟨p1, p2⟩ := pyK_split l
    refine ⟨_ :: [] ++ as, ?_, fun z => (List.mem_cons.mp z).elim (fun y => ne y.symm) fun y => hn (by simpa using y)⟩
    simp only [D.py]
    refine Reads.dict ho hx.1 hd ?_ ?_
    · rw [p1]
      have e : l.map (fun p => keyPy p.1) = vs.map (fun p => keyPy p.1) := by
        have q : ∀ (f : Key → PyData) (a : List (Key × D)) (b : List (Key × Value)), a.map (·.1) = b.map (·.1) → a.map (fun p => f p.1) = b.map (fun p => f p.1) := fun f a b e => by
          have e' := congrArg (List.map f) e
          rw [List.map_map, List.map_map] at e'
          exact e'
        exact q keyPy l vs (h2.symm.trans k1)
      rw [e]
      exact hb
    · rw [p2, pairs_val hp]
      exact hr
  | .obj _ _, _, _, _, h, _ => by simp [D.pl] at h
  | .exc _ _ _ _, _, _, _, h, _ => by simp [D.pl] at h
theorem RpA.reads (hS : SysD X.base) (I : Inv X pins σ H s) : ∀ (ds : List D) (vs : List V) (us : List Value), RpA X.K H vs ds → D.plL ds = true → Vals vs us → ∃ as, ReadsAll s.heap us (D.pyL ds) as ∧ sysModules ∉ as
  | [], _, _, .nil, _, r => by
    cases r
    exact ⟨[], by simp only [D.pyL]; exact ReadsAll.nil, by simp⟩
  | d :: ds, _, _, .cons h1 h2, h, r => by
    cases r with
    | cons r1 r2 =>
      simp only [D.plL, Bool.and_eq_true] at h
      obtain ⟨as, q1, n1⟩ := Rp.reads hS I d _ _ h1 h.1 r1
      obtain ⟨bs, q2, n2⟩ := RpA.reads hS I ds _ _ h2 h.2 r2
      exact ⟨as ++ bs, by simp only [D.pyL]; exact ReadsAll.cons q1 q2, fun z => (List.mem_append.mp z).elim n1 n2⟩
end
end
end G

set_option Elab.async false
set_option linter.all false
set_option maxRecDepth 100000
set_option maxHeartbeats 4000000
/-! DFlow: repr over data, is with truth values, targets, loops, try, raise. -/
namespace G
open PySem PySem.Spec PyProof.Rows L2
section
variable {K : PySem.W.Frag} {b : Bs} {ρ : List Sl} {ta tb te tc : TE} {tt tu : TT} {tr : TA} {Q : D → Prop} {H Hf : Hp}
/-! ### repr -/
def rRepr (K : PySem.W.Frag) : List V → Hp → VK → Prop := fun xs H Q => ∃ x d, xs = [x] ∧ Rp K H x d ∧ d.pl = true ∧ d.py.showable = true ∧ d.py.depth ≤ 60 ∧ d.py.shown.length ≤ sizeLine ∧ Q (.str d.py.shown) H
theorem call_repr {X : Cx} (hS : SysD X.base) (hg : X.A.guards = some []) (hu : X.A.units + 64 < cLine) : CallR X (.builtin "repr") (rRepr X.K) := by
  intro pins s σ H xs us Q I r h
  obtain ⟨x, d, rfl, rp, hp, hs, hd, hz, q⟩ := h
  obtain ⟨u, rfl, rx⟩ := vals1 r
  have byRef : ∀ a, u = Value.ref a → wpAny (model X.prog X.w) X.A (call (.builtin "repr") [u]) (EP X pins σ Q) X.xe s := fun a e => by
    obtain ⟨as, hr, hn⟩ := Rp.reads hS I d x u rp hp rx
    subst e
    refine repr_of_reads' hr hs (fun _ => hn) hg (by omega) (fun _ _ e => e) (fun h' u' tk hk => ?_) hz
    exact ⟨.str _, H, I.kept (t' := tk) hk, ⟨_, rfl⟩, q⟩
  cases rp with
  | non =>
    cases rx
    exact PySem.P.repr_of_none ⟨.str _, H, I.tok _, ⟨_, rfl⟩, by simpa [D.py, PyData.shown] using q⟩
  | bl c =>
    cases rx
    exact PySem.P.repr_of_bool ⟨.str _, H, I.tok _, ⟨_, rfl⟩, by simpa [D.py, PyData.shown] using q⟩
  | int i =>
    obtain ⟨t, rfl⟩ := rx
    exact PySem.P.repr_of_int (by simpa [D.py, PyData.showable] using hs) ⟨.str _, H, I.tok _, ⟨_, rfl⟩, by simpa [D.py, PyData.shown] using q⟩
  | str z =>
    obtain ⟨t, rfl⟩ := rx
    exact PySem.P.repr_of_str ⟨.str _, H, I.tok _, ⟨_, rfl⟩, by simpa [D.py, PyData.shown] using q⟩ (by simpa [D.py, PyData.shown] using hz)
  | ty _ => simp [D.pl] at hp
  | fn _ => simp [D.pl] at hp
  | tup _ _ => exact byRef _ rx
  | lst _ _ => exact byRef _ rx
  | dic _ _ _ => exact byRef _ rx
  | obj _ _ _ => simp [D.pl] at hp
  | exc _ _ _ => simp [D.pl] at hp
  | exc0 _ _ => simp [D.pl] at hp
def okR (d : D) : Prop := d.pl = true ∧ d.py.showable = true ∧ d.py.depth ≤ 60 ∧ d.py.shown.length ≤ 100000
theorem de_repr (h : DE K b ρ ta fun x => okR x ∧ Q (.str x.py.shown)) : DE K b ρ (tCB (rRepr K) (tCons ta tNil)) Q :=
  de_cb1 (h.imp fun x ⟨⟨h1, h2, h3, h4⟩, q⟩ Hf H σ k v f rv c => ⟨v, x, rfl, rv.up f.ex.exF, h1, h2, h3, small_line h4, c _ _ Hf H Up.refl f (.str _) q⟩)
/-! ### is True, is False -/
def rIsBl : R2 := fun x y H Q => ∃ c, y = .bl c ∧ Q (.bl (decide (x = .bl c))) H
theorem op_isBlV {X : Cx} : OpR X (compareOp .Is) rIsBl := by
  intro pins s σ H x y v u Q I rx ry h
  obtain ⟨c, rfl, q⟩ := h
  cases (show u = Value.bool c from ry)
  have e : (v == Value.bool c) = decide (x = V.bl c) := by
    cases x with
    | non => cases rx; rfl
    | bl d =>
      cases (show v = Value.bool d from rx)
      cases c <;> cases d <;> rfl
    | int _ => obtain ⟨t, rfl⟩ := rx; rfl
    | str _ => obtain ⟨t, rfl⟩ := rx; rfl
    | byt _ => obtain ⟨t, rfl⟩ := rx; rfl
    | flt _ => obtain ⟨t, rfl⟩ := rx; rfl
    | ref _ => cases rx; rfl
    | ty _ => cases rx; rfl
  have go : wpAny (model X.prog X.w) X.A (pure (Value.bool (v == Value.bool c))) (EP X pins σ Q) X.xe s := wpAny_pure ⟨.bl _, H, I, by rw [e]; rfl, q⟩
  cases x with
  | non => cases rx; exact go
  | bl d => cases (show v = Value.bool d from rx); exact go
  | int _ => obtain ⟨t, rfl⟩ := rx; exact go
  | str _ => obtain ⟨t, rfl⟩ := rx; exact go
  | byt _ => obtain ⟨t, rfl⟩ := rx; exact go
  | flt _ => obtain ⟨t, rfl⟩ := rx; exact go
  | ref _ => cases rx; exact go
  | ty _ => cases rx; exact go
def isB (x : D) (c : Bool) : Bool := match x with
  | .bl d => d == c
  | _ => false
theorem de_isBl {c : Bool} (h : DE K b ρ ta fun x => Q (.bl (isB x c))) : DE K b ρ (tOp rIsBl ta (tC (.bl c))) Q := fun Hf H σ k fr cc => by
  refine h Hf H σ _ fr fun v x Hf1 H1 e1 f1 r1 q => ?_
  refine ⟨c, rfl, ?_⟩
  have e : decide (v = V.bl c) = isB x c := by
    cases r1 <;> first | rfl | skip
    rename_i d
    cases c <;> cases d <;> rfl
  rw [e]
  exact cc _ _ Hf1 H1 e1 f1 (.bl _) q
/-! ### targets -/
def DG (K : PySem.W.Frag) (b : Bs) (ρ : List Sl) (g : TG) (x : D) (Q : List Sl → Prop) : Prop := ∀ (Hf H : Hp) (σ : L2.St) (v : V) (k : L2.St → Hp → Prop), Fm K b Hf H σ ρ → Rp K Hf v x →
  (∀ ρ' σ' Hf' H', Ex Hf Hf' → Fm K b Hf' H' σ' ρ' → Q ρ' → k σ' H') → g v σ H k
def DGs (K : PySem.W.Frag) (b : Bs) (ρ : List Sl) (g : TGs) (xs : List D) (Q : List Sl → Prop) : Prop := ∀ (Hf H : Hp) (σ : L2.St) (vs : List V) (k : L2.St → Hp → Prop), Fm K b Hf H σ ρ → RpA K Hf vs xs →
  (∀ ρ' σ' Hf' H', Ex Hf Hf' → Fm K b Hf' H' σ' ρ' → Q ρ' → k σ' H') → g vs σ H k
variable {x : D} {xs : List D} {R : List Sl → Prop} {g : TG} {gs : TGs}
theorem dg_name {i : Nat} (q : R (ρ.set i (.sh x))) : DG K b ρ (gName i) x R := fun Hf H σ v k fr r c => c _ _ Hf H (Ex.refl _) (fr.set r) q
theorem dgs_nil (q : R ρ) : DGs K b ρ gNil [] R := fun Hf H σ vs k fr r c => by
  cases r
  exact ⟨rfl, c _ _ Hf H (Ex.refl _) fr q⟩
theorem dgs_cons (h : DG K b ρ g x fun ρ' => DGs K b ρ' gs xs R) : DGs K b ρ (gCons g gs) (x :: xs) R := fun Hf H σ vs k fr r c => by
  cases r with
  | cons r1 r2 =>
    refine ⟨_, _, rfl, ?_⟩
    refine h Hf H σ _ _ fr r1 fun ρ' σ' Hf' H' e f q => ?_
    exact q Hf' H' σ' _ _ f (r2.up e) fun ρ2 σ2 Hf2 H2 e2 f2 q2 => c ρ2 σ2 Hf2 H2 (e.trans e2) f2 q2
theorem dg_tup {n : Nat} {l : List D} (hx : x = .tup l) (hn : l.length = n) (h : DGs K b ρ gs l R) : DG K b ρ (gTup K n gs) x R := fun Hf H σ v k fr r c => by
  subst hx
  cases r with
  | tup h1 h2 => exact ⟨_, _, rfl, fr.ex.exF.st h1, by rw [h2.len]; exact hn, h Hf H σ _ k fr h2 c⟩
variable {nx bk ct : List Sl → Prop} {rt : D → Prop} {ts tw tb' : TS}
theorem ds_asgG (h : DE K b ρ te fun d => DG K b ρ g d nx) : DS K b ρ (tAsg te g) nx rt bk ct := fun Hf H σ D fr n r bk ct =>
  h Hf H σ _ fr fun v d Hf' H' e f rp q => q Hf' H' σ v _ f rp fun ρ2 σ2 Hf2 H2 e2 f2 q2 => n ρ2 σ2 Hf2 H2 (e.1.trans e2) f2 q2
/-- a, b = x, y -/
theorem ds_par {i j : Nat} (h : DA K b ρ tr fun l => ∃ x y, l = [x, y] ∧ nx ((ρ.set i (.sh x)).set j (.sh y))) : DS K b ρ (tPar i j tr) nx rt bk ct := fun Hf H σ D fr n r bk ct => by
  refine h Hf H σ _ fr fun vs ds Hf1 H1 e1 f1 r1 ⟨x, y, e, q⟩ => ?_
  subst e
  cases r1 with
  | cons q1 r1 =>
    cases r1 with
    | cons q2 r1 =>
      cases r1
      exact ⟨_, _, rfl, n _ _ Hf1 H1 e1.1 ((f1.set q1).set q2) q⟩
/-- x op= e of ints -/
theorem ds_aug {i : Nat} {f : Int → Int → Int} {a : Int} (hi : ρ[i]? = some (.sh (.int a))) (h : DE K b ρ te fun y => ∃ j, y = .int j ∧ nx (ρ.set i (.sh (.int (f a j))))) : DS K b ρ (tAug i te (ipI f)) nx rt bk ct := fun Hf H σ D fr n r bk ct => by
  have hl : i < σ.length := by rw [fr.len]; exact (List.getElem?_eq_some_iff.mp hi).1
  have ho : σ[i]? = some σ[i] := List.getElem?_eq_getElem hl
  have z := fr.sl i _ _ ho hi
  generalize σ[i] = o at ho z
  match o, z with
  | none, z => exact z.elim
  | some v, z =>
    have ev := Rp.int_inv z
    subst ev
    refine ⟨.int a, ho, ?_⟩
    refine h Hf H σ _ fr fun v d Hf1 H1 e1 f1 r1 ⟨j, e, q⟩ => ?_
    subst e
    exact ⟨a, j, rfl, r1.int_inv, n _ _ Hf1 H1 e1.1 (f1.set (.int _)) q⟩
/-! ### loops -/
theorem ds_while (I : Nat → List Sl → Prop) (m : Nat) (h0 : I m ρ) (hs : ∀ m ρ', I m ρ' → DT K b ρ' tt fun c => if c = true then DS K b ρ' tb' (fun ρ2 => ∃ m', m' < m ∧ I m' ρ2) rt nx (fun ρ2 => ∃ m', m' < m ∧ I m' ρ2) else nx ρ') :
    DS K b ρ (tWhile tt tb') nx rt bk ct := fun Hf H σ D fr n r bk ct => by
  refine ⟨fun m σ' H' => ∃ ρ' Hf', Ex Hf Hf' ∧ Fm K b Hf' H' σ' ρ' ∧ I m ρ', ⟨m, ρ, Hf, Ex.refl _, fr, h0⟩, fun m σ' H' ⟨ρ', Hf', e, f, hI⟩ => ?_⟩
  refine hs m ρ' hI Hf' H' σ' _ f fun c Hf1 H1 e1 f1 q => ?_
  cases c with
  | true =>
    refine iteT ⟨fun σ2 H2 => ∃ m', m' < m ∧ ∃ ρ2 Hf2, Ex Hf Hf2 ∧ Fm K b Hf2 H2 σ2 ρ2 ∧ I m' ρ2, fun σ2 H2 z => z, ?_⟩
    refine (show DS K b ρ' tb' _ _ _ _ from q) Hf1 H1 σ' _ f1 (fun ρ2 σ2 Hf2 H2 e2 f2 ⟨m', hm, q2⟩ => ⟨m', hm, ρ2, Hf2, e.trans (e1.1.trans e2), f2, q2⟩) (fun v d Hf2 H2 e2 x2 r2 q2 => r v d Hf2 H2 (e.trans (e1.1.trans e2)) x2 r2 q2)
      (fun ρ2 σ2 Hf2 H2 e2 f2 q2 => n ρ2 σ2 Hf2 H2 (e.trans (e1.1.trans e2)) f2 q2) (fun ρ2 σ2 Hf2 H2 e2 f2 ⟨m', hm, q2⟩ => ⟨m', hm, ρ2, Hf2, e.trans (e1.1.trans e2), f2, q2⟩)
  | false => exact iteF (n ρ' σ' Hf1 H1 (e.trans e1.1) f1 q)
theorem ds_forN {lo : Int} {m : Nat} {wi : TI} {Hf1 H1 : Hp} {σ1 : L2.St} {D : Ends} (I : Nat → List Sl → Prop) (f1 : Fm K b Hf1 H1 σ1 ρ) (h0 : I 0 ρ) (hs : ∀ (i : Nat) ρ', i < m → I i ρ' → DG K b ρ' g (.int (lo + i)) fun ρ2 => DS K b ρ2 tb' (I (i + 1)) rt nx (I (i + 1))) (hd : ∀ ρ', I m ρ' → nx ρ')
    (n : ∀ ρ' σ' Hf' H', Ex Hf1 Hf' → Fm K b Hf' H' σ' ρ' → nx ρ' → D.nx σ' H') (r : ∀ v d Hf' H', Ex Hf1 Hf' → Exit K b Hf' H' → Rp K Hf' v d → rt d → D.rt v H') :
    ∃ W : Nat → Nat → L2.St → Hp → Prop, (∃ m, W 0 m σ1 H1) ∧ ∀ i m' σ H, W i m' σ H →
      ((Itr lo m).stop i H ∧ D.nx σ H) ∨ ((Itr lo m).go i H ∧ ∃ N : L2.St → Hp → Prop, (∀ σ' H', N σ' H' → ∃ m2, m2 < m' ∧ W (i + 1) m2 σ' H') ∧ ∀ x H', (Itr lo m).yld i H x H' → g x σ H' fun σ2 H2 => tb' { D with nx := N, ct := N, bk := D.nx } σ2 H2) := by
  refine for_range (fun i σ' H' => ∃ ρ' Hf', Ex Hf1 Hf' ∧ Fm K b Hf' H' σ' ρ' ∧ I i ρ') ⟨ρ, Hf1, Ex.refl _, f1, h0⟩ (fun i σ' H' hi ⟨ρ', Hf', e, f, hI⟩ => ?_) (fun σ' H' ⟨ρ', Hf', e, f, hI⟩ => n ρ' σ' Hf' H' e f (hd ρ' hI))
  refine hs i ρ' hi hI Hf' H' σ' _ _ f (.int _) fun ρ2 σ2 Hf2 H2 e2 f2 q => ?_
  exact q Hf2 H2 σ2 _ f2 (fun ρ3 σ3 Hf3 H3 e3 f3 q3 => ⟨ρ3, Hf3, e.trans (e2.trans e3), f3, q3⟩) (fun v d Hf3 H3 e3 x3 r3 q3 => r v d Hf3 H3 (e.trans (e2.trans e3)) x3 r3 q3)
    (fun ρ3 σ3 Hf3 H3 e3 f3 q3 => n ρ3 σ3 Hf3 H3 (e.trans (e2.trans e3)) f3 q3) (fun ρ3 σ3 Hf3 H3 e3 f3 q3 => ⟨ρ3, Hf3, e.trans (e2.trans e3), f3, q3⟩)
theorem ds_forR1 (h : DA K b ρ tr fun l => ∃ j : Int, l = [.int j] ∧ -(2 ^ 60) ≤ j ∧ j ≤ 2 ^ 60 ∧ ∃ I : Nat → List Sl → Prop, I 0 ρ ∧ (∀ (i : Nat) ρ', i < j.toNat → I i ρ' → DG K b ρ' g (.int i) fun ρ2 => DS K b ρ2 tb' (I (i + 1)) rt nx (I (i + 1))) ∧ ∀ ρ', I j.toNat ρ' → nx ρ') :
    DS K b ρ (tFor (iRng1 tr) g tb') nx rt bk ct := fun Hf H σ D fr n r bk ct => by
  refine h Hf H σ _ fr fun vs ds Hf1 H1 e1 f1 r1 ⟨j, e, l1, l2, I, h0, hs, hd⟩ => ?_
  subst e
  cases r1 with
  | cons q1 r1 =>
    cases r1
    have e := q1.int_inv
    subst e
    refine ⟨j, rfl, by omega, by omega, ?_⟩
    exact ds_forN (wi := iRng1 tr) (nx := nx) (rt := rt) I f1 h0 (fun i ρ' hi hI => by rw [Int.zero_add]; exact hs i ρ' hi hI) hd (fun ρ' σ' Hf' H' e f q => n ρ' σ' Hf' H' (e1.1.trans e) f q) (fun v d Hf' H' e x r' q => r v d Hf' H' (e1.1.trans e) x r' q)
theorem ds_forR2 (h : DA K b ρ tr fun l => ∃ i0 j : Int, l = [.int i0, .int j] ∧ -(2 ^ 60) ≤ i0 ∧ i0 ≤ 2 ^ 60 ∧ -(2 ^ 60) ≤ j ∧ j ≤ 2 ^ 60 ∧ ∃ I : Nat → List Sl → Prop, I 0 ρ ∧ (∀ (i : Nat) ρ', i < (j - i0).toNat → I i ρ' → DG K b ρ' g (.int (i0 + i)) fun ρ2 => DS K b ρ2 tb' (I (i + 1)) rt nx (I (i + 1))) ∧ ∀ ρ', I (j - i0).toNat ρ' → nx ρ') :
    DS K b ρ (tFor (iRng2 tr) g tb') nx rt bk ct := fun Hf H σ D fr n r bk ct => by
  refine h Hf H σ _ fr fun vs ds Hf1 H1 e1 f1 r1 ⟨i0, j, e, l1, l2, l3, l4, I, h0, hs, hd⟩ => ?_
  subst e
  cases r1 with
  | cons q1 r1 =>
    cases r1 with
    | cons q2 r1 =>
      cases r1
      have e := q1.int_inv
      subst e
      have e := q2.int_inv
      subst e
      refine ⟨i0, j, rfl, by omega, ?_⟩
      exact ds_forN (wi := iRng2 tr) (nx := nx) (rt := rt) I f1 h0 hs hd (fun ρ' σ' Hf' H' e f q => n ρ' σ' Hf' H' (e1.1.trans e) f q) (fun v d Hf' H' e x r' q => r v d Hf' H' (e1.1.trans e) x r' q)
/-- a list or a tuple, walked -/
def iSeq (K : PySem.W.Frag) (tl : TE) : TI := fun σ H R => tl σ H fun x H1 => ∃ a, x = .ref a ∧ (((∃ xs, SqL K H1 a xs) ∧ R (Itl K a) H1) ∨ ((∃ xs, SqT K H1 a xs) ∧ R (Itt K a) H1))
theorem pi_seq {X : Cx} {tg l : Expr} {tl : TE} (hl : PE X l tl) : PI X tg l (iSeq X.K tl) := by
  refine ⟨fun pins s σ H R I h => ?_⟩
  refine thn (hl.run pins s σ H _ I h) ?_
  intro v s1 z
  obtain ⟨x, H1, I1, r1, a, ex, q1⟩ := z
  subst ex
  cases r1
  have I2 : Inv X pins σ H1 { s1 with heap := s1.heap } := I1
  have fresh := I1.hok.fresh (Nat.le_refl s1.heap.objs.size)
  cases q1 with
  | inl q1 =>
    obtain ⟨⟨xs, hq⟩, q⟩ := q1
    obtain ⟨its, rv, p, _⟩ := I1.list hq
    refine wpAny_pyIter_list p.isList ?_
    refine ⟨_, [s1.heap.objs.size], _, _, H1, rfl, ?_, turn_list a _, ?_, ?_, q⟩
    · exact I1.kept (t' := s1.toks) fun b o e => Heap.get?_push_of_some _ e
    · exact ⟨_, Heap.get?_push_size _ rfl, rfl, rfl⟩
    · intro c hc
      rw [List.mem_singleton.mp hc]
      exact I1.fpOk (Nat.le_refl _) fresh
  | inr q1 =>
    obtain ⟨⟨xs, hq⟩, q⟩ := q1
    obtain ⟨its, rv, p, _⟩ := I1.tuple hq
    refine wpAny_pyIter_tuple (show s1.heap.IsTuple a its.toArray from p) ?_
    refine ⟨_, [s1.heap.objs.size], _, _, H1, rfl, ?_, turn_tuple a _, ?_, ?_, q⟩
    · exact I1.kept (t' := s1.toks) fun b o e => Heap.get?_push_of_some _ e
    · exact ⟨_, Heap.get?_push_size _ rfl, rfl, rfl⟩
    · intro c hc
      rw [List.mem_singleton.mp hc]
      exact I1.fpOk (Nat.le_refl _) fresh
theorem ds_forS (h : DE K b ρ ta fun x => ∃ l, seqD x = some l ∧ ∃ I : Nat → List Sl → Prop, I 0 ρ ∧ (∀ (i : Nat) d ρ', l[i]? = some d → I i ρ' → DG K b ρ' g d fun ρ2 => DS K b ρ2 tb' (I (i + 1)) rt nx (I (i + 1))) ∧ ∀ ρ', I l.length ρ' → nx ρ') :
    DS K b ρ (tFor (iSeq K ta) g tb') nx rt bk ct := fun Hf H σ D fr n r bk ct => by
  refine h Hf H σ _ fr fun v x Hf1 H1 e1 f1 r1 ⟨l, el, I, h0, hs, hd⟩ => ?_
  have turn : ∀ {xs : List V} (rx : RpA K Hf1 xs l) (i : Nat) (y : V) (σ' : L2.St) (H' : Hp), xs[i]? = some y → (∃ ρ' Hf', Ex Hf1 Hf' ∧ Fm K b Hf' H' σ' ρ' ∧ I i ρ') →
      g y σ' H' fun σ2 H2 => tb' { D with nx := fun σ3 H3 => ∃ ρ' Hf', Ex Hf1 Hf' ∧ Fm K b Hf' H3 σ3 ρ' ∧ I (i + 1) ρ', ct := fun σ3 H3 => ∃ ρ' Hf', Ex Hf1 Hf' ∧ Fm K b Hf' H3 σ3 ρ' ∧ I (i + 1) ρ', bk := D.nx } σ2 H2 := fun rx i y σ' H' hi ⟨ρ', Hf', e, f, hI⟩ => by
    obtain ⟨d, hd', rd⟩ := rx.at' hi
    refine hs i d ρ' hd' hI Hf' H' σ' _ _ f (rd.up e) fun ρ2 σ2 Hf2 H2 e2 f2 q => ?_
    exact q Hf2 H2 σ2 _ f2 (fun ρ3 σ3 Hf3 H3 e3 f3 q3 => ⟨ρ3, Hf3, e.trans (e2.trans e3), f3, q3⟩) (fun v d Hf3 H3 e3 x3 r3 q3 => r v d Hf3 H3 (e1.1.trans (e.trans (e2.trans e3))) x3 r3 q3)
      (fun ρ3 σ3 Hf3 H3 e3 f3 q3 => n ρ3 σ3 Hf3 H3 (e1.1.trans (e.trans (e2.trans e3))) f3 q3) (fun ρ3 σ3 Hf3 H3 e3 f3 q3 => ⟨ρ3, Hf3, e.trans (e2.trans e3), f3, q3⟩)
  have fin : ∀ σ' H', (∃ ρ' Hf', Ex Hf1 Hf' ∧ Fm K b Hf' H' σ' ρ' ∧ I l.length ρ') → D.nx σ' H' := fun σ' H' ⟨ρ', Hf', e, f, hI⟩ => n ρ' σ' Hf' H' (e1.1.trans e) f (hd ρ' hI)
  cases r1 with
  | tup h1 h2 =>
    cases el
    refine ⟨_, rfl, Or.inr ⟨⟨_, f1.ex.exF.st h1⟩, ?_⟩⟩
    exact for_tup (fun i σ' H' => ∃ ρ' Hf', Ex Hf1 Hf' ∧ Fm K b Hf' H' σ' ρ' ∧ I i ρ') ⟨ρ, Hf1, Ex.refl _, f1, h0⟩ (fun i σ' H' _ ⟨ρ', Hf', e, f, _⟩ => f.ex.exF.st (e.st h1)) (fun i y σ' H' hi p => turn h2 i y σ' H' hi p) (fun σ' H' p => fin σ' H' (by rw [← h2.len]; exact p))
  | lst h1 h2 =>
    cases el
    refine ⟨_, rfl, Or.inl ⟨⟨_, SqL.of (f1.ex.exF _ _ h1)⟩, ?_⟩⟩
    exact for_list (fun i σ' H' => ∃ ρ' Hf', Ex Hf1 Hf' ∧ Fm K b Hf' H' σ' ρ' ∧ I i ρ') ⟨ρ, Hf1, Ex.refl _, f1, h0⟩ (fun i σ' H' _ ⟨ρ', Hf', e, f, _⟩ => SqL.of (f.ex.exF _ _ (e _ _ h1))) (fun i y σ' H' hi p => turn h2 i y σ' H' hi p) (fun σ' H' p => fin σ' H' (by rw [← h2.len]; exact p))
  | non => cases el
  | bl _ => cases el
  | int _ => cases el
  | str _ => cases el
  | ty _ => cases el
  | fn _ => cases el
  | dic _ _ _ => cases el
  | obj _ _ _ => cases el
  | exc _ _ _ => cases el
  | exc0 _ _ => cases el
end
end G

set_option Elab.async false
set_option linter.all false
set_option maxRecDepth 100000
set_option maxHeartbeats 4000000
/-! DErr: own errors made, raised, caught, over data. -/
namespace G
open PySem PySem.Spec PyProof.Rows L2
/-! ### __init__ of an error that keeps its arguments -/
structure Inited (H H2 : Hp) (a C d : Addr) (fs : List (Str × V)) : Prop where
  obj : H2 a = some (exo a C (some d))
  dct : H2 d = some (exd d fs)
  new : H d = none
  ne : d ≠ a
  old : ∀ b, b ≠ a → b ≠ d → H2 b = H b
def spInit (C : Addr) (names : List Str) : Sp := fun vs H Q _ => ∃ (a : Addr) (ys : List V), vs = .ref a :: ys ∧ ys.length = names.length ∧ H a = some (exo a C none) ∧ ∀ d H2, Inited H H2 a C d (names.zip ys).reverse → Q .non H2
section
variable {K : PySem.W.Frag} {f : Str} {i : Nat} {y : V} {a C d : Addr} {σ : L2.St} {H H0 : Hp} {D : Ends} {fs : List (Str × V)} {ts : TS}
theorem ost_first (h0 : σ[0]? = some (some (.ref a))) (hi : σ[i]? = some (some y)) (T : OexC K C) (n : PySem.W.findIn K (.ref C) f = some none) (hH : H a = some (exo a C none)) (k : ∀ d H2, Inited H H2 a C d [(f, y)] → D.nx σ H2) :
    tOst K f (tVar 0) (tVar i) D σ H := by
  refine ⟨y, hi, _, h0, a, C, rfl, T, n, Or.inl ⟨hH, fun d hd ne => ?_⟩⟩
  refine k d _ { obj := upd_same, dct := ?_, new := hd, ne := ne, old := fun b h1 h2 => ?_ }
  · rw [upd_ne ne, upd_same]
  · rw [upd_ne h1, upd_ne h2]
theorem ost_next (h0 : σ[0]? = some (some (.ref a))) (hi : σ[i]? = some (some y)) (T : OexC K C) (n : PySem.W.findIn K (.ref C) f = some none) (J : Inited H0 H a C d fs) (hl : fs.length ≤ 900) (k : ∀ H2, Inited H0 H2 a C d ((f, y) :: fs) → D.nx σ H2) :
    tOst K f (tVar 0) (tVar i) D σ H := by
  refine ⟨y, hi, _, h0, a, C, rfl, T, n, Or.inr ⟨d, fs, J.obj, J.dct, hl, ?_⟩⟩
  refine k _ { obj := ?_, dct := upd_same, new := J.new, ne := J.ne, old := fun b h1 h2 => ?_ }
  · rw [upd_ne J.ne.symm]; exact J.obj
  · rw [upd_ne h2]; exact J.old b h1 h2
end
section
variable {P : Program} {w : World} {K : PySem.W.Frag} {mg : Str → Option Value} {base : Heap} {C fI : Addr} {fd : FuncData} {qual a1 a2 a3 f1 f2 f3 : Str} {st : Stmt}
/-- self.f1 = a1 -/
theorem init1 (F : Fun K "__init__" qual st fI fd) (S : FnScope (["self", a1] : List Str) (["self", a1] : List Str) (defScope st)) (T : OexC K C) (n1 : PySem.W.findIn K (.ref C) f1 = some none)
    (body : ∀ (cdv : Value) (A : Around) (outer : List Env) (s : Shared) (H : Hp) (E : XK), PSs (cxOf CX0 P w K mg base (["self", a1] : List Str) qual (defScope st) fI cdv A outer s H E).nox (defBody st) (tOst K f1 (tVar 0) (tVar 1))) : FnOk P w K mg base CX0 1 fI fd ["self", a1] (spInit C [f1]) := by
  refine F.ok S (fun vs H Q E h => ?_) (fun cdv A outer s H vs Q E hr h => ?_)
  · obtain ⟨a, ys, rfl, hl, _⟩ := h
    simpa using hl
  · obtain ⟨a, ys, rfl, hl, hH, k⟩ := h
    match ys, hl with
    | [y], _ =>
      refine ⟨_, body cdv A outer s H E, ?_⟩
      exact ost_first (C := C) rfl rfl T n1 hH fun d H2 J => k d H2 J
theorem init2 (F : Fun K "__init__" qual st fI fd) (S : FnScope (["self", a1, a2] : List Str) (["self", a1, a2] : List Str) (defScope st)) (T : OexC K C) (n1 : PySem.W.findIn K (.ref C) f1 = some none) (n2 : PySem.W.findIn K (.ref C) f2 = some none)
    (body : ∀ (cdv : Value) (A : Around) (outer : List Env) (s : Shared) (H : Hp) (E : XK), PSs (cxOf CX0 P w K mg base (["self", a1, a2] : List Str) qual (defScope st) fI cdv A outer s H E).nox (defBody st) (tSeq (tOst K f1 (tVar 0) (tVar 1)) (tOst K f2 (tVar 0) (tVar 2)))) : FnOk P w K mg base CX0 1 fI fd ["self", a1, a2] (spInit C [f1, f2]) := by
  refine F.ok S (fun vs H Q E h => ?_) (fun cdv A outer s H vs Q E hr h => ?_)
  · obtain ⟨a, ys, rfl, hl, _⟩ := h
    simpa using hl
  · obtain ⟨a, ys, rfl, hl, hH, k⟩ := h
    match ys, hl with
    | [y, z], _ =>
      refine ⟨_, body cdv A outer s H E, ?_⟩
      exact ost_first (C := C) rfl rfl T n1 hH fun d H2 J => ost_next (C := C) rfl rfl T n2 J (by show 1 ≤ 900; decide) fun H3 J3 => k d H3 J3
theorem init3 (F : Fun K "__init__" qual st fI fd) (S : FnScope (["self", a1, a2, a3] : List Str) (["self", a1, a2, a3] : List Str) (defScope st)) (T : OexC K C) (n1 : PySem.W.findIn K (.ref C) f1 = some none) (n2 : PySem.W.findIn K (.ref C) f2 = some none) (n3 : PySem.W.findIn K (.ref C) f3 = some none)
    (body : ∀ (cdv : Value) (A : Around) (outer : List Env) (s : Shared) (H : Hp) (E : XK), PSs (cxOf CX0 P w K mg base (["self", a1, a2, a3] : List Str) qual (defScope st) fI cdv A outer s H E).nox (defBody st) (tSeq (tOst K f1 (tVar 0) (tVar 1)) (tSeq (tOst K f2 (tVar 0) (tVar 2)) (tOst K f3 (tVar 0) (tVar 3))))) : FnOk P w K mg base CX0 1 fI fd ["self", a1, a2, a3] (spInit C [f1, f2, f3]) := by
  refine F.ok S (fun vs H Q E h => ?_) (fun cdv A outer s H vs Q E hr h => ?_)
  · obtain ⟨a, ys, rfl, hl, _⟩ := h
    simpa using hl
  · obtain ⟨a, ys, rfl, hl, hH, k⟩ := h
    match ys, hl with
    | [y, z, u], _ =>
      refine ⟨_, body cdv A outer s H E, ?_⟩
      exact ost_first (C := C) rfl rfl T n1 hH fun d H2 J => ost_next (C := C) rfl rfl T n2 J (by show 1 ≤ 900; decide) fun H3 J3 => ost_next (C := C) rfl rfl T n3 J3 (by show 2 ≤ 900; decide) fun H4 J4 => k d H4 J4
end

/-! ### raise -/
def tRaise (t : L2.St → Hp → XK → Prop) (W : WX) : TS := fun _ σ H => t σ H fun cls d H' => W cls d σ H'
theorem ps_raiseN {X : Cx} {W : WX} {e : Expr} {t : L2.St → Hp → XK → Prop} {pos : Pos} (hc : X.calm = true) (tk : Takes X W) (he : PMk X e t) : PS X (.Raise (some e) none pos) (tRaise t W) := ps_raise hc tk he
/-- C(), C a class without an __init__ of its own -/
def tMk0 (C : Addr) : L2.St → Hp → XK → Prop := fun _ H Q => Q (.ref C) none H
theorem pmk_none {X : Cx} {C : Addr} {x : Str} {p pos : Pos} (q : PySem.W.excIn X.K C [.type "ValueError", .type "Exception", .type "BaseException", .type "object"] "ValueError.__new__" = true) (gC : X.mg x = some (.ref C)) (kC : PySem.W.keepIn X.K (.ref C) = true) (r : Raises X (.ref C)) (hg : Gl X x)
    (hdb : (x == ("__debug__" : Str)) = false := by decide) : PMk X (.Call (.Name x p) [] [] pos) (tMk0 C) := by
  intro pins s σ H Q I h
  refine wpAny_Call_Name_kw (ld_glob I hg gC ?_ hdb)
  refine PySem.W.callWith_K0 I.kIn kC ?_
  obtain ⟨bm, N, nm, qn, bs, hdct, sn, sub, ab, col, dd, k0, k1, k2, k3, k5, mN, hC, hN, hni, T⟩ := exc_obj I.kIn q
  refine wpAny_call_exc_subT PySem.F.excBase_ValueError T hC hN hni (fun h' e hm => ?_) (by show 0 ≤ sizeLine; exact Nat.zero_le _)
  exact mk_of I hm r h (I.hok.gone hm.new)
section
variable {K : PySem.W.Frag} {b : Bs} {ρ : List Sl} {ta : TA} {nx bk ct : List Sl → Prop} {rt : D → Prop} {E : XK} {X : Addr → List (Str × D) → Prop} {C : Addr}
theorem RpA.rev {H : Hp} : ∀ {vs : List V} {ds : List D}, RpA K H vs ds → RpA K H vs.reverse ds.reverse
  | _, _, .nil => .nil
  | _, _, .cons q r => by
    rw [List.reverse_cons, List.reverse_cons]
    exact r.rev.app (.cons q .nil)
theorem zip_keys {α : Type} : ∀ (ns : List Str) (xs : List α), xs.length = ns.length → (ns.zip xs).map (·.1) = ns ∧ (ns.zip xs).map (·.2) = xs
  | [], [], _ => ⟨rfl, rfl⟩
  | n :: ns, x :: xs, h => by
    obtain ⟨h1, h2⟩ := zip_keys ns xs (by simpa using h)
    exact ⟨by rw [List.zip_cons_cons, List.map_cons, h1], by rw [List.zip_cons_cons, List.map_cons, h2]⟩
  | [], _ :: _, h => by simp at h
  | _ :: _, [], h => by simp at h
theorem ds_raise {names : List Str} (hE : EL K b ρ (fun _ => E) X) (h : DA K b ρ ta fun ds => ds.length = names.length ∧ names.length ≤ 10 ∧ X C (names.zip ds).reverse) : DS K b ρ (tRaise (tMkO C (spInit C names) [] ta) (fun cls d _ H => E cls d H)) nx rt bk ct := fun Hf H σ D fr n r bk ct => by
  refine h Hf H σ _ fr fun vs ds Hf1 H1 e1 f1 r1 ⟨hl, hz, q⟩ => ?_
  have hv : vs.length = names.length := by rw [r1.len]; exact hl
  refine ⟨by omega, fun a ha => ?_⟩
  refine ⟨a, vs, by rw [List.append_nil], hv, upd_same, fun d H2 J => ⟨rfl, d, _, J.obj, J.dct, ?_, ?_⟩⟩
  · have q := J.new
    rw [upd_ne J.ne] at q
    exact q
  · have hd : H1 d = none := by
      have q := J.new
      rw [upd_ne J.ne] at q
      exact q
    have eq : upd (del H2 a) d (.xd (names.zip vs).reverse) = upd H1 d (.xd (names.zip vs).reverse) := by
      funext x
      by_cases z : x = d
      · subst z; rw [upd_same, upd_same]
      · rw [upd_ne z, upd_ne z]
        by_cases y : x = a
        · subst y; rw [del_same]; exact ha.symm
        · rw [del_ne y, J.old x y z, upd_ne y]
    rw [eq]
    refine hE _ _ σ (f1.put hd) C (names.zip ds).reverse (some d) ⟨_, upd_same, ?_, ?_⟩ q
    · rw [List.map_reverse, List.map_reverse, (zip_keys names vs hv).1, (zip_keys names ds hl).1]
    · rw [List.map_reverse, List.map_reverse, (zip_keys names vs hv).2, (zip_keys names ds hl).2]
      exact (r1.up (Ex.new (f1.ex.exF.no hd))).rev
theorem ds_raise0 (hE : EL K b ρ (fun _ => E) X) (h : X C []) : DS K b ρ (tRaise (tMk0 C) (fun cls d _ H => E cls d H)) nx rt bk ct := fun Hf H σ D fr n r bk ct =>
  hE Hf H σ fr C [] none rfl h
end

/-! ### try .. except C as n -/
/-- b' is b, what stands now readable for good -/
structure Sub (K : PySem.W.Frag) (b b' : Bs) : Prop where
  fm : ∀ Hf H σ ρ, Fm K b' Hf H σ ρ → Fm K b Hf H σ ρ
  ex : ∀ Hf H, Exit K b' Hf H → Exit K b Hf H
  M : b'.M = b.M
  T : b'.T = b.T
theorem Sub.refl {K : PySem.W.Frag} {b : Bs} : Sub K b b := ⟨fun _ _ _ _ h => h, fun _ _ h => h, rfl, rfl⟩
theorem EL.sub {K : PySem.W.Frag} {b b' : Bs} {ρ : List Sl} {E : L2.St → XK} {X : Addr → List (Str × D) → Prop} (s : Sub K b b') (h : EL K b ρ E X) : EL K b' ρ E X := fun Hf H σ fr => h Hf H σ (s.1 _ _ _ _ fr)
theorem Fm.rebase {K : PySem.W.Frag} {b : Bs} {Hf H : Hp} {σ : L2.St} {ρ : List Sl} (fr : Fm K b Hf H σ ρ) : Fm K { b with F := Hf } Hf H σ ρ ∧ Sub K b { b with F := Hf } ∧ (∀ Hf' H', Exit K { b with F := Hf } Hf' H' → Ex Hf Hf') := by
  have back : ∀ Hf' H', Exit K { b with F := Hf } Hf' H' → Exit K b Hf' H' := fun Hf' H' x => { exF := x.exF, ex0 := fr.ex.ex0.trans x.ex0, exB := x.exB, frz := fun a h1 h2 => x.frz a h1 (fr.ex.frz a h1 h2), pens := x.pens, tabs := x.tabs }
  refine ⟨{ ex := { exF := fr.ex.exF, ex0 := Ex.refl _, exB := fr.ex.exB, frz := fun a _ h => h, pens := fr.ex.pens, tabs := fr.ex.tabs }, len := fr.len, sl := fr.sl, mine := fr.mine, sep := fr.sep }, ⟨fun Hf' H' σ' ρ' f => ?_, back, rfl, rfl⟩, fun Hf' H' x => x.ex0⟩
  exact { ex := back _ _ f.ex, len := f.len, sl := f.sl, mine := f.mine, sep := f.sep }
def tTryAs (K : PySem.W.Frag) (c : Value) (i : Nat) (tb : WX → TS) (ts : Addr → Value → Option Addr → TS) (Wout : WX) : TS := fun D σ H => tb (wAs K c i ts Wout D) D σ H
theorem ds_try {K : PySem.W.Frag} {b : Bs} {ρ : List Sl} {nx bk ct : List Sl → Prop} {rt : D → Prop} {c : Value} {i : Nat} {tb : WX → TS} {ts : Addr → Value → Option Addr → TS} {Wout : WX} (Xb : Addr → List (Str × D) → Prop) (hi : ∀ d, ρ[i]? ≠ some (.ow d))
    (hb : ∀ (b' : Bs) (W : WX), Sub K b b' → EL K b' ρ (fun σ => WE W σ) Xb → DS K b' ρ (tb W) nx rt bk ct)
    (hs : ∀ (b' : Bs) (C : Addr) (fs : List (Str × D)), Sub K b b' → Xb C fs → PySem.W.exmOne K (.ref C) c = some true ∧ ∀ (a : Addr) (d : Option Addr), DS K b' (ρ.set i (.sh (.exc a d C fs))) (ts a (.ref C) d) (fun ρ2 => nx (ρ2.set i .no)) rt (fun ρ2 => bk (ρ2.set i .no)) (fun ρ2 => ct (ρ2.set i .no))) :
    DS K b ρ (tTryAs K c i tb ts Wout) nx rt bk ct := fun Hf H σ D fr n r bk ct => by
  obtain ⟨fr', sub, lo⟩ := fr.rebase
  refine hb { b with F := Hf } (wAs K c i ts Wout D) sub (fun Hf1 H1 σ1 f1 C fs d hx q => ?_) Hf H σ D fr' (fun ρ2 σ2 Hf2 H2 e2 f2 q2 => n ρ2 σ2 Hf2 H2 e2 (sub.1 _ _ _ _ f2) q2) (fun v d Hf2 H2 e2 x2 r2 q2 => r v d Hf2 H2 e2 (sub.2 _ _ x2) r2 q2)
    (fun ρ2 σ2 Hf2 H2 e2 f2 q2 => bk ρ2 σ2 Hf2 H2 e2 (sub.1 _ _ _ _ f2) q2) (fun ρ2 σ2 Hf2 H2 e2 f2 q2 => ct ρ2 σ2 Hf2 H2 e2 (sub.1 _ _ _ _ f2) q2)
  obtain ⟨hm, hs⟩ := hs { b with F := Hf } C fs sub q
  have e1 := lo _ _ f1.ex
  refine ⟨true, hm, fun _ a ha => ?_, fun z => nomatch z⟩
  refine hs a d Hf1 H1 _ _ (f1.set (hx.rp a C)) (fun ρ2 σ2 Hf2 H2 e2 f2 q2 => ?_) (fun v d' Hf2 H2 e2 x2 r2 q2 => r v d' Hf2 H2 (e1.trans e2) (sub.2 _ _ x2) r2 q2) (fun ρ2 σ2 Hf2 H2 e2 f2 q2 => ?_) (fun ρ2 σ2 Hf2 H2 e2 f2 q2 => ?_)
  · exact n _ _ Hf2 H2 (e1.trans e2) (sub.1 _ _ _ _ f2).drop q2
  · exact bk _ _ Hf2 H2 (e1.trans e2) (sub.1 _ _ _ _ f2).drop q2
  · exact ct _ _ Hf2 H2 (e1.trans e2) (sub.1 _ _ _ _ f2).drop q2
end G

set_option Elab.async false
set_option linter.all false
set_option maxRecDepth 100000
set_option maxHeartbeats 4000000
/-! DFacts: what the written part says of the package's error classes, and what follows. -/
namespace G
open PySem PySem.Spec PyProof.Rows L2
abbrev veT : List Value := [.type "ValueError", .type "Exception", .type "BaseException", .type "object"]
/-- an error class at C with the chain bm behind it -/
structure ErrK (K : PySem.W.Frag) (C : Addr) (bm : List Value) : Prop where
  cls : ∃ nm q N bs sn sub ab col dd k0 k1 k2 k3 k5, K.lookup C = some (excClassObj nm q C N bs bm true sn sub ab col dd k0 k1 k2 k3 k5 "ValueError.__new__")
  sa : PySem.W.findIn K (.ref C) "__setattr__" = some (some (.builtin "object.__setattr__"))
  ga : PySem.W.findIn K (.ref C) "__getattribute__" = some (some (.builtin "BaseException.__getattribute__"))
  gg : PySem.W.findIn K (.ref C) "__getattr__" = some none
  ka : PySem.W.findIn K (.ref C) "__class__" = some (some (.builtin "object.__class__"))
  kp : PySem.W.keepIn K (.ref C) = true
structure ErrB (K : PySem.W.Frag) : Prop where
  kn : PySem.W.specialIn K (.builtin "object.__class__") "__get__" = some (some (.builtin "getset_descriptor.__get__"))
  kt : PySem.W.takesIn K (.builtin "object.__class__") = some true
section
variable {K : PySem.W.Frag} {C G C' : Addr} {bm bm' : List Value}
theorem ErrK.data (h : ErrK K C bm) : ∃ cd, PySem.W.clsIn K C = some cd ∧ cd.mro = .ref C :: bm ∧ cd.hasDict = true := by
  obtain ⟨nm, q, N, bs, sn, sub, ab, col, dd, k0, k1, k2, k3, k5, e⟩ := h.cls
  refine ⟨{ name := nm, bases := bs, mro := .ref C :: bm, ns := N, qualname := q, hasDict := true, slotNames := sn, subclasses := sub, abstract := ab, collection := col, hasDel := false }, ?_, rfl, rfl⟩
  unfold PySem.W.clsIn
  rw [e]
theorem ErrK.ty (h : ErrK K C bm) : PySem.W.typeIn K (.ref C) = some (.type "type") := by
  obtain ⟨nm, q, N, bs, sn, sub, ab, col, dd, k0, k1, k2, k3, k5, e⟩ := h.cls
  show (K.lookup C).map (·.cls) = _
  rw [e]
  rfl
theorem ErrK.sub (h : ErrK K C bm) (c : Value) : PySem.W.subIn K (.ref C) c = some ((Value.ref C :: bm).contains c) := by
  obtain ⟨cd, e, m, _⟩ := h.data
  show PySem.W.mroIn K C c = _
  unfold PySem.W.mroIn
  rw [e]
  show (if cd.mro.isEmpty = true then none else some (cd.mro.contains c)) = _
  rw [m]
  rfl
theorem ErrK.dict (h : ErrK K C bm) : PySem.W.hasDictIn K C = true := by
  obtain ⟨cd, e, _, d⟩ := h.data
  unfold PySem.W.hasDictIn
  rw [e]
  simp [d]
theorem ErrK.xc (h : ErrK K C bm) (hb : ErrB K) (hv : PySem.HandSPX.refsVE bm = true) : XcC K C := by
  obtain ⟨cd, e, m, d⟩ := h.data
  have c1 : (Value.ref C :: bm).contains (.type "BaseException") = true := (PySem.HandSPX.refsVE_contains "BaseException" (.ref C :: bm) hv).trans (by decide +kernel)
  have c2 : (Value.ref C :: bm).contains (.type "object") = true := (PySem.HandSPX.refsVE_contains "object" (.ref C :: bm) hv).trans (by decide +kernel)
  refine { cl := by rw [e]; rfl, ga := h.ga, gg := h.gg, sb := by rw [h.sub, c1], hd := h.dict, ka := h.ka, kn := hb.kn, kt := hb.kt, km := ?_ }
  have := h.sub (.type "object")
  rw [c2] at this
  exact this
theorem ErrK.oex (h : ErrK K C bm) (hv : PySem.HandSPX.refsVE bm = true) : OexC K C := by
  have c1 : (Value.ref C :: bm).contains (.type "BaseException") = true := (PySem.HandSPX.refsVE_contains "BaseException" (.ref C :: bm) hv).trans (by decide +kernel)
  obtain ⟨nm, q, N, bs, sn, sub, ab, col, dd, k0, k1, k2, k3, k5, e⟩ := h.cls
  exact { cls := ⟨nm, q, N, bs, bm, sn, sub, ab, col, dd, k0, k1, k2, k3, k5, e, hv⟩, sa := h.sa, exC := by rw [h.sub, c1], tyC := h.ty, kC := h.kp }
theorem ErrK.raises (h : ErrK K C bm) (hv : PySem.HandSPX.refsVE bm = true) : PySem.W.subIn K (.ref C) (.type "BaseException") = some true := (h.oex hv).exC
/-- isinstance of an error of the class at C -/
theorem ErrK.kit (h : ErrK K C bm) (h' : ErrK K C' bm') : PySem.W.kitOne K (.ref C) (.ref C') = some ((Value.ref C :: bm).contains (.ref C')) := by
  unfold PySem.W.kitOne
  by_cases e : (Value.ref C == Value.ref C') = true
  · rw [if_pos e]
    have z : Value.ref C = Value.ref C' := beq_iff_eq.mp e
    rw [← z]
    simp
  · rw [if_neg e]
    obtain ⟨cd, e', _, _⟩ := h'.data
    show (if ((PySem.W.clsIn K C').isSome && PySem.W.typeIn K (.ref C') == some (.type "type")) = true then PySem.W.subIn K (.ref C) (.ref C') else none) = _
    rw [if_pos (by rw [e', h'.ty] <;> rfl), h.sub]
theorem ErrK.kitT (h : ErrK K C bm) (hv : PySem.HandSPX.refsVE bm = true) : PySem.W.kitOne K (.ref C) (.type "ValueError") = some true := by
  have c1 : (Value.ref C :: bm).contains (.type "ValueError") = true := (PySem.HandSPX.refsVE_contains "ValueError" (.ref C :: bm) hv).trans (by decide +kernel)
  unfold PySem.W.kitOne
  rw [if_neg (by simp)]
  show (if PySem.W.kitMeta "ValueError" = true then PySem.W.subIn K (.ref C) (.type "ValueError") else none) = _
  rw [if_pos (by decide +kernel), h.sub, c1]
theorem ErrK.exm (h : ErrK K C bm) (h' : ErrK K C' bm') (hv : PySem.HandSPX.refsVE bm' = true) : PySem.W.exmOne K (.ref C) (.ref C') = some ((Value.ref C :: bm).contains (.ref C')) := by
  obtain ⟨cd, e', _, _⟩ := h'.data
  show (if (PySem.W.subIn K (.ref C') (.type "BaseException") == some true) = true then (if ((PySem.W.clsIn K C').isSome && PySem.W.typeIn K (.ref C') == some (.type "type")) = true then PySem.W.subIn K (.ref C) (.ref C') else none) else none) = _
  rw [if_pos (by rw [h'.raises hv] <;> rfl), if_pos (by rw [e', h'.ty] <;> rfl), h.sub]
theorem contains_other (hne : C ≠ C') (hg : G ≠ C') : (Value.ref C :: .ref G :: veT).contains (.ref C') = false := by
  rw [List.contains_cons, List.contains_cons]
  have e1 : (Value.ref C' == Value.ref C) = false := by
    rw [beq_eq_false_iff_ne]
    exact fun z => hne (Value.ref.inj z).symm
  have e2 : (Value.ref C' == Value.ref G) = false := by
    rw [beq_eq_false_iff_ne]
    exact fun z => hg (Value.ref.inj z).symm
  rw [e1, e2]
  rfl
theorem contains_self : (Value.ref C :: .ref G :: veT).contains (.ref C) = true := by simp
theorem contains_base : (Value.ref C :: .ref G :: veT).contains (.ref G) = true := by simp
theorem vees : PySem.HandSPX.refsVE (.ref G :: veT) = true := by show PySem.HandSPX.refsVE veT = true; decide +kernel
theorem vees0 : PySem.HandSPX.refsVE veT = true := by decide +kernel
end
end G

set_option Elab.async false
set_option linter.all false
set_option maxRecDepth 100000
set_option maxHeartbeats 4000000
/-! DOps2: + of any kind, // and % of great ints, list(..), tuple(..), small dicts; the pen. -/
namespace G
open PySem PySem.Spec PyProof.Rows L2
def rAddS : R2 := fun x y H Q => ∃ i j, x = .str i ∧ y = .str j ∧ i.length + j.length ≤ sizeLine ∧ Q (.str (i ++ j)) H
def rAddG (K : PySem.W.Frag) : R2 := fun x y H Q => rI0 (fun i j => .int (i + j)) x y H Q ∨ rAddS x y H Q ∨ rCat x y H Q ∨ rCatT K x y H Q
theorem op_addG {X : Cx} : OpR X (binaryOp .Add) (rAddG X.K) := op_add.or ((show OpR X (binaryOp .Add) rAddS from op_add_str).or (op_cat.or op_catT))
def CDivA (_ j : Int) : Prop := j ≠ 0 ∧ j.natAbs.log2 < 9000
theorem op_fdivG {X : Cx} : OpR X (binaryOp .FloorDiv) (rI CDivA fun i j => .int (i.fdiv j)) := opI fun _ _ _ _ _ _ _ hc q => floordiv_int hc.1 q (.inl (PyProof.noPylong_of_log2 hc.2))
theorem op_mulG {X : Cx} : OpR X (binaryOp .Mult) (rI IntMulOk fun i j => .int (i * j)) := opI fun _ _ _ _ _ _ _ hc q => mul_int q hc
theorem mul_small {i j : Int} (h : CMul i j) : IntMulOk i j := h.ok
theorem mul_wide {i j : Int} (h : CMulW i j) : IntMulOk i j := h.ok
section
variable {K : PySem.W.Frag} {b : Bs} {ρ : List Sl} {ta tb te tc : TE} {tr : TA} {Q : D → Prop}
theorem DE.orL {r r' : R2} (h : DE K b ρ (tOp r ta tb) Q) : DE K b ρ (tOp (fun x y H Q => r x y H Q ∨ r' x y H Q) ta tb) Q → True := fun _ => trivial
theorem de_addI (h : DE K b ρ ta fun x => DE K b ρ tb fun y => ∃ i j, x = .int i ∧ y = .int j ∧ Q (.int (i + j))) : DE K b ρ (tOp (rAddG K) ta tb) Q :=
  de_op (h.imp fun x hx => hx.imp fun y ⟨i, j, e1, e2, q⟩ Hf H σ k v u f rv ru c => by
    subst e1; subst e2
    exact Or.inl ⟨i, j, rv.int_inv, ru.int_inv, c _ _ Hf H Up.refl f (.int _) q⟩)
theorem de_addS (h : DE K b ρ ta fun x => DE K b ρ tb fun y => ∃ i j, x = .str i ∧ y = .str j ∧ i.length + j.length ≤ 100000 ∧ Q (.str (i ++ j))) : DE K b ρ (tOp (rAddG K) ta tb) Q :=
  de_op (h.imp fun x hx => hx.imp fun y ⟨i, j, e1, e2, hz, q⟩ Hf H σ k v u f rv ru c => by
    subst e1; subst e2
    exact Or.inr (Or.inl ⟨i, j, rv.str_inv, ru.str_inv, small_line hz, c _ _ Hf H Up.refl f (.str _) q⟩))
theorem dn_addL {R : List D → Prop} (h : DE K b ρ ta fun x => DE K b ρ tb fun y => ∃ l m, x = .lst l ∧ y = .lst m ∧ l.length + m.length ≤ 16000 ∧ R (l ++ m)) : DN K b ρ (tOp (rAddG K) ta tb) R := fun Hf H σ k fr c => by
  refine h Hf H σ _ fr fun v x Hf1 H1 e1 f1 r1 q1 => ?_
  refine q1 Hf1 H1 σ _ f1 fun u y Hf2 H2 e2 f2 r2 ⟨l, m, ex, ey, hz, q⟩ => ?_
  subst ex
  subst ey
  cases r1 with
  | lst h1 a1 =>
    cases r2 with
    | lst h2 a2 =>
      refine Or.inr (Or.inr (Or.inl ⟨_, _, _, _, rfl, rfl, f2.ex.exF _ _ (e2.1 _ _ h1), f2.ex.exF _ _ h2, small_line (by rw [a1.len, a2.len]; omega), fun p hp => ?_⟩))
      exact c p _ _ Hf2 H2 (e1.trans e2) f2 hp ((a1.up e2.1).app a2) q
theorem dn_addL_own {R : List D → Prop} {i : Nat} {l : List D} (hi : ρ[i]? = some (.ow l)) (h : DE K b ρ tb fun y => ∃ m, y = .lst m ∧ l.length + m.length ≤ 16000 ∧ R (l ++ m)) : DN K b ρ (tOp (rAddG K) (tVar i) tb) R := fun Hf H σ k fr c => by
  obtain ⟨a, xs, ho, h1, h2, h3⟩ := own_at fr hi
  refine ⟨_, ho, ?_⟩
  refine h Hf H σ _ fr fun u y Hf2 H2 e2 f2 r2 ⟨m, ey, hz, q⟩ => ?_
  subst ey
  obtain ⟨a', ys, ho', k1, k2, k3⟩ := own_at f2 hi
  rw [ho] at ho'
  cases ho'
  cases r2 with
  | lst h4 a4 =>
    refine Or.inr (Or.inr (Or.inl ⟨_, _, _, _, rfl, rfl, k2, f2.ex.exF _ _ h4, small_line (by rw [k3.len, a4.len]; omega), fun p hp => ?_⟩))
    exact c p _ _ Hf2 H2 e2 f2 hp (k3.app a4) q
theorem de_addT (h : DE K b ρ ta fun x => DE K b ρ tb fun y => ∃ l m, x = .tup l ∧ y = .tup m ∧ l ≠ [] ∧ l.length + m.length ≤ 16000 ∧ Q (.tup (l ++ m))) : DE K b ρ (tOp (rAddG K) ta tb) Q := fun Hf H σ k fr c => by
  refine h Hf H σ _ fr fun v x Hf1 H1 e1 f1 r1 q1 => ?_
  refine q1 Hf1 H1 σ _ f1 fun u y Hf2 H2 e2 f2 r2 ⟨l, m, ex, ey, hn, hz, q⟩ => ?_
  subst ex
  subst ey
  cases r1 with
  | tup h1 a1 =>
    cases r2 with
    | tup h2 a2 =>
      refine Or.inr (Or.inr (Or.inr ⟨_, _, _, _, rfl, rfl, f2.ex.exF.st (e2.1.st h1), f2.ex.exF.st h2, fun z => hn ?_, small_line (by rw [a1.len, a2.len]; omega), fun z => ?_, fun z p hp => ?_⟩))
      · have q := a1.len
        rw [z] at q
        exact List.eq_nil_of_length_eq_zero q.symm
      · subst z
        cases a2
        rw [List.append_nil] at q
        exact c _ _ Hf2 H2 (e1.trans e2) f2 (.tup (e2.1.st h1) (a1.up e2.1)) q
      · have n := f2.ex.exF.no hp
        exact c _ _ _ _ ((e1.trans e2).trans (Up.new hp n)) (f2.put hp) (Rp.tup (SqT.of upd_same) (RpA.up (Ex.new n) ((a1.up e2.1).app a2))) q
/-! ### list(x), tuple(x) -/
def rListV (K : PySem.W.Frag) : List V → Hp → VK → Prop := fun xs H Q => ∃ p ys, xs = [.ref p] ∧ (SqL K H p ys ∨ SqT K H p ys) ∧ ∀ l, H l = none → Q (.ref l) (upd H l (.lst ys))
theorem call_listV {X : Cx} : CallR X (.type "list") (rListV X.K) := call_list_of
def rTupV (K : PySem.W.Frag) : List V → Hp → VK → Prop := fun xs H Q => ∃ p ys, xs = [.ref p] ∧ ((SqL K H p ys ∧ ∀ l, H l = none → Q (.ref l) (upd H l (.tup ys))) ∨ (SqT K H p ys ∧ Q (.ref p) H))
theorem call_tupleV {X : Cx} : CallR X (.type "tuple") (rTupV X.K) := call_tuple_of
theorem dn_list {R : List D → Prop} (h : DE K b ρ ta fun x => ∃ l, seqD x = some l ∧ R l) : DN K b ρ (tCB (rListV K) (tCons ta tNil)) R := fun Hf H σ k fr c => by
  refine h Hf H σ _ fr fun v x Hf1 H1 e1 f1 r1 ⟨l, el, q⟩ => ?_
  cases r1 with
  | tup h1 a1 =>
    cases el
    exact ⟨_, _, rfl, Or.inr (f1.ex.exF.st h1), fun p hp => c p _ _ Hf1 H1 e1 f1 hp a1 q⟩
  | lst h1 a1 =>
    cases el
    exact ⟨_, _, rfl, Or.inl (SqL.of (f1.ex.exF _ _ h1)), fun p hp => c p _ _ Hf1 H1 e1 f1 hp a1 q⟩
  | non => cases el
  | bl _ => cases el
  | int _ => cases el
  | str _ => cases el
  | ty _ => cases el
  | fn _ => cases el
  | dic _ _ _ => cases el
  | obj _ _ _ => cases el
  | exc _ _ _ => cases el
  | exc0 _ _ => cases el
theorem de_tuple (h : DE K b ρ ta fun x => ∃ l, seqD x = some l ∧ Q (.tup l)) : DE K b ρ (tCB (rTupV K) (tCons ta tNil)) Q := fun Hf H σ k fr c => by
  refine h Hf H σ _ fr fun v x Hf1 H1 e1 f1 r1 ⟨l, el, q⟩ => ?_
  cases r1 with
  | tup h1 a1 =>
    cases el
    exact ⟨_, _, rfl, Or.inr ⟨f1.ex.exF.st h1, c _ _ Hf1 H1 e1 f1 (.tup h1 a1) q⟩⟩
  | lst h1 a1 =>
    cases el
    refine ⟨_, _, rfl, Or.inl ⟨SqL.of (f1.ex.exF _ _ h1), fun p hp => ?_⟩⟩
    have n := f1.ex.exF.no hp
    exact c _ _ _ _ (e1.trans (Up.new hp n)) (f1.put hp) (Rp.tup (SqT.of upd_same) (RpA.up (Ex.new n) a1)) q
  | non => cases el
  | bl _ => cases el
  | int _ => cases el
  | str _ => cases el
  | ty _ => cases el
  | fn _ => cases el
  | dic _ _ _ => cases el
  | obj _ _ _ => cases el
  | exc _ _ _ => cases el
  | exc0 _ _ => cases el
/-- tuple of a list that is made for it -/
theorem de_tupN {l : List D → Prop} (h : DN K b ρ ta fun l => Q (.tup l)) : DE K b ρ (tCB (rTupV K) (tCons ta tNil)) Q :=
  de_tuple (de_new (by
    intro Hf H σ k fr c
    refine h Hf H σ k fr fun p xs ds Hf' H' e f hp r q => ?_
    exact c p xs ds Hf' H' e f hp r ⟨ds, rfl, q⟩))
/-- an object that is being filled -/
theorem Fm.lay {Hf H : Hp} {σ : L2.St} (fr : Fm K b Hf H σ ρ) {p : Addr} {o : HO} (hp : H p = none) : Fm K b Hf (upd H p o) σ ρ := by
  refine fr.step { exF := fr.ex.exF.trans (Ex.new hp), ex0 := fr.ex.ex0, exB := fr.ex.exB.trans (Ex.new hp), frz := fr.ex.frz, pens := fun q hq => ?_, tabs := fun q hq => ?_ } (Ex.refl _) fun a xs h1 h2 _ _ => ⟨h2, ?_⟩
  · obtain ⟨h1, h2, ob, h3, h4⟩ := fr.ex.pens q hq
    exact ⟨h1, h2, ob, (upd_ne (ne_of_none h3 hp)).trans h3, h4⟩
  · obtain ⟨h1, h2, h3, h4⟩ := fr.ex.tabs q hq
    exact ⟨h1, h2, h3, h4.up (Ex.refl _) (upd_ne (h4.ne (Or.inl hp)))⟩
  · exact (upd_ne (ne_of_none h1 hp)).trans h1
theorem Fm.fill {Hf H : Hp} {σ : L2.St} (fr : Fm K b Hf H σ ρ) {p : Addr} {o1 o : HO} (hp : H p = some o1) (hn : ∀ xs, o1 ≠ .lst xs) (hn2 : ∀ ps, o1 ≠ .tbl ps) (hf : Hf p = none) (hb : b.B p = none) (hm : p ∉ b.M) : Fm K b (upd Hf p o) (upd H p o) σ ρ := by
  have e := Ex.new (o := o) hf
  refine fr.step { exF := fr.ex.exF.up, ex0 := fr.ex.ex0.trans e, exB := fun a u h => ?_, frz := fun a h1 h2 => ?_, pens := fun q hq => ?_, tabs := fun q hq => ?_ } e fun a xs h1 h2 _ _ => ?_
  · rw [upd_ne (ne_of_none h hb)]; exact fr.ex.exB a u h
  · rw [upd_ne (fun z => h1 (by rw [z]; exact hb))]; exact fr.ex.frz a h1 h2
  · obtain ⟨h1, h2, ob, h3, h4⟩ := fr.ex.pens q hq
    have n : q ≠ p := fun z => hm (by rw [← z]; exact hq)
    exact ⟨by rw [upd_ne n]; exact h1, h2, ob, by rw [upd_ne n]; exact h3, h4.up e⟩
  · obtain ⟨h1, h2, h3, h4⟩ := fr.ex.tabs q hq
    have n : q.1 ≠ p := fun z => by
      obtain ⟨ps, h5, _⟩ := h4
      rw [z, hp] at h5
      exact hn2 ps (Option.some.inj h5)
    exact ⟨by rw [upd_ne n]; exact h1, h2, h3, h4.up e (upd_ne n)⟩
  · have n : a ≠ p := fun z => by
      rw [z, hp] at h1
      exact hn xs (Option.some.inj h1)
    rw [upd_ne n, upd_ne n]
    exact ⟨h2, h1⟩
/-- {'k': v} -/
theorem de_disp1 {x : Str} (h : DE K b ρ ta fun d => Q (.dic [(Sum.inr x, d)])) : DE K b ρ (tDisp [(tC (.str x), ta)]) Q := fun Hf H σ k fr c => by
  intro p hp
  have np := fr.ex.exF.no hp
  have nb := fr.ex.exB.no hp
  have nm : p ∉ b.M := fun z => by
    obtain ⟨_, _, o, h3, _⟩ := fr.ex.pens p z
    rw [hp] at h3; cases h3
  show ta σ (upd H p (.dK [])) _
  refine h Hf _ σ _ (fr.lay hp) fun v d Hf1 H1 e1 f1 r1 q => ?_
  have nt : ¬ b.mt p := fun z => z.elim nm fun z => by
    obtain ⟨q, hq, e⟩ := List.mem_map.mp z
    obtain ⟨_, _, _, h4⟩ := fr.ex.tabs q hq
    exact h4.ne (Or.inl hp) e
  obtain ⟨k1, k2⟩ := e1.2 p _ upd_same nt
  refine ⟨k1, [(Sum.inr x, v)], rfl, by show 1 ≤ 15; decide, ?_⟩
  have m : mergeK [] [((Sum.inr x : Key), v)] = [((Sum.inr x : Key), v)] := rfl
  rw [m]
  have n1 := k2 np
  refine c _ _ (upd Hf1 p (.dK [(Sum.inr x, v)])) _ ⟨e1.1.trans (Ex.new n1), fun a o ha hm => ?_⟩ (f1.fill k1 (fun xs z => by cases z) (fun xs z => by cases z) n1 nb nm) (Rp.dic upd_same rfl (.cons (r1.up (Ex.new n1)) .nil)) q
  have n : a ≠ p := ne_of_none ha hp
  obtain ⟨z1, z2⟩ := e1.2 a o (by rw [upd_ne n]; exact ha) hm
  rw [upd_ne n, upd_ne n]
  exact ⟨z1, z2⟩
end
end G

set_option Elab.async false
set_option linter.all false
set_option maxRecDepth 100000
set_option maxHeartbeats 4000000
/-! DPen: == and != of any kind; the pen: made, drawn from. -/
namespace G
open PySem PySem.Spec PyProof.Rows L2
def rEqG (K : PySem.W.Frag) : R2 := fun x y H Q => rEq x y H Q ∨ rEqD K x y H Q
def rNeG (K : PySem.W.Frag) : R2 := fun x y H Q => rNe x y H Q ∨ rNeD K x y H Q
theorem op_eqG {X : Cx} (hu : X.A.units + 64 < cLine) : OpR X (compareOp .Eq) (rEqG X.K) := op_eq.or (op_eqD hu)
theorem op_neG {X : Cx} (hu : X.A.units + 64 < cLine) : OpR X (compareOp .NotEq) (rNeG X.K) := op_ne.or (op_neD hu)
section
variable {K : PySem.W.Frag} {b : Bs} {ρ : List Sl} {ta tb te tc : TE} {tr : TA} {Q : D → Prop}
theorem de_eqI (h : DE K b ρ ta fun x => DE K b ρ tb fun y => ∃ i j, x = .int i ∧ y = .int j ∧ Q (.bl (decide (i = j)))) : DE K b ρ (tOp (rEqG K) ta tb) Q :=
  de_op (h.imp fun x hx => hx.imp fun y ⟨i, j, e1, e2, q⟩ Hf H σ k v u f rv ru c => by
    subst e1; subst e2
    have a := rv.int_inv; subst a
    have a := ru.int_inv; subst a
    refine Or.inl ⟨rfl, ?_⟩
    have e : decide (V.int i = V.int j) = decide (i = j) := by rw [dec_int]; exact (Bool.beq_eq_decide_eq i j)
    rw [e]
    exact c _ _ Hf H Up.refl f (.bl _) q)
theorem de_neI (h : DE K b ρ ta fun x => DE K b ρ tb fun y => ∃ i j, x = .int i ∧ y = .int j ∧ Q (.bl (!decide (i = j)))) : DE K b ρ (tOp (rNeG K) ta tb) Q :=
  de_op (h.imp fun x hx => hx.imp fun y ⟨i, j, e1, e2, q⟩ Hf H σ k v u f rv ru c => by
    subst e1; subst e2
    have a := rv.int_inv; subst a
    have a := ru.int_inv; subst a
    refine Or.inl ⟨rfl, ?_⟩
    have e : decide (V.int i = V.int j) = decide (i = j) := by rw [dec_int]; exact (Bool.beq_eq_decide_eq i j)
    rw [e]
    exact c _ _ Hf H Up.refl f (.bl _) q)
theorem dec_strV (i j : Str) : decide (V.str i = V.str j) = decide (i = j) := by
  by_cases e : i = j
  · subst e; simp
  · rw [decide_eq_false e, decide_eq_false (fun z => e (V.str.inj z))]
theorem de_eqS (h : DE K b ρ ta fun x => DE K b ρ tb fun y => ∃ i j, x = .str i ∧ y = .str j ∧ Q (.bl (decide (i = j)))) : DE K b ρ (tOp (rEqG K) ta tb) Q :=
  de_op (h.imp fun x hx => hx.imp fun y ⟨i, j, e1, e2, q⟩ Hf H σ k v u f rv ru c => by
    subst e1; subst e2
    have a := rv.str_inv; subst a
    have a := ru.str_inv; subst a
    refine Or.inl ⟨rfl, ?_⟩
    rw [dec_strV]
    exact c _ _ Hf H Up.refl f (.bl _) q)
theorem de_neS (h : DE K b ρ ta fun x => DE K b ρ tb fun y => ∃ i j, x = .str i ∧ y = .str j ∧ Q (.bl (!decide (i = j)))) : DE K b ρ (tOp (rNeG K) ta tb) Q :=
  de_op (h.imp fun x hx => hx.imp fun y ⟨i, j, e1, e2, q⟩ Hf H σ k v u f rv ru c => by
    subst e1; subst e2
    have a := rv.str_inv; subst a
    have a := ru.str_inv; subst a
    refine Or.inl ⟨rfl, ?_⟩
    rw [dec_strV]
    exact c _ _ Hf H Up.refl f (.bl _) q)
theorem de_eqA (h : DE K b ρ ta fun x => DE K b ρ tb fun y => okD x = true ∧ okD y = true ∧ Q (.bl (eqD x y))) : DE K b ρ (tOp (rEqG K) ta tb) Q :=
  de_op (h.imp fun x hx => hx.imp fun y ⟨o1, o2, q⟩ Hf H σ k v u f rv ru c => by
    obtain ⟨a1, a2, a3⟩ := okD_un o1
    obtain ⟨b1, b2, b3⟩ := okD_un o2
    exact Or.inr ⟨x.py, y.py, (rv.up f.ex.exF).dp a1 a2, (ru.up f.ex.exF).dp b1 b2, a3, b3, c _ _ Hf H Up.refl f (.bl _) q⟩)
theorem de_neA (h : DE K b ρ ta fun x => DE K b ρ tb fun y => okD x = true ∧ okD y = true ∧ Q (.bl (!eqD x y))) : DE K b ρ (tOp (rNeG K) ta tb) Q :=
  de_op (h.imp fun x hx => hx.imp fun y ⟨o1, o2, q⟩ Hf H σ k v u f rv ru c => by
    obtain ⟨a1, a2, a3⟩ := okD_un o1
    obtain ⟨b1, b2, b3⟩ := okD_un o2
    exact Or.inr ⟨x.py, y.py, (rv.up f.ex.exF).dp a1 a2, (ru.up f.ex.exF).dp b1 b2, a3, b3, c _ _ Hf H Up.refl f (.bl _) q⟩)
end
/-! ### the pen -/
def penL (c : Addr) (a d n f : Int) : List (Key × V) := [(Sum.inr "cells", .ref c), (Sum.inr "at", .int a), (Sum.inr "digits", .int d), (Sum.inr "count", .int n), (Sum.inr "fold", .int f)]
section
variable {c p : Addr} {a d n f : Int} {H Hf : Hp} {K : PySem.W.Frag} {σ : L2.St} {Q : VK} {D : Ends}
theorem v_cells : valV (penL c a d n f) (Sum.inr "cells") = some (.ref c) := rfl
theorem v_at : valV (penL c a d n f) (Sum.inr "at") = some (.int a) := rfl
theorem v_digits : valV (penL c a d n f) (Sum.inr "digits") = some (.int d) := rfl
theorem v_count : valV (penL c a d n f) (Sum.inr "count") = some (.int n) := rfl
theorem v_fold : valV (penL c a d n f) (Sum.inr "fold") = some (.int f) := rfl
theorem p_at (x : Int) : putK (penL c a d n f) (Sum.inr "at") (.int x) = penL c x d n f := rfl
theorem p_digits (x : Int) : putK (penL c a d n f) (Sum.inr "digits") (.int x) = penL c a x n f := rfl
theorem p_count (x : Int) : putK (penL c a d n f) (Sum.inr "count") (.int x) = penL c a d x f := rfl
theorem p_fold (x : Int) : putK (penL c a d n f) (Sum.inr "fold") (.int x) = penL c a d n x := rfl
theorem pen_get {x : Str} {v : V} (h0 : σ[0]? = some (some (.ref p))) (hv : valV (penL c a d n f) (Sum.inr x) = some v) (q : Q v (upd H p (.dK (penL c a d n f)))) : tDGet (tVar 0) (tC (.str x)) σ (upd H p (.dK (penL c a d n f))) Q :=
  ⟨_, h0, p, v, rfl, .inl ⟨_, Sum.inr x, .inl upd_same, rfl, hv.symm⟩, q⟩
theorem pen_put {x : Str} {te : TE} {v : V} {kvs : List (Key × V)} (h0 : σ[0]? = some (some (.ref p))) (hp : putK (penL c a d n f) (Sum.inr x) v = kvs)
    (h : ∀ R : VK, R v (upd H p (.dK (penL c a d n f))) → te σ (upd H p (.dK (penL c a d n f))) R) (k : D.nx σ (upd H p (.dK kvs))) : sDPut (tVar 0) (tC (.str x)) te D σ (upd H p (.dK (penL c a d n f))) := by
  refine h _ ⟨_, h0, p, _, rfl, .inl ⟨_, Sum.inr x, upd_same, rfl, by show 5 < sizeLine; decide, rfl⟩, ?_⟩
  rw [upd_upd, hp]
  exact k
end
end G
namespace G
open PySem PySem.Spec PyProof.Rows L2
/-- behind a store into the pen -/
theorem pen_exit {K : PySem.W.Frag} {Hf H : Hp} {M : List Addr} {p : Addr} {o : HO} (h1 : Ex Hf H) (h2 : ∀ p ∈ M, Hf p = none ∧ ∃ o, H p = some o ∧ PenO K Hf o) (hp : p ∈ M) (ho : PenO K Hf o) : Exit K ⟨fun a => if a ∈ M then none else H a, Hf, M, []⟩ Hf (upd H p o) := by
  refine { exF := fun a u e => ?_, ex0 := Ex.refl _, exB := fun a u e => ?_, frz := fun a _ h => h, pens := fun q hq => ⟨(h2 q hq).1, if_pos hq, ?_⟩, tabs := fun q hq => (List.not_mem_nil hq).elim }
  · have n : a ≠ p := ne_of_none e (h2 p hp).1
    rw [upd_ne n]
    exact h1 a u e
  · have e' : (if a ∈ M then none else H a) = some u := e
    by_cases z : a ∈ M
    · rw [if_pos z] at e'; cases e'
    · rw [if_neg z] at e'
      rw [upd_ne (fun y => z (by rw [y]; exact hp))]
      exact e'
  · by_cases z : q = p
    · subst z
      exact ⟨o, upd_same, ho⟩
    · rw [upd_ne z]
      exact (h2 q hq).2
theorem penO_of {K : PySem.W.Frag} {Hf : Hp} {c : Addr} {ns : List Int} {a d n f : Int} (hs : SqL K Hf c (ns.map V.int)) (ha : 0 ≤ a) (hd : 0 ≤ d) (hd2 : d.natAbs < 2 ^ 1048577) (hf : 0 ≤ f) (hf2 : f < 2 ^ 31) (hn : ∀ n ∈ ns, Builtin.Int.intBits n ≤ 1048576) : PenO K Hf (.dK (penL c a d n f)) :=
  ⟨c, ns, a, d, n, f, rfl, hs, ha, hd, hd2, hf, hf2, hn⟩
theorem same_upd {H : Hp} {p : Addr} {o : HO} (h : H p = some o) : H = upd H p o := by
  funext a
  by_cases z : a = p
  · subst z; rw [upd_same, h]
  · rw [upd_ne z]
end G
namespace G
open PySem PySem.Spec PyProof.Rows L2
/-- an if whose ways meet -/
theorem if_cut {c : TT} {t u rest : TS} {D : Ends} {σ : L2.St} {H : Hp} (J : L2.St → Hp → Prop) (hj : ∀ σ' H', J σ' H' → rest D σ' H') (h : ∀ N : L2.St → Hp → Prop, (∀ σ' H', J σ' H' → N σ' H') → tIfS c t u { D with nx := N } σ H) : tSeq (tIfS c t u) rest D σ H := h (rest D) hj
theorem bits_lt {n : Int} {k : Nat} (h : Builtin.Int.intBits n ≤ k) : n.natAbs < 2 ^ k := by
  unfold Builtin.Int.intBits at h
  by_cases z : n = 0
  · subst z; exact Nat.two_pow_pos k
  · have e : (n == 0) = false := by simpa using z
    rw [e] at h
    have h' : n.natAbs.log2 + 1 ≤ k := h
    exact Nat.lt_of_lt_of_le Nat.lt_log2_self (Nat.pow_le_pow_right (by decide) h')
theorem fmod_lo (a : Int) {m : Int} (h : 0 < m) : 0 ≤ a.fmod m := by
  rw [Int.fmod_eq_emod_of_nonneg _ (Int.le_of_lt h)]
  exact Int.emod_nonneg _ (by omega)
theorem fmod_hi (a : Int) {m : Int} (h : 0 < m) : a.fmod m < m := by
  rw [Int.fmod_eq_emod_of_nonneg _ (Int.le_of_lt h)]
  exact Int.emod_lt_of_pos _ h
theorem fdiv_lo {a m : Int} (ha : 0 ≤ a) (h : 0 < m) : 0 ≤ a.fdiv m := by
  rw [Int.fdiv_eq_ediv_of_nonneg _ (Int.le_of_lt h)]
  exact Int.ediv_nonneg ha (Int.le_of_lt h)
theorem fdiv_abs {a m : Int} (ha : 0 ≤ a) (h : 0 < m) : (a.fdiv m).natAbs ≤ a.natAbs := by
  have h1 := fdiv_lo ha h
  have h2 : a.fdiv m ≤ a := by
    rw [Int.fdiv_eq_ediv_of_nonneg _ (Int.le_of_lt h)]
    exact Int.ediv_le_self _ ha
  omega
theorem atI_ints {ns : List Int} {i : Int} (h0 : 0 ≤ i) (h : i < ns.length) : ∃ n, n ∈ ns ∧ L2.atI (ns.map V.int) i = some (.int n) := by
  obtain ⟨k, rfl⟩ := Int.eq_ofNat_of_zero_le h0
  have hk : k < ns.length := by omega
  refine ⟨ns[k], List.getElem_mem hk, ?_⟩
  unfold L2.atI ixN
  rw [List.length_map, if_pos (by omega), if_pos (by omega)]
  show (ns.map V.int)[((k : Nat) : Int).toNat]? = _
  rw [Int.toNat_natCast, List.getElem?_map, List.getElem?_eq_getElem hk]
  rfl
end G

set_option Elab.async false
set_option linter.all false
set_option maxRecDepth 100000
set_option maxHeartbeats 4000000
/-! DLaw: a law's own end: from its promise to the row. -/
namespace G
open PySem PySem.Spec PyProof.Rows L2
/-- what a law promises: True, whatever the script -/
def spLaw (K : PySem.W.Frag) : Sp := fun vs H Q _ => ∃ (a : Addr) (ns : List Int), vs = [.ref a] ∧ SqL K H a (ns.map V.int) ∧ ns.length ≤ 63 ∧ (∀ z ∈ ns, Builtin.Int.intBits z ≤ 1048576) ∧ ∀ H', Q (.bl true) H'
theorem sys_of {h : Heap} (x : h.NoSeer) : SysD h := by
  obtain ⟨mm, ⟨o, es, ep, e, d, _⟩, _⟩ := x.mods
  exact ⟨o, es, ep, e, d⟩
section
variable {P : Program} {w : World} {K : PySem.W.Frag} {mg mb : Str → Option Value} {k : Nat} {fa a : Addr} {fd : FuncData} {s₁ : Shared} {vs : List Value} {ns : List Int}
/-- the law is called: the script alone may be tracked, and then it is known to its object -/
theorem law_in (KX : K.In s₁.heap) (hM : ∀ H : Hp, (∀ b, H b ≠ none → b = a) → (H a ≠ none → K.lookup a = none) → L2.Mod K mg (hidT s₁.heap H) ∧ SysD (hidT s₁.heap H)) (hg : s₁.gens = #[])
    (ha : s₁.heap.get? a = some { cls := .type "list", data := .seq vs.toArray }) (hi : IntsAre vs ns) (hl : ns.length ≤ 63) (hb : ∀ z ∈ ns, Builtin.Int.intBits z ≤ 1048576) (hr : Rm true k callerA)
    (F : ∀ base : Heap, L2.Mod K mg base → SysD base → FnG P w K mg base true k fa fd (["script"] : List Str) (fun _ => spLaw K)) (hbind : ∀ (s : Shared) (u : Value), BindsTo s fd ⟨[u], []⟩ [("script", u)]) :
    codeAny (model P w) callerA (.call (.ref fa) ⟨[.ref a], []⟩) (fun r s' => r = .ok (.ret (.bool true)) ∧ OldK s₁.heap s'.heap ∧ s'.os = s₁.os ∧ AllBare s'.gens) s₁ := by
  have rv := vals_ints hi
  have key : ∀ H : Hp, (∀ b, H b = none ∨ ∃ o xs, H b = some (.frz o (.lst xs))) → SqL K H a (ns.map V.int) → HOk P w H s₁.heap → (∀ b, H b ≠ none → b = a) → (H a ≠ none → K.lookup a = none) →
      codeAny (model P w) callerA (.call (.ref fa) ⟨[.ref a], []⟩) (fun r s' => r = .ok (.ret (.bool true)) ∧ OldK s₁.heap s'.heap ∧ s'.os = s₁.os ∧ AllBare s'.gens) s₁ := fun H hO hS hok hA hK => by
    obtain ⟨M, hsys⟩ := hM H hA hK
    have none_in : ∀ (b : Addr), b ∉ ([] : List Addr) := fun b h => nomatch h
    have e0 : Env0 P w K mg (hidT s₁.heap H) callerA [] s₁ H := { frames := rfl, mod := M, bs := fun b o e => of_hidT e, bsz := Nat.le_of_eq (hidT_size _ _), funs := trivial, frf := fun b h => (none_in b h).elim, hok := hok, bare := .of_eq hg }
    have go := (F _ M hsys).run callerA [] s₁ H ⟨[.ref a], []⟩ [.ref a] [.ref a] (fun v _ => v = .bl true) (fun _ _ _ => False) [] hr (fun p h => nomatch h) e0 (hbind s₁ (.ref a)) (.cons rfl .nil) ⟨a, ns, rfl, hS, hl, hb, fun _ => rfl⟩
    refine codeAny_mono go (fun r s' h => ?_)
    match r, h with
    | .error e, h =>
      obtain ⟨_, _, _, _, _, _, _, _, _, _, _, _, z⟩ := h
      exact z.elim
    | .ok .next, h => exact h.elim
    | .ok .brk, h => exact h.elim
    | .ok .cont, h => exact h.elim
    | .ok (.ret u), h =>
      obtain ⟨v, H', os, bare, un, hok', ru, q⟩ := h
      have q' : v = .bl true := q
      rw [q'] at ru
      have eu : u = Value.bool true := ru
      rw [eu]
      refine ⟨rfl, OldK.of_keep (fun b o e => ?_), os, bare⟩
      rcases hO b with z | ⟨ob, xs, z⟩
      · exact un.keep b o e z (none_in b) (none_in b)
      · obtain ⟨e1, _⟩ := hok b _ z
        obtain ⟨e2, _⟩ := hok' b _ (un.frzs b ob _ z)
        rw [e] at e1
        rw [Option.some.inj e1]
        exact e2
  cases hk : K.lookup a with
  | some o =>
    have e := KX a o hk
    rw [ha] at e
    have e' := Option.some.inj e
    subst e'
    refine key (fun _ => none) (fun _ => Or.inl rfl) (Or.inr ⟨_, vs.toArray, _, hk, rfl, rfl, rfl, ?_, ?_⟩) (fun _ _ z => nomatch z) (fun _ z => (z rfl).elim) (fun z => (z rfl).elim)
    · rw [List.size_toArray, hi.length]; exact Nat.le_trans hl (by decide)
    · rw [List.toList_toArray]; exact rv
  | none =>
    let ob : Obj := { cls := .type "list", data := .seq vs.toArray }
    have at_a : (fun b => if b = a then some (HO.frz ob (.lst (ns.map V.int))) else none : Hp) a = some (.frz ob (.lst (ns.map V.int))) := if_pos rfl
    have only : ∀ b, (fun b => if b = a then some (HO.frz ob (.lst (ns.map V.int))) else none : Hp) b ≠ none → b = a := fun b h => by
      by_cases z : b = a
      · exact z
      · exact (h (if_neg z)).elim
    refine key (fun b => if b = a then some (.frz ob (.lst (ns.map V.int))) else none) (fun b => ?_) (Or.inl (Or.inr ⟨ob, at_a⟩)) (fun b u e => ?_) only (fun _ => hk)
    · by_cases z : b = a
      · rw [z]; exact Or.inr ⟨_, _, at_a⟩
      · exact Or.inl (if_neg z)
    · have z := only b (by rw [e]; exact fun y => nomatch y)
      subst z
      rw [at_a] at e
      cases e
      exact ⟨ha, by rw [List.length_map]; exact Nat.le_trans hl (by decide), vs, _, rv, ha⟩
end
/-- the end of the row -/
theorem walkG {l : PySem.W.OpenLaw} {k : Nat} {q : Program} {loose : List Str} {XP : (Str → Option Value) → Heap → Prop} {YP : World → Heap → Prop} {d : DefRec} {K : Params → PySem.W.Frag}
    (hn : l.most = some 63) (hdf : d.params.defaults = []) (hi : importsNone q = true) (hr : Rm true k callerA) (hY : ∀ (w : World) (h : Heap), YP w h → (K w.params).In h)
    (F : ∀ (w : World) (mg : Str → Option Value) (fa : Addr) (h : Heap), (K w.params).In h → h.Ns mainGlobals mg → mg d.name = some (.ref fa) →
      ∃ fd : FuncData, (∀ (s : Shared) (u : Value), BindsTo s fd ⟨[u], []⟩ [("script", u)]) ∧ ∀ base : Heap, L2.Mod (K w.params) mg base → SysD base → FnG l.prog w (K w.params) mg base true k fa fd (["script"] : List Str) (fun _ => spLaw (K w.params))) :
    PySem.W.WalkO q loose XP YP l.row.toRowW d [] (fun f vs => PySem.call f vs) := by
  refine Att.attach_callB hn hdf fun w s₀ s₁ mg mb fa o pm cd doc a vs ns G Y ho hd hcd hmg hobj hints hlen hbits hg => ?_
  have KX := hY w _ Y
  obtain ⟨fd, hb, hF⟩ := F w mg fa _ KX G.T.g hmg
  have S := G.T.seer hi
  refine law_in KX (fun H hA hK => ?_) hg hobj hints hlen hbits hr hF hb
  have noA : ∀ {b : Addr} {o : Obj} {es : Array DictEntry} {ep : Nat}, s₁.heap.get? b = some o → o.data = .dict es ep → H b = none := fun {b o es ep} e dd => by
    cases z : H b with
    | none => rfl
    | some u =>
      have y := hA b (by rw [z]; exact fun y => nomatch y)
      rw [y, hobj] at e
      rw [← Option.some.inj e] at dd
      exact Data.noConfusion dd
  have nsK : ∀ {b : Addr} {m : Str → Option Value}, s₁.heap.Ns b m → (hidT s₁.heap H).Ns b m := fun {b m} x => by
    obtain ⟨o, es, ep, e, dd, r⟩ := x
    exact ⟨o, es, ep, hidT_get e (noA e dd), dd, r⟩
  have kin : (K w.params).In (hidT s₁.heap H) := fun b o e => by
    refine hidT_get (KX b o e) ?_
    cases z : H b with
    | none => rfl
    | some u =>
      have y := hA b (by rw [z]; exact fun y => nomatch y)
      rw [y] at e z
      rw [hK (by rw [z]; exact fun y => nomatch y)] at e
      cases e
  obtain ⟨mc, l1, l2⟩ := G.T.nolimit
  obtain ⟨so, ses, sep, se, sd⟩ := sys_of S
  exact ⟨{ kin := kin, glob := nsK G.T.g, blt := ⟨mb, nsK G.T.b, G.T.builtins⟩, nolimit := ⟨mc, nsK l1, l2⟩ }, so, ses, sep, hidT_get se (noA se sd), sd⟩
/-! ### a pen is made -/
def spPen (K : PySem.W.Frag) : Sp := fun vs H Q _ => ∃ (a : Addr) (ns : List Int), vs = [.ref a] ∧ SqL K H a (ns.map V.int) ∧ ns.length ≤ 63 ∧ (∀ z ∈ ns, Builtin.Int.intBits z ≤ 1048576) ∧
  ∀ p o Hf H', Ex H H' → (∀ a, H a ≠ none → Hf a = none) → Ex Hf H' → Hf p = none → H' p = some o → PenO K Hf o → Q (.ref p) H'
/-- the rest of a law behind its pen -/
theorem law_rest {K : PySem.W.Frag} {t : TS} {n : Nat} {Q : VK} {p sc : Addr} {o : HO} {Hf H : Hp} {T : List (Addr × Str)} (he : Ex Hf H) (hf : Hf p = none) (hp : H p = some o) (ho : PenO K Hf o) (hT : ∀ p ∈ T, H p.1 = some (.tbl #[]) ∧ Hf p.1 = none)
    (h : ∀ b, b.T = T → DS K b (.no :: .pen :: List.replicate n .no) t (fun _ => False) (fun d => d = .bl true) (fun _ => False) (fun _ => False)) (q : ∀ H', Q (.bl true) H') :
    t { nx := fun _ H' => Q .non H', rt := Q } (some (.ref sc) :: some (.ref p) :: List.replicate n none) H := by
  refine h ⟨fun _ => none, fun _ => none, [p], T⟩ rfl Hf H _ _ ?_ (fun _ _ _ _ _ _ z => z.elim) (fun v d Hf' H' e x r z => ?_) (fun _ _ _ _ _ _ z => z.elim) (fun _ _ _ _ _ _ z => z.elim)
  · refine { ex := { exF := he, ex0 := fun a u e => (nomatch e), exB := fun a u e => (nomatch e), frz := fun a h1 _ => (h1 rfl).elim, pens := fun q hq => ?_, tabs := fun q hq => ?_ }, len := by simp, sl := fun i x s h1 h2 => ?_, mine := fun i a z => rfl, sep := fun i j a z _ => ?_ }
    · rw [List.mem_singleton.mp hq]
      exact ⟨hf, rfl, o, hp, ho⟩
    · obtain ⟨t1, t2⟩ := hT q hq
      refine ⟨t2, rfl, fun z => ?_, #[], t1, trivial, fun pos cv hc => ?_⟩
      · rw [List.mem_singleton.mp z, hp] at t1
        obtain ⟨_, _, _, _, _, _, e, _⟩ := ho
        rw [e] at t1
        cases t1
      · have z : codeAmong pos [] = some cv := hc
        simp [codeAmong] at z
    · match i with
      | 0 =>
        simp at h1 h2
        subst h1; subst h2
        trivial
      | 1 =>
        simp at h1 h2
        subst h1; subst h2
        exact ⟨p, List.mem_singleton.mpr rfl, rfl⟩
      | i + 2 =>
        simp at h1 h2
        rw [List.getElem?_replicate] at h2
        split at h2
        · cases h2
          match x with
          | none => trivial
          | some _ => trivial
        · cases h2
    · obtain ⟨⟨ds, h1⟩, _⟩ := z
      match i with
      | 0 => simp at h1
      | 1 => simp at h1
      | i + 2 =>
        simp at h1
        rw [List.getElem?_replicate] at h1
        split at h1 <;> cases h1
  · subst z
    rw [r.bl_inv]
    exact q H'
end G

set_option Elab.async false
set_option linter.all false
set_option maxRecDepth 100000
set_option maxHeartbeats 4000000
/-! DShow: how long a repr is; data that repr may be asked of. -/
namespace G
open PySem PySem.Spec PyProof.Rows L2
/-- all its signs have few digits -/
def Ok8 (s : Str) : Prop := ∀ c ∈ s.cps.toList, c < 16 ^ 8
theorem Ok8.app {a b : Str} (x : Ok8 a) (y : Ok8 b) : Ok8 (a ++ b) := fun c h => (mem_cps_append.mp h).elim (x c) (y c)
theorem ok8_char (c : Char) : c.toNat < 16 ^ 8 := c.val.toNat_lt
theorem ok8_hex (n c : Nat) : ∀ x ∈ List.replicate n 48 ++ (Nat.toDigits 16 c).map Char.toNat, x < 16 ^ 8 := fun x h => by
  rcases List.mem_append.mp h with h | h
  · rw [(List.mem_replicate.mp h).2]; decide
  · obtain ⟨ch, _, rfl⟩ := List.mem_map.mp h
    exact ok8_char ch
theorem ok8_int0 (i : Int) : Ok8 (PyData.int i).shown := fun c hc => by
  by_cases h : c < 16 ^ 8
  · exact h
  · exact (shown_int_free' (k := c) ⟨by omega, Or.inr (by omega)⟩ i hc).elim
theorem ok8_rc (q c : Nat) (hc : c < 16 ^ 8) : ∀ x ∈ Builtin.Str.reprChar q c, x < 16 ^ 8 := by
  have two : ∀ a b : Nat, a < 16 ^ 8 → b < 16 ^ 8 → ∀ x ∈ [a, b], x < 16 ^ 8 := fun a b ha hb x h => by
    rcases List.mem_cons.mp h with rfl | h
    · exact ha
    · rw [List.mem_singleton.mp h]; exact hb
  have app : ∀ (l m : List Nat), (∀ x ∈ l, x < 16 ^ 8) → (∀ x ∈ m, x < 16 ^ 8) → ∀ x ∈ l ++ m, x < 16 ^ 8 := fun l m a b x h => (List.mem_append.mp h).elim (a x) (b x)
  unfold Builtin.Str.reprChar
  dsimp only
  by_cases h1 : (c == q || c == 92) = true
  · rw [if_pos h1]; exact two _ _ (by decide) hc
  rw [if_neg h1]
  by_cases h2 : (c == 10) = true
  · rw [if_pos h2]; exact two _ _ (by decide) (by decide)
  rw [if_neg h2]
  by_cases h3 : (c == 13) = true
  · rw [if_pos h3]; exact two _ _ (by decide) (by decide)
  rw [if_neg h3]
  by_cases h4 : (c == 9) = true
  · rw [if_pos h4]; exact two _ _ (by decide) (by decide)
  rw [if_neg h4]
  by_cases h5 : Unicode.isPrintable c = true
  · rw [if_pos h5]; intro x h; rw [List.mem_singleton.mp h]; exact hc
  rw [if_neg h5]
  by_cases h6 : c < 256
  · rw [if_pos h6]; exact app _ _ (two _ _ (by decide) (by decide)) (ok8_hex _ _)
  rw [if_neg h6]
  by_cases h7 : c < 65536
  · rw [if_pos h7]; exact app _ _ (two _ _ (by decide) (by decide)) (ok8_hex _ _)
  · rw [if_neg h7]; exact app _ _ (two _ _ (by decide) (by decide)) (ok8_hex _ _)
theorem ok8_fold (q : Nat) : ∀ (l : List Nat) (acc : Array Nat), (∀ c ∈ l, c < 16 ^ 8) → (∀ c ∈ acc.toList, c < 16 ^ 8) → ∀ c ∈ (l.foldl (fun out c => out ++ (Builtin.Str.reprChar q c).toArray) acc).toList, c < 16 ^ 8
  | [], acc, _, h => h
  | c :: r, acc, h, ha => ok8_fold q r _ (fun d hd => h d (List.mem_cons_of_mem _ hd)) fun d hd => by
    rw [Array.toList_append] at hd
    rcases List.mem_append.mp hd with z | z
    · exact ha d z
    · exact ok8_rc q c (h c List.mem_cons_self) d z
theorem ok8_reprText {x : Str} (h : Ok8 x) : Ok8 (reprText x) := by
  have hq : reprQuote x < 16 ^ 8 := by
    unfold reprQuote
    split <;> decide
  intro c hc
  unfold reprText at hc
  rw [Array.toList_push, ← Array.foldl_toList] at hc
  rcases List.mem_append.mp hc with z | z
  · exact ok8_fold _ _ _ h (fun d hd => by rw [List.mem_singleton.mp hd]; exact hq) c z
  · rw [List.mem_singleton.mp z]; exact hq
theorem ok8_dec {s : Str} (h : (s.cps.toList.all fun c => decide (c < 16 ^ 8)) = true) : Ok8 s := fun c hc => of_decide_eq_true (List.all_eq_true.mp h c hc)
theorem ok8_text : ∀ (ts : List Str) (k : Nat) (acc : Str), Ok8 acc → (∀ t ∈ ts, Ok8 t) → Ok8 (textFrom k acc ts)
  | [], _, _, h, _ => h
  | t :: r, k, acc, h, ht => ok8_text r (k + 1) _ ((h.app (by split <;> exact ok8_dec (by decide +kernel))).app (ht t List.mem_cons_self)) fun u hu => ht u (List.mem_cons_of_mem _ hu)
theorem ok8_list {ts : List Str} (h : ∀ t ∈ ts, Ok8 t) : Ok8 (listText ts) := (ok8_text ts 0 _ (ok8_dec (by decide +kernel)) h).app (ok8_dec (by decide +kernel))
theorem ok8_join {sep : Str} (hs : Ok8 sep) : ∀ ts : List Str, (∀ t ∈ ts, Ok8 t) → Ok8 (Str.join sep ts)
  | [], _ => fun c h => by
    have h' : c ∈ ([] : List Nat) := h
    cases h'
  | [x], h => h x (List.mem_singleton.mpr rfl)
  | x :: y :: r, h => ((h x List.mem_cons_self).app hs).app (ok8_join hs (y :: r) fun t ht => h t (List.mem_cons_of_mem _ ht))
theorem ok8_tuple {ts : List Str} (h : ∀ t ∈ ts, Ok8 t) : Ok8 (tupleText ts) := by
  unfold tupleText
  refine ((ok8_dec (by decide +kernel)).app (ok8_join (ok8_dec (by decide +kernel)) ts h)).app ?_
  split <;> exact ok8_dec (by decide +kernel)
theorem ok8_dict {ts : List Str} (h : ∀ t ∈ ts, Ok8 t) : Ok8 (dictText ts) := ((ok8_dec (by decide +kernel)).app (ok8_join (ok8_dec (by decide +kernel)) ts h)).app (ok8_dec (by decide +kernel))
mutual
theorem ok8_shown {B : Nat} : ∀ d : PyData, d.leavesShort B = true → Ok8 d.shown
  | .none, _ => ok8_dec (by decide +kernel)
  | .bool b, _ => by cases b <;> exact ok8_dec (by decide +kernel)
  | .int i, _ => ok8_int0 i
  | .str x, h => by
    simp only [PyData.shown]
    exact ok8_reprText (x := x) (ok8_dec (by simpa only [PyData.leavesShort] using h))
  | .list xs, h => by
    simp only [PyData.shown]
    exact ok8_list (ok8_shownAll xs (by simpa only [PyData.leavesShort] using h))
  | .tuple xs, h => by
    simp only [PyData.shown]
    exact ok8_tuple (ok8_shownAll xs (by simpa only [PyData.leavesShort] using h))
  | .dict xs, h => by
    simp only [PyData.shown]
    exact ok8_dict (ok8_shownKv xs (by simpa only [PyData.leavesShort] using h))
theorem ok8_shownAll {B : Nat} : ∀ ds : List PyData, PyData.leavesShortAll B ds = true → ∀ t ∈ PyData.shownAll ds, Ok8 t
  | [], _, t, ht => by simp [PyData.shownAll] at ht
  | d :: r, h, t, ht => by
    simp only [PyData.leavesShortAll, Bool.and_eq_true] at h
    simp only [PyData.shownAll] at ht
    rcases List.mem_cons.mp ht with rfl | ht
    · exact ok8_shown d h.1
    · exact ok8_shownAll r h.2 t ht
theorem ok8_shownKv {B : Nat} : ∀ ds : List (PyData × PyData), PyData.leavesShortKv B ds = true → ∀ t ∈ PyData.shownKv ds, Ok8 t
  | [], _, t, ht => by simp [PyData.shownKv] at ht
  | (k, v) :: r, h, t, ht => by
    simp only [PyData.leavesShortKv, Bool.and_eq_true] at h
    simp only [PyData.shownKv] at ht
    rcases List.mem_cons.mp ht with rfl | ht
    · exact ((ok8_shown k h.1.1).app (ok8_dec (by decide +kernel))).app (ok8_shown v h.1.2)
    · exact ok8_shownKv r h.2 t ht
end
/-- data of depth at most n, of bulk at most w, its ints of at most 50 digits -/
structure Sm (n w : Nat) (d : D) : Prop where
  pl : d.pl = true
  sh : d.py.showable = true
  dp : d.py.depth ≤ n
  lv : d.py.leavesShort 50 = true
  bk : d.py.bulk ≤ w
structure SmL (n w : Nat) (d : List D) : Prop where
  pl : D.plL d = true
  sh : PyData.showableAll (D.pyL d) = true
  dp : PyData.depthAll (D.pyL d) ≤ n
  lv : PyData.leavesShortAll 50 (D.pyL d) = true
  bk : PyData.bulkAll (D.pyL d) ≤ w
section
variable {n m w v : Nat} {d : D} {l : List D}
theorem Sm.mono (h : Sm n w d) (a : n ≤ m) (b : w ≤ v) : Sm m v d := { pl := h.pl, sh := h.sh, dp := Nat.le_trans h.dp a, lv := h.lv, bk := Nat.le_trans h.bk b }
theorem Sm.len (h : Sm n w d) : d.py.shown.length ≤ 52 * w + 50 := by
  have a := PyData.shown_le_bulk 50 (by decide) d.py h.lv
  have b := h.bk
  omega
theorem Sm.ok (h : Sm n w d) (a : n ≤ 60) (b : w ≤ 1900) : okR d := ⟨h.pl, h.sh, Nat.le_trans h.dp a, by have q := h.len; omega⟩
theorem Sm.ok8 (h : Sm n w d) : Ok8 d.py.shown := ok8_shown d.py h.lv
theorem Sm.str {s : Str} (h : Ok8 s) (hl : s.length ≤ w) : Sm n w (.str s) :=
  { pl := by simp [D.pl], sh := by simp [D.py, PyData.showable], dp := by simp [D.py, PyData.depth], lv := by simp only [D.py, PyData.leavesShort]; exact List.all_eq_true.mpr fun c hc => decide_eq_true (h c hc), bk := by simp only [D.py, PyData.bulk]; exact hl }
theorem Sm.shown (h : Sm n w d) : Sm m (52 * w + 50) (.str d.py.shown) := Sm.str h.ok8 h.len
theorem SmL.nil : SmL n w [] := { pl := by simp [D.plL], sh := by simp [D.pyL, PyData.showableAll], dp := by simp [D.pyL, PyData.depthAll], lv := by simp [D.pyL, PyData.leavesShortAll], bk := by simp [D.pyL, PyData.bulkAll] }
theorem SmL.cons (h : Sm n w d) (r : SmL n v l) : SmL n (w + 1 + v) (d :: l) :=
  { pl := by simp only [D.plL, h.pl, r.pl] <;> rfl, sh := by simp only [D.pyL, PyData.showableAll, h.sh, r.sh] <;> rfl
    dp := by simp only [D.pyL, PyData.depthAll]; exact Nat.max_le.mpr ⟨h.dp, r.dp⟩, lv := by simp only [D.pyL, PyData.leavesShortAll, h.lv, r.lv] <;> rfl
    bk := by simp only [D.pyL, PyData.bulkAll]; have a := h.bk; have b := r.bk; omega }
theorem SmL.tup (h : SmL n w l) : Sm (n + 1) w (.tup l) :=
  { pl := by simpa only [D.pl] using h.pl, sh := by simpa only [D.py, PyData.showable] using h.sh, dp := by simp only [D.py, PyData.depth]; exact Nat.succ_le_succ h.dp, lv := by simpa only [D.py, PyData.leavesShort] using h.lv, bk := by simpa only [D.py, PyData.bulk] using h.bk }
theorem SmL.lst (h : SmL n w l) : Sm (n + 1) w (.lst l) :=
  { pl := by simpa only [D.pl] using h.pl, sh := by simpa only [D.py, PyData.showable] using h.sh, dp := by simp only [D.py, PyData.depth]; exact Nat.succ_le_succ h.dp, lv := by simpa only [D.py, PyData.leavesShort] using h.lv, bk := by simpa only [D.py, PyData.bulk] using h.bk }
theorem lenD_seq {x : D} {l : List D} (h : seqD x = some l) : lenD x = some l.length := by
  cases x <;> first | (cases h; rfl) | cases h
theorem atD_seq {x : D} {l : List D} (h : seqD x = some l) (i : Int) : atD x i = L2.atI l i := by
  cases x <;> first | (cases h; rfl) | cases h
theorem atI_nat {l : List D} {i : Int} (h0 : 0 ≤ i) (h : i < l.length) : ∃ d, d ∈ l ∧ L2.atI l i = some d := by
  obtain ⟨k, rfl⟩ := Int.eq_ofNat_of_zero_le h0
  have hk : k < l.length := by omega
  refine ⟨l[k], List.getElem_mem hk, ?_⟩
  unfold L2.atI ixN
  rw [if_pos (by omega), if_pos (by omega)]
  show l[((k : Nat) : Int).toNat]? = _
  rw [Int.toNat_natCast]
  exact List.getElem?_eq_getElem hk
end
end G

set_option Elab.async false
set_option linter.all false
set_option maxRecDepth 100000
set_option maxHeartbeats 4000000
/-! DTry: try .. except C as n, as read by ds_try. -/
namespace G
open PySem PySem.Spec PyProof.Rows L2
theorem ps_tryD {X : Cx} {x n : Str} {c : Value} {i : Nat} {body suite : List Stmt} {b₀ : Stmt} {np pos pos' : Pos} {tb : WX → TS} {ts : Addr → Value → Option Addr → TS} {Wout : WX}
    (hs : X.stack = X.env :: X.outer) (hf : X.env.frame = some X.env.locals) (hN : X.N.Nodup) (hi : X.N[i]? = some n) (hln : X.env.kindOf n = some .local) (hc : Names X x c) (tk : Takes X Wout)
    (hb : ∀ (W : WX) (pn : List (Addr × Obj)) (xe : Value → Shared → Prop), Takes (X.tr pn xe) W → PassesOwn (model X.prog X.w) X.A X.env xe → PSs (X.tr pn xe) body (tb W))
    (hsu : ∀ (a : Addr) (oe : Obj) (cls : Value) (d : Option Addr) (pn : List (Addr × Obj)), Zc cls d oe → (∃ vs, oe.data = .fields vs) → PSs (X.suite a ((a, oe) :: pn)) (b₀ :: suite) (ts a cls d)) :
    PS X (.Try body [.ExceptHandler (some (.Name x np)) (some n) (b₀ :: suite) pos'] [] [] pos) (tTryAs X.K c i tb ts Wout) := ps_try_as hs hf hN hi hln hc tk hb hsu
theorem pnp_of {K : PySem.W.Frag} {a a' C' : Addr} {d d' : Option Addr} {oe : Obj} {cls : Value} {pn : Pins} (hz : Zc cls d oe) (hf : ∃ vs, oe.data = .fields vs) (z : a' = a ∧ d' = d ∧ Value.ref C' = cls ∧ XcC K C') : PnOk K ((a, oe) :: pn) a' d' C' := by
  obtain ⟨z1, z2, z3, z4⟩ := z
  subst z1; subst z2; subst z3
  exact ⟨oe, List.mem_cons_self, hz, hf, z4⟩
/-- a, b, c = x, y, z -/
theorem ds_par3 {K : PySem.W.Frag} {b : Bs} {ρ : List Sl} {tr : TA} {nx bk ct : List Sl → Prop} {rt : D → Prop} {i j m : Nat} (h : DA K b ρ tr fun l => ∃ x y z, l = [x, y, z] ∧ nx (((ρ.set i (.sh x)).set j (.sh y)).set m (.sh z))) : DS K b ρ (tPar3 i j m tr) nx rt bk ct := fun Hf H σ D fr n r bk ct => by
  refine h Hf H σ _ fr fun vs ds Hf1 H1 e1 f1 r1 ⟨x, y, z, e, q⟩ => ?_
  subst e
  cases r1 with
  | cons q1 r1 =>
    cases r1 with
    | cons q2 r1 =>
      cases r1 with
      | cons q3 r1 =>
        cases r1
        exact ⟨_, _, _, rfl, n _ _ Hf1 H1 e1.1 (((f1.set q1).set q2).set q3) q⟩
/-- a law begins: its pen -/
theorem law_startT {K : PySem.W.Frag} {t : TS} {n : Nat} {Q : VK} {sa : Addr} {ns : List Int} {H : Hp} {N : List Str} {E : L2.St → XK} {T : List (Addr × Str)} (hN : L2.start N [.ref sa] = some (.ref sa) :: none :: List.replicate n none)
    (hs : SqL K H sa (ns.map V.int)) (hl : ns.length ≤ 63) (hb : ∀ z ∈ ns, Builtin.Int.intBits z ≤ 1048576) (hT : ∀ p ∈ T, H p.1 = some (.tbl #[]))
    (h : ∀ b, b.T = T → DS K b (.no :: .pen :: List.replicate n .no) t (fun _ => False) (fun d => d = .bl true) (fun _ => False) (fun _ => False)) (q : ∀ H', Q (.bl true) H') :
    tSeq (tAsg (tCallG (fun _ => spPen K) [] E (tCons (tVar 0) tNil)) (gName 1)) t { nx := fun _ H' => Q .non H', rt := Q } (L2.start N [.ref sa]) H := by
  rw [hN]
  refine ⟨_, rfl, sa, ns, rfl, hs, hl, hb, fun p o Hf H' e0 ef e1 e2 e3 e4 => ?_⟩
  exact law_rest (t := t) (n := n) e1 e2 e3 e4 (fun p hp => ⟨e0 _ _ (hT p hp), ef _ (by rw [hT p hp]; exact fun z => nomatch z)⟩) h q
theorem law_start {K : PySem.W.Frag} {t : TS} {n : Nat} {Q : VK} {sa : Addr} {ns : List Int} {H : Hp} {N : List Str} {E : L2.St → XK} (hN : L2.start N [.ref sa] = some (.ref sa) :: none :: List.replicate n none)
    (hs : SqL K H sa (ns.map V.int)) (hl : ns.length ≤ 63) (hb : ∀ z ∈ ns, Builtin.Int.intBits z ≤ 1048576)
    (h : ∀ b, DS K b (.no :: .pen :: List.replicate n .no) t (fun _ => False) (fun d => d = .bl true) (fun _ => False) (fun _ => False)) (q : ∀ H', Q (.bl true) H') :
    tSeq (tAsg (tCallG (fun _ => spPen K) [] E (tCons (tVar 0) tNil)) (gName 1)) t { nx := fun _ H' => Q .non H', rt := Q } (L2.start N [.ref sa]) H :=
  law_startT (T := []) hN hs hl hb (fun p hp => (List.not_mem_nil hp).elim) (fun b _ => h b) q
end G

set_option Elab.async false
set_option linter.all false
set_option maxRecDepth 100000
set_option maxHeartbeats 4000000
/-! DLam: g(lambda: body), g a def that calls it once; told over data. -/
namespace G
open PySem PySem.Spec PyProof.Rows L2
section
variable {X : Cx} {pins : List (Addr × Obj)} {σ : L2.St} {H : Hp} {s : Shared}
/-- the context in which g runs -/
abbrev cxL (P : Program) (w : World) (K : PySem.W.Frag) (mg : Str → Option Value) (base : Heap) (A : Around) (st : List Env) (Ng : List Str) (qg : Str) (sg : Scope) (g : Addr) (cdg : Value) (s : Shared) (H : Hp) : Cx := cxOf (L2.CX P w) P w K mg base Ng qg sg g cdg A st s H E0
/-- what the lambda's object is -/
abbrev lamObj (X : Cx) (params : Arguments) (body : Expr) (scope : Scope) (pm : Value) (c' : Addr) (ctv : Value) : Obj := PySem.W.kla_obj "<lambda>" (X.env.qual ++ "<lambda>") params body scope (cloFrom X.env.cells scope.names []) pm c' ctv
/-- the call of what g was handed -/
theorem pe_actG {Ng : List Str} {qg : Str} {sg : Scope} {g f c' : Addr} {cdg pm ctv : Value} {params : Arguments} {body : Expr} {scope : Scope} {k i : Nat} {a : Str} {pn : List (Addr × Obj)} {xe : Value → Shared → Prop} {E : L2.St → XK} {tb : XK → TE} {p1 p2 : Pos}
    (I : Inv X pins σ H s) (L : LamX.LamS X.env.scope scope) (hf : s.heap.get? f = some (lamObj X params body scope pm c' ctv)) (hfn : H f = none) (hfr : f ∉ frs X.stack)
    (hbind : bindArgs (PySem.W.kla_fn "<lambda>" (X.env.qual ++ "<lambda>") params body scope (cloFrom X.env.cells scope.names []) pm (.ref c') ctv) ⟨[], []⟩ = pure [])
    (hx : ∀ σ', PassesAt (L2.CX X.prog X.w) ((cxL X.prog X.w X.K X.mg X.base X.A X.stack Ng qg sg g cdg s H).tr pn xe) σ' (E σ')) (hr : Rm true (k + 1) (X.A.deeper (envOfC qg sg s.heap.objs.size g cdg)))
    (hbody : ∀ (A : Around) (outer : List Env) (s : Shared) (H : Hp) (E : XK), Rm true k (A.deeper (LamX.lamEnv X scope s.heap.objs.size f c')) → PE (LamX.lamCx X A outer s H E scope f c') body (tb E))
    (hN : Ng[i]? = some a) (hv : Vis sg a) (hd : (a == ("__debug__" : Str)) = false) (hcd : (a == ("__classdict__" : Str)) = false) :
    PE ((cxL X.prog X.w X.K X.mg X.base X.A X.stack Ng qg sg g cdg s H).tr pn xe) (.Call (.Name a p1) [] [] p2) (fun σZ HZ Q => σZ[i]? = some (some (.ref f)) ∧ HZ c' = some (LamX.CodeO c' (X.env.qual ++ "<lambda>")) ∧ tb (E σZ) σ HZ Q) := by
  refine ⟨fun pz sz σz Hz Q Iz h => ?_⟩
  obtain ⟨hs, hc, ht⟩ := h
  refine wpAny_Call_Name_kw (thn ((pe_var (pos := p1) (i := i) hN hv hd hcd).run pz sz σz Hz (fun v H1 => v = .ref f ∧ H1 = Hz) Iz ⟨.ref f, hs, rfl, rfl⟩) fun u s1 z => ?_)
  obtain ⟨v, H1, I1, r1, ev, eH⟩ := z
  subst ev
  subst eH
  cases (show u = Value.ref f from r1)
  have at1 : s1.heap.get? f = some (lamObj X params body scope pm c' ctv) := I1.base.keep f _ hf hfn hfr (fun z => nomatch z)
  refine PySem.W.callWith_F0 ⟨_, _, _, _, at1⟩ ?_
  obtain ⟨⟨oc, vs, t, hoc, hdc, hvc⟩, _⟩ := I1.hok c' _ hc
  have rc : codeAny (model X.prog X.w) (X.A.deeper (envOfC qg sg s.heap.objs.size g cdg)) (.call (.ref f) ⟨[], []⟩) (CR (L2.CX X.prog X.w) (envOfC qg sg s.heap.objs.size g cdg :: X.stack) X.prog X.w H1 s1 Q (E σz)) s1 := by
    refine PySem.W.kla_callFunE hr.deep at1 rfl L.co L.gen rfl ⟨c', oc, vs, t, rfl, hoc, hdc, hvc⟩ ?_
    rw [hbind]
    refine wpAny_pure (wpAny_newFunctionEnv (fun y hy => (L.own y hy).2) (fun y hy => nomatch hy) (fun h₁ hns hsb => ⟨I1.nolimit.fresh _ hsb, ?_⟩) L.kind)
    show codeAny _ _ (.expr body (LamX.lamEnv X scope s1.heap.objs.size f c')) _ _
    have kp : ∀ b o, s1.heap.get? b = some o → h₁.get? b = some o := fun b o e => hsb.extBut b o (Nat.ne_of_lt (Heap.lt_size e)) (Heap.get?_push_of_some _ e)
    have J := LamX.lam_start2 (E := E σz) (f := f) (c' := c') (tk := s1.toks + ([] : List (Str × Value)).length) I L I1.env0 (hr.hd rfl) I1.base hns kp
    refine PySem.W.kla_codeExpr (wpAny_mono ((hbody _ _ s1 H1 (E σz) (hr.deeper _)).run [] _ _ H1 Q J ht) (fun v s' hq => ?_) fun e s' hq => hq)
    obtain ⟨w', H', J', rv, q⟩ := hq
    exact ⟨w', H', J'.os, J'.bare, J'.base, J'.hok, rv, q⟩
  refine wpAny_call (codeAny_mono rc fun r s' hq => ?_)
  · match r, hq with
    | .error e, hq => exact hx σz pz H1 s1 e s' I1 hq
    | .ok (.ret u), hq => exact I1.after hq
    | .ok .next, hq => exact hq.elim
    | .ok .brk, hq => exact hq.elim
    | .ok .cont, hq => exact hq.elim
/-- what the making of a lambda does to the table at P: nothing, or one more code object -/
def Grow (P : Addr) (q : Str) (H H1 : Hp) : Prop := H1 = H ∨ ∃ (ps more : Array Value) (c' : Addr), H P = some (.tbl ps) ∧ H c' = none ∧ H1 = upd (upd H P (.tbl (ps ++ more))) c' (LamX.CodeO c' q) ∧ TriplesOk (ps ++ more).toList ∧
  ∀ (pos : Pos) (cv : Value), codeAmong pos (ps ++ more).toList = some cv → codeAmong pos ps.toList = some cv ∨ cv = .ref c'
/-- the lambda's object is made -/
theorem lam_makeG {c P : Addr} {params : Arguments} {body : Expr} {scope : Scope} {pos : Pos} {E : Value → Shared → Prop} {Q : Value → Shared → Prop} {ps : Array Value} (I : Inv X pins σ H s) (TB : LamX.TabB X.base X.mg c P) (hcode : X.env.code = .ref c)
    (hP : H P = some (.tbl ps)) (ht : TriplesOk ps.toList) (ha : ∀ (pos : Pos) (cv : Value), codeAmong pos ps.toList = some cv → ∃ c, cv = .ref c ∧ H c = some (LamX.CodeO c (X.env.qual ++ "<lambda>")))
    (hdef : defaultsOf params X.env = ([], [])) (hfree : ∀ y ∈ scope.names, y.2 = .free → ∃ c, X.env.cells.lookup y.1 = some c)
    (h : ∀ (f c' : Addr) (pm ctv : Value) (H1 : Hp) (s' : Shared), Inv X pins σ H1 s' → Grow P (X.env.qual ++ "<lambda>") H H1 → s'.heap.get? f = some (lamObj X params body scope pm c' ctv) → H1 f = none → f ∉ frs X.stack → H1 c' = some (LamX.CodeO c' (X.env.qual ++ "<lambda>")) → Q (.ref f) s') :
    wpAny (model X.prog X.w) X.A (eval (.Lambda params body scope pos) X.env) Q E s := by
  refine PySem.W.kla_eval hdef ?_
  have bP : s.heap.BuiltinsAt X.mg P := TB.bm.keeps I.bk
  have atP : s.heap.get? P = some { cls := .none, data := .fields ps } := I.hok P _ hP
  have nofr : ∀ f, s.heap.objs.size ≤ f → f ∉ frs X.stack := fun f hf z => by
    rcases List.mem_cons.mp (I.stkSub _ z) with e | e
    · have h1 := I.lt
      rw [← e] at h1
      exact Nat.lt_irrefl _ (Nat.lt_of_lt_of_le h1 hf)
    · exact I.nofs hf e
  cases hc : codeAmong pos ps.toList with
  | some cv =>
    obtain ⟨c', e, hco⟩ := ha pos cv hc
    subst e
    refine PySem.W.kla_makeFunctionHit (mg := X.mg) (c := c) (P := P) (ps := ps) (closure_ok hfree) I.ok.glob (I.mod.glob.keeps I.bk) hcode (TB.code.keeps I.bk) atP ht hc bP fun ctv h' tk hx hsz => ?_
    have I1 : Inv X pins σ H { s with heap := h'.push (lamObj X params body scope ((X.mg "__name__").getD .none) c' ctv), toks := tk } := I.kept fun b o e => Heap.get?_push_of_some _ (hx b o e)
    exact h h'.objs.size c' ((X.mg "__name__").getD .none) ctv H _ I1 (Or.inl rfl) (Heap.get?_push_size _ rfl) (I.hok.fresh hsz) (nofr _ hsz) hco
  | none =>
    refine PySem.W.kla_makeFunction (mg := X.mg) (c := c) (P := P) (ps := ps) (closure_ok hfree) I.ok.glob (I.mod.glob.keeps I.bk) hcode (TB.code.keeps I.bk) atP ht hc TB.gP bP fun c' ctv h' tk hx hge hlt hrec htb => ?_
    obtain ⟨c2, oc, vs, t, e2, hoc, hd, hv⟩ := hrec
    cases e2
    have hsz : s.heap.objs.size ≤ h'.objs.size := Nat.le_trans hge (Nat.le_of_lt hlt)
    have nC : H c' = none := I.hok.fresh hge
    have I1 := LamX.inv_table (t' := tk) (more := #[rawInt pos.line, rawInt pos.col, .ref c']) (h' := h'.push (lamObj X params body scope ((X.mg "__name__").getD .none) c' ctv)) I hP (fun b o hb e => Heap.get?_push_of_some _ (hx b o hb e)) (Heap.get?_push_of_some _ htb) hge ⟨oc, vs, t, Heap.get?_push_of_some _ hoc, hd, hv⟩
    have eL : (ps ++ #[rawInt pos.line, rawInt pos.col, .ref c']).toList = ps.toList ++ [rawInt pos.line, rawInt pos.col, .ref c'] := by simp
    refine h h'.objs.size c' ((X.mg "__name__").getD .none) ctv _ _ I1 (Or.inr ⟨ps, _, c', hP, nC, rfl, by rw [eL]; exact PySem.TriplesOk_snoc _ _ _ _ ht, fun p' cv hcv => ?_⟩) (Heap.get?_push_size _ rfl) ?_ (nofr _ hsz) upd_same
    · rw [eL] at hcv
      exact LamX.among_app _ ht hcv
    · have n1 : h'.objs.size ≠ c' := by omega
      have n2 : h'.objs.size ≠ P := Nat.ne_of_gt (Nat.lt_of_lt_of_le (Heap.lt_size atP) hsz)
      rw [upd_ne n1, upd_ne n2]
      exact I.hok.fresh hsz
end
/-- g, which calls what it got by the name a; TT: what it makes of the lambda's reading -/
def GivesG (P : Program) (w : World) (K : PySem.W.Frag) (mg : Str → Option Value) (base : Heap) (A : Around) (st : List Env) (k : Nat) (Ng : List Str) (x : Str) (sg : Scope) (g : Addr) (cdg : Value) (bg : List Stmt) (a : Str) (q : Str) (TT : (XK → Hp → VK → Prop) → Hp → VK → Prop) : Prop :=
  ∀ (f c' : Addr) (s : Shared) (H : Hp) (Q : VK) (tl : XK → Hp → VK → Prop), Rm true (k + 1) (A.deeper (envOfC x sg s.heap.objs.size g cdg)) →
    (∀ (pn : List (Addr × Obj)) (xe : Value → Shared → Prop) (E : L2.St → XK) (p1 p2 : Pos), (∀ σ', PassesAt (L2.CX P w) ((cxL P w K mg base A st Ng x sg g cdg s H).tr pn xe) σ' (E σ')) →
      PE ((cxL P w K mg base A st Ng x sg g cdg s H).tr pn xe) (.Call (.Name a p1) [] [] p2) (fun σZ HZ Q => σZ[0]? = some (some (.ref f)) ∧ HZ c' = some (LamX.CodeO c' q) ∧ tl (E σZ) HZ Q)) →
    H c' = some (LamX.CodeO c' q) → TT tl H Q → ∃ t, PSs (cxL P w K mg base A st Ng x sg g cdg s H) bg t ∧ t { nx := fun _ H' => Q .non H', rt := Q } (L2.start Ng [.ref f]) H
def tLamG (P : Addr) (q : Str) (TT : (XK → Hp → VK → Prop) → Hp → VK → Prop) (t : XK → TE) : TE := fun σ H Q =>
  (∃ ps : Array Value, H P = some (.tbl ps) ∧ TriplesOk ps.toList ∧ ∀ (pos : Pos) (cv : Value), codeAmong pos ps.toList = some cv → ∃ c, cv = .ref c ∧ H c = some (LamX.CodeO c q)) ∧ ∀ H1, Grow P q H H1 → TT (fun E H' Q' => t E σ H' Q') H1 Q
theorem pe_lamG {X : Cx} {TT : (XK → Hp → VK → Prop) → Hp → VK → Prop} {x a : Str} {g c P : Addr} {k : Nat} {st : Stmt} {fd : FuncData} {Ng : List Str} {params : Arguments} {body : Expr} {scope : Scope} {t : XK → TE} {p lpos pos : Pos}
    (hg : Gl X x) (hm : X.mg x = some (.ref g)) (F : Fun X.K x x st g fd) (hb : L2.Binds X.K fd [a] []) (Sg : FnScope Ng [a] (defScope st)) (hNg : Ng[0]? = some a) (hva : Vis (defScope st) a)
    (hG : ∀ cdg, GivesG X.prog X.w X.K X.mg X.base X.A X.stack k Ng x (defScope st) g cdg (defBody st) a (X.env.qual ++ "<lambda>") TT) (TB : LamX.TabB X.base X.mg c P) (hcode : X.env.code = .ref c) (hr : Rm true (k + 2) X.A) (L : LamX.LamS X.env.scope scope) (hdef : defaultsOf params X.env = ([], []))
    (hbind : ∀ (q : Str) (cl : List (Str × Addr)) (pm cv ctv : Value), bindArgs (PySem.W.kla_fn "<lambda>" q params body scope cl pm cv ctv) ⟨[], []⟩ = pure [])
    (hbody : ∀ (A : Around) (outer : List Env) (s : Shared) (H : Hp) (E : XK) (f c' : Addr), Rm true k (A.deeper (LamX.lamEnv X scope s.heap.objs.size f c')) → PE (LamX.lamCx X A outer s H E scope f c') body (t E))
    (hdb : (x == ("__debug__" : Str)) = false := by decide) (hd : (a == ("__debug__" : Str)) = false := by decide) (hcd : (a == ("__classdict__" : Str)) = false := by decide) :
    PE X (.Call (.Name x p) [.Lambda params body scope lpos] [] pos) (tLamG P (X.env.qual ++ "<lambda>") TT t) := by
  have hk := F.kp
  obtain ⟨oc, od, kV, doc, pm, an, cdg, ct, osl, rfl, lk, hcg⟩ := F.ex
  refine ⟨fun pins s σ H Q I h => ?_⟩
  obtain ⟨⟨ps, hP, ht, ha⟩, h⟩ := h
  refine wpAny_Call_Name_kw (ld_glob I hg hm ?_ hdb)
  refine PySem.W.callWith_K (h₀ := X.base) I.ok.mod.kin hk ?_ (by rfl) (by rfl)
  show wpAny _ _ (spliced ((false, eval (.Lambda params body scope lpos) X.env) :: backTo pos (starEach [] X.env))) _ _ s
  refine Calls.spliced_cons (lam_makeG I TB hcode hP ht ha hdef (L.has I.ok) fun f c' pm' ctv H1 s' I1 gr hf hfn hfr hco => ?_)
  refine Calls.spliced_nil ⟨I1.kIn, ?_⟩
  have rc : codeAny (model X.prog X.w) X.A (.call (.ref g) ⟨[.ref f], []⟩) (CR (L2.CX X.prog X.w) X.stack X.prog X.w H1 s' Q E0) s' := by
    refine LamX.run_ofS (N := Ng) (ps := [a]) (us := [.ref f]) (vs := [.ref f]) lk hcg Sg (hr.mono (Nat.le_refl _)).room I1.env0 (hb s' [.ref f] I1.kIn rfl) (.cons rfl .nil) rfl fun _ => ?_
    have hr' : Rm true (k + 1) (X.A.deeper (envOfC x (defScope st) s'.heap.objs.size g cdg)) := hr.deeper _
    exact hG cdg f c' s' H1 Q (fun E H' Q' => t E σ H' Q') hr' (fun pn xe E p1 p2 hx => pe_actG (i := 0) I1 L hf hfn hfr (hbind _ _ _ _ _) hx hr' (fun A outer s H E hr2 => hbody A outer s H E f c' hr2) hNg hva hd hcd) hco (h H1 gr)
  refine wpAny_call (codeAny_mono rc fun r s2 hq => ?_)
  match r, hq with
  | .error e, hq =>
    obtain ⟨_, _, _, _, _, _, _, _, _, _, _, _, z⟩ := hq
    exact z.elim
  | .ok (.ret u), hq => exact I1.after hq
  | .ok .next, hq => exact hq.elim
  | .ok .brk, hq => exact hq.elim
  | .ok .cont, hq => exact hq.elim
end G

set_option Elab.async false
set_option linter.all false
set_option maxRecDepth 100000
set_option maxHeartbeats 4000000
/-! DFault: what a def makes of the lambda it is handed, told over data. -/
namespace G
open PySem PySem.Spec PyProof.Rows L2
/-- all that stands is fixed but for pens and tables -/
def Bs.cut (b : Bs) (Hf H : Hp) : Bs := ⟨fun a => if a ∈ b.M ∨ a ∈ b.T.map (·.1) then none else H a, Hf, b.M, b.T⟩
section
variable {K : PySem.W.Frag} {b : Bs} {Hf H Hf' H' : Hp} {σ : L2.St} {ρ : List Sl}
theorem Exit.cut (x : Exit K b Hf H) : Exit K (b.cut Hf H) Hf H :=
  { exF := x.exF, ex0 := Ex.refl _
    exB := fun a o e => by
      have e' : (if a ∈ b.M ∨ a ∈ b.T.map (·.1) then none else H a) = some o := e
      by_cases z : a ∈ b.M ∨ a ∈ b.T.map (·.1)
      · rw [if_pos z] at e'; cases e'
      · rw [if_neg z] at e'; exact e'
    frz := fun a _ h => h
    pens := fun p hp => ⟨(x.pens p hp).1, if_pos (Or.inl hp), (x.pens p hp).2.2⟩
    tabs := fun p hp => ⟨(x.tabs p hp).1, if_pos (Or.inr (List.mem_map.mpr ⟨p, hp, rfl⟩)), (x.tabs p hp).2.2⟩ }
theorem Fm.back (f : Fm K b Hf H σ ρ) (y : Exit K (b.cut Hf H) Hf' H') : Up b Hf H Hf' H' ∧ Fm K b Hf' H' σ ρ := by
  have x := f.ex
  have stay : ∀ a o, H a = some o → ¬ b.mt a → (b.cut Hf H).B a = some o := fun a o e n => by
    show (if a ∈ b.M ∨ a ∈ b.T.map (·.1) then none else H a) = some o
    rw [if_neg (show ¬ (a ∈ b.M ∨ a ∈ b.T.map (·.1)) from n)]
    exact e
  have up : Up b Hf H Hf' H' := ⟨y.ex0, fun a o e n => by
    have z := stay a o e n
    exact ⟨y.exB a o z, y.frz a (by rw [z]; exact fun q => nomatch q)⟩⟩
  have out : ∀ a o, b.B a = some o → ¬ b.mt a := fun a o e z => by
    rcases z with z | z
    · obtain ⟨_, z2, _⟩ := x.pens a z
      rw [z2] at e; cases e
    · obtain ⟨q, hq, eq⟩ := List.mem_map.mp z
      obtain ⟨_, z2, _⟩ := x.tabs q hq
      rw [eq, e] at z2; cases z2
  refine ⟨up, f.step { exF := y.exF, ex0 := x.ex0.trans y.ex0, exB := fun a o e => (up.2 a o (x.exB a o e) (out a o e)).1, frz := fun a h1 h2 => ?_, pens := fun p hp => ?_, tabs := fun p hp => ?_ } y.ex0 fun a xs h1 h2 h3 h4 => ?_⟩
  · cases hb : b.B a with
    | none => exact (h1 hb).elim
    | some o => exact (up.2 a o (x.exB a o hb) (out a o hb)).2 (x.frz a h1 h2)
  · obtain ⟨z1, z2, z3⟩ := y.pens p hp
    exact ⟨z1, (x.pens p hp).2.1, z3⟩
  · obtain ⟨z1, z2, z3, z4⟩ := y.tabs p hp
    exact ⟨z1, (x.tabs p hp).2.1, z3, z4⟩
  · have n : ¬ b.mt a := fun z => by
      rcases z with z | z
      · exact h4 z
      · obtain ⟨q, hq, eq⟩ := List.mem_map.mp z
        obtain ⟨_, _, _, t⟩ := x.tabs q hq
        exact t.ne (Or.inr ⟨xs, h1⟩) eq
    obtain ⟨k1, k2⟩ := up.2 a _ h1 n
    exact ⟨k2 h2, k1⟩
/-- one's own lists forgotten -/
def noOw : Sl → Sl
  | .ow _ => .no
  | s => s
theorem Fm.shut (f : Fm K b Hf H σ ρ) {b1 : Bs} {Hf1 H1 : Hp} (x : Exit K b1 Hf1 H1) (e : Ex Hf Hf1) (hm : ∀ p, p ∈ b.M → p ∈ b1.M) : Fm K b1 Hf1 H1 σ (ρ.map noOw) := by
  have own : ∀ i a, ¬ Own σ (ρ.map noOw) i a := fun i a ⟨⟨ds, h1⟩, _⟩ => by
    rw [List.getElem?_map] at h1
    cases q : ρ[i]? with
    | none => rw [q] at h1; cases h1
    | some s =>
      rw [q] at h1
      cases s <;> cases h1
  refine { ex := x, len := by rw [List.length_map]; exact f.len, sl := fun i o s h1 h2 => ?_, mine := fun i a z => (own i a z).elim, sep := fun i j a z => (own i a z).elim }
  rw [List.getElem?_map] at h2
  cases q : ρ[i]? with
  | none => rw [q] at h2; cases h2
  | some s0 =>
    rw [q] at h2
    have h2' : some (noOw s0) = some s := h2
    cases h2'
    have z := f.sl i o s0 h1 q
    match o, s0, z with
    | none, .no, _ => trivial
    | some _, .no, _ => trivial
    | none, .ow _, _ => trivial
    | some _, .ow _, _ => trivial
    | some v, .sh d, z => exact Rp.up e z
    | some v, .pen, z =>
      obtain ⟨p, hp, ev⟩ := z
      exact ⟨p, hm p hp, ev⟩
/-- the lambda's reading tl, over data -/
def TLd (K : PySem.W.Frag) (b : Bs) (Qb : D → Prop) (X : Addr → List (Str × D) → Prop) (tl : XK → Hp → VK → Prop) : Prop :=
  ∀ (b1 : Bs), Sub K b b1 → b1.M = b.M → b1.T = b.T → ∀ (Hf1 H1 : Hp) (k : VK) (E : XK), Exit K b1 Hf1 H1 → (∀ v d Hf' H', Up b1 Hf1 H1 Hf' H' → Exit K b1 Hf' H' → Rp K Hf' v d → Qb d → k v H') →
    (∀ C fs d Hf' H', Exit K b1 Hf' H' → ExD K Hf' d fs → X C fs → E (.ref C) d H') → tl E H1 k
/-- what the def that is handed the lambda makes of it: Fo tells, for what the lambda may give (Qb) and let out (X), what it gives -/
def TTd (K : PySem.W.Frag) (Fo : (D → Prop) → (Addr → List (Str × D) → Prop) → (D → Prop) → Prop) : (XK → Hp → VK → Prop) → Hp → VK → Prop := fun tl H Q =>
  ∃ (b0 : Bs) (Hf : Hp) (Qb : D → Prop) (X : Addr → List (Str × D) → Prop) (R : D → Prop), Exit K b0 Hf H ∧ TLd K (b0.cut Hf H) Qb X tl ∧ Fo Qb X R ∧ ∀ v d Hf' H', Exit K (b0.cut Hf H) Hf' H' → Rp K Hf' v d → R d → Q v H'
theorem TabOk.grow {P : Addr} {q : Str} {H1 : Hp} (x : Exit K b Hf H) (hT : (P, q) ∈ b.T) (hu : ∀ p ∈ b.T, p.1 = P → p.2 = q) (g : Grow P q H H1) (f : Fm K b Hf H σ ρ) : ∃ Hf1, Ex Hf Hf1 ∧ Fm K b Hf1 H1 σ ρ ∧ Up b Hf H Hf1 H1 := by
  rcases g with rfl | ⟨ps, more, c', hP, nC, rfl, ht, ha⟩
  · exact ⟨Hf, Ex.refl _, f, Up.refl⟩
  obtain ⟨t1, t2, t3, t4⟩ := x.tabs (P, q) hT
  have nCf := x.exF.no nC
  have nPc : P ≠ c' := ne_of_none hP nC
  have e := Ex.new (o := LamX.CodeO c' q) nCf
  have atb : ∀ a, a ≠ P → a ≠ c' → upd (upd H P (.tbl (ps ++ more))) c' (LamX.CodeO c' q) a = H a := fun a h1 h2 => by rw [upd_ne h2, upd_ne h1]
  have nP : ∀ a o, H a = some o → (∀ ps, o ≠ .tbl ps) → a ≠ P := fun a o h1 h2 z => by
    rw [z, hP] at h1
    exact h2 ps (Option.some.inj h1).symm
  have x' : Exit K b (upd Hf c' (LamX.CodeO c' q)) (upd (upd H P (.tbl (ps ++ more))) c' (LamX.CodeO c' q)) := by
    refine { exF := fun a o h => ?_, ex0 := x.ex0.trans e, exB := fun a o h => ?_, frz := fun a h1 h2 => ?_, pens := fun p hp => ?_, tabs := fun p hp => ?_ }
    · by_cases z : a = c'
      · subst z; rw [upd_same] at h ⊢; exact h
      · rw [upd_ne z] at h
        have n : a ≠ P := fun y => by rw [y, t1] at h; cases h
        rw [atb a n z]
        exact x.exF a o h
    · have h0 := x.exB a o h
      have n : a ≠ P := fun y => by rw [y, t2] at h; cases h
      rw [atb a n (ne_of_none h0 nC)]
      exact h0
    · have n : a ≠ c' := fun z => h1 (by rw [z]; exact x.exB.no nC)
      rw [upd_ne n]
      exact x.frz a h1 h2
    · obtain ⟨z1, z2, o, z3, z4⟩ := x.pens p hp
      have n1 : p ≠ c' := ne_of_none z3 nC
      have n2 : p ≠ P := fun y => t3 (by rw [← y]; exact hp)
      exact ⟨by rw [upd_ne n1]; exact z1, z2, o, by rw [atb p n2 n1]; exact z3, z4.up e⟩
    · obtain ⟨z1, z2, z3, ps', z4, z5, z6⟩ := x.tabs p hp
      have n1 : p.1 ≠ c' := ne_of_none z4 nC
      refine ⟨by rw [upd_ne n1]; exact z1, z2, z3, ?_⟩
      by_cases y : p.1 = P
      · rw [hu p hp y, y]
        refine ⟨ps ++ more, by rw [upd_ne nPc, upd_same], ht, fun pos cv hc => ?_⟩
        rcases ha pos cv hc with w | w
        · obtain ⟨ps2, w1, w2, w3⟩ := t4
          rw [hP] at w1
          cases w1
          obtain ⟨c0, e1, e2⟩ := w3 pos cv w
          exact ⟨c0, e1, e _ _ e2⟩
        · exact ⟨c', w, upd_same⟩
      · exact ⟨ps', by rw [atb p.1 y n1]; exact z4, z5, fun pos cv hc => by
          obtain ⟨c0, e1, e2⟩ := z6 pos cv hc
          exact ⟨c0, e1, e _ _ e2⟩⟩
  refine ⟨_, e, f.step x' e fun a xs h1 h2 _ _ => ?_, e, fun a o h n => ?_⟩
  · have n1 : a ≠ c' := ne_of_none h1 nC
    have n2 : a ≠ P := nP a _ h1 (fun ps z => by cases z)
    exact ⟨by rw [upd_ne n1]; exact h2, by rw [atb a n2 n1]; exact h1⟩
  · have n1 : a ≠ c' := ne_of_none h nC
    have n2 : a ≠ P := fun y => n (by rw [y]; exact Bs.mtT hT)
    exact ⟨by rw [atb a n2 n1]; exact h, fun z => by rw [upd_ne n1]; exact z⟩
/-- g(lambda: body), told over data -/
theorem de_lam {P : Addr} {q : Str} {Q Qb : D → Prop} {X : Addr → List (Str × D) → Prop} {Fo : (D → Prop) → (Addr → List (Str × D) → Prop) → (D → Prop) → Prop} {t : XK → TE} (hT : (P, q) ∈ b.T) (hu : ∀ p ∈ b.T, p.1 = P → p.2 = q)
    (h : ∀ (b1 : Bs) (E : XK), b1.M = b.M → b1.T = b.T → EL K b1 (ρ.map noOw) (fun _ => E) X → DE K b1 (ρ.map noOw) (t E) Qb) (hF : Fo Qb X Q) : DE K b ρ (tLamG P q (TTd K Fo) t) Q := fun Hf H σ k fr c => by
  obtain ⟨_, _, _, ps, h1, h2, h3⟩ := fr.ex.tabs (P, q) hT
  refine ⟨⟨ps, h1, h2, fun pos cv hc => ?_⟩, fun H1 g => ?_⟩
  · obtain ⟨c0, e1, e2⟩ := h3 pos cv hc
    exact ⟨c0, e1, fr.ex.exF _ _ e2⟩
  · obtain ⟨Hf1, e1, f1, up1⟩ := TabOk.grow fr.ex hT hu g fr
    refine ⟨b, Hf1, Qb, X, Q, f1.ex, fun b1 sub eM eT Hf2 H2 k2 E x2 hk hE => ?_, hF, fun v d Hf' H' x' r z => ?_⟩
    · have y2 := sub.2 _ _ x2
      have f2 := f1.shut x2 y2.ex0 (fun p hp => by rw [eM]; exact hp)
      refine h b1 E eM eT (fun Hf3 H3 σ3 f3 C fs d e z => hE C fs d Hf3 H3 f3.ex e z) Hf2 H2 σ k2 f2 fun v d Hf' H' u f r z => hk v d Hf' H' u f.ex r z
    · obtain ⟨u, f2⟩ := f1.back x'
      exact c v d Hf' H' (up1.trans u) f2 r z
end
end G

set_option Elab.async false
set_option linter.all false
set_option maxRecDepth 100000
set_option maxHeartbeats 4000000
/-! DMath: whole numbers: chains, *=, gcd, named constants; defs whose code is asked for. -/
namespace G
open PySem PySem.Spec PyProof.Rows L2
section
variable {K : PySem.W.Frag} {b : Bs} {ρ : List Sl} {ta tb te tc : TE} {tt tu : TT} {tr : TA} {Q : D → Prop} {H Hf : Hp}
theorem pe_globI {X : Cx} {x : Str} {i : Int} {pos : Pos} (hg : Gl X x) (hm : ∃ t, X.mg x = some (.int i t)) (hdb : (x == ("__debug__" : Str)) = false := by decide) : PE X (.Name x pos) (tC (.int i)) := by
  obtain ⟨t, hm⟩ := hm
  exact pe_glob (v := .int i) hg hm ⟨_, rfl⟩ hdb
/-- a < b < c of ints -/
theorem de_chainI {g g' : Int → Int → Bool} (h : DE K b ρ ta fun x => DE K b ρ tb fun y => ∃ i j, x = .int i ∧ y = .int j ∧ if g i j = true then DE K b ρ tc fun z => ∃ l, z = .int l ∧ Q (.bl (g' j l)) else Q (.bl false)) :
    DE K b ρ (tChain (rI0 fun i j => .bl (g i j)) (rI0 fun i j => .bl (g' i j)) ta tb tc) Q := fun Hf H σ k fr c => by
  refine h Hf H σ _ fr fun v x Hf1 H1 e1 f1 r1 q1 => ?_
  refine q1 Hf1 H1 σ _ f1 fun u y Hf2 H2 e2 f2 r2 ⟨i, j, ex, ey, q⟩ => ?_
  subst ex; subst ey
  refine ⟨i, j, r1.int_inv, r2.int_inv, g i j, rfl, ?_⟩
  by_cases z : g i j = true
  · rw [if_pos z] at q ⊢
    refine q Hf2 H2 σ _ f2 fun w z Hf3 H3 e3 f3 r3 ⟨l, ez, q3⟩ => ?_
    subst ez
    exact ⟨j, l, r2.int_inv, r3.int_inv, c _ _ Hf3 H3 ((e1.trans e2).trans e3) f3 (.bl _) q3⟩
  · rw [if_neg z] at q ⊢
    exact c _ _ Hf2 H2 (e1.trans e2) f2 (.bl _) q
/-- gcd(a, b) -/
theorem de_gcd (h : DE K b ρ ta fun x => DE K b ρ tb fun y => ∃ i j, x = .int i ∧ y = .int j ∧ Q (.int ((Nat.gcd i.natAbs j.natAbs : Nat) : Int))) : DE K b ρ (tCB rGcd (tCons ta (tCons tb tNil))) Q :=
  de_cb (da_cons (h.imp fun x hx => da_cons (hx.imp fun y ⟨i, j, e1, e2, q⟩ => da_nil fun Hf H σ k vs f rr c => by
    subst e1; subst e2
    cases rr with
    | cons r1 rr =>
      cases rr with
      | cons r2 rr =>
        cases rr
        have a := r1.int_inv; subst a
        have a := r2.int_inv; subst a
        exact ⟨i, j, rfl, c _ _ Hf H Up.refl f (.int _) q⟩)))
/-- x *= e -/
def ipM : TIp := fun x y H Q => ∃ i j, x = .int i ∧ y = .int j ∧ IntMulOk i j ∧ Q (.int (i * j)) H
theorem ip_mulG {X : Cx} : PIp X .Mult ipM := by
  intro pins s σ H x y v u Q I r1 r2 h
  obtain ⟨i, j, e1, e2, hm, q⟩ := h
  subst e1; subst e2
  obtain ⟨t, rfl⟩ := r1
  obtain ⟨t', rfl⟩ := r2
  exact imul_int ⟨.int _, H, I.tok _, ⟨_, rfl⟩, q⟩ hm
theorem ds_augM {nx bk ct : List Sl → Prop} {rt : D → Prop} {i : Nat} {a : Int} (hi : ρ[i]? = some (.sh (.int a))) (h : DE K b ρ te fun y => ∃ j, y = .int j ∧ IntMulOk a j ∧ nx (ρ.set i (.sh (.int (a * j))))) : DS K b ρ (tAug i te ipM) nx rt bk ct := fun Hf H σ D fr n r bk ct => by
  have hl : i < σ.length := by rw [fr.len]; exact (List.getElem?_eq_some_iff.mp hi).1
  have ho : σ[i]? = some σ[i] := List.getElem?_eq_getElem hl
  have z := fr.sl i _ _ ho hi
  generalize σ[i] = o at ho z
  match o, z with
  | none, z => exact z.elim
  | some v, z =>
    have ev := Rp.int_inv z
    subst ev
    refine ⟨.int a, ho, ?_⟩
    refine h Hf H σ _ fr fun v d Hf1 H1 e1 f1 r1 ⟨j, e, hm, q⟩ => ?_
    subst e
    exact ⟨a, j, rfl, r1.int_inv, hm, n _ _ Hf1 H1 e1.1 (f1.set (.int _)) q⟩
/-- what a lambda's call is, in the def that was handed it -/
theorem de_act {b0 : Bs} {tl : XK → Hp → VK → Prop} {Qb : D → Prop} {X : Addr → List (Str × D) → Prop} {f c' : Addr} {q : Str} {W : WX} {nx : List Sl} (htl : TLd K b0 Qb X tl) (sub : Sub K b0 b) (hM : b.M = b0.M) (hT : b.T = b0.T)
    (hc : b0.B c' = some (LamX.CodeO c' q)) (hE : EL K b ρ (fun σ => WE W σ) X) (hf : ρ[0]? = some (.sh (.fn f))) (hfree : ∀ (i : Nat) (s : Sl), ρ[i]? = some s → s = .no ∨ s = .sh .non ∨ s = .sh (.fn f)) :
    (∀ d, Qb d → Q d) → DE K b ρ (fun σZ HZ Q' => σZ[0]? = some (some (.ref f)) ∧ HZ c' = some (LamX.CodeO c' q) ∧ tl (WE W σZ) HZ Q') Q := fun hQ Hf H σ k fr c => by
  have hl : 0 < σ.length := by rw [fr.len]; exact (List.getElem?_eq_some_iff.mp hf).1
  have ho : σ[0]? = some σ[0] := List.getElem?_eq_getElem hl
  have z := fr.sl 0 _ _ ho hf
  generalize σ[0] = o at ho z
  have keep : ∀ Hf' H', Exit K b Hf' H' → Fm K b Hf' H' σ ρ := fun Hf' H' x => by
    have own : ∀ i a, ¬ Own σ ρ i a := fun i a ⟨⟨ds, h1⟩, _⟩ => by
      rcases hfree i _ h1 with h | h | h <;> cases h
    refine { ex := x, len := fr.len, sl := fun i o s h1 h2 => ?_, mine := fun i a z => (own i a z).elim, sep := fun i j a z => (own i a z).elim }
    have q := fr.sl i o s h1 h2
    rcases hfree i s h2 with h | h | h
    · subst h
      match o with
      | none => trivial
      | some _ => trivial
    · subst h
      match o, q with
      | some v, q =>
        have e := (show Rp K Hf v .non from q).non_inv
        subst e
        exact Rp.non
      | none, q => exact q.elim
    · subst h
      match o, q with
      | some v, q =>
        cases (show Rp K Hf v (.fn f) from q)
        exact Rp.fn f
      | none, q => exact q.elim
  match o, z with
  | none, z => exact z.elim
  | some v, z =>
    cases (show Rp K Hf v (.fn f) from z)
    refine ⟨ho, (sub.2 _ _ fr.ex).exB _ _ hc, ?_⟩
    exact htl b sub hM hT Hf H k (WE W σ) fr.ex (fun v d Hf' H' u x r z => c v d Hf' H' u (keep _ _ x) r (hQ d z)) (fun C fs d Hf' H' x e z => hE Hf' H' σ (keep _ _ x) C fs d e z)
end
end G

set_option Elab.async false
set_option linter.all false
set_option maxRecDepth 100000
set_option maxHeartbeats 4000000
/-! DEnd: the row's end for laws that make lambdas: the tables of their code. -/
namespace G
open PySem PySem.Spec PyProof.Rows L2
def spLawT (K : PySem.W.Frag) (cs : List (Addr × Addr)) : Sp := fun vs H Q _ => ∃ (a : Addr) (ns : List Int), vs = [.ref a] ∧ SqL K H a (ns.map V.int) ∧ ns.length ≤ 63 ∧ (∀ z ∈ ns, Builtin.Int.intBits z ≤ 1048576) ∧ (∀ p ∈ cs, H p.2 = some (.tbl #[])) ∧ ∀ H', Q (.bl true) H'
abbrev emptyTab : Obj := { cls := .none, data := .fields #[] }
section
variable {P : Program} {w : World} {K : PySem.W.Frag} {mg mb : Str → Option Value} {k : Nat} {fa a : Addr} {fd : FuncData} {s₁ : Shared} {vs : List Value} {ns : List Int} {cs : List (Addr × Addr)}
theorem law_inT (KX : K.In s₁.heap) (hT : ∀ p ∈ cs, s₁.heap.get? p.2 = some emptyTab) (nT : ∀ p ∈ cs, K.lookup p.2 = none) (hC : ∀ p ∈ cs, PySem.W.CodeHd s₁.heap p.1 p.2)
    (hM : ∀ H : Hp, (∀ b, H b ≠ none → b = a ∨ b ∈ cs.map (·.2)) → (∀ b, H b ≠ none → K.lookup b = none) → L2.Mod K mg (hidT s₁.heap H) ∧ SysD (hidT s₁.heap H) ∧ ∀ p ∈ cs, LamX.TabB (hidT s₁.heap H) mg p.1 p.2) (hg : s₁.gens = #[])
    (ha : s₁.heap.get? a = some { cls := .type "list", data := .seq vs.toArray }) (hi : IntsAre vs ns) (hl : ns.length ≤ 63) (hb : ∀ z ∈ ns, Builtin.Int.intBits z ≤ 1048576) (hr : Rm true k callerA)
    (F : ∀ base : Heap, L2.Mod K mg base → SysD base → (∀ p ∈ cs, LamX.TabB base mg p.1 p.2) → FnG P w K mg base true k fa fd (["script"] : List Str) (fun _ => spLawT K cs)) (hbind : ∀ (s : Shared) (u : Value), BindsTo s fd ⟨[u], []⟩ [("script", u)]) :
    codeAny (model P w) callerA (.call (.ref fa) ⟨[.ref a], []⟩) (fun r s' => r = .ok (.ret (.bool true)) ∧ OldK s₁.heap s'.heap ∧ s'.os = s₁.os ∧ AllBare s'.gens) s₁ := by
  have rv := vals_ints hi
  have isT : ∀ b : Addr, b ∈ cs.map (·.2) → s₁.heap.get? b = some emptyTab := fun b hb => by
    obtain ⟨p, hp, e⟩ := List.mem_map.mp hb
    rw [← e]
    exact hT p hp
  have aT : a ∉ cs.map (·.2) := fun z => by
    have q := isT a z
    rw [ha] at q
    cases congrArg Obj.data (Option.some.inj q)
  have none_in : ∀ (b : Addr), b ∉ ([] : List Addr) := fun b h => nomatch h
  have key : ∀ H : Hp, (∀ b, H b = none ∨ b ∈ cs.map (·.2) ∨ ∃ o xs, H b = some (.frz o (.lst xs))) → (∀ p ∈ cs, H p.2 = some (.tbl #[])) → SqL K H a (ns.map V.int) → HOk P w H s₁.heap → (∀ b, H b ≠ none → b = a ∨ b ∈ cs.map (·.2)) → (∀ b, H b ≠ none → K.lookup b = none) →
      codeAny (model P w) callerA (.call (.ref fa) ⟨[.ref a], []⟩) (fun r s' => r = .ok (.ret (.bool true)) ∧ OldK s₁.heap s'.heap ∧ s'.os = s₁.os ∧ AllBare s'.gens) s₁ := fun H hO hH hS hok hA hK => by
    obtain ⟨M, hsys, TB⟩ := hM H hA hK
    have e0 : Env0 P w K mg (hidT s₁.heap H) callerA [] s₁ H := { frames := rfl, mod := M, bs := fun b o e => of_hidT e, bsz := Nat.le_of_eq (hidT_size _ _), funs := trivial, frf := fun b h => (none_in b h).elim, hok := hok, bare := .of_eq hg }
    have go := (F _ M hsys TB).run callerA [] s₁ H ⟨[.ref a], []⟩ [.ref a] [.ref a] (fun v _ => v = .bl true) (fun _ _ _ => False) [] hr (fun p h => nomatch h) e0 (hbind s₁ (.ref a)) (.cons rfl .nil) ⟨a, ns, rfl, hS, hl, hb, hH, fun _ => rfl⟩
    refine codeAny_mono go (fun r s' h => ?_)
    match r, h with
    | .error e, h =>
      obtain ⟨_, _, _, _, _, _, _, _, _, _, _, _, z⟩ := h
      exact z.elim
    | .ok .next, h => exact h.elim
    | .ok .brk, h => exact h.elim
    | .ok .cont, h => exact h.elim
    | .ok (.ret u), h =>
      obtain ⟨v, H', os, bare, un, hok', ru, q⟩ := h
      have q' : v = .bl true := q
      rw [q'] at ru
      have eu : u = Value.bool true := ru
      rw [eu]
      have kept : ∀ b o, b ∉ cs.map (·.2) → s₁.heap.get? b = some o → s'.heap.get? b = some o := fun b o nb e => by
        rcases hO b with z | z | ⟨ob, xs, z⟩
        · exact un.keep b o e z (none_in b) (none_in b)
        · exact (nb z).elim
        · obtain ⟨e1, _⟩ := hok b _ z
          obtain ⟨e2, _⟩ := hok' b _ (un.frzs b ob _ z)
          rw [e] at e1
          rw [Option.some.inj e1]
          exact e2
      have grown : ∀ p ∈ cs, ∃ more : Array Value, s'.heap.get? p.2 = some { cls := .none, data := .fields more } := fun p hp => by
        obtain ⟨more, z⟩ := un.tbls p.2 #[] (hH p hp)
        exact ⟨_, hok' p.2 _ z⟩
      refine ⟨rfl, ⟨fun b o e => ?_, fun b o e => ?_⟩, os, bare⟩
      · by_cases hb : b ∈ cs.map (·.2)
        · obtain ⟨p, hp, ep⟩ := List.mem_map.mp hb
          obtain ⟨more, hm⟩ := grown p hp
          rw [← ep] at e ⊢
          rw [hT p hp] at e
          cases e
          exact .inr (.inl ⟨((hC p hp).tab (hT p hp)).isCodeTable, rfl, #[], more, rfl, by rw [Array.empty_append]; exact hm⟩)
        · exact .inl (kept b o hb e)
      · by_cases hb : b ∈ cs.map (·.2)
        · obtain ⟨p, hp, ep⟩ := List.mem_map.mp hb
          obtain ⟨more, hm⟩ := grown p hp
          rw [← ep]
          exact ⟨_, hm⟩
        · exact ⟨o, kept b o hb e⟩
  have memT : ∀ p ∈ cs, p.2 ∈ cs.map (·.2) := fun p hp => List.mem_map.mpr ⟨p, hp, rfl⟩
  have neA : ∀ b, b ∈ cs.map (·.2) → b ≠ a := fun b h z => aT (by rw [← z]; exact h)
  let ob : Obj := { cls := .type "list", data := .seq vs.toArray }
  have tabs : ∀ (X : Option HO), (∀ b : Addr, b ∈ cs.map (·.2) → (fun b => if b ∈ cs.map (·.2) then some (HO.tbl #[]) else if b = a then X else none : Hp) b = some (.tbl #[])) := fun X b h => if_pos h
  have atA : ∀ (X : Option HO), (fun b => if b ∈ cs.map (·.2) then some (HO.tbl #[]) else if b = a then X else none : Hp) a = X := fun X => (if_neg aT).trans (if_pos rfl)
  have oth : ∀ (X : Option HO) (b : Addr), b ∉ cs.map (·.2) → b ≠ a → (fun b => if b ∈ cs.map (·.2) then some (HO.tbl #[]) else if b = a then X else none : Hp) b = none := fun X b h1 h2 => (if_neg h1).trans (if_neg h2)
  have nK : ∀ b, b ∈ cs.map (·.2) → K.lookup b = none := fun b h => by
    obtain ⟨p, hp, e⟩ := List.mem_map.mp h
    rw [← e]
    exact nT p hp
  cases hk : K.lookup a with
  | some o =>
    have e := KX a o hk
    rw [ha] at e
    have e' := Option.some.inj e
    subst e'
    refine key (fun b => if b ∈ cs.map (·.2) then some (HO.tbl #[]) else if b = a then none else none) (fun b => ?_) (fun p hp => tabs none _ (memT p hp)) (Or.inr ⟨_, vs.toArray, _, hk, rfl, rfl, rfl, ?_, ?_⟩) (fun b u e => ?_) (fun b z => ?_) (fun b z => ?_)
    · by_cases h1 : b ∈ cs.map (·.2)
      · exact Or.inr (Or.inl h1)
      · by_cases h2 : b = a
        · subst h2; exact Or.inl (atA none)
        · exact Or.inl (oth none b h1 h2)
    · rw [List.size_toArray, hi.length]; exact Nat.le_trans hl (by decide)
    · rw [List.toList_toArray]; exact rv
    · by_cases h1 : b ∈ cs.map (·.2)
      · rw [tabs none b h1] at e
        cases e
        exact isT b h1
      · by_cases h2 : b = a
        · subst h2; rw [atA none] at e; cases e
        · rw [oth none b h1 h2] at e; cases e
    · by_cases h1 : b ∈ cs.map (·.2)
      · exact Or.inr h1
      · by_cases h2 : b = a
        · exact Or.inl h2
        · exact (z (oth none b h1 h2)).elim
    · by_cases h1 : b ∈ cs.map (·.2)
      · exact nK b h1
      · by_cases h2 : b = a
        · subst h2; exact (z (atA none)).elim
        · exact (z (oth none b h1 h2)).elim
  | none =>
    refine key (fun b => if b ∈ cs.map (·.2) then some (HO.tbl #[]) else if b = a then some (.frz ob (.lst (ns.map V.int))) else none) (fun b => ?_) (fun p hp => tabs (some (.frz ob (.lst (ns.map V.int)))) _ (memT p hp)) (Or.inl (Or.inr ⟨ob, atA (some (.frz ob (.lst (ns.map V.int))))⟩)) (fun b u e => ?_) (fun b z => ?_) (fun b z => ?_)
    · by_cases h1 : b ∈ cs.map (·.2)
      · exact Or.inr (Or.inl h1)
      · by_cases h2 : b = a
        · subst h2; exact Or.inr (Or.inr ⟨_, _, atA _⟩)
        · exact Or.inl (oth _ b h1 h2)
    · by_cases h1 : b ∈ cs.map (·.2)
      · rw [tabs _ b h1] at e
        cases e
        exact isT b h1
      · by_cases h2 : b = a
        · subst h2
          rw [atA] at e
          cases e
          exact ⟨ha, by rw [List.length_map]; exact Nat.le_trans hl (by decide), vs, _, rv, ha⟩
        · rw [oth _ b h1 h2] at e; cases e
    · by_cases h1 : b ∈ cs.map (·.2)
      · exact Or.inr h1
      · by_cases h2 : b = a
        · exact Or.inl h2
        · exact (z (oth _ b h1 h2)).elim
    · by_cases h1 : b ∈ cs.map (·.2)
      · exact nK b h1
      · by_cases h2 : b = a
        · subst h2; exact hk
        · exact (z (oth _ b h1 h2)).elim
end
/-- the end of the row -/
theorem walkGT {l : PySem.W.OpenLaw} {k : Nat} {q : Program} {loose : List Str} {XP : (Str → Option Value) → Heap → Prop} {YP : World → Heap → Prop} {d : DefRec} {K : Params → PySem.W.Frag} (xs : List Str)
    (hn : l.most = some 63) (hdf : d.params.defaults = []) (hi : importsNone q = true) (hx : (xs.all fun x => ((recsOf q).find? fun e => e.name == x).isSome) = true) (hr : Rm true k callerA) (hY : ∀ (w : World) (h : Heap), YP w h → (K w.params).In h)
    (F : ∀ (w : World) (mg : Str → Option Value) (fa : Addr) (h : Heap), (K w.params).In h → h.Ns mainGlobals mg → mg d.name = some (.ref fa) →
      ∃ (fd : FuncData) (cs : List (Addr × Addr)), (∀ p ∈ cs, (K w.params).lookup p.2 = none) ∧ (∀ p ∈ cs, ∃ x ∈ xs, PySem.W.tabIn (K w.params) x = some p) ∧ (∀ (s : Shared) (u : Value), BindsTo s fd ⟨[u], []⟩ [("script", u)]) ∧
        ∀ base : Heap, L2.Mod (K w.params) mg base → SysD base → (∀ p ∈ cs, LamX.TabB base mg p.1 p.2) → FnG l.prog w (K w.params) mg base true k fa fd (["script"] : List Str) (fun _ => spLawT (K w.params) cs)) :
    PySem.W.WalkO q loose XP YP l.row.toRowW d [] (fun f vs => PySem.call f vs) := by
  refine Att.attach_callB hn hdf fun w s₀ s₁ mg mb fa o pm cd doc a vs ns G Y ho hd hcd hmg hobj hints hlen hbits hg => ?_
  have KX := hY w _ Y
  obtain ⟨fd, cs, nT, ht, hb, hF⟩ := F w mg fa _ KX G.T.g hmg
  have S := G.T.seer hi
  have tb : ∀ p ∈ cs, PySem.W.CodeHd s₁.heap p.1 p.2 ∧ s₁.heap.get? p.2 = some emptyTab := fun p hp => by
    obtain ⟨x, hxm, e⟩ := ht p hp
    have z := List.all_eq_true.mp hx x hxm
    obtain ⟨d0, hd0⟩ := Option.isSome_iff_exists.mp z
    exact PySem.W.tab_of G.T KX hd0 e
  refine law_inT KX (fun p hp => (tb p hp).2) nT (fun p hp => (tb p hp).1) (fun H hA hK => ?_) hg hobj hints hlen hbits hr hF hb
  have tabAt : ∀ b, b ∈ cs.map (·.2) → s₁.heap.get? b = some emptyTab := fun b h => by
    obtain ⟨p, hp, e⟩ := List.mem_map.mp h
    rw [← e]
    exact (tb p hp).2
  have free : ∀ {b : Addr} {o : Obj}, s₁.heap.get? b = some o → (∀ vs n, o.data ≠ .seq vs n) → o.data ≠ .fields #[] → H b = none := fun {b o} e h1 h2 => by
    cases z : H b with
    | none => rfl
    | some u =>
      rcases hA b (by rw [z]; exact fun y => nomatch y) with y | y
      · rw [y, hobj] at e
        cases e
        exact (h1 _ _ rfl).elim
      · rw [tabAt b y] at e
        cases e
        exact (h2 rfl).elim
  have noA : ∀ {b : Addr} {o : Obj} {es : Array DictEntry} {ep : Nat}, s₁.heap.get? b = some o → o.data = .dict es ep → H b = none := fun {b o es ep} e dd => free e (fun vs n z => by rw [dd] at z; cases z) (fun z => by rw [dd] at z; cases z)
  have nsK : ∀ {b : Addr} {m : Str → Option Value}, s₁.heap.Ns b m → (hidT s₁.heap H).Ns b m := fun {b m} x => by
    obtain ⟨o, es, ep, e, dd, r⟩ := x
    exact ⟨o, es, ep, hidT_get e (noA e dd), dd, r⟩
  have kin : (K w.params).In (hidT s₁.heap H) := fun b o e => by
    refine hidT_get (KX b o e) ?_
    cases z : H b with
    | none => rfl
    | some u =>
      rw [hK b (by rw [z]; exact fun y => nomatch y)] at e
      cases e
  obtain ⟨mc, l1, l2⟩ := G.T.nolimit
  obtain ⟨so, ses, sep, se, sd⟩ := sys_of S
  refine ⟨{ kin := kin, glob := nsK G.T.g, blt := ⟨mb, nsK G.T.b, G.T.builtins⟩, nolimit := ⟨mc, nsK l1, l2⟩ }, ⟨so, ses, sep, hidT_get se (noA se sd), sd⟩, fun p hp => ?_⟩
  obtain ⟨C, hTp⟩ := tb p hp
  refine ⟨?_, ?_, fun z => ?_⟩
  · obtain ⟨o, us, file, tf, flags, tg, inF, text, tt, e1, r1, r2, r3, r⟩ := C
    refine ⟨o, us, file, tf, flags, tg, inF, text, tt, hidT_get e1 (free e1 (fun vs n z => ?_) fun z => ?_), r1, r2, r3, r⟩
    · rw [r2] at z; cases z
    · rw [r2] at z
      cases z
      simp at r3
  · obtain ⟨bm, ob, b1, b2, b3, b4, b5, b6⟩ := G.T.bmain
    have nG : bm ≠ mainGlobals := fun q => by
      obtain ⟨o, es, ep, e, hd, _⟩ := G.T.g
      rw [q, e] at b3
      cases b3
      rw [hd] at b6
      cases b6
    have nP : bm ≠ p.2 := fun q => by
      rw [q, hTp] at b3
      cases b3
      cases b6
    exact ⟨bm, ob, b1, b2, nG, nP, hidT_get b3 (free b3 (fun vs n z => by rw [b6] at z; cases z) fun z => by rw [b6] at z; cases z), b4, b5, b6⟩
  · obtain ⟨o, es, ep, e, hd, _⟩ := G.T.g
    rw [z, hTp] at e
    cases e
    cases hd
end G

set_option Elab.async false
set_option linter.all false
set_option maxRecDepth 100000
set_option maxHeartbeats 4000000
/-! DOk: data that == may be asked of; data equal to itself. -/
namespace G
open PySem PySem.Spec PyProof.Rows L2
structure Od (n : Nat) (d : D) : Prop where
  pl : d.pl = true
  nd : d.nd = true
  cl : d.py.canLay0 = true
  dp : d.py.depth ≤ n
structure OdL (n : Nat) (l : List D) : Prop where
  pl : D.plL l = true
  nd : D.ndL l = true
  cl : PyData.canLayAll0 (D.pyL l) = true
  dp : PyData.depthAll (D.pyL l) ≤ n
section
variable {n m : Nat} {d : D} {l : List D}
theorem Od.mono (h : Od n d) (a : n ≤ m) : Od m d := { pl := h.pl, nd := h.nd, cl := h.cl, dp := Nat.le_trans h.dp a }
theorem Od.ok (h : Od n d) (a : n ≤ 64) : okD d = true := by
  unfold okD SeqAt.shaped
  rw [h.pl, h.nd, h.cl, decide_eq_true (Nat.le_trans h.dp a)] <;> rfl
theorem Od.refl (h : Od n d) : eqD d d = true := SeqAt.eqv_refl d.py h.cl
theorem Od.str {s : Str} (h : PyData.strOk s = true) : Od n (.str s) := { pl := by simp [D.pl], nd := by simp [D.nd], cl := by simpa only [D.py, PyData.canLay0] using h, dp := by simp [D.py, PyData.depth] }
theorem Od.int {i : Int} : Od n (.int i) := { pl := by simp [D.pl], nd := by simp [D.nd], cl := by simp [D.py, PyData.canLay0], dp := by simp [D.py, PyData.depth] }
theorem OdL.nil : OdL n [] := { pl := by simp [D.plL], nd := by simp [D.ndL], cl := by simp [D.pyL, PyData.canLayAll0], dp := by simp [D.pyL, PyData.depthAll] }
theorem OdL.cons (h : Od n d) (r : OdL n l) : OdL n (d :: l) :=
  { pl := by simp only [D.plL, h.pl, r.pl] <;> rfl, nd := by simp only [D.ndL, h.nd, r.nd] <;> rfl, cl := by simp only [D.pyL, PyData.canLayAll0, h.cl, r.cl] <;> rfl
    dp := by simp only [D.pyL, PyData.depthAll]; exact Nat.max_le.mpr ⟨h.dp, r.dp⟩ }
theorem OdL.tup (h : OdL n l) : Od (n + 1) (.tup l) :=
  { pl := by simpa only [D.pl] using h.pl, nd := by simpa only [D.nd] using h.nd, cl := by simpa only [D.py, PyData.canLay0] using h.cl, dp := by simp only [D.py, PyData.depth]; exact Nat.succ_le_succ h.dp }
theorem OdL.lst (h : OdL n l) : Od (n + 1) (.lst l) :=
  { pl := by simpa only [D.pl] using h.pl, nd := by simpa only [D.nd] using h.nd, cl := by simpa only [D.py, PyData.canLay0] using h.cl, dp := by simp only [D.py, PyData.depth]; exact Nat.succ_le_succ h.dp }
theorem Od.dec (h1 : d.pl = true) (h2 : d.nd = true) (h3 : d.py.canLay0 = true) (h4 : d.py.depth ≤ n) : Od n d := ⟨h1, h2, h3, h4⟩
end
theorem DS.mid {K : PySem.W.Frag} {b : Bs} {ρ : List Sl} {ts : TS} {mid nx bk ct : List Sl → Prop} {rt : D → Prop} (h : DS K b ρ ts mid rt bk ct) (i : ∀ ρ, mid ρ → nx ρ) : DS K b ρ ts nx rt bk ct := fun Hf H σ D fr n r bk ct =>
  h Hf H σ D fr (fun ρ' σ' Hf' H' e f q => n ρ' σ' Hf' H' e f (i ρ' q)) r bk ct
end G

set_option Elab.async false
set_option linter.all false
set_option maxRecDepth 100000
set_option maxHeartbeats 4000000
namespace Law
open PySem PySem.Spec PyProof.Rows L2 G
def top (i : Nat) : Stmt := PySem.Challenge.pw_genuspapers_k21_whole_rests_of_ratios.main.body.getD i (.Pass ⟨0, 0, 0, 0⟩)
abbrev s_is_integer : Stmt := top 20
abbrev nm_is_integer : List Str := (["value"] : List Str)
theorem sc_is_integer : FnScope nm_is_integer (["value"] : List Str) (defScope s_is_integer) := ⟨rfl, rfl, rfl, by decide +kernel, rfl, by decide +kernel, by decide +kernel⟩
abbrev s_is_ratio : Stmt := top 21
abbrev nm_is_ratio : List Str := (["value"] : List Str)
theorem sc_is_ratio : FnScope nm_is_ratio (["value"] : List Str) (defScope s_is_ratio) := ⟨rfl, rfl, rfl, by decide +kernel, rfl, by decide +kernel, by decide +kernel⟩
abbrev s_pair : Stmt := top 22
abbrev nm_pair : List Str := (["number"] : List Str)
theorem sc_pair : FnScope nm_pair (["number"] : List Str) (defScope s_pair) := ⟨rfl, rfl, rfl, by decide +kernel, rfl, by decide +kernel, by decide +kernel⟩
abbrev s_is_small_prime : Stmt := top 26
abbrev nm_is_small_prime : List Str := (["p", "d"] : List Str)
theorem sc_is_small_prime : FnScope nm_is_small_prime (["p"] : List Str) (defScope s_is_small_prime) := ⟨rfl, rfl, rfl, by decide +kernel, rfl, by decide +kernel, by decide +kernel⟩
abbrev s_need_prime : Stmt := top 27
abbrev nm_need_prime : List Str := (["p"] : List Str)
theorem sc_need_prime : FnScope nm_need_prime (["p"] : List Str) (defScope s_need_prime) := ⟨rfl, rfl, rfl, by decide +kernel, rfl, by decide +kernel, by decide +kernel⟩
abbrev s_times_in : Stmt := top 28
abbrev nm_times_in : List Str := (["number", "p", "count"] : List Str)
theorem sc_times_in : FnScope nm_times_in (["number", "p"] : List Str) (defScope s_times_in) := ⟨rfl, rfl, rfl, by decide +kernel, rfl, by decide +kernel, by decide +kernel⟩
abbrev s_power_of : Stmt := top 29
abbrev nm_power_of : List Str := (["p", "times", "found", "lap"] : List Str)
theorem sc_power_of : FnScope nm_power_of (["p", "times"] : List Str) (defScope s_power_of) := ⟨rfl, rfl, rfl, by decide +kernel, rfl, by decide +kernel, by decide +kernel⟩
abbrev s_power_in : Stmt := top 30
abbrev nm_power_in : List Str := (["number", "p"] : List Str)
theorem sc_power_in : FnScope nm_power_in (["number", "p"] : List Str) (defScope s_power_in) := ⟨rfl, rfl, rfl, by decide +kernel, rfl, by decide +kernel, by decide +kernel⟩
abbrev s_is_whole_by : Stmt := top 31
abbrev nm_is_whole_by : List Str := (["ratio", "p"] : List Str)
theorem sc_is_whole_by : FnScope nm_is_whole_by (["ratio", "p"] : List Str) (defScope s_is_whole_by) := ⟨rfl, rfl, rfl, by decide +kernel, rfl, by decide +kernel, by decide +kernel⟩
abbrev s_back_by : Stmt := top 32
abbrev nm_back_by : List Str := (["number", "q", "left", "right", "first", "second", "part"] : List Str)
theorem sc_back_by : FnScope nm_back_by (["number", "q"] : List Str) (defScope s_back_by) := ⟨rfl, rfl, rfl, by decide +kernel, rfl, by decide +kernel, by decide +kernel⟩
abbrev s_rest_by : Stmt := top 33
abbrev nm_rest_by : List Str := (["ratio", "q", "top", "bottom"] : List Str)
theorem sc_rest_by : FnScope nm_rest_by (["ratio", "q"] : List Str) (defScope s_rest_by) := ⟨rfl, rfl, rfl, by decide +kernel, rfl, by decide +kernel, by decide +kernel⟩
abbrev s_rest_of_ratio : Stmt := top 34
abbrev nm_rest_of_ratio : List Str := (["ratio", "p", "k"] : List Str)
theorem sc_rest_of_ratio : FnScope nm_rest_of_ratio (["ratio", "p", "k"] : List Str) (defScope s_rest_of_ratio) := ⟨rfl, rfl, rfl, by decide +kernel, rfl, by decide +kernel, by decide +kernel⟩
abbrev s__law_pen : Stmt := top 36
abbrev nm__law_pen : List Str := (["script", "fold", "cell"] : List Str)
theorem sc__law_pen : FnScope nm__law_pen (["script"] : List Str) (defScope s__law_pen) := ⟨rfl, rfl, rfl, by decide +kernel, rfl, by decide +kernel, by decide +kernel⟩
abbrev s__law_draw : Stmt := top 37
abbrev nm__law_draw : List Str := (["pen", "many", "cell", "digit", "blend"] : List Str)
theorem sc__law_draw : FnScope nm__law_draw (["pen", "many"] : List Str) (defScope s__law_draw) := ⟨rfl, rfl, rfl, by decide +kernel, rfl, by decide +kernel, by decide +kernel⟩
abbrev s__law_pick : Stmt := top 38
abbrev nm__law_pick : List Str := (["pen", "some"] : List Str)
theorem sc__law_pick : FnScope nm__law_pick (["pen", "some"] : List Str) (defScope s__law_pick) := ⟨rfl, rfl, rfl, by decide +kernel, rfl, by decide +kernel, by decide +kernel⟩
abbrev s__law_is : Stmt := top 39
abbrev nm__law_is : List Str := (["told", "due", "at"] : List Str)
theorem sc__law_is : FnScope nm__law_is (["told", "due"] : List Str) (defScope s__law_is) := ⟨rfl, rfl, rfl, by decide +kernel, rfl, by decide +kernel, by decide +kernel⟩
abbrev s__law_divisor : Stmt := top 40
abbrev nm__law_divisor : List Str := (["one", "other"] : List Str)
theorem sc__law_divisor : FnScope nm__law_divisor (["one", "other"] : List Str) (defScope s__law_divisor) := ⟨rfl, rfl, rfl, by decide +kernel, rfl, by decide +kernel, by decide +kernel⟩
abbrev s__law_low : Stmt := top 41
abbrev nm__law_low : List Str := (["top", "bottom", "by"] : List Str)
theorem sc__law_low : FnScope nm__law_low (["top", "bottom"] : List Str) (defScope s__law_low) := ⟨rfl, rfl, rfl, by decide +kernel, rfl, by decide +kernel, by decide +kernel⟩
abbrev s__law_is_whole : Stmt := top 42
abbrev nm__law_is_whole : List Str := (["value"] : List Str)
theorem sc__law_is_whole : FnScope nm__law_is_whole (["value"] : List Str) (defScope s__law_is_whole) := ⟨rfl, rfl, rfl, by decide +kernel, rfl, by decide +kernel, by decide +kernel⟩
abbrev s__law_fault : Stmt := top 43
abbrev nm__law_fault : List Str := (["call", "found", "e"] : List Str)
theorem sc__law_fault : FnScope nm__law_fault (["call"] : List Str) (defScope s__law_fault) := ⟨rfl, rfl, rfl, by decide +kernel, rfl, by decide +kernel, by decide +kernel⟩
abbrev s__law_kinds : Stmt := top 44
abbrev nm__law_kinds : List Str := (["e", "found"] : List Str)
theorem sc__law_kinds : FnScope nm__law_kinds (["e"] : List Str) (defScope s__law_kinds) := ⟨rfl, rfl, rfl, by decide +kernel, rfl, by decide +kernel, by decide +kernel⟩
abbrev s__law_more_kinds : Stmt := top 45
abbrev nm__law_more_kinds : List Str := (["e", "found"] : List Str)
theorem sc__law_more_kinds : FnScope nm__law_more_kinds (["e"] : List Str) (defScope s__law_more_kinds) := ⟨rfl, rfl, rfl, by decide +kernel, rfl, by decide +kernel, by decide +kernel⟩
abbrev s__law_power_of : Stmt := top 46
abbrev nm__law_power_of : List Str := (["p", "k", "found", "lap"] : List Str)
theorem sc__law_power_of : FnScope nm__law_power_of (["p", "k"] : List Str) (defScope s__law_power_of) := ⟨rfl, rfl, rfl, by decide +kernel, rfl, by decide +kernel, by decide +kernel⟩
abbrev s__law_times_in : Stmt := top 47
abbrev nm__law_times_in : List Str := (["number", "p", "count"] : List Str)
theorem sc__law_times_in : FnScope nm__law_times_in (["number", "p"] : List Str) (defScope s__law_times_in) := ⟨rfl, rfl, rfl, by decide +kernel, rfl, by decide +kernel, by decide +kernel⟩
abbrev s__law_ends : Stmt := top 48
abbrev nm__law_ends : List Str := (["ratio"] : List Str)
theorem sc__law_ends : FnScope nm__law_ends (["ratio"] : List Str) (defScope s__law_ends) := ⟨rfl, rfl, rfl, by decide +kernel, rfl, by decide +kernel, by decide +kernel⟩
abbrev s__law_bad_small_prime : Stmt := top 49
abbrev nm__law_bad_small_prime : List Str := (["pen"] : List Str)
theorem sc__law_bad_small_prime : FnScope nm__law_bad_small_prime (["pen"] : List Str) (defScope s__law_bad_small_prime) := ⟨rfl, rfl, rfl, by decide +kernel, rfl, by decide +kernel, by decide +kernel⟩
abbrev s__law_prime : Stmt := top 50
abbrev nm__law_prime : List Str := (["pen"] : List Str)
theorem sc__law_prime : FnScope nm__law_prime (["pen"] : List Str) (defScope s__law_prime) := ⟨rfl, rfl, rfl, by decide +kernel, rfl, by decide +kernel, by decide +kernel⟩
abbrev s_law : Stmt := top 51
abbrev nm_law : List Str := (["script", "pen", "lap", "p", "k", "top", "bottom", "ratio", "under", "told", "q", "times", "number", "odd", "bad", "worse", "lost"] : List Str)
theorem sc_law : FnScope nm_law (["script"] : List Str) (defScope s_law) := ⟨rfl, rfl, rfl, by decide +kernel, rfl, by decide +kernel, by decide +kernel⟩
abbrev s_BadNumber_init : Stmt := inClass (top 3) 0
abbrev nm_BadNumber_init : List Str := (["self", "what", "number"] : List Str)
theorem sc_BadNumber_init : FnScope nm_BadNumber_init (["self", "what", "number"] : List Str) (defScope s_BadNumber_init) := ⟨rfl, rfl, rfl, by decide +kernel, rfl, by decide +kernel, by decide +kernel⟩
abbrev s_BadRow_init : Stmt := inClass (top 4) 0
abbrev nm_BadRow_init : List Str := (["self", "what", "row"] : List Str)
theorem sc_BadRow_init : FnScope nm_BadRow_init (["self", "what", "row"] : List Str) (defScope s_BadRow_init) := ⟨rfl, rfl, rfl, by decide +kernel, rfl, by decide +kernel, by decide +kernel⟩
abbrev s_BadTable_init : Stmt := inClass (top 5) 0
abbrev nm_BadTable_init : List Str := (["self", "what"] : List Str)
theorem sc_BadTable_init : FnScope nm_BadTable_init (["self", "what"] : List Str) (defScope s_BadTable_init) := ⟨rfl, rfl, rfl, by decide +kernel, rfl, by decide +kernel, by decide +kernel⟩
abbrev s_BadForm_init : Stmt := inClass (top 6) 0
abbrev nm_BadForm_init : List Str := (["self", "what"] : List Str)
theorem sc_BadForm_init : FnScope nm_BadForm_init (["self", "what"] : List Str) (defScope s_BadForm_init) := ⟨rfl, rfl, rfl, by decide +kernel, rfl, by decide +kernel, by decide +kernel⟩
abbrev s_BadBook_init : Stmt := inClass (top 7) 0
abbrev nm_BadBook_init : List Str := (["self", "what"] : List Str)
theorem sc_BadBook_init : FnScope nm_BadBook_init (["self", "what"] : List Str) (defScope s_BadBook_init) := ⟨rfl, rfl, rfl, by decide +kernel, rfl, by decide +kernel, by decide +kernel⟩
abbrev s_BadName_init : Stmt := inClass (top 8) 0
abbrev nm_BadName_init : List Str := (["self", "name"] : List Str)
theorem sc_BadName_init : FnScope nm_BadName_init (["self", "name"] : List Str) (defScope s_BadName_init) := ⟨rfl, rfl, rfl, by decide +kernel, rfl, by decide +kernel, by decide +kernel⟩
abbrev s_BadText_init : Stmt := inClass (top 9) 0
abbrev nm_BadText_init : List Str := (["self", "line", "word"] : List Str)
theorem sc_BadText_init : FnScope nm_BadText_init (["self", "line", "word"] : List Str) (defScope s_BadText_init) := ⟨rfl, rfl, rfl, by decide +kernel, rfl, by decide +kernel, by decide +kernel⟩
abbrev s_NoPlace_init : Stmt := inClass (top 10) 0
abbrev nm_NoPlace_init : List Str := (["self", "what", "index"] : List Str)
theorem sc_NoPlace_init : FnScope nm_NoPlace_init (["self", "what", "index"] : List Str) (defScope s_NoPlace_init) := ⟨rfl, rfl, rfl, by decide +kernel, rfl, by decide +kernel, by decide +kernel⟩
abbrev s_NoName_init : Stmt := inClass (top 11) 0
abbrev nm_NoName_init : List Str := (["self", "name"] : List Str)
theorem sc_NoName_init : FnScope nm_NoName_init (["self", "name"] : List Str) (defScope s_NoName_init) := ⟨rfl, rfl, rfl, by decide +kernel, rfl, by decide +kernel, by decide +kernel⟩
abbrev s_TakenName_init : Stmt := inClass (top 12) 0
abbrev nm_TakenName_init : List Str := (["self", "name"] : List Str)
theorem sc_TakenName_init : FnScope nm_TakenName_init (["self", "name"] : List Str) (defScope s_TakenName_init) := ⟨rfl, rfl, rfl, by decide +kernel, rfl, by decide +kernel, by decide +kernel⟩
abbrev s_Unlike_init : Stmt := inClass (top 13) 0
abbrev nm_Unlike_init : List Str := (["self", "what"] : List Str)
theorem sc_Unlike_init : FnScope nm_Unlike_init (["self", "what"] : List Str) (defScope s_Unlike_init) := ⟨rfl, rfl, rfl, by decide +kernel, rfl, by decide +kernel, by decide +kernel⟩
abbrev s_NotThere_init : Stmt := inClass (top 14) 0
abbrev nm_NotThere_init : List Str := (["self", "paper"] : List Str)
theorem sc_NotThere_init : FnScope nm_NotThere_init (["self", "paper"] : List Str) (defScope s_NotThere_init) := ⟨rfl, rfl, rfl, by decide +kernel, rfl, by decide +kernel, by decide +kernel⟩
abbrev s_TooMany_init : Stmt := inClass (top 15) 0
abbrev nm_TooMany_init : List Str := (["self", "what", "many", "limit"] : List Str)
theorem sc_TooMany_init : FnScope nm_TooMany_init (["self", "what", "many", "limit"] : List Str) (defScope s_TooMany_init) := ⟨rfl, rfl, rfl, by decide +kernel, rfl, by decide +kernel, by decide +kernel⟩
abbrev s_NotKept_init : Stmt := inClass (top 16) 0
abbrev nm_NotKept_init : List Str := (["self", "promise", "witness"] : List Str)
theorem sc_NotKept_init : FnScope nm_NotKept_init (["self", "promise", "witness"] : List Str) (defScope s_NotKept_init) := ⟨rfl, rfl, rfl, by decide +kernel, rfl, by decide +kernel, by decide +kernel⟩
structure Ad where
  f_is_integer : Addr
  d_is_integer : FuncData
  f_is_ratio : Addr
  d_is_ratio : FuncData
  f_pair : Addr
  d_pair : FuncData
  f_is_small_prime : Addr
  d_is_small_prime : FuncData
  f_need_prime : Addr
  d_need_prime : FuncData
  f_times_in : Addr
  d_times_in : FuncData
  f_power_of : Addr
  d_power_of : FuncData
  f_power_in : Addr
  d_power_in : FuncData
  f_is_whole_by : Addr
  d_is_whole_by : FuncData
  f_back_by : Addr
  d_back_by : FuncData
  f_rest_by : Addr
  d_rest_by : FuncData
  f_rest_of_ratio : Addr
  d_rest_of_ratio : FuncData
  f__law_pen : Addr
  d__law_pen : FuncData
  f__law_draw : Addr
  d__law_draw : FuncData
  f__law_pick : Addr
  d__law_pick : FuncData
  f__law_is : Addr
  d__law_is : FuncData
  f__law_divisor : Addr
  d__law_divisor : FuncData
  f__law_low : Addr
  d__law_low : FuncData
  f__law_is_whole : Addr
  d__law_is_whole : FuncData
  f__law_fault : Addr
  d__law_fault : FuncData
  f__law_kinds : Addr
  d__law_kinds : FuncData
  f__law_more_kinds : Addr
  d__law_more_kinds : FuncData
  f__law_power_of : Addr
  d__law_power_of : FuncData
  f__law_times_in : Addr
  d__law_times_in : FuncData
  f__law_ends : Addr
  d__law_ends : FuncData
  f__law_bad_small_prime : Addr
  d__law_bad_small_prime : FuncData
  f__law_prime : Addr
  d__law_prime : FuncData
  f_law : Addr
  d_law : FuncData
  cc_law : Addr
  tb_law : Addr
  c_GenusError : Addr
  c_BadNumber : Addr
  i_BadNumber : Addr
  di_BadNumber : FuncData
  c_BadRow : Addr
  i_BadRow : Addr
  di_BadRow : FuncData
  c_BadTable : Addr
  i_BadTable : Addr
  di_BadTable : FuncData
  c_BadForm : Addr
  i_BadForm : Addr
  di_BadForm : FuncData
  c_BadBook : Addr
  i_BadBook : Addr
  di_BadBook : FuncData
  c_BadName : Addr
  i_BadName : Addr
  di_BadName : FuncData
  c_BadText : Addr
  i_BadText : Addr
  di_BadText : FuncData
  c_NoPlace : Addr
  i_NoPlace : Addr
  di_NoPlace : FuncData
  c_NoName : Addr
  i_NoName : Addr
  di_NoName : FuncData
  c_TakenName : Addr
  i_TakenName : Addr
  di_TakenName : FuncData
  c_Unlike : Addr
  i_Unlike : Addr
  di_Unlike : FuncData
  c_NotThere : Addr
  i_NotThere : Addr
  di_NotThere : FuncData
  c_TooMany : Addr
  i_TooMany : Addr
  di_TooMany : FuncData
  c_NotKept : Addr
  i_NotKept : Addr
  di_NotKept : FuncData
  c_NothingToUndo : Addr
  c_NothingToRedo : Addr
structure Tx (K : PySem.W.Frag) (mg : Str → Option Value) (a : Ad) : Prop where
  F_is_integer : Fun K "is_integer" "is_integer" s_is_integer a.f_is_integer a.d_is_integer
  g_is_integer : mg "is_integer" = some (.ref a.f_is_integer)
  b_is_integer : L2.Binds K a.d_is_integer (["value"] : List Str) []
  F_is_ratio : Fun K "is_ratio" "is_ratio" s_is_ratio a.f_is_ratio a.d_is_ratio
  g_is_ratio : mg "is_ratio" = some (.ref a.f_is_ratio)
  b_is_ratio : L2.Binds K a.d_is_ratio (["value"] : List Str) []
  F_pair : Fun K "pair" "pair" s_pair a.f_pair a.d_pair
  g_pair : mg "pair" = some (.ref a.f_pair)
  b_pair : L2.Binds K a.d_pair (["number"] : List Str) []
  F_is_small_prime : Fun K "is_small_prime" "is_small_prime" s_is_small_prime a.f_is_small_prime a.d_is_small_prime
  g_is_small_prime : mg "is_small_prime" = some (.ref a.f_is_small_prime)
  b_is_small_prime : L2.Binds K a.d_is_small_prime (["p"] : List Str) []
  F_need_prime : Fun K "need_prime" "need_prime" s_need_prime a.f_need_prime a.d_need_prime
  g_need_prime : mg "need_prime" = some (.ref a.f_need_prime)
  b_need_prime : L2.Binds K a.d_need_prime (["p"] : List Str) []
  F_times_in : Fun K "times_in" "times_in" s_times_in a.f_times_in a.d_times_in
  g_times_in : mg "times_in" = some (.ref a.f_times_in)
  b_times_in : L2.Binds K a.d_times_in (["number", "p"] : List Str) []
  F_power_of : Fun K "power_of" "power_of" s_power_of a.f_power_of a.d_power_of
  g_power_of : mg "power_of" = some (.ref a.f_power_of)
  b_power_of : L2.Binds K a.d_power_of (["p", "times"] : List Str) []
  F_power_in : Fun K "power_in" "power_in" s_power_in a.f_power_in a.d_power_in
  g_power_in : mg "power_in" = some (.ref a.f_power_in)
  b_power_in : L2.Binds K a.d_power_in (["number", "p"] : List Str) []
  F_is_whole_by : Fun K "is_whole_by" "is_whole_by" s_is_whole_by a.f_is_whole_by a.d_is_whole_by
  g_is_whole_by : mg "is_whole_by" = some (.ref a.f_is_whole_by)
  b_is_whole_by : L2.Binds K a.d_is_whole_by (["ratio", "p"] : List Str) []
  F_back_by : Fun K "back_by" "back_by" s_back_by a.f_back_by a.d_back_by
  g_back_by : mg "back_by" = some (.ref a.f_back_by)
  b_back_by : L2.Binds K a.d_back_by (["number", "q"] : List Str) []
  F_rest_by : Fun K "rest_by" "rest_by" s_rest_by a.f_rest_by a.d_rest_by
  g_rest_by : mg "rest_by" = some (.ref a.f_rest_by)
  b_rest_by : L2.Binds K a.d_rest_by (["ratio", "q"] : List Str) []
  F_rest_of_ratio : Fun K "rest_of_ratio" "rest_of_ratio" s_rest_of_ratio a.f_rest_of_ratio a.d_rest_of_ratio
  g_rest_of_ratio : mg "rest_of_ratio" = some (.ref a.f_rest_of_ratio)
  b_rest_of_ratio : L2.Binds K a.d_rest_of_ratio (["ratio", "p", "k"] : List Str) []
  F__law_pen : Fun K "_law_pen" "_law_pen" s__law_pen a.f__law_pen a.d__law_pen
  g__law_pen : mg "_law_pen" = some (.ref a.f__law_pen)
  b__law_pen : L2.Binds K a.d__law_pen (["script"] : List Str) []
  F__law_draw : Fun K "_law_draw" "_law_draw" s__law_draw a.f__law_draw a.d__law_draw
  g__law_draw : mg "_law_draw" = some (.ref a.f__law_draw)
  b__law_draw : L2.Binds K a.d__law_draw (["pen", "many"] : List Str) []
  F__law_pick : Fun K "_law_pick" "_law_pick" s__law_pick a.f__law_pick a.d__law_pick
  g__law_pick : mg "_law_pick" = some (.ref a.f__law_pick)
  b__law_pick : L2.Binds K a.d__law_pick (["pen", "some"] : List Str) []
  F__law_is : Fun K "_law_is" "_law_is" s__law_is a.f__law_is a.d__law_is
  g__law_is : mg "_law_is" = some (.ref a.f__law_is)
  b__law_is : L2.Binds K a.d__law_is (["told", "due"] : List Str) []
  F__law_divisor : Fun K "_law_divisor" "_law_divisor" s__law_divisor a.f__law_divisor a.d__law_divisor
  g__law_divisor : mg "_law_divisor" = some (.ref a.f__law_divisor)
  b__law_divisor : L2.Binds K a.d__law_divisor (["one", "other"] : List Str) []
  F__law_low : Fun K "_law_low" "_law_low" s__law_low a.f__law_low a.d__law_low
  g__law_low : mg "_law_low" = some (.ref a.f__law_low)
  b__law_low : L2.Binds K a.d__law_low (["top", "bottom"] : List Str) []
  F__law_is_whole : Fun K "_law_is_whole" "_law_is_whole" s__law_is_whole a.f__law_is_whole a.d__law_is_whole
  g__law_is_whole : mg "_law_is_whole" = some (.ref a.f__law_is_whole)
  b__law_is_whole : L2.Binds K a.d__law_is_whole (["value"] : List Str) []
  F__law_fault : Fun K "_law_fault" "_law_fault" s__law_fault a.f__law_fault a.d__law_fault
  g__law_fault : mg "_law_fault" = some (.ref a.f__law_fault)
  b__law_fault : L2.Binds K a.d__law_fault (["call"] : List Str) []
  F__law_kinds : Fun K "_law_kinds" "_law_kinds" s__law_kinds a.f__law_kinds a.d__law_kinds
  g__law_kinds : mg "_law_kinds" = some (.ref a.f__law_kinds)
  b__law_kinds : L2.Binds K a.d__law_kinds (["e"] : List Str) []
  F__law_more_kinds : Fun K "_law_more_kinds" "_law_more_kinds" s__law_more_kinds a.f__law_more_kinds a.d__law_more_kinds
  g__law_more_kinds : mg "_law_more_kinds" = some (.ref a.f__law_more_kinds)
  b__law_more_kinds : L2.Binds K a.d__law_more_kinds (["e"] : List Str) []
  F__law_power_of : Fun K "_law_power_of" "_law_power_of" s__law_power_of a.f__law_power_of a.d__law_power_of
  g__law_power_of : mg "_law_power_of" = some (.ref a.f__law_power_of)
  b__law_power_of : L2.Binds K a.d__law_power_of (["p", "k"] : List Str) []
  F__law_times_in : Fun K "_law_times_in" "_law_times_in" s__law_times_in a.f__law_times_in a.d__law_times_in
  g__law_times_in : mg "_law_times_in" = some (.ref a.f__law_times_in)
  b__law_times_in : L2.Binds K a.d__law_times_in (["number", "p"] : List Str) []
  F__law_ends : Fun K "_law_ends" "_law_ends" s__law_ends a.f__law_ends a.d__law_ends
  g__law_ends : mg "_law_ends" = some (.ref a.f__law_ends)
  b__law_ends : L2.Binds K a.d__law_ends (["ratio"] : List Str) []
  F__law_bad_small_prime : Fun K "_law_bad_small_prime" "_law_bad_small_prime" s__law_bad_small_prime a.f__law_bad_small_prime a.d__law_bad_small_prime
  g__law_bad_small_prime : mg "_law_bad_small_prime" = some (.ref a.f__law_bad_small_prime)
  b__law_bad_small_prime : L2.Binds K a.d__law_bad_small_prime (["pen"] : List Str) []
  F__law_prime : Fun K "_law_prime" "_law_prime" s__law_prime a.f__law_prime a.d__law_prime
  g__law_prime : mg "_law_prime" = some (.ref a.f__law_prime)
  b__law_prime : L2.Binds K a.d__law_prime (["pen"] : List Str) []
  F_law : Fun K "law" "law" s_law a.f_law a.d_law
  g_law : mg "law" = some (.ref a.f_law)
  b_law : L2.Binds K a.d_law (["script"] : List Str) []
  n_ValueError : mg "ValueError" = none
  n_abs : mg "abs" = none
  n_bool : mg "bool" = none
  n_int : mg "int" = none
  n_isinstance : mg "isinstance" = none
  n_len : mg "len" = none
  n_list : mg "list" = none
  n_range : mg "range" = none
  n_repr : mg "repr" = none
  n_str : mg "str" = none
  n_tuple : mg "tuple" = none
  m_gcd : mg "gcd" = some (.builtin "math.gcd")
  cd_law : a.d_law.code = .ref a.cc_law
  k_MOST_PRIME : ∃ t, mg "MOST_PRIME" = some (.int 10000 t)
  k_MOST_POWER : ∃ t, mg "MOST_POWER" = some (.int 60 t)
  eb : ErrB K
  e_GenusError : ErrK K a.c_GenusError veT
  g_GenusError : mg "GenusError" = some (.ref a.c_GenusError)
  ne : [a.c_GenusError, a.c_BadNumber, a.c_BadRow, a.c_BadTable, a.c_BadForm, a.c_BadBook, a.c_BadName, a.c_BadText, a.c_NoPlace, a.c_NoName, a.c_TakenName, a.c_Unlike, a.c_NotThere, a.c_TooMany, a.c_NotKept, a.c_NothingToUndo, a.c_NothingToRedo].Nodup
  e_BadNumber : ErrK K a.c_BadNumber (.ref a.c_GenusError :: veT)
  g_BadNumber : mg "BadNumber" = some (.ref a.c_BadNumber)
  i_BadNumber : PySem.W.findIn K (.ref a.c_BadNumber) "__init__" = some (some (.ref a.i_BadNumber))
  ti_BadNumber : PySem.W.typeIn K (.ref a.i_BadNumber) = some (.type "function")
  Fi_BadNumber : Fun K "__init__" "BadNumber.__init__" s_BadNumber_init a.i_BadNumber a.di_BadNumber
  bi_BadNumber : L2.Binds K a.di_BadNumber (["self", "what", "number"] : List Str) []
  no_BadNumber_what : PySem.W.findIn K (.ref a.c_BadNumber) "what" = some none
  no_BadNumber_number : PySem.W.findIn K (.ref a.c_BadNumber) "number" = some none
  e_BadRow : ErrK K a.c_BadRow (.ref a.c_GenusError :: veT)
  g_BadRow : mg "BadRow" = some (.ref a.c_BadRow)
  i_BadRow : PySem.W.findIn K (.ref a.c_BadRow) "__init__" = some (some (.ref a.i_BadRow))
  ti_BadRow : PySem.W.typeIn K (.ref a.i_BadRow) = some (.type "function")
  Fi_BadRow : Fun K "__init__" "BadRow.__init__" s_BadRow_init a.i_BadRow a.di_BadRow
  bi_BadRow : L2.Binds K a.di_BadRow (["self", "what", "row"] : List Str) []
  no_BadRow_what : PySem.W.findIn K (.ref a.c_BadRow) "what" = some none
  no_BadRow_row : PySem.W.findIn K (.ref a.c_BadRow) "row" = some none
  e_BadTable : ErrK K a.c_BadTable (.ref a.c_GenusError :: veT)
  g_BadTable : mg "BadTable" = some (.ref a.c_BadTable)
  i_BadTable : PySem.W.findIn K (.ref a.c_BadTable) "__init__" = some (some (.ref a.i_BadTable))
  ti_BadTable : PySem.W.typeIn K (.ref a.i_BadTable) = some (.type "function")
  Fi_BadTable : Fun K "__init__" "BadTable.__init__" s_BadTable_init a.i_BadTable a.di_BadTable
  bi_BadTable : L2.Binds K a.di_BadTable (["self", "what"] : List Str) []
  no_BadTable_what : PySem.W.findIn K (.ref a.c_BadTable) "what" = some none
  e_BadForm : ErrK K a.c_BadForm (.ref a.c_GenusError :: veT)
  g_BadForm : mg "BadForm" = some (.ref a.c_BadForm)
  i_BadForm : PySem.W.findIn K (.ref a.c_BadForm) "__init__" = some (some (.ref a.i_BadForm))
  ti_BadForm : PySem.W.typeIn K (.ref a.i_BadForm) = some (.type "function")
  Fi_BadForm : Fun K "__init__" "BadForm.__init__" s_BadForm_init a.i_BadForm a.di_BadForm
  bi_BadForm : L2.Binds K a.di_BadForm (["self", "what"] : List Str) []
  no_BadForm_what : PySem.W.findIn K (.ref a.c_BadForm) "what" = some none
  e_BadBook : ErrK K a.c_BadBook (.ref a.c_GenusError :: veT)
  g_BadBook : mg "BadBook" = some (.ref a.c_BadBook)
  i_BadBook : PySem.W.findIn K (.ref a.c_BadBook) "__init__" = some (some (.ref a.i_BadBook))
  ti_BadBook : PySem.W.typeIn K (.ref a.i_BadBook) = some (.type "function")
  Fi_BadBook : Fun K "__init__" "BadBook.__init__" s_BadBook_init a.i_BadBook a.di_BadBook
  bi_BadBook : L2.Binds K a.di_BadBook (["self", "what"] : List Str) []
  no_BadBook_what : PySem.W.findIn K (.ref a.c_BadBook) "what" = some none
  e_BadName : ErrK K a.c_BadName (.ref a.c_GenusError :: veT)
  g_BadName : mg "BadName" = some (.ref a.c_BadName)
  i_BadName : PySem.W.findIn K (.ref a.c_BadName) "__init__" = some (some (.ref a.i_BadName))
  ti_BadName : PySem.W.typeIn K (.ref a.i_BadName) = some (.type "function")
  Fi_BadName : Fun K "__init__" "BadName.__init__" s_BadName_init a.i_BadName a.di_BadName
  bi_BadName : L2.Binds K a.di_BadName (["self", "name"] : List Str) []
  no_BadName_name : PySem.W.findIn K (.ref a.c_BadName) "name" = some none
  e_BadText : ErrK K a.c_BadText (.ref a.c_GenusError :: veT)
  g_BadText : mg "BadText" = some (.ref a.c_BadText)
  i_BadText : PySem.W.findIn K (.ref a.c_BadText) "__init__" = some (some (.ref a.i_BadText))
  ti_BadText : PySem.W.typeIn K (.ref a.i_BadText) = some (.type "function")
  Fi_BadText : Fun K "__init__" "BadText.__init__" s_BadText_init a.i_BadText a.di_BadText
  bi_BadText : L2.Binds K a.di_BadText (["self", "line", "word"] : List Str) []
  no_BadText_line : PySem.W.findIn K (.ref a.c_BadText) "line" = some none
  no_BadText_word : PySem.W.findIn K (.ref a.c_BadText) "word" = some none
  e_NoPlace : ErrK K a.c_NoPlace (.ref a.c_GenusError :: veT)
  g_NoPlace : mg "NoPlace" = some (.ref a.c_NoPlace)
  i_NoPlace : PySem.W.findIn K (.ref a.c_NoPlace) "__init__" = some (some (.ref a.i_NoPlace))
  ti_NoPlace : PySem.W.typeIn K (.ref a.i_NoPlace) = some (.type "function")
  Fi_NoPlace : Fun K "__init__" "NoPlace.__init__" s_NoPlace_init a.i_NoPlace a.di_NoPlace
  bi_NoPlace : L2.Binds K a.di_NoPlace (["self", "what", "index"] : List Str) []
  no_NoPlace_what : PySem.W.findIn K (.ref a.c_NoPlace) "what" = some none
  no_NoPlace_index : PySem.W.findIn K (.ref a.c_NoPlace) "index" = some none
  e_NoName : ErrK K a.c_NoName (.ref a.c_GenusError :: veT)
  g_NoName : mg "NoName" = some (.ref a.c_NoName)
  i_NoName : PySem.W.findIn K (.ref a.c_NoName) "__init__" = some (some (.ref a.i_NoName))
  ti_NoName : PySem.W.typeIn K (.ref a.i_NoName) = some (.type "function")
  Fi_NoName : Fun K "__init__" "NoName.__init__" s_NoName_init a.i_NoName a.di_NoName
  bi_NoName : L2.Binds K a.di_NoName (["self", "name"] : List Str) []
  no_NoName_name : PySem.W.findIn K (.ref a.c_NoName) "name" = some none
  e_TakenName : ErrK K a.c_TakenName (.ref a.c_GenusError :: veT)
  g_TakenName : mg "TakenName" = some (.ref a.c_TakenName)
  i_TakenName : PySem.W.findIn K (.ref a.c_TakenName) "__init__" = some (some (.ref a.i_TakenName))
  ti_TakenName : PySem.W.typeIn K (.ref a.i_TakenName) = some (.type "function")
  Fi_TakenName : Fun K "__init__" "TakenName.__init__" s_TakenName_init a.i_TakenName a.di_TakenName
  bi_TakenName : L2.Binds K a.di_TakenName (["self", "name"] : List Str) []
  no_TakenName_name : PySem.W.findIn K (.ref a.c_TakenName) "name" = some none
  e_Unlike : ErrK K a.c_Unlike (.ref a.c_GenusError :: veT)
  g_Unlike : mg "Unlike" = some (.ref a.c_Unlike)
  i_Unlike : PySem.W.findIn K (.ref a.c_Unlike) "__init__" = some (some (.ref a.i_Unlike))
  ti_Unlike : PySem.W.typeIn K (.ref a.i_Unlike) = some (.type "function")
  Fi_Unlike : Fun K "__init__" "Unlike.__init__" s_Unlike_init a.i_Unlike a.di_Unlike
  bi_Unlike : L2.Binds K a.di_Unlike (["self", "what"] : List Str) []
  no_Unlike_what : PySem.W.findIn K (.ref a.c_Unlike) "what" = some none
  e_NotThere : ErrK K a.c_NotThere (.ref a.c_GenusError :: veT)
  g_NotThere : mg "NotThere" = some (.ref a.c_NotThere)
  i_NotThere : PySem.W.findIn K (.ref a.c_NotThere) "__init__" = some (some (.ref a.i_NotThere))
  ti_NotThere : PySem.W.typeIn K (.ref a.i_NotThere) = some (.type "function")
  Fi_NotThere : Fun K "__init__" "NotThere.__init__" s_NotThere_init a.i_NotThere a.di_NotThere
  bi_NotThere : L2.Binds K a.di_NotThere (["self", "paper"] : List Str) []
  no_NotThere_paper : PySem.W.findIn K (.ref a.c_NotThere) "paper" = some none
  e_TooMany : ErrK K a.c_TooMany (.ref a.c_GenusError :: veT)
  g_TooMany : mg "TooMany" = some (.ref a.c_TooMany)
  i_TooMany : PySem.W.findIn K (.ref a.c_TooMany) "__init__" = some (some (.ref a.i_TooMany))
  ti_TooMany : PySem.W.typeIn K (.ref a.i_TooMany) = some (.type "function")
  Fi_TooMany : Fun K "__init__" "TooMany.__init__" s_TooMany_init a.i_TooMany a.di_TooMany
  bi_TooMany : L2.Binds K a.di_TooMany (["self", "what", "many", "limit"] : List Str) []
  no_TooMany_what : PySem.W.findIn K (.ref a.c_TooMany) "what" = some none
  no_TooMany_many : PySem.W.findIn K (.ref a.c_TooMany) "many" = some none
  no_TooMany_limit : PySem.W.findIn K (.ref a.c_TooMany) "limit" = some none
  e_NotKept : ErrK K a.c_NotKept (.ref a.c_GenusError :: veT)
  g_NotKept : mg "NotKept" = some (.ref a.c_NotKept)
  i_NotKept : PySem.W.findIn K (.ref a.c_NotKept) "__init__" = some (some (.ref a.i_NotKept))
  ti_NotKept : PySem.W.typeIn K (.ref a.i_NotKept) = some (.type "function")
  Fi_NotKept : Fun K "__init__" "NotKept.__init__" s_NotKept_init a.i_NotKept a.di_NotKept
  bi_NotKept : L2.Binds K a.di_NotKept (["self", "promise", "witness"] : List Str) []
  no_NotKept_promise : PySem.W.findIn K (.ref a.c_NotKept) "promise" = some none
  no_NotKept_witness : PySem.W.findIn K (.ref a.c_NotKept) "witness" = some none
  e_NothingToUndo : ErrK K a.c_NothingToUndo (.ref a.c_GenusError :: veT)
  g_NothingToUndo : mg "NothingToUndo" = some (.ref a.c_NothingToUndo)
  x_NothingToUndo : PySem.W.excIn K a.c_NothingToUndo [.type "ValueError", .type "Exception", .type "BaseException", .type "object"] "ValueError.__new__" = true
  e_NothingToRedo : ErrK K a.c_NothingToRedo (.ref a.c_GenusError :: veT)
  g_NothingToRedo : mg "NothingToRedo" = some (.ref a.c_NothingToRedo)
  x_NothingToRedo : PySem.W.excIn K a.c_NothingToRedo [.type "ValueError", .type "Exception", .type "BaseException", .type "object"] "ValueError.__new__" = true
def tbs (a : Ad) : List (Addr × Addr) := [(a.cc_law, a.tb_law)]
def tbq (a : Ad) : List (Addr × Str) := [(a.tb_law, ("law" : Str) ++ ".<locals>." ++ "<lambda>")]
structure Sy (mg : Str → Option Value) (base : Heap) (a : Ad) : Prop where
  sys : SysD base
  tb : ∀ p ∈ tbs a, LamX.TabB base mg p.1 p.2
  tq : ∀ p q, p ∈ tbq a → q ∈ tbq a → p.1 = q.1 → p.2 = q.2
section
variable {P : Program} {w : World} {K : PySem.W.Frag} {mg : Str → Option Value} {base : Heap} {a : Ad}
theorem Tx.y_BadNumber (T : Tx K mg a) : PySem.W.keepIn K (.ref a.c_BadNumber) = true := T.e_BadNumber.kp
theorem Tx.o_BadNumber (T : Tx K mg a) : PySem.W.subIn K (.ref a.c_BadNumber) (.type "BaseException") = some true := T.e_BadNumber.raises vees
theorem Tx.t_BadNumber (T : Tx K mg a) : PySem.W.typeIn K (.ref a.c_BadNumber) = some (.type "type") := T.e_BadNumber.ty
theorem Tx.O_BadNumber (T : Tx K mg a) : OexC K a.c_BadNumber := T.e_BadNumber.oex vees
theorem in_BadNumber (T : Tx K mg a) : FnOk P w K mg base CX0 1 a.i_BadNumber a.di_BadNumber (["self", "what", "number"] : List Str) (spInit a.c_BadNumber (["what", "number"] : List Str)) := init2 T.Fi_BadNumber sc_BadNumber_init T.O_BadNumber T.no_BadNumber_what T.no_BadNumber_number (fun cdv A outer s H E => (pss_cons (ps_ost (pv 0) (pv 1)) (pss_one (ps_ost (pv 0) (pv 2)))))
theorem Tx.y_BadRow (T : Tx K mg a) : PySem.W.keepIn K (.ref a.c_BadRow) = true := T.e_BadRow.kp
theorem Tx.o_BadRow (T : Tx K mg a) : PySem.W.subIn K (.ref a.c_BadRow) (.type "BaseException") = some true := T.e_BadRow.raises vees
theorem Tx.t_BadRow (T : Tx K mg a) : PySem.W.typeIn K (.ref a.c_BadRow) = some (.type "type") := T.e_BadRow.ty
theorem Tx.O_BadRow (T : Tx K mg a) : OexC K a.c_BadRow := T.e_BadRow.oex vees
theorem in_BadRow (T : Tx K mg a) : FnOk P w K mg base CX0 1 a.i_BadRow a.di_BadRow (["self", "what", "row"] : List Str) (spInit a.c_BadRow (["what", "row"] : List Str)) := init2 T.Fi_BadRow sc_BadRow_init T.O_BadRow T.no_BadRow_what T.no_BadRow_row (fun cdv A outer s H E => (pss_cons (ps_ost (pv 0) (pv 1)) (pss_one (ps_ost (pv 0) (pv 2)))))
theorem Tx.y_BadTable (T : Tx K mg a) : PySem.W.keepIn K (.ref a.c_BadTable) = true := T.e_BadTable.kp
theorem Tx.o_BadTable (T : Tx K mg a) : PySem.W.subIn K (.ref a.c_BadTable) (.type "BaseException") = some true := T.e_BadTable.raises vees
theorem Tx.t_BadTable (T : Tx K mg a) : PySem.W.typeIn K (.ref a.c_BadTable) = some (.type "type") := T.e_BadTable.ty
theorem Tx.O_BadTable (T : Tx K mg a) : OexC K a.c_BadTable := T.e_BadTable.oex vees
theorem in_BadTable (T : Tx K mg a) : FnOk P w K mg base CX0 1 a.i_BadTable a.di_BadTable (["self", "what"] : List Str) (spInit a.c_BadTable (["what"] : List Str)) := init1 T.Fi_BadTable sc_BadTable_init T.O_BadTable T.no_BadTable_what (fun cdv A outer s H E => (pss_one (ps_ost (pv 0) (pv 1))))
theorem Tx.y_BadForm (T : Tx K mg a) : PySem.W.keepIn K (.ref a.c_BadForm) = true := T.e_BadForm.kp
theorem Tx.o_BadForm (T : Tx K mg a) : PySem.W.subIn K (.ref a.c_BadForm) (.type "BaseException") = some true := T.e_BadForm.raises vees
theorem Tx.t_BadForm (T : Tx K mg a) : PySem.W.typeIn K (.ref a.c_BadForm) = some (.type "type") := T.e_BadForm.ty
theorem Tx.O_BadForm (T : Tx K mg a) : OexC K a.c_BadForm := T.e_BadForm.oex vees
theorem in_BadForm (T : Tx K mg a) : FnOk P w K mg base CX0 1 a.i_BadForm a.di_BadForm (["self", "what"] : List Str) (spInit a.c_BadForm (["what"] : List Str)) := init1 T.Fi_BadForm sc_BadForm_init T.O_BadForm T.no_BadForm_what (fun cdv A outer s H E => (pss_one (ps_ost (pv 0) (pv 1))))
theorem Tx.y_BadBook (T : Tx K mg a) : PySem.W.keepIn K (.ref a.c_BadBook) = true := T.e_BadBook.kp
theorem Tx.o_BadBook (T : Tx K mg a) : PySem.W.subIn K (.ref a.c_BadBook) (.type "BaseException") = some true := T.e_BadBook.raises vees
theorem Tx.t_BadBook (T : Tx K mg a) : PySem.W.typeIn K (.ref a.c_BadBook) = some (.type "type") := T.e_BadBook.ty
theorem Tx.O_BadBook (T : Tx K mg a) : OexC K a.c_BadBook := T.e_BadBook.oex vees
theorem in_BadBook (T : Tx K mg a) : FnOk P w K mg base CX0 1 a.i_BadBook a.di_BadBook (["self", "what"] : List Str) (spInit a.c_BadBook (["what"] : List Str)) := init1 T.Fi_BadBook sc_BadBook_init T.O_BadBook T.no_BadBook_what (fun cdv A outer s H E => (pss_one (ps_ost (pv 0) (pv 1))))
theorem Tx.y_BadName (T : Tx K mg a) : PySem.W.keepIn K (.ref a.c_BadName) = true := T.e_BadName.kp
theorem Tx.o_BadName (T : Tx K mg a) : PySem.W.subIn K (.ref a.c_BadName) (.type "BaseException") = some true := T.e_BadName.raises vees
theorem Tx.t_BadName (T : Tx K mg a) : PySem.W.typeIn K (.ref a.c_BadName) = some (.type "type") := T.e_BadName.ty
theorem Tx.O_BadName (T : Tx K mg a) : OexC K a.c_BadName := T.e_BadName.oex vees
theorem in_BadName (T : Tx K mg a) : FnOk P w K mg base CX0 1 a.i_BadName a.di_BadName (["self", "name"] : List Str) (spInit a.c_BadName (["name"] : List Str)) := init1 T.Fi_BadName sc_BadName_init T.O_BadName T.no_BadName_name (fun cdv A outer s H E => (pss_one (ps_ost (pv 0) (pv 1))))
theorem Tx.y_BadText (T : Tx K mg a) : PySem.W.keepIn K (.ref a.c_BadText) = true := T.e_BadText.kp
theorem Tx.o_BadText (T : Tx K mg a) : PySem.W.subIn K (.ref a.c_BadText) (.type "BaseException") = some true := T.e_BadText.raises vees
theorem Tx.t_BadText (T : Tx K mg a) : PySem.W.typeIn K (.ref a.c_BadText) = some (.type "type") := T.e_BadText.ty
theorem Tx.O_BadText (T : Tx K mg a) : OexC K a.c_BadText := T.e_BadText.oex vees
theorem in_BadText (T : Tx K mg a) : FnOk P w K mg base CX0 1 a.i_BadText a.di_BadText (["self", "line", "word"] : List Str) (spInit a.c_BadText (["line", "word"] : List Str)) := init2 T.Fi_BadText sc_BadText_init T.O_BadText T.no_BadText_line T.no_BadText_word (fun cdv A outer s H E => (pss_cons (ps_ost (pv 0) (pv 1)) (pss_one (ps_ost (pv 0) (pv 2)))))
theorem Tx.y_NoPlace (T : Tx K mg a) : PySem.W.keepIn K (.ref a.c_NoPlace) = true := T.e_NoPlace.kp
theorem Tx.o_NoPlace (T : Tx K mg a) : PySem.W.subIn K (.ref a.c_NoPlace) (.type "BaseException") = some true := T.e_NoPlace.raises vees
theorem Tx.t_NoPlace (T : Tx K mg a) : PySem.W.typeIn K (.ref a.c_NoPlace) = some (.type "type") := T.e_NoPlace.ty
theorem Tx.O_NoPlace (T : Tx K mg a) : OexC K a.c_NoPlace := T.e_NoPlace.oex vees
theorem in_NoPlace (T : Tx K mg a) : FnOk P w K mg base CX0 1 a.i_NoPlace a.di_NoPlace (["self", "what", "index"] : List Str) (spInit a.c_NoPlace (["what", "index"] : List Str)) := init2 T.Fi_NoPlace sc_NoPlace_init T.O_NoPlace T.no_NoPlace_what T.no_NoPlace_index (fun cdv A outer s H E => (pss_cons (ps_ost (pv 0) (pv 1)) (pss_one (ps_ost (pv 0) (pv 2)))))
theorem Tx.y_NoName (T : Tx K mg a) : PySem.W.keepIn K (.ref a.c_NoName) = true := T.e_NoName.kp
theorem Tx.o_NoName (T : Tx K mg a) : PySem.W.subIn K (.ref a.c_NoName) (.type "BaseException") = some true := T.e_NoName.raises vees
theorem Tx.t_NoName (T : Tx K mg a) : PySem.W.typeIn K (.ref a.c_NoName) = some (.type "type") := T.e_NoName.ty
theorem Tx.O_NoName (T : Tx K mg a) : OexC K a.c_NoName := T.e_NoName.oex vees
theorem in_NoName (T : Tx K mg a) : FnOk P w K mg base CX0 1 a.i_NoName a.di_NoName (["self", "name"] : List Str) (spInit a.c_NoName (["name"] : List Str)) := init1 T.Fi_NoName sc_NoName_init T.O_NoName T.no_NoName_name (fun cdv A outer s H E => (pss_one (ps_ost (pv 0) (pv 1))))
theorem Tx.y_TakenName (T : Tx K mg a) : PySem.W.keepIn K (.ref a.c_TakenName) = true := T.e_TakenName.kp
theorem Tx.o_TakenName (T : Tx K mg a) : PySem.W.subIn K (.ref a.c_TakenName) (.type "BaseException") = some true := T.e_TakenName.raises vees
theorem Tx.t_TakenName (T : Tx K mg a) : PySem.W.typeIn K (.ref a.c_TakenName) = some (.type "type") := T.e_TakenName.ty
theorem Tx.O_TakenName (T : Tx K mg a) : OexC K a.c_TakenName := T.e_TakenName.oex vees
theorem in_TakenName (T : Tx K mg a) : FnOk P w K mg base CX0 1 a.i_TakenName a.di_TakenName (["self", "name"] : List Str) (spInit a.c_TakenName (["name"] : List Str)) := init1 T.Fi_TakenName sc_TakenName_init T.O_TakenName T.no_TakenName_name (fun cdv A outer s H E => (pss_one (ps_ost (pv 0) (pv 1))))
theorem Tx.y_Unlike (T : Tx K mg a) : PySem.W.keepIn K (.ref a.c_Unlike) = true := T.e_Unlike.kp
theorem Tx.o_Unlike (T : Tx K mg a) : PySem.W.subIn K (.ref a.c_Unlike) (.type "BaseException") = some true := T.e_Unlike.raises vees
theorem Tx.t_Unlike (T : Tx K mg a) : PySem.W.typeIn K (.ref a.c_Unlike) = some (.type "type") := T.e_Unlike.ty
theorem Tx.O_Unlike (T : Tx K mg a) : OexC K a.c_Unlike := T.e_Unlike.oex vees
theorem in_Unlike (T : Tx K mg a) : FnOk P w K mg base CX0 1 a.i_Unlike a.di_Unlike (["self", "what"] : List Str) (spInit a.c_Unlike (["what"] : List Str)) := init1 T.Fi_Unlike sc_Unlike_init T.O_Unlike T.no_Unlike_what (fun cdv A outer s H E => (pss_one (ps_ost (pv 0) (pv 1))))
theorem Tx.y_NotThere (T : Tx K mg a) : PySem.W.keepIn K (.ref a.c_NotThere) = true := T.e_NotThere.kp
theorem Tx.o_NotThere (T : Tx K mg a) : PySem.W.subIn K (.ref a.c_NotThere) (.type "BaseException") = some true := T.e_NotThere.raises vees
theorem Tx.t_NotThere (T : Tx K mg a) : PySem.W.typeIn K (.ref a.c_NotThere) = some (.type "type") := T.e_NotThere.ty
theorem Tx.O_NotThere (T : Tx K mg a) : OexC K a.c_NotThere := T.e_NotThere.oex vees
theorem in_NotThere (T : Tx K mg a) : FnOk P w K mg base CX0 1 a.i_NotThere a.di_NotThere (["self", "paper"] : List Str) (spInit a.c_NotThere (["paper"] : List Str)) := init1 T.Fi_NotThere sc_NotThere_init T.O_NotThere T.no_NotThere_paper (fun cdv A outer s H E => (pss_one (ps_ost (pv 0) (pv 1))))
theorem Tx.y_TooMany (T : Tx K mg a) : PySem.W.keepIn K (.ref a.c_TooMany) = true := T.e_TooMany.kp
theorem Tx.o_TooMany (T : Tx K mg a) : PySem.W.subIn K (.ref a.c_TooMany) (.type "BaseException") = some true := T.e_TooMany.raises vees
theorem Tx.t_TooMany (T : Tx K mg a) : PySem.W.typeIn K (.ref a.c_TooMany) = some (.type "type") := T.e_TooMany.ty
theorem Tx.O_TooMany (T : Tx K mg a) : OexC K a.c_TooMany := T.e_TooMany.oex vees
theorem in_TooMany (T : Tx K mg a) : FnOk P w K mg base CX0 1 a.i_TooMany a.di_TooMany (["self", "what", "many", "limit"] : List Str) (spInit a.c_TooMany (["what", "many", "limit"] : List Str)) := init3 T.Fi_TooMany sc_TooMany_init T.O_TooMany T.no_TooMany_what T.no_TooMany_many T.no_TooMany_limit (fun cdv A outer s H E => (pss_cons (ps_ost (pv 0) (pv 1)) (pss_cons (ps_ost (pv 0) (pv 2)) (pss_one (ps_ost (pv 0) (pv 3))))))
theorem Tx.y_NotKept (T : Tx K mg a) : PySem.W.keepIn K (.ref a.c_NotKept) = true := T.e_NotKept.kp
theorem Tx.o_NotKept (T : Tx K mg a) : PySem.W.subIn K (.ref a.c_NotKept) (.type "BaseException") = some true := T.e_NotKept.raises vees
theorem Tx.t_NotKept (T : Tx K mg a) : PySem.W.typeIn K (.ref a.c_NotKept) = some (.type "type") := T.e_NotKept.ty
theorem Tx.O_NotKept (T : Tx K mg a) : OexC K a.c_NotKept := T.e_NotKept.oex vees
theorem in_NotKept (T : Tx K mg a) : FnOk P w K mg base CX0 1 a.i_NotKept a.di_NotKept (["self", "promise", "witness"] : List Str) (spInit a.c_NotKept (["promise", "witness"] : List Str)) := init2 T.Fi_NotKept sc_NotKept_init T.O_NotKept T.no_NotKept_promise T.no_NotKept_witness (fun cdv A outer s H E => (pss_cons (ps_ost (pv 0) (pv 1)) (pss_one (ps_ost (pv 0) (pv 2)))))
theorem Tx.y_NothingToUndo (T : Tx K mg a) : PySem.W.keepIn K (.ref a.c_NothingToUndo) = true := T.e_NothingToUndo.kp
theorem Tx.o_NothingToUndo (T : Tx K mg a) : PySem.W.subIn K (.ref a.c_NothingToUndo) (.type "BaseException") = some true := T.e_NothingToUndo.raises vees
theorem Tx.t_NothingToUndo (T : Tx K mg a) : PySem.W.typeIn K (.ref a.c_NothingToUndo) = some (.type "type") := T.e_NothingToUndo.ty
theorem Tx.y_NothingToRedo (T : Tx K mg a) : PySem.W.keepIn K (.ref a.c_NothingToRedo) = true := T.e_NothingToRedo.kp
theorem Tx.o_NothingToRedo (T : Tx K mg a) : PySem.W.subIn K (.ref a.c_NothingToRedo) (.type "BaseException") = some true := T.e_NothingToRedo.raises vees
theorem Tx.t_NothingToRedo (T : Tx K mg a) : PySem.W.typeIn K (.ref a.c_NothingToRedo) = some (.type "type") := T.e_NothingToRedo.ty
theorem sy_mk (h : SysD base) (tb : ∀ p ∈ tbs a, LamX.TabB base mg p.1 p.2) : Sy mg base a := ⟨h, tb, fun p q hp hq _ => by rw [List.mem_singleton.mp hp, List.mem_singleton.mp hq]⟩
end
section
variable {P : Program} {w : World} {K : PySem.W.Frag} {mg : Str → Option Value} {base : Heap} {a : Ad}
def F_draw : DF := fun ss R _ => ∃ m : Int, ss = [.pen, .sh (.int m)] ∧ 0 < m ∧ m.natAbs.log2 < 9000 ∧ ∀ k : Int, 0 ≤ k → k < m → R (.int k)
theorem ok__law_draw (T : Tx K mg a) (hS : Sy mg base a) : FnG P w K mg base true 1 a.f__law_draw a.d__law_draw (["pen", "many"] : List Str) (fun _ => spD K F_draw) := by
  refine fn_go T.F__law_draw sc__law_draw (fun pl vs H Q E h => ?_) (fun cdv A outer s H vs Q E pl hr h => ?_)
  · obtain ⟨Hf, M, ss, R, X, _, _, h3, ⟨m, rfl, _⟩, _⟩ := h
    exact h3.length
  obtain ⟨Hf, M, ss, R, X, h1, h2, h3, ⟨m, rfl, hm, hl, hR⟩, h5, h6⟩ := h
  obtain ⟨v1, v2, rfl, q1, q2⟩ : ∃ v1 v2, vs = [v1, v2] ∧ ArgOk K M Hf v1 .pen ∧ ArgOk K M Hf v2 (.sh (.int m)) := by
    cases h3 with
    | cons q1 h3 =>
      cases h3 with
      | cons q2 h3 =>
        cases h3
        exact ⟨_, _, rfl, q1, q2⟩
  obtain ⟨p, hpM, rfl⟩ := (show ∃ p ∈ M, v1 = .ref p from q1)
  have ev := Rp.int_inv (show Rp K Hf v2 (.int m) from q2)
  subst ev
  obtain ⟨hpf, o, hp, c, ns, at', dg, cn, fo, rfl, hs, b1, b2, b3, b4, b5, b6⟩ := h2 p hpM
  have hH : H = upd H p (.dK (penL c at' dg cn fo)) := same_upd hp
  have fin : ∀ (a' d' n' f' k : Int), 0 ≤ a' → 0 ≤ d' → d'.natAbs < 2 ^ 1048577 → 0 ≤ f' → f' < 2 ^ 31 → 0 ≤ k → k < m → Q (.int k) (upd H p (.dK (penL c a' d' n' f'))) := fun a' d' n' f' k g1 g2 g3 g4 g5 g6 g7 =>
    h5 (.int k) (.int k) Hf _ (pen_exit h1 h2 hpM (penO_of hs g1 g2 g3 g4 g5 b6)) (.int k) (hR k g6 g7)
  refine ⟨_, (pss_cons (ps_dput hr.hu1 (pv 0) pe_str (pe_op op_addG (pe_dget hr.hu1 (pv 0) pe_str (fun _ _ => rfl)) pe_int) rfl)
      (pss_cons (ps_if (PW.pt (pw_and (pt_cmpR (op_eqG hr.hu) (pe_dget hr.hu1 (pv 0) pe_str (fun _ _ => rfl)) pe_int (nomark _)) (pw_and1 (pt_cmpR op_lt (pe_dget hr.hu1 (pv 0) pe_str (fun _ _ => rfl)) (pe_callB call_lenV (by rfl) T.n_len PySem.boot_len (pa_cons (pe_dget hr.hu1 (pv 0) pe_str (fun _ _ => rfl)) pa_nil)) (nomark _))))) (pss_cons (ps_set (i := 2) sc__law_draw.nd rfl (Or.inl rfl) (pe_ix ix_seq (pe_dget hr.hu1 (pv 0) pe_str (fun _ _ => rfl)) (pe_dget hr.hu1 (pv 0) pe_str (fun _ _ => rfl)) (fun _ _ => rfl)))
      (pss_cons (ps_dput hr.hu1 (pv 0) pe_str (pe_op op_addG (pe_dget hr.hu1 (pv 0) pe_str (fun _ _ => rfl)) pe_int) rfl)
      (pss_one (ps_if (pt_cmpR op_ge (pv 2) (pe_op op_pow pe_int pe_int) (nomark _)) (pss_one (ps_dput hr.hu1 (pv 0) pe_str (pe_op op_sub (pv 2) (pe_op op_pow pe_int pe_int)) rfl)) (pss_one (ps_dput hr.hu1 (pv 0) pe_str (pe_op op_modN (pe_callTy call_intV (by rfl) T.n_int PyProof.Rows.boot_int (pa_cons (pe_op op_addG (pe_op op_mulG (pe_dget hr.hu1 (pv 0) pe_str (fun _ _ => rfl)) pe_int) (pv 2)) pa_nil)) pe_int) rfl)))))) pss_nil)
      (pss_cons (ps_if (pt_cmpR op_gt (pe_dget hr.hu1 (pv 0) pe_str (fun _ _ => rfl)) pe_int (nomark _)) (pss_cons (ps_set (i := 3) sc__law_draw.nd rfl (Or.inl rfl) (pe_op op_modN (pe_callTy call_intV (by rfl) T.n_int PyProof.Rows.boot_int (pa_cons (pe_dget hr.hu1 (pv 0) pe_str (fun _ _ => rfl)) pa_nil)) (pv 1)))
      (pss_cons (ps_dput hr.hu1 (pv 0) pe_str (pe_op op_fdivG (pe_dget hr.hu1 (pv 0) pe_str (fun _ _ => rfl)) (pv 1)) rfl)
      (pss_one (ps_ret (pv 3))))) pss_nil)
      (pss_cons (ps_set (i := 4) sc__law_draw.nd rfl (Or.inl rfl) (pe_op op_modN (pe_callTy call_intV (by rfl) T.n_int PyProof.Rows.boot_int (pa_cons (pe_op op_addG (pe_op op_addG (pe_op op_mulG (pe_dget hr.hu1 (pv 0) pe_str (fun _ _ => rfl)) pe_int) (pe_op op_mulG (pe_dget hr.hu1 (pv 0) pe_str (fun _ _ => rfl)) pe_int)) pe_int) pa_nil)) pe_int))
      (pss_cons (ps_set (i := 4) sc__law_draw.nd rfl (Or.inl rfl) (pe_op op_modN (pe_callTy call_intV (by rfl) T.n_int PyProof.Rows.boot_int (pa_cons (pe_op op_addG (pe_op op_addG (pe_op op_mulG (pv 4) (pv 4)) (pe_op op_mulG pe_int (pv 4))) (pe_dget hr.hu1 (pv 0) pe_str (fun _ _ => rfl))) pa_nil)) pe_int))
      (pss_cons (ps_dput hr.hu1 (pv 0) pe_str (pe_op op_modN (pe_callTy call_intV (by rfl) T.n_int PyProof.Rows.boot_int (pa_cons (pe_op op_addG (pe_op op_mulG (pv 4) pe_int) pe_int) pa_nil)) pe_int) rfl)
      (pss_one (ps_ret (pe_op op_modN (pe_callTy call_intV (by rfl) T.n_int PyProof.Rows.boot_int (pa_cons (pe_op op_fdivG (pv 4) pe_int) pa_nil)) (pv 1)))))))))), ?_⟩
  have h0 : ∀ (o2 o3 o4 : Option V), ([some (V.ref p), some (V.int m), o2, o3, o4] : L2.St)[0]? = some (some (.ref p)) := fun _ _ _ => rfl
  rw [hH]
  show tSeq _ _ _ ([some (V.ref p), some (V.int m), none, none, none] : L2.St) _
  refine pen_put (v := .int (cn + 1)) rfl (p_count _) (fun R q => pen_get rfl v_count (Or.inl ⟨cn, 1, rfl, rfl, q⟩)) ?_
  have hx : ∀ o', Ex Hf (upd H p o') := fun o' a u e => by
    rw [upd_ne (ne_of_none e hpf)]
    exact h1 a u e
  have pw : CPow 10 18 := ⟨by decide, by decide, by decide⟩
  dsimp only
  refine if_cut (fun σ' H' => ∃ (o2 : Option V) (a' d' n' f' : Int), σ' = [some (V.ref p), some (V.int m), o2, none, none] ∧ H' = upd H p (.dK (penL c a' d' n' f')) ∧ 0 ≤ a' ∧ 0 ≤ d' ∧ d'.natAbs < 2 ^ 1048577 ∧ 0 ≤ f' ∧ f' < 2 ^ 31) ?_ (fun N hN => ?_)
  · rintro _ _ ⟨o2, a', d', n', f', rfl, rfl, g1, g2, g3, g4, g5⟩
    refine pen_get rfl v_digits ⟨d', 0, rfl, rfl, _, rfl, ite2 (fun z => ?_) (fun z => ?_)⟩
    · refine pen_get rfl v_digits (Or.inl ⟨_, rfl, _, rfl, _, _, rfl, rfl, by omega, ?_⟩)
      dsimp only [gName]
      refine pen_put (v := .int (d'.fdiv m)) rfl (p_digits _) (fun R q => pen_get rfl v_digits ⟨_, rfl, _, _, rfl, rfl, ⟨by omega, hl⟩, q⟩) ?_
      refine ⟨_, rfl, ?_⟩
      exact fin _ _ _ _ _ g1 (fdiv_lo g2 hm) (Nat.lt_of_le_of_lt (fdiv_abs g2 hm) g3) g4 g5 (fmod_lo _ hm) (fmod_hi _ hm)
    · refine pen_get rfl v_fold ⟨f', _, rfl, rfl, mul_small (Or.inr ⟨by decide, by decide⟩), ?_⟩
      refine pen_get rfl v_count ⟨n', _, rfl, rfl, mul_small (Or.inr ⟨by decide, by decide⟩), ?_⟩
      refine Or.inl ⟨_, _, rfl, rfl, Or.inl ⟨_, _, rfl, rfl, Or.inl ⟨_, rfl, _, _, rfl, rfl, (show (2147483647 : Int) ≠ 0 by decide), ?_⟩⟩⟩
      dsimp only [gName]
      have w1 := fmod_lo (f' * 48271 + n' * 7919 + 13) (m := 2147483647) (by decide)
      have w2 := fmod_hi (f' * 48271 + n' * 7919 + 13) (m := 2147483647) (by decide)
      generalize (f' * 48271 + n' * 7919 + 13).fmod 2147483647 = e1 at w1 w2
      refine ⟨_, rfl, _, rfl, e1, e1, rfl, rfl, mul_small (Or.inl ⟨by omega, by omega⟩), ?_⟩
      refine ⟨_, rfl, _, e1, rfl, rfl, mul_small (Or.inl ⟨by decide, by decide⟩), Or.inl ⟨_, _, rfl, rfl, ?_⟩⟩
      refine pen_get rfl v_count (Or.inl ⟨_, _, rfl, rfl, Or.inl ⟨_, rfl, _, _, rfl, rfl, (show (2147483629 : Int) ≠ 0 by decide), ?_⟩⟩)
      dsimp only [gName]
      have w3 := fmod_lo (e1 * e1 + 31 * e1 + n') (m := 2147483629) (by decide)
      have w4 := fmod_hi (e1 * e1 + 31 * e1 + n') (m := 2147483629) (by decide)
      generalize (e1 * e1 + 31 * e1 + n').fmod 2147483629 = e2 at w3 w4
      refine pen_put (v := .int ((e2 * 16807 + 7).fmod 2147483647)) rfl (p_fold _) (fun R q => ⟨_, rfl, e2, _, rfl, rfl, mul_small (Or.inl ⟨by omega, by omega⟩), Or.inl ⟨_, _, rfl, rfl, Or.inl ⟨_, rfl, _, _, rfl, rfl, (show (2147483647 : Int) ≠ 0 by decide), q⟩⟩⟩) ?_
      refine ⟨_, rfl, e2, _, rfl, rfl, ⟨by decide, by decide⟩, Or.inl ⟨_, rfl, _, rfl, _, _, rfl, rfl, by omega, ?_⟩⟩
      exact fin _ _ _ _ _ g1 g2 g3 (fmod_lo _ (by decide)) (Int.lt_trans (fmod_hi _ (by decide)) (by decide)) (fmod_lo _ hm) (fmod_hi _ hm)
  · refine pen_get rfl v_digits (Or.inl ⟨rfl, _, rfl, ite2 (fun z => ?_) (fun z => ?_)⟩)
    · refine pen_get rfl v_at (pen_get rfl v_cells ⟨_, _, rfl, Or.inl ⟨_, (hx _).sl hs, rfl⟩, at', _, rfl, rfl, _, rfl, ite2 (fun y => ?_) (fun y => ?_)⟩)
      · have hlt : at' < ns.length := by
          have q := of_decide_eq_true y
          rw [List.length_map] at q
          exact q
        obtain ⟨cell, hmem, hat⟩ := atI_ints b1 hlt
        refine pen_get rfl v_cells (pen_get rfl v_at (Or.inl ⟨c, _, at', .int cell, rfl, rfl, (hx _).sl hs, hat, ?_⟩))
        dsimp only [gName]
        refine pen_put (v := .int (at' + 1)) rfl (p_at _) (fun R q => pen_get rfl v_at (Or.inl ⟨at', 1, rfl, rfl, q⟩)) ?_
        have hb := bits_lt (b6 cell hmem)
        refine ⟨_, rfl, _, _, rfl, rfl, pw, cell, _, rfl, rfl, _, rfl, ite2 (fun x => ?_) (fun x => ?_)⟩
        · refine pen_put (v := .int (cell - 10 ^ 18)) rfl (p_digits _) (fun R q => ⟨_, rfl, _, _, rfl, rfl, pw, cell, _, rfl, rfl, q⟩) ?_
          have x' : (10 : Int) ^ 18 ≤ cell := of_decide_eq_true x
          refine hN _ _ ⟨_, _, _, _, _, rfl, rfl, by omega, by omega, ?_, b4, b5⟩
          have e : (2 : Nat) ^ 1048577 = 2 ^ 1048576 * 2 := Nat.pow_succ ..
          rw [e]
          generalize (2 : Nat) ^ 1048576 = W at hb
          omega
        · refine pen_put (v := .int ((fo * 69069 + cell).fmod 2147483587)) rfl (p_fold _) (fun R q => pen_get rfl v_fold ⟨fo, _, rfl, rfl, mul_small (Or.inl ⟨by omega, by omega⟩), _, rfl, Or.inl ⟨_, _, rfl, rfl, Or.inl ⟨_, rfl, _, _, rfl, rfl, (show (2147483587 : Int) ≠ 0 by decide), q⟩⟩⟩) ?_
          exact hN _ _ ⟨_, _, _, _, _, rfl, rfl, by omega, b2, b3, fmod_lo _ (by decide), Int.lt_trans (fmod_hi _ (by decide)) (by decide)⟩
      · exact hN _ _ ⟨_, _, _, _, _, rfl, rfl, b1, b2, b3, b4, b5⟩
    · exact iteF (hN _ _ ⟨_, _, _, _, _, rfl, rfl, b1, b2, b3, b4, b5⟩)
theorem ok__law_pen (T : Tx K mg a) (hS : Sy mg base a) : FnG P w K mg base true 1 a.f__law_pen a.d__law_pen (["script"] : List Str) (fun _ => spPen K) := by
  refine fn_go T.F__law_pen sc__law_pen (fun pl vs H Q E h => ?_) (fun cdv A outer s H vs Q E pl hr h => ?_)
  · obtain ⟨sa, ns, rfl, _⟩ := h
    rfl
  obtain ⟨sa, ns, rfl, hs, hl, hb, k⟩ := h
  refine ⟨_, (pss_cons (ps_set (i := 1) sc__law_pen.nd rfl (Or.inl rfl) pe_int)
      (pss_cons (ps_for (passes_of rfl) rfl (pi_seq (pv 0)) (pg_name (i := 2) sc__law_pen.nd rfl (Or.inl rfl)) (pss_one (ps_set (i := 1) sc__law_pen.nd rfl (Or.inl rfl) (pe_op op_modN (pe_callTy call_intV (by rfl) T.n_int PyProof.Rows.boot_int (pa_cons (pe_op op_addG (pe_op op_mulG (pv 1) pe_int) (pv 2)) pa_nil)) pe_int))))
      (pss_one (ps_ret (pe_disp (pps_cons pe_str (pe_callTy call_listV (by rfl) T.n_list PyProof.Rows.boot_list (pa_cons (pv 0) pa_nil)) (pps_cons pe_str pe_int (pps_cons pe_str pe_int (pps_cons pe_str pe_int (pps_cons pe_str (pv 1) pps_nil))))) (by rfl) (by rfl) (fun z => by cases z) (by decide)))))), ?_⟩
  refine ⟨_, rfl, sa, rfl, Or.inl ⟨⟨_, hs⟩, ?_⟩⟩
  refine for_list (xs := ns.map V.int) (fun i σ' H' => ∃ (f : Int) (o : Option V), σ' = [some (.ref sa), some (.int f), o] ∧ H' = H ∧ 0 ≤ f ∧ f < 2 ^ 31) ⟨0, none, rfl, rfl, by decide, by decide⟩ (fun i σ' H' _ z => ?_) (fun i x σ' H' hx z => ?_) (fun σ' H' z => ?_)
  · obtain ⟨f, o, rfl, rfl, _⟩ := z
    exact hs
  · obtain ⟨f, o, rfl, rfl, g1, g2⟩ := z
    obtain ⟨n, rfl⟩ : ∃ n, x = V.int n := by
      rw [List.getElem?_map] at hx
      cases e : ns[i]? with
      | none => rw [e] at hx; cases hx
      | some n => rw [e] at hx; exact ⟨n, (Option.some.inj hx).symm⟩
    refine ⟨_, rfl, f, _, rfl, rfl, mul_small (Or.inl ⟨by omega, by omega⟩), _, rfl, Or.inl ⟨_, _, rfl, rfl, Or.inl ⟨_, rfl, _, _, rfl, rfl, (show (1000000007 : Int) ≠ 0 by decide), ?_⟩⟩⟩
    exact ⟨_, _, rfl, rfl, fmod_lo _ (by decide), Int.lt_trans (fmod_hi _ (by decide)) (by decide)⟩
  · obtain ⟨f, o, rfl, rfl, g1, g2⟩ := z
    intro p hp
    refine ⟨_, rfl, sa, _, rfl, Or.inl ((Ex.new hp).sl hs), fun l hlp => ?_⟩
    have nlp : l ≠ p := fun z => by rw [z, upd_same] at hlp; cases hlp
    have nl : H' l = none := by rw [← hlp, upd_ne nlp]
    refine ⟨_, rfl, ?_⟩
    refine ⟨by rw [upd_ne nlp.symm, upd_same], penL l 0 0 0 f, rfl, (show 5 ≤ 15 by decide), ?_⟩
    have nH : ∀ b, H' b ≠ none → b ≠ l ∧ b ≠ p := fun b hb => ⟨fun z => hb (by rw [z]; exact nl), fun z => hb (by rw [z]; exact hp)⟩
    refine k p (.dK (penL l 0 0 0 f)) (upd (fun _ => none) l (.lst (ns.map V.int))) _ (fun b u e => ?_) (fun b hb => ?_) (fun b u e => ?_) (by rw [upd_ne nlp.symm]) upd_same (penO_of (SqL.of upd_same) (Int.le_refl 0) (Int.le_refl 0) (Nat.two_pow_pos _) g1 (by omega) hb)
    · obtain ⟨n1, n2⟩ := nH b (by rw [e]; exact fun z => nomatch z)
      rw [upd_ne n2, upd_ne n1, upd_ne n2]
      exact e
    · rw [upd_ne (nH b hb).1]
    · by_cases y : b = l
      · subst y
        rw [upd_same] at e
        rw [upd_ne nlp, upd_same]
        exact e
      · rw [upd_ne y] at e
        cases e
end
end Law

set_option Elab.async false
set_option linter.all false
set_option maxRecDepth 100000
set_option maxHeartbeats 4000000
namespace Law
open PySem PySem.Spec PyProof.Rows L2 G
section
variable {P : Program} {w : World} {K : PySem.W.Frag} {mg : Str → Option Value} {base : Heap} {a : Ad}
def F_pick : DF := fun ss R _ => ∃ x l, ss = [.pen, .sh x] ∧ seqD x = some l ∧ l ≠ [] ∧ l.length ≤ 1000 ∧ ∀ d ∈ l, R d
theorem log_small {n : Nat} (h : n < 2 ^ 9000) (h0 : n ≠ 0) : n.log2 < 9000 := (Nat.log2_lt h0).mpr h
theorem draw_ok {m : Int} (h0 : 0 < m) (h : m ≤ 2 ^ 60) : m.natAbs.log2 < 9000 := by
  have e : m.natAbs < 2 ^ 61 := by
    have : (2 : Nat) ^ 61 = 2 ^ 60 * 2 := by decide
    omega
  exact Nat.lt_of_lt_of_le ((Nat.log2_lt (by omega)).mpr e) (by decide)
theorem ok__law_pick (T : Tx K mg a) (hS : Sy mg base a) : FnG P w K mg base true 2 a.f__law_pick a.d__law_pick (["pen", "some"] : List Str) (fun _ => spD K F_pick) := by
  refine fn_data T.F__law_pick sc__law_pick (fun ss R X z => by obtain ⟨x, l, h, _⟩ := z; rw [h] <;> rfl) fun cdv A outer s H E pl hr => ⟨_, (pss_one (ps_ret (pe_ix ix_seq (pv 1) (pe_go (ok__law_draw T hS) (hr.mono (by decide)) (pl := []) (fun _ h => nomatch h) (by rfl) T.g__law_draw T.F__law_draw.kp T.b__law_draw lets0 (pa_cons (pv 0) (pa_cons (pe_callB call_lenV (by rfl) T.n_len PySem.boot_len (pa_cons (pv 1) pa_nil)) pa_nil))) (fun _ _ => rfl)))), fun b ss R X h hX => ?_⟩
  obtain ⟨x, l, rfl, hs, hn, hl, hR⟩ := h
  have hp : 0 < l.length := List.length_pos_iff.mpr hn
  refine ds_ret (de_ix (de_var rfl (de_call EL.no (dc_pen rfl (dc_cons (de_len (de_var rfl ⟨l.length, lenD_seq hs, dc_nil ⟨l.length, rfl, by omega, draw_ok (by omega) (by omega), fun k h1 h2 => ?_⟩⟩)))))))
  obtain ⟨d, hd, e⟩ := atI_nat h1 h2
  exact ⟨k, d, rfl, by rw [atD_seq hs]; exact e, hR d hd⟩
theorem sm_int {n w : Nat} {k : Int} (h0 : 0 ≤ k) (h : k < 10 ^ 6) : Sm n w (.int k) := by
  obtain ⟨m, rfl⟩ := Int.eq_ofNat_of_zero_le h0
  have hm : m < 10 ^ 6 := by omega
  have hl : (PyData.int (m : Int)).shown.length ≤ 50 := by
    rw [PyData.shown_int]
    have e := int_text_length_le10 (a := (m : Int)) (k := 6) (by decide) (by omega)
    rw [PySem.ofString_length]
    omega
  refine { pl := by simp [D.pl], sh := ?_, dp := by simp [D.py, PyData.depth], lv := ?_, bk := by simp [D.py, PyData.bulk] }
  · simp only [D.py, PyData.showable, decide_eq_true_eq]
    by_cases z : m = 0
    · subst z; decide
    · have e : ((m : Int)).natAbs = m := by omega
      rw [e]
      exact Nat.lt_of_lt_of_le ((Nat.log2_lt z).mpr (show m < 2 ^ 20 by omega)) (by decide)
  · simp only [D.py, PyData.leavesShort, decide_eq_true_eq]
    exact hl
end
end Law

set_option Elab.async false
set_option linter.all false
set_option maxRecDepth 100000
set_option maxHeartbeats 4000000
namespace Law
open PySem PySem.Spec PyProof.Rows L2 G
def kC (a : Ad) : Nat → Addr
  | 0 => a.c_BadNumber
  | 1 => a.c_BadRow
  | 2 => a.c_BadTable
  | 3 => a.c_BadForm
  | 4 => a.c_BadBook
  | 5 => a.c_BadName
  | 6 => a.c_BadText
  | 7 => a.c_NoPlace
  | 8 => a.c_NoName
  | 9 => a.c_TakenName
  | 10 => a.c_Unlike
  | 11 => a.c_NotThere
  | 12 => a.c_TooMany
  | 13 => a.c_NotKept
  | 14 => a.c_NothingToUndo
  | 15 => a.c_NothingToRedo
  | _ => 0
def kF (one two three : D) : Nat → List (Str × D)
  | 0 => [("number", two), ("what", one)]
  | 1 => [("row", two), ("what", one)]
  | 2 => [("what", one)]
  | 3 => [("what", one)]
  | 4 => [("what", one)]
  | 5 => [("name", one)]
  | 6 => [("word", two), ("line", one)]
  | 7 => [("index", two), ("what", one)]
  | 8 => [("name", one)]
  | 9 => [("name", one)]
  | 10 => [("what", one)]
  | 11 => [("paper", one)]
  | 12 => [("limit", three), ("many", two), ("what", one)]
  | 13 => [("witness", two), ("promise", one)]
  | 14 => []
  | 15 => []
  | _ => []
def kT (one two three : D) : Nat → D
  | 0 => .tup [.str "number", one, .str (two).py.shown]
  | 1 => .tup [.str "row", one, .str (two).py.shown]
  | 2 => .tup [.str "table", one]
  | 3 => .tup [.str "form", one]
  | 4 => .tup [.str "book", one]
  | 5 => .tup [.str "badname", .str (one).py.shown]
  | 6 => .tup [.str "text", one, two]
  | 7 => .tup [.str "place", one, .str (two).py.shown]
  | 8 => .tup [.str "noname", .str (one).py.shown]
  | 9 => .tup [.str "taken", .str (one).py.shown]
  | 10 => .tup [.str "unlike", one]
  | 11 => .tup [.str "notthere", one]
  | 12 => .tup [.str "many", one, two, three]
  | 13 => .tup [.str "kept", one, two]
  | 14 => .tup [.str "undo"]
  | 15 => .tup [.str "redo"]
  | _ => .non
theorem nodup_lt : ∀ {l : List Addr}, l.Nodup → ∀ {i j : Nat} {x y : Addr}, l[i]? = some x → l[j]? = some y → i < j → x ≠ y
  | [], _, _, _, _, _, h, _, _ => by simp at h
  | c :: r, h, 0, j + 1, x, y, hi, hj, _ => fun e => by
    have a := List.nodup_cons.mp h
    simp at hi hj
    subst hi; subst e
    exact a.1 (List.mem_of_getElem? hj)
  | c :: r, h, i + 1, j + 1, x, y, hi, hj, hl => nodup_lt (List.nodup_cons.mp h).2 (i := i) (j := j) (by simpa using hi) (by simpa using hj) (by omega)
  | c :: r, h, i + 1, 0, x, y, _, _, hl => by omega
theorem nodup_ne {l : List Addr} (h : l.Nodup) {i j : Nat} {x y : Addr} (hi : l[i]? = some x) (hj : l[j]? = some y) (hij : i ≠ j) : x ≠ y := by
  by_cases z : i < j
  · exact nodup_lt h hi hj z
  · exact (nodup_lt h hj hi (by omega)).symm
section
variable {P : Program} {w : World} {K : PySem.W.Frag} {mg : Str → Option Value} {base : Heap} {a : Ad}
theorem ds_isE {b : Bs} {ρ : List Sl} {pn : PinP} {i : Nat} {a0 C C' G : Addr} {d0 : Option Addr} {l0 : List (Str × D)} {tb : TS} {nx bk ct : List Sl → Prop} {rt : D → Prop} (hi : ρ[i]? = some (.sh (.exc a0 d0 C l0))) (hp : pn a0 d0 C)
    (e : ErrK K C (.ref G :: veT)) (e' : ErrK K C' (.ref G :: veT)) (hg : G ≠ C') (h1 : C = C' → DS K b ρ tb nx rt bk ct) (h2 : C ≠ C' → nx ρ) :
    DS K b ρ (tIfS (tTest (tCB (rIsG K pn) (tCons (tVar i) (tCons (tC (.ref C')) tNil)))) tb tNext) nx rt bk ct := by
  refine ds_if (dt_test (de_isX (.own C') (de_var hi ⟨_, _, _, _, _, rfl, hp, e.kit e', _, rfl, ?_⟩)))
  by_cases z : C = C'
  · subst z
    rw [contains_self]
    exact iteT (h1 rfl)
  · rw [contains_other z hg]
    exact iteF (ds_next (h2 z))
def F_law_more_kinds (K : PySem.W.Frag) (a : Ad) (pl : Pins) : DF := fun ss R _ => ∃ (k : Nat) (a0 : Addr) (d0 : Option Addr) (one two three : D), k < 16 ∧ PnOk K pl a0 d0 (kC a k) ∧ ss = [.sh (.exc a0 d0 (kC a k) (kF one two three k))] ∧ ((k = 5 ∨ k = 8 ∨ k = 9) → okR one) ∧ ((k = 0 ∨ k = 1 ∨ k = 7) → okR two) ∧ R (.lst (if 8 ≤ k then [kT one two three k] else []))
theorem ok__law_more_kinds (T : Tx K mg a) (hS : Sy mg base a) : FnG P w K mg base false 1 a.f__law_more_kinds a.d__law_more_kinds (["e"] : List Str) (spP K (fun _ => True) (F_law_more_kinds K a)) := by
  refine fn_dataP T.F__law_more_kinds sc__law_more_kinds (fun pl ss R X z => by obtain ⟨_, _, _, _, _, _, _, _, h, _⟩ := z; rw [h] <;> rfl) fun cdv A outer s H E pl hr _ => ⟨_, (pss_cons (ps_set (i := 1) sc__law_more_kinds.nd rfl (Or.inl rfl) (pe_lst pa_nil))
      (pss_cons (ps_if (pt_val (pe_callB (call_isG (pn := (fun a d C => PnOk K pl a d C)) (fun _ _ _ z => z)) (by rfl) T.n_isinstance PyProof.Rows.boot_isinstance (pa_cons (pv 0) (pa_cons (pe_glob (v := .ref a.c_NoName) (by rfl) T.g_NoName rfl) pa_nil)))) (pss_one (ps_expr (pe_bm PySem.F.plainAttrs_list PySem.F.slot_list_append PySem.F.type_list_append mt_append (pv 1) (pa_cons (pe_tup (pa_cons pe_str (pa_cons (pe_callB (call_repr hS.sys (hr.gd) hr.hu) (by rfl) T.n_repr PyProof.Rows.boot_repr (pa_cons (pe_xe (pn := (fun a d C => PnOk K pl a d C)) (fun _ _ _ z => z) (pv 0)) pa_nil)) pa_nil))) pa_nil)))) pss_nil)
      (pss_cons (ps_if (pt_val (pe_callB (call_isG (pn := (fun a d C => PnOk K pl a d C)) (fun _ _ _ z => z)) (by rfl) T.n_isinstance PyProof.Rows.boot_isinstance (pa_cons (pv 0) (pa_cons (pe_glob (v := .ref a.c_TakenName) (by rfl) T.g_TakenName rfl) pa_nil)))) (pss_one (ps_expr (pe_bm PySem.F.plainAttrs_list PySem.F.slot_list_append PySem.F.type_list_append mt_append (pv 1) (pa_cons (pe_tup (pa_cons pe_str (pa_cons (pe_callB (call_repr hS.sys (hr.gd) hr.hu) (by rfl) T.n_repr PyProof.Rows.boot_repr (pa_cons (pe_xe (pn := (fun a d C => PnOk K pl a d C)) (fun _ _ _ z => z) (pv 0)) pa_nil)) pa_nil))) pa_nil)))) pss_nil)
      (pss_cons (ps_if (pt_val (pe_callB (call_isG (pn := (fun a d C => PnOk K pl a d C)) (fun _ _ _ z => z)) (by rfl) T.n_isinstance PyProof.Rows.boot_isinstance (pa_cons (pv 0) (pa_cons (pe_glob (v := .ref a.c_Unlike) (by rfl) T.g_Unlike rfl) pa_nil)))) (pss_one (ps_expr (pe_bm PySem.F.plainAttrs_list PySem.F.slot_list_append PySem.F.type_list_append mt_append (pv 1) (pa_cons (pe_tup (pa_cons pe_str (pa_cons (pe_xe (pn := (fun a d C => PnOk K pl a d C)) (fun _ _ _ z => z) (pv 0)) pa_nil))) pa_nil)))) pss_nil)
      (pss_cons (ps_if (pt_val (pe_callB (call_isG (pn := (fun a d C => PnOk K pl a d C)) (fun _ _ _ z => z)) (by rfl) T.n_isinstance PyProof.Rows.boot_isinstance (pa_cons (pv 0) (pa_cons (pe_glob (v := .ref a.c_NotThere) (by rfl) T.g_NotThere rfl) pa_nil)))) (pss_one (ps_expr (pe_bm PySem.F.plainAttrs_list PySem.F.slot_list_append PySem.F.type_list_append mt_append (pv 1) (pa_cons (pe_tup (pa_cons pe_str (pa_cons (pe_xe (pn := (fun a d C => PnOk K pl a d C)) (fun _ _ _ z => z) (pv 0)) pa_nil))) pa_nil)))) pss_nil)
      (pss_cons (ps_if (pt_val (pe_callB (call_isG (pn := (fun a d C => PnOk K pl a d C)) (fun _ _ _ z => z)) (by rfl) T.n_isinstance PyProof.Rows.boot_isinstance (pa_cons (pv 0) (pa_cons (pe_glob (v := .ref a.c_TooMany) (by rfl) T.g_TooMany rfl) pa_nil)))) (pss_one (ps_expr (pe_bm PySem.F.plainAttrs_list PySem.F.slot_list_append PySem.F.type_list_append mt_append (pv 1) (pa_cons (pe_tup (pa_cons pe_str (pa_cons (pe_xe (pn := (fun a d C => PnOk K pl a d C)) (fun _ _ _ z => z) (pv 0)) (pa_cons (pe_xe (pn := (fun a d C => PnOk K pl a d C)) (fun _ _ _ z => z) (pv 0)) (pa_cons (pe_xe (pn := (fun a d C => PnOk K pl a d C)) (fun _ _ _ z => z) (pv 0)) pa_nil))))) pa_nil)))) pss_nil)
      (pss_cons (ps_if (pt_val (pe_callB (call_isG (pn := (fun a d C => PnOk K pl a d C)) (fun _ _ _ z => z)) (by rfl) T.n_isinstance PyProof.Rows.boot_isinstance (pa_cons (pv 0) (pa_cons (pe_glob (v := .ref a.c_NotKept) (by rfl) T.g_NotKept rfl) pa_nil)))) (pss_one (ps_expr (pe_bm PySem.F.plainAttrs_list PySem.F.slot_list_append PySem.F.type_list_append mt_append (pv 1) (pa_cons (pe_tup (pa_cons pe_str (pa_cons (pe_xe (pn := (fun a d C => PnOk K pl a d C)) (fun _ _ _ z => z) (pv 0)) (pa_cons (pe_xe (pn := (fun a d C => PnOk K pl a d C)) (fun _ _ _ z => z) (pv 0)) pa_nil)))) pa_nil)))) pss_nil)
      (pss_cons (ps_if (pt_val (pe_callB (call_isG (pn := (fun a d C => PnOk K pl a d C)) (fun _ _ _ z => z)) (by rfl) T.n_isinstance PyProof.Rows.boot_isinstance (pa_cons (pv 0) (pa_cons (pe_glob (v := .ref a.c_NothingToUndo) (by rfl) T.g_NothingToUndo rfl) pa_nil)))) (pss_one (ps_expr (pe_bm PySem.F.plainAttrs_list PySem.F.slot_list_append PySem.F.type_list_append mt_append (pv 1) (pa_cons (pe_tup (pa_cons pe_str pa_nil)) pa_nil)))) pss_nil)
      (pss_cons (ps_if (pt_val (pe_callB (call_isG (pn := (fun a d C => PnOk K pl a d C)) (fun _ _ _ z => z)) (by rfl) T.n_isinstance PyProof.Rows.boot_isinstance (pa_cons (pv 0) (pa_cons (pe_glob (v := .ref a.c_NothingToRedo) (by rfl) T.g_NothingToRedo rfl) pa_nil)))) (pss_one (ps_expr (pe_bm PySem.F.plainAttrs_list PySem.F.slot_list_append PySem.F.type_list_append mt_append (pv 1) (pa_cons (pe_tup (pa_cons pe_str pa_nil)) pa_nil)))) pss_nil)
      (pss_one (ps_ret (pv 1)))))))))))), fun b ss R X h hX => ?_⟩
  obtain ⟨k, a0, d0, one, two, three, hk, hpn, rfl, h1, h2, hR⟩ := h
  refine ds_seq (ds_own (dn_lst (da_nil ⟨by decide, ?_⟩)))
  have hk' : k = 0 ∨ k = 1 ∨ k = 2 ∨ k = 3 ∨ k = 4 ∨ k = 5 ∨ k = 6 ∨ k = 7 ∨ k = 8 ∨ k = 9 ∨ k = 10 ∨ k = 11 ∨ k = 12 ∨ k = 13 ∨ k = 14 ∨ k = 15 := by omega
  rcases hk' with rfl | rfl | rfl | rfl | rfl | rfl | rfl | rfl | rfl | rfl | rfl | rfl | rfl | rfl | rfl | rfl
  · have hR : R (.lst []) := hR
    have ok2 := h2 (by decide)
    refine ds_seq (ds_isE (a0 := a0) (C := a.c_BadNumber) (d0 := d0) (l0 := kF one two three 0) rfl hpn T.e_BadNumber T.e_NoName (nodup_ne T.ne (i := 0) (j := 9) rfl rfl (by decide)) (fun z => (nodup_ne T.ne (i := 1) (j := 9) rfl rfl (by decide) z).elim) (fun _ => ?_))
    refine ds_seq (ds_isE (a0 := a0) (C := a.c_BadNumber) (d0 := d0) (l0 := kF one two three 0) rfl hpn T.e_BadNumber T.e_TakenName (nodup_ne T.ne (i := 0) (j := 10) rfl rfl (by decide)) (fun z => (nodup_ne T.ne (i := 1) (j := 10) rfl rfl (by decide) z).elim) (fun _ => ?_))
    refine ds_seq (ds_isE (a0 := a0) (C := a.c_BadNumber) (d0 := d0) (l0 := kF one two three 0) rfl hpn T.e_BadNumber T.e_Unlike (nodup_ne T.ne (i := 0) (j := 11) rfl rfl (by decide)) (fun z => (nodup_ne T.ne (i := 1) (j := 11) rfl rfl (by decide) z).elim) (fun _ => ?_))
    refine ds_seq (ds_isE (a0 := a0) (C := a.c_BadNumber) (d0 := d0) (l0 := kF one two three 0) rfl hpn T.e_BadNumber T.e_NotThere (nodup_ne T.ne (i := 0) (j := 12) rfl rfl (by decide)) (fun z => (nodup_ne T.ne (i := 1) (j := 12) rfl rfl (by decide) z).elim) (fun _ => ?_))
    refine ds_seq (ds_isE (a0 := a0) (C := a.c_BadNumber) (d0 := d0) (l0 := kF one two three 0) rfl hpn T.e_BadNumber T.e_TooMany (nodup_ne T.ne (i := 0) (j := 13) rfl rfl (by decide)) (fun z => (nodup_ne T.ne (i := 1) (j := 13) rfl rfl (by decide) z).elim) (fun _ => ?_))
    refine ds_seq (ds_isE (a0 := a0) (C := a.c_BadNumber) (d0 := d0) (l0 := kF one two three 0) rfl hpn T.e_BadNumber T.e_NotKept (nodup_ne T.ne (i := 0) (j := 14) rfl rfl (by decide)) (fun z => (nodup_ne T.ne (i := 1) (j := 14) rfl rfl (by decide) z).elim) (fun _ => ?_))
    refine ds_seq (ds_isE (a0 := a0) (C := a.c_BadNumber) (d0 := d0) (l0 := kF one two three 0) rfl hpn T.e_BadNumber T.e_NothingToUndo (nodup_ne T.ne (i := 0) (j := 15) rfl rfl (by decide)) (fun z => (nodup_ne T.ne (i := 1) (j := 15) rfl rfl (by decide) z).elim) (fun _ => ?_))
    refine ds_seq (ds_isE (a0 := a0) (C := a.c_BadNumber) (d0 := d0) (l0 := kF one two three 0) rfl hpn T.e_BadNumber T.e_NothingToRedo (nodup_ne T.ne (i := 0) (j := 16) rfl rfl (by decide)) (fun z => (nodup_ne T.ne (i := 1) (j := 16) rfl rfl (by decide) z).elim) (fun _ => ?_))
    exact ds_share (i := 1) rfl (ds_ret (de_var rfl hR))
  · have hR : R (.lst []) := hR
    have ok2 := h2 (by decide)
    refine ds_seq (ds_isE (a0 := a0) (C := a.c_BadRow) (d0 := d0) (l0 := kF one two three 1) rfl hpn T.e_BadRow T.e_NoName (nodup_ne T.ne (i := 0) (j := 9) rfl rfl (by decide)) (fun z => (nodup_ne T.ne (i := 2) (j := 9) rfl rfl (by decide) z).elim) (fun _ => ?_))
    refine ds_seq (ds_isE (a0 := a0) (C := a.c_BadRow) (d0 := d0) (l0 := kF one two three 1) rfl hpn T.e_BadRow T.e_TakenName (nodup_ne T.ne (i := 0) (j := 10) rfl rfl (by decide)) (fun z => (nodup_ne T.ne (i := 2) (j := 10) rfl rfl (by decide) z).elim) (fun _ => ?_))
    refine ds_seq (ds_isE (a0 := a0) (C := a.c_BadRow) (d0 := d0) (l0 := kF one two three 1) rfl hpn T.e_BadRow T.e_Unlike (nodup_ne T.ne (i := 0) (j := 11) rfl rfl (by decide)) (fun z => (nodup_ne T.ne (i := 2) (j := 11) rfl rfl (by decide) z).elim) (fun _ => ?_))
    refine ds_seq (ds_isE (a0 := a0) (C := a.c_BadRow) (d0 := d0) (l0 := kF one two three 1) rfl hpn T.e_BadRow T.e_NotThere (nodup_ne T.ne (i := 0) (j := 12) rfl rfl (by decide)) (fun z => (nodup_ne T.ne (i := 2) (j := 12) rfl rfl (by decide) z).elim) (fun _ => ?_))
    refine ds_seq (ds_isE (a0 := a0) (C := a.c_BadRow) (d0 := d0) (l0 := kF one two three 1) rfl hpn T.e_BadRow T.e_TooMany (nodup_ne T.ne (i := 0) (j := 13) rfl rfl (by decide)) (fun z => (nodup_ne T.ne (i := 2) (j := 13) rfl rfl (by decide) z).elim) (fun _ => ?_))
    refine ds_seq (ds_isE (a0 := a0) (C := a.c_BadRow) (d0 := d0) (l0 := kF one two three 1) rfl hpn T.e_BadRow T.e_NotKept (nodup_ne T.ne (i := 0) (j := 14) rfl rfl (by decide)) (fun z => (nodup_ne T.ne (i := 2) (j := 14) rfl rfl (by decide) z).elim) (fun _ => ?_))
    refine ds_seq (ds_isE (a0 := a0) (C := a.c_BadRow) (d0 := d0) (l0 := kF one two three 1) rfl hpn T.e_BadRow T.e_NothingToUndo (nodup_ne T.ne (i := 0) (j := 15) rfl rfl (by decide)) (fun z => (nodup_ne T.ne (i := 2) (j := 15) rfl rfl (by decide) z).elim) (fun _ => ?_))
    refine ds_seq (ds_isE (a0 := a0) (C := a.c_BadRow) (d0 := d0) (l0 := kF one two three 1) rfl hpn T.e_BadRow T.e_NothingToRedo (nodup_ne T.ne (i := 0) (j := 16) rfl rfl (by decide)) (fun z => (nodup_ne T.ne (i := 2) (j := 16) rfl rfl (by decide) z).elim) (fun _ => ?_))
    exact ds_share (i := 1) rfl (ds_ret (de_var rfl hR))
  · have hR : R (.lst []) := hR
    refine ds_seq (ds_isE (a0 := a0) (C := a.c_BadTable) (d0 := d0) (l0 := kF one two three 2) rfl hpn T.e_BadTable T.e_NoName (nodup_ne T.ne (i := 0) (j := 9) rfl rfl (by decide)) (fun z => (nodup_ne T.ne (i := 3) (j := 9) rfl rfl (by decide) z).elim) (fun _ => ?_))
    refine ds_seq (ds_isE (a0 := a0) (C := a.c_BadTable) (d0 := d0) (l0 := kF one two three 2) rfl hpn T.e_BadTable T.e_TakenName (nodup_ne T.ne (i := 0) (j := 10) rfl rfl (by decide)) (fun z => (nodup_ne T.ne (i := 3) (j := 10) rfl rfl (by decide) z).elim) (fun _ => ?_))
    refine ds_seq (ds_isE (a0 := a0) (C := a.c_BadTable) (d0 := d0) (l0 := kF one two three 2) rfl hpn T.e_BadTable T.e_Unlike (nodup_ne T.ne (i := 0) (j := 11) rfl rfl (by decide)) (fun z => (nodup_ne T.ne (i := 3) (j := 11) rfl rfl (by decide) z).elim) (fun _ => ?_))
    refine ds_seq (ds_isE (a0 := a0) (C := a.c_BadTable) (d0 := d0) (l0 := kF one two three 2) rfl hpn T.e_BadTable T.e_NotThere (nodup_ne T.ne (i := 0) (j := 12) rfl rfl (by decide)) (fun z => (nodup_ne T.ne (i := 3) (j := 12) rfl rfl (by decide) z).elim) (fun _ => ?_))
    refine ds_seq (ds_isE (a0 := a0) (C := a.c_BadTable) (d0 := d0) (l0 := kF one two three 2) rfl hpn T.e_BadTable T.e_TooMany (nodup_ne T.ne (i := 0) (j := 13) rfl rfl (by decide)) (fun z => (nodup_ne T.ne (i := 3) (j := 13) rfl rfl (by decide) z).elim) (fun _ => ?_))
    refine ds_seq (ds_isE (a0 := a0) (C := a.c_BadTable) (d0 := d0) (l0 := kF one two three 2) rfl hpn T.e_BadTable T.e_NotKept (nodup_ne T.ne (i := 0) (j := 14) rfl rfl (by decide)) (fun z => (nodup_ne T.ne (i := 3) (j := 14) rfl rfl (by decide) z).elim) (fun _ => ?_))
    refine ds_seq (ds_isE (a0 := a0) (C := a.c_BadTable) (d0 := d0) (l0 := kF one two three 2) rfl hpn T.e_BadTable T.e_NothingToUndo (nodup_ne T.ne (i := 0) (j := 15) rfl rfl (by decide)) (fun z => (nodup_ne T.ne (i := 3) (j := 15) rfl rfl (by decide) z).elim) (fun _ => ?_))
    refine ds_seq (ds_isE (a0 := a0) (C := a.c_BadTable) (d0 := d0) (l0 := kF one two three 2) rfl hpn T.e_BadTable T.e_NothingToRedo (nodup_ne T.ne (i := 0) (j := 16) rfl rfl (by decide)) (fun z => (nodup_ne T.ne (i := 3) (j := 16) rfl rfl (by decide) z).elim) (fun _ => ?_))
    exact ds_share (i := 1) rfl (ds_ret (de_var rfl hR))
  · have hR : R (.lst []) := hR
    refine ds_seq (ds_isE (a0 := a0) (C := a.c_BadForm) (d0 := d0) (l0 := kF one two three 3) rfl hpn T.e_BadForm T.e_NoName (nodup_ne T.ne (i := 0) (j := 9) rfl rfl (by decide)) (fun z => (nodup_ne T.ne (i := 4) (j := 9) rfl rfl (by decide) z).elim) (fun _ => ?_))
    refine ds_seq (ds_isE (a0 := a0) (C := a.c_BadForm) (d0 := d0) (l0 := kF one two three 3) rfl hpn T.e_BadForm T.e_TakenName (nodup_ne T.ne (i := 0) (j := 10) rfl rfl (by decide)) (fun z => (nodup_ne T.ne (i := 4) (j := 10) rfl rfl (by decide) z).elim) (fun _ => ?_))
    refine ds_seq (ds_isE (a0 := a0) (C := a.c_BadForm) (d0 := d0) (l0 := kF one two three 3) rfl hpn T.e_BadForm T.e_Unlike (nodup_ne T.ne (i := 0) (j := 11) rfl rfl (by decide)) (fun z => (nodup_ne T.ne (i := 4) (j := 11) rfl rfl (by decide) z).elim) (fun _ => ?_))
    refine ds_seq (ds_isE (a0 := a0) (C := a.c_BadForm) (d0 := d0) (l0 := kF one two three 3) rfl hpn T.e_BadForm T.e_NotThere (nodup_ne T.ne (i := 0) (j := 12) rfl rfl (by decide)) (fun z => (nodup_ne T.ne (i := 4) (j := 12) rfl rfl (by decide) z).elim) (fun _ => ?_))
    refine ds_seq (ds_isE (a0 := a0) (C := a.c_BadForm) (d0 := d0) (l0 := kF one two three 3) rfl hpn T.e_BadForm T.e_TooMany (nodup_ne T.ne (i := 0) (j := 13) rfl rfl (by decide)) (fun z => (nodup_ne T.ne (i := 4) (j := 13) rfl rfl (by decide) z).elim) (fun _ => ?_))
    refine ds_seq (ds_isE (a0 := a0) (C := a.c_BadForm) (d0 := d0) (l0 := kF one two three 3) rfl hpn T.e_BadForm T.e_NotKept (nodup_ne T.ne (i := 0) (j := 14) rfl rfl (by decide)) (fun z => (nodup_ne T.ne (i := 4) (j := 14) rfl rfl (by decide) z).elim) (fun _ => ?_))
    refine ds_seq (ds_isE (a0 := a0) (C := a.c_BadForm) (d0 := d0) (l0 := kF one two three 3) rfl hpn T.e_BadForm T.e_NothingToUndo (nodup_ne T.ne (i := 0) (j := 15) rfl rfl (by decide)) (fun z => (nodup_ne T.ne (i := 4) (j := 15) rfl rfl (by decide) z).elim) (fun _ => ?_))
    refine ds_seq (ds_isE (a0 := a0) (C := a.c_BadForm) (d0 := d0) (l0 := kF one two three 3) rfl hpn T.e_BadForm T.e_NothingToRedo (nodup_ne T.ne (i := 0) (j := 16) rfl rfl (by decide)) (fun z => (nodup_ne T.ne (i := 4) (j := 16) rfl rfl (by decide) z).elim) (fun _ => ?_))
    exact ds_share (i := 1) rfl (ds_ret (de_var rfl hR))
  · have hR : R (.lst []) := hR
    refine ds_seq (ds_isE (a0 := a0) (C := a.c_BadBook) (d0 := d0) (l0 := kF one two three 4) rfl hpn T.e_BadBook T.e_NoName (nodup_ne T.ne (i := 0) (j := 9) rfl rfl (by decide)) (fun z => (nodup_ne T.ne (i := 5) (j := 9) rfl rfl (by decide) z).elim) (fun _ => ?_))
    refine ds_seq (ds_isE (a0 := a0) (C := a.c_BadBook) (d0 := d0) (l0 := kF one two three 4) rfl hpn T.e_BadBook T.e_TakenName (nodup_ne T.ne (i := 0) (j := 10) rfl rfl (by decide)) (fun z => (nodup_ne T.ne (i := 5) (j := 10) rfl rfl (by decide) z).elim) (fun _ => ?_))
    refine ds_seq (ds_isE (a0 := a0) (C := a.c_BadBook) (d0 := d0) (l0 := kF one two three 4) rfl hpn T.e_BadBook T.e_Unlike (nodup_ne T.ne (i := 0) (j := 11) rfl rfl (by decide)) (fun z => (nodup_ne T.ne (i := 5) (j := 11) rfl rfl (by decide) z).elim) (fun _ => ?_))
    refine ds_seq (ds_isE (a0 := a0) (C := a.c_BadBook) (d0 := d0) (l0 := kF one two three 4) rfl hpn T.e_BadBook T.e_NotThere (nodup_ne T.ne (i := 0) (j := 12) rfl rfl (by decide)) (fun z => (nodup_ne T.ne (i := 5) (j := 12) rfl rfl (by decide) z).elim) (fun _ => ?_))
    refine ds_seq (ds_isE (a0 := a0) (C := a.c_BadBook) (d0 := d0) (l0 := kF one two three 4) rfl hpn T.e_BadBook T.e_TooMany (nodup_ne T.ne (i := 0) (j := 13) rfl rfl (by decide)) (fun z => (nodup_ne T.ne (i := 5) (j := 13) rfl rfl (by decide) z).elim) (fun _ => ?_))
    refine ds_seq (ds_isE (a0 := a0) (C := a.c_BadBook) (d0 := d0) (l0 := kF one two three 4) rfl hpn T.e_BadBook T.e_NotKept (nodup_ne T.ne (i := 0) (j := 14) rfl rfl (by decide)) (fun z => (nodup_ne T.ne (i := 5) (j := 14) rfl rfl (by decide) z).elim) (fun _ => ?_))
    refine ds_seq (ds_isE (a0 := a0) (C := a.c_BadBook) (d0 := d0) (l0 := kF one two three 4) rfl hpn T.e_BadBook T.e_NothingToUndo (nodup_ne T.ne (i := 0) (j := 15) rfl rfl (by decide)) (fun z => (nodup_ne T.ne (i := 5) (j := 15) rfl rfl (by decide) z).elim) (fun _ => ?_))
    refine ds_seq (ds_isE (a0 := a0) (C := a.c_BadBook) (d0 := d0) (l0 := kF one two three 4) rfl hpn T.e_BadBook T.e_NothingToRedo (nodup_ne T.ne (i := 0) (j := 16) rfl rfl (by decide)) (fun z => (nodup_ne T.ne (i := 5) (j := 16) rfl rfl (by decide) z).elim) (fun _ => ?_))
    exact ds_share (i := 1) rfl (ds_ret (de_var rfl hR))
  · have hR : R (.lst []) := hR
    have ok1 := h1 (by decide)
    refine ds_seq (ds_isE (a0 := a0) (C := a.c_BadName) (d0 := d0) (l0 := kF one two three 5) rfl hpn T.e_BadName T.e_NoName (nodup_ne T.ne (i := 0) (j := 9) rfl rfl (by decide)) (fun z => (nodup_ne T.ne (i := 6) (j := 9) rfl rfl (by decide) z).elim) (fun _ => ?_))
    refine ds_seq (ds_isE (a0 := a0) (C := a.c_BadName) (d0 := d0) (l0 := kF one two three 5) rfl hpn T.e_BadName T.e_TakenName (nodup_ne T.ne (i := 0) (j := 10) rfl rfl (by decide)) (fun z => (nodup_ne T.ne (i := 6) (j := 10) rfl rfl (by decide) z).elim) (fun _ => ?_))
    refine ds_seq (ds_isE (a0 := a0) (C := a.c_BadName) (d0 := d0) (l0 := kF one two three 5) rfl hpn T.e_BadName T.e_Unlike (nodup_ne T.ne (i := 0) (j := 11) rfl rfl (by decide)) (fun z => (nodup_ne T.ne (i := 6) (j := 11) rfl rfl (by decide) z).elim) (fun _ => ?_))
    refine ds_seq (ds_isE (a0 := a0) (C := a.c_BadName) (d0 := d0) (l0 := kF one two three 5) rfl hpn T.e_BadName T.e_NotThere (nodup_ne T.ne (i := 0) (j := 12) rfl rfl (by decide)) (fun z => (nodup_ne T.ne (i := 6) (j := 12) rfl rfl (by decide) z).elim) (fun _ => ?_))
    refine ds_seq (ds_isE (a0 := a0) (C := a.c_BadName) (d0 := d0) (l0 := kF one two three 5) rfl hpn T.e_BadName T.e_TooMany (nodup_ne T.ne (i := 0) (j := 13) rfl rfl (by decide)) (fun z => (nodup_ne T.ne (i := 6) (j := 13) rfl rfl (by decide) z).elim) (fun _ => ?_))
    refine ds_seq (ds_isE (a0 := a0) (C := a.c_BadName) (d0 := d0) (l0 := kF one two three 5) rfl hpn T.e_BadName T.e_NotKept (nodup_ne T.ne (i := 0) (j := 14) rfl rfl (by decide)) (fun z => (nodup_ne T.ne (i := 6) (j := 14) rfl rfl (by decide) z).elim) (fun _ => ?_))
    refine ds_seq (ds_isE (a0 := a0) (C := a.c_BadName) (d0 := d0) (l0 := kF one two three 5) rfl hpn T.e_BadName T.e_NothingToUndo (nodup_ne T.ne (i := 0) (j := 15) rfl rfl (by decide)) (fun z => (nodup_ne T.ne (i := 6) (j := 15) rfl rfl (by decide) z).elim) (fun _ => ?_))
    refine ds_seq (ds_isE (a0 := a0) (C := a.c_BadName) (d0 := d0) (l0 := kF one two three 5) rfl hpn T.e_BadName T.e_NothingToRedo (nodup_ne T.ne (i := 0) (j := 16) rfl rfl (by decide)) (fun z => (nodup_ne T.ne (i := 6) (j := 16) rfl rfl (by decide) z).elim) (fun _ => ?_))
    exact ds_share (i := 1) rfl (ds_ret (de_var rfl hR))
  · have hR : R (.lst []) := hR
    refine ds_seq (ds_isE (a0 := a0) (C := a.c_BadText) (d0 := d0) (l0 := kF one two three 6) rfl hpn T.e_BadText T.e_NoName (nodup_ne T.ne (i := 0) (j := 9) rfl rfl (by decide)) (fun z => (nodup_ne T.ne (i := 7) (j := 9) rfl rfl (by decide) z).elim) (fun _ => ?_))
    refine ds_seq (ds_isE (a0 := a0) (C := a.c_BadText) (d0 := d0) (l0 := kF one two three 6) rfl hpn T.e_BadText T.e_TakenName (nodup_ne T.ne (i := 0) (j := 10) rfl rfl (by decide)) (fun z => (nodup_ne T.ne (i := 7) (j := 10) rfl rfl (by decide) z).elim) (fun _ => ?_))
    refine ds_seq (ds_isE (a0 := a0) (C := a.c_BadText) (d0 := d0) (l0 := kF one two three 6) rfl hpn T.e_BadText T.e_Unlike (nodup_ne T.ne (i := 0) (j := 11) rfl rfl (by decide)) (fun z => (nodup_ne T.ne (i := 7) (j := 11) rfl rfl (by decide) z).elim) (fun _ => ?_))
    refine ds_seq (ds_isE (a0 := a0) (C := a.c_BadText) (d0 := d0) (l0 := kF one two three 6) rfl hpn T.e_BadText T.e_NotThere (nodup_ne T.ne (i := 0) (j := 12) rfl rfl (by decide)) (fun z => (nodup_ne T.ne (i := 7) (j := 12) rfl rfl (by decide) z).elim) (fun _ => ?_))
    refine ds_seq (ds_isE (a0 := a0) (C := a.c_BadText) (d0 := d0) (l0 := kF one two three 6) rfl hpn T.e_BadText T.e_TooMany (nodup_ne T.ne (i := 0) (j := 13) rfl rfl (by decide)) (fun z => (nodup_ne T.ne (i := 7) (j := 13) rfl rfl (by decide) z).elim) (fun _ => ?_))
    refine ds_seq (ds_isE (a0 := a0) (C := a.c_BadText) (d0 := d0) (l0 := kF one two three 6) rfl hpn T.e_BadText T.e_NotKept (nodup_ne T.ne (i := 0) (j := 14) rfl rfl (by decide)) (fun z => (nodup_ne T.ne (i := 7) (j := 14) rfl rfl (by decide) z).elim) (fun _ => ?_))
    refine ds_seq (ds_isE (a0 := a0) (C := a.c_BadText) (d0 := d0) (l0 := kF one two three 6) rfl hpn T.e_BadText T.e_NothingToUndo (nodup_ne T.ne (i := 0) (j := 15) rfl rfl (by decide)) (fun z => (nodup_ne T.ne (i := 7) (j := 15) rfl rfl (by decide) z).elim) (fun _ => ?_))
    refine ds_seq (ds_isE (a0 := a0) (C := a.c_BadText) (d0 := d0) (l0 := kF one two three 6) rfl hpn T.e_BadText T.e_NothingToRedo (nodup_ne T.ne (i := 0) (j := 16) rfl rfl (by decide)) (fun z => (nodup_ne T.ne (i := 7) (j := 16) rfl rfl (by decide) z).elim) (fun _ => ?_))
    exact ds_share (i := 1) rfl (ds_ret (de_var rfl hR))
  · have hR : R (.lst []) := hR
    have ok2 := h2 (by decide)
    refine ds_seq (ds_isE (a0 := a0) (C := a.c_NoPlace) (d0 := d0) (l0 := kF one two three 7) rfl hpn T.e_NoPlace T.e_NoName (nodup_ne T.ne (i := 0) (j := 9) rfl rfl (by decide)) (fun z => (nodup_ne T.ne (i := 8) (j := 9) rfl rfl (by decide) z).elim) (fun _ => ?_))
    refine ds_seq (ds_isE (a0 := a0) (C := a.c_NoPlace) (d0 := d0) (l0 := kF one two three 7) rfl hpn T.e_NoPlace T.e_TakenName (nodup_ne T.ne (i := 0) (j := 10) rfl rfl (by decide)) (fun z => (nodup_ne T.ne (i := 8) (j := 10) rfl rfl (by decide) z).elim) (fun _ => ?_))
    refine ds_seq (ds_isE (a0 := a0) (C := a.c_NoPlace) (d0 := d0) (l0 := kF one two three 7) rfl hpn T.e_NoPlace T.e_Unlike (nodup_ne T.ne (i := 0) (j := 11) rfl rfl (by decide)) (fun z => (nodup_ne T.ne (i := 8) (j := 11) rfl rfl (by decide) z).elim) (fun _ => ?_))
    refine ds_seq (ds_isE (a0 := a0) (C := a.c_NoPlace) (d0 := d0) (l0 := kF one two three 7) rfl hpn T.e_NoPlace T.e_NotThere (nodup_ne T.ne (i := 0) (j := 12) rfl rfl (by decide)) (fun z => (nodup_ne T.ne (i := 8) (j := 12) rfl rfl (by decide) z).elim) (fun _ => ?_))
    refine ds_seq (ds_isE (a0 := a0) (C := a.c_NoPlace) (d0 := d0) (l0 := kF one two three 7) rfl hpn T.e_NoPlace T.e_TooMany (nodup_ne T.ne (i := 0) (j := 13) rfl rfl (by decide)) (fun z => (nodup_ne T.ne (i := 8) (j := 13) rfl rfl (by decide) z).elim) (fun _ => ?_))
    refine ds_seq (ds_isE (a0 := a0) (C := a.c_NoPlace) (d0 := d0) (l0 := kF one two three 7) rfl hpn T.e_NoPlace T.e_NotKept (nodup_ne T.ne (i := 0) (j := 14) rfl rfl (by decide)) (fun z => (nodup_ne T.ne (i := 8) (j := 14) rfl rfl (by decide) z).elim) (fun _ => ?_))
    refine ds_seq (ds_isE (a0 := a0) (C := a.c_NoPlace) (d0 := d0) (l0 := kF one two three 7) rfl hpn T.e_NoPlace T.e_NothingToUndo (nodup_ne T.ne (i := 0) (j := 15) rfl rfl (by decide)) (fun z => (nodup_ne T.ne (i := 8) (j := 15) rfl rfl (by decide) z).elim) (fun _ => ?_))
    refine ds_seq (ds_isE (a0 := a0) (C := a.c_NoPlace) (d0 := d0) (l0 := kF one two three 7) rfl hpn T.e_NoPlace T.e_NothingToRedo (nodup_ne T.ne (i := 0) (j := 16) rfl rfl (by decide)) (fun z => (nodup_ne T.ne (i := 8) (j := 16) rfl rfl (by decide) z).elim) (fun _ => ?_))
    exact ds_share (i := 1) rfl (ds_ret (de_var rfl hR))
  · have hR : R (.lst [kT one two three 8]) := hR
    have ok1 := h1 (by decide)
    refine ds_seq (ds_isE (a0 := a0) (C := a.c_NoName) (d0 := d0) (l0 := kF one two three 8) rfl hpn T.e_NoName T.e_NoName (nodup_ne T.ne (i := 0) (j := 9) rfl rfl (by decide)) (fun _ => ds_app rfl (de_tup (da_cons (de_str (da_cons (de_repr (de_xe (de_var rfl ⟨a0, d0, a.c_NoName, kF one two three 8, one, rfl, hpn, T.no_NoName_name, rfl, ok1, da_nil ⟨by simp, (show 0 < 16000 by decide), ?_⟩⟩)))))))) (fun z => (z rfl).elim))
    refine ds_seq (ds_isE (a0 := a0) (C := a.c_NoName) (d0 := d0) (l0 := kF one two three 8) rfl hpn T.e_NoName T.e_TakenName (nodup_ne T.ne (i := 0) (j := 10) rfl rfl (by decide)) (fun z => (nodup_ne T.ne (i := 9) (j := 10) rfl rfl (by decide) z).elim) (fun _ => ?_))
    refine ds_seq (ds_isE (a0 := a0) (C := a.c_NoName) (d0 := d0) (l0 := kF one two three 8) rfl hpn T.e_NoName T.e_Unlike (nodup_ne T.ne (i := 0) (j := 11) rfl rfl (by decide)) (fun z => (nodup_ne T.ne (i := 9) (j := 11) rfl rfl (by decide) z).elim) (fun _ => ?_))
    refine ds_seq (ds_isE (a0 := a0) (C := a.c_NoName) (d0 := d0) (l0 := kF one two three 8) rfl hpn T.e_NoName T.e_NotThere (nodup_ne T.ne (i := 0) (j := 12) rfl rfl (by decide)) (fun z => (nodup_ne T.ne (i := 9) (j := 12) rfl rfl (by decide) z).elim) (fun _ => ?_))
    refine ds_seq (ds_isE (a0 := a0) (C := a.c_NoName) (d0 := d0) (l0 := kF one two three 8) rfl hpn T.e_NoName T.e_TooMany (nodup_ne T.ne (i := 0) (j := 13) rfl rfl (by decide)) (fun z => (nodup_ne T.ne (i := 9) (j := 13) rfl rfl (by decide) z).elim) (fun _ => ?_))
    refine ds_seq (ds_isE (a0 := a0) (C := a.c_NoName) (d0 := d0) (l0 := kF one two three 8) rfl hpn T.e_NoName T.e_NotKept (nodup_ne T.ne (i := 0) (j := 14) rfl rfl (by decide)) (fun z => (nodup_ne T.ne (i := 9) (j := 14) rfl rfl (by decide) z).elim) (fun _ => ?_))
    refine ds_seq (ds_isE (a0 := a0) (C := a.c_NoName) (d0 := d0) (l0 := kF one two three 8) rfl hpn T.e_NoName T.e_NothingToUndo (nodup_ne T.ne (i := 0) (j := 15) rfl rfl (by decide)) (fun z => (nodup_ne T.ne (i := 9) (j := 15) rfl rfl (by decide) z).elim) (fun _ => ?_))
    refine ds_seq (ds_isE (a0 := a0) (C := a.c_NoName) (d0 := d0) (l0 := kF one two three 8) rfl hpn T.e_NoName T.e_NothingToRedo (nodup_ne T.ne (i := 0) (j := 16) rfl rfl (by decide)) (fun z => (nodup_ne T.ne (i := 9) (j := 16) rfl rfl (by decide) z).elim) (fun _ => ?_))
    exact ds_share (i := 1) rfl (ds_ret (de_var rfl hR))
  · have hR : R (.lst [kT one two three 9]) := hR
    have ok1 := h1 (by decide)
    refine ds_seq (ds_isE (a0 := a0) (C := a.c_TakenName) (d0 := d0) (l0 := kF one two three 9) rfl hpn T.e_TakenName T.e_NoName (nodup_ne T.ne (i := 0) (j := 9) rfl rfl (by decide)) (fun z => (nodup_ne T.ne (i := 10) (j := 9) rfl rfl (by decide) z).elim) (fun _ => ?_))
    refine ds_seq (ds_isE (a0 := a0) (C := a.c_TakenName) (d0 := d0) (l0 := kF one two three 9) rfl hpn T.e_TakenName T.e_TakenName (nodup_ne T.ne (i := 0) (j := 10) rfl rfl (by decide)) (fun _ => ds_app rfl (de_tup (da_cons (de_str (da_cons (de_repr (de_xe (de_var rfl ⟨a0, d0, a.c_TakenName, kF one two three 9, one, rfl, hpn, T.no_TakenName_name, rfl, ok1, da_nil ⟨by simp, (show 0 < 16000 by decide), ?_⟩⟩)))))))) (fun z => (z rfl).elim))
    refine ds_seq (ds_isE (a0 := a0) (C := a.c_TakenName) (d0 := d0) (l0 := kF one two three 9) rfl hpn T.e_TakenName T.e_Unlike (nodup_ne T.ne (i := 0) (j := 11) rfl rfl (by decide)) (fun z => (nodup_ne T.ne (i := 10) (j := 11) rfl rfl (by decide) z).elim) (fun _ => ?_))
    refine ds_seq (ds_isE (a0 := a0) (C := a.c_TakenName) (d0 := d0) (l0 := kF one two three 9) rfl hpn T.e_TakenName T.e_NotThere (nodup_ne T.ne (i := 0) (j := 12) rfl rfl (by decide)) (fun z => (nodup_ne T.ne (i := 10) (j := 12) rfl rfl (by decide) z).elim) (fun _ => ?_))
    refine ds_seq (ds_isE (a0 := a0) (C := a.c_TakenName) (d0 := d0) (l0 := kF one two three 9) rfl hpn T.e_TakenName T.e_TooMany (nodup_ne T.ne (i := 0) (j := 13) rfl rfl (by decide)) (fun z => (nodup_ne T.ne (i := 10) (j := 13) rfl rfl (by decide) z).elim) (fun _ => ?_))
    refine ds_seq (ds_isE (a0 := a0) (C := a.c_TakenName) (d0 := d0) (l0 := kF one two three 9) rfl hpn T.e_TakenName T.e_NotKept (nodup_ne T.ne (i := 0) (j := 14) rfl rfl (by decide)) (fun z => (nodup_ne T.ne (i := 10) (j := 14) rfl rfl (by decide) z).elim) (fun _ => ?_))
    refine ds_seq (ds_isE (a0 := a0) (C := a.c_TakenName) (d0 := d0) (l0 := kF one two three 9) rfl hpn T.e_TakenName T.e_NothingToUndo (nodup_ne T.ne (i := 0) (j := 15) rfl rfl (by decide)) (fun z => (nodup_ne T.ne (i := 10) (j := 15) rfl rfl (by decide) z).elim) (fun _ => ?_))
    refine ds_seq (ds_isE (a0 := a0) (C := a.c_TakenName) (d0 := d0) (l0 := kF one two three 9) rfl hpn T.e_TakenName T.e_NothingToRedo (nodup_ne T.ne (i := 0) (j := 16) rfl rfl (by decide)) (fun z => (nodup_ne T.ne (i := 10) (j := 16) rfl rfl (by decide) z).elim) (fun _ => ?_))
    exact ds_share (i := 1) rfl (ds_ret (de_var rfl hR))
  · have hR : R (.lst [kT one two three 10]) := hR
    refine ds_seq (ds_isE (a0 := a0) (C := a.c_Unlike) (d0 := d0) (l0 := kF one two three 10) rfl hpn T.e_Unlike T.e_NoName (nodup_ne T.ne (i := 0) (j := 9) rfl rfl (by decide)) (fun z => (nodup_ne T.ne (i := 11) (j := 9) rfl rfl (by decide) z).elim) (fun _ => ?_))
    refine ds_seq (ds_isE (a0 := a0) (C := a.c_Unlike) (d0 := d0) (l0 := kF one two three 10) rfl hpn T.e_Unlike T.e_TakenName (nodup_ne T.ne (i := 0) (j := 10) rfl rfl (by decide)) (fun z => (nodup_ne T.ne (i := 11) (j := 10) rfl rfl (by decide) z).elim) (fun _ => ?_))
    refine ds_seq (ds_isE (a0 := a0) (C := a.c_Unlike) (d0 := d0) (l0 := kF one two three 10) rfl hpn T.e_Unlike T.e_Unlike (nodup_ne T.ne (i := 0) (j := 11) rfl rfl (by decide)) (fun _ => ds_app rfl (de_tup (da_cons (de_str (da_cons (de_xe (de_var rfl ⟨a0, d0, a.c_Unlike, kF one two three 10, one, rfl, hpn, T.no_Unlike_what, rfl, da_nil ⟨by simp, (show 0 < 16000 by decide), ?_⟩⟩))))))) (fun z => (z rfl).elim))
    refine ds_seq (ds_isE (a0 := a0) (C := a.c_Unlike) (d0 := d0) (l0 := kF one two three 10) rfl hpn T.e_Unlike T.e_NotThere (nodup_ne T.ne (i := 0) (j := 12) rfl rfl (by decide)) (fun z => (nodup_ne T.ne (i := 11) (j := 12) rfl rfl (by decide) z).elim) (fun _ => ?_))
    refine ds_seq (ds_isE (a0 := a0) (C := a.c_Unlike) (d0 := d0) (l0 := kF one two three 10) rfl hpn T.e_Unlike T.e_TooMany (nodup_ne T.ne (i := 0) (j := 13) rfl rfl (by decide)) (fun z => (nodup_ne T.ne (i := 11) (j := 13) rfl rfl (by decide) z).elim) (fun _ => ?_))
    refine ds_seq (ds_isE (a0 := a0) (C := a.c_Unlike) (d0 := d0) (l0 := kF one two three 10) rfl hpn T.e_Unlike T.e_NotKept (nodup_ne T.ne (i := 0) (j := 14) rfl rfl (by decide)) (fun z => (nodup_ne T.ne (i := 11) (j := 14) rfl rfl (by decide) z).elim) (fun _ => ?_))
    refine ds_seq (ds_isE (a0 := a0) (C := a.c_Unlike) (d0 := d0) (l0 := kF one two three 10) rfl hpn T.e_Unlike T.e_NothingToUndo (nodup_ne T.ne (i := 0) (j := 15) rfl rfl (by decide)) (fun z => (nodup_ne T.ne (i := 11) (j := 15) rfl rfl (by decide) z).elim) (fun _ => ?_))
    refine ds_seq (ds_isE (a0 := a0) (C := a.c_Unlike) (d0 := d0) (l0 := kF one two three 10) rfl hpn T.e_Unlike T.e_NothingToRedo (nodup_ne T.ne (i := 0) (j := 16) rfl rfl (by decide)) (fun z => (nodup_ne T.ne (i := 11) (j := 16) rfl rfl (by decide) z).elim) (fun _ => ?_))
    exact ds_share (i := 1) rfl (ds_ret (de_var rfl hR))
  · have hR : R (.lst [kT one two three 11]) := hR
    refine ds_seq (ds_isE (a0 := a0) (C := a.c_NotThere) (d0 := d0) (l0 := kF one two three 11) rfl hpn T.e_NotThere T.e_NoName (nodup_ne T.ne (i := 0) (j := 9) rfl rfl (by decide)) (fun z => (nodup_ne T.ne (i := 12) (j := 9) rfl rfl (by decide) z).elim) (fun _ => ?_))
    refine ds_seq (ds_isE (a0 := a0) (C := a.c_NotThere) (d0 := d0) (l0 := kF one two three 11) rfl hpn T.e_NotThere T.e_TakenName (nodup_ne T.ne (i := 0) (j := 10) rfl rfl (by decide)) (fun z => (nodup_ne T.ne (i := 12) (j := 10) rfl rfl (by decide) z).elim) (fun _ => ?_))
    refine ds_seq (ds_isE (a0 := a0) (C := a.c_NotThere) (d0 := d0) (l0 := kF one two three 11) rfl hpn T.e_NotThere T.e_Unlike (nodup_ne T.ne (i := 0) (j := 11) rfl rfl (by decide)) (fun z => (nodup_ne T.ne (i := 12) (j := 11) rfl rfl (by decide) z).elim) (fun _ => ?_))
    refine ds_seq (ds_isE (a0 := a0) (C := a.c_NotThere) (d0 := d0) (l0 := kF one two three 11) rfl hpn T.e_NotThere T.e_NotThere (nodup_ne T.ne (i := 0) (j := 12) rfl rfl (by decide)) (fun _ => ds_app rfl (de_tup (da_cons (de_str (da_cons (de_xe (de_var rfl ⟨a0, d0, a.c_NotThere, kF one two three 11, one, rfl, hpn, T.no_NotThere_paper, rfl, da_nil ⟨by simp, (show 0 < 16000 by decide), ?_⟩⟩))))))) (fun z => (z rfl).elim))
    refine ds_seq (ds_isE (a0 := a0) (C := a.c_NotThere) (d0 := d0) (l0 := kF one two three 11) rfl hpn T.e_NotThere T.e_TooMany (nodup_ne T.ne (i := 0) (j := 13) rfl rfl (by decide)) (fun z => (nodup_ne T.ne (i := 12) (j := 13) rfl rfl (by decide) z).elim) (fun _ => ?_))
    refine ds_seq (ds_isE (a0 := a0) (C := a.c_NotThere) (d0 := d0) (l0 := kF one two three 11) rfl hpn T.e_NotThere T.e_NotKept (nodup_ne T.ne (i := 0) (j := 14) rfl rfl (by decide)) (fun z => (nodup_ne T.ne (i := 12) (j := 14) rfl rfl (by decide) z).elim) (fun _ => ?_))
    refine ds_seq (ds_isE (a0 := a0) (C := a.c_NotThere) (d0 := d0) (l0 := kF one two three 11) rfl hpn T.e_NotThere T.e_NothingToUndo (nodup_ne T.ne (i := 0) (j := 15) rfl rfl (by decide)) (fun z => (nodup_ne T.ne (i := 12) (j := 15) rfl rfl (by decide) z).elim) (fun _ => ?_))
    refine ds_seq (ds_isE (a0 := a0) (C := a.c_NotThere) (d0 := d0) (l0 := kF one two three 11) rfl hpn T.e_NotThere T.e_NothingToRedo (nodup_ne T.ne (i := 0) (j := 16) rfl rfl (by decide)) (fun z => (nodup_ne T.ne (i := 12) (j := 16) rfl rfl (by decide) z).elim) (fun _ => ?_))
    exact ds_share (i := 1) rfl (ds_ret (de_var rfl hR))
  · have hR : R (.lst [kT one two three 12]) := hR
    refine ds_seq (ds_isE (a0 := a0) (C := a.c_TooMany) (d0 := d0) (l0 := kF one two three 12) rfl hpn T.e_TooMany T.e_NoName (nodup_ne T.ne (i := 0) (j := 9) rfl rfl (by decide)) (fun z => (nodup_ne T.ne (i := 13) (j := 9) rfl rfl (by decide) z).elim) (fun _ => ?_))
    refine ds_seq (ds_isE (a0 := a0) (C := a.c_TooMany) (d0 := d0) (l0 := kF one two three 12) rfl hpn T.e_TooMany T.e_TakenName (nodup_ne T.ne (i := 0) (j := 10) rfl rfl (by decide)) (fun z => (nodup_ne T.ne (i := 13) (j := 10) rfl rfl (by decide) z).elim) (fun _ => ?_))
    refine ds_seq (ds_isE (a0 := a0) (C := a.c_TooMany) (d0 := d0) (l0 := kF one two three 12) rfl hpn T.e_TooMany T.e_Unlike (nodup_ne T.ne (i := 0) (j := 11) rfl rfl (by decide)) (fun z => (nodup_ne T.ne (i := 13) (j := 11) rfl rfl (by decide) z).elim) (fun _ => ?_))
    refine ds_seq (ds_isE (a0 := a0) (C := a.c_TooMany) (d0 := d0) (l0 := kF one two three 12) rfl hpn T.e_TooMany T.e_NotThere (nodup_ne T.ne (i := 0) (j := 12) rfl rfl (by decide)) (fun z => (nodup_ne T.ne (i := 13) (j := 12) rfl rfl (by decide) z).elim) (fun _ => ?_))
    refine ds_seq (ds_isE (a0 := a0) (C := a.c_TooMany) (d0 := d0) (l0 := kF one two three 12) rfl hpn T.e_TooMany T.e_TooMany (nodup_ne T.ne (i := 0) (j := 13) rfl rfl (by decide)) (fun _ => ds_app rfl (de_tup (da_cons (de_str (da_cons (de_xe (de_var rfl ⟨a0, d0, a.c_TooMany, kF one two three 12, one, rfl, hpn, T.no_TooMany_what, rfl, da_cons (de_xe (de_var rfl ⟨a0, d0, a.c_TooMany, kF one two three 12, two, rfl, hpn, T.no_TooMany_many, rfl, da_cons (de_xe (de_var rfl ⟨a0, d0, a.c_TooMany, kF one two three 12, three, rfl, hpn, T.no_TooMany_limit, rfl, da_nil ⟨by simp, (show 0 < 16000 by decide), ?_⟩⟩))⟩))⟩))))))) (fun z => (z rfl).elim))
    refine ds_seq (ds_isE (a0 := a0) (C := a.c_TooMany) (d0 := d0) (l0 := kF one two three 12) rfl hpn T.e_TooMany T.e_NotKept (nodup_ne T.ne (i := 0) (j := 14) rfl rfl (by decide)) (fun z => (nodup_ne T.ne (i := 13) (j := 14) rfl rfl (by decide) z).elim) (fun _ => ?_))
    refine ds_seq (ds_isE (a0 := a0) (C := a.c_TooMany) (d0 := d0) (l0 := kF one two three 12) rfl hpn T.e_TooMany T.e_NothingToUndo (nodup_ne T.ne (i := 0) (j := 15) rfl rfl (by decide)) (fun z => (nodup_ne T.ne (i := 13) (j := 15) rfl rfl (by decide) z).elim) (fun _ => ?_))
    refine ds_seq (ds_isE (a0 := a0) (C := a.c_TooMany) (d0 := d0) (l0 := kF one two three 12) rfl hpn T.e_TooMany T.e_NothingToRedo (nodup_ne T.ne (i := 0) (j := 16) rfl rfl (by decide)) (fun z => (nodup_ne T.ne (i := 13) (j := 16) rfl rfl (by decide) z).elim) (fun _ => ?_))
    exact ds_share (i := 1) rfl (ds_ret (de_var rfl hR))
  · have hR : R (.lst [kT one two three 13]) := hR
    refine ds_seq (ds_isE (a0 := a0) (C := a.c_NotKept) (d0 := d0) (l0 := kF one two three 13) rfl hpn T.e_NotKept T.e_NoName (nodup_ne T.ne (i := 0) (j := 9) rfl rfl (by decide)) (fun z => (nodup_ne T.ne (i := 14) (j := 9) rfl rfl (by decide) z).elim) (fun _ => ?_))
    refine ds_seq (ds_isE (a0 := a0) (C := a.c_NotKept) (d0 := d0) (l0 := kF one two three 13) rfl hpn T.e_NotKept T.e_TakenName (nodup_ne T.ne (i := 0) (j := 10) rfl rfl (by decide)) (fun z => (nodup_ne T.ne (i := 14) (j := 10) rfl rfl (by decide) z).elim) (fun _ => ?_))
    refine ds_seq (ds_isE (a0 := a0) (C := a.c_NotKept) (d0 := d0) (l0 := kF one two three 13) rfl hpn T.e_NotKept T.e_Unlike (nodup_ne T.ne (i := 0) (j := 11) rfl rfl (by decide)) (fun z => (nodup_ne T.ne (i := 14) (j := 11) rfl rfl (by decide) z).elim) (fun _ => ?_))
    refine ds_seq (ds_isE (a0 := a0) (C := a.c_NotKept) (d0 := d0) (l0 := kF one two three 13) rfl hpn T.e_NotKept T.e_NotThere (nodup_ne T.ne (i := 0) (j := 12) rfl rfl (by decide)) (fun z => (nodup_ne T.ne (i := 14) (j := 12) rfl rfl (by decide) z).elim) (fun _ => ?_))
    refine ds_seq (ds_isE (a0 := a0) (C := a.c_NotKept) (d0 := d0) (l0 := kF one two three 13) rfl hpn T.e_NotKept T.e_TooMany (nodup_ne T.ne (i := 0) (j := 13) rfl rfl (by decide)) (fun z => (nodup_ne T.ne (i := 14) (j := 13) rfl rfl (by decide) z).elim) (fun _ => ?_))
    refine ds_seq (ds_isE (a0 := a0) (C := a.c_NotKept) (d0 := d0) (l0 := kF one two three 13) rfl hpn T.e_NotKept T.e_NotKept (nodup_ne T.ne (i := 0) (j := 14) rfl rfl (by decide)) (fun _ => ds_app rfl (de_tup (da_cons (de_str (da_cons (de_xe (de_var rfl ⟨a0, d0, a.c_NotKept, kF one two three 13, one, rfl, hpn, T.no_NotKept_promise, rfl, da_cons (de_xe (de_var rfl ⟨a0, d0, a.c_NotKept, kF one two three 13, two, rfl, hpn, T.no_NotKept_witness, rfl, da_nil ⟨by simp, (show 0 < 16000 by decide), ?_⟩⟩))⟩))))))) (fun z => (z rfl).elim))
    refine ds_seq (ds_isE (a0 := a0) (C := a.c_NotKept) (d0 := d0) (l0 := kF one two three 13) rfl hpn T.e_NotKept T.e_NothingToUndo (nodup_ne T.ne (i := 0) (j := 15) rfl rfl (by decide)) (fun z => (nodup_ne T.ne (i := 14) (j := 15) rfl rfl (by decide) z).elim) (fun _ => ?_))
    refine ds_seq (ds_isE (a0 := a0) (C := a.c_NotKept) (d0 := d0) (l0 := kF one two three 13) rfl hpn T.e_NotKept T.e_NothingToRedo (nodup_ne T.ne (i := 0) (j := 16) rfl rfl (by decide)) (fun z => (nodup_ne T.ne (i := 14) (j := 16) rfl rfl (by decide) z).elim) (fun _ => ?_))
    exact ds_share (i := 1) rfl (ds_ret (de_var rfl hR))
  · have hR : R (.lst [kT one two three 14]) := hR
    refine ds_seq (ds_isE (a0 := a0) (C := a.c_NothingToUndo) (d0 := d0) (l0 := kF one two three 14) rfl hpn T.e_NothingToUndo T.e_NoName (nodup_ne T.ne (i := 0) (j := 9) rfl rfl (by decide)) (fun z => (nodup_ne T.ne (i := 15) (j := 9) rfl rfl (by decide) z).elim) (fun _ => ?_))
    refine ds_seq (ds_isE (a0 := a0) (C := a.c_NothingToUndo) (d0 := d0) (l0 := kF one two three 14) rfl hpn T.e_NothingToUndo T.e_TakenName (nodup_ne T.ne (i := 0) (j := 10) rfl rfl (by decide)) (fun z => (nodup_ne T.ne (i := 15) (j := 10) rfl rfl (by decide) z).elim) (fun _ => ?_))
    refine ds_seq (ds_isE (a0 := a0) (C := a.c_NothingToUndo) (d0 := d0) (l0 := kF one two three 14) rfl hpn T.e_NothingToUndo T.e_Unlike (nodup_ne T.ne (i := 0) (j := 11) rfl rfl (by decide)) (fun z => (nodup_ne T.ne (i := 15) (j := 11) rfl rfl (by decide) z).elim) (fun _ => ?_))
    refine ds_seq (ds_isE (a0 := a0) (C := a.c_NothingToUndo) (d0 := d0) (l0 := kF one two three 14) rfl hpn T.e_NothingToUndo T.e_NotThere (nodup_ne T.ne (i := 0) (j := 12) rfl rfl (by decide)) (fun z => (nodup_ne T.ne (i := 15) (j := 12) rfl rfl (by decide) z).elim) (fun _ => ?_))
    refine ds_seq (ds_isE (a0 := a0) (C := a.c_NothingToUndo) (d0 := d0) (l0 := kF one two three 14) rfl hpn T.e_NothingToUndo T.e_TooMany (nodup_ne T.ne (i := 0) (j := 13) rfl rfl (by decide)) (fun z => (nodup_ne T.ne (i := 15) (j := 13) rfl rfl (by decide) z).elim) (fun _ => ?_))
    refine ds_seq (ds_isE (a0 := a0) (C := a.c_NothingToUndo) (d0 := d0) (l0 := kF one two three 14) rfl hpn T.e_NothingToUndo T.e_NotKept (nodup_ne T.ne (i := 0) (j := 14) rfl rfl (by decide)) (fun z => (nodup_ne T.ne (i := 15) (j := 14) rfl rfl (by decide) z).elim) (fun _ => ?_))
    refine ds_seq (ds_isE (a0 := a0) (C := a.c_NothingToUndo) (d0 := d0) (l0 := kF one two three 14) rfl hpn T.e_NothingToUndo T.e_NothingToUndo (nodup_ne T.ne (i := 0) (j := 15) rfl rfl (by decide)) (fun _ => ds_app rfl (de_tup (da_cons (de_str (da_nil ⟨by simp, (show 0 < 16000 by decide), ?_⟩))))) (fun z => (z rfl).elim))
    refine ds_seq (ds_isE (a0 := a0) (C := a.c_NothingToUndo) (d0 := d0) (l0 := kF one two three 14) rfl hpn T.e_NothingToUndo T.e_NothingToRedo (nodup_ne T.ne (i := 0) (j := 16) rfl rfl (by decide)) (fun z => (nodup_ne T.ne (i := 15) (j := 16) rfl rfl (by decide) z).elim) (fun _ => ?_))
    exact ds_share (i := 1) rfl (ds_ret (de_var rfl hR))
  · have hR : R (.lst [kT one two three 15]) := hR
    refine ds_seq (ds_isE (a0 := a0) (C := a.c_NothingToRedo) (d0 := d0) (l0 := kF one two three 15) rfl hpn T.e_NothingToRedo T.e_NoName (nodup_ne T.ne (i := 0) (j := 9) rfl rfl (by decide)) (fun z => (nodup_ne T.ne (i := 16) (j := 9) rfl rfl (by decide) z).elim) (fun _ => ?_))
    refine ds_seq (ds_isE (a0 := a0) (C := a.c_NothingToRedo) (d0 := d0) (l0 := kF one two three 15) rfl hpn T.e_NothingToRedo T.e_TakenName (nodup_ne T.ne (i := 0) (j := 10) rfl rfl (by decide)) (fun z => (nodup_ne T.ne (i := 16) (j := 10) rfl rfl (by decide) z).elim) (fun _ => ?_))
    refine ds_seq (ds_isE (a0 := a0) (C := a.c_NothingToRedo) (d0 := d0) (l0 := kF one two three 15) rfl hpn T.e_NothingToRedo T.e_Unlike (nodup_ne T.ne (i := 0) (j := 11) rfl rfl (by decide)) (fun z => (nodup_ne T.ne (i := 16) (j := 11) rfl rfl (by decide) z).elim) (fun _ => ?_))
    refine ds_seq (ds_isE (a0 := a0) (C := a.c_NothingToRedo) (d0 := d0) (l0 := kF one two three 15) rfl hpn T.e_NothingToRedo T.e_NotThere (nodup_ne T.ne (i := 0) (j := 12) rfl rfl (by decide)) (fun z => (nodup_ne T.ne (i := 16) (j := 12) rfl rfl (by decide) z).elim) (fun _ => ?_))
    refine ds_seq (ds_isE (a0 := a0) (C := a.c_NothingToRedo) (d0 := d0) (l0 := kF one two three 15) rfl hpn T.e_NothingToRedo T.e_TooMany (nodup_ne T.ne (i := 0) (j := 13) rfl rfl (by decide)) (fun z => (nodup_ne T.ne (i := 16) (j := 13) rfl rfl (by decide) z).elim) (fun _ => ?_))
    refine ds_seq (ds_isE (a0 := a0) (C := a.c_NothingToRedo) (d0 := d0) (l0 := kF one two three 15) rfl hpn T.e_NothingToRedo T.e_NotKept (nodup_ne T.ne (i := 0) (j := 14) rfl rfl (by decide)) (fun z => (nodup_ne T.ne (i := 16) (j := 14) rfl rfl (by decide) z).elim) (fun _ => ?_))
    refine ds_seq (ds_isE (a0 := a0) (C := a.c_NothingToRedo) (d0 := d0) (l0 := kF one two three 15) rfl hpn T.e_NothingToRedo T.e_NothingToUndo (nodup_ne T.ne (i := 0) (j := 15) rfl rfl (by decide)) (fun z => (nodup_ne T.ne (i := 16) (j := 15) rfl rfl (by decide) z).elim) (fun _ => ?_))
    refine ds_seq (ds_isE (a0 := a0) (C := a.c_NothingToRedo) (d0 := d0) (l0 := kF one two three 15) rfl hpn T.e_NothingToRedo T.e_NothingToRedo (nodup_ne T.ne (i := 0) (j := 16) rfl rfl (by decide)) (fun _ => ds_app rfl (de_tup (da_cons (de_str (da_nil ⟨by simp, (show 0 < 16000 by decide), ?_⟩))))) (fun z => (z rfl).elim))
    exact ds_share (i := 1) rfl (ds_ret (de_var rfl hR))
def F_law_kinds (K : PySem.W.Frag) (a : Ad) (pl : Pins) : DF := fun ss R _ => ∃ (k : Nat) (a0 : Addr) (d0 : Option Addr) (one two three : D), k < 16 ∧ PnOk K pl a0 d0 (kC a k) ∧ ss = [.sh (.exc a0 d0 (kC a k) (kF one two three k))] ∧ ((k = 5 ∨ k = 8 ∨ k = 9) → okR one) ∧ ((k = 0 ∨ k = 1 ∨ k = 7) → okR two) ∧ R (.lst ([kT one two three k]))
theorem ok__law_kinds (T : Tx K mg a) (hS : Sy mg base a) : FnG P w K mg base false 2 a.f__law_kinds a.d__law_kinds (["e"] : List Str) (spP K (fun _ => True) (F_law_kinds K a)) := by
  refine fn_dataP T.F__law_kinds sc__law_kinds (fun pl ss R X z => by obtain ⟨_, _, _, _, _, _, _, _, h, _⟩ := z; rw [h] <;> rfl) fun cdv A outer s H E pl hr _ => ⟨_, (pss_cons (ps_set (i := 1) sc__law_kinds.nd rfl (Or.inl rfl) (pe_lst pa_nil))
      (pss_cons (ps_if (pt_val (pe_callB (call_isG (pn := (fun a d C => PnOk K pl a d C)) (fun _ _ _ z => z)) (by rfl) T.n_isinstance PyProof.Rows.boot_isinstance (pa_cons (pv 0) (pa_cons (pe_glob (v := .ref a.c_BadNumber) (by rfl) T.g_BadNumber rfl) pa_nil)))) (pss_one (ps_expr (pe_bm PySem.F.plainAttrs_list PySem.F.slot_list_append PySem.F.type_list_append mt_append (pv 1) (pa_cons (pe_tup (pa_cons pe_str (pa_cons (pe_xe (pn := (fun a d C => PnOk K pl a d C)) (fun _ _ _ z => z) (pv 0)) (pa_cons (pe_callB (call_repr hS.sys (hr.gd) hr.hu) (by rfl) T.n_repr PyProof.Rows.boot_repr (pa_cons (pe_xe (pn := (fun a d C => PnOk K pl a d C)) (fun _ _ _ z => z) (pv 0)) pa_nil)) pa_nil)))) pa_nil)))) pss_nil)
      (pss_cons (ps_if (pt_val (pe_callB (call_isG (pn := (fun a d C => PnOk K pl a d C)) (fun _ _ _ z => z)) (by rfl) T.n_isinstance PyProof.Rows.boot_isinstance (pa_cons (pv 0) (pa_cons (pe_glob (v := .ref a.c_BadRow) (by rfl) T.g_BadRow rfl) pa_nil)))) (pss_one (ps_expr (pe_bm PySem.F.plainAttrs_list PySem.F.slot_list_append PySem.F.type_list_append mt_append (pv 1) (pa_cons (pe_tup (pa_cons pe_str (pa_cons (pe_xe (pn := (fun a d C => PnOk K pl a d C)) (fun _ _ _ z => z) (pv 0)) (pa_cons (pe_callB (call_repr hS.sys (hr.gd) hr.hu) (by rfl) T.n_repr PyProof.Rows.boot_repr (pa_cons (pe_xe (pn := (fun a d C => PnOk K pl a d C)) (fun _ _ _ z => z) (pv 0)) pa_nil)) pa_nil)))) pa_nil)))) pss_nil)
      (pss_cons (ps_if (pt_val (pe_callB (call_isG (pn := (fun a d C => PnOk K pl a d C)) (fun _ _ _ z => z)) (by rfl) T.n_isinstance PyProof.Rows.boot_isinstance (pa_cons (pv 0) (pa_cons (pe_glob (v := .ref a.c_BadTable) (by rfl) T.g_BadTable rfl) pa_nil)))) (pss_one (ps_expr (pe_bm PySem.F.plainAttrs_list PySem.F.slot_list_append PySem.F.type_list_append mt_append (pv 1) (pa_cons (pe_tup (pa_cons pe_str (pa_cons (pe_xe (pn := (fun a d C => PnOk K pl a d C)) (fun _ _ _ z => z) (pv 0)) pa_nil))) pa_nil)))) pss_nil)
      (pss_cons (ps_if (pt_val (pe_callB (call_isG (pn := (fun a d C => PnOk K pl a d C)) (fun _ _ _ z => z)) (by rfl) T.n_isinstance PyProof.Rows.boot_isinstance (pa_cons (pv 0) (pa_cons (pe_glob (v := .ref a.c_BadForm) (by rfl) T.g_BadForm rfl) pa_nil)))) (pss_one (ps_expr (pe_bm PySem.F.plainAttrs_list PySem.F.slot_list_append PySem.F.type_list_append mt_append (pv 1) (pa_cons (pe_tup (pa_cons pe_str (pa_cons (pe_xe (pn := (fun a d C => PnOk K pl a d C)) (fun _ _ _ z => z) (pv 0)) pa_nil))) pa_nil)))) pss_nil)
      (pss_cons (ps_if (pt_val (pe_callB (call_isG (pn := (fun a d C => PnOk K pl a d C)) (fun _ _ _ z => z)) (by rfl) T.n_isinstance PyProof.Rows.boot_isinstance (pa_cons (pv 0) (pa_cons (pe_glob (v := .ref a.c_BadBook) (by rfl) T.g_BadBook rfl) pa_nil)))) (pss_one (ps_expr (pe_bm PySem.F.plainAttrs_list PySem.F.slot_list_append PySem.F.type_list_append mt_append (pv 1) (pa_cons (pe_tup (pa_cons pe_str (pa_cons (pe_xe (pn := (fun a d C => PnOk K pl a d C)) (fun _ _ _ z => z) (pv 0)) pa_nil))) pa_nil)))) pss_nil)
      (pss_cons (ps_if (pt_val (pe_callB (call_isG (pn := (fun a d C => PnOk K pl a d C)) (fun _ _ _ z => z)) (by rfl) T.n_isinstance PyProof.Rows.boot_isinstance (pa_cons (pv 0) (pa_cons (pe_glob (v := .ref a.c_BadName) (by rfl) T.g_BadName rfl) pa_nil)))) (pss_one (ps_expr (pe_bm PySem.F.plainAttrs_list PySem.F.slot_list_append PySem.F.type_list_append mt_append (pv 1) (pa_cons (pe_tup (pa_cons pe_str (pa_cons (pe_callB (call_repr hS.sys (hr.gd) hr.hu) (by rfl) T.n_repr PyProof.Rows.boot_repr (pa_cons (pe_xe (pn := (fun a d C => PnOk K pl a d C)) (fun _ _ _ z => z) (pv 0)) pa_nil)) pa_nil))) pa_nil)))) pss_nil)
      (pss_cons (ps_if (pt_val (pe_callB (call_isG (pn := (fun a d C => PnOk K pl a d C)) (fun _ _ _ z => z)) (by rfl) T.n_isinstance PyProof.Rows.boot_isinstance (pa_cons (pv 0) (pa_cons (pe_glob (v := .ref a.c_BadText) (by rfl) T.g_BadText rfl) pa_nil)))) (pss_one (ps_expr (pe_bm PySem.F.plainAttrs_list PySem.F.slot_list_append PySem.F.type_list_append mt_append (pv 1) (pa_cons (pe_tup (pa_cons pe_str (pa_cons (pe_xe (pn := (fun a d C => PnOk K pl a d C)) (fun _ _ _ z => z) (pv 0)) (pa_cons (pe_xe (pn := (fun a d C => PnOk K pl a d C)) (fun _ _ _ z => z) (pv 0)) pa_nil)))) pa_nil)))) pss_nil)
      (pss_cons (ps_if (pt_val (pe_callB (call_isG (pn := (fun a d C => PnOk K pl a d C)) (fun _ _ _ z => z)) (by rfl) T.n_isinstance PyProof.Rows.boot_isinstance (pa_cons (pv 0) (pa_cons (pe_glob (v := .ref a.c_NoPlace) (by rfl) T.g_NoPlace rfl) pa_nil)))) (pss_one (ps_expr (pe_bm PySem.F.plainAttrs_list PySem.F.slot_list_append PySem.F.type_list_append mt_append (pv 1) (pa_cons (pe_tup (pa_cons pe_str (pa_cons (pe_xe (pn := (fun a d C => PnOk K pl a d C)) (fun _ _ _ z => z) (pv 0)) (pa_cons (pe_callB (call_repr hS.sys (hr.gd) hr.hu) (by rfl) T.n_repr PyProof.Rows.boot_repr (pa_cons (pe_xe (pn := (fun a d C => PnOk K pl a d C)) (fun _ _ _ z => z) (pv 0)) pa_nil)) pa_nil)))) pa_nil)))) pss_nil)
      (pss_one (ps_ret (pe_op op_addG (pv 1) (pe_go (ok__law_more_kinds T hS) (hr.mono (by decide)) (fun _ h => h) (by rfl) T.g__law_more_kinds T.F__law_more_kinds.kp T.b__law_more_kinds lets0 (pa_cons (pv 0) pa_nil)))))))))))))), fun b ss R X h hX => ?_⟩
  obtain ⟨k, a0, d0, one, two, three, hk, hpn, rfl, h1, h2, hR⟩ := h
  refine ds_seq (ds_own (dn_lst (da_nil ⟨by decide, ?_⟩)))
  have hk' : k = 0 ∨ k = 1 ∨ k = 2 ∨ k = 3 ∨ k = 4 ∨ k = 5 ∨ k = 6 ∨ k = 7 ∨ k = 8 ∨ k = 9 ∨ k = 10 ∨ k = 11 ∨ k = 12 ∨ k = 13 ∨ k = 14 ∨ k = 15 := by omega
  rcases hk' with rfl | rfl | rfl | rfl | rfl | rfl | rfl | rfl | rfl | rfl | rfl | rfl | rfl | rfl | rfl | rfl
  · have hR : R (.lst [kT one two three 0]) := hR
    have ok2 := h2 (by decide)
    refine ds_seq (ds_isE (a0 := a0) (C := a.c_BadNumber) (d0 := d0) (l0 := kF one two three 0) rfl hpn T.e_BadNumber T.e_BadNumber (nodup_ne T.ne (i := 0) (j := 1) rfl rfl (by decide)) (fun _ => ds_app rfl (de_tup (da_cons (de_str (da_cons (de_xe (de_var rfl ⟨a0, d0, a.c_BadNumber, kF one two three 0, one, rfl, hpn, T.no_BadNumber_what, rfl, da_cons (de_repr (de_xe (de_var rfl ⟨a0, d0, a.c_BadNumber, kF one two three 0, two, rfl, hpn, T.no_BadNumber_number, rfl, ok2, da_nil ⟨by simp, (show 0 < 16000 by decide), ?_⟩⟩)))⟩))))))) (fun z => (z rfl).elim))
    refine ds_seq (ds_isE (a0 := a0) (C := a.c_BadNumber) (d0 := d0) (l0 := kF one two three 0) rfl hpn T.e_BadNumber T.e_BadRow (nodup_ne T.ne (i := 0) (j := 2) rfl rfl (by decide)) (fun z => (nodup_ne T.ne (i := 1) (j := 2) rfl rfl (by decide) z).elim) (fun _ => ?_))
    refine ds_seq (ds_isE (a0 := a0) (C := a.c_BadNumber) (d0 := d0) (l0 := kF one two three 0) rfl hpn T.e_BadNumber T.e_BadTable (nodup_ne T.ne (i := 0) (j := 3) rfl rfl (by decide)) (fun z => (nodup_ne T.ne (i := 1) (j := 3) rfl rfl (by decide) z).elim) (fun _ => ?_))
    refine ds_seq (ds_isE (a0 := a0) (C := a.c_BadNumber) (d0 := d0) (l0 := kF one two three 0) rfl hpn T.e_BadNumber T.e_BadForm (nodup_ne T.ne (i := 0) (j := 4) rfl rfl (by decide)) (fun z => (nodup_ne T.ne (i := 1) (j := 4) rfl rfl (by decide) z).elim) (fun _ => ?_))
    refine ds_seq (ds_isE (a0 := a0) (C := a.c_BadNumber) (d0 := d0) (l0 := kF one two three 0) rfl hpn T.e_BadNumber T.e_BadBook (nodup_ne T.ne (i := 0) (j := 5) rfl rfl (by decide)) (fun z => (nodup_ne T.ne (i := 1) (j := 5) rfl rfl (by decide) z).elim) (fun _ => ?_))
    refine ds_seq (ds_isE (a0 := a0) (C := a.c_BadNumber) (d0 := d0) (l0 := kF one two three 0) rfl hpn T.e_BadNumber T.e_BadName (nodup_ne T.ne (i := 0) (j := 6) rfl rfl (by decide)) (fun z => (nodup_ne T.ne (i := 1) (j := 6) rfl rfl (by decide) z).elim) (fun _ => ?_))
    refine ds_seq (ds_isE (a0 := a0) (C := a.c_BadNumber) (d0 := d0) (l0 := kF one two three 0) rfl hpn T.e_BadNumber T.e_BadText (nodup_ne T.ne (i := 0) (j := 7) rfl rfl (by decide)) (fun z => (nodup_ne T.ne (i := 1) (j := 7) rfl rfl (by decide) z).elim) (fun _ => ?_))
    refine ds_seq (ds_isE (a0 := a0) (C := a.c_BadNumber) (d0 := d0) (l0 := kF one two three 0) rfl hpn T.e_BadNumber T.e_NoPlace (nodup_ne T.ne (i := 0) (j := 8) rfl rfl (by decide)) (fun z => (nodup_ne T.ne (i := 1) (j := 8) rfl rfl (by decide) z).elim) (fun _ => ?_))
    exact ds_ret (de_new (dn_addL_own rfl (de_callP EL.no trivial (dc_cons (de_var rfl (dc_nil ⟨0, a0, d0, one, two, three, by decide, hpn, rfl, h1, h2, _, rfl, (show 1 ≤ 16000 by decide), hR⟩))))))
  · have hR : R (.lst [kT one two three 1]) := hR
    have ok2 := h2 (by decide)
    refine ds_seq (ds_isE (a0 := a0) (C := a.c_BadRow) (d0 := d0) (l0 := kF one two three 1) rfl hpn T.e_BadRow T.e_BadNumber (nodup_ne T.ne (i := 0) (j := 1) rfl rfl (by decide)) (fun z => (nodup_ne T.ne (i := 2) (j := 1) rfl rfl (by decide) z).elim) (fun _ => ?_))
    refine ds_seq (ds_isE (a0 := a0) (C := a.c_BadRow) (d0 := d0) (l0 := kF one two three 1) rfl hpn T.e_BadRow T.e_BadRow (nodup_ne T.ne (i := 0) (j := 2) rfl rfl (by decide)) (fun _ => ds_app rfl (de_tup (da_cons (de_str (da_cons (de_xe (de_var rfl ⟨a0, d0, a.c_BadRow, kF one two three 1, one, rfl, hpn, T.no_BadRow_what, rfl, da_cons (de_repr (de_xe (de_var rfl ⟨a0, d0, a.c_BadRow, kF one two three 1, two, rfl, hpn, T.no_BadRow_row, rfl, ok2, da_nil ⟨by simp, (show 0 < 16000 by decide), ?_⟩⟩)))⟩))))))) (fun z => (z rfl).elim))
    refine ds_seq (ds_isE (a0 := a0) (C := a.c_BadRow) (d0 := d0) (l0 := kF one two three 1) rfl hpn T.e_BadRow T.e_BadTable (nodup_ne T.ne (i := 0) (j := 3) rfl rfl (by decide)) (fun z => (nodup_ne T.ne (i := 2) (j := 3) rfl rfl (by decide) z).elim) (fun _ => ?_))
    refine ds_seq (ds_isE (a0 := a0) (C := a.c_BadRow) (d0 := d0) (l0 := kF one two three 1) rfl hpn T.e_BadRow T.e_BadForm (nodup_ne T.ne (i := 0) (j := 4) rfl rfl (by decide)) (fun z => (nodup_ne T.ne (i := 2) (j := 4) rfl rfl (by decide) z).elim) (fun _ => ?_))
    refine ds_seq (ds_isE (a0 := a0) (C := a.c_BadRow) (d0 := d0) (l0 := kF one two three 1) rfl hpn T.e_BadRow T.e_BadBook (nodup_ne T.ne (i := 0) (j := 5) rfl rfl (by decide)) (fun z => (nodup_ne T.ne (i := 2) (j := 5) rfl rfl (by decide) z).elim) (fun _ => ?_))
    refine ds_seq (ds_isE (a0 := a0) (C := a.c_BadRow) (d0 := d0) (l0 := kF one two three 1) rfl hpn T.e_BadRow T.e_BadName (nodup_ne T.ne (i := 0) (j := 6) rfl rfl (by decide)) (fun z => (nodup_ne T.ne (i := 2) (j := 6) rfl rfl (by decide) z).elim) (fun _ => ?_))
    refine ds_seq (ds_isE (a0 := a0) (C := a.c_BadRow) (d0 := d0) (l0 := kF one two three 1) rfl hpn T.e_BadRow T.e_BadText (nodup_ne T.ne (i := 0) (j := 7) rfl rfl (by decide)) (fun z => (nodup_ne T.ne (i := 2) (j := 7) rfl rfl (by decide) z).elim) (fun _ => ?_))
    refine ds_seq (ds_isE (a0 := a0) (C := a.c_BadRow) (d0 := d0) (l0 := kF one two three 1) rfl hpn T.e_BadRow T.e_NoPlace (nodup_ne T.ne (i := 0) (j := 8) rfl rfl (by decide)) (fun z => (nodup_ne T.ne (i := 2) (j := 8) rfl rfl (by decide) z).elim) (fun _ => ?_))
    exact ds_ret (de_new (dn_addL_own rfl (de_callP EL.no trivial (dc_cons (de_var rfl (dc_nil ⟨1, a0, d0, one, two, three, by decide, hpn, rfl, h1, h2, _, rfl, (show 1 ≤ 16000 by decide), hR⟩))))))
  · have hR : R (.lst [kT one two three 2]) := hR
    refine ds_seq (ds_isE (a0 := a0) (C := a.c_BadTable) (d0 := d0) (l0 := kF one two three 2) rfl hpn T.e_BadTable T.e_BadNumber (nodup_ne T.ne (i := 0) (j := 1) rfl rfl (by decide)) (fun z => (nodup_ne T.ne (i := 3) (j := 1) rfl rfl (by decide) z).elim) (fun _ => ?_))
    refine ds_seq (ds_isE (a0 := a0) (C := a.c_BadTable) (d0 := d0) (l0 := kF one two three 2) rfl hpn T.e_BadTable T.e_BadRow (nodup_ne T.ne (i := 0) (j := 2) rfl rfl (by decide)) (fun z => (nodup_ne T.ne (i := 3) (j := 2) rfl rfl (by decide) z).elim) (fun _ => ?_))
    refine ds_seq (ds_isE (a0 := a0) (C := a.c_BadTable) (d0 := d0) (l0 := kF one two three 2) rfl hpn T.e_BadTable T.e_BadTable (nodup_ne T.ne (i := 0) (j := 3) rfl rfl (by decide)) (fun _ => ds_app rfl (de_tup (da_cons (de_str (da_cons (de_xe (de_var rfl ⟨a0, d0, a.c_BadTable, kF one two three 2, one, rfl, hpn, T.no_BadTable_what, rfl, da_nil ⟨by simp, (show 0 < 16000 by decide), ?_⟩⟩))))))) (fun z => (z rfl).elim))
    refine ds_seq (ds_isE (a0 := a0) (C := a.c_BadTable) (d0 := d0) (l0 := kF one two three 2) rfl hpn T.e_BadTable T.e_BadForm (nodup_ne T.ne (i := 0) (j := 4) rfl rfl (by decide)) (fun z => (nodup_ne T.ne (i := 3) (j := 4) rfl rfl (by decide) z).elim) (fun _ => ?_))
    refine ds_seq (ds_isE (a0 := a0) (C := a.c_BadTable) (d0 := d0) (l0 := kF one two three 2) rfl hpn T.e_BadTable T.e_BadBook (nodup_ne T.ne (i := 0) (j := 5) rfl rfl (by decide)) (fun z => (nodup_ne T.ne (i := 3) (j := 5) rfl rfl (by decide) z).elim) (fun _ => ?_))
    refine ds_seq (ds_isE (a0 := a0) (C := a.c_BadTable) (d0 := d0) (l0 := kF one two three 2) rfl hpn T.e_BadTable T.e_BadName (nodup_ne T.ne (i := 0) (j := 6) rfl rfl (by decide)) (fun z => (nodup_ne T.ne (i := 3) (j := 6) rfl rfl (by decide) z).elim) (fun _ => ?_))
    refine ds_seq (ds_isE (a0 := a0) (C := a.c_BadTable) (d0 := d0) (l0 := kF one two three 2) rfl hpn T.e_BadTable T.e_BadText (nodup_ne T.ne (i := 0) (j := 7) rfl rfl (by decide)) (fun z => (nodup_ne T.ne (i := 3) (j := 7) rfl rfl (by decide) z).elim) (fun _ => ?_))
    refine ds_seq (ds_isE (a0 := a0) (C := a.c_BadTable) (d0 := d0) (l0 := kF one two three 2) rfl hpn T.e_BadTable T.e_NoPlace (nodup_ne T.ne (i := 0) (j := 8) rfl rfl (by decide)) (fun z => (nodup_ne T.ne (i := 3) (j := 8) rfl rfl (by decide) z).elim) (fun _ => ?_))
    exact ds_ret (de_new (dn_addL_own rfl (de_callP EL.no trivial (dc_cons (de_var rfl (dc_nil ⟨2, a0, d0, one, two, three, by decide, hpn, rfl, h1, h2, _, rfl, (show 1 ≤ 16000 by decide), hR⟩))))))
  · have hR : R (.lst [kT one two three 3]) := hR
    refine ds_seq (ds_isE (a0 := a0) (C := a.c_BadForm) (d0 := d0) (l0 := kF one two three 3) rfl hpn T.e_BadForm T.e_BadNumber (nodup_ne T.ne (i := 0) (j := 1) rfl rfl (by decide)) (fun z => (nodup_ne T.ne (i := 4) (j := 1) rfl rfl (by decide) z).elim) (fun _ => ?_))
    refine ds_seq (ds_isE (a0 := a0) (C := a.c_BadForm) (d0 := d0) (l0 := kF one two three 3) rfl hpn T.e_BadForm T.e_BadRow (nodup_ne T.ne (i := 0) (j := 2) rfl rfl (by decide)) (fun z => (nodup_ne T.ne (i := 4) (j := 2) rfl rfl (by decide) z).elim) (fun _ => ?_))
    refine ds_seq (ds_isE (a0 := a0) (C := a.c_BadForm) (d0 := d0) (l0 := kF one two three 3) rfl hpn T.e_BadForm T.e_BadTable (nodup_ne T.ne (i := 0) (j := 3) rfl rfl (by decide)) (fun z => (nodup_ne T.ne (i := 4) (j := 3) rfl rfl (by decide) z).elim) (fun _ => ?_))
    refine ds_seq (ds_isE (a0 := a0) (C := a.c_BadForm) (d0 := d0) (l0 := kF one two three 3) rfl hpn T.e_BadForm T.e_BadForm (nodup_ne T.ne (i := 0) (j := 4) rfl rfl (by decide)) (fun _ => ds_app rfl (de_tup (da_cons (de_str (da_cons (de_xe (de_var rfl ⟨a0, d0, a.c_BadForm, kF one two three 3, one, rfl, hpn, T.no_BadForm_what, rfl, da_nil ⟨by simp, (show 0 < 16000 by decide), ?_⟩⟩))))))) (fun z => (z rfl).elim))
    refine ds_seq (ds_isE (a0 := a0) (C := a.c_BadForm) (d0 := d0) (l0 := kF one two three 3) rfl hpn T.e_BadForm T.e_BadBook (nodup_ne T.ne (i := 0) (j := 5) rfl rfl (by decide)) (fun z => (nodup_ne T.ne (i := 4) (j := 5) rfl rfl (by decide) z).elim) (fun _ => ?_))
    refine ds_seq (ds_isE (a0 := a0) (C := a.c_BadForm) (d0 := d0) (l0 := kF one two three 3) rfl hpn T.e_BadForm T.e_BadName (nodup_ne T.ne (i := 0) (j := 6) rfl rfl (by decide)) (fun z => (nodup_ne T.ne (i := 4) (j := 6) rfl rfl (by decide) z).elim) (fun _ => ?_))
    refine ds_seq (ds_isE (a0 := a0) (C := a.c_BadForm) (d0 := d0) (l0 := kF one two three 3) rfl hpn T.e_BadForm T.e_BadText (nodup_ne T.ne (i := 0) (j := 7) rfl rfl (by decide)) (fun z => (nodup_ne T.ne (i := 4) (j := 7) rfl rfl (by decide) z).elim) (fun _ => ?_))
    refine ds_seq (ds_isE (a0 := a0) (C := a.c_BadForm) (d0 := d0) (l0 := kF one two three 3) rfl hpn T.e_BadForm T.e_NoPlace (nodup_ne T.ne (i := 0) (j := 8) rfl rfl (by decide)) (fun z => (nodup_ne T.ne (i := 4) (j := 8) rfl rfl (by decide) z).elim) (fun _ => ?_))
    exact ds_ret (de_new (dn_addL_own rfl (de_callP EL.no trivial (dc_cons (de_var rfl (dc_nil ⟨3, a0, d0, one, two, three, by decide, hpn, rfl, h1, h2, _, rfl, (show 1 ≤ 16000 by decide), hR⟩))))))
  · have hR : R (.lst [kT one two three 4]) := hR
    refine ds_seq (ds_isE (a0 := a0) (C := a.c_BadBook) (d0 := d0) (l0 := kF one two three 4) rfl hpn T.e_BadBook T.e_BadNumber (nodup_ne T.ne (i := 0) (j := 1) rfl rfl (by decide)) (fun z => (nodup_ne T.ne (i := 5) (j := 1) rfl rfl (by decide) z).elim) (fun _ => ?_))
    refine ds_seq (ds_isE (a0 := a0) (C := a.c_BadBook) (d0 := d0) (l0 := kF one two three 4) rfl hpn T.e_BadBook T.e_BadRow (nodup_ne T.ne (i := 0) (j := 2) rfl rfl (by decide)) (fun z => (nodup_ne T.ne (i := 5) (j := 2) rfl rfl (by decide) z).elim) (fun _ => ?_))
    refine ds_seq (ds_isE (a0 := a0) (C := a.c_BadBook) (d0 := d0) (l0 := kF one two three 4) rfl hpn T.e_BadBook T.e_BadTable (nodup_ne T.ne (i := 0) (j := 3) rfl rfl (by decide)) (fun z => (nodup_ne T.ne (i := 5) (j := 3) rfl rfl (by decide) z).elim) (fun _ => ?_))
    refine ds_seq (ds_isE (a0 := a0) (C := a.c_BadBook) (d0 := d0) (l0 := kF one two three 4) rfl hpn T.e_BadBook T.e_BadForm (nodup_ne T.ne (i := 0) (j := 4) rfl rfl (by decide)) (fun z => (nodup_ne T.ne (i := 5) (j := 4) rfl rfl (by decide) z).elim) (fun _ => ?_))
    refine ds_seq (ds_isE (a0 := a0) (C := a.c_BadBook) (d0 := d0) (l0 := kF one two three 4) rfl hpn T.e_BadBook T.e_BadBook (nodup_ne T.ne (i := 0) (j := 5) rfl rfl (by decide)) (fun _ => ds_app rfl (de_tup (da_cons (de_str (da_cons (de_xe (de_var rfl ⟨a0, d0, a.c_BadBook, kF one two three 4, one, rfl, hpn, T.no_BadBook_what, rfl, da_nil ⟨by simp, (show 0 < 16000 by decide), ?_⟩⟩))))))) (fun z => (z rfl).elim))
    refine ds_seq (ds_isE (a0 := a0) (C := a.c_BadBook) (d0 := d0) (l0 := kF one two three 4) rfl hpn T.e_BadBook T.e_BadName (nodup_ne T.ne (i := 0) (j := 6) rfl rfl (by decide)) (fun z => (nodup_ne T.ne (i := 5) (j := 6) rfl rfl (by decide) z).elim) (fun _ => ?_))
    refine ds_seq (ds_isE (a0 := a0) (C := a.c_BadBook) (d0 := d0) (l0 := kF one two three 4) rfl hpn T.e_BadBook T.e_BadText (nodup_ne T.ne (i := 0) (j := 7) rfl rfl (by decide)) (fun z => (nodup_ne T.ne (i := 5) (j := 7) rfl rfl (by decide) z).elim) (fun _ => ?_))
    refine ds_seq (ds_isE (a0 := a0) (C := a.c_BadBook) (d0 := d0) (l0 := kF one two three 4) rfl hpn T.e_BadBook T.e_NoPlace (nodup_ne T.ne (i := 0) (j := 8) rfl rfl (by decide)) (fun z => (nodup_ne T.ne (i := 5) (j := 8) rfl rfl (by decide) z).elim) (fun _ => ?_))
    exact ds_ret (de_new (dn_addL_own rfl (de_callP EL.no trivial (dc_cons (de_var rfl (dc_nil ⟨4, a0, d0, one, two, three, by decide, hpn, rfl, h1, h2, _, rfl, (show 1 ≤ 16000 by decide), hR⟩))))))
  · have hR : R (.lst [kT one two three 5]) := hR
    have ok1 := h1 (by decide)
    refine ds_seq (ds_isE (a0 := a0) (C := a.c_BadName) (d0 := d0) (l0 := kF one two three 5) rfl hpn T.e_BadName T.e_BadNumber (nodup_ne T.ne (i := 0) (j := 1) rfl rfl (by decide)) (fun z => (nodup_ne T.ne (i := 6) (j := 1) rfl rfl (by decide) z).elim) (fun _ => ?_))
    refine ds_seq (ds_isE (a0 := a0) (C := a.c_BadName) (d0 := d0) (l0 := kF one two three 5) rfl hpn T.e_BadName T.e_BadRow (nodup_ne T.ne (i := 0) (j := 2) rfl rfl (by decide)) (fun z => (nodup_ne T.ne (i := 6) (j := 2) rfl rfl (by decide) z).elim) (fun _ => ?_))
    refine ds_seq (ds_isE (a0 := a0) (C := a.c_BadName) (d0 := d0) (l0 := kF one two three 5) rfl hpn T.e_BadName T.e_BadTable (nodup_ne T.ne (i := 0) (j := 3) rfl rfl (by decide)) (fun z => (nodup_ne T.ne (i := 6) (j := 3) rfl rfl (by decide) z).elim) (fun _ => ?_))
    refine ds_seq (ds_isE (a0 := a0) (C := a.c_BadName) (d0 := d0) (l0 := kF one two three 5) rfl hpn T.e_BadName T.e_BadForm (nodup_ne T.ne (i := 0) (j := 4) rfl rfl (by decide)) (fun z => (nodup_ne T.ne (i := 6) (j := 4) rfl rfl (by decide) z).elim) (fun _ => ?_))
    refine ds_seq (ds_isE (a0 := a0) (C := a.c_BadName) (d0 := d0) (l0 := kF one two three 5) rfl hpn T.e_BadName T.e_BadBook (nodup_ne T.ne (i := 0) (j := 5) rfl rfl (by decide)) (fun z => (nodup_ne T.ne (i := 6) (j := 5) rfl rfl (by decide) z).elim) (fun _ => ?_))
    refine ds_seq (ds_isE (a0 := a0) (C := a.c_BadName) (d0 := d0) (l0 := kF one two three 5) rfl hpn T.e_BadName T.e_BadName (nodup_ne T.ne (i := 0) (j := 6) rfl rfl (by decide)) (fun _ => ds_app rfl (de_tup (da_cons (de_str (da_cons (de_repr (de_xe (de_var rfl ⟨a0, d0, a.c_BadName, kF one two three 5, one, rfl, hpn, T.no_BadName_name, rfl, ok1, da_nil ⟨by simp, (show 0 < 16000 by decide), ?_⟩⟩)))))))) (fun z => (z rfl).elim))
    refine ds_seq (ds_isE (a0 := a0) (C := a.c_BadName) (d0 := d0) (l0 := kF one two three 5) rfl hpn T.e_BadName T.e_BadText (nodup_ne T.ne (i := 0) (j := 7) rfl rfl (by decide)) (fun z => (nodup_ne T.ne (i := 6) (j := 7) rfl rfl (by decide) z).elim) (fun _ => ?_))
    refine ds_seq (ds_isE (a0 := a0) (C := a.c_BadName) (d0 := d0) (l0 := kF one two three 5) rfl hpn T.e_BadName T.e_NoPlace (nodup_ne T.ne (i := 0) (j := 8) rfl rfl (by decide)) (fun z => (nodup_ne T.ne (i := 6) (j := 8) rfl rfl (by decide) z).elim) (fun _ => ?_))
    exact ds_ret (de_new (dn_addL_own rfl (de_callP EL.no trivial (dc_cons (de_var rfl (dc_nil ⟨5, a0, d0, one, two, three, by decide, hpn, rfl, h1, h2, _, rfl, (show 1 ≤ 16000 by decide), hR⟩))))))
  · have hR : R (.lst [kT one two three 6]) := hR
    refine ds_seq (ds_isE (a0 := a0) (C := a.c_BadText) (d0 := d0) (l0 := kF one two three 6) rfl hpn T.e_BadText T.e_BadNumber (nodup_ne T.ne (i := 0) (j := 1) rfl rfl (by decide)) (fun z => (nodup_ne T.ne (i := 7) (j := 1) rfl rfl (by decide) z).elim) (fun _ => ?_))
    refine ds_seq (ds_isE (a0 := a0) (C := a.c_BadText) (d0 := d0) (l0 := kF one two three 6) rfl hpn T.e_BadText T.e_BadRow (nodup_ne T.ne (i := 0) (j := 2) rfl rfl (by decide)) (fun z => (nodup_ne T.ne (i := 7) (j := 2) rfl rfl (by decide) z).elim) (fun _ => ?_))
    refine ds_seq (ds_isE (a0 := a0) (C := a.c_BadText) (d0 := d0) (l0 := kF one two three 6) rfl hpn T.e_BadText T.e_BadTable (nodup_ne T.ne (i := 0) (j := 3) rfl rfl (by decide)) (fun z => (nodup_ne T.ne (i := 7) (j := 3) rfl rfl (by decide) z).elim) (fun _ => ?_))
    refine ds_seq (ds_isE (a0 := a0) (C := a.c_BadText) (d0 := d0) (l0 := kF one two three 6) rfl hpn T.e_BadText T.e_BadForm (nodup_ne T.ne (i := 0) (j := 4) rfl rfl (by decide)) (fun z => (nodup_ne T.ne (i := 7) (j := 4) rfl rfl (by decide) z).elim) (fun _ => ?_))
    refine ds_seq (ds_isE (a0 := a0) (C := a.c_BadText) (d0 := d0) (l0 := kF one two three 6) rfl hpn T.e_BadText T.e_BadBook (nodup_ne T.ne (i := 0) (j := 5) rfl rfl (by decide)) (fun z => (nodup_ne T.ne (i := 7) (j := 5) rfl rfl (by decide) z).elim) (fun _ => ?_))
    refine ds_seq (ds_isE (a0 := a0) (C := a.c_BadText) (d0 := d0) (l0 := kF one two three 6) rfl hpn T.e_BadText T.e_BadName (nodup_ne T.ne (i := 0) (j := 6) rfl rfl (by decide)) (fun z => (nodup_ne T.ne (i := 7) (j := 6) rfl rfl (by decide) z).elim) (fun _ => ?_))
    refine ds_seq (ds_isE (a0 := a0) (C := a.c_BadText) (d0 := d0) (l0 := kF one two three 6) rfl hpn T.e_BadText T.e_BadText (nodup_ne T.ne (i := 0) (j := 7) rfl rfl (by decide)) (fun _ => ds_app rfl (de_tup (da_cons (de_str (da_cons (de_xe (de_var rfl ⟨a0, d0, a.c_BadText, kF one two three 6, one, rfl, hpn, T.no_BadText_line, rfl, da_cons (de_xe (de_var rfl ⟨a0, d0, a.c_BadText, kF one two three 6, two, rfl, hpn, T.no_BadText_word, rfl, da_nil ⟨by simp, (show 0 < 16000 by decide), ?_⟩⟩))⟩))))))) (fun z => (z rfl).elim))
    refine ds_seq (ds_isE (a0 := a0) (C := a.c_BadText) (d0 := d0) (l0 := kF one two three 6) rfl hpn T.e_BadText T.e_NoPlace (nodup_ne T.ne (i := 0) (j := 8) rfl rfl (by decide)) (fun z => (nodup_ne T.ne (i := 7) (j := 8) rfl rfl (by decide) z).elim) (fun _ => ?_))
    exact ds_ret (de_new (dn_addL_own rfl (de_callP EL.no trivial (dc_cons (de_var rfl (dc_nil ⟨6, a0, d0, one, two, three, by decide, hpn, rfl, h1, h2, _, rfl, (show 1 ≤ 16000 by decide), hR⟩))))))
  · have hR : R (.lst [kT one two three 7]) := hR
    have ok2 := h2 (by decide)
    refine ds_seq (ds_isE (a0 := a0) (C := a.c_NoPlace) (d0 := d0) (l0 := kF one two three 7) rfl hpn T.e_NoPlace T.e_BadNumber (nodup_ne T.ne (i := 0) (j := 1) rfl rfl (by decide)) (fun z => (nodup_ne T.ne (i := 8) (j := 1) rfl rfl (by decide) z).elim) (fun _ => ?_))
    refine ds_seq (ds_isE (a0 := a0) (C := a.c_NoPlace) (d0 := d0) (l0 := kF one two three 7) rfl hpn T.e_NoPlace T.e_BadRow (nodup_ne T.ne (i := 0) (j := 2) rfl rfl (by decide)) (fun z => (nodup_ne T.ne (i := 8) (j := 2) rfl rfl (by decide) z).elim) (fun _ => ?_))
    refine ds_seq (ds_isE (a0 := a0) (C := a.c_NoPlace) (d0 := d0) (l0 := kF one two three 7) rfl hpn T.e_NoPlace T.e_BadTable (nodup_ne T.ne (i := 0) (j := 3) rfl rfl (by decide)) (fun z => (nodup_ne T.ne (i := 8) (j := 3) rfl rfl (by decide) z).elim) (fun _ => ?_))
    refine ds_seq (ds_isE (a0 := a0) (C := a.c_NoPlace) (d0 := d0) (l0 := kF one two three 7) rfl hpn T.e_NoPlace T.e_BadForm (nodup_ne T.ne (i := 0) (j := 4) rfl rfl (by decide)) (fun z => (nodup_ne T.ne (i := 8) (j := 4) rfl rfl (by decide) z).elim) (fun _ => ?_))
    refine ds_seq (ds_isE (a0 := a0) (C := a.c_NoPlace) (d0 := d0) (l0 := kF one two three 7) rfl hpn T.e_NoPlace T.e_BadBook (nodup_ne T.ne (i := 0) (j := 5) rfl rfl (by decide)) (fun z => (nodup_ne T.ne (i := 8) (j := 5) rfl rfl (by decide) z).elim) (fun _ => ?_))
    refine ds_seq (ds_isE (a0 := a0) (C := a.c_NoPlace) (d0 := d0) (l0 := kF one two three 7) rfl hpn T.e_NoPlace T.e_BadName (nodup_ne T.ne (i := 0) (j := 6) rfl rfl (by decide)) (fun z => (nodup_ne T.ne (i := 8) (j := 6) rfl rfl (by decide) z).elim) (fun _ => ?_))
    refine ds_seq (ds_isE (a0 := a0) (C := a.c_NoPlace) (d0 := d0) (l0 := kF one two three 7) rfl hpn T.e_NoPlace T.e_BadText (nodup_ne T.ne (i := 0) (j := 7) rfl rfl (by decide)) (fun z => (nodup_ne T.ne (i := 8) (j := 7) rfl rfl (by decide) z).elim) (fun _ => ?_))
    refine ds_seq (ds_isE (a0 := a0) (C := a.c_NoPlace) (d0 := d0) (l0 := kF one two three 7) rfl hpn T.e_NoPlace T.e_NoPlace (nodup_ne T.ne (i := 0) (j := 8) rfl rfl (by decide)) (fun _ => ds_app rfl (de_tup (da_cons (de_str (da_cons (de_xe (de_var rfl ⟨a0, d0, a.c_NoPlace, kF one two three 7, one, rfl, hpn, T.no_NoPlace_what, rfl, da_cons (de_repr (de_xe (de_var rfl ⟨a0, d0, a.c_NoPlace, kF one two three 7, two, rfl, hpn, T.no_NoPlace_index, rfl, ok2, da_nil ⟨by simp, (show 0 < 16000 by decide), ?_⟩⟩)))⟩))))))) (fun z => (z rfl).elim))
    exact ds_ret (de_new (dn_addL_own rfl (de_callP EL.no trivial (dc_cons (de_var rfl (dc_nil ⟨7, a0, d0, one, two, three, by decide, hpn, rfl, h1, h2, _, rfl, (show 1 ≤ 16000 by decide), hR⟩))))))
  · have hR : R (.lst [kT one two three 8]) := hR
    have ok1 := h1 (by decide)
    refine ds_seq (ds_isE (a0 := a0) (C := a.c_NoName) (d0 := d0) (l0 := kF one two three 8) rfl hpn T.e_NoName T.e_BadNumber (nodup_ne T.ne (i := 0) (j := 1) rfl rfl (by decide)) (fun z => (nodup_ne T.ne (i := 9) (j := 1) rfl rfl (by decide) z).elim) (fun _ => ?_))
    refine ds_seq (ds_isE (a0 := a0) (C := a.c_NoName) (d0 := d0) (l0 := kF one two three 8) rfl hpn T.e_NoName T.e_BadRow (nodup_ne T.ne (i := 0) (j := 2) rfl rfl (by decide)) (fun z => (nodup_ne T.ne (i := 9) (j := 2) rfl rfl (by decide) z).elim) (fun _ => ?_))
    refine ds_seq (ds_isE (a0 := a0) (C := a.c_NoName) (d0 := d0) (l0 := kF one two three 8) rfl hpn T.e_NoName T.e_BadTable (nodup_ne T.ne (i := 0) (j := 3) rfl rfl (by decide)) (fun z => (nodup_ne T.ne (i := 9) (j := 3) rfl rfl (by decide) z).elim) (fun _ => ?_))
    refine ds_seq (ds_isE (a0 := a0) (C := a.c_NoName) (d0 := d0) (l0 := kF one two three 8) rfl hpn T.e_NoName T.e_BadForm (nodup_ne T.ne (i := 0) (j := 4) rfl rfl (by decide)) (fun z => (nodup_ne T.ne (i := 9) (j := 4) rfl rfl (by decide) z).elim) (fun _ => ?_))
    refine ds_seq (ds_isE (a0 := a0) (C := a.c_NoName) (d0 := d0) (l0 := kF one two three 8) rfl hpn T.e_NoName T.e_BadBook (nodup_ne T.ne (i := 0) (j := 5) rfl rfl (by decide)) (fun z => (nodup_ne T.ne (i := 9) (j := 5) rfl rfl (by decide) z).elim) (fun _ => ?_))
    refine ds_seq (ds_isE (a0 := a0) (C := a.c_NoName) (d0 := d0) (l0 := kF one two three 8) rfl hpn T.e_NoName T.e_BadName (nodup_ne T.ne (i := 0) (j := 6) rfl rfl (by decide)) (fun z => (nodup_ne T.ne (i := 9) (j := 6) rfl rfl (by decide) z).elim) (fun _ => ?_))
    refine ds_seq (ds_isE (a0 := a0) (C := a.c_NoName) (d0 := d0) (l0 := kF one two three 8) rfl hpn T.e_NoName T.e_BadText (nodup_ne T.ne (i := 0) (j := 7) rfl rfl (by decide)) (fun z => (nodup_ne T.ne (i := 9) (j := 7) rfl rfl (by decide) z).elim) (fun _ => ?_))
    refine ds_seq (ds_isE (a0 := a0) (C := a.c_NoName) (d0 := d0) (l0 := kF one two three 8) rfl hpn T.e_NoName T.e_NoPlace (nodup_ne T.ne (i := 0) (j := 8) rfl rfl (by decide)) (fun z => (nodup_ne T.ne (i := 9) (j := 8) rfl rfl (by decide) z).elim) (fun _ => ?_))
    exact ds_ret (de_new (dn_addL_own rfl (de_callP EL.no trivial (dc_cons (de_var rfl (dc_nil ⟨8, a0, d0, one, two, three, by decide, hpn, rfl, h1, h2, _, rfl, (show 1 ≤ 16000 by decide), hR⟩))))))
  · have hR : R (.lst [kT one two three 9]) := hR
    have ok1 := h1 (by decide)
    refine ds_seq (ds_isE (a0 := a0) (C := a.c_TakenName) (d0 := d0) (l0 := kF one two three 9) rfl hpn T.e_TakenName T.e_BadNumber (nodup_ne T.ne (i := 0) (j := 1) rfl rfl (by decide)) (fun z => (nodup_ne T.ne (i := 10) (j := 1) rfl rfl (by decide) z).elim) (fun _ => ?_))
    refine ds_seq (ds_isE (a0 := a0) (C := a.c_TakenName) (d0 := d0) (l0 := kF one two three 9) rfl hpn T.e_TakenName T.e_BadRow (nodup_ne T.ne (i := 0) (j := 2) rfl rfl (by decide)) (fun z => (nodup_ne T.ne (i := 10) (j := 2) rfl rfl (by decide) z).elim) (fun _ => ?_))
    refine ds_seq (ds_isE (a0 := a0) (C := a.c_TakenName) (d0 := d0) (l0 := kF one two three 9) rfl hpn T.e_TakenName T.e_BadTable (nodup_ne T.ne (i := 0) (j := 3) rfl rfl (by decide)) (fun z => (nodup_ne T.ne (i := 10) (j := 3) rfl rfl (by decide) z).elim) (fun _ => ?_))
    refine ds_seq (ds_isE (a0 := a0) (C := a.c_TakenName) (d0 := d0) (l0 := kF one two three 9) rfl hpn T.e_TakenName T.e_BadForm (nodup_ne T.ne (i := 0) (j := 4) rfl rfl (by decide)) (fun z => (nodup_ne T.ne (i := 10) (j := 4) rfl rfl (by decide) z).elim) (fun _ => ?_))
    refine ds_seq (ds_isE (a0 := a0) (C := a.c_TakenName) (d0 := d0) (l0 := kF one two three 9) rfl hpn T.e_TakenName T.e_BadBook (nodup_ne T.ne (i := 0) (j := 5) rfl rfl (by decide)) (fun z => (nodup_ne T.ne (i := 10) (j := 5) rfl rfl (by decide) z).elim) (fun _ => ?_))
    refine ds_seq (ds_isE (a0 := a0) (C := a.c_TakenName) (d0 := d0) (l0 := kF one two three 9) rfl hpn T.e_TakenName T.e_BadName (nodup_ne T.ne (i := 0) (j := 6) rfl rfl (by decide)) (fun z => (nodup_ne T.ne (i := 10) (j := 6) rfl rfl (by decide) z).elim) (fun _ => ?_))
    refine ds_seq (ds_isE (a0 := a0) (C := a.c_TakenName) (d0 := d0) (l0 := kF one two three 9) rfl hpn T.e_TakenName T.e_BadText (nodup_ne T.ne (i := 0) (j := 7) rfl rfl (by decide)) (fun z => (nodup_ne T.ne (i := 10) (j := 7) rfl rfl (by decide) z).elim) (fun _ => ?_))
    refine ds_seq (ds_isE (a0 := a0) (C := a.c_TakenName) (d0 := d0) (l0 := kF one two three 9) rfl hpn T.e_TakenName T.e_NoPlace (nodup_ne T.ne (i := 0) (j := 8) rfl rfl (by decide)) (fun z => (nodup_ne T.ne (i := 10) (j := 8) rfl rfl (by decide) z).elim) (fun _ => ?_))
    exact ds_ret (de_new (dn_addL_own rfl (de_callP EL.no trivial (dc_cons (de_var rfl (dc_nil ⟨9, a0, d0, one, two, three, by decide, hpn, rfl, h1, h2, _, rfl, (show 1 ≤ 16000 by decide), hR⟩))))))
  · have hR : R (.lst [kT one two three 10]) := hR
    refine ds_seq (ds_isE (a0 := a0) (C := a.c_Unlike) (d0 := d0) (l0 := kF one two three 10) rfl hpn T.e_Unlike T.e_BadNumber (nodup_ne T.ne (i := 0) (j := 1) rfl rfl (by decide)) (fun z => (nodup_ne T.ne (i := 11) (j := 1) rfl rfl (by decide) z).elim) (fun _ => ?_))
    refine ds_seq (ds_isE (a0 := a0) (C := a.c_Unlike) (d0 := d0) (l0 := kF one two three 10) rfl hpn T.e_Unlike T.e_BadRow (nodup_ne T.ne (i := 0) (j := 2) rfl rfl (by decide)) (fun z => (nodup_ne T.ne (i := 11) (j := 2) rfl rfl (by decide) z).elim) (fun _ => ?_))
    refine ds_seq (ds_isE (a0 := a0) (C := a.c_Unlike) (d0 := d0) (l0 := kF one two three 10) rfl hpn T.e_Unlike T.e_BadTable (nodup_ne T.ne (i := 0) (j := 3) rfl rfl (by decide)) (fun z => (nodup_ne T.ne (i := 11) (j := 3) rfl rfl (by decide) z).elim) (fun _ => ?_))
    refine ds_seq (ds_isE (a0 := a0) (C := a.c_Unlike) (d0 := d0) (l0 := kF one two three 10) rfl hpn T.e_Unlike T.e_BadForm (nodup_ne T.ne (i := 0) (j := 4) rfl rfl (by decide)) (fun z => (nodup_ne T.ne (i := 11) (j := 4) rfl rfl (by decide) z).elim) (fun _ => ?_))
    refine ds_seq (ds_isE (a0 := a0) (C := a.c_Unlike) (d0 := d0) (l0 := kF one two three 10) rfl hpn T.e_Unlike T.e_BadBook (nodup_ne T.ne (i := 0) (j := 5) rfl rfl (by decide)) (fun z => (nodup_ne T.ne (i := 11) (j := 5) rfl rfl (by decide) z).elim) (fun _ => ?_))
    refine ds_seq (ds_isE (a0 := a0) (C := a.c_Unlike) (d0 := d0) (l0 := kF one two three 10) rfl hpn T.e_Unlike T.e_BadName (nodup_ne T.ne (i := 0) (j := 6) rfl rfl (by decide)) (fun z => (nodup_ne T.ne (i := 11) (j := 6) rfl rfl (by decide) z).elim) (fun _ => ?_))
    refine ds_seq (ds_isE (a0 := a0) (C := a.c_Unlike) (d0 := d0) (l0 := kF one two three 10) rfl hpn T.e_Unlike T.e_BadText (nodup_ne T.ne (i := 0) (j := 7) rfl rfl (by decide)) (fun z => (nodup_ne T.ne (i := 11) (j := 7) rfl rfl (by decide) z).elim) (fun _ => ?_))
    refine ds_seq (ds_isE (a0 := a0) (C := a.c_Unlike) (d0 := d0) (l0 := kF one two three 10) rfl hpn T.e_Unlike T.e_NoPlace (nodup_ne T.ne (i := 0) (j := 8) rfl rfl (by decide)) (fun z => (nodup_ne T.ne (i := 11) (j := 8) rfl rfl (by decide) z).elim) (fun _ => ?_))
    exact ds_ret (de_new (dn_addL_own rfl (de_callP EL.no trivial (dc_cons (de_var rfl (dc_nil ⟨10, a0, d0, one, two, three, by decide, hpn, rfl, h1, h2, _, rfl, (show 1 ≤ 16000 by decide), hR⟩))))))
  · have hR : R (.lst [kT one two three 11]) := hR
    refine ds_seq (ds_isE (a0 := a0) (C := a.c_NotThere) (d0 := d0) (l0 := kF one two three 11) rfl hpn T.e_NotThere T.e_BadNumber (nodup_ne T.ne (i := 0) (j := 1) rfl rfl (by decide)) (fun z => (nodup_ne T.ne (i := 12) (j := 1) rfl rfl (by decide) z).elim) (fun _ => ?_))
    refine ds_seq (ds_isE (a0 := a0) (C := a.c_NotThere) (d0 := d0) (l0 := kF one two three 11) rfl hpn T.e_NotThere T.e_BadRow (nodup_ne T.ne (i := 0) (j := 2) rfl rfl (by decide)) (fun z => (nodup_ne T.ne (i := 12) (j := 2) rfl rfl (by decide) z).elim) (fun _ => ?_))
    refine ds_seq (ds_isE (a0 := a0) (C := a.c_NotThere) (d0 := d0) (l0 := kF one two three 11) rfl hpn T.e_NotThere T.e_BadTable (nodup_ne T.ne (i := 0) (j := 3) rfl rfl (by decide)) (fun z => (nodup_ne T.ne (i := 12) (j := 3) rfl rfl (by decide) z).elim) (fun _ => ?_))
    refine ds_seq (ds_isE (a0 := a0) (C := a.c_NotThere) (d0 := d0) (l0 := kF one two three 11) rfl hpn T.e_NotThere T.e_BadForm (nodup_ne T.ne (i := 0) (j := 4) rfl rfl (by decide)) (fun z => (nodup_ne T.ne (i := 12) (j := 4) rfl rfl (by decide) z).elim) (fun _ => ?_))
    refine ds_seq (ds_isE (a0 := a0) (C := a.c_NotThere) (d0 := d0) (l0 := kF one two three 11) rfl hpn T.e_NotThere T.e_BadBook (nodup_ne T.ne (i := 0) (j := 5) rfl rfl (by decide)) (fun z => (nodup_ne T.ne (i := 12) (j := 5) rfl rfl (by decide) z).elim) (fun _ => ?_))
    refine ds_seq (ds_isE (a0 := a0) (C := a.c_NotThere) (d0 := d0) (l0 := kF one two three 11) rfl hpn T.e_NotThere T.e_BadName (nodup_ne T.ne (i := 0) (j := 6) rfl rfl (by decide)) (fun z => (nodup_ne T.ne (i := 12) (j := 6) rfl rfl (by decide) z).elim) (fun _ => ?_))
    refine ds_seq (ds_isE (a0 := a0) (C := a.c_NotThere) (d0 := d0) (l0 := kF one two three 11) rfl hpn T.e_NotThere T.e_BadText (nodup_ne T.ne (i := 0) (j := 7) rfl rfl (by decide)) (fun z => (nodup_ne T.ne (i := 12) (j := 7) rfl rfl (by decide) z).elim) (fun _ => ?_))
    refine ds_seq (ds_isE (a0 := a0) (C := a.c_NotThere) (d0 := d0) (l0 := kF one two three 11) rfl hpn T.e_NotThere T.e_NoPlace (nodup_ne T.ne (i := 0) (j := 8) rfl rfl (by decide)) (fun z => (nodup_ne T.ne (i := 12) (j := 8) rfl rfl (by decide) z).elim) (fun _ => ?_))
    exact ds_ret (de_new (dn_addL_own rfl (de_callP EL.no trivial (dc_cons (de_var rfl (dc_nil ⟨11, a0, d0, one, two, three, by decide, hpn, rfl, h1, h2, _, rfl, (show 1 ≤ 16000 by decide), hR⟩))))))
  · have hR : R (.lst [kT one two three 12]) := hR
    refine ds_seq (ds_isE (a0 := a0) (C := a.c_TooMany) (d0 := d0) (l0 := kF one two three 12) rfl hpn T.e_TooMany T.e_BadNumber (nodup_ne T.ne (i := 0) (j := 1) rfl rfl (by decide)) (fun z => (nodup_ne T.ne (i := 13) (j := 1) rfl rfl (by decide) z).elim) (fun _ => ?_))
    refine ds_seq (ds_isE (a0 := a0) (C := a.c_TooMany) (d0 := d0) (l0 := kF one two three 12) rfl hpn T.e_TooMany T.e_BadRow (nodup_ne T.ne (i := 0) (j := 2) rfl rfl (by decide)) (fun z => (nodup_ne T.ne (i := 13) (j := 2) rfl rfl (by decide) z).elim) (fun _ => ?_))
    refine ds_seq (ds_isE (a0 := a0) (C := a.c_TooMany) (d0 := d0) (l0 := kF one two three 12) rfl hpn T.e_TooMany T.e_BadTable (nodup_ne T.ne (i := 0) (j := 3) rfl rfl (by decide)) (fun z => (nodup_ne T.ne (i := 13) (j := 3) rfl rfl (by decide) z).elim) (fun _ => ?_))
    refine ds_seq (ds_isE (a0 := a0) (C := a.c_TooMany) (d0 := d0) (l0 := kF one two three 12) rfl hpn T.e_TooMany T.e_BadForm (nodup_ne T.ne (i := 0) (j := 4) rfl rfl (by decide)) (fun z => (nodup_ne T.ne (i := 13) (j := 4) rfl rfl (by decide) z).elim) (fun _ => ?_))
    refine ds_seq (ds_isE (a0 := a0) (C := a.c_TooMany) (d0 := d0) (l0 := kF one two three 12) rfl hpn T.e_TooMany T.e_BadBook (nodup_ne T.ne (i := 0) (j := 5) rfl rfl (by decide)) (fun z => (nodup_ne T.ne (i := 13) (j := 5) rfl rfl (by decide) z).elim) (fun _ => ?_))
    refine ds_seq (ds_isE (a0 := a0) (C := a.c_TooMany) (d0 := d0) (l0 := kF one two three 12) rfl hpn T.e_TooMany T.e_BadName (nodup_ne T.ne (i := 0) (j := 6) rfl rfl (by decide)) (fun z => (nodup_ne T.ne (i := 13) (j := 6) rfl rfl (by decide) z).elim) (fun _ => ?_))
    refine ds_seq (ds_isE (a0 := a0) (C := a.c_TooMany) (d0 := d0) (l0 := kF one two three 12) rfl hpn T.e_TooMany T.e_BadText (nodup_ne T.ne (i := 0) (j := 7) rfl rfl (by decide)) (fun z => (nodup_ne T.ne (i := 13) (j := 7) rfl rfl (by decide) z).elim) (fun _ => ?_))
    refine ds_seq (ds_isE (a0 := a0) (C := a.c_TooMany) (d0 := d0) (l0 := kF one two three 12) rfl hpn T.e_TooMany T.e_NoPlace (nodup_ne T.ne (i := 0) (j := 8) rfl rfl (by decide)) (fun z => (nodup_ne T.ne (i := 13) (j := 8) rfl rfl (by decide) z).elim) (fun _ => ?_))
    exact ds_ret (de_new (dn_addL_own rfl (de_callP EL.no trivial (dc_cons (de_var rfl (dc_nil ⟨12, a0, d0, one, two, three, by decide, hpn, rfl, h1, h2, _, rfl, (show 1 ≤ 16000 by decide), hR⟩))))))
  · have hR : R (.lst [kT one two three 13]) := hR
    refine ds_seq (ds_isE (a0 := a0) (C := a.c_NotKept) (d0 := d0) (l0 := kF one two three 13) rfl hpn T.e_NotKept T.e_BadNumber (nodup_ne T.ne (i := 0) (j := 1) rfl rfl (by decide)) (fun z => (nodup_ne T.ne (i := 14) (j := 1) rfl rfl (by decide) z).elim) (fun _ => ?_))
    refine ds_seq (ds_isE (a0 := a0) (C := a.c_NotKept) (d0 := d0) (l0 := kF one two three 13) rfl hpn T.e_NotKept T.e_BadRow (nodup_ne T.ne (i := 0) (j := 2) rfl rfl (by decide)) (fun z => (nodup_ne T.ne (i := 14) (j := 2) rfl rfl (by decide) z).elim) (fun _ => ?_))
    refine ds_seq (ds_isE (a0 := a0) (C := a.c_NotKept) (d0 := d0) (l0 := kF one two three 13) rfl hpn T.e_NotKept T.e_BadTable (nodup_ne T.ne (i := 0) (j := 3) rfl rfl (by decide)) (fun z => (nodup_ne T.ne (i := 14) (j := 3) rfl rfl (by decide) z).elim) (fun _ => ?_))
    refine ds_seq (ds_isE (a0 := a0) (C := a.c_NotKept) (d0 := d0) (l0 := kF one two three 13) rfl hpn T.e_NotKept T.e_BadForm (nodup_ne T.ne (i := 0) (j := 4) rfl rfl (by decide)) (fun z => (nodup_ne T.ne (i := 14) (j := 4) rfl rfl (by decide) z).elim) (fun _ => ?_))
    refine ds_seq (ds_isE (a0 := a0) (C := a.c_NotKept) (d0 := d0) (l0 := kF one two three 13) rfl hpn T.e_NotKept T.e_BadBook (nodup_ne T.ne (i := 0) (j := 5) rfl rfl (by decide)) (fun z => (nodup_ne T.ne (i := 14) (j := 5) rfl rfl (by decide) z).elim) (fun _ => ?_))
    refine ds_seq (ds_isE (a0 := a0) (C := a.c_NotKept) (d0 := d0) (l0 := kF one two three 13) rfl hpn T.e_NotKept T.e_BadName (nodup_ne T.ne (i := 0) (j := 6) rfl rfl (by decide)) (fun z => (nodup_ne T.ne (i := 14) (j := 6) rfl rfl (by decide) z).elim) (fun _ => ?_))
    refine ds_seq (ds_isE (a0 := a0) (C := a.c_NotKept) (d0 := d0) (l0 := kF one two three 13) rfl hpn T.e_NotKept T.e_BadText (nodup_ne T.ne (i := 0) (j := 7) rfl rfl (by decide)) (fun z => (nodup_ne T.ne (i := 14) (j := 7) rfl rfl (by decide) z).elim) (fun _ => ?_))
    refine ds_seq (ds_isE (a0 := a0) (C := a.c_NotKept) (d0 := d0) (l0 := kF one two three 13) rfl hpn T.e_NotKept T.e_NoPlace (nodup_ne T.ne (i := 0) (j := 8) rfl rfl (by decide)) (fun z => (nodup_ne T.ne (i := 14) (j := 8) rfl rfl (by decide) z).elim) (fun _ => ?_))
    exact ds_ret (de_new (dn_addL_own rfl (de_callP EL.no trivial (dc_cons (de_var rfl (dc_nil ⟨13, a0, d0, one, two, three, by decide, hpn, rfl, h1, h2, _, rfl, (show 1 ≤ 16000 by decide), hR⟩))))))
  · have hR : R (.lst [kT one two three 14]) := hR
    refine ds_seq (ds_isE (a0 := a0) (C := a.c_NothingToUndo) (d0 := d0) (l0 := kF one two three 14) rfl hpn T.e_NothingToUndo T.e_BadNumber (nodup_ne T.ne (i := 0) (j := 1) rfl rfl (by decide)) (fun z => (nodup_ne T.ne (i := 15) (j := 1) rfl rfl (by decide) z).elim) (fun _ => ?_))
    refine ds_seq (ds_isE (a0 := a0) (C := a.c_NothingToUndo) (d0 := d0) (l0 := kF one two three 14) rfl hpn T.e_NothingToUndo T.e_BadRow (nodup_ne T.ne (i := 0) (j := 2) rfl rfl (by decide)) (fun z => (nodup_ne T.ne (i := 15) (j := 2) rfl rfl (by decide) z).elim) (fun _ => ?_))
    refine ds_seq (ds_isE (a0 := a0) (C := a.c_NothingToUndo) (d0 := d0) (l0 := kF one two three 14) rfl hpn T.e_NothingToUndo T.e_BadTable (nodup_ne T.ne (i := 0) (j := 3) rfl rfl (by decide)) (fun z => (nodup_ne T.ne (i := 15) (j := 3) rfl rfl (by decide) z).elim) (fun _ => ?_))
    refine ds_seq (ds_isE (a0 := a0) (C := a.c_NothingToUndo) (d0 := d0) (l0 := kF one two three 14) rfl hpn T.e_NothingToUndo T.e_BadForm (nodup_ne T.ne (i := 0) (j := 4) rfl rfl (by decide)) (fun z => (nodup_ne T.ne (i := 15) (j := 4) rfl rfl (by decide) z).elim) (fun _ => ?_))
    refine ds_seq (ds_isE (a0 := a0) (C := a.c_NothingToUndo) (d0 := d0) (l0 := kF one two three 14) rfl hpn T.e_NothingToUndo T.e_BadBook (nodup_ne T.ne (i := 0) (j := 5) rfl rfl (by decide)) (fun z => (nodup_ne T.ne (i := 15) (j := 5) rfl rfl (by decide) z).elim) (fun _ => ?_))
    refine ds_seq (ds_isE (a0 := a0) (C := a.c_NothingToUndo) (d0 := d0) (l0 := kF one two three 14) rfl hpn T.e_NothingToUndo T.e_BadName (nodup_ne T.ne (i := 0) (j := 6) rfl rfl (by decide)) (fun z => (nodup_ne T.ne (i := 15) (j := 6) rfl rfl (by decide) z).elim) (fun _ => ?_))
    refine ds_seq (ds_isE (a0 := a0) (C := a.c_NothingToUndo) (d0 := d0) (l0 := kF one two three 14) rfl hpn T.e_NothingToUndo T.e_BadText (nodup_ne T.ne (i := 0) (j := 7) rfl rfl (by decide)) (fun z => (nodup_ne T.ne (i := 15) (j := 7) rfl rfl (by decide) z).elim) (fun _ => ?_))
    refine ds_seq (ds_isE (a0 := a0) (C := a.c_NothingToUndo) (d0 := d0) (l0 := kF one two three 14) rfl hpn T.e_NothingToUndo T.e_NoPlace (nodup_ne T.ne (i := 0) (j := 8) rfl rfl (by decide)) (fun z => (nodup_ne T.ne (i := 15) (j := 8) rfl rfl (by decide) z).elim) (fun _ => ?_))
    exact ds_ret (de_new (dn_addL_own rfl (de_callP EL.no trivial (dc_cons (de_var rfl (dc_nil ⟨14, a0, d0, one, two, three, by decide, hpn, rfl, h1, h2, _, rfl, (show 1 ≤ 16000 by decide), hR⟩))))))
  · have hR : R (.lst [kT one two three 15]) := hR
    refine ds_seq (ds_isE (a0 := a0) (C := a.c_NothingToRedo) (d0 := d0) (l0 := kF one two three 15) rfl hpn T.e_NothingToRedo T.e_BadNumber (nodup_ne T.ne (i := 0) (j := 1) rfl rfl (by decide)) (fun z => (nodup_ne T.ne (i := 16) (j := 1) rfl rfl (by decide) z).elim) (fun _ => ?_))
    refine ds_seq (ds_isE (a0 := a0) (C := a.c_NothingToRedo) (d0 := d0) (l0 := kF one two three 15) rfl hpn T.e_NothingToRedo T.e_BadRow (nodup_ne T.ne (i := 0) (j := 2) rfl rfl (by decide)) (fun z => (nodup_ne T.ne (i := 16) (j := 2) rfl rfl (by decide) z).elim) (fun _ => ?_))
    refine ds_seq (ds_isE (a0 := a0) (C := a.c_NothingToRedo) (d0 := d0) (l0 := kF one two three 15) rfl hpn T.e_NothingToRedo T.e_BadTable (nodup_ne T.ne (i := 0) (j := 3) rfl rfl (by decide)) (fun z => (nodup_ne T.ne (i := 16) (j := 3) rfl rfl (by decide) z).elim) (fun _ => ?_))
    refine ds_seq (ds_isE (a0 := a0) (C := a.c_NothingToRedo) (d0 := d0) (l0 := kF one two three 15) rfl hpn T.e_NothingToRedo T.e_BadForm (nodup_ne T.ne (i := 0) (j := 4) rfl rfl (by decide)) (fun z => (nodup_ne T.ne (i := 16) (j := 4) rfl rfl (by decide) z).elim) (fun _ => ?_))
    refine ds_seq (ds_isE (a0 := a0) (C := a.c_NothingToRedo) (d0 := d0) (l0 := kF one two three 15) rfl hpn T.e_NothingToRedo T.e_BadBook (nodup_ne T.ne (i := 0) (j := 5) rfl rfl (by decide)) (fun z => (nodup_ne T.ne (i := 16) (j := 5) rfl rfl (by decide) z).elim) (fun _ => ?_))
    refine ds_seq (ds_isE (a0 := a0) (C := a.c_NothingToRedo) (d0 := d0) (l0 := kF one two three 15) rfl hpn T.e_NothingToRedo T.e_BadName (nodup_ne T.ne (i := 0) (j := 6) rfl rfl (by decide)) (fun z => (nodup_ne T.ne (i := 16) (j := 6) rfl rfl (by decide) z).elim) (fun _ => ?_))
    refine ds_seq (ds_isE (a0 := a0) (C := a.c_NothingToRedo) (d0 := d0) (l0 := kF one two three 15) rfl hpn T.e_NothingToRedo T.e_BadText (nodup_ne T.ne (i := 0) (j := 7) rfl rfl (by decide)) (fun z => (nodup_ne T.ne (i := 16) (j := 7) rfl rfl (by decide) z).elim) (fun _ => ?_))
    refine ds_seq (ds_isE (a0 := a0) (C := a.c_NothingToRedo) (d0 := d0) (l0 := kF one two three 15) rfl hpn T.e_NothingToRedo T.e_NoPlace (nodup_ne T.ne (i := 0) (j := 8) rfl rfl (by decide)) (fun z => (nodup_ne T.ne (i := 16) (j := 8) rfl rfl (by decide) z).elim) (fun _ => ?_))
    exact ds_ret (de_new (dn_addL_own rfl (de_callP EL.no trivial (dc_cons (de_var rfl (dc_nil ⟨15, a0, d0, one, two, three, by decide, hpn, rfl, h1, h2, _, rfl, (show 1 ≤ 16000 by decide), hR⟩))))))
end
end Law

set_option Elab.async false
set_option linter.all false
set_option maxRecDepth 100000
set_option maxHeartbeats 4000000
namespace Law
open PySem PySem.Spec PyProof.Rows L2 G
theorem kE {K : PySem.W.Frag} {mg : Str → Option Value} {a : Ad} (T : Tx K mg a) {k : Nat} (hk : k < 16) : ErrK K (kC a k) (.ref a.c_GenusError :: veT) := by
  have hk' : k = 0 ∨ k = 1 ∨ k = 2 ∨ k = 3 ∨ k = 4 ∨ k = 5 ∨ k = 6 ∨ k = 7 ∨ k = 8 ∨ k = 9 ∨ k = 10 ∨ k = 11 ∨ k = 12 ∨ k = 13 ∨ k = 14 ∨ k = 15 := by omega
  rcases hk' with rfl | rfl | rfl | rfl | rfl | rfl | rfl | rfl | rfl | rfl | rfl | rfl | rfl | rfl | rfl | rfl
  · exact T.e_BadNumber
  · exact T.e_BadRow
  · exact T.e_BadTable
  · exact T.e_BadForm
  · exact T.e_BadBook
  · exact T.e_BadName
  · exact T.e_BadText
  · exact T.e_NoPlace
  · exact T.e_NoName
  · exact T.e_TakenName
  · exact T.e_Unlike
  · exact T.e_NotThere
  · exact T.e_TooMany
  · exact T.e_NotKept
  · exact T.e_NothingToUndo
  · exact T.e_NothingToRedo
/-- what _law_fault tells of what it was handed -/
def FoF (a : Ad) (Qb : D → Prop) (X : Addr → List (Str × D) → Prop) (R : D → Prop) : Prop :=
  (∀ d, Qb d → R .non) ∧ ∀ C fs, X C fs → ∃ (k : Nat) (one two three : D), k < 16 ∧ C = kC a k ∧ fs = kF one two three k ∧ ((k = 5 ∨ k = 8 ∨ k = 9) → okR one) ∧ ((k = 0 ∨ k = 1 ∨ k = 7) → okR two) ∧ R (kT one two three k)
theorem gives__law_fault {P : Program} {w : World} {K : PySem.W.Frag} {mg : Str → Option Value} {base : Heap} {A : Around} {st : List Env} {a : Ad} {k : Nat} {q : Str} (T : Tx K mg a) (hS : Sy mg base a) (cdg : Value) : GivesG P w K mg base A st (k + 1) nm__law_fault "_law_fault" (defScope s__law_fault) a.f__law_fault cdg (defBody s__law_fault) "call" q (TTd K (FoF a)) := by
  intro f c' s H Q tl hr act hcd h
  obtain ⟨b0, Hf, Qb, Xf, R, hx, htl, ⟨hN, hK⟩, hQ⟩ := h
  have hk2 : 2 ≤ k + 1 + 1 := by omega
  refine ⟨_, (pss_cons (ps_set (i := 1) sc__law_fault.nd rfl (Or.inl rfl) pe_non)
      (pss_cons (ps_tryD (i := 2) rfl rfl sc__law_fault.nd rfl rfl ⟨by rfl, by decide, Or.inl T.g_GenusError⟩ (takes_of rfl rfl rfl rfl) (fun W pn xe tkW pO => (pss_one (ps_expr (act pn xe (WE W) _ _ (passAt tkW))))) (fun a0 oe cls d0 pn hz hf => (pss_cons (ps_set (i := 1) sc__law_fault.nd rfl (Or.inl rfl) (pe_goX (ok__law_kinds T hS) hz hf ((hr.mark (some (.ref a0))).mono hk2) List.mem_cons_self (by rfl) T.g__law_kinds T.F__law_kinds.kp T.b__law_kinds lets0 (pa_cons (pv 2) pa_nil)))
      (pss_one (ps_set (i := 1) sc__law_fault.nd rfl (Or.inl rfl) (pe_ifExp (PW.pt (pw_and (pt_cmpR (show OpR _ _ (rEqG K) from op_eqG (hr.mark (some (.ref a0))).hu) (pe_callB (show CallR _ _ (rLenV K) from call_lenV) (by rfl) T.n_len PySem.boot_len (pa_cons (pv 1) pa_nil)) pe_int (nomark _)) (pw_and1 (pt_val (pe_callB (show CallR _ _ (rIsG K (fun a' d' C' => a' = a0 ∧ d' = d0 ∧ Value.ref C' = cls ∧ XcC K C')) from call_isG (fun a' d' C' z => pnp_of (pn := pn) hz hf z)) (by rfl) T.n_isinstance PyProof.Rows.boot_isinstance (pa_cons (pv 2) (pa_cons (pe_bltn (v := .ty "ValueError") (by rfl) T.n_ValueError (by decide +kernel) rfl) pa_nil))))))) (pe_ix (show IxR _ (rIx K) from ix_seq) (pv 1) pe_int (fun _ _ => rfl)) (pe_tup (pa_cons pe_str (pa_cons (pe_callB (show CallR _ _ (rLenV K) from call_lenV) (by rfl) T.n_len PySem.boot_len (pa_cons (pv 1) pa_nil)) pa_nil)))))))))
      (pss_one (ps_ret (pv 1))))), ?_⟩
  have c0 : (b0.cut Hf H).B c' = some (LamX.CodeO c' q) := by
    show (if c' ∈ b0.M ∨ c' ∈ b0.T.map (·.1) then none else H c') = _
    rw [if_neg ?_]
    · exact hcd
    · rintro (z | z)
      · obtain ⟨_, _, o, e1, _, _, _, _, _, _, e2, _⟩ := hx.pens c' z
        rw [hcd] at e1
        rw [← Option.some.inj e1] at e2
        unfold LamX.CodeO at e2
        cases e2
      · obtain ⟨p, hp, e⟩ := List.mem_map.mp z
        obtain ⟨_, _, _, ps, e1, _⟩ := hx.tabs p hp
        rw [e, hcd] at e1
        exact LamX.codeO_ne ps (Option.some.inj e1)
  have fr : Fm K (b0.cut Hf H) Hf H (L2.start nm__law_fault [.ref f]) [.sh (.fn f), .no, .no] := by
    have own : ∀ i u, ¬ Own (L2.start nm__law_fault [.ref f]) [.sh (.fn f), .no, .no] i u := fun i u z => by
      obtain ⟨⟨ds, h1⟩, _⟩ := z
      match i with
      | 0 => cases h1
      | 1 => cases h1
      | 2 => cases h1
      | i + 3 => simp at h1
    refine { ex := hx.cut, len := rfl, sl := fun i o s h1 h2 => ?_, mine := fun i u z => (own i u z).elim, sep := fun i j u z => (own i u z).elim }
    match i with
    | 0 =>
      cases h1; cases h2
      exact Rp.fn f
    | 1 =>
      cases h1; cases h2
      trivial
    | 2 =>
      cases h1; cases h2
      trivial
    | i + 3 => simp at h2
  refine (show DS K (b0.cut Hf H) [.sh (.fn f), .no, .no] _ (fun _ => R .non) R (fun _ => False) (fun _ => False) from ?_) Hf H _ _ fr (fun ρ' σ' Hf' H' e fr q => hQ .non .non Hf' H' fr.ex .non q) (fun v d Hf' H' e x r q => hQ v d Hf' H' x r q) (fun _ _ _ _ _ _ z => z.elim) (fun _ _ _ _ _ _ z => z.elim)
  refine ds_seq (ds_asg (de_non ?_))
  refine ds_seq (ds_try Xf (fun d z => nomatch z) (fun b' W sub hE => ?_) (fun b' C fs sub hx => ?_))
  · refine ds_drop (de_act htl sub sub.M sub.T c0 (nx := []) hE rfl (fun i s h => ?_) (fun d hd => ds_ret (de_var rfl (hN d hd))))
    match i with
    | 0 => cases h; exact Or.inr (Or.inr rfl)
    | 1 => cases h; exact Or.inr (Or.inl rfl)
    | 2 => cases h; exact Or.inl rfl
    | i + 3 => simp at h
  · obtain ⟨k, one, two, three, hk, rfl, rfl, h1, h2, hR⟩ := hK C fs hx
    have e := kE T hk
    refine ⟨(e.exm T.e_GenusError vees0).trans (by rw [contains_base]), fun a0 d0 => ?_⟩
    have xc := e.xc T.eb vees
    refine ds_seq (ds_asg (de_callX EL.no (dc_cons (de_var rfl (dc_nil fun oe hz hf => ⟨trivial, k, a0, d0, one, two, three, hk, ⟨oe, List.mem_singleton.mpr rfl, hz, hf, xc⟩, rfl, h1, h2, ?_⟩)))))
    refine ds_asg (de_ite (dt_and (dt_test (de_eqI (de_len (de_var rfl ⟨1, rfl, de_int ⟨1, 1, rfl, rfl, true, rfl, iteT ?_⟩⟩))))))
    refine dt_test (de_isX (.ty "ValueError") (de_var rfl ⟨a0, d0, kC a k, kF one two three k, true, rfl, ⟨rfl, rfl, rfl, xc⟩, e.kitT vees, true, rfl, iteT ?_⟩))
    exact de_ix (de_var rfl (de_int ⟨0, kT one two three k, rfl, rfl, ds_ret (de_var rfl hR)⟩))
end Law

set_option Elab.async false
set_option linter.all false
set_option maxRecDepth 100000
set_option maxHeartbeats 4000000
namespace Law
open PySem PySem.Spec PyProof.Rows L2 G
section
variable {P : Program} {w : World} {K : PySem.W.Frag} {mg : Str → Option Value} {base : Heap} {a : Ad}
def isI : D → Bool
  | .int _ => true
  | _ => false
/-- what may stand for a number: a plain value, a pair of ints -/
inductive Vl : D → Prop
  | non : Vl .non
  | bl (b : Bool) : Vl (.bl b)
  | int (i : Int) : Vl (.int i)
  | str (s : Str) : Vl (.str s)
  | pair (i j : Int) : Vl (.tup [.int i, .int j])
def F_isI : DF := fun ss R _ => ∃ x, ss = [.sh x] ∧ Vl x ∧ R (.bl (isI x))
theorem de_isInt {b : Bs} {ρ : List Sl} {pn : PinP} {i : Nat} {x : D} {Q : D → Prop} (hi : ρ[i]? = some (.sh x)) (hx : Vl x) (q : Q (.bl (isI x))) :
    DE K b ρ (tAndV (tCB (rIsG K pn) (tCons (tVar i) (tCons (tC (.ty "int")) tNil))) (tNotV (tCB (rIsG K pn) (tCons (tVar i) (tCons (tC (.ty "bool")) tNil))))) Q := by
  cases hx with
  | non => exact de_andV (de_isT (de_var hi ⟨_, false, rfl, by decide +kernel, false, rfl, iteF q⟩))
  | str s => exact de_andV (de_isT (de_var hi ⟨_, false, rfl, by decide +kernel, false, rfl, iteF q⟩))
  | pair u v => exact de_andV (de_isT (de_var hi ⟨_, false, rfl, by decide +kernel, false, rfl, iteF q⟩))
  | bl c => exact de_andV (de_isT (de_var hi ⟨_, true, rfl, by decide +kernel, true, rfl, iteT (de_notV (de_isT (de_var hi ⟨_, true, rfl, by decide +kernel, true, rfl, q⟩)))⟩))
  | int c => exact de_andV (de_isT (de_var hi ⟨_, true, rfl, by decide +kernel, true, rfl, iteT (de_notV (de_isT (de_var hi ⟨_, false, rfl, by decide +kernel, false, rfl, q⟩)))⟩))
theorem ok_is_integer (T : Tx K mg a) (hS : Sy mg base a) : FnG P w K mg base true 1 a.f_is_integer a.d_is_integer (["value"] : List Str) (fun _ => spD K F_isI) := by
  refine fn_data T.F_is_integer sc_is_integer (fun ss R X z => by obtain ⟨_, h, _⟩ := z; rw [h] <;> rfl) fun cdv A outer s H E pl hr => ⟨_, (pss_one (ps_ret (pe_and (pe_callB (call_isG (pn := (fun _ _ _ => False)) (fun _ _ _ z => z.elim)) (by rfl) T.n_isinstance PyProof.Rows.boot_isinstance (pa_cons (pv 0) (pa_cons (pe_bltn (v := .ty "int") (by rfl) T.n_int PyProof.Rows.boot_int rfl) pa_nil))) (pe_one (pe_not (pe_callB (call_isG (pn := (fun _ _ _ => False)) (fun _ _ _ z => z.elim)) (by rfl) T.n_isinstance PyProof.Rows.boot_isinstance (pa_cons (pv 0) (pa_cons (pe_bltn (v := .ty "bool") (by rfl) T.n_bool PyProof.Rows.boot_bool rfl) pa_nil)))))))), fun b ss R X h hX => ?_⟩
  obtain ⟨x, rfl, hx, q⟩ := h
  exact ds_ret (de_isInt rfl hx q)
theorem ok__law_is_whole (T : Tx K mg a) (hS : Sy mg base a) : FnG P w K mg base true 1 a.f__law_is_whole a.d__law_is_whole (["value"] : List Str) (fun _ => spD K F_isI) := by
  refine fn_data T.F__law_is_whole sc__law_is_whole (fun ss R X z => by obtain ⟨_, h, _⟩ := z; rw [h] <;> rfl) fun cdv A outer s H E pl hr => ⟨_, (pss_one (ps_ret (pe_and (pe_callB (call_isG (pn := (fun _ _ _ => False)) (fun _ _ _ z => z.elim)) (by rfl) T.n_isinstance PyProof.Rows.boot_isinstance (pa_cons (pv 0) (pa_cons (pe_bltn (v := .ty "int") (by rfl) T.n_int PyProof.Rows.boot_int rfl) pa_nil))) (pe_one (pe_not (pe_callB (call_isG (pn := (fun _ _ _ => False)) (fun _ _ _ z => z.elim)) (by rfl) T.n_isinstance PyProof.Rows.boot_isinstance (pa_cons (pv 0) (pa_cons (pe_bltn (v := .ty "bool") (by rfl) T.n_bool PyProof.Rows.boot_bool rfl) pa_nil)))))))), fun b ss R X h hX => ?_⟩
  obtain ⟨x, rfl, hx, q⟩ := h
  exact ds_ret (de_isInt rfl hx q)
def isRt : D → Bool
  | .tup [.int i, .int j] => decide (j > 1) && decide (((Nat.gcd i.natAbs j.natAbs : Nat) : Int) = 1)
  | x => isI x
def F_isRt : DF := fun ss R _ => ∃ x, ss = [.sh x] ∧ Vl x ∧ R (.bl (isRt x))
theorem ok_is_ratio (T : Tx K mg a) (hS : Sy mg base a) : FnG P w K mg base true 2 a.f_is_ratio a.d_is_ratio (["value"] : List Str) (fun _ => spD K F_isRt) := by
  refine fn_data T.F_is_ratio sc_is_ratio (fun ss R X z => by obtain ⟨_, h, _⟩ := z; rw [h] <;> rfl) fun cdv A outer s H E pl hr => ⟨_, (pss_cons (ps_if (pt_not (pt_val (pe_callB (call_isG (pn := (fun _ _ _ => False)) (fun _ _ _ z => z.elim)) (by rfl) T.n_isinstance PyProof.Rows.boot_isinstance (pa_cons (pv 0) (pa_cons (pe_bltn (v := .ty "tuple") (by rfl) T.n_tuple PyProof.Rows.boot_tuple rfl) pa_nil))))) (pss_one (ps_ret (pe_go (ok_is_integer T hS) (hr.mono (by decide)) (pl := []) (fun _ h => nomatch h) (by rfl) T.g_is_integer T.F_is_integer.kp T.b_is_integer lets0 (pa_cons (pv 0) pa_nil)))) pss_nil)
      (pss_cons (ps_if (PW.pt (pw_or (pt_cmpR (op_neG hr.hu) (pe_callB call_lenV (by rfl) T.n_len PySem.boot_len (pa_cons (pv 0) pa_nil)) pe_int (nomark _)) (pw_or (pt_not (pt_val (pe_go (ok_is_integer T hS) (hr.mono (by decide)) (pl := []) (fun _ h => nomatch h) (by rfl) T.g_is_integer T.F_is_integer.kp T.b_is_integer lets0 (pa_cons (pe_ix ix_seq (pv 0) pe_int (fun _ _ => rfl)) pa_nil)))) (pw_or1 (pt_not (pt_val (pe_go (ok_is_integer T hS) (hr.mono (by decide)) (pl := []) (fun _ h => nomatch h) (by rfl) T.g_is_integer T.F_is_integer.kp T.b_is_integer lets0 (pa_cons (pe_ix ix_seq (pv 0) pe_int (fun _ _ => rfl)) pa_nil)))))))) (pss_one (ps_ret pe_bl)) pss_nil)
      (pss_one (ps_ret (pe_and (pe_cmpR op_gt (pe_ix ix_seq (pv 0) pe_int (fun _ _ => rfl)) pe_int (nomark _)) (pe_one (pe_cmpR (op_eqG hr.hu) (pe_callBfun cr_gcd (by rfl) T.m_gcd (pa_cons (pe_ix ix_seq (pv 0) pe_int (fun _ _ => rfl)) (pa_cons (pe_ix ix_seq (pv 0) pe_int (fun _ _ => rfl)) pa_nil))) pe_int (nomark _)))))))), fun b ss R X h hX => ?_⟩
  obtain ⟨x, rfl, hx, q⟩ := h
  cases hx with
  | non => exact ds_seq (ds_if (dt_not (dt_test (de_isT (de_var rfl ⟨_, false, rfl, by decide +kernel, false, rfl, iteT (ds_ret (de_call EL.no (dc_cons (de_var rfl (dc_nil ⟨_, rfl, .non, q⟩)))))⟩)))))
  | bl c => exact ds_seq (ds_if (dt_not (dt_test (de_isT (de_var rfl ⟨_, false, rfl, by decide +kernel, false, rfl, iteT (ds_ret (de_call EL.no (dc_cons (de_var rfl (dc_nil ⟨_, rfl, .bl c, q⟩)))))⟩)))))
  | int c => exact ds_seq (ds_if (dt_not (dt_test (de_isT (de_var rfl ⟨_, false, rfl, by decide +kernel, false, rfl, iteT (ds_ret (de_call EL.no (dc_cons (de_var rfl (dc_nil ⟨_, rfl, .int c, q⟩)))))⟩)))))
  | str c => exact ds_seq (ds_if (dt_not (dt_test (de_isT (de_var rfl ⟨_, false, rfl, by decide +kernel, false, rfl, iteT (ds_ret (de_call EL.no (dc_cons (de_var rfl (dc_nil ⟨_, rfl, .str c, q⟩)))))⟩)))))
  | pair i j =>
    refine ds_seq (ds_if (dt_not (dt_test (de_isT (de_var rfl ⟨_, true, rfl, by decide +kernel, true, rfl, iteF (ds_next ?_)⟩)))))
    refine ds_seq (ds_if (dt_or (dt_test (de_neI (de_len (de_var rfl ⟨2, rfl, de_int ⟨2, 2, rfl, rfl, false, rfl, iteF ?_⟩⟩))))))
    refine dt_or (dt_not (dt_test (de_call EL.no (dc_cons (de_ix (de_var rfl (de_int ⟨0, .int i, rfl, rfl, dc_nil ⟨_, rfl, .int i, true, rfl, iteF ?_⟩⟩)))))))
    refine dt_not (dt_test (de_call EL.no (dc_cons (de_ix (de_var rfl (de_int ⟨1, .int j, rfl, rfl, dc_nil ⟨_, rfl, .int j, true, rfl, iteF (ds_next ?_)⟩⟩))))))
    refine ds_ret (de_andV (de_B0 (de_ix (de_var rfl (de_int ⟨1, .int j, rfl, rfl, de_int ⟨j, 1, rfl, rfl, _, rfl, ?_⟩⟩)))))
    have e : isRt (.tup [.int i, .int j]) = (decide (j > 1) && decide (((Nat.gcd i.natAbs j.natAbs : Nat) : Int) = 1)) := rfl
    rw [e] at q
    refine ite2 (fun z => ?_) (fun z => ?_)
    · rw [z, Bool.true_and] at q
      exact de_eqI (de_gcd (de_ix (de_var rfl (de_int ⟨0, .int i, rfl, rfl, de_ix (de_var rfl (de_int ⟨1, .int j, rfl, rfl, i, j, rfl, rfl, de_int ⟨_, 1, rfl, rfl, q⟩⟩))⟩))))
    · have z' : decide (j > 1) = false := by simpa using z
      rw [z', Bool.false_and] at q
      exact q
def prD : D → D
  | .int i => .tup [.int i, .int 1]
  | x => x
def F_pair : DF := fun ss R _ => ∃ x, ss = [.sh x] ∧ ((∃ i, x = .int i) ∨ ∃ i j, x = .tup [.int i, .int j]) ∧ R (prD x)
theorem ok_pair (T : Tx K mg a) (hS : Sy mg base a) : FnG P w K mg base true 1 a.f_pair a.d_pair (["number"] : List Str) (fun _ => spD K F_pair) := by
  refine fn_data T.F_pair sc_pair (fun ss R X z => by obtain ⟨_, h, _⟩ := z; rw [h] <;> rfl) fun cdv A outer s H E pl hr => ⟨_, (pss_one (ps_ret (pe_ifExp (pt_val (pe_callB (call_isG (pn := (fun _ _ _ => False)) (fun _ _ _ z => z.elim)) (by rfl) T.n_isinstance PyProof.Rows.boot_isinstance (pa_cons (pv 0) (pa_cons (pe_bltn (v := .ty "int") (by rfl) T.n_int PyProof.Rows.boot_int rfl) pa_nil)))) (pe_tup (pa_cons (pv 0) (pa_cons pe_int pa_nil))) (pv 0)))), fun b ss R X h hX => ?_⟩
  obtain ⟨x, rfl, hx, q⟩ := h
  rcases hx with ⟨i, rfl⟩ | ⟨i, j, rfl⟩
  · exact ds_ret (de_ite (dt_test (de_isT (de_var rfl ⟨_, true, rfl, by decide +kernel, true, rfl, iteT (de_tup (da_cons (de_var rfl (da_cons (de_int (da_nil ⟨by simp, q⟩))))))⟩))))
  · exact ds_ret (de_ite (dt_test (de_isT (de_var rfl ⟨_, false, rfl, by decide +kernel, false, rfl, iteF (de_var rfl q)⟩))))
/-- a small prime -/
def spn (p : Int) : Bool := decide (2 ≤ p) && decide (p ≤ 10000) && (List.range 101).all fun d => decide (d < 2) || decide (p < (d : Int) * d) || !decide (p.fmod d = 0)
def isP : D → Bool
  | .int p => spn p
  | _ => false
def F_isP : DF := fun ss R _ => ∃ x, ss = [.sh x] ∧ Vl x ∧ R (.bl (isP x))
theorem ok_is_small_prime (T : Tx K mg a) (hS : Sy mg base a) : FnG P w K mg base true 2 a.f_is_small_prime a.d_is_small_prime (["p"] : List Str) (fun _ => spD K F_isP) := by
  refine fn_data T.F_is_small_prime sc_is_small_prime (fun ss R X z => by obtain ⟨_, h, _⟩ := z; rw [h] <;> rfl) fun cdv A outer s H E pl hr => ⟨_, (pss_cons (ps_if (PW.pt (pw_or (pt_not (pt_val (pe_go (ok_is_integer T hS) (hr.mono (by decide)) (pl := []) (fun _ h => nomatch h) (by rfl) T.g_is_integer T.F_is_integer.kp T.b_is_integer lets0 (pa_cons (pv 0) pa_nil)))) (pw_or1 (pt_not (pt_chain op_le op_le pe_int (pv 0) (pe_globI (by rfl) T.k_MOST_PRIME)))))) (pss_one (ps_ret pe_bl)) pss_nil)
      (pss_cons (ps_set (i := 1) sc_is_small_prime.nd rfl (Or.inl rfl) pe_int)
      (pss_cons (ps_while (passes_of rfl) (pt_cmpR op_le (pe_op op_mulG (pv 1) (pv 1)) (pv 0) (nomark _)) (pss_cons (ps_if (pt_cmpR (op_eqG hr.hu) (pe_op op_modN (pv 0) (pv 1)) pe_int (nomark _)) (pss_one (ps_ret pe_bl)) pss_nil)
      (pss_one (ps_aug (i := 1) sc_is_small_prime.nd rfl (Or.inl rfl) pe_int ip_add))))
      (pss_one (ps_ret pe_bl))))), fun b ss R X h hX => ?_⟩
  obtain ⟨x, rfl, hx, q⟩ := h
  have no : isI x = false → R (.bl false) := fun e => by
    have : isP x = false := by cases hx <;> first | rfl | cases e
    rw [this] at q
    exact q
  cases hx with
  | non => exact ds_seq (ds_if (dt_or (dt_not (dt_test (de_call EL.no (dc_cons (de_var rfl (dc_nil ⟨_, rfl, .non, false, rfl, iteT (iteT (ds_ret (de_bl (no rfl))))⟩))))))))
  | bl c => exact ds_seq (ds_if (dt_or (dt_not (dt_test (de_call EL.no (dc_cons (de_var rfl (dc_nil ⟨_, rfl, .bl c, false, rfl, iteT (iteT (ds_ret (de_bl (no rfl))))⟩))))))))
  | str c => exact ds_seq (ds_if (dt_or (dt_not (dt_test (de_call EL.no (dc_cons (de_var rfl (dc_nil ⟨_, rfl, .str c, false, rfl, iteT (iteT (ds_ret (de_bl (no rfl))))⟩))))))))
  | pair i j => exact ds_seq (ds_if (dt_or (dt_not (dt_test (de_call EL.no (dc_cons (de_var rfl (dc_nil ⟨_, rfl, .pair i j, false, rfl, iteT (iteT (ds_ret (de_bl (no rfl))))⟩))))))))
  | int p =>
    have q : R (.bl (spn p)) := q
    refine ds_seq (ds_if (dt_or (dt_not (dt_test (de_call EL.no (dc_cons (de_var rfl (dc_nil ⟨_, rfl, .int p, true, rfl, iteF ?_⟩))))))))
    refine dt_not (dt_test (de_chainI (de_int (de_var rfl ⟨2, p, rfl, rfl, ?_⟩))))
    refine ite2 (fun z2 => ?_) (fun z2 => ?_)
    · refine de_int ⟨10000, rfl, _, rfl, ?_⟩
      refine ite2 (fun z => ?_) (fun z => ?_)
      · have z' : ¬ p ≤ 10000 := by simpa using z
        have e : spn p = false := by unfold spn; simp [z']
        rw [e] at q
        exact ds_ret (de_bl q)
      · have hi : p ≤ 10000 := by simpa using z
        have lo : 2 ≤ p := by simpa using z2
        refine ds_next (ds_seq (ds_asg (de_int ?_)))
        refine ds_seq (ds_while (fun m ρ => ∃ d : Nat, ρ = [.sh (.int p), .sh (.int d)] ∧ 2 ≤ d ∧ d ≤ 101 ∧ m = 101 - d ∧ ∀ e : Nat, e < d → 2 ≤ e → ¬ p.fmod e = 0) 99 ⟨2, rfl, by decide, by decide, rfl, fun e h1 h2 => by omega⟩ (fun m ρ h => ?_))
        obtain ⟨d, rfl, d2, d101, rfl, hd⟩ := h
        refine dt_test (de_B0 (de_II (de_var rfl (de_var rfl ⟨d, d, rfl, rfl, mul_small (Or.inl ⟨by omega, by omega⟩), de_var rfl ⟨_, p, rfl, rfl, _, rfl, ?_⟩⟩))))
        refine ite2 (fun z => ?_) (fun z => ?_)
        · have hdd : (d : Int) * d ≤ p := by simpa using z
          have d100 : d ≤ 100 := by
            by_cases y : d ≤ 100
            · exact y
            · have : d = 101 := by omega
              subst this
              omega
          refine ds_seq (ds_if (dt_test (de_eqI (de_II (de_var rfl (de_var rfl ⟨p, d, rfl, rfl, by omega, de_int ⟨_, 0, rfl, rfl, _, rfl, ?_⟩⟩))))))
          refine ite2 (fun y => ?_) (fun y => ?_)
          · have e : spn p = false := by
              unfold spn
              rw [Bool.and_eq_false_iff]
              right
              rw [List.all_eq_false]
              refine ⟨d, List.mem_range.mpr (by omega), ?_⟩
              have y' : p.fmod d = 0 := by simpa using y
              have h1 : ¬ d < 2 := by omega
              have h2 : ¬ p < (d : Int) * d := by omega
              simp [y', h1, h2]
            rw [e] at q
            exact ds_ret (de_bl q)
          · have y' : ¬ p.fmod d = 0 := by simpa using y
            refine ds_next (ds_aug rfl (de_int ⟨1, rfl, 101 - (d + 1), by omega, d + 1, rfl, by omega, by omega, rfl, fun e h1 h2 => ?_⟩))
            by_cases w : e = d
            · subst w; exact y'
            · exact hd e (by omega) h2
        · have hdd : p < (d : Int) * d := by simpa using z
          have e : spn p = true := by
            unfold spn
            rw [Bool.and_eq_true, Bool.and_eq_true, List.all_eq_true]
            refine ⟨⟨by simpa using lo, by simpa using hi⟩, fun e he => ?_⟩
            by_cases h1 : e < 2
            · simp [h1]
            · by_cases h2 : e < d
              · have := hd e h2 (by omega)
                simp [this]
              · have h3 : (d : Int) * d ≤ (e : Int) * e := by
                  have : d * d ≤ e * e := Nat.mul_le_mul (by omega) (by omega)
                  exact_mod_cast this
                have h4 : p < (e : Int) * e := by omega
                simp [h4]
          rw [e] at q
          exact ds_ret (de_bl q)
    · have z' : ¬ 2 ≤ p := by simpa using z2
      have e : spn p = false := by unfold spn; simp [z']
      rw [e] at q
      exact ⟨false, rfl, iteT (ds_ret (de_bl q))⟩
end
end Law

set_option Elab.async false
set_option linter.all false
set_option maxRecDepth 100000
set_option maxHeartbeats 4000000
namespace Law
open PySem PySem.Spec PyProof.Rows L2 G
section
variable {P : Program} {w : World} {K : PySem.W.Frag} {mg : Str → Option Value} {base : Heap} {a : Ad}
def F_need (a : Ad) : DF := fun ss R X => ∃ x, ss = [.sh x] ∧ Vl x ∧ if isP x = true then R .non else X a.c_BadNumber [("number", x), ("what", .str "p")]
theorem ok_need_prime (T : Tx K mg a) (hS : Sy mg base a) : FnG P w K mg base true 3 a.f_need_prime a.d_need_prime (["p"] : List Str) (fun _ => spD K (F_need a)) := by
  refine fn_data T.F_need_prime sc_need_prime (fun ss R X z => by obtain ⟨_, h, _⟩ := z; rw [h] <;> rfl) fun cdv A outer s H E pl hr => ⟨_, (pss_one (ps_if (pt_not (pt_val (pe_go (ok_is_small_prime T hS) (hr.mono (by decide)) (pl := []) (fun _ h => nomatch h) (by rfl) T.g_is_small_prime T.F_is_small_prime.kp T.b_is_small_prime lets0 (pa_cons (pv 0) pa_nil)))) (pss_one (ps_raiseN rfl (takes_of rfl rfl rfl rfl) (pmk_oex (dvs := []) (ds := []) T.O_BadNumber T.i_BadNumber T.ti_BadNumber (in_BadNumber T) hr.room T.bi_BadNumber .nil pass0 (by rfl) T.g_BadNumber (pa_cons pe_str (pa_cons (pv 0) pa_nil))))) pss_nil)), fun b ss R X h hX => ?_⟩
  obtain ⟨x, rfl, hx, q⟩ := h
  refine ds_if (dt_not (dt_test (de_call EL.no (dc_cons (de_var rfl (dc_nil ⟨x, rfl, hx, _, rfl, ?_⟩))))))
  cases e : isP x with
  | true =>
    rw [e, if_pos rfl] at q
    exact iteF (ds_next q)
  | false =>
    rw [e, if_neg (by decide)] at q
    exact iteT (ds_raise (hX _) (da_cons (de_str (da_cons (de_var rfl (da_nil ⟨rfl, by decide, q⟩))))))
theorem fdiv_exact {n p : Int} (hp : 0 < p) (h : n.fmod p = 0) : p * n.fdiv p = n := by
  have := Int.mul_fdiv_add_fmod n p
  rw [h] at this
  omega
def F_times : DF := fun ss R _ => ∃ n p : Int, ss = [.sh (.int n), .sh (.int p)] ∧ n ≠ 0 ∧ 2 ≤ p ∧ p ≤ 10000 ∧ ∀ (c : Nat) (m : Int), n = m * p ^ c → ¬ m.fmod p = 0 → R (.int c)
theorem times_step {n p k : Int} {c : Nat} (hp : 2 ≤ p) (hk : k ≠ 0) (hn : n = k * p ^ c) (h : k.fmod p = 0) : k.fdiv p ≠ 0 ∧ (k.fdiv p).natAbs < k.natAbs ∧ n = k.fdiv p * p ^ (c + 1) := by
  have e := fdiv_exact (by omega) h
  have h0 : k.fdiv p ≠ 0 := fun z => hk (by rw [← e, z, Int.mul_zero])
  refine ⟨h0, ?_, ?_⟩
  · have e2 : k.natAbs = p.natAbs * (k.fdiv p).natAbs := by rw [← Int.natAbs_mul, e]
    rw [e2]
    have h1 : 0 < (k.fdiv p).natAbs := by omega
    have h2 : 2 ≤ p.natAbs := by omega
    calc (k.fdiv p).natAbs < 2 * (k.fdiv p).natAbs := by omega
      _ ≤ p.natAbs * (k.fdiv p).natAbs := Nat.mul_le_mul_right _ h2
  · rw [hn, Int.pow_succ, ← e]
    rw [Int.mul_comm p (k.fdiv p), Int.mul_assoc, Int.mul_comm p (p ^ c)]
    congr 1
    rw [Int.mul_comm (k.fdiv p) p, e]
theorem log_le {p : Int} (h0 : 2 ≤ p) (h : p ≤ 10000) : p.natAbs.log2 < 9000 := draw_ok (by omega) (by omega)
theorem ok_times_in (T : Tx K mg a) (hS : Sy mg base a) : FnG P w K mg base true 1 a.f_times_in a.d_times_in (["number", "p"] : List Str) (fun _ => spD K F_times) := by
  refine fn_data T.F_times_in sc_times_in (fun ss R X z => by obtain ⟨_, _, h, _⟩ := z; rw [h] <;> rfl) fun cdv A outer s H E pl hr => ⟨_, (pss_cons (ps_set (i := 2) sc_times_in.nd rfl (Or.inl rfl) pe_int)
      (pss_cons (ps_while (passes_of rfl) (pt_cmpR (op_eqG hr.hu) (pe_op op_modN (pv 0) (pv 1)) pe_int (nomark _)) (pss_one (ps_par (i := 0) (j := 2) rfl sc_times_in.nd rfl rfl (by decide) rfl rfl (pa_cons (pe_op op_fdivG (pv 0) (pv 1)) (pa_cons (pe_op op_addG (pv 2) pe_int) pa_nil)) rfl)))
      (pss_one (ps_ret (pv 2))))), fun b ss R X h hX => ?_⟩
  obtain ⟨n, p, rfl, hn, h2, h3, q⟩ := h
  refine ds_seq (ds_asg (de_int ?_))
  refine ds_seq (ds_while (fun m ρ => ∃ (k : Int) (c : Nat), ρ = [.sh (.int k), .sh (.int p), .sh (.int c)] ∧ k ≠ 0 ∧ n = k * p ^ c ∧ m = k.natAbs) n.natAbs ⟨n, 0, rfl, hn, by simp, rfl⟩ (fun m ρ h => ?_))
  obtain ⟨k, c, rfl, hk, e, rfl⟩ := h
  refine dt_test (de_eqI (de_II (de_var rfl (de_var rfl ⟨k, p, rfl, rfl, by omega, de_int ⟨_, 0, rfl, rfl, _, rfl, ?_⟩⟩))))
  refine ite2 (fun z => ?_) (fun z => ?_)
  · have z' : k.fmod p = 0 := by simpa using z
    obtain ⟨s1, s2, s3⟩ := times_step h2 hk e z'
    refine ds_par (da_cons (de_II (de_var rfl (de_var rfl ⟨k, p, rfl, rfl, ⟨by omega, log_le h2 h3⟩, da_cons (de_addI (de_var rfl (de_int ⟨c, 1, rfl, rfl, da_nil ⟨_, _, rfl, _, s2, _, c + 1, rfl, s1, s3, rfl⟩⟩)))⟩))))
  · exact ds_ret (de_var rfl (q c k e (by simpa using z)))
theorem ok__law_times_in (T : Tx K mg a) (hS : Sy mg base a) : FnG P w K mg base true 1 a.f__law_times_in a.d__law_times_in (["number", "p"] : List Str) (fun _ => spD K F_times) := by
  refine fn_data T.F__law_times_in sc__law_times_in (fun ss R X z => by obtain ⟨_, _, h, _⟩ := z; rw [h] <;> rfl) fun cdv A outer s H E pl hr => ⟨_, (pss_cons (ps_set (i := 2) sc__law_times_in.nd rfl (Or.inl rfl) pe_int)
      (pss_cons (ps_while (passes_of rfl) (pt_cmpR (op_eqG hr.hu) (pe_op op_modN (pe_callTy call_intV (by rfl) T.n_int PyProof.Rows.boot_int (pa_cons (pv 0) pa_nil)) (pv 1)) pe_int (nomark _)) (pss_one (ps_par (i := 0) (j := 2) rfl sc__law_times_in.nd rfl rfl (by decide) rfl rfl (pa_cons (pe_op op_fdivG (pv 0) (pv 1)) (pa_cons (pe_op op_addG (pv 2) pe_int) pa_nil)) rfl)))
      (pss_one (ps_ret (pv 2))))), fun b ss R X h hX => ?_⟩
  obtain ⟨n, p, rfl, hn, h2, h3, q⟩ := h
  refine ds_seq (ds_asg (de_int ?_))
  refine ds_seq (ds_while (fun m ρ => ∃ (k : Int) (c : Nat), ρ = [.sh (.int k), .sh (.int p), .sh (.int c)] ∧ k ≠ 0 ∧ n = k * p ^ c ∧ m = k.natAbs) n.natAbs ⟨n, 0, rfl, hn, by simp, rfl⟩ (fun m ρ h => ?_))
  obtain ⟨k, c, rfl, hk, e, rfl⟩ := h
  refine dt_test (de_eqI (de_II (de_intc (de_var rfl (Or.inl ⟨k, rfl, de_var rfl ⟨k, p, rfl, rfl, by omega, de_int ⟨_, 0, rfl, rfl, _, rfl, ?_⟩⟩⟩)))))
  refine ite2 (fun z => ?_) (fun z => ?_)
  · have z' : k.fmod p = 0 := by simpa using z
    obtain ⟨s1, s2, s3⟩ := times_step h2 hk e z'
    refine ds_par (da_cons (de_II (de_var rfl (de_var rfl ⟨k, p, rfl, rfl, ⟨by omega, log_le h2 h3⟩, da_cons (de_addI (de_var rfl (de_int ⟨c, 1, rfl, rfl, da_nil ⟨_, _, rfl, _, s2, _, c + 1, rfl, s1, s3, rfl⟩⟩)))⟩))))
  · exact ds_ret (de_var rfl (q c k e (by simpa using z)))
def F_pow : DF := fun ss R _ => ∃ (p : Int) (t : Nat), ss = [.sh (.int p), .sh (.int t)] ∧ 2 ≤ p ∧ p ≤ 10000 ∧ t ≤ 100 ∧ R (.int (p ^ t))
theorem ok_power_of (T : Tx K mg a) (hS : Sy mg base a) : FnG P w K mg base true 1 a.f_power_of a.d_power_of (["p", "times"] : List Str) (fun _ => spD K F_pow) := by
  refine fn_data T.F_power_of sc_power_of (fun ss R X z => by obtain ⟨_, _, h, _⟩ := z; rw [h] <;> rfl) fun cdv A outer s H E pl hr => ⟨_, (pss_cons (ps_set (i := 2) sc_power_of.nd rfl (Or.inl rfl) pe_int)
      (pss_cons (ps_for (passes_of rfl) rfl (pi_range1 rfl T.n_range (pa_cons (pv 1) pa_nil)) (pg_name (i := 3) sc_power_of.nd rfl (Or.inl rfl)) (pss_one (ps_aug (i := 2) sc_power_of.nd rfl (Or.inl rfl) (pv 0) ip_mulG)))
      (pss_one (ps_ret (pv 2))))), fun b ss R X h hX => ?_⟩
  obtain ⟨p, t, rfl, h2, h3, ht, q⟩ := h
  refine ds_seq (ds_asg (de_int ?_))
  refine ds_seq (ds_forR1 (da_cons (de_var rfl (da_nil ⟨t, rfl, by omega, by omega, fun i ρ => ∃ s, ρ = [.sh (.int p), .sh (.int t), .sh (.int (p ^ i)), s], ⟨.no, by simp [nm_power_of, nm__law_power_of]⟩, fun i ρ hi h => ?_, fun ρ h => ?_⟩))))
  · obtain ⟨s, rfl⟩ := h
    refine dg_name (ds_augM rfl (de_var rfl ⟨p, rfl, mul_small (Or.inr ⟨by omega, by omega⟩), ⟨_, by rw [Int.pow_succ] <;> rfl⟩⟩))
  · obtain ⟨s, rfl⟩ := h
    exact ds_ret (de_var rfl q)
theorem ok__law_power_of (T : Tx K mg a) (hS : Sy mg base a) : FnG P w K mg base true 1 a.f__law_power_of a.d__law_power_of (["p", "k"] : List Str) (fun _ => spD K F_pow) := by
  refine fn_data T.F__law_power_of sc__law_power_of (fun ss R X z => by obtain ⟨_, _, h, _⟩ := z; rw [h] <;> rfl) fun cdv A outer s H E pl hr => ⟨_, (pss_cons (ps_set (i := 2) sc__law_power_of.nd rfl (Or.inl rfl) pe_int)
      (pss_cons (ps_for (passes_of rfl) rfl (pi_range1 rfl T.n_range (pa_cons (pv 1) pa_nil)) (pg_name (i := 3) sc__law_power_of.nd rfl (Or.inl rfl)) (pss_one (ps_set (i := 2) sc__law_power_of.nd rfl (Or.inl rfl) (pe_op op_mulG (pv 2) (pv 0)))))
      (pss_one (ps_ret (pv 2))))), fun b ss R X h hX => ?_⟩
  obtain ⟨p, t, rfl, h2, h3, ht, q⟩ := h
  refine ds_seq (ds_asg (de_int ?_))
  refine ds_seq (ds_forR1 (da_cons (de_var rfl (da_nil ⟨t, rfl, by omega, by omega, fun i ρ => ∃ s, ρ = [.sh (.int p), .sh (.int t), .sh (.int (p ^ i)), s], ⟨.no, by simp [nm_power_of, nm__law_power_of]⟩, fun i ρ hi h => ?_, fun ρ h => ?_⟩))))
  · obtain ⟨s, rfl⟩ := h
    refine dg_name (ds_asg (de_II (de_var rfl (de_var rfl ⟨_, p, rfl, rfl, mul_small (Or.inr ⟨by omega, by omega⟩), ⟨_, by rw [Int.pow_succ] <;> rfl⟩⟩))))
  · obtain ⟨s, rfl⟩ := h
    exact ds_ret (de_var rfl q)
end
end Law

set_option Elab.async false
set_option linter.all false
set_option maxRecDepth 100000
set_option maxHeartbeats 4000000
namespace Law
open PySem PySem.Spec PyProof.Rows L2 G
section
variable {P : Program} {w : World} {K : PySem.W.Frag} {mg : Str → Option Value} {base : Heap} {a : Ad}
/-- an int that is not 0 -/
def isN0 : D → Bool
  | .int i => !decide (i = 0)
  | _ => false
def F_pin (a : Ad) : DF := fun ss R X => ∃ x y, ss = [.sh x, .sh y] ∧ Vl x ∧ Vl y ∧
  if isN0 x = true then (if isP y = true then ∃ n p : Int, x = .int n ∧ y = .int p ∧ ∀ (c : Nat) (m : Int), n = m * p ^ c → ¬ m.fmod p = 0 → R (.int c) else X a.c_BadNumber [("number", y), ("what", .str "p")])
  else X a.c_BadNumber [("number", x), ("what", .str "number")]
theorem spn_lo {p : Int} (h : spn p = true) : 2 ≤ p ∧ p ≤ 10000 := by
  unfold spn at h
  rw [Bool.and_eq_true, Bool.and_eq_true] at h
  exact ⟨by simpa using h.1.1, by simpa using h.1.2⟩
theorem ok_power_in (T : Tx K mg a) (hS : Sy mg base a) : FnG P w K mg base true 4 a.f_power_in a.d_power_in (["number", "p"] : List Str) (fun _ => spD K (F_pin a)) := by
  refine fn_data T.F_power_in sc_power_in (fun ss R X z => by obtain ⟨_, _, h, _⟩ := z; rw [h] <;> rfl) fun cdv A outer s H E pl hr => ⟨_, (pss_cons (ps_if (PW.pt (pw_or (pt_not (pt_val (pe_go (ok_is_integer T hS) (hr.mono (by decide)) (pl := []) (fun _ h => nomatch h) (by rfl) T.g_is_integer T.F_is_integer.kp T.b_is_integer (passAt (takes_of rfl rfl rfl rfl)) (pa_cons (pv 0) pa_nil)))) (pw_or1 (pt_cmpR (op_eqG hr.hu) (pv 0) pe_int (nomark _))))) (pss_one (ps_raiseN rfl (takes_of rfl rfl rfl rfl) (pmk_oex (dvs := []) (ds := []) T.O_BadNumber T.i_BadNumber T.ti_BadNumber (in_BadNumber T) (Rm.room (k := 2) (hr.mono (by decide))) T.bi_BadNumber .nil pass0 (by rfl) T.g_BadNumber (pa_cons pe_str (pa_cons (pv 0) pa_nil))))) pss_nil)
      (pss_cons (ps_expr (pe_go (ok_need_prime T hS) (hr.mono (by decide)) (pl := []) (fun _ h => nomatch h) (by rfl) T.g_need_prime T.F_need_prime.kp T.b_need_prime (passAt (takes_of rfl rfl rfl rfl)) (pa_cons (pv 1) pa_nil)))
      (pss_one (ps_ret (pe_go (ok_times_in T hS) (hr.mono (by decide)) (pl := []) (fun _ h => nomatch h) (by rfl) T.g_times_in T.F_times_in.kp T.b_times_in (passAt (takes_of rfl rfl rfl rfl)) (pa_cons (pv 0) (pa_cons (pv 1) pa_nil))))))), fun b ss R X h hX => ?_⟩
  obtain ⟨x, y, rfl, hx, hy, q⟩ := h
  have bad : isN0 x = false → X a.c_BadNumber [("number", x), ("what", .str "number")] := fun e => by
    rw [e, if_neg (by decide)] at q
    exact q
  have hE : ∀ {ρ : List Sl}, EL K b ρ (fun _ => E) (fun _ _ => False) := EL.no
  have ra : ∀ {ρ : List Sl} {nx bk ct : List Sl → Prop} {rt : D → Prop}, ρ[0]? = some (.sh x) → isN0 x = false → DS K b ρ (tRaise (tMkO a.c_BadNumber (spInit a.c_BadNumber ["what", "number"]) [] (tCons (tC (.str "number")) (tCons (tVar 0) tNil))) (fun cls d _ H => E cls d H)) nx rt bk ct := fun h0 e =>
    ds_raise (hX _) (da_cons (de_str (da_cons (de_var h0 (da_nil ⟨rfl, by decide, bad e⟩)))))
  cases hx with
  | non => exact ds_seq (ds_if (dt_or (dt_not (dt_test (de_call EL.no (dc_cons (de_var rfl (dc_nil ⟨_, rfl, .non, false, rfl, iteT (iteT (ra rfl rfl))⟩))))))))
  | bl c => exact ds_seq (ds_if (dt_or (dt_not (dt_test (de_call EL.no (dc_cons (de_var rfl (dc_nil ⟨_, rfl, .bl c, false, rfl, iteT (iteT (ra rfl rfl))⟩))))))))
  | str c => exact ds_seq (ds_if (dt_or (dt_not (dt_test (de_call EL.no (dc_cons (de_var rfl (dc_nil ⟨_, rfl, .str c, false, rfl, iteT (iteT (ra rfl rfl))⟩))))))))
  | pair i j => exact ds_seq (ds_if (dt_or (dt_not (dt_test (de_call EL.no (dc_cons (de_var rfl (dc_nil ⟨_, rfl, .pair i j, false, rfl, iteT (iteT (ra rfl rfl))⟩))))))))
  | int n =>
    refine ds_seq (ds_if (dt_or (dt_not (dt_test (de_call EL.no (dc_cons (de_var rfl (dc_nil ⟨_, rfl, .int n, true, rfl, iteF ?_⟩))))))))
    refine dt_test (de_eqI (de_var rfl (de_int ⟨n, 0, rfl, rfl, _, rfl, ite2 (fun z => ?_) (fun z => ?_)⟩)))
    · have z' : n = 0 := by simpa using z
      exact ra rfl (by rw [z'] <;> rfl)
    · have n0 : n ≠ 0 := by simpa using z
      have e : isN0 (.int n) = true := by simp [isN0, n0]
      rw [e, if_pos rfl] at q
      refine ds_next (ds_seq (ds_drop (de_call (fun Hf H σ fr => hX _ Hf H σ fr) (dc_cons (de_var rfl (dc_nil ⟨y, rfl, hy, ?_⟩))))))
      cases hp : isP y with
      | false =>
        rw [hp, if_neg (by decide)] at q
        exact q
      | true =>
        rw [hp, if_pos rfl] at q
        obtain ⟨n', p, e1, rfl, q⟩ := q
        cases e1
        obtain ⟨l1, l2⟩ := spn_lo hp
        exact ds_ret (de_call EL.no (dc_cons (de_var rfl (dc_cons (de_var rfl (dc_nil ⟨n, p, rfl, n0, l1, l2, q⟩))))))
def F_whole : DF := fun ss R _ => ∃ (x : D) (t b p : Int), ss = [.sh x, .sh (.int p)] ∧ prD x = .tup [.int t, .int b] ∧ ((∃ i, x = .int i) ∨ ∃ i j, x = .tup [.int i, .int j]) ∧ p ≠ 0 ∧ R (.bl (!decide (b.fmod p = 0)))
theorem ok_is_whole_by (T : Tx K mg a) (hS : Sy mg base a) : FnG P w K mg base true 2 a.f_is_whole_by a.d_is_whole_by (["ratio", "p"] : List Str) (fun _ => spD K F_whole) := by
  refine fn_data T.F_is_whole_by sc_is_whole_by (fun ss R X z => by obtain ⟨_, _, _, _, h, _⟩ := z; rw [h] <;> rfl) fun cdv A outer s H E pl hr => ⟨_, (pss_one (ps_ret (pe_cmpR (op_neG hr.hu) (pe_op op_modN (pe_ix ix_seq (pe_go (ok_pair T hS) (hr.mono (by decide)) (pl := []) (fun _ h => nomatch h) (by rfl) T.g_pair T.F_pair.kp T.b_pair lets0 (pa_cons (pv 0) pa_nil)) pe_int (fun _ _ => rfl)) (pv 1)) pe_int (nomark _)))), fun b ss R X h hX => ?_⟩
  obtain ⟨x, t, v, p, rfl, e, hx, hp, q⟩ := h
  refine ds_ret (de_neI (de_II (de_ix (de_call EL.no (dc_cons (de_var rfl (dc_nil ⟨x, rfl, hx, ?_⟩)))))))
  rw [e]
  exact de_int ⟨1, .int v, rfl, rfl, de_var rfl ⟨v, p, rfl, rfl, hp, de_int ⟨_, 0, rfl, rfl, q⟩⟩⟩
/-- what the loop of back_by keeps -/
structure BkI (n q l r f s : Int) : Prop where
  l0 : 0 < l
  r0 : 0 ≤ r
  rl : r < l
  lq : l ≤ q
  co : ∀ d : Int, d ∣ l → d ∣ r → d ∣ 1
  ef : q ∣ n * f - l
  es : q ∣ n * s - r
  bd : ∃ A B : Int, -A ≤ f ∧ f ≤ A ∧ -B ≤ s ∧ s ≤ B ∧ 0 ≤ A ∧ 0 ≤ B ∧ A * r + B * l = q
theorem BkI.sz {n q l r f s : Int} (h : BkI n q l r f s) : -q ≤ s ∧ s ≤ q := by
  obtain ⟨A, B, h1, h2, h3, h4, h5, h6, h7⟩ := h.bd
  have a1 : B ≤ B * l := by
    have := Int.mul_le_mul_of_nonneg_left (show 1 ≤ l by have := h.l0; omega) h6
    omega
  have a2 : 0 ≤ A * r := Int.mul_nonneg h5 h.r0
  omega
theorem BkI.step {n q l r f s : Int} (h : BkI n q l r f s) (hr : r ≠ 0) : BkI n q r (l - l.fdiv r * r) s (f - l.fdiv r * s) := by
  have r1 : 0 < r := by have := h.r0; omega
  have em : l - l.fdiv r * r = l.fmod r := by
    have := Int.mul_fdiv_add_fmod l r
    rw [Int.mul_comm] at this
    omega
  have p0 := fdiv_lo (Int.le_of_lt h.l0) r1
  have m0 := fmod_lo l r1
  have m1 := fmod_hi l r1
  obtain ⟨A, B, h1, h2, h3, h4, h5, h6, h7⟩ := h.bd
  refine { l0 := r1, r0 := by rw [em]; exact m0, rl := by rw [em]; exact m1, lq := by have := h.rl; have := h.lq; omega, co := fun d d1 d2 => ?_, ef := h.es, es := ?_, bd := ?_ }
  · refine h.co d ?_ d1
    have : l = (l - l.fdiv r * r) + l.fdiv r * r := by omega
    rw [this]
    exact Int.dvd_add d2 (Int.dvd_mul_of_dvd_right d1)
  · have : n * (f - l.fdiv r * s) - (l - l.fdiv r * r) = (n * f - l) - l.fdiv r * (n * s - r) := by
      rw [Int.mul_sub, Int.mul_sub]
      have : n * (l.fdiv r * s) = l.fdiv r * (n * s) := by rw [← Int.mul_assoc, Int.mul_comm n, Int.mul_assoc]
      omega
    rw [this]
    exact Int.dvd_sub h.ef (Int.dvd_mul_of_dvd_right h.es)
  · refine ⟨B, A + l.fdiv r * B, h3, h4, ?_, ?_, h6, Int.add_nonneg h5 (Int.mul_nonneg p0 h6), ?_⟩
    · have := Int.mul_le_mul_of_nonneg_left h4 p0
      omega
    · have := Int.mul_le_mul_of_nonneg_left h3 p0
      rw [Int.mul_neg] at this
      omega
    · rw [Int.mul_sub, Int.add_mul]
      have : B * (l.fdiv r * r) = l.fdiv r * B * r := by rw [← Int.mul_assoc, Int.mul_comm B]
      omega
def F_back : DF := fun ss R _ => ∃ n q : Int, ss = [.sh (.int n), .sh (.int q)] ∧ 1 < q ∧ q < 2 ^ 2000 ∧ (∀ d : Int, d ∣ n → d ∣ q → d ∣ 1) ∧ ∀ r : Int, 0 ≤ r → r < q → q ∣ n * r - 1 → R (.int r)
theorem log_q {q : Int} (h0 : 0 < q) (h : q < 2 ^ 2000) : q.natAbs.log2 < 2000 := by
  refine (Nat.log2_lt (by omega)).mpr ?_
  have : ((q.natAbs : Nat) : Int) < ((2 ^ 2000 : Nat) : Int) := by
    rw [Int.natAbs_of_nonneg (Int.le_of_lt h0)]
    exact_mod_cast h
  exact_mod_cast this
theorem log_abs {x q : Int} (h1 : -q ≤ x) (h2 : x ≤ q) (hq : q.natAbs.log2 < 2000) (h0 : 0 < q) : x.natAbs.log2 < 2000 := by
  by_cases z : x = 0
  · subst z; decide
  · have : q.natAbs < 2 ^ 2000 := (Nat.log2_lt (by omega)).mp hq
    exact (Nat.log2_lt (by omega)).mpr (by omega)
theorem ok_back_by (T : Tx K mg a) (hS : Sy mg base a) : FnG P w K mg base true 1 a.f_back_by a.d_back_by (["number", "q"] : List Str) (fun _ => spD K F_back) := by
  refine fn_data T.F_back_by sc_back_by (fun ss R X z => by obtain ⟨_, _, h, _⟩ := z; rw [h] <;> rfl) fun cdv A outer s H E pl hr => ⟨_, (pss_cons (ps_asg (pe_tup (pa_cons (pv 1) (pa_cons (pe_op op_modN (pv 0) (pv 1)) (pa_cons pe_int (pa_cons pe_int pa_nil))))) (pg_tup rfl (pgs_cons (pg_name (i := 2) sc_back_by.nd rfl (Or.inl rfl)) (pgs_cons (pg_name (i := 3) sc_back_by.nd rfl (Or.inl rfl)) (pgs_cons (pg_name (i := 4) sc_back_by.nd rfl (Or.inl rfl)) (pgs_cons (pg_name (i := 5) sc_back_by.nd rfl (Or.inl rfl)) pgs_nil))))))
      (pss_cons (ps_while (passes_of rfl) (pt_cmpR (op_neG hr.hu) (pv 3) pe_int (nomark _)) (pss_cons (ps_set (i := 6) sc_back_by.nd rfl (Or.inl rfl) (pe_op op_fdivG (pv 2) (pv 3)))
      (pss_cons (ps_par (i := 2) (j := 3) rfl sc_back_by.nd rfl rfl (by decide) rfl rfl (pa_cons (pv 3) (pa_cons (pe_op op_sub (pv 2) (pe_op op_mulG (pv 6) (pv 3))) pa_nil)) rfl)
      (pss_one (ps_par (i := 4) (j := 5) rfl sc_back_by.nd rfl rfl (by decide) rfl rfl (pa_cons (pv 5) (pa_cons (pe_op op_sub (pv 4) (pe_op op_mulG (pv 6) (pv 5))) pa_nil)) rfl)))))
      (pss_one (ps_ret (pe_op op_modN (pv 4) (pv 1)))))), fun b ss R X h hX => ?_⟩
  obtain ⟨n, m, rfl, h1, h2, hco, q⟩ := h
  have hlog := log_q (by omega) h2
  refine ds_seq (ds_asgG (de_tup (da_cons (de_var rfl (da_cons (de_II (de_var rfl (de_var rfl ⟨n, m, rfl, rfl, by omega, ?_⟩))))))))
  refine da_cons (de_int (da_cons (de_int (da_nil ⟨by simp, dg_tup rfl rfl (dgs_cons (dg_name (dgs_cons (dg_name (dgs_cons (dg_name (dgs_cons (dg_name (dgs_nil ?_)))))))))⟩))))
  refine ds_seq (ds_while (fun k ρ => ∃ (l r f s : Int) (o : Sl), ρ = [.sh (.int n), .sh (.int m), .sh (.int l), .sh (.int r), .sh (.int f), .sh (.int s), o] ∧ BkI n m l r f s ∧ k = r.natAbs) (n.fmod m).natAbs ⟨m, n.fmod m, 0, 1, .no, rfl, ?_, rfl⟩ (fun k ρ h => ?_))
  · have m0 := fmod_lo n (show 0 < m by omega)
    have m1 := fmod_hi n (show 0 < m by omega)
    refine { l0 := by omega, r0 := m0, rl := m1, lq := by omega, co := fun d d1 d2 => hco d ?_ d1, ef := ⟨-1, by omega⟩, es := ?_, bd := ⟨0, 1, by decide, by decide, by decide, by decide, by decide, by decide, by omega⟩ }
    · have e := Int.mul_fdiv_add_fmod n m
      rw [← e]
      exact Int.dvd_add (Int.dvd_mul_of_dvd_left d1) d2
    · have e := Int.mul_fdiv_add_fmod n m
      exact ⟨n.fdiv m, by omega⟩
  · obtain ⟨l, r, f, s, o, rfl, I, rfl⟩ := h
    refine dt_test (de_neI (de_var rfl (de_int ⟨r, 0, rfl, rfl, _, rfl, ?_⟩)))
    have l0 := I.l0
    have lq := I.lq
    have lr := I.rl
    have r0 := I.r0
    refine ite2 (fun z => ?_) (fun z => ?_)
    · have z' : r ≠ 0 := by simpa using z
      have I2 := I.step z'
      have c1 : CDivA l r := ⟨z', Nat.lt_trans (log_abs (by omega) (by omega) hlog (by omega)) (by decide)⟩
      have p1 : (l.fdiv r).natAbs.log2 < 2000 := log_abs (q := m) (by have := fdiv_lo (Int.le_of_lt l0) (show 0 < r by omega); omega) (by have := fdiv_abs (Int.le_of_lt l0) (show 0 < r by omega); have := fdiv_lo (Int.le_of_lt l0) (show 0 < r by omega); omega) hlog (by omega)
      have p2 : r.natAbs.log2 < 2000 := log_abs (q := m) (by omega) (by omega) hlog (by omega)
      have p3 : s.natAbs.log2 < 2000 := log_abs I.sz.1 I.sz.2 hlog (by omega)
      refine ds_seq (ds_asg (de_II (de_var rfl (de_var rfl ⟨l, r, rfl, rfl, c1, ?_⟩))))
      refine ds_seq (ds_par (da_cons (de_var rfl (da_cons (de_I0 (de_var rfl (de_II (de_var rfl (de_var rfl ⟨l.fdiv r, r, rfl, rfl, mul_wide (show (l.fdiv r).natAbs.log2 + r.natAbs.log2 < 1000000 by omega), l, _, rfl, rfl, da_nil ⟨_, _, rfl, ?_⟩⟩)))))))))
      refine ds_par (da_cons (de_var rfl (da_cons (de_I0 (de_var rfl (de_II (de_var rfl (de_var rfl ⟨l.fdiv r, s, rfl, rfl, mul_wide (show (l.fdiv r).natAbs.log2 + s.natAbs.log2 < 1000000 by omega), f, _, rfl, rfl, da_nil ⟨_, _, rfl, ?_⟩⟩))))))))
      refine ⟨_, ?_, _, _, _, _, _, rfl, I2, rfl⟩
      have a1 := I2.rl
      have a2 := I2.r0
      omega
    · have z' : r = 0 := by simpa using z
      subst z'
      have l1 : l = 1 := by
        have := I.co l ⟨1, by omega⟩ ⟨0, by omega⟩
        have := Int.le_of_dvd (by decide) this
        omega
      subst l1
      refine ds_ret (de_II (de_var rfl (de_var rfl ⟨f, m, rfl, rfl, by omega, q _ (fmod_lo _ (by omega)) (fmod_hi _ (by omega)) ?_⟩)))
      have e := Int.mul_fdiv_add_fmod f m
      have e2 : f.fmod m = f - m * f.fdiv m := by omega
      rw [e2, Int.mul_sub]
      have e3 : n * f - n * (m * f.fdiv m) - 1 = (n * f - 1) - m * (n * f.fdiv m) := by
        have : n * (m * f.fdiv m) = m * (n * f.fdiv m) := by rw [← Int.mul_assoc, Int.mul_comm n, Int.mul_assoc]
        omega
      rw [e3]
      exact Int.dvd_sub I.ef ⟨_, rfl⟩
end
end Law

set_option Elab.async false
set_option linter.all false
set_option maxRecDepth 100000
set_option maxHeartbeats 4000000
namespace Law
open PySem PySem.Spec PyProof.Rows L2 G
theorem spn_div {p : Int} (h : spn p = true) (e : Nat) (he : 2 ≤ e) (hp : (e : Int) * e ≤ p) : ¬ p.fmod e = 0 := fun z => by
  obtain ⟨l1, l2⟩ := spn_lo h
  unfold spn at h
  rw [Bool.and_eq_true, List.all_eq_true] at h
  have e100 : e < 101 := by
    by_cases y : e < 101
    · exact y
    · have : 101 * 101 ≤ e * e := Nat.mul_le_mul (by omega) (by omega)
      have : ((101 * 101 : Nat) : Int) ≤ ((e * e : Nat) : Int) := by exact_mod_cast this
      have : ((e * e : Nat) : Int) = (e : Int) * e := by exact_mod_cast rfl
      omega
  have q := h.2 e (List.mem_range.mpr e100)
  have h1 : ¬ e < 2 := by omega
  have h2 : ¬ p < (e : Int) * e := by omega
  simp [h1, h2, z] at q
theorem fmod_dvd {a m : Int} (hm : 0 < m) : a.fmod m = 0 ↔ m ∣ a := by
  rw [Int.fmod_eq_emod_of_nonneg _ (Int.le_of_lt hm)]
  exact (Int.dvd_iff_emod_eq_zero ..).symm
theorem spn_prime {p : Int} (h : spn p = true) {d : Nat} (hd : d ∣ p.natAbs) : d = 1 ∨ d = p.natAbs := by
  obtain ⟨l1, l2⟩ := spn_lo h
  obtain ⟨f, hf⟩ := hd
  have hp : (p.natAbs : Int) = p := Int.natAbs_of_nonneg (by omega)
  have no : ∀ e g : Nat, p.natAbs = e * g → 2 ≤ e → e ≤ g → False := fun e g h1 h2 h3 => by
    refine spn_div h e h2 ?_ ((fmod_dvd (by omega)).mpr ⟨g, ?_⟩)
    · have : e * e ≤ e * g := Nat.mul_le_mul_left _ h3
      rw [← hp, h1]
      exact_mod_cast this
    · rw [← hp, h1]
      exact_mod_cast rfl
  by_cases d1 : d = 1
  · exact Or.inl d1
  · right
    have d0 : d ≠ 0 := fun z => by subst z; rw [Nat.zero_mul] at hf; omega
    by_cases f1 : f = 1
    · subst f1; rw [hf, Nat.mul_one]
    · have f0 : f ≠ 0 := fun z => by subst z; rw [Nat.mul_zero] at hf; omega
      by_cases y : d ≤ f
      · exact (no d f hf (by omega) y).elim
      · exact (no f d (by rw [hf, Nat.mul_comm]) (by omega) (by omega)).elim
theorem cop_pow {p b : Int} (h : spn p = true) (hb : ¬ b.fmod p = 0) (k : Nat) : ∀ d : Int, d ∣ b → d ∣ p ^ k → d ∣ 1 := fun d d1 d2 => by
  obtain ⟨l1, l2⟩ := spn_lo h
  have c : Nat.Coprime b.natAbs p.natAbs := by
    rcases spn_prime h (Nat.gcd_dvd_right b.natAbs p.natAbs) with z | z
    · exact z
    · exfalso
      have y : p.natAbs ∣ b.natAbs := by
        rw [← z]
        exact Nat.gcd_dvd_left _ _
      exact hb ((fmod_dvd (by omega)).mpr (Int.natAbs_dvd_natAbs.mp y))
  have c2 := c.pow_right k
  have x1 : d.natAbs ∣ b.natAbs := Int.natAbs_dvd_natAbs.mpr d1
  have x2 : d.natAbs ∣ p.natAbs ^ k := by rw [← Int.natAbs_pow]; exact Int.natAbs_dvd_natAbs.mpr d2
  have x3 := Nat.dvd_gcd x1 x2
  rw [show Nat.gcd b.natAbs (p.natAbs ^ k) = 1 from c2] at x3
  exact Int.natAbs_dvd_natAbs.mp x3
section
variable {P : Program} {w : World} {K : PySem.W.Frag} {mg : Str → Option Value} {base : Heap} {a : Ad}
def F_rest : DF := fun ss R _ => ∃ (x : D) (t b q : Int), ss = [.sh x, .sh (.int q)] ∧ prD x = .tup [.int t, .int b] ∧ ((∃ i, x = .int i) ∨ ∃ i j, x = .tup [.int i, .int j]) ∧ 1 < q ∧ q < 2 ^ 2000 ∧ t.natAbs.log2 < 2000 ∧ (∀ d : Int, d ∣ b → d ∣ q → d ∣ 1) ∧
  ∀ r : Int, 0 ≤ r → r < q → q ∣ r * b - t → R (.int r)
theorem ok_rest_by (T : Tx K mg a) (hS : Sy mg base a) : FnG P w K mg base true 2 a.f_rest_by a.d_rest_by (["ratio", "q"] : List Str) (fun _ => spD K F_rest) := by
  refine fn_data T.F_rest_by sc_rest_by (fun ss R X z => by obtain ⟨_, _, _, _, h, _⟩ := z; rw [h] <;> rfl) fun cdv A outer s H E pl hr => ⟨_, (pss_cons (ps_asg (pe_go (ok_pair T hS) (hr.mono (by decide)) (pl := []) (fun _ h => nomatch h) (by rfl) T.g_pair T.F_pair.kp T.b_pair lets0 (pa_cons (pv 0) pa_nil)) (pg_tup rfl (pgs_cons (pg_name (i := 2) sc_rest_by.nd rfl (Or.inl rfl)) (pgs_cons (pg_name (i := 3) sc_rest_by.nd rfl (Or.inl rfl)) pgs_nil))))
      (pss_one (ps_ret (pe_ifExp (pt_cmpR op_gt (pv 1) pe_int (nomark _)) (pe_op op_modN (pe_op op_mulG (pv 2) (pe_go (ok_back_by T hS) (hr.mono (by decide)) (pl := []) (fun _ h => nomatch h) (by rfl) T.g_back_by T.F_back_by.kp T.b_back_by lets0 (pa_cons (pv 3) (pa_cons (pv 1) pa_nil)))) (pv 1)) pe_int)))), fun b ss R X h hX => ?_⟩
  obtain ⟨x, t, v, m, rfl, e, hx, h1, h2, ht, hco, q⟩ := h
  refine ds_seq (ds_asgG (de_call EL.no (dc_cons (de_var rfl (dc_nil ⟨x, rfl, hx, ?_⟩)))))
  rw [e]
  refine dg_tup rfl rfl (dgs_cons (dg_name (dgs_cons (dg_name (dgs_nil ?_)))))
  refine ds_ret (de_ite (dt_test (de_B0 (de_var rfl (de_int ⟨m, 1, rfl, rfl, true, by simpa using h1, iteT ?_⟩)))))
  refine de_II (de_II (de_var rfl (de_call EL.no (dc_cons (de_var rfl (dc_cons (de_var rfl (dc_nil ⟨v, m, rfl, h1, h2, hco, fun r r0 r1 hr => ?_⟩))))))))
  have hlog := log_q (by omega) h2
  have rl : r.natAbs.log2 < 2000 := log_abs (by omega) (by omega) hlog (by omega)
  refine ⟨t, r, rfl, rfl, mul_wide (show t.natAbs.log2 + r.natAbs.log2 < 1000000 by omega), de_var rfl ⟨_, m, rfl, rfl, by omega, q _ (fmod_lo _ (by omega)) (fmod_hi _ (by omega)) ?_⟩⟩
  have e1 := Int.mul_fdiv_add_fmod (t * r) m
  have e2 : (t * r).fmod m = t * r - m * (t * r).fdiv m := by omega
  rw [e2, Int.sub_mul]
  have e3 : t * r * v - m * (t * r).fdiv m * v - t = t * (v * r - 1) - m * ((t * r).fdiv m * v) := by
    have z1 : t * r * v = t * (v * r) := by rw [Int.mul_assoc, Int.mul_comm r]
    have z2 : m * (t * r).fdiv m * v = m * ((t * r).fdiv m * v) := Int.mul_assoc ..
    rw [Int.mul_sub]
    omega
  rw [e3]
  exact Int.dvd_sub (Int.dvd_mul_of_dvd_right hr) ⟨_, rfl⟩
def isK : D → Bool
  | .int k => decide (1 ≤ k) && decide (k ≤ 60)
  | _ => false
/-- what is due where all values are right -/
def RRok (a : Ad) (x y z : D) (R : D → Prop) (X : Addr → List (Str × D) → Prop) : Prop := ∃ (t b p : Int) (k : Nat), prD x = .tup [.int t, .int b] ∧ y = .int p ∧ z = .int k ∧
  if b.fmod p = 0 then X a.c_Unlike [("what", .str "ratio")] else t.natAbs.log2 < 2000 ∧ ∀ r : Int, 0 ≤ r → r < p ^ k → p ^ k ∣ r * b - t → R (.int r)
def F_rr (a : Ad) : DF := fun ss R X => ∃ x y z, ss = [.sh x, .sh y, .sh z] ∧ Vl x ∧ Vl y ∧ Vl z ∧
  if isRt x = true then (if isP y = true then (if isK z = true then RRok a x y z R X else X a.c_BadNumber [("number", z), ("what", .str "k")]) else X a.c_BadNumber [("number", y), ("what", .str "p")]) else X a.c_BadNumber [("number", x), ("what", .str "ratio")]
theorem Vl.rt {x : D} (h : Vl x) (hr : isRt x = true) : (∃ i, x = .int i) ∨ ∃ i j, x = .tup [.int i, .int j] := by
  cases h with
  | non => cases hr
  | bl _ => cases hr
  | str _ => cases hr
  | int i => exact Or.inl ⟨i, rfl⟩
  | pair i j => exact Or.inr ⟨i, j, rfl⟩
theorem pow_big {p : Int} (h1 : 2 ≤ p) (h2 : p ≤ 10000) {k : Nat} (hk : 1 ≤ k) (hk2 : k ≤ 60) : 1 < p ^ k ∧ p ^ k < 2 ^ 2000 := by
  obtain ⟨m, rfl⟩ := Int.eq_ofNat_of_zero_le (show 0 ≤ p by omega)
  have m1 : 2 ≤ m := by omega
  have m2 : m ≤ 10000 := by omega
  have a0 : m ^ 1 ≤ m ^ k := Nat.pow_le_pow_right (by omega) hk
  have a1 : m ^ k ≤ 10000 ^ k := Nat.pow_le_pow_left m2 k
  have a2 : 10000 ^ k ≤ 10000 ^ 60 := Nat.pow_le_pow_right (by decide) hk2
  have a3 : 10000 ^ 60 < 2 ^ 2000 := by decide +kernel
  have b1 : 1 < m ^ k := by rw [Nat.pow_one] at a0; omega
  have b2 : m ^ k < 2 ^ 2000 := Nat.lt_of_le_of_lt (Nat.le_trans a1 a2) a3
  constructor
  · exact_mod_cast b1
  · exact_mod_cast b2
theorem ok_rest_of_ratio (T : Tx K mg a) (hS : Sy mg base a) : FnG P w K mg base true 4 a.f_rest_of_ratio a.d_rest_of_ratio (["ratio", "p", "k"] : List Str) (fun _ => spD K (F_rr a)) := by
  refine fn_data T.F_rest_of_ratio sc_rest_of_ratio (fun ss R X z => by obtain ⟨_, _, _, h, _⟩ := z; rw [h] <;> rfl) fun cdv A outer s H E pl hr => ⟨_, (pss_cons (ps_if (pt_not (pt_val (pe_go (ok_is_ratio T hS) (hr.mono (by decide)) (pl := []) (fun _ h => nomatch h) (by rfl) T.g_is_ratio T.F_is_ratio.kp T.b_is_ratio (passAt (takes_of rfl rfl rfl rfl)) (pa_cons (pv 0) pa_nil)))) (pss_one (ps_raiseN rfl (takes_of rfl rfl rfl rfl) (pmk_oex (dvs := []) (ds := []) T.O_BadNumber T.i_BadNumber T.ti_BadNumber (in_BadNumber T) (Rm.room (k := 2) (hr.mono (by decide))) T.bi_BadNumber .nil pass0 (by rfl) T.g_BadNumber (pa_cons pe_str (pa_cons (pv 0) pa_nil))))) pss_nil)
      (pss_cons (ps_expr (pe_go (ok_need_prime T hS) (hr.mono (by decide)) (pl := []) (fun _ h => nomatch h) (by rfl) T.g_need_prime T.F_need_prime.kp T.b_need_prime (passAt (takes_of rfl rfl rfl rfl)) (pa_cons (pv 1) pa_nil)))
      (pss_cons (ps_if (PW.pt (pw_or (pt_not (pt_val (pe_go (ok_is_integer T hS) (hr.mono (by decide)) (pl := []) (fun _ h => nomatch h) (by rfl) T.g_is_integer T.F_is_integer.kp T.b_is_integer (passAt (takes_of rfl rfl rfl rfl)) (pa_cons (pv 2) pa_nil)))) (pw_or1 (pt_not (pt_chain op_le op_le pe_int (pv 2) (pe_globI (by rfl) T.k_MOST_POWER)))))) (pss_one (ps_raiseN rfl (takes_of rfl rfl rfl rfl) (pmk_oex (dvs := []) (ds := []) T.O_BadNumber T.i_BadNumber T.ti_BadNumber (in_BadNumber T) (Rm.room (k := 2) (hr.mono (by decide))) T.bi_BadNumber .nil pass0 (by rfl) T.g_BadNumber (pa_cons pe_str (pa_cons (pv 2) pa_nil))))) pss_nil)
      (pss_cons (ps_if (pt_not (pt_val (pe_go (ok_is_whole_by T hS) (hr.mono (by decide)) (pl := []) (fun _ h => nomatch h) (by rfl) T.g_is_whole_by T.F_is_whole_by.kp T.b_is_whole_by (passAt (takes_of rfl rfl rfl rfl)) (pa_cons (pv 0) (pa_cons (pv 1) pa_nil))))) (pss_one (ps_raiseN rfl (takes_of rfl rfl rfl rfl) (pmk_oex (dvs := []) (ds := []) T.O_Unlike T.i_Unlike T.ti_Unlike (in_Unlike T) (Rm.room (k := 2) (hr.mono (by decide))) T.bi_Unlike .nil pass0 (by rfl) T.g_Unlike (pa_cons pe_str pa_nil)))) pss_nil)
      (pss_one (ps_ret (pe_go (ok_rest_by T hS) (hr.mono (by decide)) (pl := []) (fun _ h => nomatch h) (by rfl) T.g_rest_by T.F_rest_by.kp T.b_rest_by (passAt (takes_of rfl rfl rfl rfl)) (pa_cons (pv 0) (pa_cons (pe_go (ok_power_of T hS) (hr.mono (by decide)) (pl := []) (fun _ h => nomatch h) (by rfl) T.g_power_of T.F_power_of.kp T.b_power_of (passAt (takes_of rfl rfl rfl rfl)) (pa_cons (pv 1) (pa_cons (pv 2) pa_nil))) pa_nil))))))))), fun b ss R X h hX => ?_⟩
  obtain ⟨x, y, z, rfl, hx, hy, hz, q⟩ := h
  refine ds_seq (ds_if (dt_not (dt_test (de_call EL.no (dc_cons (de_var rfl (dc_nil ⟨x, rfl, hx, _, rfl, ?_⟩)))))))
  cases ex : isRt x with
  | false =>
    rw [ex, if_neg (by decide)] at q
    exact iteT (ds_raise (hX _) (da_cons (de_str (da_cons (de_var rfl (da_nil ⟨rfl, by decide, q⟩))))))
  | true =>
    rw [ex, if_pos rfl] at q
    refine iteF (ds_next (ds_seq (ds_drop (de_call (fun Hf H σ fr => hX _ Hf H σ fr) (dc_cons (de_var rfl (dc_nil ⟨y, rfl, hy, ?_⟩)))))))
    cases ey : isP y with
    | false =>
      rw [ey, if_neg (by decide)] at q
      exact q
    | true =>
      rw [ey, if_pos rfl] at q
      cases hz with
      | non => exact ds_seq (ds_if (dt_or (dt_not (dt_test (de_call EL.no (dc_cons (de_var rfl (dc_nil ⟨_, rfl, .non, false, rfl, iteT (iteT (ds_raise (hX _) (da_cons (de_str (da_cons (de_var rfl (da_nil ⟨rfl, by decide, q⟩)))))))⟩))))))))
      | bl c => exact ds_seq (ds_if (dt_or (dt_not (dt_test (de_call EL.no (dc_cons (de_var rfl (dc_nil ⟨_, rfl, .bl c, false, rfl, iteT (iteT (ds_raise (hX _) (da_cons (de_str (da_cons (de_var rfl (da_nil ⟨rfl, by decide, q⟩)))))))⟩))))))))
      | str c => exact ds_seq (ds_if (dt_or (dt_not (dt_test (de_call EL.no (dc_cons (de_var rfl (dc_nil ⟨_, rfl, .str c, false, rfl, iteT (iteT (ds_raise (hX _) (da_cons (de_str (da_cons (de_var rfl (da_nil ⟨rfl, by decide, q⟩)))))))⟩))))))))
      | pair i j => exact ds_seq (ds_if (dt_or (dt_not (dt_test (de_call EL.no (dc_cons (de_var rfl (dc_nil ⟨_, rfl, .pair i j, false, rfl, iteT (iteT (ds_raise (hX _) (da_cons (de_str (da_cons (de_var rfl (da_nil ⟨rfl, by decide, q⟩)))))))⟩))))))))
      | int k0 =>
        refine ds_seq (ds_if (dt_or (dt_not (dt_test (de_call EL.no (dc_cons (de_var rfl (dc_nil ⟨_, rfl, .int k0, true, rfl, iteF ?_⟩))))))))
        refine dt_not (dt_test (de_chainI (de_int (de_var rfl ⟨1, k0, rfl, rfl, ?_⟩))))
        by_cases ez : isK (.int k0) = true
        · rw [ez, if_pos rfl] at q
          have hk0 : 1 ≤ k0 ∧ k0 ≤ 60 := by
            have : (decide ((1 : Int) ≤ k0) && decide (k0 ≤ 60)) = true := ez
            rw [Bool.and_eq_true] at this
            exact ⟨of_decide_eq_true this.1, of_decide_eq_true this.2⟩
          obtain ⟨t, v, p, k, e1, rfl, ek, q⟩ := q
          cases ek
          obtain ⟨l1, l2⟩ := spn_lo (show spn p = true from ey)
          have hk : 1 ≤ k ∧ k ≤ 60 := by omega
          rw [decide_eq_true hk0.1]
          refine iteT (de_int ⟨60, rfl, true, by rw [decide_eq_true hk0.2], iteF (ds_next ?_)⟩)
          refine ds_seq (ds_if (dt_not (dt_test (de_call EL.no (dc_cons (de_var rfl (dc_cons (de_var rfl (dc_nil ⟨x, t, v, p, rfl, e1, hx.rt ex, by omega, _, rfl, ?_⟩)))))))))
          by_cases hb : v.fmod p = 0
          · rw [if_pos hb] at q
            rw [decide_eq_true hb]
            exact iteT (ds_raise (hX _) (da_cons (de_str (da_nil ⟨rfl, by decide, q⟩))))
          · rw [if_neg hb] at q
            rw [decide_eq_false hb]
            obtain ⟨p1, p2⟩ := pow_big l1 l2 hk.1 hk.2
            refine iteF (ds_next (ds_ret (de_call EL.no (dc_cons (de_var rfl (dc_cons (de_call EL.no (dc_cons (de_var rfl (dc_cons (de_var rfl (dc_nil ⟨p, k, rfl, l1, l2, by omega, ?_⟩))))))))))))
            exact dc_nil ⟨x, t, v, p ^ k, rfl, e1, hx.rt ex, p1, p2, q.1, cop_pow ey hb k, q.2⟩
        · rw [if_neg ez] at q
          by_cases h1 : 1 ≤ k0
          · have h2 : ¬ k0 ≤ 60 := fun z => ez (by show (decide ((1 : Int) ≤ k0) && decide (k0 ≤ 60)) = true; rw [decide_eq_true h1, decide_eq_true z] <;> rfl)
            rw [decide_eq_true h1]
            refine iteT (de_int ⟨60, rfl, false, by rw [decide_eq_false h2], iteT ?_⟩)
            exact ds_raise (hX _) (da_cons (de_str (da_cons (de_var rfl (da_nil ⟨rfl, by decide, q⟩)))))
          · rw [decide_eq_false h1]
            refine iteF ⟨false, rfl, iteT ?_⟩
            exact ds_raise (hX _) (da_cons (de_str (da_cons (de_var rfl (da_nil ⟨rfl, by decide, q⟩)))))
end
end Law

set_option Elab.async false
set_option linter.all false
set_option maxRecDepth 100000
set_option maxHeartbeats 4000000
namespace Law
open PySem PySem.Spec PyProof.Rows L2 G
theorem FnGvoid {P : Program} {w : World} {K : PySem.W.Frag} {mg : Str → Option Value} {base : Heap} {c : Bool} {k : Nat} {f : Addr} {fd : FuncData} {ps : List Str} : FnG P w K mg base c k f fd ps (fun _ _ _ _ _ => False) := { len := fun _ _ _ _ _ h => h.elim, run := fun _ _ _ _ _ _ _ _ _ _ _ _ _ _ _ h => h.elim }
section
variable {P : Program} {w : World} {K : PySem.W.Frag} {mg : Str → Option Value} {base : Heap} {a : Ad}
def F_is : DF := fun ss R _ => ∃ u v : Int, ss = [.sh (.int u), .sh (.int v)] ∧ R (.bl (decide (u = v)))
theorem ok__law_is (T : Tx K mg a) (hS : Sy mg base a) : FnG P w K mg base true 1 a.f__law_is a.d__law_is (["told", "due"] : List Str) (fun _ => spD K F_is) := by
  refine fn_data T.F__law_is sc__law_is (fun ss R X z => by obtain ⟨_, _, h, _⟩ := z; rw [h] <;> rfl) fun cdv A outer s H E pl hr => ⟨_, (pss_cons (ps_if (pt_val (pe_callB (call_isG (pn := (fun _ _ _ => False)) (fun _ _ _ z => z.elim)) (by rfl) T.n_isinstance PyProof.Rows.boot_isinstance (pa_cons (pv 1) (pa_cons (pe_bltn (v := .ty "tuple") (by rfl) T.n_tuple PyProof.Rows.boot_tuple rfl) pa_nil)))) (pss_cons (ps_if (PW.pt (pw_or (pt_not (pt_val (pe_callB (call_isG (pn := (fun _ _ _ => False)) (fun _ _ _ z => z.elim)) (by rfl) T.n_isinstance PyProof.Rows.boot_isinstance (pa_cons (pv 0) (pa_cons (pe_bltn (v := .ty "tuple") (by rfl) T.n_tuple PyProof.Rows.boot_tuple rfl) pa_nil))))) (pw_or1 (pt_cmpR (op_neG hr.hu) (pe_callB call_lenV (by rfl) T.n_len PySem.boot_len (pa_cons (pv 0) pa_nil)) (pe_callB call_lenV (by rfl) T.n_len PySem.boot_len (pa_cons (pv 1) pa_nil)) (nomark _))))) (pss_one (ps_ret pe_bl)) pss_nil)
      (pss_one (ps_ret (pe_cmpR (op_eqG hr.hu) (pe_lc (own := [("at", 2)]) (by rfl) sc__law_is.nd (pi_range1 rfl T.n_range (pa_cons (pe_callB call_lenV (by rfl) T.n_len PySem.boot_len (pa_cons (pv 1) pa_nil)) pa_nil)) (blkOk_by (N := nm__law_is) (sc := defScope s__law_is) (by decide +kernel)) (fun _ _ _ _ _ => (pg_name (i := 2) sc__law_is.nd rfl (Or.inl rfl))) (fun _ _ _ _ _ => pts_one (pt_not (pt_val (pe_go (FnGvoid (c := true) (k := 0)) (hr.mono (by decide)) (pl := []) (fun _ h => nomatch h) (by rfl) T.g__law_is T.F__law_is.kp T.b__law_is lets0 (pa_cons (pe_ix (show IxR _ (rIx K) from ix_seq) (pv 0) (pv 2) (fun _ _ => rfl)) (pa_cons (pe_ix (show IxR _ (rIx K) from ix_seq) (pv 1) (pv 2) (fun _ _ => rfl)) pa_nil)))))) (fun _ _ _ _ _ => (pv 2))) (pe_lst pa_nil) (nomark _))))) pss_nil)
      (pss_cons (ps_if (pt_cmp (pc_isN (pv 1))) (pss_one (ps_ret (pe_cmp (pc_isN (pv 0)) rfl))) pss_nil)
      (pss_cons (ps_if (pt_cmpR op_isBlV (pv 1) pe_bl (nomark _)) (pss_one (ps_ret (pe_cmpR op_isBlV (pv 0) pe_bl (nomark _)))) pss_nil)
      (pss_cons (ps_if (pt_cmpR op_isBlV (pv 1) pe_bl (nomark _)) (pss_one (ps_ret (pe_cmpR op_isBlV (pv 0) pe_bl (nomark _)))) pss_nil)
      (pss_cons (ps_if (pt_val (pe_callB (call_isG (pn := (fun _ _ _ => False)) (fun _ _ _ z => z.elim)) (by rfl) T.n_isinstance PyProof.Rows.boot_isinstance (pa_cons (pv 1) (pa_cons (pe_bltn (v := .ty "str") (by rfl) T.n_str PyProof.Rows.boot_str rfl) pa_nil)))) (pss_one (ps_ret (pe_and (pe_callB (call_isG (pn := (fun _ _ _ => False)) (fun _ _ _ z => z.elim)) (by rfl) T.n_isinstance PyProof.Rows.boot_isinstance (pa_cons (pv 0) (pa_cons (pe_bltn (v := .ty "str") (by rfl) T.n_str PyProof.Rows.boot_str rfl) pa_nil))) (pe_one (pe_cmpR (op_eqG hr.hu) (pv 0) (pv 1) (nomark _)))))) pss_nil)
      (pss_one (ps_ret (pe_and (pe_callB (call_isG (pn := (fun _ _ _ => False)) (fun _ _ _ z => z.elim)) (by rfl) T.n_isinstance PyProof.Rows.boot_isinstance (pa_cons (pv 0) (pa_cons (pe_bltn (v := .ty "int") (by rfl) T.n_int PyProof.Rows.boot_int rfl) pa_nil))) (pe_and (pe_not (pe_callB (call_isG (pn := (fun _ _ _ => False)) (fun _ _ _ z => z.elim)) (by rfl) T.n_isinstance PyProof.Rows.boot_isinstance (pa_cons (pv 0) (pa_cons (pe_bltn (v := .ty "bool") (by rfl) T.n_bool PyProof.Rows.boot_bool rfl) pa_nil)))) (pe_one (pe_cmpR (op_eqG hr.hu) (pv 0) (pv 1) (nomark _)))))))))))), fun b ss R X h hX => ?_⟩
  obtain ⟨u, v, rfl, q⟩ := h
  refine ds_seq (ds_if (dt_test (de_isT (de_var rfl ⟨_, false, rfl, by decide +kernel, false, rfl, iteF (ds_next ?_)⟩))))
  refine ds_seq (ds_if (dt_test (de_isN (de_var rfl ⟨false, rfl, iteF (ds_next ?_)⟩))))
  refine ds_seq (ds_if (dt_test (de_isBl (de_var rfl ⟨false, rfl, iteF (ds_next ?_)⟩))))
  refine ds_seq (ds_if (dt_test (de_isBl (de_var rfl ⟨false, rfl, iteF (ds_next ?_)⟩))))
  refine ds_seq (ds_if (dt_test (de_isT (de_var rfl ⟨_, false, rfl, by decide +kernel, false, rfl, iteF (ds_next ?_)⟩))))
  refine ds_ret (de_andV (de_isT (de_var rfl ⟨_, true, rfl, by decide +kernel, true, rfl, iteT ?_⟩)))
  refine de_andV (de_notV (de_isT (de_var rfl ⟨_, false, rfl, by decide +kernel, false, rfl, true, rfl, iteT ?_⟩)))
  exact de_eqI (de_var rfl (de_var rfl ⟨u, v, rfl, rfl, q⟩))
def F_div : DF := fun ss R _ => ∃ u v : Int, ss = [.sh (.int u), .sh (.int v)] ∧ R (.int ((Nat.gcd u.natAbs v.natAbs : Nat) : Int))
theorem abs_if (i : Int) : (if i < 0 then -i else i) = (i.natAbs : Int) := by
  split <;> omega
theorem fmod_nat (x y : Nat) : ((x : Int)).fmod y = ((x % y : Nat) : Int) := by
  rw [Int.fmod_eq_emod_of_nonneg _ (by omega)]
  exact (Int.natCast_emod x y).symm
theorem ok__law_divisor (T : Tx K mg a) (hS : Sy mg base a) : FnG P w K mg base true 1 a.f__law_divisor a.d__law_divisor (["one", "other"] : List Str) (fun _ => spD K F_div) := by
  refine fn_data T.F__law_divisor sc__law_divisor (fun ss R X z => by obtain ⟨_, _, h, _⟩ := z; rw [h] <;> rfl) fun cdv A outer s H E pl hr => ⟨_, (pss_cons (ps_par (i := 0) (j := 1) rfl sc__law_divisor.nd rfl rfl (by decide) rfl rfl (pa_cons (pe_callB call_absV (by rfl) T.n_abs (by decide +kernel) (pa_cons (pv 0) pa_nil)) (pa_cons (pe_callB call_absV (by rfl) T.n_abs (by decide +kernel) (pa_cons (pv 1) pa_nil)) pa_nil)) rfl)
      (pss_cons (ps_while (passes_of rfl) (pt_cmpR (op_neG hr.hu) (pv 1) pe_int (nomark _)) (pss_one (ps_par (i := 0) (j := 1) rfl sc__law_divisor.nd rfl rfl (by decide) rfl rfl (pa_cons (pv 1) (pa_cons (pe_op op_modN (pe_callTy call_intV (by rfl) T.n_int PyProof.Rows.boot_int (pa_cons (pv 0) pa_nil)) (pv 1)) pa_nil)) rfl)))
      (pss_one (ps_ret (pv 0))))), fun b ss R X h hX => ?_⟩
  obtain ⟨u, v, rfl, q⟩ := h
  refine ds_seq (ds_par (da_cons (de_abs (de_var rfl ⟨u, rfl, da_cons (de_abs (de_var rfl ⟨v, rfl, da_nil ⟨_, _, rfl, ?_⟩⟩))⟩))))
  rw [abs_if, abs_if]
  refine ds_seq (ds_while (fun m ρ => ∃ x y : Nat, ρ = [.sh (.int x), .sh (.int y)] ∧ Nat.gcd x y = Nat.gcd u.natAbs v.natAbs ∧ m = y) v.natAbs ⟨_, _, rfl, rfl, rfl⟩ (fun m ρ h => ?_))
  obtain ⟨x, y, rfl, hg, rfl⟩ := h
  refine dt_test (de_neI (de_var rfl (de_int ⟨m, 0, rfl, rfl, _, rfl, ?_⟩)))
  refine ite2 (fun z => ?_) (fun z => ?_)
  · have z' : m ≠ 0 := by
      have : (m : Int) ≠ 0 := by simpa using z
      omega
    refine ds_par (da_cons (de_var rfl (da_cons (de_II (de_intc (de_var rfl (Or.inl ⟨x, rfl, de_var rfl ⟨x, m, rfl, rfl, by omega, da_nil ⟨_, _, rfl, x % m, Nat.mod_lt _ (by omega), m, x % m, ?_, ?_, rfl⟩⟩⟩)))))))
    · rw [fmod_nat]; rfl
    · rw [← hg, Nat.gcd_comm x m]
      exact (Nat.gcd_rec m x).trans (Nat.gcd_comm _ _) |>.symm
  · have z' : m = 0 := by
      have : (m : Int) = 0 := by simpa using z
      omega
    subst z'
    rw [Nat.gcd_zero_right] at hg
    subst hg
    exact ds_ret (de_var rfl q)
end
end Law

set_option Elab.async false
set_option linter.all false
set_option maxRecDepth 100000
set_option maxHeartbeats 4000000
namespace Law
open PySem PySem.Spec PyProof.Rows L2 G
/-- a ratio in lowest terms -/
def lowD (t v : Int) : D := if v = ((Nat.gcd t.natAbs v.natAbs : Nat) : Int) then .int (t.fdiv (Nat.gcd t.natAbs v.natAbs : Nat)) else .tup [.int (t.fdiv (Nat.gcd t.natAbs v.natAbs : Nat)), .int (v.fdiv (Nat.gcd t.natAbs v.natAbs : Nat))]
theorem fdiv_mul {g x : Int} (hg : 0 < g) : (g * x).fdiv g = x := by
  rw [Int.fdiv_eq_ediv_of_nonneg _ (Int.le_of_lt hg)]
  exact Int.mul_ediv_cancel_left _ (by omega)
theorem low_parts {t v : Int} (hv : 0 < v) : ∃ g x y : Int, g = ((Nat.gcd t.natAbs v.natAbs : Nat) : Int) ∧ 0 < g ∧ t = g * x ∧ v = g * y ∧ 0 < y ∧ Nat.gcd x.natAbs y.natAbs = 1 := by
  have g0 : 0 < Nat.gcd t.natAbs v.natAbs := Nat.gcd_pos_of_pos_right _ (by omega)
  have h1 : ((Nat.gcd t.natAbs v.natAbs : Nat) : Int) ∣ t := Int.natAbs_dvd_natAbs.mp (by rw [Int.natAbs_natCast]; exact Nat.gcd_dvd_left _ _)
  have h2 : ((Nat.gcd t.natAbs v.natAbs : Nat) : Int) ∣ v := Int.natAbs_dvd_natAbs.mp (by rw [Int.natAbs_natCast]; exact Nat.gcd_dvd_right _ _)
  obtain ⟨x, hx⟩ := h1
  obtain ⟨y, hy⟩ := h2
  refine ⟨_, x, y, rfl, by omega, hx, hy, ?_, ?_⟩
  · by_cases z : 0 < y
    · exact z
    · have : ((Nat.gcd t.natAbs v.natAbs : Nat) : Int) * y ≤ 0 := Int.mul_nonpos_of_nonneg_of_nonpos (by omega) (by omega)
      omega
  · have e1 : t.natAbs = Nat.gcd t.natAbs v.natAbs * x.natAbs := by
      have := congrArg Int.natAbs hx
      rw [Int.natAbs_mul, Int.natAbs_natCast] at this
      exact this
    have e2 : v.natAbs = Nat.gcd t.natAbs v.natAbs * y.natAbs := by
      have := congrArg Int.natAbs hy
      rw [Int.natAbs_mul, Int.natAbs_natCast] at this
      exact this
    have e3 : Nat.gcd t.natAbs v.natAbs = Nat.gcd t.natAbs v.natAbs * Nat.gcd x.natAbs y.natAbs := by
      rw [← Nat.gcd_mul_left, ← e1, ← e2]
    exact Nat.eq_of_mul_eq_mul_left g0 (by rw [Nat.mul_one]; exact e3.symm)
/-- what is known of it -/
theorem low_facts {t v : Int} (hv : 0 < v) : ∃ x y : Int, Vl (lowD t v) ∧ isRt (lowD t v) = true ∧ prD (lowD t v) = .tup [.int x, .int y] ∧ 0 < y ∧ y ≤ v ∧ x.natAbs ≤ t.natAbs := by
  obtain ⟨g, x, y, eg, g0, e1, e2, y0, hc⟩ := low_parts (t := t) hv
  have d1 : t.fdiv g = x := by rw [e1]; exact fdiv_mul g0
  have d2 : v.fdiv g = y := by rw [e2]; exact fdiv_mul g0
  have yv : y ≤ v := by
    rw [e2]
    have := Int.mul_le_mul_of_nonneg_right (show 1 ≤ g by omega) (Int.le_of_lt y0)
    omega
  have xt : x.natAbs ≤ t.natAbs := by
    rw [e1, Int.natAbs_mul]
    exact Nat.le_mul_of_pos_left _ (by omega)
  unfold lowD
  rw [← eg, d1, d2]
  by_cases z : v = g
  · rw [if_pos z]
    have y1 : y = 1 := by
      have : g * y = g * 1 := by rw [← e2, z, Int.mul_one]
      exact Int.eq_of_mul_eq_mul_left (by omega) this
    refine ⟨x, y, .int x, rfl, ?_, y0, yv, xt⟩
    rw [y1] <;> rfl
  · rw [if_neg z]
    refine ⟨x, y, .pair x y, ?_, rfl, y0, yv, xt⟩
    show (decide (y > 1) && decide (((Nat.gcd x.natAbs y.natAbs : Nat) : Int) = 1)) = true
    have y1 : y > 1 := by
      by_cases w : y = 1
      · rw [w, Int.mul_one] at e2
        exact (z e2).elim
      · omega
    rw [hc]
    simp [y1]
section
variable {P : Program} {w : World} {K : PySem.W.Frag} {mg : Str → Option Value} {base : Heap} {a : Ad}
def F_low : DF := fun ss R _ => ∃ t v : Int, ss = [.sh (.int t), .sh (.int v)] ∧ 0 < v ∧ v ≤ 2 ^ 60 ∧ R (lowD t v)
theorem ok__law_low (T : Tx K mg a) (hS : Sy mg base a) : FnG P w K mg base true 2 a.f__law_low a.d__law_low (["top", "bottom"] : List Str) (fun _ => spD K F_low) := by
  refine fn_data T.F__law_low sc__law_low (fun ss R X z => by obtain ⟨_, _, h, _⟩ := z; rw [h] <;> rfl) fun cdv A outer s H E pl hr => ⟨_, (pss_cons (ps_set (i := 2) sc__law_low.nd rfl (Or.inl rfl) (pe_go (ok__law_divisor T hS) (hr.mono (by decide)) (pl := []) (fun _ h => nomatch h) (by rfl) T.g__law_divisor T.F__law_divisor.kp T.b__law_divisor lets0 (pa_cons (pv 0) (pa_cons (pv 1) pa_nil))))
      (pss_cons (ps_if (pt_cmpR op_lt (pv 1) pe_int (nomark _)) (pss_one (ps_set (i := 2) sc__law_low.nd rfl (Or.inl rfl) (pe_un un_neg (pv 2)))) pss_nil)
      (pss_one (ps_ret (pe_ifExp (pt_cmpR (op_eqG hr.hu) (pv 1) (pv 2) (nomark _)) (pe_op op_fdivG (pv 0) (pv 2)) (pe_tup (pa_cons (pe_op op_fdivG (pv 0) (pv 2)) (pa_cons (pe_op op_fdivG (pv 1) (pv 2)) pa_nil)))))))), fun b ss R X h hX => ?_⟩
  obtain ⟨t, v, rfl, hv, hv2, q⟩ := h
  have g0 : 0 < Nat.gcd t.natAbs v.natAbs := Nat.gcd_pos_of_pos_right _ (by omega)
  have g1 : Nat.gcd t.natAbs v.natAbs ≤ v.natAbs := Nat.le_of_dvd (by omega) (Nat.gcd_dvd_right _ _)
  have cd : ∀ i : Int, CDivA i ((Nat.gcd t.natAbs v.natAbs : Nat) : Int) := fun i => ⟨by omega, draw_ok (by omega) (by omega)⟩
  refine ds_seq (ds_asg (de_call EL.no (dc_cons (de_var rfl (dc_cons (de_var rfl (dc_nil ⟨t, v, rfl, ?_⟩)))))))
  refine ds_seq (ds_if (dt_test (de_B0 (de_var rfl (de_int ⟨v, 0, rfl, rfl, false, by simp; omega, iteF (ds_next ?_)⟩)))))
  unfold lowD at q
  refine ds_ret (de_ite (dt_test (de_eqI (de_var rfl (de_var rfl ⟨v, _, rfl, rfl, _, rfl, ite2 (fun z => ?_) (fun z => ?_)⟩)))))
  · rw [if_pos (of_decide_eq_true z)] at q
    exact de_II (de_var rfl (de_var rfl ⟨t, _, rfl, rfl, cd t, q⟩))
  · rw [if_neg (fun y => z (decide_eq_true y))] at q
    exact de_tup (da_cons (de_II (de_var rfl (de_var rfl ⟨t, _, rfl, rfl, cd t, da_cons (de_II (de_var rfl (de_var rfl ⟨v, _, rfl, rfl, cd v, da_nil ⟨by simp, q⟩⟩)))⟩))))
theorem ok__law_ends (T : Tx K mg a) (hS : Sy mg base a) : FnG P w K mg base true 1 a.f__law_ends a.d__law_ends (["ratio"] : List Str) (fun _ => spD K F_pair) := by
  refine fn_data T.F__law_ends sc__law_ends (fun ss R X z => by obtain ⟨_, h, _⟩ := z; rw [h] <;> rfl) fun cdv A outer s H E pl hr => ⟨_, (pss_one (ps_ret (pe_ifExp (pt_val (pe_callB (call_isG (pn := (fun _ _ _ => False)) (fun _ _ _ z => z.elim)) (by rfl) T.n_isinstance PyProof.Rows.boot_isinstance (pa_cons (pv 0) (pa_cons (pe_bltn (v := .ty "tuple") (by rfl) T.n_tuple PyProof.Rows.boot_tuple rfl) pa_nil)))) (pv 0) (pe_tup (pa_cons (pv 0) (pa_cons pe_int pa_nil)))))), fun b ss R X h hX => ?_⟩
  obtain ⟨x, rfl, hx, q⟩ := h
  rcases hx with ⟨i, rfl⟩ | ⟨i, j, rfl⟩
  · exact ds_ret (de_ite (dt_test (de_isT (de_var rfl ⟨_, false, rfl, by decide +kernel, false, rfl, iteF (de_tup (da_cons (de_var rfl (da_cons (de_int (da_nil ⟨by simp, q⟩))))))⟩))))
  · exact ds_ret (de_ite (dt_test (de_isT (de_var rfl ⟨_, true, rfl, by decide +kernel, true, rfl, iteT (de_var rfl q)⟩))))
def bads : List D := [.int 0, .int 1, .int 4, .int 9, .int (-3), .int 10007, .non, .bl true, .str "2", .tup [.int 2, .int 1]]
def prs : List Int := [2, 2, 3, 3, 5, 7, 11, 101, 997, 9973]
/-- values that are no ratio, no prime, no power, no number: plain, and repr may be asked of them -/
structure Odd (d : D) : Prop where
  v : Vl d
  ok : okR d
  so : PyData.strOk d.py.shown = true
def F_bad : DF := fun ss R _ => ss = [.pen] ∧ ∀ d, Odd d → isP d = false → R d
def F_prime : DF := fun ss R _ => ss = [.pen] ∧ ∀ p : Int, spn p = true → R (.int p)
theorem okR_dec {d : D} (h1 : d.pl = true) (h2 : d.py.showable = true) (h3 : d.py.depth ≤ 60) (h4 : d.py.shown.length ≤ 100000) : okR d := ⟨h1, h2, h3, h4⟩
theorem odd_dec {d : D} (v : Vl d) (h1 : d.pl = true) (h2 : d.py.showable = true) (h3 : d.py.depth ≤ 60) (h4 : d.py.shown.length ≤ 100000) (h5 : PyData.strOk d.py.shown = true) : Odd d := ⟨v, ⟨h1, h2, h3, h4⟩, h5⟩
theorem ok__law_bad_small_prime (T : Tx K mg a) (hS : Sy mg base a) : FnG P w K mg base true 3 a.f__law_bad_small_prime a.d__law_bad_small_prime (["pen"] : List Str) (fun _ => spD K F_bad) := by
  refine fn_data T.F__law_bad_small_prime sc__law_bad_small_prime (fun ss R X z => by obtain ⟨h, _⟩ := z; rw [h] <;> rfl) fun cdv A outer s H E pl hr => ⟨_, (pss_one (ps_ret (pe_go (ok__law_pick T hS) (hr.mono (by decide)) (pl := []) (fun _ h => nomatch h) (by rfl) T.g__law_pick T.F__law_pick.kp T.b__law_pick lets0 (pa_cons (pv 0) (pa_cons (pe_lst (pa_cons pe_int (pa_cons pe_int (pa_cons pe_int (pa_cons pe_int (pa_cons (pe_un un_neg pe_int) (pa_cons pe_int (pa_cons pe_non (pa_cons pe_bl (pa_cons pe_str (pa_cons (pe_tup (pa_cons pe_int (pa_cons pe_int pa_nil))) pa_nil))))))))))) pa_nil))))), fun b ss R X h hX => ?_⟩
  obtain ⟨rfl, q⟩ := h
  have go : ∀ d ∈ bads, R d := fun d hd => by
    simp only [bads, List.mem_cons, List.not_mem_nil, or_false] at hd
    rcases hd with rfl | rfl | rfl | rfl | rfl | rfl | rfl | rfl | rfl | rfl
    · exact q _ (odd_dec (.int _) (by decide +kernel) (by decide +kernel) (by decide +kernel) (by decide +kernel) (by decide +kernel)) (by decide +kernel)
    · exact q _ (odd_dec (.int _) (by decide +kernel) (by decide +kernel) (by decide +kernel) (by decide +kernel) (by decide +kernel)) (by decide +kernel)
    · exact q _ (odd_dec (.int _) (by decide +kernel) (by decide +kernel) (by decide +kernel) (by decide +kernel) (by decide +kernel)) (by decide +kernel)
    · exact q _ (odd_dec (.int _) (by decide +kernel) (by decide +kernel) (by decide +kernel) (by decide +kernel) (by decide +kernel)) (by decide +kernel)
    · exact q _ (odd_dec (.int _) (by decide +kernel) (by decide +kernel) (by decide +kernel) (by decide +kernel) (by decide +kernel)) (by decide +kernel)
    · exact q _ (odd_dec (.int _) (by decide +kernel) (by decide +kernel) (by decide +kernel) (by decide +kernel) (by decide +kernel)) (by decide +kernel)
    · exact q _ (odd_dec .non (by decide +kernel) (by decide +kernel) (by decide +kernel) (by decide +kernel) (by decide +kernel)) rfl
    · exact q _ (odd_dec (.bl _) (by decide +kernel) (by decide +kernel) (by decide +kernel) (by decide +kernel) (by decide +kernel)) rfl
    · exact q _ (odd_dec (.str _) (by decide +kernel) (by decide +kernel) (by decide +kernel) (by decide +kernel) (by decide +kernel)) rfl
    · exact q _ (odd_dec (.pair _ _) (by decide +kernel) (by decide +kernel) (by decide +kernel) (by decide +kernel) (by decide +kernel)) rfl
  refine ds_ret (de_call EL.no (dc_pen rfl (dc_cons (de_lst ?_))))
  refine da_cons (de_int (da_cons (de_int (da_cons (de_int (da_cons (de_int (da_cons (de_un (de_int ⟨3, rfl, ?_⟩))))))))))
  refine da_cons (de_int (da_cons (de_non (da_cons (de_bl (da_cons (de_str (da_cons (de_tup (da_cons (de_int (da_cons (de_int (da_nil ⟨by decide, da_nil ⟨by decide, dc_nil ⟨_, _, rfl, rfl, (fun z => nomatch z), by decide, go⟩⟩⟩))))))))))))))
theorem ok__law_prime (T : Tx K mg a) (hS : Sy mg base a) : FnG P w K mg base true 3 a.f__law_prime a.d__law_prime (["pen"] : List Str) (fun _ => spD K F_prime) := by
  refine fn_data T.F__law_prime sc__law_prime (fun ss R X z => by obtain ⟨h, _⟩ := z; rw [h] <;> rfl) fun cdv A outer s H E pl hr => ⟨_, (pss_one (ps_ret (pe_go (ok__law_pick T hS) (hr.mono (by decide)) (pl := []) (fun _ h => nomatch h) (by rfl) T.g__law_pick T.F__law_pick.kp T.b__law_pick lets0 (pa_cons (pv 0) (pa_cons (pe_lst (pa_cons pe_int (pa_cons pe_int (pa_cons pe_int (pa_cons pe_int (pa_cons pe_int (pa_cons pe_int (pa_cons pe_int (pa_cons pe_int (pa_cons pe_int (pa_cons pe_int pa_nil))))))))))) pa_nil))))), fun b ss R X h hX => ?_⟩
  obtain ⟨rfl, q⟩ := h
  have go : ∀ d ∈ prs.map D.int, R d := fun d hd => by
    obtain ⟨p, hp, rfl⟩ := List.mem_map.mp hd
    refine q p ?_
    have all : (prs.all spn) = true := by decide +kernel
    exact List.all_eq_true.mp all p hp
  refine ds_ret (de_call EL.no (dc_pen rfl (dc_cons (de_lst ?_))))
  refine da_cons (de_int (da_cons (de_int (da_cons (de_int (da_cons (de_int (da_cons (de_int ?_)))))))))
  exact da_cons (de_int (da_cons (de_int (da_cons (de_int (da_cons (de_int (da_cons (de_int (da_nil ⟨by decide, dc_nil ⟨_, _, rfl, rfl, (fun z => nomatch z), by decide, go⟩⟩))))))))))
end
end Law

set_option Elab.async false
set_option linter.all false
set_option maxRecDepth 100000
set_option maxHeartbeats 4000000
namespace Law
open PySem PySem.Spec PyProof.Rows L2 G
theorem uniq_le {p m m' : Int} {c e : Nat} (hp : 2 ≤ p) (h : m * p ^ c = m' * p ^ (c + e)) (h1 : ¬ m.fmod p = 0) : e = 0 := by
  by_cases z : e = 0
  · exact z
  · exfalso
    obtain ⟨d, rfl⟩ : ∃ d, e = d + 1 := ⟨e - 1, by omega⟩
    apply h1
    rw [fmod_dvd (by omega)]
    have pc : p ^ c ≠ 0 := by
      have : 0 < p ^ c := Int.pow_pos (by omega)
      omega
    have h2 : m = m' * p ^ (d + 1) := by
      have : m * p ^ c = (m' * p ^ (d + 1)) * p ^ c := by
        rw [h, Int.mul_assoc, ← Int.pow_add, Nat.add_comm c (d + 1)]
      exact Int.eq_of_mul_eq_mul_right pc this
    rw [h2, Int.pow_succ]
    exact ⟨m' * p ^ d, by rw [← Int.mul_assoc, Int.mul_comm]⟩
theorem uniq {p m m' : Int} {c c' : Nat} (hp : 2 ≤ p) (h : m * p ^ c = m' * p ^ c') (h1 : ¬ m.fmod p = 0) (h2 : ¬ m'.fmod p = 0) : c = c' := by
  by_cases z : c ≤ c'
  · obtain ⟨e, rfl⟩ : ∃ e, c' = c + e := ⟨c' - c, by omega⟩
    have := uniq_le hp h h1
    omega
  · obtain ⟨e, rfl⟩ : ∃ e, c = c' + e := ⟨c - c', by omega⟩
    have := uniq_le hp h.symm h2
    omega
abbrev XU (a : Ad) : Addr → List (Str × D) → Prop := fun C fs => C = a.c_Unlike ∧ fs = [(("what" : Str), D.str "ratio")]
abbrev XB (a : Ad) (wd : Str) (n : D) : Addr → List (Str × D) → Prop := fun C fs => C = a.c_BadNumber ∧ fs = [(("number" : Str), n), (("what" : Str), D.str wd)]
theorem FoU {a : Ad} {R : D → Prop} (h : R (.tup [.str "unlike", .str "ratio"])) : FoF a (fun _ => False) (XU a) R :=
  ⟨fun d z => z.elim, fun C fs z => ⟨10, .str "ratio", .non, .non, by decide, z.1, z.2, fun z => by omega, fun z => by omega, h⟩⟩
theorem FoB {a : Ad} {R : D → Prop} {wd : Str} {n : D} (ok : okR n) (h : R (.tup [.str "number", .str wd, .str n.py.shown])) : FoF a (fun _ => False) (XB a wd n) R :=
  ⟨fun d z => z.elim, fun C fs z => ⟨0, .str wd, n, .non, by decide, z.1, z.2, fun z => by omega, fun _ => ok, h⟩⟩
theorem low1 {p : Int} (h : 2 ≤ p) : lowD 1 p = .tup [.int 1, .int p] := by
  have g : Nat.gcd (1 : Int).natAbs p.natAbs = 1 := Nat.gcd_one_left _
  unfold lowD
  rw [g, if_neg (by omega)]
  have e : ∀ z : Int, z.fdiv ((1 : Nat) : Int) = z := fun z => by
    have := fdiv_mul (g := 1) (x := z) (by decide)
    rw [Int.one_mul] at this
    exact this
  rw [e, e]
def odds : List D := [.non, .bl true, .str "1/2", .tup [.int 2, .int 4], .tup [.int 1, .int 0]]
def worses : List D := [.int 0, .int (-1), .int 61, .non, .bl true, .str "1"]
def losts : List D := [.int 0, .non, .bl true, .str "7", .tup [.int 1, .int 2]]
theorem odds_ok : ∀ d ∈ odds, Odd d ∧ isRt d = false := fun d hd => by
  simp only [odds, List.mem_cons, List.not_mem_nil, or_false] at hd
  rcases hd with rfl | rfl | rfl | rfl | rfl
  · exact ⟨odd_dec .non (by decide +kernel) (by decide +kernel) (by decide +kernel) (by decide +kernel) (by decide +kernel), by decide +kernel⟩
  · exact ⟨odd_dec (.bl _) (by decide +kernel) (by decide +kernel) (by decide +kernel) (by decide +kernel) (by decide +kernel), by decide +kernel⟩
  · exact ⟨odd_dec (.str _) (by decide +kernel) (by decide +kernel) (by decide +kernel) (by decide +kernel) (by decide +kernel), by decide +kernel⟩
  · exact ⟨odd_dec (.pair _ _) (by decide +kernel) (by decide +kernel) (by decide +kernel) (by decide +kernel) (by decide +kernel), by decide +kernel⟩
  · exact ⟨odd_dec (.pair _ _) (by decide +kernel) (by decide +kernel) (by decide +kernel) (by decide +kernel) (by decide +kernel), by decide +kernel⟩
theorem worses_ok : ∀ d ∈ worses, Odd d ∧ isK d = false := fun d hd => by
  simp only [worses, List.mem_cons, List.not_mem_nil, or_false] at hd
  rcases hd with rfl | rfl | rfl | rfl | rfl | rfl
  · exact ⟨odd_dec (.int _) (by decide +kernel) (by decide +kernel) (by decide +kernel) (by decide +kernel) (by decide +kernel), by decide +kernel⟩
  · exact ⟨odd_dec (.int _) (by decide +kernel) (by decide +kernel) (by decide +kernel) (by decide +kernel) (by decide +kernel), by decide +kernel⟩
  · exact ⟨odd_dec (.int _) (by decide +kernel) (by decide +kernel) (by decide +kernel) (by decide +kernel) (by decide +kernel), by decide +kernel⟩
  · exact ⟨odd_dec .non (by decide +kernel) (by decide +kernel) (by decide +kernel) (by decide +kernel) (by decide +kernel), by decide +kernel⟩
  · exact ⟨odd_dec (.bl _) (by decide +kernel) (by decide +kernel) (by decide +kernel) (by decide +kernel) (by decide +kernel), by decide +kernel⟩
  · exact ⟨odd_dec (.str _) (by decide +kernel) (by decide +kernel) (by decide +kernel) (by decide +kernel) (by decide +kernel), by decide +kernel⟩
theorem losts_ok : ∀ d ∈ losts, Odd d ∧ isN0 d = false := fun d hd => by
  simp only [losts, List.mem_cons, List.not_mem_nil, or_false] at hd
  rcases hd with rfl | rfl | rfl | rfl | rfl
  · exact ⟨odd_dec (.int _) (by decide +kernel) (by decide +kernel) (by decide +kernel) (by decide +kernel) (by decide +kernel), by decide +kernel⟩
  · exact ⟨odd_dec .non (by decide +kernel) (by decide +kernel) (by decide +kernel) (by decide +kernel) (by decide +kernel), by decide +kernel⟩
  · exact ⟨odd_dec (.bl _) (by decide +kernel) (by decide +kernel) (by decide +kernel) (by decide +kernel) (by decide +kernel), by decide +kernel⟩
  · exact ⟨odd_dec (.str _) (by decide +kernel) (by decide +kernel) (by decide +kernel) (by decide +kernel) (by decide +kernel), by decide +kernel⟩
  · exact ⟨odd_dec (.pair _ _) (by decide +kernel) (by decide +kernel) (by decide +kernel) (by decide +kernel) (by decide +kernel), by decide +kernel⟩
theorem wOd {s : Str} (h : PyData.strOk s = true) (w1 w2 : Str) (h1 : PyData.strOk w1 = true) (h2 : PyData.strOk w2 = true) : Od 3 (.tup [.str w1, .str w2, .str s]) :=
  (OdL.tup (n := 2) (.cons (.str h1) (.cons (.str h2) (.cons (.str h) .nil))))
section
variable {P : Program} {w : World} {K : PySem.W.Frag} {mg : Str → Option Value} {base : Heap} {a : Ad}
theorem ok_law (T : Tx K mg a) (hS : Sy mg base a) : FnG P w K mg base true 12 a.f_law a.d_law (["script"] : List Str) (fun _ => spLawT K (tbs a)) := by
  refine fn_goC T.F_law sc_law (fun pl vs H Q E h => by obtain ⟨_, _, rfl, _⟩ := h; rfl) (fun cdv A outer s H vs Q E pl hc hr h => ?_)
  obtain ⟨sa, ns, rfl, hs, hl, hb, ht, q⟩ := h
  refine ⟨_, (pss_cons (ps_set (i := 1) sc_law.nd rfl (Or.inl rfl) (pe_go (ok__law_pen T hS) (hr.mono (by decide)) (pl := []) (fun _ h => nomatch h) (by rfl) T.g__law_pen T.F__law_pen.kp T.b__law_pen lets0 (pa_cons (pv 0) pa_nil)))
      (pss_cons (ps_for (passes_of rfl) rfl (pi_range1 rfl T.n_range (pa_cons pe_int pa_nil)) (pg_name (i := 2) sc_law.nd rfl (Or.inl rfl)) (pss_cons (ps_asg (pe_tup (pa_cons (pe_go (ok__law_prime T hS) (hr.mono (by decide)) (pl := []) (fun _ h => nomatch h) (by rfl) T.g__law_prime T.F__law_prime.kp T.b__law_prime lets0 (pa_cons (pv 1) pa_nil)) (pa_cons (pe_op op_addG pe_int (pe_go (ok__law_draw T hS) (hr.mono (by decide)) (pl := []) (fun _ h => nomatch h) (by rfl) T.g__law_draw T.F__law_draw.kp T.b__law_draw lets0 (pa_cons (pv 1) (pa_cons pe_int pa_nil)))) pa_nil))) (pg_tup rfl (pgs_cons (pg_name (i := 3) sc_law.nd rfl (Or.inr rfl)) (pgs_cons (pg_name (i := 4) sc_law.nd rfl (Or.inr rfl)) pgs_nil))))
      (pss_cons (ps_par (i := 5) (j := 6) rfl sc_law.nd rfl rfl (by decide) rfl rfl (pa_cons (pe_op op_sub (pe_go (ok__law_draw T hS) (hr.mono (by decide)) (pl := []) (fun _ h => nomatch h) (by rfl) T.g__law_draw T.F__law_draw.kp T.b__law_draw lets0 (pa_cons (pv 1) (pa_cons (pe_op op_pow pe_int pe_int) pa_nil))) (pe_op op_mulG pe_int (pe_op op_pow pe_int pe_int))) (pa_cons (pe_op op_addG pe_int (pe_go (ok__law_draw T hS) (hr.mono (by decide)) (pl := []) (fun _ h => nomatch h) (by rfl) T.g__law_draw T.F__law_draw.kp T.b__law_draw lets0 (pa_cons (pv 1) (pa_cons (pe_go (ok__law_pick T hS) (hr.mono (by decide)) (pl := []) (fun _ h => nomatch h) (by rfl) T.g__law_pick T.F__law_pick.kp T.b__law_pick lets0 (pa_cons (pv 1) (pa_cons (pe_lst (pa_cons pe_int (pa_cons pe_int (pa_cons (pe_op op_pow pe_int pe_int) pa_nil)))) pa_nil))) pa_nil)))) pa_nil)) rfl)
      (pss_cons (ps_set (i := 7) sc_law.nd rfl (Or.inr rfl) (pe_go (ok__law_low T hS) (hr.mono (by decide)) (pl := []) (fun _ h => nomatch h) (by rfl) T.g__law_low T.F__law_low.kp T.b__law_low lets0 (pa_cons (pv 5) (pa_cons (pv 6) pa_nil))))
      (pss_cons (ps_set (i := 8) sc_law.nd rfl (Or.inl rfl) (pe_ix ix_seq (pe_go (ok__law_ends T hS) (hr.mono (by decide)) (pl := []) (fun _ h => nomatch h) (by rfl) T.g__law_ends T.F__law_ends.kp T.b__law_ends lets0 (pa_cons (pv 7) pa_nil)) pe_int (fun _ _ => rfl)))
      (pss_cons (ps_if (pt_cmpR (op_eqG hr.hu) (pe_op op_modN (pe_callTy call_intV (by rfl) T.n_int PyProof.Rows.boot_int (pa_cons (pv 8) pa_nil)) (pv 3)) pe_int (nomark _)) (pss_one (ps_if (pt_cmpR (op_neG hr.hu) (pe_lamG (c := a.cc_law) (P := a.tb_law) (k := 5) (by rfl) T.g__law_fault T.F__law_fault T.b__law_fault sc__law_fault rfl (Or.inl rfl) (fun cdg => gives__law_fault T hS cdg) (hS.tb (a.cc_law, a.tb_law) (by simp [tbs])) (hc.symm.trans T.cd_law) (hr.mono (by decide)) (LamX.lamS_by (sc := defScope s_law) (by decide +kernel)) rfl (fun _ _ _ _ _ => rfl) (fun A outer s H E f c hL => (pe_go (ok_rest_of_ratio T hS) (hL.mono (by decide)) (pl := []) (fun _ h => nomatch h) (by rfl) T.g_rest_of_ratio T.F_rest_of_ratio.kp T.b_rest_of_ratio (passAt (takes_of rfl rfl rfl rfl)) (pa_cons (pv 7) (pa_cons (pv 3) (pa_cons (pv 4) pa_nil)))))) (pe_tup (pa_cons pe_str (pa_cons pe_str pa_nil))) (nomark _)) (pss_one (ps_ret pe_bl)) pss_nil)) (pss_cons (ps_par (i := 9) (j := 10) rfl sc_law.nd rfl rfl (by decide) rfl rfl (pa_cons (pe_go (ok_rest_of_ratio T hS) (hr.mono (by decide)) (pl := []) (fun _ h => nomatch h) (by rfl) T.g_rest_of_ratio T.F_rest_of_ratio.kp T.b_rest_of_ratio lets0 (pa_cons (pv 7) (pa_cons (pv 3) (pa_cons (pv 4) pa_nil)))) (pa_cons (pe_go (ok__law_power_of T hS) (hr.mono (by decide)) (pl := []) (fun _ h => nomatch h) (by rfl) T.g__law_power_of T.F__law_power_of.kp T.b__law_power_of lets0 (pa_cons (pv 3) (pa_cons (pv 4) pa_nil))) pa_nil)) rfl)
      (pss_one (ps_if (PW.pt (pw_or (pt_not (pt_val (pe_go (ok__law_is_whole T hS) (hr.mono (by decide)) (pl := []) (fun _ h => nomatch h) (by rfl) T.g__law_is_whole T.F__law_is_whole.kp T.b__law_is_whole lets0 (pa_cons (pv 9) pa_nil)))) (pw_or (pt_not (pt_chain op_le op_lt pe_int (pv 9) (pv 10))) (pw_or1 (pt_cmpR (op_neG hr.hu) (pe_op op_modN (pe_callTy call_intV (by rfl) T.n_int PyProof.Rows.boot_int (pa_cons (pe_op op_sub (pe_op op_mulG (pv 9) (pv 8)) (pe_ix ix_seq (pe_go (ok__law_ends T hS) (hr.mono (by decide)) (pl := []) (fun _ h => nomatch h) (by rfl) T.g__law_ends T.F__law_ends.kp T.b__law_ends lets0 (pa_cons (pv 7) pa_nil)) pe_int (fun _ _ => rfl))) pa_nil)) (pv 10)) pe_int (nomark _)))))) (pss_one (ps_ret pe_bl)) pss_nil))))
      (pss_cons (ps_set (i := 11) sc_law.nd rfl (Or.inl rfl) (pe_go (ok__law_draw T hS) (hr.mono (by decide)) (pl := []) (fun _ h => nomatch h) (by rfl) T.g__law_draw T.F__law_draw.kp T.b__law_draw lets0 (pa_cons (pv 1) (pa_cons pe_int pa_nil))))
      (pss_cons (ps_set (i := 12) sc_law.nd rfl (Or.inl rfl) (pe_op op_mulG (pe_op op_addG pe_int (pe_go (ok__law_draw T hS) (hr.mono (by decide)) (pl := []) (fun _ h => nomatch h) (by rfl) T.g__law_draw T.F__law_draw.kp T.b__law_draw lets0 (pa_cons (pv 1) (pa_cons (pe_op op_pow pe_int pe_int) pa_nil)))) (pe_go (ok__law_pick T hS) (hr.mono (by decide)) (pl := []) (fun _ h => nomatch h) (by rfl) T.g__law_pick T.F__law_pick.kp T.b__law_pick lets0 (pa_cons (pv 1) (pa_cons (pe_lst (pa_cons pe_int (pa_cons (pe_un un_neg pe_int) pa_nil))) pa_nil)))))
      (pss_cons (ps_if (pt_not (pt_val (pe_go (ok__law_is T hS) (hr.mono (by decide)) (pl := []) (fun _ h => nomatch h) (by rfl) T.g__law_is T.F__law_is.kp T.b__law_is lets0 (pa_cons (pe_go (ok_power_in T hS) (hr.mono (by decide)) (pl := []) (fun _ h => nomatch h) (by rfl) T.g_power_in T.F_power_in.kp T.b_power_in lets0 (pa_cons (pe_op op_mulG (pv 12) (pe_go (ok__law_power_of T hS) (hr.mono (by decide)) (pl := []) (fun _ h => nomatch h) (by rfl) T.g__law_power_of T.F__law_power_of.kp T.b__law_power_of lets0 (pa_cons (pv 3) (pa_cons (pv 11) pa_nil)))) (pa_cons (pv 3) pa_nil))) (pa_cons (pe_op op_addG (pv 11) (pe_go (ok__law_times_in T hS) (hr.mono (by decide)) (pl := []) (fun _ h => nomatch h) (by rfl) T.g__law_times_in T.F__law_times_in.kp T.b__law_times_in lets0 (pa_cons (pv 12) (pa_cons (pv 3) pa_nil)))) pa_nil))))) (pss_one (ps_ret pe_bl)) pss_nil)
      (pss_cons (ps_asg (pe_tup (pa_cons (pe_go (ok__law_pick T hS) (hr.mono (by decide)) (pl := []) (fun _ h => nomatch h) (by rfl) T.g__law_pick T.F__law_pick.kp T.b__law_pick lets0 (pa_cons (pv 1) (pa_cons (pe_lst (pa_cons pe_non (pa_cons pe_bl (pa_cons pe_str (pa_cons (pe_tup (pa_cons pe_int (pa_cons pe_int pa_nil))) (pa_cons (pe_tup (pa_cons pe_int (pa_cons pe_int pa_nil))) pa_nil)))))) pa_nil))) (pa_cons (pe_go (ok__law_bad_small_prime T hS) (hr.mono (by decide)) (pl := []) (fun _ h => nomatch h) (by rfl) T.g__law_bad_small_prime T.F__law_bad_small_prime.kp T.b__law_bad_small_prime lets0 (pa_cons (pv 1) pa_nil)) (pa_cons (pe_go (ok__law_pick T hS) (hr.mono (by decide)) (pl := []) (fun _ h => nomatch h) (by rfl) T.g__law_pick T.F__law_pick.kp T.b__law_pick lets0 (pa_cons (pv 1) (pa_cons (pe_lst (pa_cons pe_int (pa_cons (pe_un un_neg pe_int) (pa_cons pe_int (pa_cons pe_non (pa_cons pe_bl (pa_cons pe_str pa_nil))))))) pa_nil))) pa_nil)))) (pg_tup rfl (pgs_cons (pg_name (i := 13) sc_law.nd rfl (Or.inr rfl)) (pgs_cons (pg_name (i := 14) sc_law.nd rfl (Or.inr rfl)) (pgs_cons (pg_name (i := 15) sc_law.nd rfl (Or.inr rfl)) pgs_nil)))))
      (pss_cons (ps_set (i := 9) sc_law.nd rfl (Or.inl rfl) (pe_lst (pa_cons (pe_lamG (c := a.cc_law) (P := a.tb_law) (k := 5) (by rfl) T.g__law_fault T.F__law_fault T.b__law_fault sc__law_fault rfl (Or.inl rfl) (fun cdg => gives__law_fault T hS cdg) (hS.tb (a.cc_law, a.tb_law) (by simp [tbs])) (hc.symm.trans T.cd_law) (hr.mono (by decide)) (LamX.lamS_by (sc := defScope s_law) (by decide +kernel)) rfl (fun _ _ _ _ _ => rfl) (fun A outer s H E f c hL => (pe_go (ok_rest_of_ratio T hS) (hL.mono (by decide)) (pl := []) (fun _ h => nomatch h) (by rfl) T.g_rest_of_ratio T.F_rest_of_ratio.kp T.b_rest_of_ratio (passAt (takes_of rfl rfl rfl rfl)) (pa_cons (pv 13) (pa_cons (pv 14) (pa_cons (pv 15) pa_nil)))))) pa_nil)))
      (pss_cons (ps_expr (pe_bm PySem.F.plainAttrs_list PySem.F.slot_list_append PySem.F.type_list_append mt_append (pv 9) (pa_cons (pe_lamG (c := a.cc_law) (P := a.tb_law) (k := 5) (by rfl) T.g__law_fault T.F__law_fault T.b__law_fault sc__law_fault rfl (Or.inl rfl) (fun cdg => gives__law_fault T hS cdg) (hS.tb (a.cc_law, a.tb_law) (by simp [tbs])) (hc.symm.trans T.cd_law) (hr.mono (by decide)) (LamX.lamS_by (sc := defScope s_law) (by decide +kernel)) rfl (fun _ _ _ _ _ => rfl) (fun A outer s H E f c hL => (pe_go (ok_rest_of_ratio T hS) (hL.mono (by decide)) (pl := []) (fun _ h => nomatch h) (by rfl) T.g_rest_of_ratio T.F_rest_of_ratio.kp T.b_rest_of_ratio (passAt (takes_of rfl rfl rfl rfl)) (pa_cons pe_int (pa_cons (pv 14) (pa_cons (pv 15) pa_nil)))))) pa_nil)))
      (pss_cons (ps_expr (pe_bm PySem.F.plainAttrs_list PySem.F.slot_list_append PySem.F.type_list_append mt_append (pv 9) (pa_cons (pe_lamG (c := a.cc_law) (P := a.tb_law) (k := 5) (by rfl) T.g__law_fault T.F__law_fault T.b__law_fault sc__law_fault rfl (Or.inl rfl) (fun cdg => gives__law_fault T hS cdg) (hS.tb (a.cc_law, a.tb_law) (by simp [tbs])) (hc.symm.trans T.cd_law) (hr.mono (by decide)) (LamX.lamS_by (sc := defScope s_law) (by decide +kernel)) rfl (fun _ _ _ _ _ => rfl) (fun A outer s H E f c hL => (pe_go (ok_rest_of_ratio T hS) (hL.mono (by decide)) (pl := []) (fun _ h => nomatch h) (by rfl) T.g_rest_of_ratio T.F_rest_of_ratio.kp T.b_rest_of_ratio (passAt (takes_of rfl rfl rfl rfl)) (pa_cons (pe_go (ok__law_low T hS) (hL.mono (by decide)) (pl := []) (fun _ h => nomatch h) (by rfl) T.g__law_low T.F__law_low.kp T.b__law_low (passAt (takes_of rfl rfl rfl rfl)) (pa_cons pe_int (pa_cons (pv 3) pa_nil))) (pa_cons (pv 3) (pa_cons (pv 15) pa_nil)))))) pa_nil)))
      (pss_cons (ps_expr (pe_bm PySem.F.plainAttrs_list PySem.F.slot_list_append PySem.F.type_list_append mt_append (pv 9) (pa_cons (pe_lamG (c := a.cc_law) (P := a.tb_law) (k := 5) (by rfl) T.g__law_fault T.F__law_fault T.b__law_fault sc__law_fault rfl (Or.inl rfl) (fun cdg => gives__law_fault T hS cdg) (hS.tb (a.cc_law, a.tb_law) (by simp [tbs])) (hc.symm.trans T.cd_law) (hr.mono (by decide)) (LamX.lamS_by (sc := defScope s_law) (by decide +kernel)) rfl (fun _ _ _ _ _ => rfl) (fun A outer s H E f c hL => (pe_go (ok_rest_of_ratio T hS) (hL.mono (by decide)) (pl := []) (fun _ h => nomatch h) (by rfl) T.g_rest_of_ratio T.F_rest_of_ratio.kp T.b_rest_of_ratio (passAt (takes_of rfl rfl rfl rfl)) (pa_cons (pe_go (ok__law_low T hS) (hL.mono (by decide)) (pl := []) (fun _ h => nomatch h) (by rfl) T.g__law_low T.F__law_low.kp T.b__law_low (passAt (takes_of rfl rfl rfl rfl)) (pa_cons pe_int (pa_cons (pv 3) pa_nil))) (pa_cons (pv 3) (pa_cons pe_int pa_nil)))))) pa_nil)))
      (pss_cons (ps_if (pt_cmpR (op_neG hr.hu) (pv 9) (pe_lst (pa_cons (pe_tup (pa_cons pe_str (pa_cons pe_str (pa_cons (pe_callB (call_repr hS.sys (hr.gd) hr.hu) (by rfl) T.n_repr PyProof.Rows.boot_repr (pa_cons (pv 13) pa_nil)) pa_nil)))) (pa_cons (pe_tup (pa_cons pe_str (pa_cons pe_str (pa_cons (pe_callB (call_repr hS.sys (hr.gd) hr.hu) (by rfl) T.n_repr PyProof.Rows.boot_repr (pa_cons (pv 14) pa_nil)) pa_nil)))) (pa_cons (pe_tup (pa_cons pe_str (pa_cons pe_str (pa_cons (pe_callB (call_repr hS.sys (hr.gd) hr.hu) (by rfl) T.n_repr PyProof.Rows.boot_repr (pa_cons (pv 15) pa_nil)) pa_nil)))) (pa_cons (pe_tup (pa_cons pe_str (pa_cons pe_str pa_nil))) pa_nil))))) (nomark _)) (pss_one (ps_ret pe_bl)) pss_nil)
      (pss_cons (ps_set (i := 16) sc_law.nd rfl (Or.inr rfl) (pe_go (ok__law_pick T hS) (hr.mono (by decide)) (pl := []) (fun _ h => nomatch h) (by rfl) T.g__law_pick T.F__law_pick.kp T.b__law_pick lets0 (pa_cons (pv 1) (pa_cons (pe_lst (pa_cons pe_int (pa_cons pe_non (pa_cons pe_bl (pa_cons pe_str (pa_cons (pe_tup (pa_cons pe_int (pa_cons pe_int pa_nil))) pa_nil)))))) pa_nil))))
      (pss_cons (ps_if (pt_cmpR (op_neG hr.hu) (pe_lamG (c := a.cc_law) (P := a.tb_law) (k := 5) (by rfl) T.g__law_fault T.F__law_fault T.b__law_fault sc__law_fault rfl (Or.inl rfl) (fun cdg => gives__law_fault T hS cdg) (hS.tb (a.cc_law, a.tb_law) (by simp [tbs])) (hc.symm.trans T.cd_law) (hr.mono (by decide)) (LamX.lamS_by (sc := defScope s_law) (by decide +kernel)) rfl (fun _ _ _ _ _ => rfl) (fun A outer s H E f c hL => (pe_go (ok_power_in T hS) (hL.mono (by decide)) (pl := []) (fun _ h => nomatch h) (by rfl) T.g_power_in T.F_power_in.kp T.b_power_in (passAt (takes_of rfl rfl rfl rfl)) (pa_cons (pv 16) (pa_cons (pv 14) pa_nil))))) (pe_tup (pa_cons pe_str (pa_cons pe_str (pa_cons (pe_callB (call_repr hS.sys (hr.gd) hr.hu) (by rfl) T.n_repr PyProof.Rows.boot_repr (pa_cons (pv 16) pa_nil)) pa_nil)))) (nomark _)) (pss_one (ps_ret pe_bl)) pss_nil)
      (pss_one (ps_if (pt_cmpR (op_neG hr.hu) (pe_lamG (c := a.cc_law) (P := a.tb_law) (k := 5) (by rfl) T.g__law_fault T.F__law_fault T.b__law_fault sc__law_fault rfl (Or.inl rfl) (fun cdg => gives__law_fault T hS cdg) (hS.tb (a.cc_law, a.tb_law) (by simp [tbs])) (hc.symm.trans T.cd_law) (hr.mono (by decide)) (LamX.lamS_by (sc := defScope s_law) (by decide +kernel)) rfl (fun _ _ _ _ _ => rfl) (fun A outer s H E f c hL => (pe_go (ok_power_in T hS) (hL.mono (by decide)) (pl := []) (fun _ h => nomatch h) (by rfl) T.g_power_in T.F_power_in.kp T.b_power_in (passAt (takes_of rfl rfl rfl rfl)) (pa_cons pe_int (pa_cons (pv 14) pa_nil))))) (pe_tup (pa_cons pe_str (pa_cons pe_str (pa_cons (pe_callB (call_repr hS.sys (hr.gd) hr.hu) (by rfl) T.n_repr PyProof.Rows.boot_repr (pa_cons (pv 14) pa_nil)) pa_nil)))) (nomark _)) (pss_one (ps_ret pe_bl)) pss_nil)))))))))))))))))))
      (pss_one (ps_ret (pe_and (pe_go (ok__law_is T hS) (hr.mono (by decide)) (pl := []) (fun _ h => nomatch h) (by rfl) T.g__law_is T.F__law_is.kp T.b__law_is lets0 (pa_cons (pe_go (ok_rest_of_ratio T hS) (hr.mono (by decide)) (pl := []) (fun _ h => nomatch h) (by rfl) T.g_rest_of_ratio T.F_rest_of_ratio.kp T.b_rest_of_ratio lets0 (pa_cons (pe_tup (pa_cons pe_int (pa_cons pe_int pa_nil))) (pa_cons pe_int (pa_cons pe_int pa_nil)))) (pa_cons pe_int pa_nil))) (pe_one (pe_go (ok__law_is T hS) (hr.mono (by decide)) (pl := []) (fun _ h => nomatch h) (by rfl) T.g__law_is T.F__law_is.kp T.b__law_is lets0 (pa_cons (pe_go (ok_power_in T hS) (hr.mono (by decide)) (pl := []) (fun _ h => nomatch h) (by rfl) T.g_power_in T.F_power_in.kp T.b_power_in lets0 (pa_cons (pe_un un_neg pe_int) (pa_cons pe_int pa_nil))) (pa_cons pe_int pa_nil))))))))), ?_⟩
  have ht2 : ∀ p ∈ tbq a, H p.1 = some (.tbl #[]) := fun p hp => by
    rw [List.mem_singleton.mp hp]
    exact ht _ (List.mem_singleton.mpr rfl)
  refine law_startT (n := 15) (T := tbq a) rfl hs hl hb ht2 (fun b hbT => ?_) q
  have hT : (a.tb_law, ("law" : Str) ++ ".<locals>." ++ "<lambda>") ∈ b.T := by rw [hbT]; exact List.mem_singleton.mpr rfl
  have hu : ∀ p ∈ b.T, p.1 = a.tb_law → p.2 = ("law" : Str) ++ ".<locals>." ++ "<lambda>" := fun p hp _ => by
    rw [hbT] at hp
    rw [List.mem_singleton.mp hp]
  have pw : ∀ n : Int, 0 ≤ n → n ≤ 100 → CPow 10 n := fun n h1 h2 => ⟨h1, by omega, by decide⟩
  refine ds_seq (ds_forR1 (da_cons (de_int (da_nil ⟨8, rfl, by decide, by decide, fun i ρ => ∃ s2 s3 s4 s5 s6 s7 s8 s9 s10 s11 s12 s13 s14 s15 s16, ρ = [.no, .pen, s2, s3, s4, s5, s6, s7, s8, s9, s10, s11, s12, s13, s14, s15, s16], ⟨.no, .no, .no, .no, .no, .no, .no, .no, .no, .no, .no, .no, .no, .no, .no, rfl⟩, fun i ρ hi h => ?_, fun ρ h => ?_⟩))))
  · obtain ⟨s2, s3, s4, s5, s6, s7, s8, s9, s10, s11, s12, s13, s14, s15, s16, rfl⟩ := h
    refine dg_name (ds_seq (ds_asgG (de_tup (da_cons (de_call EL.no (dc_pen rfl (dc_nil ⟨rfl, fun p hp => ?_⟩)))))))
    obtain ⟨p2, p3⟩ := spn_lo hp
    refine da_cons (de_addI (de_int (de_call EL.no (dc_pen rfl (dc_cons (de_int (dc_nil ⟨8, rfl, by decide, draw_ok (by decide) (by decide), fun k0 k1 k2 => ⟨1, k0, rfl, rfl, ?_⟩⟩)))))))
    refine da_nil ⟨by simp, dg_tup rfl rfl (dgs_cons (dg_name (dgs_cons (dg_name (dgs_nil ?_)))))⟩
    obtain ⟨k, rfl⟩ := Int.eq_ofNat_of_zero_le k1
    refine ds_seq (ds_par (da_cons (de_I0 (de_call EL.no (dc_pen rfl (dc_cons (de_II (de_int (de_int ⟨10, 12, rfl, rfl, pw _ (by decide) (by decide), ?_⟩)))))))))
    refine dc_nil ⟨10 ^ 12, rfl, by decide, draw_ok (by decide) (by decide), fun t0 t1 t2 => ?_⟩
    refine de_II (de_int (de_II (de_int (de_int ⟨10, 11, rfl, rfl, pw _ (by decide) (by decide), 5, _, rfl, rfl, mul_small (Or.inl ⟨by decide, by decide⟩), t0, _, rfl, rfl, ?_⟩))))
    have tl : (t0 - 5 * 10 ^ (11 : Int).toNat).natAbs ≤ 2 ^ 60 := by
      have e : (5 : Int) * 10 ^ (11 : Int).toNat = 500000000000 := by decide +kernel
      have e2 : (10 : Int) ^ (12 : Int).toNat = 1000000000000 := by decide +kernel
      rw [e]
      omega
    generalize t0 - 5 * 10 ^ (11 : Int).toNat = top at tl
    refine da_cons (de_addI (de_int (de_call EL.no (dc_pen rfl (dc_cons (de_call EL.no (dc_pen rfl (dc_cons (de_lst ?_)))))))))
    refine da_cons (de_int (da_cons (de_int (da_cons (de_II (de_int (de_int ⟨10, 10, rfl, rfl, pw _ (by decide) (by decide), da_nil ⟨by simp, dc_nil ⟨_, _, rfl, rfl, (fun z => nomatch z), by simp, fun d hd => ?_⟩⟩⟩)))))))
    have hd' : ∃ m : Int, d = .int m ∧ 0 < m ∧ m ≤ 10000000000 := by
      simp only [List.mem_cons, List.not_mem_nil, or_false] at hd
      rcases hd with rfl | rfl | rfl
      · exact ⟨_, rfl, by decide, by decide⟩
      · exact ⟨_, rfl, by decide, by decide⟩
      · exact ⟨_, rfl, by decide +kernel, by decide +kernel⟩
    obtain ⟨m, rfl, m1, m2⟩ := hd'
    refine dc_nil ⟨m, rfl, m1, draw_ok m1 (by omega), fun v0 v1 v2 => ⟨1, v0, rfl, rfl, da_nil ⟨_, _, rfl, ?_⟩⟩⟩
    have b1 : 0 < 1 + v0 := by omega
    have b2 : 1 + v0 ≤ 2 ^ 60 := by omega
    generalize 1 + v0 = bot at b1 b2
    refine ds_seq (ds_asg (de_call EL.no (dc_cons (de_var rfl (dc_cons (de_var rfl (dc_nil ⟨top, bot, rfl, b1, b2, ?_⟩)))))))
    obtain ⟨x, y, hV, hRt, hPr, y0, y1, x1⟩ := low_facts (t := top) b1
    generalize lowD top bot = rt at hV hRt hPr
    refine ds_seq (ds_asg (de_ix (de_call EL.no (dc_cons (de_var rfl (dc_nil ⟨rt, rfl, hV.rt hRt, ?_⟩))))))
    rw [hPr]
    refine de_int ⟨1, .int y, rfl, rfl, ?_⟩
    have hK : isK (.int (1 + (k : Int))) = true := by
      show (decide ((1 : Int) ≤ 1 + k) && decide ((1 : Int) + k ≤ 60)) = true
      rw [decide_eq_true (by omega), decide_eq_true (by omega)] <;> rfl
    have hk8 : k + 1 ≤ 60 := by omega
    obtain ⟨q1, q2⟩ := pow_big p2 p3 (show 1 ≤ k + 1 by omega) hk8
    have eK : D.int (1 + (k : Int)) = .int ((k + 1 : Nat) : Int) := congrArg D.int (by omega)
    refine ds_seq (DS.mid (mid := fun ρ => ∃ s9 s10, ρ = [.no, .pen, .sh (.int i), .sh (.int p), .sh (.int (1 + k)), .sh (.int top), .sh (.int bot), .sh rt, .sh (.int y), s9, s10, s11, s12, s13, s14, s15, s16]) ?_ fun ρ h => ?_)
    · refine ds_if (dt_test (de_eqI (de_II (de_intc (de_var rfl (Or.inl ⟨y, rfl, de_var rfl ⟨y, p, rfl, rfl, by omega, de_int ⟨_, 0, rfl, rfl, _, rfl, ?_⟩⟩⟩))))))
      refine ite2 (fun z => ?_) (fun z => ?_)
      · have hb : y.fmod p = 0 := of_decide_eq_true z
        refine ds_if (dt_test (de_neA (de_lam hT hu (fun b1 E eM eT hE => de_call hE (dc_cons (de_var rfl (dc_cons (de_var rfl (dc_cons (de_var rfl (dc_nil ⟨rt, .int p, .int (1 + k), rfl, hV, .int p, .int _, ?_⟩))))))) ) (FoU ?_))))
        · rw [if_pos hRt, if_pos (show isP (.int p) = true from hp), if_pos hK]
          refine ⟨x, y, p, k + 1, hPr, rfl, eK, ?_⟩
          rw [if_pos hb]
          exact ⟨rfl, rfl⟩
        · exact de_tup (da_cons (de_str (da_cons (de_str (da_nil ⟨by decide, by decide +kernel, by decide +kernel, false, congrArg D.bl (by decide +kernel), iteF (ds_next ⟨_, _, rfl⟩)⟩)))))
      · have hb : ¬ y.fmod p = 0 := fun w => z (decide_eq_true w)
        refine ds_seq (ds_par (da_cons (de_call EL.no (dc_cons (de_var rfl (dc_cons (de_var rfl (dc_cons (de_var rfl (dc_nil ⟨rt, .int p, .int (1 + k), rfl, hV, .int p, .int _, ?_⟩)))))))) ))
        rw [if_pos hRt, if_pos (show isP (.int p) = true from hp), if_pos hK]
        refine ⟨x, y, p, k + 1, hPr, rfl, eK, ?_⟩
        rw [if_neg hb]
        refine ⟨?_, fun r r0 r1 hr => da_cons (de_call EL.no (dc_cons (de_var rfl (dc_cons (de_var rfl (dc_nil ⟨p, k + 1, by rw [eK], p2, p3, by omega, da_nil ⟨_, _, rfl, ?_⟩⟩))))))⟩
        · by_cases w : x = 0
          · subst w; decide
          · have e61 : (2 : Nat) ^ 61 = 2 * 2 ^ 60 := by decide
            have xl : x.natAbs < 2 ^ 61 := by omega
            exact Nat.lt_of_lt_of_le ((Nat.log2_lt (by omega)).mpr xl) (by decide)
        generalize p ^ (k + 1) = q at q1 q2 r1 hr
        refine ds_if (dt_or (dt_not (dt_test (de_call EL.no (dc_cons (de_var rfl (dc_nil ⟨_, rfl, .int r, true, rfl, iteF ?_⟩)))))))
        refine dt_or (dt_not (dt_test (de_chainI (de_int (de_var rfl ⟨0, r, rfl, rfl, ?_⟩)))))
        rw [decide_eq_true r0]
        refine iteT (de_var rfl ⟨q, rfl, true, by rw [decide_eq_true r1], iteF ?_⟩)
        refine dt_test (de_neI (de_II (de_intc (de_I0 (de_II (de_var rfl (de_var rfl ⟨r, y, rfl, rfl, mul_small (Or.inr ⟨by omega, by omega⟩), ?_⟩)))))))
        refine de_ix (de_call EL.no (dc_cons (de_var rfl (dc_nil ⟨rt, rfl, hV.rt hRt, ?_⟩))))
        rw [hPr]
        refine de_int ⟨0, .int x, rfl, rfl, r * y, x, rfl, rfl, Or.inl ⟨_, rfl, de_var rfl ⟨_, q, rfl, rfl, by omega, de_int ⟨_, 0, rfl, rfl, false, ?_, iteF (ds_next ⟨_, _, rfl⟩)⟩⟩⟩⟩
        rw [(fmod_dvd (by omega)).mpr hr] <;> rfl
    obtain ⟨s9', s10', rfl⟩ := h
    -- 6, 7: a number with planted powers
    refine ds_seq (ds_asg (de_call EL.no (dc_pen rfl (dc_cons (de_int (dc_nil ⟨30, rfl, by decide, draw_ok (by decide) (by decide), fun tm0 tm1 tm2 => ?_⟩))))))
    obtain ⟨tm, rfl⟩ := Int.eq_ofNat_of_zero_le tm1
    refine ds_seq (ds_asg (de_II (de_addI (de_int (de_call EL.no (dc_pen rfl (dc_cons (de_II (de_int (de_int ⟨10, 6, rfl, rfl, pw _ (by decide) (by decide), dc_nil ⟨10 ^ (6 : Int).toNat, rfl, by decide +kernel, draw_ok (by decide +kernel) (by decide +kernel), fun n0 n1 n2 => ⟨1, n0, rfl, rfl, ?_⟩⟩⟩))))))))))
    have n3 : n0 < 1000000 := n2
    refine de_call EL.no (dc_pen rfl (dc_cons (de_lst (da_cons (de_int (da_cons (de_un (de_int ⟨1, rfl, da_nil ⟨by simp, dc_nil ⟨_, _, rfl, rfl, (fun z => nomatch z), by simp, fun d hd => ?_⟩⟩⟩))))))))
    have hd' : ∃ sg : Int, d = .int sg ∧ (sg = 1 ∨ sg = -1) := by
      simp only [List.mem_cons, List.not_mem_nil, or_false] at hd
      rcases hd with rfl | rfl
      · exact ⟨_, rfl, Or.inl rfl⟩
      · exact ⟨_, rfl, Or.inr rfl⟩
    obtain ⟨sg, rfl, hsg⟩ := hd'
    refine ⟨1 + n0, sg, rfl, rfl, mul_small (Or.inl ⟨by omega, by omega⟩), ?_⟩
    have nn : (1 + n0) * sg ≠ 0 ∧ -1000000 ≤ (1 + n0) * sg ∧ (1 + n0) * sg ≤ 1000000 := by
      rcases hsg with rfl | rfl
      · omega
      · omega
    generalize (1 + n0) * sg = nu at nn
    obtain ⟨nu0, nu1, nu2⟩ := nn
    have pt : p ^ tm ≠ 0 := by
      have : 0 < p ^ tm := Int.pow_pos (by omega)
      omega
    -- 8: how often the prime goes into it
    refine ds_seq (ds_if (dt_not (dt_test (de_call EL.no (dc_cons (de_call EL.no (dc_cons (de_II (de_var rfl (de_call EL.no (dc_cons (de_var rfl (dc_cons (de_var rfl (dc_nil ⟨p, tm, rfl, p2, p3, by omega, nu, _, rfl, rfl, mul_small (Or.inl ⟨by omega, by omega⟩), ?_⟩)))))))))))))))
    refine dc_cons (de_var rfl (dc_nil ⟨.int (nu * p ^ tm), .int p, rfl, .int _, .int p, ?_⟩))
    rw [if_pos (show isN0 (.int (nu * p ^ tm)) = true by
      have : nu * p ^ tm ≠ 0 := Int.mul_ne_zero nu0 pt
      simp [isN0, this]), if_pos (show isP (.int p) = true from hp)]
    refine ⟨_, p, rfl, rfl, fun c m hm1 hm2 => ?_⟩
    refine dc_cons (de_addI (de_var rfl (de_call EL.no (dc_cons (de_var rfl (dc_cons (de_var rfl (dc_nil ⟨nu, p, rfl, nu0, p2, p3, fun c0 m0 f1 f2 => ⟨tm, c0, rfl, rfl, dc_nil ⟨c, (tm : Int) + c0, rfl, true, ?_, iteF (ds_next ?_)⟩⟩⟩))))))))
    · have : c = c0 + tm := uniq p2 (by rw [← hm1, f1, Int.mul_assoc, ← Int.pow_add]) hm2 f2
      exact congrArg D.bl (decide_eq_true (by omega))
    -- 9: values with something wrong
    refine ds_seq (ds_asgG (de_tup (da_cons (de_call EL.no (dc_pen rfl (dc_cons (de_lst ?_)))))))
    refine da_cons (de_non (da_cons (de_bl (da_cons (de_str (da_cons (de_tup (da_cons (de_int (da_cons (de_int (da_nil ⟨by simp, ?_⟩))))))))))))
    refine da_cons (de_tup (da_cons (de_int (da_cons (de_int (da_nil ⟨by simp, da_nil ⟨by simp, dc_nil ⟨_, _, rfl, rfl, (fun z => nomatch z), by simp, fun od hod => ?_⟩⟩⟩))))))
    obtain ⟨oo, hod⟩ := odds_ok od hod
    refine da_cons (de_call EL.no (dc_pen rfl (dc_nil ⟨rfl, fun bd ob hbd => ?_⟩)))
    refine da_cons (de_call EL.no (dc_pen rfl (dc_cons (de_lst ?_))))
    refine da_cons (de_int (da_cons (de_un (de_int ⟨1, rfl, da_cons (de_int (da_cons (de_non (da_cons (de_bl (da_cons (de_str (da_nil ⟨by simp, dc_nil ⟨_, _, rfl, rfl, (fun z => nomatch z), by simp, fun ws hws => ?_⟩⟩))))))))⟩))))
    obtain ⟨ow, hws⟩ := worses_ok ws hws
    refine da_nil ⟨by simp, dg_tup rfl rfl (dgs_cons (dg_name (dgs_cons (dg_name (dgs_cons (dg_name (dgs_nil ?_)))))))⟩
    -- the four faults
    have oB := ob.v
    have fR : ∀ (x y z : D) (X : Addr → List (Str × D) → Prop), isRt x = false → X a.c_BadNumber [("number", x), ("what", .str "ratio")] →
        (if isRt x = true then (if isP y = true then (if isK z = true then RRok a x y z (fun _ => False) X else X a.c_BadNumber [("number", z), ("what", .str "k")]) else X a.c_BadNumber [("number", y), ("what", .str "p")]) else X a.c_BadNumber [("number", x), ("what", .str "ratio")]) := fun x y z X h1 h2 => by
      rw [h1, if_neg (by decide)]
      exact h2
    have l1 := low1 p2
    refine ds_seq (ds_own (dn_lst (da_cons (de_lam hT hu (fun b1 E eM eT hE => de_call hE (dc_cons (de_var rfl (dc_cons (de_var rfl (dc_cons (de_var rfl (dc_nil ⟨od, bd, ws, rfl, oo.v, oB, ow.v, ?_⟩)))))))) (FoB (wd := "ratio") oo.ok (da_nil ⟨by simp, ?_⟩))))))
    · rw [hod, if_neg (by decide)]
      exact ⟨rfl, rfl⟩
    refine ds_seq (ds_app (i := 9) rfl (de_lam hT hu (fun b1 E eM eT hE => de_call hE (dc_cons (de_int (dc_cons (de_var rfl (dc_cons (de_var rfl (dc_nil ⟨.int 3, bd, ws, rfl, .int 3, oB, ow.v, ?_⟩)))))))) (FoB (wd := "p") ob.ok ⟨by simp, ?_⟩)))
    · rw [if_pos (show isRt (.int 3) = true from rfl), hbd, if_neg (by decide)]
      exact ⟨rfl, rfl⟩
    refine ds_seq (ds_app (i := 9) rfl (de_lam hT hu (fun b1 E eM eT hE => de_call hE (dc_cons (de_call EL.no (dc_cons (de_int (dc_cons (de_var rfl (dc_nil ⟨1, p, rfl, by omega, by omega, ?_⟩)))))))) (FoB (wd := "k") ow.ok ⟨by simp, ?_⟩)))
    · rw [l1]
      refine dc_cons (de_var rfl (dc_cons (de_var rfl (dc_nil ⟨_, .int p, ws, rfl, .pair 1 p, .int p, ow.v, ?_⟩))))
      have r1 : isRt (.tup [.int 1, .int p]) = true := by
        show (decide (p > 1) && decide (((Nat.gcd (1 : Int).natAbs p.natAbs : Nat) : Int) = 1)) = true
        rw [show Nat.gcd (1 : Int).natAbs p.natAbs = 1 from Nat.gcd_one_left _, decide_eq_true (by omega)]
        rfl
      rw [if_pos r1, if_pos (show isP (.int p) = true from hp), hws, if_neg (by decide)]
      exact ⟨rfl, rfl⟩
    refine ds_seq (ds_app (i := 9) rfl (de_lam hT hu (fun b1 E eM eT hE => de_call hE (dc_cons (de_call EL.no (dc_cons (de_int (dc_cons (de_var rfl (dc_nil ⟨1, p, rfl, by omega, by omega, ?_⟩)))))))) (FoU ⟨by simp, ?_⟩)))
    · rw [l1]
      refine dc_cons (de_var rfl (dc_cons (de_int (dc_nil ⟨_, .int p, .int 1, rfl, .pair 1 p, .int p, .int 1, ?_⟩))))
      have r1 : isRt (.tup [.int 1, .int p]) = true := by
        show (decide (p > 1) && decide (((Nat.gcd (1 : Int).natAbs p.natAbs : Nat) : Int) = 1)) = true
        rw [show Nat.gcd (1 : Int).natAbs p.natAbs = 1 from Nat.gcd_one_left _, decide_eq_true (by omega)]
        rfl
      rw [if_pos r1, if_pos (show isP (.int p) = true from hp), if_pos (show isK (.int 1) = true by decide +kernel)]
      refine ⟨1, p, p, 1, rfl, rfl, rfl, ?_⟩
      rw [if_pos ((fmod_dvd (by omega)).mpr ⟨1, by omega⟩)]
      exact ⟨rfl, rfl⟩
    refine ds_seq (ds_share (i := 9) rfl (ds_if (dt_test (de_neA (de_var rfl (de_lst ?_))))))
    refine da_cons (de_tup (da_cons (de_str (da_cons (de_str (da_cons (de_repr (de_var rfl ⟨oo.ok, da_nil ⟨by simp, ?_⟩⟩))))))))
    refine da_cons (de_tup (da_cons (de_str (da_cons (de_str (da_cons (de_repr (de_var rfl ⟨ob.ok, da_nil ⟨by simp, ?_⟩⟩))))))))
    refine da_cons (de_tup (da_cons (de_str (da_cons (de_str (da_cons (de_repr (de_var rfl ⟨ow.ok, da_nil ⟨by simp, ?_⟩⟩))))))))
    refine da_cons (de_tup (da_cons (de_str (da_cons (de_str (da_nil ⟨by simp, da_nil ⟨by simp, ?_⟩⟩))))))
    have sN : PyData.strOk "number" = true := by decide +kernel
    have sP : PyData.strOk "p" = true := by decide +kernel
    have O : Od 4 (.lst [.tup [.str "number", .str "ratio", .str od.py.shown], .tup [.str "number", .str "p", .str bd.py.shown], .tup [.str "number", .str "k", .str ws.py.shown], .tup [.str "unlike", .str "ratio"]]) :=
      OdL.lst (n := 3) (.cons (wOd oo.so _ _ sN (by decide +kernel)) (.cons (wOd ob.so _ _ sN sP) (.cons (wOd ow.so _ _ sN (by decide +kernel)) (.cons (Od.dec (by decide +kernel) (by decide +kernel) (by decide +kernel) (by decide +kernel)) .nil))))
    refine ⟨O.ok (by decide), O.ok (by decide), false, congrArg (fun c => D.bl (!c)) O.refl, iteF (ds_next ?_)⟩
    -- a lost number
    refine ds_seq (ds_asg (de_call EL.no (dc_pen rfl (dc_cons (de_lst ?_)))))
    refine da_cons (de_int (da_cons (de_non (da_cons (de_bl (da_cons (de_str (da_cons (de_tup (da_cons (de_int (da_cons (de_int (da_nil ⟨by simp, da_nil ⟨by simp, dc_nil ⟨_, _, rfl, rfl, (fun z => nomatch z), by simp, fun lo hlo => ?_⟩⟩⟩))))))))))))))
    obtain ⟨ol, hlo⟩ := losts_ok lo hlo
    have O1 := wOd ol.so "number" "number" sN sN
    have O2 := wOd ob.so "number" "p" sN sP
    refine ds_seq (ds_if (dt_test (de_neA (de_lam hT hu (fun b1 E eM eT hE => de_call hE (dc_cons (de_var rfl (dc_cons (de_var rfl (dc_nil ⟨lo, bd, rfl, ol.v, oB, ?_⟩)))))) (FoB (wd := "number") ol.ok ?_)))))
    · rw [hlo, if_neg (by decide)]
      exact ⟨rfl, rfl⟩
    refine de_tup (da_cons (de_str (da_cons (de_str (da_cons (de_repr (de_var rfl ⟨ol.ok, da_nil ⟨by simp, O1.ok (by decide), O1.ok (by decide), false, congrArg (fun c => D.bl (!c)) O1.refl, iteF (ds_next ?_)⟩⟩)))))))
    refine ds_if (dt_test (de_neA (de_lam hT hu (fun b1 E eM eT hE => de_call hE (dc_cons (de_int (dc_cons (de_var rfl (dc_nil ⟨.int 7, bd, rfl, .int 7, oB, ?_⟩)))))) (FoB (wd := "p") ob.ok ?_))))
    · rw [if_pos (show isN0 (.int 7) = true by decide +kernel), hbd, if_neg (by decide)]
      exact ⟨rfl, rfl⟩
    refine de_tup (da_cons (de_str (da_cons (de_str (da_cons (de_repr (de_var rfl ⟨ob.ok, da_nil ⟨by simp, O2.ok (by decide), O2.ok (by decide), false, congrArg (fun c => D.bl (!c)) O2.refl, iteF (ds_next ⟨_, _, _, _, _, _, _, _, _, _, _, _, _, _, _, rfl⟩)⟩⟩)))))))
  · obtain ⟨s2, s3, s4, s5, s6, s7, s8, s9, s10, s11, s12, s13, s14, s15, s16, rfl⟩ := h
    refine ds_ret (de_andV (de_call EL.no (dc_cons (de_call EL.no (dc_cons (de_tup (da_cons (de_int (da_cons (de_int (da_nil ⟨by simp, ?_⟩)))))))))))
    refine dc_cons (de_int (dc_cons (de_int (dc_nil ⟨.tup [.int 1, .int 3], .int 2, .int 3, rfl, .pair 1 3, .int 2, .int 3, ?_⟩))))
    rw [if_pos (show isRt (.tup [.int 1, .int 3]) = true by decide +kernel), if_pos (show isP (.int 2) = true by decide +kernel), if_pos (show isK (.int 3) = true by decide +kernel)]
    refine ⟨1, 3, 2, 3, rfl, rfl, rfl, ?_⟩
    rw [if_neg (by decide +kernel)]
    refine ⟨by decide +kernel, fun r r0 r1 hr => dc_cons (de_int (dc_nil ⟨r, 3, rfl, true, ?_, iteT ?_⟩))⟩
    · have e : (2 : Int) ^ 3 = 8 := by decide
      rw [e] at r1 hr
      have : r = 3 := by omega
      exact congrArg D.bl (decide_eq_true this)
    refine de_call EL.no (dc_cons (de_call EL.no (dc_cons (de_un (de_int ⟨72, rfl, dc_cons (de_int (dc_nil ⟨.int (-72), .int 2, rfl, .int _, .int 2, ?_⟩))⟩)))))
    rw [if_pos (show isN0 (.int (-72)) = true by decide +kernel), if_pos (show isP (.int 2) = true by decide +kernel)]
    refine ⟨-72, 2, rfl, rfl, fun c m hm1 hm2 => dc_cons (de_int (dc_nil ⟨c, 3, rfl, ?_⟩))⟩
    have : c = 3 := uniq (p := 2) (m' := -9) (by decide) (hm1.symm.trans (by decide)) hm2 (by decide)
    exact congrArg D.bl (decide_eq_true (by omega))
end
end Law

set_option Elab.async false
set_option linter.all false
set_option maxRecDepth 100000
set_option maxHeartbeats 4000000
namespace Law
open PySem PySem.Spec PyProof.Rows L2 G
theorem all_mk {K : PySem.W.Frag} {h : Heap} {mg : Str → Option Value} {fa : Addr} (X : K.In h) (G : h.Ns mainGlobals mg) (hfa : mg "law" = some (.ref fa))
    {f0 : Addr} {od0 an0 : Option Addr} {sl0 : Array (Option Value)} {oc0 kV0 dc0 pm0 ct0 : Value}
    {cd0 : Value}
    {f1 : Addr} {od1 an1 : Option Addr} {sl1 : Array (Option Value)} {oc1 kV1 dc1 pm1 ct1 : Value}
    {cd1 : Value}
    {f2 : Addr} {od2 an2 : Option Addr} {sl2 : Array (Option Value)} {oc2 kV2 dc2 pm2 ct2 : Value}
    {cd2 : Value}
    {f3 : Addr} {od3 an3 : Option Addr} {sl3 : Array (Option Value)} {oc3 kV3 dc3 pm3 ct3 : Value}
    {cd3 : Value}
    {f4 : Addr} {od4 an4 : Option Addr} {sl4 : Array (Option Value)} {oc4 kV4 dc4 pm4 ct4 : Value}
    {cd4 : Value}
    {f5 : Addr} {od5 an5 : Option Addr} {sl5 : Array (Option Value)} {oc5 kV5 dc5 pm5 ct5 : Value}
    {cd5 : Value}
    {f6 : Addr} {od6 an6 : Option Addr} {sl6 : Array (Option Value)} {oc6 kV6 dc6 pm6 ct6 : Value}
    {cd6 : Value}
    {f7 : Addr} {od7 an7 : Option Addr} {sl7 : Array (Option Value)} {oc7 kV7 dc7 pm7 ct7 : Value}
    {cd7 : Value}
    {f8 : Addr} {od8 an8 : Option Addr} {sl8 : Array (Option Value)} {oc8 kV8 dc8 pm8 ct8 : Value}
    {cd8 : Value}
    {f9 : Addr} {od9 an9 : Option Addr} {sl9 : Array (Option Value)} {oc9 kV9 dc9 pm9 ct9 : Value}
    {cd9 : Value}
    {f10 : Addr} {od10 an10 : Option Addr} {sl10 : Array (Option Value)} {oc10 kV10 dc10 pm10 ct10 : Value}
    {cd10 : Value}
    {f11 : Addr} {od11 an11 : Option Addr} {sl11 : Array (Option Value)} {oc11 kV11 dc11 pm11 ct11 : Value}
    {cd11 : Value}
    {f12 : Addr} {od12 an12 : Option Addr} {sl12 : Array (Option Value)} {oc12 kV12 dc12 pm12 ct12 : Value}
    {cd12 : Value}
    {f13 : Addr} {od13 an13 : Option Addr} {sl13 : Array (Option Value)} {oc13 kV13 dc13 pm13 ct13 : Value}
    {cd13 : Value}
    {f14 : Addr} {od14 an14 : Option Addr} {sl14 : Array (Option Value)} {oc14 kV14 dc14 pm14 ct14 : Value}
    {cd14 : Value}
    {f15 : Addr} {od15 an15 : Option Addr} {sl15 : Array (Option Value)} {oc15 kV15 dc15 pm15 ct15 : Value}
    {cd15 : Value}
    {f16 : Addr} {od16 an16 : Option Addr} {sl16 : Array (Option Value)} {oc16 kV16 dc16 pm16 ct16 : Value}
    {cd16 : Value}
    {f17 : Addr} {od17 an17 : Option Addr} {sl17 : Array (Option Value)} {oc17 kV17 dc17 pm17 ct17 : Value}
    {cd17 : Value}
    {f18 : Addr} {od18 an18 : Option Addr} {sl18 : Array (Option Value)} {oc18 kV18 dc18 pm18 ct18 : Value}
    {cd18 : Value}
    {f19 : Addr} {od19 an19 : Option Addr} {sl19 : Array (Option Value)} {oc19 kV19 dc19 pm19 ct19 : Value}
    {cd19 : Value}
    {f20 : Addr} {od20 an20 : Option Addr} {sl20 : Array (Option Value)} {oc20 kV20 dc20 pm20 ct20 : Value}
    {cd20 : Value}
    {f21 : Addr} {od21 an21 : Option Addr} {sl21 : Array (Option Value)} {oc21 kV21 dc21 pm21 ct21 : Value}
    {cd21 : Value}
    {f22 : Addr} {od22 an22 : Option Addr} {sl22 : Array (Option Value)} {oc22 kV22 dc22 pm22 ct22 : Value}
    {cd22 : Value}
    {f23 : Addr} {od23 an23 : Option Addr} {sl23 : Array (Option Value)} {oc23 kV23 dc23 pm23 ct23 : Value}
    {cd23 : Value}
    {f24 : Addr} {od24 an24 : Option Addr} {sl24 : Array (Option Value)} {oc24 kV24 dc24 pm24 ct24 : Value}
    {cd24 : Value}
    {f25 : Addr} {od25 an25 : Option Addr} {sl25 : Array (Option Value)} {oc25 kV25 dc25 pm25 ct25 : Value}
    {cd25 : Value}
    {f26 : Addr} {od26 an26 : Option Addr} {sl26 : Array (Option Value)} {oc26 kV26 dc26 pm26 ct26 : Value}
    {cd26 : Value}
    {f27 : Addr} {od27 an27 : Option Addr} {sl27 : Array (Option Value)} {oc27 kV27 dc27 pm27 ct27 : Value}
    {cc27 tb27 : Addr} {ec27 : Value} {ed27 : Option Addr} {ev27 : Array Value} {es27 : Array (Option Value)}
    {kt_MOST_PRIME : Tok}
    {kt_MOST_POWER : Tok}
    {C_GenusError N_GenusError : Addr} {nm_GenusError q_GenusError : Str} {bs_GenusError sub_GenusError : List Value} {sn_GenusError : List Str} {ab_GenusError : Bool} {col_GenusError : Option Bool} {dd_GenusError : Option Addr} {m0_GenusError m1_GenusError m2_GenusError m3_GenusError m5_GenusError : Option Value}
    {C_BadNumber N_BadNumber : Addr} {nm_BadNumber q_BadNumber : Str} {bs_BadNumber sub_BadNumber : List Value} {sn_BadNumber : List Str} {ab_BadNumber : Bool} {col_BadNumber : Option Bool} {dd_BadNumber : Option Addr} {m0_BadNumber m1_BadNumber m2_BadNumber m3_BadNumber m5_BadNumber : Option Value}
    {I_BadNumber : Addr} {iod_BadNumber ian_BadNumber : Option Addr} {isl_BadNumber : Array (Option Value)} {ioc_BadNumber ikV_BadNumber idc_BadNumber ipm_BadNumber icd_BadNumber ict_BadNumber : Value}
    {C_BadRow N_BadRow : Addr} {nm_BadRow q_BadRow : Str} {bs_BadRow sub_BadRow : List Value} {sn_BadRow : List Str} {ab_BadRow : Bool} {col_BadRow : Option Bool} {dd_BadRow : Option Addr} {m0_BadRow m1_BadRow m2_BadRow m3_BadRow m5_BadRow : Option Value}
    {I_BadRow : Addr} {iod_BadRow ian_BadRow : Option Addr} {isl_BadRow : Array (Option Value)} {ioc_BadRow ikV_BadRow idc_BadRow ipm_BadRow icd_BadRow ict_BadRow : Value}
    {C_BadTable N_BadTable : Addr} {nm_BadTable q_BadTable : Str} {bs_BadTable sub_BadTable : List Value} {sn_BadTable : List Str} {ab_BadTable : Bool} {col_BadTable : Option Bool} {dd_BadTable : Option Addr} {m0_BadTable m1_BadTable m2_BadTable m3_BadTable m5_BadTable : Option Value}
    {I_BadTable : Addr} {iod_BadTable ian_BadTable : Option Addr} {isl_BadTable : Array (Option Value)} {ioc_BadTable ikV_BadTable idc_BadTable ipm_BadTable icd_BadTable ict_BadTable : Value}
    {C_BadForm N_BadForm : Addr} {nm_BadForm q_BadForm : Str} {bs_BadForm sub_BadForm : List Value} {sn_BadForm : List Str} {ab_BadForm : Bool} {col_BadForm : Option Bool} {dd_BadForm : Option Addr} {m0_BadForm m1_BadForm m2_BadForm m3_BadForm m5_BadForm : Option Value}
    {I_BadForm : Addr} {iod_BadForm ian_BadForm : Option Addr} {isl_BadForm : Array (Option Value)} {ioc_BadForm ikV_BadForm idc_BadForm ipm_BadForm icd_BadForm ict_BadForm : Value}
    {C_BadBook N_BadBook : Addr} {nm_BadBook q_BadBook : Str} {bs_BadBook sub_BadBook : List Value} {sn_BadBook : List Str} {ab_BadBook : Bool} {col_BadBook : Option Bool} {dd_BadBook : Option Addr} {m0_BadBook m1_BadBook m2_BadBook m3_BadBook m5_BadBook : Option Value}
    {I_BadBook : Addr} {iod_BadBook ian_BadBook : Option Addr} {isl_BadBook : Array (Option Value)} {ioc_BadBook ikV_BadBook idc_BadBook ipm_BadBook icd_BadBook ict_BadBook : Value}
    {C_BadName N_BadName : Addr} {nm_BadName q_BadName : Str} {bs_BadName sub_BadName : List Value} {sn_BadName : List Str} {ab_BadName : Bool} {col_BadName : Option Bool} {dd_BadName : Option Addr} {m0_BadName m1_BadName m2_BadName m3_BadName m5_BadName : Option Value}
    {I_BadName : Addr} {iod_BadName ian_BadName : Option Addr} {isl_BadName : Array (Option Value)} {ioc_BadName ikV_BadName idc_BadName ipm_BadName icd_BadName ict_BadName : Value}
    {C_BadText N_BadText : Addr} {nm_BadText q_BadText : Str} {bs_BadText sub_BadText : List Value} {sn_BadText : List Str} {ab_BadText : Bool} {col_BadText : Option Bool} {dd_BadText : Option Addr} {m0_BadText m1_BadText m2_BadText m3_BadText m5_BadText : Option Value}
    {I_BadText : Addr} {iod_BadText ian_BadText : Option Addr} {isl_BadText : Array (Option Value)} {ioc_BadText ikV_BadText idc_BadText ipm_BadText icd_BadText ict_BadText : Value}
    {C_NoPlace N_NoPlace : Addr} {nm_NoPlace q_NoPlace : Str} {bs_NoPlace sub_NoPlace : List Value} {sn_NoPlace : List Str} {ab_NoPlace : Bool} {col_NoPlace : Option Bool} {dd_NoPlace : Option Addr} {m0_NoPlace m1_NoPlace m2_NoPlace m3_NoPlace m5_NoPlace : Option Value}
    {I_NoPlace : Addr} {iod_NoPlace ian_NoPlace : Option Addr} {isl_NoPlace : Array (Option Value)} {ioc_NoPlace ikV_NoPlace idc_NoPlace ipm_NoPlace icd_NoPlace ict_NoPlace : Value}
    {C_NoName N_NoName : Addr} {nm_NoName q_NoName : Str} {bs_NoName sub_NoName : List Value} {sn_NoName : List Str} {ab_NoName : Bool} {col_NoName : Option Bool} {dd_NoName : Option Addr} {m0_NoName m1_NoName m2_NoName m3_NoName m5_NoName : Option Value}
    {I_NoName : Addr} {iod_NoName ian_NoName : Option Addr} {isl_NoName : Array (Option Value)} {ioc_NoName ikV_NoName idc_NoName ipm_NoName icd_NoName ict_NoName : Value}
    {C_TakenName N_TakenName : Addr} {nm_TakenName q_TakenName : Str} {bs_TakenName sub_TakenName : List Value} {sn_TakenName : List Str} {ab_TakenName : Bool} {col_TakenName : Option Bool} {dd_TakenName : Option Addr} {m0_TakenName m1_TakenName m2_TakenName m3_TakenName m5_TakenName : Option Value}
    {I_TakenName : Addr} {iod_TakenName ian_TakenName : Option Addr} {isl_TakenName : Array (Option Value)} {ioc_TakenName ikV_TakenName idc_TakenName ipm_TakenName icd_TakenName ict_TakenName : Value}
    {C_Unlike N_Unlike : Addr} {nm_Unlike q_Unlike : Str} {bs_Unlike sub_Unlike : List Value} {sn_Unlike : List Str} {ab_Unlike : Bool} {col_Unlike : Option Bool} {dd_Unlike : Option Addr} {m0_Unlike m1_Unlike m2_Unlike m3_Unlike m5_Unlike : Option Value}
    {I_Unlike : Addr} {iod_Unlike ian_Unlike : Option Addr} {isl_Unlike : Array (Option Value)} {ioc_Unlike ikV_Unlike idc_Unlike ipm_Unlike icd_Unlike ict_Unlike : Value}
    {C_NotThere N_NotThere : Addr} {nm_NotThere q_NotThere : Str} {bs_NotThere sub_NotThere : List Value} {sn_NotThere : List Str} {ab_NotThere : Bool} {col_NotThere : Option Bool} {dd_NotThere : Option Addr} {m0_NotThere m1_NotThere m2_NotThere m3_NotThere m5_NotThere : Option Value}
    {I_NotThere : Addr} {iod_NotThere ian_NotThere : Option Addr} {isl_NotThere : Array (Option Value)} {ioc_NotThere ikV_NotThere idc_NotThere ipm_NotThere icd_NotThere ict_NotThere : Value}
    {C_TooMany N_TooMany : Addr} {nm_TooMany q_TooMany : Str} {bs_TooMany sub_TooMany : List Value} {sn_TooMany : List Str} {ab_TooMany : Bool} {col_TooMany : Option Bool} {dd_TooMany : Option Addr} {m0_TooMany m1_TooMany m2_TooMany m3_TooMany m5_TooMany : Option Value}
    {I_TooMany : Addr} {iod_TooMany ian_TooMany : Option Addr} {isl_TooMany : Array (Option Value)} {ioc_TooMany ikV_TooMany idc_TooMany ipm_TooMany icd_TooMany ict_TooMany : Value}
    {C_NotKept N_NotKept : Addr} {nm_NotKept q_NotKept : Str} {bs_NotKept sub_NotKept : List Value} {sn_NotKept : List Str} {ab_NotKept : Bool} {col_NotKept : Option Bool} {dd_NotKept : Option Addr} {m0_NotKept m1_NotKept m2_NotKept m3_NotKept m5_NotKept : Option Value}
    {I_NotKept : Addr} {iod_NotKept ian_NotKept : Option Addr} {isl_NotKept : Array (Option Value)} {ioc_NotKept ikV_NotKept idc_NotKept ipm_NotKept icd_NotKept ict_NotKept : Value}
    {C_NothingToUndo N_NothingToUndo : Addr} {nm_NothingToUndo q_NothingToUndo : Str} {bs_NothingToUndo sub_NothingToUndo : List Value} {sn_NothingToUndo : List Str} {ab_NothingToUndo : Bool} {col_NothingToUndo : Option Bool} {dd_NothingToUndo : Option Addr} {m0_NothingToUndo m1_NothingToUndo m2_NothingToUndo m3_NothingToUndo m5_NothingToUndo : Option Value}
    {C_NothingToRedo N_NothingToRedo : Addr} {nm_NothingToRedo q_NothingToRedo : Str} {bs_NothingToRedo sub_NothingToRedo : List Value} {sn_NothingToRedo : List Str} {ab_NothingToRedo : Bool} {col_NothingToRedo : Option Bool} {dd_NothingToRedo : Option Addr} {m0_NothingToRedo m1_NothingToRedo m2_NothingToRedo m3_NothingToRedo m5_NothingToRedo : Option Value}
    (a0 : PySem.W.nsIn K mainGlobals "is_integer" = some (some (.ref f0)))
    (l0 : K.lookup f0 = some ⟨oc0, od0, .func (PySem.W.fnOf "is_integer" "is_integer" (defArgs s_is_integer) (defBody s_is_integer) (defScope s_is_integer) .none kV0 dc0 pm0 an0 cd0 ct0), sl0⟩)
    (c0 : PySem.W.codeIn K cd0 "is_integer" = true)
    (k0 : PySem.W.keepIn K (.ref f0) = true)
    (a1 : PySem.W.nsIn K mainGlobals "is_ratio" = some (some (.ref f1)))
    (l1 : K.lookup f1 = some ⟨oc1, od1, .func (PySem.W.fnOf "is_ratio" "is_ratio" (defArgs s_is_ratio) (defBody s_is_ratio) (defScope s_is_ratio) .none kV1 dc1 pm1 an1 cd1 ct1), sl1⟩)
    (c1 : PySem.W.codeIn K cd1 "is_ratio" = true)
    (k1 : PySem.W.keepIn K (.ref f1) = true)
    (a2 : PySem.W.nsIn K mainGlobals "pair" = some (some (.ref f2)))
    (l2 : K.lookup f2 = some ⟨oc2, od2, .func (PySem.W.fnOf "pair" "pair" (defArgs s_pair) (defBody s_pair) (defScope s_pair) .none kV2 dc2 pm2 an2 cd2 ct2), sl2⟩)
    (c2 : PySem.W.codeIn K cd2 "pair" = true)
    (k2 : PySem.W.keepIn K (.ref f2) = true)
    (a3 : PySem.W.nsIn K mainGlobals "is_small_prime" = some (some (.ref f3)))
    (l3 : K.lookup f3 = some ⟨oc3, od3, .func (PySem.W.fnOf "is_small_prime" "is_small_prime" (defArgs s_is_small_prime) (defBody s_is_small_prime) (defScope s_is_small_prime) .none kV3 dc3 pm3 an3 cd3 ct3), sl3⟩)
    (c3 : PySem.W.codeIn K cd3 "is_small_prime" = true)
    (k3 : PySem.W.keepIn K (.ref f3) = true)
    (a4 : PySem.W.nsIn K mainGlobals "need_prime" = some (some (.ref f4)))
    (l4 : K.lookup f4 = some ⟨oc4, od4, .func (PySem.W.fnOf "need_prime" "need_prime" (defArgs s_need_prime) (defBody s_need_prime) (defScope s_need_prime) .none kV4 dc4 pm4 an4 cd4 ct4), sl4⟩)
    (c4 : PySem.W.codeIn K cd4 "need_prime" = true)
    (k4 : PySem.W.keepIn K (.ref f4) = true)
    (a5 : PySem.W.nsIn K mainGlobals "times_in" = some (some (.ref f5)))
    (l5 : K.lookup f5 = some ⟨oc5, od5, .func (PySem.W.fnOf "times_in" "times_in" (defArgs s_times_in) (defBody s_times_in) (defScope s_times_in) .none kV5 dc5 pm5 an5 cd5 ct5), sl5⟩)
    (c5 : PySem.W.codeIn K cd5 "times_in" = true)
    (k5 : PySem.W.keepIn K (.ref f5) = true)
    (a6 : PySem.W.nsIn K mainGlobals "power_of" = some (some (.ref f6)))
    (l6 : K.lookup f6 = some ⟨oc6, od6, .func (PySem.W.fnOf "power_of" "power_of" (defArgs s_power_of) (defBody s_power_of) (defScope s_power_of) .none kV6 dc6 pm6 an6 cd6 ct6), sl6⟩)
    (c6 : PySem.W.codeIn K cd6 "power_of" = true)
    (k6 : PySem.W.keepIn K (.ref f6) = true)
    (a7 : PySem.W.nsIn K mainGlobals "power_in" = some (some (.ref f7)))
    (l7 : K.lookup f7 = some ⟨oc7, od7, .func (PySem.W.fnOf "power_in" "power_in" (defArgs s_power_in) (defBody s_power_in) (defScope s_power_in) .none kV7 dc7 pm7 an7 cd7 ct7), sl7⟩)
    (c7 : PySem.W.codeIn K cd7 "power_in" = true)
    (k7 : PySem.W.keepIn K (.ref f7) = true)
    (a8 : PySem.W.nsIn K mainGlobals "is_whole_by" = some (some (.ref f8)))
    (l8 : K.lookup f8 = some ⟨oc8, od8, .func (PySem.W.fnOf "is_whole_by" "is_whole_by" (defArgs s_is_whole_by) (defBody s_is_whole_by) (defScope s_is_whole_by) .none kV8 dc8 pm8 an8 cd8 ct8), sl8⟩)
    (c8 : PySem.W.codeIn K cd8 "is_whole_by" = true)
    (k8 : PySem.W.keepIn K (.ref f8) = true)
    (a9 : PySem.W.nsIn K mainGlobals "back_by" = some (some (.ref f9)))
    (l9 : K.lookup f9 = some ⟨oc9, od9, .func (PySem.W.fnOf "back_by" "back_by" (defArgs s_back_by) (defBody s_back_by) (defScope s_back_by) .none kV9 dc9 pm9 an9 cd9 ct9), sl9⟩)
    (c9 : PySem.W.codeIn K cd9 "back_by" = true)
    (k9 : PySem.W.keepIn K (.ref f9) = true)
    (a10 : PySem.W.nsIn K mainGlobals "rest_by" = some (some (.ref f10)))
    (l10 : K.lookup f10 = some ⟨oc10, od10, .func (PySem.W.fnOf "rest_by" "rest_by" (defArgs s_rest_by) (defBody s_rest_by) (defScope s_rest_by) .none kV10 dc10 pm10 an10 cd10 ct10), sl10⟩)
    (c10 : PySem.W.codeIn K cd10 "rest_by" = true)
    (k10 : PySem.W.keepIn K (.ref f10) = true)
    (a11 : PySem.W.nsIn K mainGlobals "rest_of_ratio" = some (some (.ref f11)))
    (l11 : K.lookup f11 = some ⟨oc11, od11, .func (PySem.W.fnOf "rest_of_ratio" "rest_of_ratio" (defArgs s_rest_of_ratio) (defBody s_rest_of_ratio) (defScope s_rest_of_ratio) .none kV11 dc11 pm11 an11 cd11 ct11), sl11⟩)
    (c11 : PySem.W.codeIn K cd11 "rest_of_ratio" = true)
    (k11 : PySem.W.keepIn K (.ref f11) = true)
    (a12 : PySem.W.nsIn K mainGlobals "_law_pen" = some (some (.ref f12)))
    (l12 : K.lookup f12 = some ⟨oc12, od12, .func (PySem.W.fnOf "_law_pen" "_law_pen" (defArgs s__law_pen) (defBody s__law_pen) (defScope s__law_pen) .none kV12 dc12 pm12 an12 cd12 ct12), sl12⟩)
    (c12 : PySem.W.codeIn K cd12 "_law_pen" = true)
    (k12 : PySem.W.keepIn K (.ref f12) = true)
    (a13 : PySem.W.nsIn K mainGlobals "_law_draw" = some (some (.ref f13)))
    (l13 : K.lookup f13 = some ⟨oc13, od13, .func (PySem.W.fnOf "_law_draw" "_law_draw" (defArgs s__law_draw) (defBody s__law_draw) (defScope s__law_draw) .none kV13 dc13 pm13 an13 cd13 ct13), sl13⟩)
    (c13 : PySem.W.codeIn K cd13 "_law_draw" = true)
    (k13 : PySem.W.keepIn K (.ref f13) = true)
    (a14 : PySem.W.nsIn K mainGlobals "_law_pick" = some (some (.ref f14)))
    (l14 : K.lookup f14 = some ⟨oc14, od14, .func (PySem.W.fnOf "_law_pick" "_law_pick" (defArgs s__law_pick) (defBody s__law_pick) (defScope s__law_pick) .none kV14 dc14 pm14 an14 cd14 ct14), sl14⟩)
    (c14 : PySem.W.codeIn K cd14 "_law_pick" = true)
    (k14 : PySem.W.keepIn K (.ref f14) = true)
    (a15 : PySem.W.nsIn K mainGlobals "_law_is" = some (some (.ref f15)))
    (l15 : K.lookup f15 = some ⟨oc15, od15, .func (PySem.W.fnOf "_law_is" "_law_is" (defArgs s__law_is) (defBody s__law_is) (defScope s__law_is) .none kV15 dc15 pm15 an15 cd15 ct15), sl15⟩)
    (c15 : PySem.W.codeIn K cd15 "_law_is" = true)
    (k15 : PySem.W.keepIn K (.ref f15) = true)
    (a16 : PySem.W.nsIn K mainGlobals "_law_divisor" = some (some (.ref f16)))
    (l16 : K.lookup f16 = some ⟨oc16, od16, .func (PySem.W.fnOf "_law_divisor" "_law_divisor" (defArgs s__law_divisor) (defBody s__law_divisor) (defScope s__law_divisor) .none kV16 dc16 pm16 an16 cd16 ct16), sl16⟩)
    (c16 : PySem.W.codeIn K cd16 "_law_divisor" = true)
    (k16 : PySem.W.keepIn K (.ref f16) = true)
    (a17 : PySem.W.nsIn K mainGlobals "_law_low" = some (some (.ref f17)))
    (l17 : K.lookup f17 = some ⟨oc17, od17, .func (PySem.W.fnOf "_law_low" "_law_low" (defArgs s__law_low) (defBody s__law_low) (defScope s__law_low) .none kV17 dc17 pm17 an17 cd17 ct17), sl17⟩)
    (c17 : PySem.W.codeIn K cd17 "_law_low" = true)
    (k17 : PySem.W.keepIn K (.ref f17) = true)
    (a18 : PySem.W.nsIn K mainGlobals "_law_is_whole" = some (some (.ref f18)))
    (l18 : K.lookup f18 = some ⟨oc18, od18, .func (PySem.W.fnOf "_law_is_whole" "_law_is_whole" (defArgs s__law_is_whole) (defBody s__law_is_whole) (defScope s__law_is_whole) .none kV18 dc18 pm18 an18 cd18 ct18), sl18⟩)
    (c18 : PySem.W.codeIn K cd18 "_law_is_whole" = true)
    (k18 : PySem.W.keepIn K (.ref f18) = true)
    (a19 : PySem.W.nsIn K mainGlobals "_law_fault" = some (some (.ref f19)))
    (l19 : K.lookup f19 = some ⟨oc19, od19, .func (PySem.W.fnOf "_law_fault" "_law_fault" (defArgs s__law_fault) (defBody s__law_fault) (defScope s__law_fault) .none kV19 dc19 pm19 an19 cd19 ct19), sl19⟩)
    (c19 : PySem.W.codeIn K cd19 "_law_fault" = true)
    (k19 : PySem.W.keepIn K (.ref f19) = true)
    (a20 : PySem.W.nsIn K mainGlobals "_law_kinds" = some (some (.ref f20)))
    (l20 : K.lookup f20 = some ⟨oc20, od20, .func (PySem.W.fnOf "_law_kinds" "_law_kinds" (defArgs s__law_kinds) (defBody s__law_kinds) (defScope s__law_kinds) .none kV20 dc20 pm20 an20 cd20 ct20), sl20⟩)
    (c20 : PySem.W.codeIn K cd20 "_law_kinds" = true)
    (k20 : PySem.W.keepIn K (.ref f20) = true)
    (a21 : PySem.W.nsIn K mainGlobals "_law_more_kinds" = some (some (.ref f21)))
    (l21 : K.lookup f21 = some ⟨oc21, od21, .func (PySem.W.fnOf "_law_more_kinds" "_law_more_kinds" (defArgs s__law_more_kinds) (defBody s__law_more_kinds) (defScope s__law_more_kinds) .none kV21 dc21 pm21 an21 cd21 ct21), sl21⟩)
    (c21 : PySem.W.codeIn K cd21 "_law_more_kinds" = true)
    (k21 : PySem.W.keepIn K (.ref f21) = true)
    (a22 : PySem.W.nsIn K mainGlobals "_law_power_of" = some (some (.ref f22)))
    (l22 : K.lookup f22 = some ⟨oc22, od22, .func (PySem.W.fnOf "_law_power_of" "_law_power_of" (defArgs s__law_power_of) (defBody s__law_power_of) (defScope s__law_power_of) .none kV22 dc22 pm22 an22 cd22 ct22), sl22⟩)
    (c22 : PySem.W.codeIn K cd22 "_law_power_of" = true)
    (k22 : PySem.W.keepIn K (.ref f22) = true)
    (a23 : PySem.W.nsIn K mainGlobals "_law_times_in" = some (some (.ref f23)))
    (l23 : K.lookup f23 = some ⟨oc23, od23, .func (PySem.W.fnOf "_law_times_in" "_law_times_in" (defArgs s__law_times_in) (defBody s__law_times_in) (defScope s__law_times_in) .none kV23 dc23 pm23 an23 cd23 ct23), sl23⟩)
    (c23 : PySem.W.codeIn K cd23 "_law_times_in" = true)
    (k23 : PySem.W.keepIn K (.ref f23) = true)
    (a24 : PySem.W.nsIn K mainGlobals "_law_ends" = some (some (.ref f24)))
    (l24 : K.lookup f24 = some ⟨oc24, od24, .func (PySem.W.fnOf "_law_ends" "_law_ends" (defArgs s__law_ends) (defBody s__law_ends) (defScope s__law_ends) .none kV24 dc24 pm24 an24 cd24 ct24), sl24⟩)
    (c24 : PySem.W.codeIn K cd24 "_law_ends" = true)
    (k24 : PySem.W.keepIn K (.ref f24) = true)
    (a25 : PySem.W.nsIn K mainGlobals "_law_bad_small_prime" = some (some (.ref f25)))
    (l25 : K.lookup f25 = some ⟨oc25, od25, .func (PySem.W.fnOf "_law_bad_small_prime" "_law_bad_small_prime" (defArgs s__law_bad_small_prime) (defBody s__law_bad_small_prime) (defScope s__law_bad_small_prime) .none kV25 dc25 pm25 an25 cd25 ct25), sl25⟩)
    (c25 : PySem.W.codeIn K cd25 "_law_bad_small_prime" = true)
    (k25 : PySem.W.keepIn K (.ref f25) = true)
    (a26 : PySem.W.nsIn K mainGlobals "_law_prime" = some (some (.ref f26)))
    (l26 : K.lookup f26 = some ⟨oc26, od26, .func (PySem.W.fnOf "_law_prime" "_law_prime" (defArgs s__law_prime) (defBody s__law_prime) (defScope s__law_prime) .none kV26 dc26 pm26 an26 cd26 ct26), sl26⟩)
    (c26 : PySem.W.codeIn K cd26 "_law_prime" = true)
    (k26 : PySem.W.keepIn K (.ref f26) = true)
    (a27 : PySem.W.nsIn K mainGlobals "law" = some (some (.ref f27)))
    (l27 : K.lookup f27 = some ⟨oc27, od27, .func (PySem.W.fnOf "law" "law" (defArgs s_law) (defBody s_law) (defScope s_law) .none kV27 dc27 pm27 an27 (.ref cc27) ct27), sl27⟩)
    (c27 : PySem.W.codeIn K (.ref cc27) "law" = true)
    (lc27 : K.lookup cc27 = some ⟨ec27, ed27, .fields ev27, es27⟩)
    (lt27 : (ev27[11]? : Option Value) = some (.ref tb27))
    (nt27 : K.lookup tb27 = none)
    (k27 : PySem.W.keepIn K (.ref f27) = true)
    (z_ValueError : PySem.W.nsIn K mainGlobals "ValueError" = some none)
    (z_abs : PySem.W.nsIn K mainGlobals "abs" = some none)
    (z_bool : PySem.W.nsIn K mainGlobals "bool" = some none)
    (z_int : PySem.W.nsIn K mainGlobals "int" = some none)
    (z_isinstance : PySem.W.nsIn K mainGlobals "isinstance" = some none)
    (z_len : PySem.W.nsIn K mainGlobals "len" = some none)
    (z_list : PySem.W.nsIn K mainGlobals "list" = some none)
    (z_range : PySem.W.nsIn K mainGlobals "range" = some none)
    (z_repr : PySem.W.nsIn K mainGlobals "repr" = some none)
    (z_str : PySem.W.nsIn K mainGlobals "str" = some none)
    (z_tuple : PySem.W.nsIn K mainGlobals "tuple" = some none)
    (zm_gcd : PySem.W.nsIn K mainGlobals "gcd" = some (some (.builtin "math.gcd")))
    (zk_MOST_PRIME : PySem.W.nsIn K mainGlobals "MOST_PRIME" = some (some (.int 10000 kt_MOST_PRIME)))
    (zk_MOST_POWER : PySem.W.nsIn K mainGlobals "MOST_POWER" = some (some (.int 60 kt_MOST_POWER)))
    (ekn : PySem.W.specialIn K (.builtin "object.__class__") "__get__" = some (some (.builtin "getset_descriptor.__get__")))
    (ekt : PySem.W.takesIn K (.builtin "object.__class__") = some true)
    (ca_GenusError : PySem.W.nsIn K mainGlobals "GenusError" = some (some (.ref C_GenusError)))
    (cl_GenusError : K.lookup C_GenusError = some (excClassObj nm_GenusError q_GenusError C_GenusError N_GenusError bs_GenusError [.type "ValueError", .type "Exception", .type "BaseException", .type "object"] true sn_GenusError sub_GenusError ab_GenusError col_GenusError dd_GenusError m0_GenusError m1_GenusError m2_GenusError m3_GenusError m5_GenusError "ValueError.__new__"))
    (cs_GenusError : PySem.W.findIn K (.ref C_GenusError) "__setattr__" = some (some (.builtin "object.__setattr__")))
    (cg_GenusError : PySem.W.findIn K (.ref C_GenusError) "__getattribute__" = some (some (.builtin "BaseException.__getattribute__")))
    (ch_GenusError : PySem.W.findIn K (.ref C_GenusError) "__getattr__" = some none)
    (cc_GenusError : PySem.W.findIn K (.ref C_GenusError) "__class__" = some (some (.builtin "object.__class__")))
    (ck_GenusError : PySem.W.keepIn K (.ref C_GenusError) = true)
    (ca_BadNumber : PySem.W.nsIn K mainGlobals "BadNumber" = some (some (.ref C_BadNumber)))
    (cl_BadNumber : K.lookup C_BadNumber = some (excClassObj nm_BadNumber q_BadNumber C_BadNumber N_BadNumber bs_BadNumber (.ref C_GenusError :: [.type "ValueError", .type "Exception", .type "BaseException", .type "object"]) true sn_BadNumber sub_BadNumber ab_BadNumber col_BadNumber dd_BadNumber m0_BadNumber m1_BadNumber m2_BadNumber m3_BadNumber m5_BadNumber "ValueError.__new__"))
    (cs_BadNumber : PySem.W.findIn K (.ref C_BadNumber) "__setattr__" = some (some (.builtin "object.__setattr__")))
    (cg_BadNumber : PySem.W.findIn K (.ref C_BadNumber) "__getattribute__" = some (some (.builtin "BaseException.__getattribute__")))
    (ch_BadNumber : PySem.W.findIn K (.ref C_BadNumber) "__getattr__" = some none)
    (cc_BadNumber : PySem.W.findIn K (.ref C_BadNumber) "__class__" = some (some (.builtin "object.__class__")))
    (ck_BadNumber : PySem.W.keepIn K (.ref C_BadNumber) = true)
    (ia_BadNumber : PySem.W.findIn K (.ref C_BadNumber) "__init__" = some (some (.ref I_BadNumber)))
    (it_BadNumber : PySem.W.typeIn K (.ref I_BadNumber) = some (.type "function"))
    (il_BadNumber : K.lookup I_BadNumber = some ⟨ioc_BadNumber, iod_BadNumber, .func (PySem.W.fnOf "__init__" "BadNumber.__init__" (defArgs s_BadNumber_init) (defBody s_BadNumber_init) (defScope s_BadNumber_init) .none ikV_BadNumber idc_BadNumber ipm_BadNumber ian_BadNumber icd_BadNumber ict_BadNumber), isl_BadNumber⟩)
    (ic_BadNumber : PySem.W.codeIn K icd_BadNumber "BadNumber.__init__" = true)
    (ik_BadNumber : PySem.W.keepIn K (.ref I_BadNumber) = true)
    (in_BadNumber_what : PySem.W.findIn K (.ref C_BadNumber) "what" = some none)
    (in_BadNumber_number : PySem.W.findIn K (.ref C_BadNumber) "number" = some none)
    (ca_BadRow : PySem.W.nsIn K mainGlobals "BadRow" = some (some (.ref C_BadRow)))
    (cl_BadRow : K.lookup C_BadRow = some (excClassObj nm_BadRow q_BadRow C_BadRow N_BadRow bs_BadRow (.ref C_GenusError :: [.type "ValueError", .type "Exception", .type "BaseException", .type "object"]) true sn_BadRow sub_BadRow ab_BadRow col_BadRow dd_BadRow m0_BadRow m1_BadRow m2_BadRow m3_BadRow m5_BadRow "ValueError.__new__"))
    (cs_BadRow : PySem.W.findIn K (.ref C_BadRow) "__setattr__" = some (some (.builtin "object.__setattr__")))
    (cg_BadRow : PySem.W.findIn K (.ref C_BadRow) "__getattribute__" = some (some (.builtin "BaseException.__getattribute__")))
    (ch_BadRow : PySem.W.findIn K (.ref C_BadRow) "__getattr__" = some none)
    (cc_BadRow : PySem.W.findIn K (.ref C_BadRow) "__class__" = some (some (.builtin "object.__class__")))
    (ck_BadRow : PySem.W.keepIn K (.ref C_BadRow) = true)
    (ia_BadRow : PySem.W.findIn K (.ref C_BadRow) "__init__" = some (some (.ref I_BadRow)))
    (it_BadRow : PySem.W.typeIn K (.ref I_BadRow) = some (.type "function"))
    (il_BadRow : K.lookup I_BadRow = some ⟨ioc_BadRow, iod_BadRow, .func (PySem.W.fnOf "__init__" "BadRow.__init__" (defArgs s_BadRow_init) (defBody s_BadRow_init) (defScope s_BadRow_init) .none ikV_BadRow idc_BadRow ipm_BadRow ian_BadRow icd_BadRow ict_BadRow), isl_BadRow⟩)
    (ic_BadRow : PySem.W.codeIn K icd_BadRow "BadRow.__init__" = true)
    (ik_BadRow : PySem.W.keepIn K (.ref I_BadRow) = true)
    (in_BadRow_what : PySem.W.findIn K (.ref C_BadRow) "what" = some none)
    (in_BadRow_row : PySem.W.findIn K (.ref C_BadRow) "row" = some none)
    (ca_BadTable : PySem.W.nsIn K mainGlobals "BadTable" = some (some (.ref C_BadTable)))
    (cl_BadTable : K.lookup C_BadTable = some (excClassObj nm_BadTable q_BadTable C_BadTable N_BadTable bs_BadTable (.ref C_GenusError :: [.type "ValueError", .type "Exception", .type "BaseException", .type "object"]) true sn_BadTable sub_BadTable ab_BadTable col_BadTable dd_BadTable m0_BadTable m1_BadTable m2_BadTable m3_BadTable m5_BadTable "ValueError.__new__"))
    (cs_BadTable : PySem.W.findIn K (.ref C_BadTable) "__setattr__" = some (some (.builtin "object.__setattr__")))
    (cg_BadTable : PySem.W.findIn K (.ref C_BadTable) "__getattribute__" = some (some (.builtin "BaseException.__getattribute__")))
    (ch_BadTable : PySem.W.findIn K (.ref C_BadTable) "__getattr__" = some none)
    (cc_BadTable : PySem.W.findIn K (.ref C_BadTable) "__class__" = some (some (.builtin "object.__class__")))
    (ck_BadTable : PySem.W.keepIn K (.ref C_BadTable) = true)
    (ia_BadTable : PySem.W.findIn K (.ref C_BadTable) "__init__" = some (some (.ref I_BadTable)))
    (it_BadTable : PySem.W.typeIn K (.ref I_BadTable) = some (.type "function"))
    (il_BadTable : K.lookup I_BadTable = some ⟨ioc_BadTable, iod_BadTable, .func (PySem.W.fnOf "__init__" "BadTable.__init__" (defArgs s_BadTable_init) (defBody s_BadTable_init) (defScope s_BadTable_init) .none ikV_BadTable idc_BadTable ipm_BadTable ian_BadTable icd_BadTable ict_BadTable), isl_BadTable⟩)
    (ic_BadTable : PySem.W.codeIn K icd_BadTable "BadTable.__init__" = true)
    (ik_BadTable : PySem.W.keepIn K (.ref I_BadTable) = true)
    (in_BadTable_what : PySem.W.findIn K (.ref C_BadTable) "what" = some none)
    (ca_BadForm : PySem.W.nsIn K mainGlobals "BadForm" = some (some (.ref C_BadForm)))
    (cl_BadForm : K.lookup C_BadForm = some (excClassObj nm_BadForm q_BadForm C_BadForm N_BadForm bs_BadForm (.ref C_GenusError :: [.type "ValueError", .type "Exception", .type "BaseException", .type "object"]) true sn_BadForm sub_BadForm ab_BadForm col_BadForm dd_BadForm m0_BadForm m1_BadForm m2_BadForm m3_BadForm m5_BadForm "ValueError.__new__"))
    (cs_BadForm : PySem.W.findIn K (.ref C_BadForm) "__setattr__" = some (some (.builtin "object.__setattr__")))
    (cg_BadForm : PySem.W.findIn K (.ref C_BadForm) "__getattribute__" = some (some (.builtin "BaseException.__getattribute__")))
    (ch_BadForm : PySem.W.findIn K (.ref C_BadForm) "__getattr__" = some none)
    (cc_BadForm : PySem.W.findIn K (.ref C_BadForm) "__class__" = some (some (.builtin "object.__class__")))
    (ck_BadForm : PySem.W.keepIn K (.ref C_BadForm) = true)
    (ia_BadForm : PySem.W.findIn K (.ref C_BadForm) "__init__" = some (some (.ref I_BadForm)))
    (it_BadForm : PySem.W.typeIn K (.ref I_BadForm) = some (.type "function"))
    (il_BadForm : K.lookup I_BadForm = some ⟨ioc_BadForm, iod_BadForm, .func (PySem.W.fnOf "__init__" "BadForm.__init__" (defArgs s_BadForm_init) (defBody s_BadForm_init) (defScope s_BadForm_init) .none ikV_BadForm idc_BadForm ipm_BadForm ian_BadForm icd_BadForm ict_BadForm), isl_BadForm⟩)
    (ic_BadForm : PySem.W.codeIn K icd_BadForm "BadForm.__init__" = true)
    (ik_BadForm : PySem.W.keepIn K (.ref I_BadForm) = true)
    (in_BadForm_what : PySem.W.findIn K (.ref C_BadForm) "what" = some none)
    (ca_BadBook : PySem.W.nsIn K mainGlobals "BadBook" = some (some (.ref C_BadBook)))
    (cl_BadBook : K.lookup C_BadBook = some (excClassObj nm_BadBook q_BadBook C_BadBook N_BadBook bs_BadBook (.ref C_GenusError :: [.type "ValueError", .type "Exception", .type "BaseException", .type "object"]) true sn_BadBook sub_BadBook ab_BadBook col_BadBook dd_BadBook m0_BadBook m1_BadBook m2_BadBook m3_BadBook m5_BadBook "ValueError.__new__"))
    (cs_BadBook : PySem.W.findIn K (.ref C_BadBook) "__setattr__" = some (some (.builtin "object.__setattr__")))
    (cg_BadBook : PySem.W.findIn K (.ref C_BadBook) "__getattribute__" = some (some (.builtin "BaseException.__getattribute__")))
    (ch_BadBook : PySem.W.findIn K (.ref C_BadBook) "__getattr__" = some none)
    (cc_BadBook : PySem.W.findIn K (.ref C_BadBook) "__class__" = some (some (.builtin "object.__class__")))
    (ck_BadBook : PySem.W.keepIn K (.ref C_BadBook) = true)
    (ia_BadBook : PySem.W.findIn K (.ref C_BadBook) "__init__" = some (some (.ref I_BadBook)))
    (it_BadBook : PySem.W.typeIn K (.ref I_BadBook) = some (.type "function"))
    (il_BadBook : K.lookup I_BadBook = some ⟨ioc_BadBook, iod_BadBook, .func (PySem.W.fnOf "__init__" "BadBook.__init__" (defArgs s_BadBook_init) (defBody s_BadBook_init) (defScope s_BadBook_init) .none ikV_BadBook idc_BadBook ipm_BadBook ian_BadBook icd_BadBook ict_BadBook), isl_BadBook⟩)
    (ic_BadBook : PySem.W.codeIn K icd_BadBook "BadBook.__init__" = true)
    (ik_BadBook : PySem.W.keepIn K (.ref I_BadBook) = true)
    (in_BadBook_what : PySem.W.findIn K (.ref C_BadBook) "what" = some none)
    (ca_BadName : PySem.W.nsIn K mainGlobals "BadName" = some (some (.ref C_BadName)))
    (cl_BadName : K.lookup C_BadName = some (excClassObj nm_BadName q_BadName C_BadName N_BadName bs_BadName (.ref C_GenusError :: [.type "ValueError", .type "Exception", .type "BaseException", .type "object"]) true sn_BadName sub_BadName ab_BadName col_BadName dd_BadName m0_BadName m1_BadName m2_BadName m3_BadName m5_BadName "ValueError.__new__"))
    (cs_BadName : PySem.W.findIn K (.ref C_BadName) "__setattr__" = some (some (.builtin "object.__setattr__")))
    (cg_BadName : PySem.W.findIn K (.ref C_BadName) "__getattribute__" = some (some (.builtin "BaseException.__getattribute__")))
    (ch_BadName : PySem.W.findIn K (.ref C_BadName) "__getattr__" = some none)
    (cc_BadName : PySem.W.findIn K (.ref C_BadName) "__class__" = some (some (.builtin "object.__class__")))
    (ck_BadName : PySem.W.keepIn K (.ref C_BadName) = true)
    (ia_BadName : PySem.W.findIn K (.ref C_BadName) "__init__" = some (some (.ref I_BadName)))
    (it_BadName : PySem.W.typeIn K (.ref I_BadName) = some (.type "function"))
    (il_BadName : K.lookup I_BadName = some ⟨ioc_BadName, iod_BadName, .func (PySem.W.fnOf "__init__" "BadName.__init__" (defArgs s_BadName_init) (defBody s_BadName_init) (defScope s_BadName_init) .none ikV_BadName idc_BadName ipm_BadName ian_BadName icd_BadName ict_BadName), isl_BadName⟩)
    (ic_BadName : PySem.W.codeIn K icd_BadName "BadName.__init__" = true)
    (ik_BadName : PySem.W.keepIn K (.ref I_BadName) = true)
    (in_BadName_name : PySem.W.findIn K (.ref C_BadName) "name" = some none)
    (ca_BadText : PySem.W.nsIn K mainGlobals "BadText" = some (some (.ref C_BadText)))
    (cl_BadText : K.lookup C_BadText = some (excClassObj nm_BadText q_BadText C_BadText N_BadText bs_BadText (.ref C_GenusError :: [.type "ValueError", .type "Exception", .type "BaseException", .type "object"]) true sn_BadText sub_BadText ab_BadText col_BadText dd_BadText m0_BadText m1_BadText m2_BadText m3_BadText m5_BadText "ValueError.__new__"))
    (cs_BadText : PySem.W.findIn K (.ref C_BadText) "__setattr__" = some (some (.builtin "object.__setattr__")))
    (cg_BadText : PySem.W.findIn K (.ref C_BadText) "__getattribute__" = some (some (.builtin "BaseException.__getattribute__")))
    (ch_BadText : PySem.W.findIn K (.ref C_BadText) "__getattr__" = some none)
    (cc_BadText : PySem.W.findIn K (.ref C_BadText) "__class__" = some (some (.builtin "object.__class__")))
    (ck_BadText : PySem.W.keepIn K (.ref C_BadText) = true)
    (ia_BadText : PySem.W.findIn K (.ref C_BadText) "__init__" = some (some (.ref I_BadText)))
    (it_BadText : PySem.W.typeIn K (.ref I_BadText) = some (.type "function"))
    (il_BadText : K.lookup I_BadText = some ⟨ioc_BadText, iod_BadText, .func (PySem.W.fnOf "__init__" "BadText.__init__" (defArgs s_BadText_init) (defBody s_BadText_init) (defScope s_BadText_init) .none ikV_BadText idc_BadText ipm_BadText ian_BadText icd_BadText ict_BadText), isl_BadText⟩)
    (ic_BadText : PySem.W.codeIn K icd_BadText "BadText.__init__" = true)
    (ik_BadText : PySem.W.keepIn K (.ref I_BadText) = true)
    (in_BadText_line : PySem.W.findIn K (.ref C_BadText) "line" = some none)
    (in_BadText_word : PySem.W.findIn K (.ref C_BadText) "word" = some none)
    (ca_NoPlace : PySem.W.nsIn K mainGlobals "NoPlace" = some (some (.ref C_NoPlace)))
    (cl_NoPlace : K.lookup C_NoPlace = some (excClassObj nm_NoPlace q_NoPlace C_NoPlace N_NoPlace bs_NoPlace (.ref C_GenusError :: [.type "ValueError", .type "Exception", .type "BaseException", .type "object"]) true sn_NoPlace sub_NoPlace ab_NoPlace col_NoPlace dd_NoPlace m0_NoPlace m1_NoPlace m2_NoPlace m3_NoPlace m5_NoPlace "ValueError.__new__"))
    (cs_NoPlace : PySem.W.findIn K (.ref C_NoPlace) "__setattr__" = some (some (.builtin "object.__setattr__")))
    (cg_NoPlace : PySem.W.findIn K (.ref C_NoPlace) "__getattribute__" = some (some (.builtin "BaseException.__getattribute__")))
    (ch_NoPlace : PySem.W.findIn K (.ref C_NoPlace) "__getattr__" = some none)
    (cc_NoPlace : PySem.W.findIn K (.ref C_NoPlace) "__class__" = some (some (.builtin "object.__class__")))
    (ck_NoPlace : PySem.W.keepIn K (.ref C_NoPlace) = true)
    (ia_NoPlace : PySem.W.findIn K (.ref C_NoPlace) "__init__" = some (some (.ref I_NoPlace)))
    (it_NoPlace : PySem.W.typeIn K (.ref I_NoPlace) = some (.type "function"))
    (il_NoPlace : K.lookup I_NoPlace = some ⟨ioc_NoPlace, iod_NoPlace, .func (PySem.W.fnOf "__init__" "NoPlace.__init__" (defArgs s_NoPlace_init) (defBody s_NoPlace_init) (defScope s_NoPlace_init) .none ikV_NoPlace idc_NoPlace ipm_NoPlace ian_NoPlace icd_NoPlace ict_NoPlace), isl_NoPlace⟩)
    (ic_NoPlace : PySem.W.codeIn K icd_NoPlace "NoPlace.__init__" = true)
    (ik_NoPlace : PySem.W.keepIn K (.ref I_NoPlace) = true)
    (in_NoPlace_what : PySem.W.findIn K (.ref C_NoPlace) "what" = some none)
    (in_NoPlace_index : PySem.W.findIn K (.ref C_NoPlace) "index" = some none)
    (ca_NoName : PySem.W.nsIn K mainGlobals "NoName" = some (some (.ref C_NoName)))
    (cl_NoName : K.lookup C_NoName = some (excClassObj nm_NoName q_NoName C_NoName N_NoName bs_NoName (.ref C_GenusError :: [.type "ValueError", .type "Exception", .type "BaseException", .type "object"]) true sn_NoName sub_NoName ab_NoName col_NoName dd_NoName m0_NoName m1_NoName m2_NoName m3_NoName m5_NoName "ValueError.__new__"))
    (cs_NoName : PySem.W.findIn K (.ref C_NoName) "__setattr__" = some (some (.builtin "object.__setattr__")))
    (cg_NoName : PySem.W.findIn K (.ref C_NoName) "__getattribute__" = some (some (.builtin "BaseException.__getattribute__")))
    (ch_NoName : PySem.W.findIn K (.ref C_NoName) "__getattr__" = some none)
    (cc_NoName : PySem.W.findIn K (.ref C_NoName) "__class__" = some (some (.builtin "object.__class__")))
    (ck_NoName : PySem.W.keepIn K (.ref C_NoName) = true)
    (ia_NoName : PySem.W.findIn K (.ref C_NoName) "__init__" = some (some (.ref I_NoName)))
    (it_NoName : PySem.W.typeIn K (.ref I_NoName) = some (.type "function"))
    (il_NoName : K.lookup I_NoName = some ⟨ioc_NoName, iod_NoName, .func (PySem.W.fnOf "__init__" "NoName.__init__" (defArgs s_NoName_init) (defBody s_NoName_init) (defScope s_NoName_init) .none ikV_NoName idc_NoName ipm_NoName ian_NoName icd_NoName ict_NoName), isl_NoName⟩)
    (ic_NoName : PySem.W.codeIn K icd_NoName "NoName.__init__" = true)
    (ik_NoName : PySem.W.keepIn K (.ref I_NoName) = true)
    (in_NoName_name : PySem.W.findIn K (.ref C_NoName) "name" = some none)
    (ca_TakenName : PySem.W.nsIn K mainGlobals "TakenName" = some (some (.ref C_TakenName)))
    (cl_TakenName : K.lookup C_TakenName = some (excClassObj nm_TakenName q_TakenName C_TakenName N_TakenName bs_TakenName (.ref C_GenusError :: [.type "ValueError", .type "Exception", .type "BaseException", .type "object"]) true sn_TakenName sub_TakenName ab_TakenName col_TakenName dd_TakenName m0_TakenName m1_TakenName m2_TakenName m3_TakenName m5_TakenName "ValueError.__new__"))
    (cs_TakenName : PySem.W.findIn K (.ref C_TakenName) "__setattr__" = some (some (.builtin "object.__setattr__")))
    (cg_TakenName : PySem.W.findIn K (.ref C_TakenName) "__getattribute__" = some (some (.builtin "BaseException.__getattribute__")))
    (ch_TakenName : PySem.W.findIn K (.ref C_TakenName) "__getattr__" = some none)
    (cc_TakenName : PySem.W.findIn K (.ref C_TakenName) "__class__" = some (some (.builtin "object.__class__")))
    (ck_TakenName : PySem.W.keepIn K (.ref C_TakenName) = true)
    (ia_TakenName : PySem.W.findIn K (.ref C_TakenName) "__init__" = some (some (.ref I_TakenName)))
    (it_TakenName : PySem.W.typeIn K (.ref I_TakenName) = some (.type "function"))
    (il_TakenName : K.lookup I_TakenName = some ⟨ioc_TakenName, iod_TakenName, .func (PySem.W.fnOf "__init__" "TakenName.__init__" (defArgs s_TakenName_init) (defBody s_TakenName_init) (defScope s_TakenName_init) .none ikV_TakenName idc_TakenName ipm_TakenName ian_TakenName icd_TakenName ict_TakenName), isl_TakenName⟩)
    (ic_TakenName : PySem.W.codeIn K icd_TakenName "TakenName.__init__" = true)
    (ik_TakenName : PySem.W.keepIn K (.ref I_TakenName) = true)
    (in_TakenName_name : PySem.W.findIn K (.ref C_TakenName) "name" = some none)
    (ca_Unlike : PySem.W.nsIn K mainGlobals "Unlike" = some (some (.ref C_Unlike)))
    (cl_Unlike : K.lookup C_Unlike = some (excClassObj nm_Unlike q_Unlike C_Unlike N_Unlike bs_Unlike (.ref C_GenusError :: [.type "ValueError", .type "Exception", .type "BaseException", .type "object"]) true sn_Unlike sub_Unlike ab_Unlike col_Unlike dd_Unlike m0_Unlike m1_Unlike m2_Unlike m3_Unlike m5_Unlike "ValueError.__new__"))
    (cs_Unlike : PySem.W.findIn K (.ref C_Unlike) "__setattr__" = some (some (.builtin "object.__setattr__")))
    (cg_Unlike : PySem.W.findIn K (.ref C_Unlike) "__getattribute__" = some (some (.builtin "BaseException.__getattribute__")))
    (ch_Unlike : PySem.W.findIn K (.ref C_Unlike) "__getattr__" = some none)
    (cc_Unlike : PySem.W.findIn K (.ref C_Unlike) "__class__" = some (some (.builtin "object.__class__")))
    (ck_Unlike : PySem.W.keepIn K (.ref C_Unlike) = true)
    (ia_Unlike : PySem.W.findIn K (.ref C_Unlike) "__init__" = some (some (.ref I_Unlike)))
    (it_Unlike : PySem.W.typeIn K (.ref I_Unlike) = some (.type "function"))
    (il_Unlike : K.lookup I_Unlike = some ⟨ioc_Unlike, iod_Unlike, .func (PySem.W.fnOf "__init__" "Unlike.__init__" (defArgs s_Unlike_init) (defBody s_Unlike_init) (defScope s_Unlike_init) .none ikV_Unlike idc_Unlike ipm_Unlike ian_Unlike icd_Unlike ict_Unlike), isl_Unlike⟩)
    (ic_Unlike : PySem.W.codeIn K icd_Unlike "Unlike.__init__" = true)
    (ik_Unlike : PySem.W.keepIn K (.ref I_Unlike) = true)
    (in_Unlike_what : PySem.W.findIn K (.ref C_Unlike) "what" = some none)
    (ca_NotThere : PySem.W.nsIn K mainGlobals "NotThere" = some (some (.ref C_NotThere)))
    (cl_NotThere : K.lookup C_NotThere = some (excClassObj nm_NotThere q_NotThere C_NotThere N_NotThere bs_NotThere (.ref C_GenusError :: [.type "ValueError", .type "Exception", .type "BaseException", .type "object"]) true sn_NotThere sub_NotThere ab_NotThere col_NotThere dd_NotThere m0_NotThere m1_NotThere m2_NotThere m3_NotThere m5_NotThere "ValueError.__new__"))
    (cs_NotThere : PySem.W.findIn K (.ref C_NotThere) "__setattr__" = some (some (.builtin "object.__setattr__")))
    (cg_NotThere : PySem.W.findIn K (.ref C_NotThere) "__getattribute__" = some (some (.builtin "BaseException.__getattribute__")))
    (ch_NotThere : PySem.W.findIn K (.ref C_NotThere) "__getattr__" = some none)
    (cc_NotThere : PySem.W.findIn K (.ref C_NotThere) "__class__" = some (some (.builtin "object.__class__")))
    (ck_NotThere : PySem.W.keepIn K (.ref C_NotThere) = true)
    (ia_NotThere : PySem.W.findIn K (.ref C_NotThere) "__init__" = some (some (.ref I_NotThere)))
    (it_NotThere : PySem.W.typeIn K (.ref I_NotThere) = some (.type "function"))
    (il_NotThere : K.lookup I_NotThere = some ⟨ioc_NotThere, iod_NotThere, .func (PySem.W.fnOf "__init__" "NotThere.__init__" (defArgs s_NotThere_init) (defBody s_NotThere_init) (defScope s_NotThere_init) .none ikV_NotThere idc_NotThere ipm_NotThere ian_NotThere icd_NotThere ict_NotThere), isl_NotThere⟩)
    (ic_NotThere : PySem.W.codeIn K icd_NotThere "NotThere.__init__" = true)
    (ik_NotThere : PySem.W.keepIn K (.ref I_NotThere) = true)
    (in_NotThere_paper : PySem.W.findIn K (.ref C_NotThere) "paper" = some none)
    (ca_TooMany : PySem.W.nsIn K mainGlobals "TooMany" = some (some (.ref C_TooMany)))
    (cl_TooMany : K.lookup C_TooMany = some (excClassObj nm_TooMany q_TooMany C_TooMany N_TooMany bs_TooMany (.ref C_GenusError :: [.type "ValueError", .type "Exception", .type "BaseException", .type "object"]) true sn_TooMany sub_TooMany ab_TooMany col_TooMany dd_TooMany m0_TooMany m1_TooMany m2_TooMany m3_TooMany m5_TooMany "ValueError.__new__"))
    (cs_TooMany : PySem.W.findIn K (.ref C_TooMany) "__setattr__" = some (some (.builtin "object.__setattr__")))
    (cg_TooMany : PySem.W.findIn K (.ref C_TooMany) "__getattribute__" = some (some (.builtin "BaseException.__getattribute__")))
    (ch_TooMany : PySem.W.findIn K (.ref C_TooMany) "__getattr__" = some none)
    (cc_TooMany : PySem.W.findIn K (.ref C_TooMany) "__class__" = some (some (.builtin "object.__class__")))
    (ck_TooMany : PySem.W.keepIn K (.ref C_TooMany) = true)
    (ia_TooMany : PySem.W.findIn K (.ref C_TooMany) "__init__" = some (some (.ref I_TooMany)))
    (it_TooMany : PySem.W.typeIn K (.ref I_TooMany) = some (.type "function"))
    (il_TooMany : K.lookup I_TooMany = some ⟨ioc_TooMany, iod_TooMany, .func (PySem.W.fnOf "__init__" "TooMany.__init__" (defArgs s_TooMany_init) (defBody s_TooMany_init) (defScope s_TooMany_init) .none ikV_TooMany idc_TooMany ipm_TooMany ian_TooMany icd_TooMany ict_TooMany), isl_TooMany⟩)
    (ic_TooMany : PySem.W.codeIn K icd_TooMany "TooMany.__init__" = true)
    (ik_TooMany : PySem.W.keepIn K (.ref I_TooMany) = true)
    (in_TooMany_what : PySem.W.findIn K (.ref C_TooMany) "what" = some none)
    (in_TooMany_many : PySem.W.findIn K (.ref C_TooMany) "many" = some none)
    (in_TooMany_limit : PySem.W.findIn K (.ref C_TooMany) "limit" = some none)
    (ca_NotKept : PySem.W.nsIn K mainGlobals "NotKept" = some (some (.ref C_NotKept)))
    (cl_NotKept : K.lookup C_NotKept = some (excClassObj nm_NotKept q_NotKept C_NotKept N_NotKept bs_NotKept (.ref C_GenusError :: [.type "ValueError", .type "Exception", .type "BaseException", .type "object"]) true sn_NotKept sub_NotKept ab_NotKept col_NotKept dd_NotKept m0_NotKept m1_NotKept m2_NotKept m3_NotKept m5_NotKept "ValueError.__new__"))
    (cs_NotKept : PySem.W.findIn K (.ref C_NotKept) "__setattr__" = some (some (.builtin "object.__setattr__")))
    (cg_NotKept : PySem.W.findIn K (.ref C_NotKept) "__getattribute__" = some (some (.builtin "BaseException.__getattribute__")))
    (ch_NotKept : PySem.W.findIn K (.ref C_NotKept) "__getattr__" = some none)
    (cc_NotKept : PySem.W.findIn K (.ref C_NotKept) "__class__" = some (some (.builtin "object.__class__")))
    (ck_NotKept : PySem.W.keepIn K (.ref C_NotKept) = true)
    (ia_NotKept : PySem.W.findIn K (.ref C_NotKept) "__init__" = some (some (.ref I_NotKept)))
    (it_NotKept : PySem.W.typeIn K (.ref I_NotKept) = some (.type "function"))
    (il_NotKept : K.lookup I_NotKept = some ⟨ioc_NotKept, iod_NotKept, .func (PySem.W.fnOf "__init__" "NotKept.__init__" (defArgs s_NotKept_init) (defBody s_NotKept_init) (defScope s_NotKept_init) .none ikV_NotKept idc_NotKept ipm_NotKept ian_NotKept icd_NotKept ict_NotKept), isl_NotKept⟩)
    (ic_NotKept : PySem.W.codeIn K icd_NotKept "NotKept.__init__" = true)
    (ik_NotKept : PySem.W.keepIn K (.ref I_NotKept) = true)
    (in_NotKept_promise : PySem.W.findIn K (.ref C_NotKept) "promise" = some none)
    (in_NotKept_witness : PySem.W.findIn K (.ref C_NotKept) "witness" = some none)
    (ca_NothingToUndo : PySem.W.nsIn K mainGlobals "NothingToUndo" = some (some (.ref C_NothingToUndo)))
    (cl_NothingToUndo : K.lookup C_NothingToUndo = some (excClassObj nm_NothingToUndo q_NothingToUndo C_NothingToUndo N_NothingToUndo bs_NothingToUndo (.ref C_GenusError :: [.type "ValueError", .type "Exception", .type "BaseException", .type "object"]) true sn_NothingToUndo sub_NothingToUndo ab_NothingToUndo col_NothingToUndo dd_NothingToUndo m0_NothingToUndo m1_NothingToUndo m2_NothingToUndo m3_NothingToUndo m5_NothingToUndo "ValueError.__new__"))
    (cs_NothingToUndo : PySem.W.findIn K (.ref C_NothingToUndo) "__setattr__" = some (some (.builtin "object.__setattr__")))
    (cg_NothingToUndo : PySem.W.findIn K (.ref C_NothingToUndo) "__getattribute__" = some (some (.builtin "BaseException.__getattribute__")))
    (ch_NothingToUndo : PySem.W.findIn K (.ref C_NothingToUndo) "__getattr__" = some none)
    (cc_NothingToUndo : PySem.W.findIn K (.ref C_NothingToUndo) "__class__" = some (some (.builtin "object.__class__")))
    (ck_NothingToUndo : PySem.W.keepIn K (.ref C_NothingToUndo) = true)
    (cx_NothingToUndo : PySem.W.excIn K C_NothingToUndo [.type "ValueError", .type "Exception", .type "BaseException", .type "object"] "ValueError.__new__" = true)
    (ca_NothingToRedo : PySem.W.nsIn K mainGlobals "NothingToRedo" = some (some (.ref C_NothingToRedo)))
    (cl_NothingToRedo : K.lookup C_NothingToRedo = some (excClassObj nm_NothingToRedo q_NothingToRedo C_NothingToRedo N_NothingToRedo bs_NothingToRedo (.ref C_GenusError :: [.type "ValueError", .type "Exception", .type "BaseException", .type "object"]) true sn_NothingToRedo sub_NothingToRedo ab_NothingToRedo col_NothingToRedo dd_NothingToRedo m0_NothingToRedo m1_NothingToRedo m2_NothingToRedo m3_NothingToRedo m5_NothingToRedo "ValueError.__new__"))
    (cs_NothingToRedo : PySem.W.findIn K (.ref C_NothingToRedo) "__setattr__" = some (some (.builtin "object.__setattr__")))
    (cg_NothingToRedo : PySem.W.findIn K (.ref C_NothingToRedo) "__getattribute__" = some (some (.builtin "BaseException.__getattribute__")))
    (ch_NothingToRedo : PySem.W.findIn K (.ref C_NothingToRedo) "__getattr__" = some none)
    (cc_NothingToRedo : PySem.W.findIn K (.ref C_NothingToRedo) "__class__" = some (some (.builtin "object.__class__")))
    (ck_NothingToRedo : PySem.W.keepIn K (.ref C_NothingToRedo) = true)
    (cx_NothingToRedo : PySem.W.excIn K C_NothingToRedo [.type "ValueError", .type "Exception", .type "BaseException", .type "object"] "ValueError.__new__" = true)
    (nod : [C_GenusError, C_BadNumber, C_BadRow, C_BadTable, C_BadForm, C_BadBook, C_BadName, C_BadText, C_NoPlace, C_NoName, C_TakenName, C_Unlike, C_NotThere, C_TooMany, C_NotKept, C_NothingToUndo, C_NothingToRedo].Nodup)
    : ∃ a : Ad, Tx K mg a ∧ a.f_law = fa ∧ (∀ (s : Shared) (v : Value), BindsTo s a.d_law ⟨[v], []⟩ [("script", v)]) ∧ (∀ p ∈ tbs a, K.lookup p.2 = none) ∧ ∀ p ∈ tbs a, ∃ x ∈ (["law"] : List Str), PySem.W.tabIn K x = some p := by
  have e := hfa.symm.trans (PySem.W.mg_of X G a27)
  cases e
  have F0 := fun_mk (st := s_is_integer) l0 c0 k0
  have F1 := fun_mk (st := s_is_ratio) l1 c1 k1
  have F2 := fun_mk (st := s_pair) l2 c2 k2
  have F3 := fun_mk (st := s_is_small_prime) l3 c3 k3
  have F4 := fun_mk (st := s_need_prime) l4 c4 k4
  have F5 := fun_mk (st := s_times_in) l5 c5 k5
  have F6 := fun_mk (st := s_power_of) l6 c6 k6
  have F7 := fun_mk (st := s_power_in) l7 c7 k7
  have F8 := fun_mk (st := s_is_whole_by) l8 c8 k8
  have F9 := fun_mk (st := s_back_by) l9 c9 k9
  have F10 := fun_mk (st := s_rest_by) l10 c10 k10
  have F11 := fun_mk (st := s_rest_of_ratio) l11 c11 k11
  have F12 := fun_mk (st := s__law_pen) l12 c12 k12
  have F13 := fun_mk (st := s__law_draw) l13 c13 k13
  have F14 := fun_mk (st := s__law_pick) l14 c14 k14
  have F15 := fun_mk (st := s__law_is) l15 c15 k15
  have F16 := fun_mk (st := s__law_divisor) l16 c16 k16
  have F17 := fun_mk (st := s__law_low) l17 c17 k17
  have F18 := fun_mk (st := s__law_is_whole) l18 c18 k18
  have F19 := fun_mk (st := s__law_fault) l19 c19 k19
  have F20 := fun_mk (st := s__law_kinds) l20 c20 k20
  have F21 := fun_mk (st := s__law_more_kinds) l21 c21 k21
  have F22 := fun_mk (st := s__law_power_of) l22 c22 k22
  have F23 := fun_mk (st := s__law_times_in) l23 c23 k23
  have F24 := fun_mk (st := s__law_ends) l24 c24 k24
  have F25 := fun_mk (st := s__law_bad_small_prime) l25 c25 k25
  have F26 := fun_mk (st := s__law_prime) l26 c26 k26
  have F27 := fun_mk (st := s_law) l27 c27 k27
  have Fi_BadNumber := fun_mk (st := s_BadNumber_init) il_BadNumber ic_BadNumber ik_BadNumber
  have Fi_BadRow := fun_mk (st := s_BadRow_init) il_BadRow ic_BadRow ik_BadRow
  have Fi_BadTable := fun_mk (st := s_BadTable_init) il_BadTable ic_BadTable ik_BadTable
  have Fi_BadForm := fun_mk (st := s_BadForm_init) il_BadForm ic_BadForm ik_BadForm
  have Fi_BadBook := fun_mk (st := s_BadBook_init) il_BadBook ic_BadBook ik_BadBook
  have Fi_BadName := fun_mk (st := s_BadName_init) il_BadName ic_BadName ik_BadName
  have Fi_BadText := fun_mk (st := s_BadText_init) il_BadText ic_BadText ik_BadText
  have Fi_NoPlace := fun_mk (st := s_NoPlace_init) il_NoPlace ic_NoPlace ik_NoPlace
  have Fi_NoName := fun_mk (st := s_NoName_init) il_NoName ic_NoName ik_NoName
  have Fi_TakenName := fun_mk (st := s_TakenName_init) il_TakenName ic_TakenName ik_TakenName
  have Fi_Unlike := fun_mk (st := s_Unlike_init) il_Unlike ic_Unlike ik_Unlike
  have Fi_NotThere := fun_mk (st := s_NotThere_init) il_NotThere ic_NotThere ik_NotThere
  have Fi_TooMany := fun_mk (st := s_TooMany_init) il_TooMany ic_TooMany ik_TooMany
  have Fi_NotKept := fun_mk (st := s_NotKept_init) il_NotKept ic_NotKept ik_NotKept
  have ti27 : PySem.W.tabIn K "law" = some (cc27, tb27) := by simp only [PySem.W.tabIn, a27, l27, lc27, lt27, PySem.W.fnOf]
  refine ⟨{ f_is_integer := f0, d_is_integer := PySem.W.fnOf "is_integer" "is_integer" (defArgs s_is_integer) (defBody s_is_integer) (defScope s_is_integer) .none kV0 dc0 pm0 an0 cd0 ct0, f_is_ratio := f1, d_is_ratio := PySem.W.fnOf "is_ratio" "is_ratio" (defArgs s_is_ratio) (defBody s_is_ratio) (defScope s_is_ratio) .none kV1 dc1 pm1 an1 cd1 ct1, f_pair := f2, d_pair := PySem.W.fnOf "pair" "pair" (defArgs s_pair) (defBody s_pair) (defScope s_pair) .none kV2 dc2 pm2 an2 cd2 ct2, f_is_small_prime := f3, d_is_small_prime := PySem.W.fnOf "is_small_prime" "is_small_prime" (defArgs s_is_small_prime) (defBody s_is_small_prime) (defScope s_is_small_prime) .none kV3 dc3 pm3 an3 cd3 ct3, f_need_prime := f4, d_need_prime := PySem.W.fnOf "need_prime" "need_prime" (defArgs s_need_prime) (defBody s_need_prime) (defScope s_need_prime) .none kV4 dc4 pm4 an4 cd4 ct4, f_times_in := f5, d_times_in := PySem.W.fnOf "times_in" "times_in" (defArgs s_times_in) (defBody s_times_in) (defScope s_times_in) .none kV5 dc5 pm5 an5 cd5 ct5, f_power_of := f6, d_power_of := PySem.W.fnOf "power_of" "power_of" (defArgs s_power_of) (defBody s_power_of) (defScope s_power_of) .none kV6 dc6 pm6 an6 cd6 ct6, f_power_in := f7, d_power_in := PySem.W.fnOf "power_in" "power_in" (defArgs s_power_in) (defBody s_power_in) (defScope s_power_in) .none kV7 dc7 pm7 an7 cd7 ct7, f_is_whole_by := f8, d_is_whole_by := PySem.W.fnOf "is_whole_by" "is_whole_by" (defArgs s_is_whole_by) (defBody s_is_whole_by) (defScope s_is_whole_by) .none kV8 dc8 pm8 an8 cd8 ct8, f_back_by := f9, d_back_by := PySem.W.fnOf "back_by" "back_by" (defArgs s_back_by) (defBody s_back_by) (defScope s_back_by) .none kV9 dc9 pm9 an9 cd9 ct9, f_rest_by := f10, d_rest_by := PySem.W.fnOf "rest_by" "rest_by" (defArgs s_rest_by) (defBody s_rest_by) (defScope s_rest_by) .none kV10 dc10 pm10 an10 cd10 ct10, f_rest_of_ratio := f11, d_rest_of_ratio := PySem.W.fnOf "rest_of_ratio" "rest_of_ratio" (defArgs s_rest_of_ratio) (defBody s_rest_of_ratio) (defScope s_rest_of_ratio) .none kV11 dc11 pm11 an11 cd11 ct11, f__law_pen := f12, d__law_pen := PySem.W.fnOf "_law_pen" "_law_pen" (defArgs s__law_pen) (defBody s__law_pen) (defScope s__law_pen) .none kV12 dc12 pm12 an12 cd12 ct12, f__law_draw := f13, d__law_draw := PySem.W.fnOf "_law_draw" "_law_draw" (defArgs s__law_draw) (defBody s__law_draw) (defScope s__law_draw) .none kV13 dc13 pm13 an13 cd13 ct13, f__law_pick := f14, d__law_pick := PySem.W.fnOf "_law_pick" "_law_pick" (defArgs s__law_pick) (defBody s__law_pick) (defScope s__law_pick) .none kV14 dc14 pm14 an14 cd14 ct14, f__law_is := f15, d__law_is := PySem.W.fnOf "_law_is" "_law_is" (defArgs s__law_is) (defBody s__law_is) (defScope s__law_is) .none kV15 dc15 pm15 an15 cd15 ct15, f__law_divisor := f16, d__law_divisor := PySem.W.fnOf "_law_divisor" "_law_divisor" (defArgs s__law_divisor) (defBody s__law_divisor) (defScope s__law_divisor) .none kV16 dc16 pm16 an16 cd16 ct16, f__law_low := f17, d__law_low := PySem.W.fnOf "_law_low" "_law_low" (defArgs s__law_low) (defBody s__law_low) (defScope s__law_low) .none kV17 dc17 pm17 an17 cd17 ct17, f__law_is_whole := f18, d__law_is_whole := PySem.W.fnOf "_law_is_whole" "_law_is_whole" (defArgs s__law_is_whole) (defBody s__law_is_whole) (defScope s__law_is_whole) .none kV18 dc18 pm18 an18 cd18 ct18, f__law_fault := f19, d__law_fault := PySem.W.fnOf "_law_fault" "_law_fault" (defArgs s__law_fault) (defBody s__law_fault) (defScope s__law_fault) .none kV19 dc19 pm19 an19 cd19 ct19, f__law_kinds := f20, d__law_kinds := PySem.W.fnOf "_law_kinds" "_law_kinds" (defArgs s__law_kinds) (defBody s__law_kinds) (defScope s__law_kinds) .none kV20 dc20 pm20 an20 cd20 ct20, f__law_more_kinds := f21, d__law_more_kinds := PySem.W.fnOf "_law_more_kinds" "_law_more_kinds" (defArgs s__law_more_kinds) (defBody s__law_more_kinds) (defScope s__law_more_kinds) .none kV21 dc21 pm21 an21 cd21 ct21, f__law_power_of := f22, d__law_power_of := PySem.W.fnOf "_law_power_of" "_law_power_of" (defArgs s__law_power_of) (defBody s__law_power_of) (defScope s__law_power_of) .none kV22 dc22 pm22 an22 cd22 ct22, f__law_times_in := f23, d__law_times_in := PySem.W.fnOf "_law_times_in" "_law_times_in" (defArgs s__law_times_in) (defBody s__law_times_in) (defScope s__law_times_in) .none kV23 dc23 pm23 an23 cd23 ct23, f__law_ends := f24, d__law_ends := PySem.W.fnOf "_law_ends" "_law_ends" (defArgs s__law_ends) (defBody s__law_ends) (defScope s__law_ends) .none kV24 dc24 pm24 an24 cd24 ct24, f__law_bad_small_prime := f25, d__law_bad_small_prime := PySem.W.fnOf "_law_bad_small_prime" "_law_bad_small_prime" (defArgs s__law_bad_small_prime) (defBody s__law_bad_small_prime) (defScope s__law_bad_small_prime) .none kV25 dc25 pm25 an25 cd25 ct25, f__law_prime := f26, d__law_prime := PySem.W.fnOf "_law_prime" "_law_prime" (defArgs s__law_prime) (defBody s__law_prime) (defScope s__law_prime) .none kV26 dc26 pm26 an26 cd26 ct26, f_law := fa, d_law := PySem.W.fnOf "law" "law" (defArgs s_law) (defBody s_law) (defScope s_law) .none kV27 dc27 pm27 an27 (.ref cc27) ct27, cc_law := cc27, tb_law := tb27, c_GenusError := C_GenusError, c_BadNumber := C_BadNumber, i_BadNumber := I_BadNumber, di_BadNumber := PySem.W.fnOf "__init__" "BadNumber.__init__" (defArgs s_BadNumber_init) (defBody s_BadNumber_init) (defScope s_BadNumber_init) .none ikV_BadNumber idc_BadNumber ipm_BadNumber ian_BadNumber icd_BadNumber ict_BadNumber, c_BadRow := C_BadRow, i_BadRow := I_BadRow, di_BadRow := PySem.W.fnOf "__init__" "BadRow.__init__" (defArgs s_BadRow_init) (defBody s_BadRow_init) (defScope s_BadRow_init) .none ikV_BadRow idc_BadRow ipm_BadRow ian_BadRow icd_BadRow ict_BadRow, c_BadTable := C_BadTable, i_BadTable := I_BadTable, di_BadTable := PySem.W.fnOf "__init__" "BadTable.__init__" (defArgs s_BadTable_init) (defBody s_BadTable_init) (defScope s_BadTable_init) .none ikV_BadTable idc_BadTable ipm_BadTable ian_BadTable icd_BadTable ict_BadTable, c_BadForm := C_BadForm, i_BadForm := I_BadForm, di_BadForm := PySem.W.fnOf "__init__" "BadForm.__init__" (defArgs s_BadForm_init) (defBody s_BadForm_init) (defScope s_BadForm_init) .none ikV_BadForm idc_BadForm ipm_BadForm ian_BadForm icd_BadForm ict_BadForm, c_BadBook := C_BadBook, i_BadBook := I_BadBook, di_BadBook := PySem.W.fnOf "__init__" "BadBook.__init__" (defArgs s_BadBook_init) (defBody s_BadBook_init) (defScope s_BadBook_init) .none ikV_BadBook idc_BadBook ipm_BadBook ian_BadBook icd_BadBook ict_BadBook, c_BadName := C_BadName, i_BadName := I_BadName, di_BadName := PySem.W.fnOf "__init__" "BadName.__init__" (defArgs s_BadName_init) (defBody s_BadName_init) (defScope s_BadName_init) .none ikV_BadName idc_BadName ipm_BadName ian_BadName icd_BadName ict_BadName, c_BadText := C_BadText, i_BadText := I_BadText, di_BadText := PySem.W.fnOf "__init__" "BadText.__init__" (defArgs s_BadText_init) (defBody s_BadText_init) (defScope s_BadText_init) .none ikV_BadText idc_BadText ipm_BadText ian_BadText icd_BadText ict_BadText, c_NoPlace := C_NoPlace, i_NoPlace := I_NoPlace, di_NoPlace := PySem.W.fnOf "__init__" "NoPlace.__init__" (defArgs s_NoPlace_init) (defBody s_NoPlace_init) (defScope s_NoPlace_init) .none ikV_NoPlace idc_NoPlace ipm_NoPlace ian_NoPlace icd_NoPlace ict_NoPlace, c_NoName := C_NoName, i_NoName := I_NoName, di_NoName := PySem.W.fnOf "__init__" "NoName.__init__" (defArgs s_NoName_init) (defBody s_NoName_init) (defScope s_NoName_init) .none ikV_NoName idc_NoName ipm_NoName ian_NoName icd_NoName ict_NoName, c_TakenName := C_TakenName, i_TakenName := I_TakenName, di_TakenName := PySem.W.fnOf "__init__" "TakenName.__init__" (defArgs s_TakenName_init) (defBody s_TakenName_init) (defScope s_TakenName_init) .none ikV_TakenName idc_TakenName ipm_TakenName ian_TakenName icd_TakenName ict_TakenName, c_Unlike := C_Unlike, i_Unlike := I_Unlike, di_Unlike := PySem.W.fnOf "__init__" "Unlike.__init__" (defArgs s_Unlike_init) (defBody s_Unlike_init) (defScope s_Unlike_init) .none ikV_Unlike idc_Unlike ipm_Unlike ian_Unlike icd_Unlike ict_Unlike, c_NotThere := C_NotThere, i_NotThere := I_NotThere, di_NotThere := PySem.W.fnOf "__init__" "NotThere.__init__" (defArgs s_NotThere_init) (defBody s_NotThere_init) (defScope s_NotThere_init) .none ikV_NotThere idc_NotThere ipm_NotThere ian_NotThere icd_NotThere ict_NotThere, c_TooMany := C_TooMany, i_TooMany := I_TooMany, di_TooMany := PySem.W.fnOf "__init__" "TooMany.__init__" (defArgs s_TooMany_init) (defBody s_TooMany_init) (defScope s_TooMany_init) .none ikV_TooMany idc_TooMany ipm_TooMany ian_TooMany icd_TooMany ict_TooMany, c_NotKept := C_NotKept, i_NotKept := I_NotKept, di_NotKept := PySem.W.fnOf "__init__" "NotKept.__init__" (defArgs s_NotKept_init) (defBody s_NotKept_init) (defScope s_NotKept_init) .none ikV_NotKept idc_NotKept ipm_NotKept ian_NotKept icd_NotKept ict_NotKept, c_NothingToUndo := C_NothingToUndo, c_NothingToRedo := C_NothingToRedo }, ?_, rfl, fun s v => .of_eq rfl, ?_, ?_⟩
  rotate_left
  · exact fun p hp => by
      simp only [tbs, List.mem_cons, List.not_mem_nil, or_false] at hp
      rcases hp with rfl
      · exact nt27
  · exact fun p hp => by
      simp only [tbs, List.mem_cons, List.not_mem_nil, or_false] at hp
      rcases hp with rfl
      · exact ⟨"law", by simp, ti27⟩
  exact { F_is_integer := F0, g_is_integer := PySem.W.mg_of X G a0, b_is_integer := F0.binds (fun _ _ _ _ _ _ us hl => match us, hl with | [_], _ => rfl), F_is_ratio := F1, g_is_ratio := PySem.W.mg_of X G a1, b_is_ratio := F1.binds (fun _ _ _ _ _ _ us hl => match us, hl with | [_], _ => rfl), F_pair := F2, g_pair := PySem.W.mg_of X G a2, b_pair := F2.binds (fun _ _ _ _ _ _ us hl => match us, hl with | [_], _ => rfl), F_is_small_prime := F3, g_is_small_prime := PySem.W.mg_of X G a3, b_is_small_prime := F3.binds (fun _ _ _ _ _ _ us hl => match us, hl with | [_], _ => rfl), F_need_prime := F4, g_need_prime := PySem.W.mg_of X G a4, b_need_prime := F4.binds (fun _ _ _ _ _ _ us hl => match us, hl with | [_], _ => rfl), F_times_in := F5, g_times_in := PySem.W.mg_of X G a5, b_times_in := F5.binds (fun _ _ _ _ _ _ us hl => match us, hl with | [_, _], _ => rfl), F_power_of := F6, g_power_of := PySem.W.mg_of X G a6, b_power_of := F6.binds (fun _ _ _ _ _ _ us hl => match us, hl with | [_, _], _ => rfl), F_power_in := F7, g_power_in := PySem.W.mg_of X G a7, b_power_in := F7.binds (fun _ _ _ _ _ _ us hl => match us, hl with | [_, _], _ => rfl), F_is_whole_by := F8, g_is_whole_by := PySem.W.mg_of X G a8, b_is_whole_by := F8.binds (fun _ _ _ _ _ _ us hl => match us, hl with | [_, _], _ => rfl), F_back_by := F9, g_back_by := PySem.W.mg_of X G a9, b_back_by := F9.binds (fun _ _ _ _ _ _ us hl => match us, hl with | [_, _], _ => rfl), F_rest_by := F10, g_rest_by := PySem.W.mg_of X G a10, b_rest_by := F10.binds (fun _ _ _ _ _ _ us hl => match us, hl with | [_, _], _ => rfl), F_rest_of_ratio := F11, g_rest_of_ratio := PySem.W.mg_of X G a11, b_rest_of_ratio := F11.binds (fun _ _ _ _ _ _ us hl => match us, hl with | [_, _, _], _ => rfl), F__law_pen := F12, g__law_pen := PySem.W.mg_of X G a12, b__law_pen := F12.binds (fun _ _ _ _ _ _ us hl => match us, hl with | [_], _ => rfl), F__law_draw := F13, g__law_draw := PySem.W.mg_of X G a13, b__law_draw := F13.binds (fun _ _ _ _ _ _ us hl => match us, hl with | [_, _], _ => rfl), F__law_pick := F14, g__law_pick := PySem.W.mg_of X G a14, b__law_pick := F14.binds (fun _ _ _ _ _ _ us hl => match us, hl with | [_, _], _ => rfl), F__law_is := F15, g__law_is := PySem.W.mg_of X G a15, b__law_is := F15.binds (fun _ _ _ _ _ _ us hl => match us, hl with | [_, _], _ => rfl), F__law_divisor := F16, g__law_divisor := PySem.W.mg_of X G a16, b__law_divisor := F16.binds (fun _ _ _ _ _ _ us hl => match us, hl with | [_, _], _ => rfl), F__law_low := F17, g__law_low := PySem.W.mg_of X G a17, b__law_low := F17.binds (fun _ _ _ _ _ _ us hl => match us, hl with | [_, _], _ => rfl), F__law_is_whole := F18, g__law_is_whole := PySem.W.mg_of X G a18, b__law_is_whole := F18.binds (fun _ _ _ _ _ _ us hl => match us, hl with | [_], _ => rfl), F__law_fault := F19, g__law_fault := PySem.W.mg_of X G a19, b__law_fault := F19.binds (fun _ _ _ _ _ _ us hl => match us, hl with | [_], _ => rfl), F__law_kinds := F20, g__law_kinds := PySem.W.mg_of X G a20, b__law_kinds := F20.binds (fun _ _ _ _ _ _ us hl => match us, hl with | [_], _ => rfl), F__law_more_kinds := F21, g__law_more_kinds := PySem.W.mg_of X G a21, b__law_more_kinds := F21.binds (fun _ _ _ _ _ _ us hl => match us, hl with | [_], _ => rfl), F__law_power_of := F22, g__law_power_of := PySem.W.mg_of X G a22, b__law_power_of := F22.binds (fun _ _ _ _ _ _ us hl => match us, hl with | [_, _], _ => rfl), F__law_times_in := F23, g__law_times_in := PySem.W.mg_of X G a23, b__law_times_in := F23.binds (fun _ _ _ _ _ _ us hl => match us, hl with | [_, _], _ => rfl), F__law_ends := F24, g__law_ends := PySem.W.mg_of X G a24, b__law_ends := F24.binds (fun _ _ _ _ _ _ us hl => match us, hl with | [_], _ => rfl), F__law_bad_small_prime := F25, g__law_bad_small_prime := PySem.W.mg_of X G a25, b__law_bad_small_prime := F25.binds (fun _ _ _ _ _ _ us hl => match us, hl with | [_], _ => rfl), F__law_prime := F26, g__law_prime := PySem.W.mg_of X G a26, b__law_prime := F26.binds (fun _ _ _ _ _ _ us hl => match us, hl with | [_], _ => rfl), F_law := F27, g_law := PySem.W.mg_of X G a27, b_law := F27.binds (fun _ _ _ _ _ _ us hl => match us, hl with | [_], _ => rfl), n_ValueError := PySem.W.mg_none_of X G z_ValueError, n_abs := PySem.W.mg_none_of X G z_abs, n_bool := PySem.W.mg_none_of X G z_bool, n_int := PySem.W.mg_none_of X G z_int, n_isinstance := PySem.W.mg_none_of X G z_isinstance, n_len := PySem.W.mg_none_of X G z_len, n_list := PySem.W.mg_none_of X G z_list, n_range := PySem.W.mg_none_of X G z_range, n_repr := PySem.W.mg_none_of X G z_repr, n_str := PySem.W.mg_none_of X G z_str, n_tuple := PySem.W.mg_none_of X G z_tuple, m_gcd := PySem.W.mg_of X G zm_gcd, k_MOST_PRIME := ⟨_, PySem.W.mg_of X G zk_MOST_PRIME⟩, k_MOST_POWER := ⟨_, PySem.W.mg_of X G zk_MOST_POWER⟩, cd_law := rfl, eb := { kn := ekn, kt := ekt }, e_GenusError := { cls := ⟨_, _, _, _, _, _, _, _, _, _, _, _, _, _, cl_GenusError⟩, sa := cs_GenusError, ga := cg_GenusError, gg := ch_GenusError, ka := cc_GenusError, kp := ck_GenusError }, g_GenusError := PySem.W.mg_of X G ca_GenusError, e_BadNumber := { cls := ⟨_, _, _, _, _, _, _, _, _, _, _, _, _, _, cl_BadNumber⟩, sa := cs_BadNumber, ga := cg_BadNumber, gg := ch_BadNumber, ka := cc_BadNumber, kp := ck_BadNumber }, g_BadNumber := PySem.W.mg_of X G ca_BadNumber, i_BadNumber := ia_BadNumber, ti_BadNumber := it_BadNumber, Fi_BadNumber := Fi_BadNumber, bi_BadNumber := Fi_BadNumber.binds (fun _ _ _ _ _ _ us hl => match us, hl with | [_, _, _], _ => rfl), no_BadNumber_what := in_BadNumber_what, no_BadNumber_number := in_BadNumber_number, e_BadRow := { cls := ⟨_, _, _, _, _, _, _, _, _, _, _, _, _, _, cl_BadRow⟩, sa := cs_BadRow, ga := cg_BadRow, gg := ch_BadRow, ka := cc_BadRow, kp := ck_BadRow }, g_BadRow := PySem.W.mg_of X G ca_BadRow, i_BadRow := ia_BadRow, ti_BadRow := it_BadRow, Fi_BadRow := Fi_BadRow, bi_BadRow := Fi_BadRow.binds (fun _ _ _ _ _ _ us hl => match us, hl with | [_, _, _], _ => rfl), no_BadRow_what := in_BadRow_what, no_BadRow_row := in_BadRow_row, e_BadTable := { cls := ⟨_, _, _, _, _, _, _, _, _, _, _, _, _, _, cl_BadTable⟩, sa := cs_BadTable, ga := cg_BadTable, gg := ch_BadTable, ka := cc_BadTable, kp := ck_BadTable }, g_BadTable := PySem.W.mg_of X G ca_BadTable, i_BadTable := ia_BadTable, ti_BadTable := it_BadTable, Fi_BadTable := Fi_BadTable, bi_BadTable := Fi_BadTable.binds (fun _ _ _ _ _ _ us hl => match us, hl with | [_, _], _ => rfl), no_BadTable_what := in_BadTable_what, e_BadForm := { cls := ⟨_, _, _, _, _, _, _, _, _, _, _, _, _, _, cl_BadForm⟩, sa := cs_BadForm, ga := cg_BadForm, gg := ch_BadForm, ka := cc_BadForm, kp := ck_BadForm }, g_BadForm := PySem.W.mg_of X G ca_BadForm, i_BadForm := ia_BadForm, ti_BadForm := it_BadForm, Fi_BadForm := Fi_BadForm, bi_BadForm := Fi_BadForm.binds (fun _ _ _ _ _ _ us hl => match us, hl with | [_, _], _ => rfl), no_BadForm_what := in_BadForm_what, e_BadBook := { cls := ⟨_, _, _, _, _, _, _, _, _, _, _, _, _, _, cl_BadBook⟩, sa := cs_BadBook, ga := cg_BadBook, gg := ch_BadBook, ka := cc_BadBook, kp := ck_BadBook }, g_BadBook := PySem.W.mg_of X G ca_BadBook, i_BadBook := ia_BadBook, ti_BadBook := it_BadBook, Fi_BadBook := Fi_BadBook, bi_BadBook := Fi_BadBook.binds (fun _ _ _ _ _ _ us hl => match us, hl with | [_, _], _ => rfl), no_BadBook_what := in_BadBook_what, e_BadName := { cls := ⟨_, _, _, _, _, _, _, _, _, _, _, _, _, _, cl_BadName⟩, sa := cs_BadName, ga := cg_BadName, gg := ch_BadName, ka := cc_BadName, kp := ck_BadName }, g_BadName := PySem.W.mg_of X G ca_BadName, i_BadName := ia_BadName, ti_BadName := it_BadName, Fi_BadName := Fi_BadName, bi_BadName := Fi_BadName.binds (fun _ _ _ _ _ _ us hl => match us, hl with | [_, _], _ => rfl), no_BadName_name := in_BadName_name, e_BadText := { cls := ⟨_, _, _, _, _, _, _, _, _, _, _, _, _, _, cl_BadText⟩, sa := cs_BadText, ga := cg_BadText, gg := ch_BadText, ka := cc_BadText, kp := ck_BadText }, g_BadText := PySem.W.mg_of X G ca_BadText, i_BadText := ia_BadText, ti_BadText := it_BadText, Fi_BadText := Fi_BadText, bi_BadText := Fi_BadText.binds (fun _ _ _ _ _ _ us hl => match us, hl with | [_, _, _], _ => rfl), no_BadText_line := in_BadText_line, no_BadText_word := in_BadText_word, e_NoPlace := { cls := ⟨_, _, _, _, _, _, _, _, _, _, _, _, _, _, cl_NoPlace⟩, sa := cs_NoPlace, ga := cg_NoPlace, gg := ch_NoPlace, ka := cc_NoPlace, kp := ck_NoPlace }, g_NoPlace := PySem.W.mg_of X G ca_NoPlace, i_NoPlace := ia_NoPlace, ti_NoPlace := it_NoPlace, Fi_NoPlace := Fi_NoPlace, bi_NoPlace := Fi_NoPlace.binds (fun _ _ _ _ _ _ us hl => match us, hl with | [_, _, _], _ => rfl), no_NoPlace_what := in_NoPlace_what, no_NoPlace_index := in_NoPlace_index, e_NoName := { cls := ⟨_, _, _, _, _, _, _, _, _, _, _, _, _, _, cl_NoName⟩, sa := cs_NoName, ga := cg_NoName, gg := ch_NoName, ka := cc_NoName, kp := ck_NoName }, g_NoName := PySem.W.mg_of X G ca_NoName, i_NoName := ia_NoName, ti_NoName := it_NoName, Fi_NoName := Fi_NoName, bi_NoName := Fi_NoName.binds (fun _ _ _ _ _ _ us hl => match us, hl with | [_, _], _ => rfl), no_NoName_name := in_NoName_name, e_TakenName := { cls := ⟨_, _, _, _, _, _, _, _, _, _, _, _, _, _, cl_TakenName⟩, sa := cs_TakenName, ga := cg_TakenName, gg := ch_TakenName, ka := cc_TakenName, kp := ck_TakenName }, g_TakenName := PySem.W.mg_of X G ca_TakenName, i_TakenName := ia_TakenName, ti_TakenName := it_TakenName, Fi_TakenName := Fi_TakenName, bi_TakenName := Fi_TakenName.binds (fun _ _ _ _ _ _ us hl => match us, hl with | [_, _], _ => rfl), no_TakenName_name := in_TakenName_name, e_Unlike := { cls := ⟨_, _, _, _, _, _, _, _, _, _, _, _, _, _, cl_Unlike⟩, sa := cs_Unlike, ga := cg_Unlike, gg := ch_Unlike, ka := cc_Unlike, kp := ck_Unlike }, g_Unlike := PySem.W.mg_of X G ca_Unlike, i_Unlike := ia_Unlike, ti_Unlike := it_Unlike, Fi_Unlike := Fi_Unlike, bi_Unlike := Fi_Unlike.binds (fun _ _ _ _ _ _ us hl => match us, hl with | [_, _], _ => rfl), no_Unlike_what := in_Unlike_what, e_NotThere := { cls := ⟨_, _, _, _, _, _, _, _, _, _, _, _, _, _, cl_NotThere⟩, sa := cs_NotThere, ga := cg_NotThere, gg := ch_NotThere, ka := cc_NotThere, kp := ck_NotThere }, g_NotThere := PySem.W.mg_of X G ca_NotThere, i_NotThere := ia_NotThere, ti_NotThere := it_NotThere, Fi_NotThere := Fi_NotThere, bi_NotThere := Fi_NotThere.binds (fun _ _ _ _ _ _ us hl => match us, hl with | [_, _], _ => rfl), no_NotThere_paper := in_NotThere_paper, e_TooMany := { cls := ⟨_, _, _, _, _, _, _, _, _, _, _, _, _, _, cl_TooMany⟩, sa := cs_TooMany, ga := cg_TooMany, gg := ch_TooMany, ka := cc_TooMany, kp := ck_TooMany }, g_TooMany := PySem.W.mg_of X G ca_TooMany, i_TooMany := ia_TooMany, ti_TooMany := it_TooMany, Fi_TooMany := Fi_TooMany, bi_TooMany := Fi_TooMany.binds (fun _ _ _ _ _ _ us hl => match us, hl with | [_, _, _, _], _ => rfl), no_TooMany_what := in_TooMany_what, no_TooMany_many := in_TooMany_many, no_TooMany_limit := in_TooMany_limit, e_NotKept := { cls := ⟨_, _, _, _, _, _, _, _, _, _, _, _, _, _, cl_NotKept⟩, sa := cs_NotKept, ga := cg_NotKept, gg := ch_NotKept, ka := cc_NotKept, kp := ck_NotKept }, g_NotKept := PySem.W.mg_of X G ca_NotKept, i_NotKept := ia_NotKept, ti_NotKept := it_NotKept, Fi_NotKept := Fi_NotKept, bi_NotKept := Fi_NotKept.binds (fun _ _ _ _ _ _ us hl => match us, hl with | [_, _, _], _ => rfl), no_NotKept_promise := in_NotKept_promise, no_NotKept_witness := in_NotKept_witness, e_NothingToUndo := { cls := ⟨_, _, _, _, _, _, _, _, _, _, _, _, _, _, cl_NothingToUndo⟩, sa := cs_NothingToUndo, ga := cg_NothingToUndo, gg := ch_NothingToUndo, ka := cc_NothingToUndo, kp := ck_NothingToUndo }, g_NothingToUndo := PySem.W.mg_of X G ca_NothingToUndo, x_NothingToUndo := cx_NothingToUndo, e_NothingToRedo := { cls := ⟨_, _, _, _, _, _, _, _, _, _, _, _, _, _, cl_NothingToRedo⟩, sa := cs_NothingToRedo, ga := cg_NothingToRedo, gg := ch_NothingToRedo, ka := cc_NothingToRedo, kp := ck_NothingToRedo }, g_NothingToRedo := PySem.W.mg_of X G ca_NothingToRedo, x_NothingToRedo := cx_NothingToRedo, ne := nod }
end Law

set_option Elab.async false
set_option linter.all false
open PySem PySem.W PyProof.Rows
set_option maxRecDepth 100000 in
set_option maxHeartbeats 0 in
theorem PySem.Challenge.cw_genuspapers_k21_whole_rests_of_ratios_holds : PySem.Challenge.rw_genuspapers_k21_whole_rests_of_ratios.Holds := by
  w_on; o_law; k_head; (case hw => w_witness2)
  k_fill
  refine G.walkGT (l := PySem.Challenge.rw_genuspapers_k21_whole_rests_of_ratios) (k := 12) (["law"] : List Str) rfl rfl (by decide +kernel) (by decide +kernel) ⟨by decide, by decide, rfl, fun _ => rfl⟩ (fun w h y => PySem.W.km_in_of y) ?F
  case F =>
    intro w mg fa h KX G hmg
    refine Exists.elim (?a : ∃ a : Law.Ad, Law.Tx _ mg a ∧ a.f_law = fa ∧ (∀ (s : Shared) (v : Value), BindsTo s a.d_law ⟨[v], []⟩ [("script", v)]) ∧ (∀ p ∈ Law.tbs a, List.lookup p.2 _ = none) ∧ ∀ p ∈ Law.tbs a, ∃ x ∈ ((["law"] : List Str) : List Str), PySem.W.tabIn _ x = some p) fun a q => ⟨a.d_law, Law.tbs a, q.2.2.2.1, q.2.2.2.2, q.2.2.1, fun base M hS TB => q.2.1 ▸ Law.ok_law q.1 (Law.sy_mk hS TB)⟩
    case a =>
    refine' Law.all_mk KX G hmg ?a0 ?l0 ?c0 ?k0 ?a1 ?l1 ?c1 ?k1 ?a2 ?l2 ?c2 ?k2 ?a3 ?l3 ?c3 ?k3 ?a4 ?l4 ?c4 ?k4 ?a5 ?l5 ?c5 ?k5 ?a6 ?l6 ?c6 ?k6 ?a7 ?l7 ?c7 ?k7 ?a8 ?l8 ?c8 ?k8 ?a9 ?l9 ?c9 ?k9 ?a10 ?l10 ?c10 ?k10 ?a11 ?l11 ?c11 ?k11 ?a12 ?l12 ?c12 ?k12 ?a13 ?l13 ?c13 ?k13 ?a14 ?l14 ?c14 ?k14 ?a15 ?l15 ?c15 ?k15 ?a16 ?l16 ?c16 ?k16 ?a17 ?l17 ?c17 ?k17 ?a18 ?l18 ?c18 ?k18 ?a19 ?l19 ?c19 ?k19 ?a20 ?l20 ?c20 ?k20 ?a21 ?l21 ?c21 ?k21 ?a22 ?l22 ?c22 ?k22 ?a23 ?l23 ?c23 ?k23 ?a24 ?l24 ?c24 ?k24 ?a25 ?l25 ?c25 ?k25 ?a26 ?l26 ?c26 ?k26 ?a27 ?l27 ?c27 ?lc27 ?lt27 ?nt27 ?k27 ?z_ValueError ?z_abs ?z_bool ?z_int ?z_isinstance ?z_len ?z_list ?z_range ?z_repr ?z_str ?z_tuple ?zm_gcd ?zk_MOST_PRIME ?zk_MOST_POWER ?ekn ?ekt ?ca_GenusError ?cl_GenusError ?cs_GenusError ?cg_GenusError ?ch_GenusError ?cc_GenusError ?ck_GenusError ?ca_BadNumber ?cl_BadNumber ?cs_BadNumber ?cg_BadNumber ?ch_BadNumber ?cc_BadNumber ?ck_BadNumber ?ia_BadNumber ?it_BadNumber ?il_BadNumber ?ic_BadNumber ?ik_BadNumber ?in_BadNumber_what ?in_BadNumber_number ?ca_BadRow ?cl_BadRow ?cs_BadRow ?cg_BadRow ?ch_BadRow ?cc_BadRow ?ck_BadRow ?ia_BadRow ?it_BadRow ?il_BadRow ?ic_BadRow ?ik_BadRow ?in_BadRow_what ?in_BadRow_row ?ca_BadTable ?cl_BadTable ?cs_BadTable ?cg_BadTable ?ch_BadTable ?cc_BadTable ?ck_BadTable ?ia_BadTable ?it_BadTable ?il_BadTable ?ic_BadTable ?ik_BadTable ?in_BadTable_what ?ca_BadForm ?cl_BadForm ?cs_BadForm ?cg_BadForm ?ch_BadForm ?cc_BadForm ?ck_BadForm ?ia_BadForm ?it_BadForm ?il_BadForm ?ic_BadForm ?ik_BadForm ?in_BadForm_what ?ca_BadBook ?cl_BadBook ?cs_BadBook ?cg_BadBook ?ch_BadBook ?cc_BadBook ?ck_BadBook ?ia_BadBook ?it_BadBook ?il_BadBook ?ic_BadBook ?ik_BadBook ?in_BadBook_what ?ca_BadName ?cl_BadName ?cs_BadName ?cg_BadName ?ch_BadName ?cc_BadName ?ck_BadName ?ia_BadName ?it_BadName ?il_BadName ?ic_BadName ?ik_BadName ?in_BadName_name ?ca_BadText ?cl_BadText ?cs_BadText ?cg_BadText ?ch_BadText ?cc_BadText ?ck_BadText ?ia_BadText ?it_BadText ?il_BadText ?ic_BadText ?ik_BadText ?in_BadText_line ?in_BadText_word ?ca_NoPlace ?cl_NoPlace ?cs_NoPlace ?cg_NoPlace ?ch_NoPlace ?cc_NoPlace ?ck_NoPlace ?ia_NoPlace ?it_NoPlace ?il_NoPlace ?ic_NoPlace ?ik_NoPlace ?in_NoPlace_what ?in_NoPlace_index ?ca_NoName ?cl_NoName ?cs_NoName ?cg_NoName ?ch_NoName ?cc_NoName ?ck_NoName ?ia_NoName ?it_NoName ?il_NoName ?ic_NoName ?ik_NoName ?in_NoName_name ?ca_TakenName ?cl_TakenName ?cs_TakenName ?cg_TakenName ?ch_TakenName ?cc_TakenName ?ck_TakenName ?ia_TakenName ?it_TakenName ?il_TakenName ?ic_TakenName ?ik_TakenName ?in_TakenName_name ?ca_Unlike ?cl_Unlike ?cs_Unlike ?cg_Unlike ?ch_Unlike ?cc_Unlike ?ck_Unlike ?ia_Unlike ?it_Unlike ?il_Unlike ?ic_Unlike ?ik_Unlike ?in_Unlike_what ?ca_NotThere ?cl_NotThere ?cs_NotThere ?cg_NotThere ?ch_NotThere ?cc_NotThere ?ck_NotThere ?ia_NotThere ?it_NotThere ?il_NotThere ?ic_NotThere ?ik_NotThere ?in_NotThere_paper ?ca_TooMany ?cl_TooMany ?cs_TooMany ?cg_TooMany ?ch_TooMany ?cc_TooMany ?ck_TooMany ?ia_TooMany ?it_TooMany ?il_TooMany ?ic_TooMany ?ik_TooMany ?in_TooMany_what ?in_TooMany_many ?in_TooMany_limit ?ca_NotKept ?cl_NotKept ?cs_NotKept ?cg_NotKept ?ch_NotKept ?cc_NotKept ?ck_NotKept ?ia_NotKept ?it_NotKept ?il_NotKept ?ic_NotKept ?ik_NotKept ?in_NotKept_promise ?in_NotKept_witness ?ca_NothingToUndo ?cl_NothingToUndo ?cs_NothingToUndo ?cg_NothingToUndo ?ch_NothingToUndo ?cc_NothingToUndo ?ck_NothingToUndo ?cx_NothingToUndo ?ca_NothingToRedo ?cl_NothingToRedo ?cs_NothingToRedo ?cg_NothingToRedo ?ch_NothingToRedo ?cc_NothingToRedo ?ck_NothingToRedo ?cx_NothingToRedo ?nod
    (case a0 => k_is)
    (case l0 => k_is)
    (case c0 => k_is)
    (case k0 => k_is)
    (case a1 => k_is)
    (case l1 => k_is)
    (case c1 => k_is)
    (case k1 => k_is)
    (case a2 => k_is)
    (case l2 => k_is)
    (case c2 => k_is)
    (case k2 => k_is)
    (case a3 => k_is)
    (case l3 => k_is)
    (case c3 => k_is)
    (case k3 => k_is)
    (case a4 => k_is)
    (case l4 => k_is)
    (case c4 => k_is)
    (case k4 => k_is)
    (case a5 => k_is)
    (case l5 => k_is)
    (case c5 => k_is)
    (case k5 => k_is)
    (case a6 => k_is)
    (case l6 => k_is)
    (case c6 => k_is)
    (case k6 => k_is)
    (case a7 => k_is)
    (case l7 => k_is)
    (case c7 => k_is)
    (case k7 => k_is)
    (case a8 => k_is)
    (case l8 => k_is)
    (case c8 => k_is)
    (case k8 => k_is)
    (case a9 => k_is)
    (case l9 => k_is)
    (case c9 => k_is)
    (case k9 => k_is)
    (case a10 => k_is)
    (case l10 => k_is)
    (case c10 => k_is)
    (case k10 => k_is)
    (case a11 => k_is)
    (case l11 => k_is)
    (case c11 => k_is)
    (case k11 => k_is)
    (case a12 => k_is)
    (case l12 => k_is)
    (case c12 => k_is)
    (case k12 => k_is)
    (case a13 => k_is)
    (case l13 => k_is)
    (case c13 => k_is)
    (case k13 => k_is)
    (case a14 => k_is)
    (case l14 => k_is)
    (case c14 => k_is)
    (case k14 => k_is)
    (case a15 => k_is)
    (case l15 => k_is)
    (case c15 => k_is)
    (case k15 => k_is)
    (case a16 => k_is)
    (case l16 => k_is)
    (case c16 => k_is)
    (case k16 => k_is)
    (case a17 => k_is)
    (case l17 => k_is)
    (case c17 => k_is)
    (case k17 => k_is)
    (case a18 => k_is)
    (case l18 => k_is)
    (case c18 => k_is)
    (case k18 => k_is)
    (case a19 => k_is)
    (case l19 => k_is)
    (case c19 => k_is)
    (case k19 => k_is)
    (case a20 => k_is)
    (case l20 => k_is)
    (case c20 => k_is)
    (case k20 => k_is)
    (case a21 => k_is)
    (case l21 => k_is)
    (case c21 => k_is)
    (case k21 => k_is)
    (case a22 => k_is)
    (case l22 => k_is)
    (case c22 => k_is)
    (case k22 => k_is)
    (case a23 => k_is)
    (case l23 => k_is)
    (case c23 => k_is)
    (case k23 => k_is)
    (case a24 => k_is)
    (case l24 => k_is)
    (case c24 => k_is)
    (case k24 => k_is)
    (case a25 => k_is)
    (case l25 => k_is)
    (case c25 => k_is)
    (case k25 => k_is)
    (case a26 => k_is)
    (case l26 => k_is)
    (case c26 => k_is)
    (case k26 => k_is)
    (case a27 => k_is)
    (case l27 => k_is)
    (case c27 => k_is)
    (case lc27 => k_is)
    (case lt27 => rfl)
    (case nt27 => kernel_rfl)
    (case k27 => k_is)
    (case z_ValueError => k_is)
    (case z_abs => k_is)
    (case z_bool => k_is)
    (case z_int => k_is)
    (case z_isinstance => k_is)
    (case z_len => k_is)
    (case z_list => k_is)
    (case z_range => k_is)
    (case z_repr => k_is)
    (case z_str => k_is)
    (case z_tuple => k_is)
    (case zm_gcd => k_is)
    (case zk_MOST_PRIME => k_is)
    (case zk_MOST_POWER => k_is)
    (case ekn => k_is)
    (case ekt => k_is)
    (case ca_GenusError => k_is)
    (case cl_GenusError => k_is)
    (case cs_GenusError => k_is)
    (case cg_GenusError => k_is)
    (case ch_GenusError => k_is)
    (case cc_GenusError => k_is)
    (case ck_GenusError => k_is)
    (case ca_BadNumber => k_is)
    (case cl_BadNumber => k_is)
    (case cs_BadNumber => k_is)
    (case cg_BadNumber => k_is)
    (case ch_BadNumber => k_is)
    (case cc_BadNumber => k_is)
    (case ck_BadNumber => k_is)
    (case ia_BadNumber => k_is)
    (case it_BadNumber => k_is)
    (case il_BadNumber => k_is)
    (case ic_BadNumber => k_is)
    (case ik_BadNumber => k_is)
    (case in_BadNumber_what => k_is)
    (case in_BadNumber_number => k_is)
    (case ca_BadRow => k_is)
    (case cl_BadRow => k_is)
    (case cs_BadRow => k_is)
    (case cg_BadRow => k_is)
    (case ch_BadRow => k_is)
    (case cc_BadRow => k_is)
    (case ck_BadRow => k_is)
    (case ia_BadRow => k_is)
    (case it_BadRow => k_is)
    (case il_BadRow => k_is)
    (case ic_BadRow => k_is)
    (case ik_BadRow => k_is)
    (case in_BadRow_what => k_is)
    (case in_BadRow_row => k_is)
    (case ca_BadTable => k_is)
    (case cl_BadTable => k_is)
    (case cs_BadTable => k_is)
    (case cg_BadTable => k_is)
    (case ch_BadTable => k_is)
    (case cc_BadTable => k_is)
    (case ck_BadTable => k_is)
    (case ia_BadTable => k_is)
    (case it_BadTable => k_is)
    (case il_BadTable => k_is)
    (case ic_BadTable => k_is)
    (case ik_BadTable => k_is)
    (case in_BadTable_what => k_is)
    (case ca_BadForm => k_is)
    (case cl_BadForm => k_is)
    (case cs_BadForm => k_is)
    (case cg_BadForm => k_is)
    (case ch_BadForm => k_is)
    (case cc_BadForm => k_is)
    (case ck_BadForm => k_is)
    (case ia_BadForm => k_is)
    (case it_BadForm => k_is)
    (case il_BadForm => k_is)
    (case ic_BadForm => k_is)
    (case ik_BadForm => k_is)
    (case in_BadForm_what => k_is)
    (case ca_BadBook => k_is)
    (case cl_BadBook => k_is)
    (case cs_BadBook => k_is)
    (case cg_BadBook => k_is)
    (case ch_BadBook => k_is)
    (case cc_BadBook => k_is)
    (case ck_BadBook => k_is)
    (case ia_BadBook => k_is)
    (case it_BadBook => k_is)
    (case il_BadBook => k_is)
    (case ic_BadBook => k_is)
    (case ik_BadBook => k_is)
    (case in_BadBook_what => k_is)
    (case ca_BadName => k_is)
    (case cl_BadName => k_is)
    (case cs_BadName => k_is)
    (case cg_BadName => k_is)
    (case ch_BadName => k_is)
    (case cc_BadName => k_is)
    (case ck_BadName => k_is)
    (case ia_BadName => k_is)
    (case it_BadName => k_is)
    (case il_BadName => k_is)
    (case ic_BadName => k_is)
    (case ik_BadName => k_is)
    (case in_BadName_name => k_is)
    (case ca_BadText => k_is)
    (case cl_BadText => k_is)
    (case cs_BadText => k_is)
    (case cg_BadText => k_is)
    (case ch_BadText => k_is)
    (case cc_BadText => k_is)
    (case ck_BadText => k_is)
    (case ia_BadText => k_is)
    (case it_BadText => k_is)
    (case il_BadText => k_is)
    (case ic_BadText => k_is)
    (case ik_BadText => k_is)
    (case in_BadText_line => k_is)
    (case in_BadText_word => k_is)
    (case ca_NoPlace => k_is)
    (case cl_NoPlace => k_is)
    (case cs_NoPlace => k_is)
    (case cg_NoPlace => k_is)
    (case ch_NoPlace => k_is)
    (case cc_NoPlace => k_is)
    (case ck_NoPlace => k_is)
    (case ia_NoPlace => k_is)
    (case it_NoPlace => k_is)
    (case il_NoPlace => k_is)
    (case ic_NoPlace => k_is)
    (case ik_NoPlace => k_is)
    (case in_NoPlace_what => k_is)
    (case in_NoPlace_index => k_is)
    (case ca_NoName => k_is)
    (case cl_NoName => k_is)
    (case cs_NoName => k_is)
    (case cg_NoName => k_is)
    (case ch_NoName => k_is)
    (case cc_NoName => k_is)
    (case ck_NoName => k_is)
    (case ia_NoName => k_is)
    (case it_NoName => k_is)
    (case il_NoName => k_is)
    (case ic_NoName => k_is)
    (case ik_NoName => k_is)
    (case in_NoName_name => k_is)
    (case ca_TakenName => k_is)
    (case cl_TakenName => k_is)
    (case cs_TakenName => k_is)
    (case cg_TakenName => k_is)
    (case ch_TakenName => k_is)
    (case cc_TakenName => k_is)
    (case ck_TakenName => k_is)
    (case ia_TakenName => k_is)
    (case it_TakenName => k_is)
    (case il_TakenName => k_is)
    (case ic_TakenName => k_is)
    (case ik_TakenName => k_is)
    (case in_TakenName_name => k_is)
    (case ca_Unlike => k_is)
    (case cl_Unlike => k_is)
    (case cs_Unlike => k_is)
    (case cg_Unlike => k_is)
    (case ch_Unlike => k_is)
    (case cc_Unlike => k_is)
    (case ck_Unlike => k_is)
    (case ia_Unlike => k_is)
    (case it_Unlike => k_is)
    (case il_Unlike => k_is)
    (case ic_Unlike => k_is)
    (case ik_Unlike => k_is)
    (case in_Unlike_what => k_is)
    (case ca_NotThere => k_is)
    (case cl_NotThere => k_is)
    (case cs_NotThere => k_is)
    (case cg_NotThere => k_is)
    (case ch_NotThere => k_is)
    (case cc_NotThere => k_is)
    (case ck_NotThere => k_is)
    (case ia_NotThere => k_is)
    (case it_NotThere => k_is)
    (case il_NotThere => k_is)
    (case ic_NotThere => k_is)
    (case ik_NotThere => k_is)
    (case in_NotThere_paper => k_is)
    (case ca_TooMany => k_is)
    (case cl_TooMany => k_is)
    (case cs_TooMany => k_is)
    (case cg_TooMany => k_is)
    (case ch_TooMany => k_is)
    (case cc_TooMany => k_is)
    (case ck_TooMany => k_is)
    (case ia_TooMany => k_is)
    (case it_TooMany => k_is)
    (case il_TooMany => k_is)
    (case ic_TooMany => k_is)
    (case ik_TooMany => k_is)
    (case in_TooMany_what => k_is)
    (case in_TooMany_many => k_is)
    (case in_TooMany_limit => k_is)
    (case ca_NotKept => k_is)
    (case cl_NotKept => k_is)
    (case cs_NotKept => k_is)
    (case cg_NotKept => k_is)
    (case ch_NotKept => k_is)
    (case cc_NotKept => k_is)
    (case ck_NotKept => k_is)
    (case ia_NotKept => k_is)
    (case it_NotKept => k_is)
    (case il_NotKept => k_is)
    (case ic_NotKept => k_is)
    (case ik_NotKept => k_is)
    (case in_NotKept_promise => k_is)
    (case in_NotKept_witness => k_is)
    (case ca_NothingToUndo => k_is)
    (case cl_NothingToUndo => k_is)
    (case cs_NothingToUndo => k_is)
    (case cg_NothingToUndo => k_is)
    (case ch_NothingToUndo => k_is)
    (case cc_NothingToUndo => k_is)
    (case ck_NothingToUndo => k_is)
    (case cx_NothingToUndo => k_exc)
    (case ca_NothingToRedo => k_is)
    (case cl_NothingToRedo => k_is)
    (case cs_NothingToRedo => k_is)
    (case cg_NothingToRedo => k_is)
    (case ch_NothingToRedo => k_is)
    (case cc_NothingToRedo => k_is)
    (case ck_NothingToRedo => k_is)
    (case cx_NothingToRedo => k_exc)
    (case nod => decide)

